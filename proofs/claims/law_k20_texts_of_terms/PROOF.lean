import PyProof.Rows.All
import Wide.All
import OpenK.AllK
import Wide.FinOn
import HandS.ForMost
import HandS.ForExc
import HandS.Steps
import HandS.Style
import HandS.IsInst
import HandS.Codes
import HandS.Flow
import HandS.CallSlots
import HandS.Ends
import HandS.TupAny
import HandS.TupMul
import HandS.Wide
import HandS.RaiseMore
import HandS.Deep
import HandS.ExcInit
import HandS.ExcOwn
import HandS.WordsExc
import KE.GoesRaise
import KE.KAsSuite
import HandS.TryOnly
import KE.IntTextLaws
import PyProof.StrLawsRepr
import HandS.Text
import PyProof.StrLawsIn
import PySem.Challenge.RW_runsproven_k20_texts_of_terms
section SMiA
set_option Elab.async false
set_option linter.all false
set_option maxRecDepth 100000
set_option maxHeartbeats 4000000
/-! MiA: data without addresses, a store of lists and instances; what stands for it in the layer's heap; results; judgements. -/
namespace MI
open PySem L2

inductive D where
  | non | bl (b : Bool) | int (i : Int) | str (x : Str) | tup (xs : List D) | fls (xs : List D) | loc (n : Nat)
  /-- a built-in class, an own one -/
  | ty (n : String) | cl (c : Nat)
inductive MO where
  | lst (xs : List D) | ins (c : Nat) (fs : List (Str × D))
abbrev Sto := List MO
/-- a slot: not known, data, the exception that is handled -/
inductive Sl where
  | no | d (x : D) | ex
abbrev En := List Sl
/-- an exception: its class, its own fields -/
structure Exc where
  c : Nat
  ks : List Str
  ds : List D
inductive R (α : Type) where
  | ok (a : α) (st : Sto) | err (e : Exc) (st : Sto) | bad
def R.bind {α β : Type} : R α → (α → Sto → R β) → R β
  | .ok a st, k => k a st
  | .err e st, _ => .err e st
  | .bad, _ => .bad
/-- the written part, the classes' places -/
structure Gk where
  K : PySem.W.Frag
  ct : List Addr

def FzL (K : PySem.W.Frag) (H : Hp) (a : Addr) (xs : List V) : Prop :=
  (∃ o, H a = some (.frz o (.lst xs))) ∨
    ∃ (o : Obj) (its : Array Value) (n : Nat), K.lookup a = some o ∧ o.cls = .type "list" ∧ o.dict = none ∧ o.data = .seq its n ∧ its.size ≤ sizeLine ∧ Vals xs its.toList
theorem FzL.sq {K : PySem.W.Frag} {H : Hp} {a : Addr} {xs : List V} (h : FzL K H a xs) : SqL K H a xs := by
  rcases h with ⟨o, h⟩ | h
  · exact .inl (.inr ⟨o, h⟩)
  · exact .inr h

mutual
def Rep (g : Gk) (μ : List Addr) (H : Hp) : D → V → Prop
  | .non, v => v = .non
  | .bl b, v => v = .bl b
  | .int i, v => v = .int i
  | .str x, v => v = .str x
  | .tup ds, v => ∃ a vs, v = .ref a ∧ SqT g.K H a vs ∧ RepL g μ H ds vs
  | .fls ds, v => ∃ a vs, v = .ref a ∧ FzL g.K H a vs ∧ RepL g μ H ds vs
  | .loc n, v => ∃ a, v = .ref a ∧ μ[n]? = some a
  | .ty n, v => v = .ty n
  | .cl c, v => ∃ a, v = .ref a ∧ g.ct[c]? = some a
def RepL (g : Gk) (μ : List Addr) (H : Hp) : List D → List V → Prop
  | [], vs => vs = []
  | d :: ds, vs => ∃ v r, vs = v :: r ∧ Rep g μ H d v ∧ RepL g μ H ds r
end
def RepF (g : Gk) (μ : List Addr) (H : Hp) : List (Str × D) → List (Str × V) → Prop
  | [], vs => vs = []
  | (f, d) :: ds, vs => ∃ v r, vs = (f, v) :: r ∧ Rep g μ H d v ∧ RepF g μ H ds r

structure Keep (H H' : Hp) : Prop where
  tup : ∀ a xs, H a = some (.tup xs) → H' a = some (.tup xs)
  frz : ∀ a o u, H a = some (.frz o u) → H' a = some (.frz o u)
  xd : ∀ a fs, H a = some (.xd fs) → H' a = some (.xd fs)
theorem Keep.refl {H : Hp} : Keep H H := ⟨fun _ _ h => h, fun _ _ _ h => h, fun _ _ h => h⟩
theorem Keep.trans {H H1 H2 : Hp} (a : Keep H H1) (b : Keep H1 H2) : Keep H H2 :=
  ⟨fun x o h => b.tup x o (a.tup x o h), fun x o u h => b.frz x o u (a.frz x o u h), fun x o h => b.xd x o (a.xd x o h)⟩
theorem Keep.new {H : Hp} {p : Addr} {o : HO} (h : H p = none) : Keep H (upd H p o) :=
  ⟨fun a xs e => by rw [upd_ne (ne_of_none e h)]; exact e, fun a xs u e => by rw [upd_ne (ne_of_none e h)]; exact e, fun a xs e => by rw [upd_ne (ne_of_none e h)]; exact e⟩
def IsMut : Option HO → Prop
  | some (.lst _) => True
  | some (.ins _ _ _) => True
  | _ => False
theorem Keep.mut {H : Hp} {p : Addr} {o : HO} (h : IsMut (H p)) : Keep H (upd H p o) := by
  have ne : ∀ a u, H a = some u → ¬ IsMut (some u) → a ≠ p := fun a u e n z => by subst z; rw [e] at h; exact n h
  exact ⟨fun a xs e => by rw [upd_ne (ne a _ e (fun z => z))]; exact e, fun a xs u e => by rw [upd_ne (ne a _ e (fun z => z))]; exact e, fun a xs e => by rw [upd_ne (ne a _ e (fun z => z))]; exact e⟩

structure Ext (μ : List Addr) (H : Hp) (μ' : List Addr) (H' : Hp) : Prop where
  pre : ∃ t, μ' = μ ++ t
  keep : Keep H H'
theorem Ext.refl {μ : List Addr} {H : Hp} : Ext μ H μ H := ⟨⟨[], by simp⟩, .refl⟩
theorem Ext.trans {μ μ1 μ2 : List Addr} {H H1 H2 : Hp} (a : Ext μ H μ1 H1) (b : Ext μ1 H1 μ2 H2) : Ext μ H μ2 H2 := by
  obtain ⟨t, e⟩ := a.pre
  obtain ⟨u, e2⟩ := b.pre
  exact ⟨⟨t ++ u, by rw [e2, e, List.append_assoc]⟩, a.keep.trans b.keep⟩
theorem Ext.new {μ : List Addr} {H : Hp} {p : Addr} {o : HO} (h : H p = none) : Ext μ H μ (upd H p o) := ⟨⟨[], by simp⟩, .new h⟩
theorem Ext.loc {μ : List Addr} {H : Hp} {p : Addr} {o : HO} (h : H p = none) : Ext μ H (μ ++ [p]) (upd H p o) := ⟨⟨[p], rfl⟩, .new h⟩
theorem Ext.mut {μ : List Addr} {H : Hp} {p : Addr} {o : HO} (h : IsMut (H p)) : Ext μ H μ (upd H p o) := ⟨⟨[], by simp⟩, .mut h⟩
theorem Ext.get {μ μ' : List Addr} {H H' : Hp} (x : Ext μ H μ' H') {n : Nat} {a : Addr} (h : μ[n]? = some a) : μ'[n]? = some a := by
  obtain ⟨t, e⟩ := x.pre
  rw [e, List.getElem?_append_left (List.getElem?_eq_some_iff.mp h).1]
  exact h

section
variable {g : Gk} {μ μ' : List Addr} {H H' : Hp}
theorem sqt_keep {K : PySem.W.Frag} {a : Addr} {xs : List V} (k : Keep H H') (h : SqT K H a xs) : SqT K H' a xs := by
  rcases h with (h | ⟨o, h⟩) | h
  · exact .inl (.inl (k.tup a xs h))
  · exact .inl (.inr ⟨o, k.frz a o _ h⟩)
  · exact .inr h
theorem fzl_keep {K : PySem.W.Frag} {a : Addr} {xs : List V} (k : Keep H H') (h : FzL K H a xs) : FzL K H' a xs := by
  rcases h with ⟨o, h⟩ | h
  · exact .inl ⟨o, k.frz a o _ h⟩
  · exact .inr h
mutual
theorem Rep.mono (x : Ext μ H μ' H') : ∀ (d : D) (v : V), Rep g μ H d v → Rep g μ' H' d v
  | .non, _, h => h
  | .bl _, _, h => h
  | .int _, _, h => h
  | .str _, _, h => h
  | .tup ds, v, ⟨a, vs, e, s, r⟩ => ⟨a, vs, e, sqt_keep x.keep s, RepL.mono x ds vs r⟩
  | .fls ds, v, ⟨a, vs, e, s, r⟩ => ⟨a, vs, e, fzl_keep x.keep s, RepL.mono x ds vs r⟩
  | .loc n, v, ⟨a, e, m⟩ => ⟨a, e, x.get m⟩
  | .ty _, _, h => h
  | .cl _, _, h => h
theorem RepL.mono (x : Ext μ H μ' H') : ∀ (ds : List D) (vs : List V), RepL g μ H ds vs → RepL g μ' H' ds vs
  | [], _, h => h
  | d :: ds, _, ⟨v, r, e, h1, h2⟩ => ⟨v, r, e, Rep.mono x d v h1, RepL.mono x ds r h2⟩
end
theorem RepF.mono (x : Ext μ H μ' H') : ∀ (ds : List (Str × D)) (vs : List (Str × V)), RepF g μ H ds vs → RepF g μ' H' ds vs
  | [], _, h => h
  | (f, d) :: ds, _, ⟨v, r, e, h1, h2⟩ => ⟨v, r, e, Rep.mono x d v h1, RepF.mono x ds r h2⟩

theorem RepL.length : ∀ {ds : List D} {vs : List V}, RepL g μ H ds vs → vs.length = ds.length
  | [], _, h => by rw [show _ = [] from h]; rfl
  | d :: ds, _, ⟨v, r, e, _, h2⟩ => by rw [e]; simp [RepL.length h2]
theorem RepL.get : ∀ {ds : List D} {vs : List V} {i : Nat} {d : D}, RepL g μ H ds vs → ds[i]? = some d → ∃ v, vs[i]? = some v ∧ Rep g μ H d v
  | [], _, i, d, _, e => by simp at e
  | d0 :: ds, _, 0, d, ⟨v, r, rfl, h1, _⟩, e => by
    have e' : d0 = d := by simpa using e
    subst e'
    exact ⟨v, rfl, h1⟩
  | d0 :: ds, _, i + 1, d, ⟨v, r, rfl, _, h2⟩, e => by
    obtain ⟨v', h, q⟩ := RepL.get (i := i) (d := d) h2 (by simpa using e)
    exact ⟨v', by simpa using h, q⟩
theorem RepL.getV : ∀ {ds : List D} {vs : List V} {i : Nat} {v : V}, RepL g μ H ds vs → vs[i]? = some v → ∃ d, ds[i]? = some d ∧ Rep g μ H d v
  | [], vs, i, v, h, e => by rw [show vs = [] from h] at e; simp at e
  | d0 :: ds, _, 0, w, ⟨v, r, rfl, h1, _⟩, e => by
    have e' : v = w := by simpa using e
    subst e'
    exact ⟨d0, rfl, h1⟩
  | d0 :: ds, _, i + 1, w, ⟨v, r, rfl, _, h2⟩, e => by
    obtain ⟨d, h, q⟩ := RepL.getV (i := i) (v := w) h2 (by simpa using e)
    exact ⟨d, by simpa using h, q⟩
theorem RepL.append : ∀ {ds es : List D} {vs ws : List V}, RepL g μ H ds vs → RepL g μ H es ws → RepL g μ H (ds ++ es) (vs ++ ws)
  | [], es, vs, ws, h, k => by rw [show vs = [] from h]; exact k
  | d :: ds, es, _, ws, ⟨v, r, rfl, h1, h2⟩, k => ⟨v, r ++ ws, rfl, h1, RepL.append h2 k⟩
theorem RepL.one {d : D} {v : V} (h : Rep g μ H d v) : RepL g μ H [d] [v] := ⟨v, [], rfl, h, rfl⟩
theorem RepL.nil : RepL g μ H [] [] := rfl
theorem RepL.cons {d : D} {v : V} {ds : List D} {vs : List V} (h : Rep g μ H d v) (k : RepL g μ H ds vs) : RepL g μ H (d :: ds) (v :: vs) := ⟨v, vs, rfl, h, k⟩
theorem RepL.drop : ∀ {ds : List D} {vs : List V} (n : Nat), RepL g μ H ds vs → RepL g μ H (ds.drop n) (vs.drop n)
  | _, _, 0, h => h
  | [], vs, n + 1, h => by rw [show vs = [] from h]; exact RepL.nil
  | d :: ds, _, n + 1, ⟨v, r, rfl, _, h2⟩ => RepL.drop n h2
theorem RepL.take : ∀ {ds : List D} {vs : List V} (n : Nat), RepL g μ H ds vs → RepL g μ H (ds.take n) (vs.take n)
  | _, _, 0, h => RepL.nil
  | [], vs, n + 1, h => by rw [show vs = [] from h]; exact RepL.nil
  | d :: ds, _, n + 1, ⟨v, r, rfl, h1, h2⟩ => ⟨v, r.take n, rfl, h1, RepL.take n h2⟩
theorem RepL.reverse : ∀ {ds : List D} {vs : List V}, RepL g μ H ds vs → RepL g μ H ds.reverse vs.reverse
  | [], vs, h => by rw [show vs = [] from h]; exact RepL.nil
  | d :: ds, _, ⟨v, r, rfl, h1, h2⟩ => by
    rw [List.reverse_cons, List.reverse_cons]
    exact (RepL.reverse h2).append (.one h1)
theorem RepL.set : ∀ {ds : List D} {vs : List V} {d : D} {v : V} (n : Nat), RepL g μ H ds vs → Rep g μ H d v → RepL g μ H (ds.set n d) (vs.set n v)
  | [], vs, _, _, _, h, _ => by rw [show vs = [] from h]; exact RepL.nil
  | d0 :: ds, _, _, _, 0, ⟨v, r, rfl, h1, h2⟩, k => ⟨_, _, rfl, k, h2⟩
  | d0 :: ds, _, _, _, n + 1, ⟨v, r, rfl, h1, h2⟩, k => ⟨_, _, rfl, h1, RepL.set n h2 k⟩
theorem RepL.eraseIdx : ∀ {ds : List D} {vs : List V} (n : Nat), RepL g μ H ds vs → RepL g μ H (ds.eraseIdx n) (vs.eraseIdx n)
  | [], vs, n, h => by rw [show vs = [] from h]; exact RepL.nil
  | d :: ds, _, 0, ⟨v, r, rfl, h1, h2⟩ => h2
  | d :: ds, _, n + 1, ⟨v, r, rfl, h1, h2⟩ => ⟨v, _, rfl, h1, RepL.eraseIdx n h2⟩
theorem RepL.ints : ∀ {ns : List Int} {vs : List V}, RepL g μ H (ns.map D.int) vs → vs = ns.map V.int
  | [], vs, h => h
  | n :: ns, _, ⟨v, r, rfl, h1, h2⟩ => by rw [show v = V.int n from h1, RepL.ints h2]; rfl
theorem RepL.of_ints : ∀ (ns : List Int), RepL g μ H (ns.map D.int) (ns.map V.int)
  | [] => rfl
  | n :: ns => ⟨_, _, rfl, rfl, RepL.of_ints ns⟩
theorem RepL.strs : ∀ {ns : List Str} {vs : List V}, RepL g μ H (ns.map D.str) vs → vs = ns.map V.str
  | [], vs, h => h
  | n :: ns, _, ⟨v, r, rfl, h1, h2⟩ => by rw [show v = V.str n from h1, RepL.strs h2]; rfl
theorem RepL.of_strs : ∀ (ns : List Str), RepL g μ H (ns.map D.str) (ns.map V.str)
  | [] => rfl
  | n :: ns => ⟨_, _, rfl, rfl, RepL.of_strs ns⟩
theorem RepL.bls : ∀ {ns : List Bool} {vs : List V}, RepL g μ H (ns.map D.bl) vs → vs = ns.map V.bl
  | [], vs, h => h
  | n :: ns, _, ⟨v, r, rfl, h1, h2⟩ => by rw [show v = V.bl n from h1, RepL.bls h2]; rfl
theorem RepL.dropLast {ds : List D} {vs : List V} (h : RepL g μ H ds vs) : RepL g μ H ds.dropLast vs.dropLast := by
  rw [List.dropLast_eq_take, List.dropLast_eq_take, h.length]
  exact h.take _

def ORep (g : Gk) (μ : List Addr) (H : Hp) (a : Addr) : MO → Prop
  | .lst ds => ∃ vs, H a = some (.lst vs) ∧ RepL g μ H ds vs
  | .ins c fs => ∃ C dx vs, g.ct[c]? = some C ∧ H a = some (.ins C dx vs) ∧ RepF g μ H fs vs
structure HS (g : Gk) (μ : List Addr) (H : Hp) (st : Sto) : Prop where
  len : μ.length = st.length
  nd : μ.Nodup
  ob : ∀ (n : Nat) (o : MO), st[n]? = some o → ∃ a, μ[n]? = some a ∧ ORep g μ H a o
theorem ORep.mut {a : Addr} {o : MO} (h : ORep g μ H a o) : IsMut (H a) := by
  cases o with
  | lst ds => obtain ⟨vs, e, _⟩ := h; rw [e]; trivial
  | ins c fs => obtain ⟨C, dx, vs, _, e, _⟩ := h; rw [e]; trivial
/-- an object's own place and the immutable ones stay -/
theorem ORep.mono {a : Addr} {o : MO} (x : Ext μ H μ' H') (e : H' a = H a) (h : ORep g μ H a o) : ORep g μ' H' a o := by
  cases o with
  | lst ds => obtain ⟨vs, q, r⟩ := h; exact ⟨vs, e.trans q, RepL.mono x _ _ r⟩
  | ins c fs => obtain ⟨C, dx, vs, k, q, r⟩ := h; exact ⟨C, dx, vs, k, e.trans q, RepF.mono x _ _ r⟩
theorem HS.at {st : Sto} (h : HS g μ H st) {a : Addr} {n : Nat} (e : μ[n]? = some a) : ∃ o, st[n]? = some o ∧ ORep g μ H a o := by
  have hn : n < st.length := by rw [← h.len]; exact (List.getElem?_eq_some_iff.mp e).1
  obtain ⟨b, e2, r⟩ := h.ob n st[n] (by simp [hn])
  rw [e] at e2
  cases e2
  exact ⟨st[n], by simp [hn], r⟩
theorem HS.notin {st : Sto} (h : HS g μ H st) {p : Addr} (hp : H p = none) : p ∉ μ := fun hm => by
  obtain ⟨n, hn, e⟩ := List.getElem_of_mem hm
  obtain ⟨o, _, r⟩ := h.at (n := n) (a := p) (by rw [← e]; simp [hn])
  have := r.mut
  rw [hp] at this
  exact this
theorem HS.keep {st : Sto} (h : HS g μ H st) (k : Keep H H') (hm : ∀ a, a ∈ μ → H' a = H a) : HS g μ H' st :=
  ⟨h.len, h.nd, fun n o e => by
    obtain ⟨a, e1, r⟩ := h.ob n o e
    exact ⟨a, e1, r.mono ⟨⟨[], by simp⟩, k⟩ (hm a (List.mem_of_getElem? e1))⟩⟩
theorem HS.new {st : Sto} (h : HS g μ H st) {p : Addr} {o : HO} (hp : H p = none) : HS g μ (upd H p o) st :=
  h.keep (.new hp) fun a ha => upd_ne fun e => h.notin hp (e ▸ ha)
/-- a new tracked object -/
theorem HS.push {st : Sto} {m : MO} (h : HS g μ H st) {p : Addr} {o : HO} (hp : H p = none) (hr : ORep g (μ ++ [p]) (upd H p o) p m) : HS g (μ ++ [p]) (upd H p o) (st ++ [m]) := by
  have np := h.notin hp
  refine ⟨by simp [h.len], ?_, fun n u e => ?_⟩
  · rw [List.nodup_append]
    refine ⟨h.nd, by simp, fun a ha b hb => ?_⟩
    have : b = p := by simpa using hb
    subst this
    exact fun e => np (e ▸ ha)
  · by_cases hn : n < st.length
    · rw [List.getElem?_append_left hn] at e
      obtain ⟨a, e1, r⟩ := h.ob n u e
      refine ⟨a, (Ext.loc (o := o) hp).get e1, r.mono (Ext.loc hp) (upd_ne fun z => np (z ▸ List.mem_of_getElem? e1))⟩
    · have hl : n < (st ++ [m]).length := (List.getElem?_eq_some_iff.mp e).1
      have hn2 : n = st.length := by simp at hl; omega
      subst hn2
      rw [List.getElem?_append_right (Nat.le_refl _)] at e
      simp at e
      subst e
      exact ⟨p, by rw [← h.len]; simp, hr⟩
/-- a tracked object is written -/
theorem HS.set {st : Sto} {m : MO} (h : HS g μ H st) {p : Addr} {o : HO} {n : Nat} (e : μ[n]? = some p) (hr : ORep g μ (upd H p o) p m) : HS g μ (upd H p o) (st.set n m) := by
  obtain ⟨_, _, r0⟩ := h.at e
  have k : Keep H (upd H p o) := .mut r0.mut
  refine ⟨by simp [h.len], h.nd, fun j u ej => ?_⟩
  by_cases hj : j = n
  · subst hj
    have hl : j < st.length := by rw [← h.len]; exact (List.getElem?_eq_some_iff.mp e).1
    rw [List.getElem?_set_self hl] at ej
    cases ej
    exact ⟨p, e, hr⟩
  · rw [List.getElem?_set_ne (Ne.symm hj)] at ej
    obtain ⟨a, e1, r⟩ := h.ob j u ej
    refine ⟨a, e1, r.mono ⟨⟨[], by simp⟩, k⟩ (upd_ne fun z => hj ?_)⟩
    have h1 := List.getElem?_eq_some_iff.mp e1
    have h2 := List.getElem?_eq_some_iff.mp e
    obtain ⟨l1, q1⟩ := h1
    obtain ⟨l2, q2⟩ := h2
    exact (List.getElem_inj h.nd).mp (q1.trans (z.trans q2.symm))

mutual
/-- all places below n -/
def D.lt (n : Nat) : D → Bool
  | .tup ds => D.ltL n ds
  | .fls ds => D.ltL n ds
  | .loc k => decide (k < n)
  | _ => true
def D.ltL (n : Nat) : List D → Bool
  | [] => true
  | d :: ds => D.lt n d && D.ltL n ds
end
def D.ltF (n : Nat) : List (Str × D) → Bool
  | [] => true
  | (_, d) :: ds => D.lt n d && D.ltF n ds
def MO.lt (n : Nat) : MO → Bool
  | .lst ds => D.ltL n ds
  | .ins _ fs => D.ltF n fs
mutual
theorem Rep.back {t : List Addr} : ∀ (d : D) (v : V), Rep g (μ ++ t) H d v → D.lt μ.length d = true → Rep g μ H d v
  | .non, _, h, _ => h
  | .bl _, _, h, _ => h
  | .int _, _, h, _ => h
  | .str _, _, h, _ => h
  | .tup ds, v, ⟨a, vs, e, s, r⟩, l => ⟨a, vs, e, s, RepL.back ds vs r l⟩
  | .fls ds, v, ⟨a, vs, e, s, r⟩, l => ⟨a, vs, e, s, RepL.back ds vs r l⟩
  | .loc n, v, ⟨a, e, m⟩, l => ⟨a, e, by rw [List.getElem?_append_left (of_decide_eq_true l)] at m; exact m⟩
  | .ty _, _, h, _ => h
  | .cl _, _, h, _ => h
theorem RepL.back {t : List Addr} : ∀ (ds : List D) (vs : List V), RepL g (μ ++ t) H ds vs → D.ltL μ.length ds = true → RepL g μ H ds vs
  | [], _, h, _ => h
  | d :: ds, _, ⟨v, r, e, h1, h2⟩, l => by
    have l' : (D.lt μ.length d && D.ltL μ.length ds) = true := l
    rw [Bool.and_eq_true] at l'
    exact ⟨v, r, e, Rep.back d v h1 l'.1, RepL.back ds r h2 l'.2⟩
end
theorem RepF.back {t : List Addr} : ∀ (ds : List (Str × D)) (vs : List (Str × V)), RepF g (μ ++ t) H ds vs → D.ltF μ.length ds = true → RepF g μ H ds vs
  | [], _, h, _ => h
  | (f, d) :: ds, _, ⟨v, r, e, h1, h2⟩, l => by
    have l' : (D.lt μ.length d && D.ltF μ.length ds) = true := l
    rw [Bool.and_eq_true] at l'
    exact ⟨v, r, e, Rep.back d v h1 l'.1, RepF.back ds r h2 l'.2⟩
mutual
theorem Rep.lt : ∀ (d : D) (v : V), Rep g μ H d v → D.lt μ.length d = true
  | .non, _, _ => rfl
  | .bl _, _, _ => rfl
  | .int _, _, _ => rfl
  | .str _, _, _ => rfl
  | .tup ds, v, ⟨a, vs, e, s, r⟩ => RepL.lt ds vs r
  | .fls ds, v, ⟨a, vs, e, s, r⟩ => RepL.lt ds vs r
  | .loc n, v, ⟨a, e, m⟩ => decide_eq_true (List.getElem?_eq_some_iff.mp m).1
  | .ty _, _, _ => rfl
  | .cl _, _, _ => rfl
theorem RepL.lt : ∀ (ds : List D) (vs : List V), RepL g μ H ds vs → D.ltL μ.length ds = true
  | [], _, _ => rfl
  | d :: ds, _, ⟨v, r, e, h1, h2⟩ => by
    show (D.lt μ.length d && D.ltL μ.length ds) = true
    rw [Rep.lt d v h1, RepL.lt ds r h2]
    rfl
end
theorem RepF.lt : ∀ (ds : List (Str × D)) (vs : List (Str × V)), RepF g μ H ds vs → D.ltF μ.length ds = true
  | [], _, _ => rfl
  | (f, d) :: ds, _, ⟨v, r, e, h1, h2⟩ => by
    show (D.lt μ.length d && D.ltF μ.length ds) = true
    rw [Rep.lt d v h1, RepF.lt ds r h2]
    rfl
theorem ORep.lt {a : Addr} {o : MO} (h : ORep g μ H a o) : MO.lt μ.length o = true := by
  cases o with
  | lst ds => obtain ⟨vs, _, r⟩ := h; exact RepL.lt _ _ r
  | ins c fs => obtain ⟨C, dx, vs, _, _, r⟩ := h; exact RepF.lt _ _ r
theorem ORep.back {t : List Addr} {a : Addr} {o : MO} (h : ORep g (μ ++ t) H a o) (l : MO.lt μ.length o = true) : ORep g μ H a o := by
  cases o with
  | lst ds => obtain ⟨vs, e, r⟩ := h; exact ⟨vs, e, RepL.back _ _ r l⟩
  | ins c fs => obtain ⟨C, dx, vs, k, e, r⟩ := h; exact ⟨C, dx, vs, k, e, RepF.back _ _ r l⟩
/-- the last objects are let go -/
theorem HS.cut {t : List Addr} {st st' : Sto} (h : HS g (μ ++ t) H st') (hl : μ.length = st.length) (hs : ∀ (n : Nat) (o : MO), st[n]? = some o → st'[n]? = some o ∧ MO.lt μ.length o = true) : HS g μ H st := by
  refine ⟨hl, (List.nodup_append.mp h.nd).1, fun n o e => ?_⟩
  obtain ⟨e', l⟩ := hs n o e
  obtain ⟨a, e1, r⟩ := h.ob n o e'
  have hn : n < μ.length := by rw [hl]; exact (List.getElem?_eq_some_iff.mp e).1
  rw [List.getElem?_append_left hn] at e1
  exact ⟨a, e1, r.back l⟩

end
/-- .. and what stands beside through a stretch of the text -/
structure Gc where
  k : Gk
  inv : List Addr → Hp → Prop
  mono : ∀ μ H μ' H', Ext μ H μ' H' → inv μ H → inv μ' H'
  exn : Option Addr
section
variable {k : Gk} {g : Gc} {μ μ' : List Addr} {H H' : Hp}
structure SRep (g : Gc) (μ : List Addr) (H : Hp) (σ : St) (en : En) (st : Sto) : Prop where
  len : σ.length = en.length
  env : ∀ (i : Nat) (d : D), en[i]? = some (.d d) → ∃ v, σ[i]? = some (some v) ∧ Rep g.k μ H d v
  exs : ∀ (i : Nat), en[i]? = some .ex → ∃ a, g.exn = some a ∧ σ[i]? = some (some (.ref a))
  sto : HS g.k μ H st
  inv : g.inv μ H
theorem SRep.mono {σ : St} {en : En} {st st' : Sto} (s : SRep g μ H σ en st) (x : Ext μ H μ' H') (h : HS g.k μ' H' st') : SRep g μ' H' σ en st' :=
  ⟨s.len, fun i d e => let ⟨v, a, b⟩ := s.env i d e; ⟨v, a, Rep.mono x d v b⟩, s.exs, h, g.mono _ _ _ _ x s.inv⟩
theorem SRep.set {σ : St} {en : En} {st : Sto} {d : D} {v : V} (s : SRep g μ H σ en st) (i : Nat) (r : Rep g.k μ H d v) : SRep g μ H (σ.set i (some v)) (en.set i (.d d)) st := by
  refine ⟨by simp [s.len], fun j u e => ?_, fun j e => ?_, s.sto, s.inv⟩
  · by_cases h : j = i
    · subst h
      have hl : j < en.length := by
        have := (List.getElem?_eq_some_iff.mp e).1
        simpa using this
      rw [List.getElem?_set_self hl] at e
      cases e
      exact ⟨v, List.getElem?_set_self (by rw [s.len]; exact hl), r⟩
    · rw [List.getElem?_set_ne (Ne.symm h)] at e ⊢
      exact s.env j u e
  · by_cases h : j = i
    · subst h
      rw [List.getElem?_set] at e
      split at e
      · split at e <;> cases e
      · exact absurd rfl (by assumption)
    · rw [List.getElem?_set_ne (Ne.symm h)] at e ⊢
      exact s.exs j e

/-- an exception: its class, its own dict -/
def XRep (g : Gk) (μ : List Addr) (H : Hp) (e : Exc) (cls : Value) (dd : Option Addr) : Prop :=
  ∃ C, g.ct[e.c]? = some C ∧ cls = .ref C ∧ (e.ks = [] ∨ ∃ d vs, dd = some d ∧ H d = some (.xd vs) ∧ vs.map (·.1) = e.ks ∧ RepL g μ H e.ds (vs.map (·.2)))
theorem XRep.mono {e : Exc} {cls : Value} {dd : Option Addr} (x : Ext μ H μ' H') (h : XRep k μ H e cls dd) : XRep k μ' H' e cls dd := by
  obtain ⟨C, a, b, c⟩ := h
  refine ⟨C, a, b, ?_⟩
  rcases c with c | ⟨d, vs, e1, e2, e3, e4⟩
  · exact .inl c
  · exact .inr ⟨d, vs, e1, x.keep.xd _ _ e2, e3, RepL.mono x _ _ e4⟩
end

/-- what must hold behind a result; F stands, the rest is told -/
def Po {α β : Type} (g : Gk) (rel : List Addr → Hp → α → β → Prop) (F : Sto) (μ : List Addr) (H : Hp) (r : R α) (Q : β → Hp → Prop) (W : XK) : Prop :=
  match r with
  | .ok a L => ∀ μ' H' b, Ext μ H μ' H' → rel μ' H' a b → HS g μ' H' (F ++ L) → Q b H'
  | .err e L => ∀ μ' H' cls dd, Ext μ H μ' H' → XRep g μ' H' e cls dd → HS g μ' H' (F ++ L) → W cls dd H'
  | .bad => False
section
variable {α β γ δ : Type} {g : Gk} {rel : List Addr → Hp → α → β → Prop} {rel2 : List Addr → Hp → γ → δ → Prop} {F : Sto} {μ μ' : List Addr} {H H' : Hp} {W : XK}
theorem Po.ext {r : R α} {Q : β → Hp → Prop} (x : Ext μ H μ' H') (h : Po g rel F μ H r Q W) : Po g rel F μ' H' r Q W := by
  cases r with
  | ok a st => exact fun μ2 H2 b x2 => h μ2 H2 b (x.trans x2)
  | err e st => exact fun μ2 H2 c d x2 => h μ2 H2 c d (x.trans x2)
  | bad => exact h
theorem Po.bind {r : R α} {k : α → Sto → R γ} {Q : β → Hp → Prop} {Q2 : δ → Hp → Prop} (h : Po g rel2 F μ H (r.bind k) Q2 W)
    (n : ∀ a L μ' H' b, Ext μ H μ' H' → rel μ' H' a b → HS g μ' H' (F ++ L) → Po g rel2 F μ' H' (k a L) Q2 W → Q b H') : Po g rel F μ H r Q W := by
  cases r with
  | ok a L => exact fun μ2 H2 b x2 r2 h2 => n a L μ2 H2 b x2 r2 h2 (Po.ext x2 h)
  | err e L => exact h
  | bad => exact h
theorem Po.now {a : α} {L : Sto} {Q : β → Hp → Prop} {b : β} (h : Po g rel F μ H (.ok a L) Q W) (r : rel μ H a b) (s : HS g μ H (F ++ L)) : Q b H := h μ H b .refl r s
theorem Po.new {a : α} {L : Sto} {Q : β → Hp → Prop} {b : β} (h : Po g rel F μ H (.ok a L) Q W) (x : Ext μ H μ' H') (r : rel μ' H' a b) (s : HS g μ' H' (F ++ L)) : Q b H' := h μ' H' b x r s
theorem Po.imp {r : R α} {Q Q' : β → Hp → Prop} {W' : XK} (h : Po g rel F μ H r Q W) (hq : ∀ b H', Q b H' → Q' b H') (hw : ∀ c d H', W c d H' → W' c d H') : Po g rel F μ H r Q' W' := by
  cases r with
  | ok a L => exact fun μ2 H2 b x r s => hq _ _ (h μ2 H2 b x r s)
  | err e L => exact fun μ2 H2 c d x r s => hw _ _ _ (h μ2 H2 c d x r s)
  | bad => exact h
end
abbrev rE (g : Gk) : List Addr → Hp → D → V → Prop := fun μ H d v => Rep g μ H d v
abbrev rA (g : Gk) : List Addr → Hp → List D → List V → Prop := fun μ H d v => RepL g μ H d v
abbrev rT : List Addr → Hp → Bool → Bool → Prop := fun _ _ a b => b = a

/-- F, what stands; the slots; what may change -/
abbrev MM (α : Type) := Sto → En → Sto → R α
abbrev EM := MM D
abbrev TM := MM Bool
abbrev AM := MM (List D)
/-- e is evaluated as f tells; W: what is wished of what is raised, at the slots -/
def ME (g : Gc) (X : Cx) (W : WX) (e : Expr) (f : EM) : Prop :=
  ∃ t : TE, PE X e t ∧ ∀ F μ H σ en L Q, SRep g μ H σ en (F ++ L) → Po g.k (rE g.k) F μ H (f F en L) Q (fun c d H' => W c d σ H') → t σ H Q
def MT (g : Gc) (X : Cx) (W : WX) (e : Expr) (f : TM) : Prop :=
  ∃ t : TT, PT X e t ∧ ∀ F μ H σ en L Q, SRep g μ H σ en (F ++ L) → Po g.k rT F μ H (f F en L) Q (fun c d H' => W c d σ H') → t σ H Q
def MW (g : Gc) (X : Cx) (W : WX) (e : Expr) (f : TM) : Prop :=
  ∃ t : TT, PW X e t ∧ ∀ F μ H σ en L Q, SRep g μ H σ en (F ++ L) → Po g.k rT F μ H (f F en L) Q (fun c d H' => W c d σ H') → t σ H Q
def MA (g : Gc) (X : Cx) (W : WX) (es : List Expr) (f : AM) : Prop :=
  ∃ t : TA, PA X es t ∧ ∀ F μ H σ en L Q, SRep g μ H σ en (F ++ L) → Po g.k (rA g.k) F μ H (f F en L) Q (fun c d H' => W c d σ H') → t σ H Q
end MI
end SMiA
section SMiB
set_option Elab.async false
set_option linter.all false
set_option maxRecDepth 100000
set_option maxHeartbeats 4000000
namespace MI
open PySem L2

def lenOk (n : Nat) : Bool := decide (n ≤ 16777216)
theorem lenOk_le {n : Nat} (h : lenOk n = true) : n ≤ sizeLine := by
  rw [sizeLine_eq]
  exact of_decide_eq_true h
def newO (F L : Sto) (o : MO) : R D := .ok (.loc (F.length + L.length)) (L ++ [o])
def lstAt (F L : Sto) (n : Nat) : Option (List D) := match (F ++ L)[n]? with | some (.lst xs) => some xs | _ => none
/-- the items of a list or a tuple -/
def itemsD (F L : Sto) : D → Option (List D)
  | .tup xs => some xs
  | .fls xs => some xs
  | .loc n => lstAt F L n
  | _ => none
def truD (F L : Sto) : D → Option Bool
  | .non => some false
  | .bl b => some b
  | .int i => some (i != 0)
  | .str y => if lenOk y.length then some ((y.length : Int) != 0) else none
  | d => (itemsD F L d).map fun xs => !xs.isEmpty

section
variable {g : Gc} {X : Cx} {W : WX} {F L : Sto} {μ : List Addr} {H : Hp} {Q : VK} {WW : XK}
theorem lstAt_some {n : Nat} {xs : List D} (h : lstAt F L n = some xs) : (F ++ L)[n]? = some (.lst xs) := by
  unfold lstAt at h
  split at h
  · rename_i ys e
    cases h
    exact e
  · cases h
theorem Rep.loc_lst {k0 : Gk} {n : Nat} {xs : List D} {v : V} (s : HS k0 μ H (F ++ L)) (h : Rep k0 μ H (.loc n) v) (e : lstAt F L n = some xs) : ∃ a vs, v = .ref a ∧ μ[n]? = some a ∧ H a = some (.lst vs) ∧ RepL k0 μ H xs vs := by
  obtain ⟨a, rfl, m⟩ := h
  obtain ⟨a', m', vs, e1, r⟩ := s.ob n _ (lstAt_some e)
  rw [m] at m'
  cases m'
  exact ⟨a, vs, rfl, m, e1, r⟩
theorem Rep.items {k0 : Gk} {d : D} {xs : List D} {v : V} (s : HS k0 μ H (F ++ L)) (h : Rep k0 μ H d v) (e : itemsD F L d = some xs) : ∃ a vs, v = .ref a ∧ (SqL k0.K H a vs ∨ SqT k0.K H a vs) ∧ RepL k0 μ H xs vs := by
  cases d with
  | tup ds => cases e; obtain ⟨a, vs, rfl, q, r⟩ := h; exact ⟨a, vs, rfl, .inr q, r⟩
  | fls ds => cases e; obtain ⟨a, vs, rfl, q, r⟩ := h; exact ⟨a, vs, rfl, .inl q.sq, r⟩
  | loc n => obtain ⟨a, vs, rfl, _, q, r⟩ := Rep.loc_lst s h e; exact ⟨a, vs, rfl, .inl (SqL.of q), r⟩
  | _ => cases e
theorem RepL.isEmpty {k0 : Gk} {ds : List D} {vs : List V} (h : RepL k0 μ H ds vs) : vs.isEmpty = ds.isEmpty := by
  cases ds with
  | nil => rw [show vs = [] from h] <;> rfl
  | cons d r => obtain ⟨v, q, rfl, _, _⟩ := h; rfl
theorem Rep.tru {k0 : Gk} {d : D} {v : V} {k : Bool} (s : HS k0 μ H (F ++ L)) (h : Rep k0 μ H d v) (e : truD F L d = some k) : TruV k0.K v H k := by
  have key : ∀ d : D, Rep k0 μ H d v → (itemsD F L d).map (fun xs => !xs.isEmpty) = some k → TruV k0.K v H k := fun d h e => by
    cases e2 : itemsD F L d with
    | none => rw [e2] at e; cases e
    | some xs =>
      rw [e2] at e
      obtain ⟨a, vs, rfl, q, r⟩ := Rep.items s h e2
      have : k = !vs.isEmpty := by rw [r.isEmpty]; exact (Option.some.inj e).symm
      rcases q with q | q
      · exact .inl ⟨vs, q, this⟩
      · exact .inr (.inl ⟨vs, q, this⟩)
  cases d with
  | non => rw [show v = .non from h]; cases e; rfl
  | bl b => rw [show v = .bl b from h]; cases e; rfl
  | int i => rw [show v = .int i from h]; cases e; rfl
  | str y =>
    rw [show v = .str y from h]
    have e' : (if lenOk y.length then some ((y.length : Int) != 0) else none) = some k := e
    split at e'
    · rename_i hl
      cases e'
      exact ⟨lenOk_le hl, rfl⟩
    · cases e'
  | tup ds => exact key _ h e
  | fls ds => exact key _ h e
  | loc n => exact key _ h e
  | ty n => cases e
  | cl n => cases e
theorem po_newL {p : Addr} {xs : List D} {vs : List V} (s : HS g.k μ H (F ++ L)) (hp : H p = none) (r : RepL g.k μ H xs vs) (h : Po g.k (rE g.k) F μ H (newO F L (.lst xs)) Q WW) : Q (.ref p) (upd H p (.lst vs)) := by
  refine Po.new h (Ext.loc hp) ⟨p, rfl, ?_⟩ ?_
  · rw [← List.length_append, ← s.len]; simp
  · rw [← List.append_assoc]
    exact s.push hp ⟨vs, upd_same, RepL.mono (Ext.loc hp) _ _ r⟩
theorem po_newT {p : Addr} {xs : List D} {vs : List V} (s : HS g.k μ H (F ++ L)) (hp : H p = none) (r : RepL g.k μ H xs vs) (h : Po g.k (rE g.k) F μ H (.ok (.tup xs) L) Q WW) : Q (.ref p) (upd H p (.tup vs)) :=
  Po.new h (Ext.new hp) ⟨p, vs, rfl, SqT.of upd_same, RepL.mono (Ext.new hp) _ _ r⟩ (s.new hp)
/-- a list of what may change is written -/
theorem po_set {α β : Type} {rel : List Addr → Hp → α → β → Prop} {a : α} {b : β} {Q : β → Hp → Prop} {n : Nat} {p : Addr} {xs : List D} {vs : List V} (s : HS g.k μ H (F ++ L)) (e : μ[n]? = some p) (hn : F.length ≤ n) (r : RepL g.k μ H xs vs)
    (hr : rel μ (upd H p (.lst vs)) a b) (h : Po g.k rel F μ H (.ok a (L.set (n - F.length) (.lst xs))) Q WW) : Q b (upd H p (.lst vs)) := by
  obtain ⟨o, _, ro⟩ := s.at e
  have hs := s.set (m := .lst xs) (o := .lst vs) e ⟨vs, upd_same, RepL.mono (Ext.mut ro.mut) _ _ r⟩
  rw [List.set_append_right _ _ hn] at hs
  exact Po.new h (Ext.mut ro.mut) hr hs

/-! ### names, constants -/
def getV (i : Nat) : EM := fun _ en L => match en[i]? with | some (.d d) => .ok d L | _ => .bad
def cM (d : D) : EM := fun _ _ L => .ok d L
theorem me_var {i : Nat} {x : Str} {pos : Pos} (hN : X.N[i]? = some x) (hv : Vis X.env.scope x) (hd : (x == ("__debug__" : Str)) = false := by decide) (hcd : (x == ("__classdict__" : Str)) = false := by decide) : ME g X W (.Name x pos) (getV i) := by
  refine ⟨_, pe_var hN hv hd hcd, fun F μ H σ en L Q s h => ?_⟩
  unfold getV at h
  split at h
  · rename_i d e
    obtain ⟨v, ev, r⟩ := s.env i d e
    exact ⟨v, ev, h.now r s.sto⟩
  · exact h.elim
theorem me_cst {e : Expr} {v : V} {d : D} (h : PE X e (tC v)) (r : ∀ μ H, Rep g.k μ H d v) : ME g X W e (cM d) :=
  ⟨_, h, fun F μ H σ en L Q s h => Po.now (a := d) (b := v) h (r μ H) s.sto⟩
theorem me_int {i j pos} : ME g X W (.Constant (.int i) j pos) (cM (.int i)) := me_cst pe_int fun _ _ => rfl
theorem me_bl {i j pos} : ME g X W (.Constant (.bool i) j pos) (cM (.bl i)) := me_cst pe_bl fun _ _ => rfl
theorem me_non {j pos} : ME g X W (.Constant .none j pos) (cM .non) := me_cst pe_non fun _ _ => rfl
theorem me_str {i j pos} : ME g X W (.Constant (.str i) j pos) (cM (.str i)) := me_cst pe_str fun _ _ => rfl
theorem me_glob {x : Str} {v : V} {u : Value} {d : D} {pos : Pos} (hg : Gl X x) (hm : X.mg x = some u) (r : RelV v u) (rd : ∀ μ H, Rep g.k μ H d v) (hd : (x == ("__debug__" : Str)) = false := by decide) : ME g X W (.Name x pos) (cM d) := me_cst (pe_glob hg hm r hd) rd

/-! ### operators -/
abbrev OF := Sto → D → D → Sto → R D
def op2 (G : OF) (fa fb : EM) : EM := fun F en L => (fa F en L).bind fun x L1 => (fb F en L1).bind fun y L2 => G F x y L2
def OpG (g : Gc) (r : R2) (G : OF) : Prop :=
  ∀ F μ H x y dx dy L Q WW, Rep g.k μ H dx x → Rep g.k μ H dy y → HS g.k μ H (F ++ L) → Po g.k (rE g.k) F μ H (G F dx dy L) Q WW → r x y H Q
def OpM (g : Gc) (X : Cx) (f : Value → Value → Sem Value) (G : OF) : Prop := ∃ r, OpR X f r ∧ OpG g r G
def orO (G G' : OF) : OF := fun F x y L => match G F x y L with | .bad => G' F x y L | r => r
theorem OpM.or {f : Value → Value → Sem Value} {G G' : OF} (h : OpM g X f G) (h' : OpM g X f G') : OpM g X f (orO G G') := by
  obtain ⟨r, a, b⟩ := h
  obtain ⟨r', a', b'⟩ := h'
  refine ⟨_, a.or a', fun F μ H x y dx dy L Q WW rx ry s p => ?_⟩
  unfold orO at p
  split at p
  · exact .inr (b' F μ H x y dx dy L Q WW rx ry s p)
  · exact .inl (b F μ H x y dx dy L Q WW rx ry s p)
theorem bin_po {α β : Type} {rel : List Addr → Hp → α → β → Prop} {ta tb : TE} {r : V → V → Hp → (β → Hp → Prop) → Prop} {fa fb : EM} {G : Sto → D → D → Sto → R α}
    (ha : ∀ F μ H σ en L Q, SRep g μ H σ en (F ++ L) → Po g.k (rE g.k) F μ H (fa F en L) Q (fun c d H' => W c d σ H') → ta σ H Q)
    (hb : ∀ F μ H σ en L Q, SRep g μ H σ en (F ++ L) → Po g.k (rE g.k) F μ H (fb F en L) Q (fun c d H' => W c d σ H') → tb σ H Q)
    (hr : ∀ F μ H x y dx dy L Q WW, Rep g.k μ H dx x → Rep g.k μ H dy y → HS g.k μ H (F ++ L) → Po g.k rel F μ H (G F dx dy L) Q WW → r x y H Q)
    {F : Sto} {μ : List Addr} {H : Hp} {σ : St} {en : En} {L : Sto} {Q : β → Hp → Prop} (s : SRep g μ H σ en (F ++ L))
    (h : Po g.k rel F μ H ((fa F en L).bind fun x L1 => (fb F en L1).bind fun y L2 => G F x y L2) Q (fun c d H' => W c d σ H')) : ta σ H fun x H1 => tb σ H1 fun y H2 => r x y H2 Q := by
  refine ha F μ H σ en L _ s (h.bind fun dx L1 μ1 H1 x x1 rx s1 h1 => ?_)
  refine hb F μ1 H1 σ en L1 _ (s.mono x1 s1) (h1.bind fun dy L2 μ2 H2 y x2 ry s2 h2 => ?_)
  exact hr F μ2 H2 x y dx dy L2 Q _ (Rep.mono x2 _ _ rx) ry s2 h2
theorem me_op {op : Operator} {a b : Expr} {fa fb : EM} {G : OF} {pos : Pos} (ho : OpM g X (binaryOp op) G) (ha : ME g X W a fa) (hb : ME g X W b fb) : ME g X W (.BinOp a op b pos) (op2 G fa fb) := by
  obtain ⟨r, o1, o2⟩ := ho
  obtain ⟨ta, pa, qa⟩ := ha
  obtain ⟨tb, pb, qb⟩ := hb
  exact ⟨_, pe_op o1 pa pb, fun F μ H σ en L Q s h => bin_po qa qb o2 s h⟩
theorem me_cmp {op : CmpOp} {a b : Expr} {fa fb : EM} {G : OF} {pos : Pos} (ho : OpM g X (compareOp op) G) (ha : ME g X W a fa) (hb : ME g X W b fb) (hm : behindInMarks op b = false) : ME g X W (.Compare a [op] [b] pos) (op2 G fa fb) := by
  obtain ⟨r, o1, o2⟩ := ho
  obtain ⟨ta, pa, qa⟩ := ha
  obtain ⟨tb, pb, qb⟩ := hb
  exact ⟨_, pe_cmpR o1 pa pb hm, fun F μ H σ en L Q s h => bin_po qa qb o2 s h⟩
def asB (r : R D) : R Bool := r.bind fun d L => match d with | .bl b => .ok b L | _ => .bad
def tstM (f : EM) : TM := fun F en L => asB (f F en L)
theorem asB_po {F : Sto} {μ : List Addr} {H : Hp} {r : R D} {Q : Bool → Hp → Prop} {WW : XK} (h : Po g.k rT F μ H (asB r) Q WW) : Po g.k (rE g.k) F μ H r (fun x H' => ∃ k, x = .bl k ∧ Q k H') WW := by
  refine Po.bind h fun d L μ' H' v x r s p => ?_
  cases d with
  | bl b => exact ⟨b, r, p.now rfl s⟩
  | _ => exact p.elim
theorem mt_cmp {op : CmpOp} {a b : Expr} {fa fb : EM} {G : OF} {pos : Pos} (ho : OpM g X (compareOp op) G) (ha : ME g X W a fa) (hb : ME g X W b fb) (hm : behindInMarks op b = false) : MT g X W (.Compare a [op] [b] pos) (tstM (op2 G fa fb)) := by
  obtain ⟨r, o1, o2⟩ := ho
  obtain ⟨ta, pa, qa⟩ := ha
  obtain ⟨tb, pb, qb⟩ := hb
  exact ⟨_, pt_cmpR o1 pa pb hm, fun F μ H σ en L Q s h => bin_po qa qb o2 s (asB_po h)⟩
def chain2 (G G' : OF) (fa fb fc : EM) : EM := fun F en L => (fa F en L).bind fun x L1 => (fb F en L1).bind fun y L2 => (G F x y L2).bind fun k L3 => match k with
  | .bl true => (fc F en L3).bind fun z L4 => G' F y z L4
  | .bl false => .ok (.bl false) L3
  | _ => .bad
theorem chain_po {ta tb tc : TE} {r r' : R2} {fa fb fc : EM} {G G' : OF}
    (ha : ∀ F μ H σ en L Q, SRep g μ H σ en (F ++ L) → Po g.k (rE g.k) F μ H (fa F en L) Q (fun c d H' => W c d σ H') → ta σ H Q)
    (hb : ∀ F μ H σ en L Q, SRep g μ H σ en (F ++ L) → Po g.k (rE g.k) F μ H (fb F en L) Q (fun c d H' => W c d σ H') → tb σ H Q)
    (hc : ∀ F μ H σ en L Q, SRep g μ H σ en (F ++ L) → Po g.k (rE g.k) F μ H (fc F en L) Q (fun c d H' => W c d σ H') → tc σ H Q)
    (o2 : OpG g r G) (o4 : OpG g r' G') {F : Sto} {μ : List Addr} {H : Hp} {σ : St} {en : En} {L : Sto} {Q : VK} (s : SRep g μ H σ en (F ++ L))
    (h : Po g.k (rE g.k) F μ H (chain2 G G' fa fb fc F en L) Q (fun c d H' => W c d σ H')) : tChain r r' ta tb tc σ H Q := by
  refine ha F μ H σ en L _ s (h.bind fun dx L1 μ1 H1 x x1 rx s1 h1 => ?_)
  refine hb F μ1 H1 σ en L1 _ (s.mono x1 s1) (h1.bind fun dy L2 μ2 H2 y x2 ry s2 h2 => ?_)
  refine o2 F μ2 H2 x y dx dy L2 _ _ (Rep.mono x2 _ _ rx) ry s2 (h2.bind fun k L3 μ3 H3 z x3 rz s3 h3 => ?_)
  cases k with
  | bl c =>
    refine ⟨c, rz, ?_⟩
    cases c with
    | true =>
      rw [if_pos rfl]
      refine hc F μ3 H3 σ en L3 _ (s.mono ((x1.trans x2).trans x3) s3) (h3.bind fun dz L4 μ4 H4 z x4 rz s4 h4 => ?_)
      exact o4 F μ4 H4 y z dy dz L4 Q _ (Rep.mono (x3.trans x4) _ _ ry) rz s4 h4
    | false =>
      rw [if_neg Bool.false_ne_true]
      exact h3.now (b := .bl false) (show Rep g.k _ _ (.bl false) (.bl false) from rfl) s3
  | _ => exact h3.elim
theorem me_chain {op op' : CmpOp} {a b c : Expr} {fa fb fc : EM} {G G' : OF} {pos : Pos} (ho : OpM g X (compareOp op) G) (ho' : OpM g X (compareOp op') G') (ha : ME g X W a fa) (hb : ME g X W b fb) (hc : ME g X W c fc)
    (hm : lastMarks [op, op'] [b, c] = false := by rfl) : ME g X W (.Compare a [op, op'] [b, c] pos) (chain2 G G' fa fb fc) := by
  obtain ⟨r, o1, o2⟩ := ho
  obtain ⟨r', o3, o4⟩ := ho'
  obtain ⟨ta, pa, qa⟩ := ha
  obtain ⟨tb, pb, qb⟩ := hb
  obtain ⟨tc, pc, qc⟩ := hc
  exact ⟨_, pe_chain o1 o3 pa pb pc hm, fun F μ H σ en L Q s h => chain_po qa qb qc o2 o4 s h⟩

/-! ### truth -/
def truM (f : EM) : TM := fun F en L => (f F en L).bind fun d L1 => match truD F L1 d with | some k => .ok k L1 | none => .bad
theorem mt_truth {a : Expr} {fa : EM} (hK : X.K = g.k.K) (ha : ME g X W a fa) (he : ∀ whole, isTrue a X.env whole = (do let v ← whole; standAt a.pos; holding [v] (truthy v))) : MT g X W a (truM fa) := by
  obtain ⟨ta, pa, qa⟩ := ha
  refine ⟨_, pt_truth pa he, fun F μ H σ en L Q s h => ?_⟩
  refine qa F μ H σ en L _ s (h.bind fun d L1 μ1 H1 v x r s1 h1 => ?_)
  split at h1
  · rename_i k e
    refine ⟨k, ?_, h1.now rfl s1⟩
    rw [hK]
    exact Rep.tru s1 r e
  · exact h1.elim
def notM (f : TM) : TM := fun F en L => (f F en L).bind fun b L1 => .ok (!b) L1
theorem mt_not {a : Expr} {fa : TM} {pos : Pos} (ha : MT g X W a fa) : MT g X W (.UnaryOp .Not a pos) (notM fa) := by
  obtain ⟨ta, pa, qa⟩ := ha
  refine ⟨_, pt_not pa, fun F μ H σ en L Q s h => ?_⟩
  refine qa F μ H σ en L _ s (h.bind fun d L1 μ1 H1 v x r s1 h1 => ?_)
  cases r
  exact h1.now rfl s1
theorem MW.mt {e : Expr} {f : TM} (h : MW g X W e f) : MT g X W e f := by
  obtain ⟨t, p, q⟩ := h
  exact ⟨t, p.pt, q⟩
theorem mw_and1 {a : Expr} {f : TM} {pos : Pos} (h : MT g X W a f) : MW g X W (.BoolOp .And [a] pos) f := by
  obtain ⟨t, p, q⟩ := h
  exact ⟨t, pw_and1 p, q⟩
theorem mw_or1 {a : Expr} {f : TM} {pos : Pos} (h : MT g X W a f) : MW g X W (.BoolOp .Or [a] pos) f := by
  obtain ⟨t, p, q⟩ := h
  exact ⟨t, pw_or1 p, q⟩
def andM (f k : TM) : TM := fun F en L => (f F en L).bind fun b L1 => if b = true then k F en L1 else .ok false L1
def orM (f k : TM) : TM := fun F en L => (f F en L).bind fun b L1 => if b = true then .ok true L1 else k F en L1
theorem mw_and {a b : Expr} {rest : List Expr} {fa fb : TM} {pos : Pos} (ha : MT g X W a fa) (hb : MW g X W (.BoolOp .And (b :: rest) pos) fb) : MW g X W (.BoolOp .And (a :: b :: rest) pos) (andM fa fb) := by
  obtain ⟨ta, pa, qa⟩ := ha
  obtain ⟨tb, pb, qb⟩ := hb
  refine ⟨_, pw_and pa pb, fun F μ H σ en L Q s h => ?_⟩
  refine qa F μ H σ en L _ s (h.bind fun d L1 μ1 H1 v x r s1 h1 => ?_)
  cases r
  cases d with
  | true => rw [if_pos rfl] at h1 ⊢; exact qb F μ1 H1 σ en L1 _ (s.mono x s1) h1
  | false => rw [if_neg Bool.false_ne_true] at h1 ⊢; exact h1.now rfl s1
theorem mw_or {a b : Expr} {rest : List Expr} {fa fb : TM} {pos : Pos} (ha : MT g X W a fa) (hb : MW g X W (.BoolOp .Or (b :: rest) pos) fb) : MW g X W (.BoolOp .Or (a :: b :: rest) pos) (orM fa fb) := by
  obtain ⟨ta, pa, qa⟩ := ha
  obtain ⟨tb, pb, qb⟩ := hb
  refine ⟨_, pw_or pa pb, fun F μ H σ en L Q s h => ?_⟩
  refine qa F μ H σ en L _ s (h.bind fun d L1 μ1 H1 v x r s1 h1 => ?_)
  cases r
  cases d with
  | true => rw [if_pos rfl] at h1 ⊢; exact h1.now rfl s1
  | false => rw [if_neg Bool.false_ne_true] at h1 ⊢; exact qb F μ1 H1 σ en L1 _ (s.mono x s1) h1
/-! as values, by truth -/
theorem me_one {op} {a : Expr} {f : EM} {pos : Pos} (h : ME g X W a f) : ME g X W (.BoolOp op [a] pos) f := by
  obtain ⟨t, p, q⟩ := h
  exact ⟨t, pe_one p, q⟩
def andV (f k : EM) : EM := fun F en L => (f F en L).bind fun d L1 => match truD F L1 d with | some true => k F en L1 | some false => .ok d L1 | none => .bad
def orV (f k : EM) : EM := fun F en L => (f F en L).bind fun d L1 => match truD F L1 d with | some true => .ok d L1 | some false => k F en L1 | none => .bad
def notV (f : EM) : EM := fun F en L => (f F en L).bind fun d L1 => match truD F L1 d with | some k => .ok (.bl (!k)) L1 | none => .bad
theorem me_and {a b : Expr} {rest : List Expr} {fa fb : EM} {pos : Pos} (hK : X.K = g.k.K) (ha : ME g X W a fa) (hb : ME g X W (.BoolOp .And (b :: rest) pos) fb) : ME g X W (.BoolOp .And (a :: b :: rest) pos) (andV fa fb) := by
  obtain ⟨ta, pa, qa⟩ := ha
  obtain ⟨tb, pb, qb⟩ := hb
  refine ⟨_, pe_andT pa pb, fun F μ H σ en L Q s h => ?_⟩
  refine qa F μ H σ en L _ s (h.bind fun d L1 μ1 H1 v x r s1 h1 => ?_)
  split at h1
  · rename_i e
    exact ⟨true, by rw [hK]; exact Rep.tru s1 r e, by rw [if_pos rfl]; exact qb F μ1 H1 σ en L1 _ (s.mono x s1) h1⟩
  · rename_i e
    exact ⟨false, by rw [hK]; exact Rep.tru s1 r e, by rw [if_neg Bool.false_ne_true]; exact h1.now r s1⟩
  · exact h1.elim
theorem me_or {a b : Expr} {rest : List Expr} {fa fb : EM} {pos : Pos} (hK : X.K = g.k.K) (ha : ME g X W a fa) (hb : ME g X W (.BoolOp .Or (b :: rest) pos) fb) : ME g X W (.BoolOp .Or (a :: b :: rest) pos) (orV fa fb) := by
  obtain ⟨ta, pa, qa⟩ := ha
  obtain ⟨tb, pb, qb⟩ := hb
  refine ⟨_, pe_orT pa pb, fun F μ H σ en L Q s h => ?_⟩
  refine qa F μ H σ en L _ s (h.bind fun d L1 μ1 H1 v x r s1 h1 => ?_)
  split at h1
  · rename_i e
    exact ⟨true, by rw [hK]; exact Rep.tru s1 r e, by rw [if_pos rfl]; exact h1.now r s1⟩
  · rename_i e
    exact ⟨false, by rw [hK]; exact Rep.tru s1 r e, by rw [if_neg Bool.false_ne_true]; exact qb F μ1 H1 σ en L1 _ (s.mono x s1) h1⟩
  · exact h1.elim
theorem me_not {a : Expr} {fa : EM} {pos : Pos} (hK : X.K = g.k.K) (ha : ME g X W a fa) : ME g X W (.UnaryOp .Not a pos) (notV fa) := by
  obtain ⟨ta, pa, qa⟩ := ha
  refine ⟨_, pe_notT pa, fun F μ H σ en L Q s h => ?_⟩
  refine qa F μ H σ en L _ s (h.bind fun d L1 μ1 H1 v x r s1 h1 => ?_)
  split at h1
  · rename_i k e
    exact ⟨k, by rw [hK]; exact Rep.tru s1 r e, h1.now (b := .bl (!k)) (show Rep g.k _ _ (.bl (!k)) (.bl (!k)) from rfl) s1⟩
  · exact h1.elim
def ifM (c : TM) (f k : EM) : EM := fun F en L => (c F en L).bind fun b L1 => if b = true then f F en L1 else k F en L1
theorem me_if {c a b : Expr} {fc : TM} {fa fb : EM} {pos : Pos} (hc : MT g X W c fc) (ha : ME g X W a fa) (hb : ME g X W b fb) : ME g X W (.IfExp c a b pos) (ifM fc fa fb) := by
  obtain ⟨tc, pc, qc⟩ := hc
  obtain ⟨ta, pa, qa⟩ := ha
  obtain ⟨tb, pb, qb⟩ := hb
  refine ⟨_, pe_ifExp pc pa pb, fun F μ H σ en L Q s h => ?_⟩
  refine qc F μ H σ en L _ s (h.bind fun d L1 μ1 H1 v x r s1 h1 => ?_)
  cases r
  cases d with
  | true => rw [if_pos rfl] at h1 ⊢; exact qa F μ1 H1 σ en L1 _ (s.mono x s1) h1
  | false => rw [if_neg Bool.false_ne_true] at h1 ⊢; exact qb F μ1 H1 σ en L1 _ (s.mono x s1) h1

/-! ### arguments, displays -/
def nilA : AM := fun _ _ L => .ok [] L
def consA (f : EM) (k : AM) : AM := fun F en L => (f F en L).bind fun d L1 => (k F en L1).bind fun ds L2 => .ok (d :: ds) L2
theorem ma_nil : MA g X W [] nilA := ⟨_, pa_nil, fun F μ H σ en L Q s h => Po.now (a := []) (b := []) h rfl s.sto⟩
theorem ma_cons {e : Expr} {es : List Expr} {f : EM} {k : AM} (ha : ME g X W e f) (hr : MA g X W es k) (hs : starEach (e :: es) X.env = (false, eval e X.env) :: starEach es X.env := by rfl) : MA g X W (e :: es) (consA f k) := by
  obtain ⟨ta, pa, qa⟩ := ha
  obtain ⟨tb, pb, qb⟩ := hr
  refine ⟨_, pa_cons pa pb hs, fun F μ H σ en L Q s h => ?_⟩
  refine qa F μ H σ en L _ s (h.bind fun d L1 μ1 H1 v x r s1 h1 => ?_)
  refine qb F μ1 H1 σ en L1 _ (s.mono x s1) (h1.bind fun ds L2 μ2 H2 vs x2 r2 s2 h2 => ?_)
  exact h2.now (RepL.cons (Rep.mono x2 _ _ r) r2) s2
def tupM (f : AM) : EM := fun F en L => (f F en L).bind fun ds L1 => if lenOk ds.length then .ok (.tup ds) L1 else .bad
def lstM (f : AM) : EM := fun F en L => (f F en L).bind fun ds L1 => if lenOk ds.length then newO F L1 (.lst ds) else .bad
theorem me_tup {x1} {es : List Expr} {f : AM} {pos : Pos} (h : MA g X W es f) : ME g X W (.Tuple es x1 pos) (tupM f) := by
  obtain ⟨ta, pa, qa⟩ := h
  refine ⟨_, pe_tup pa, fun F μ H σ en L Q s h => ?_⟩
  refine qa F μ H σ en L _ s (h.bind fun d L1 μ1 H1 v x r s1 h1 => ?_)
  split at h1
  · rename_i hl
    exact ⟨by rw [r.length]; exact lenOk_le hl, fun p hp => po_newT s1 hp r h1⟩
  · exact h1.elim
theorem me_lst {es : List Expr} {f : AM} {pos : Pos} (h : MA g X W es f) : ME g X W (.List es pos) (lstM f) := by
  obtain ⟨ta, pa, qa⟩ := h
  refine ⟨_, pe_lst pa, fun F μ H σ en L Q s h => ?_⟩
  refine qa F μ H σ en L _ s (h.bind fun d L1 μ1 H1 v x r s1 h1 => ?_)
  split at h1
  · rename_i hl
    exact ⟨by rw [r.length]; exact lenOk_le hl, fun p hp => po_newL s1 hp r h1⟩
  · exact h1.elim
end
end MI
end SMiB
section SMiC
set_option Elab.async false
set_option linter.all false
set_option maxRecDepth 100000
set_option maxHeartbeats 4000000
namespace MI
open PySem L2

/-- a statement's result -/
inductive SR where
  | nx (en : En) (L : Sto) | rt (d : D) (L : Sto) | bk (en : En) (L : Sto) | ct (en : En) (L : Sto) | err (e : Exc) (en : En) (L : Sto) | bad
abbrev SM := Sto → En → Sto → SR
def R.toS {α : Type} (r : R α) (en : En) (k : α → Sto → SR) : SR :=
  match r with
  | .ok a L => k a L
  | .err e L => .err e en L
  | .bad => .bad
def SR.next (r : SR) (k : En → Sto → SR) : SR :=
  match r with
  | .nx en L => k en L
  | r => r
def SPo (g : Gc) (F : Sto) (μ : List Addr) (H : Hp) (r : SR) (D : Ends) (W : WX) : Prop :=
  match r with
  | .nx en L => ∀ μ' H' σ', Ext μ H μ' H' → SRep g μ' H' σ' en (F ++ L) → D.nx σ' H'
  | .rt d L => ∀ μ' H' v, Ext μ H μ' H' → Rep g.k μ' H' d v → HS g.k μ' H' (F ++ L) → D.rt v H'
  | .bk en L => ∀ μ' H' σ', Ext μ H μ' H' → SRep g μ' H' σ' en (F ++ L) → D.bk σ' H'
  | .ct en L => ∀ μ' H' σ', Ext μ H μ' H' → SRep g μ' H' σ' en (F ++ L) → D.ct σ' H'
  | .err e en L => ∀ μ' H' σ' cls dd, Ext μ H μ' H' → XRep g.k μ' H' e cls dd → SRep g μ' H' σ' en (F ++ L) → W cls dd σ' H'
  | .bad => False
def MS (g : Gc) (X : Cx) (W : WX) (s : Stmt) (f : SM) : Prop :=
  ∃ t : TS, PS X s t ∧ ∀ F μ H σ en L D, SRep g μ H σ en (F ++ L) → SPo g F μ H (f F en L) D W → t D σ H
def MB (g : Gc) (X : Cx) (W : WX) (s : List Stmt) (f : SM) : Prop :=
  ∃ t : TS, PSs X s t ∧ ∀ F μ H σ en L D, SRep g μ H σ en (F ++ L) → SPo g F μ H (f F en L) D W → t D σ H
section
variable {α β : Type} {rel : List Addr → Hp → α → β → Prop} {g : Gc} {X : Cx} {W : WX} {F L : Sto} {μ μ' : List Addr} {H H' : Hp} {σ : St} {en : En}
theorem SPo.ext {r : SR} {D : Ends} (x : Ext μ H μ' H') (h : SPo g F μ H r D W) : SPo g F μ' H' r D W := by
  cases r with
  | nx en L => exact fun a b c e => h a b c (x.trans e)
  | rt d L => exact fun a b c e => h a b c (x.trans e)
  | bk en L => exact fun a b c e => h a b c (x.trans e)
  | ct en L => exact fun a b c e => h a b c (x.trans e)
  | err e en L => exact fun a b c d2 d3 e => h a b c d2 d3 (x.trans e)
  | bad => exact h
theorem SPo.bind {r : R α} {k : α → Sto → SR} {D : Ends} {Q : β → Hp → Prop} (s : SRep g μ H σ en (F ++ L)) (h : SPo g F μ H (r.toS en k) D W)
    (n : ∀ a L' μ' H' b, Ext μ H μ' H' → rel μ' H' a b → SRep g μ' H' σ en (F ++ L') → SPo g F μ' H' (k a L') D W → Q b H') : Po g.k rel F μ H r Q (fun c d H' => W c d σ H') := by
  cases r with
  | ok a L' => exact fun μ2 H2 b x2 r2 h2 => n a L' μ2 H2 b x2 r2 (s.mono x2 h2) (SPo.ext x2 h)
  | err e L' => exact fun μ2 H2 c d x2 r2 h2 => h μ2 H2 σ c d x2 r2 (s.mono x2 h2)
  | bad => exact h
theorem SPo.nx {D : Ends} (h : SPo g F μ H (.nx en L) D W) (s : SRep g μ H σ en (F ++ L)) : D.nx σ H := h μ H σ .refl s
/-- a statement, then others -/
theorem SPo.seq {r : SR} {k : En → Sto → SR} {D : Ends} {N : St → Hp → Prop} (h : SPo g F μ H (r.next k) D W) (n : ∀ en' L' μ' H' σ', Ext μ H μ' H' → SRep g μ' H' σ' en' (F ++ L') → SPo g F μ' H' (k en' L') D W → N σ' H') :
    SPo g F μ H r { D with nx := N } W := by
  cases r with
  | nx en' L' => exact fun μ2 H2 σ2 x s => n en' L' μ2 H2 σ2 x s (SPo.ext x h)
  | rt d L => exact h
  | bk en L => exact h
  | ct en L => exact h
  | err e en L => exact h
  | bad => exact h

def nilS : SM := fun _ en L => .nx en L
def seqS (f k : SM) : SM := fun F en L => (f F en L).next fun en1 L1 => k F en1 L1
theorem mb_nil : MB g X W [] nilS := ⟨_, pss_nil, fun F μ H σ en L D s h => SPo.nx h s⟩
theorem mb_one {st : Stmt} {f : SM} (h : MS g X W st f) : MB g X W [st] f := by
  obtain ⟨t, p, q⟩ := h
  exact ⟨t, pss_one p, q⟩
theorem mb_cons {st : Stmt} {rest : List Stmt} {f k : SM} (h : MS g X W st f) (h2 : MB g X W rest k) : MB g X W (st :: rest) (seqS f k) := by
  obtain ⟨t, p, q⟩ := h
  obtain ⟨t2, p2, q2⟩ := h2
  exact ⟨_, pss_cons p p2, fun F μ H σ en L D s h => q F μ H σ en L _ s (SPo.seq h fun en' L' μ' H' σ' x s' h' => q2 F μ' H' σ' en' L' D s' h')⟩

/-! ### targets -/
abbrev GM := Sto → D → En → Sto → SR
def MG (g : Gc) (X : Cx) (W : WX) (tg : Expr) (G : GM) : Prop :=
  ∃ t : TG, PG X tg t ∧ ∀ F μ H σ en L d v D, SRep g μ H σ en (F ++ L) → Rep g.k μ H d v → SPo g F μ H (G F d en L) D W → t v σ H D.nx
abbrev GMs := Sto → List D → En → Sto → SR
def MGs (g : Gc) (X : Cx) (W : WX) (tg : List Expr) (G : GMs) : Prop :=
  ∃ t : TGs, PGs X tg t ∧ ∀ F μ H σ en L d v D, SRep g μ H σ en (F ++ L) → RepL g.k μ H d v → SPo g F μ H (G F d en L) D W → t v σ H D.nx
def nameG (i : Nat) : GM := fun _ d en L => .nx (en.set i (.d d)) L
def nilG : GMs := fun _ ds en L => match ds with | [] => .nx en L | _ => .bad
def consG (G : GM) (K : GMs) : GMs := fun F ds en L => match ds with
  | d :: r => match G F d en L with
    | .nx en1 L1 => K F r en1 L1
    | _ => .bad
  | [] => .bad
def tupG (n : Nat) (K : GMs) : GM := fun F d en L => match d with
  | .tup ds => if ds.length = n then K F ds en L else .bad
  | _ => .bad
theorem mg_name {i : Nat} {x : Str} {pos : Pos} (hN : X.N.Nodup) (hi : X.N[i]? = some x) (hx : Loc X.env.scope x) (hf : X.fn x = true ∨ X.env.scope.names.lookup x = some .local := by first | exact .inl rfl | exact .inr rfl | assumption) : MG g X W (.Name x pos) (nameG i) :=
  ⟨_, pg_name hN hi hx hf, fun F μ H σ en L d v D s r h => h μ H _ .refl (s.set i r)⟩
theorem mgs_nil : MGs g X W [] nilG := by
  refine ⟨_, pgs_nil, fun F μ H σ en L d v D s r h => ?_⟩
  cases d with
  | nil => exact ⟨r, SPo.nx h s⟩
  | cons _ _ => exact h.elim
theorem mgs_cons {e : Expr} {es : List Expr} {G : GM} {K : GMs} (h1 : MG g X W e G) (h2 : MGs g X W es K)
    (hp : ∀ t u, PG X e t → PGs X es u → PGs X (e :: es) (gCons t u)) : MGs g X W (e :: es) (consG G K) := by
  obtain ⟨t, p, q⟩ := h1
  obtain ⟨t2, p2, q2⟩ := h2
  refine ⟨_, hp t t2 p p2, fun F μ H σ en L d v D s r h => ?_⟩
  cases d with
  | nil => exact h.elim
  | cons d ds =>
    obtain ⟨v1, vs, rfl, r1, r2⟩ := r
    refine ⟨v1, vs, rfl, ?_⟩
    have h' : SPo g F μ H (match G F d en L with | .nx en1 L1 => K F ds en1 L1 | _ => .bad) D W := h
    refine q F μ H σ en L d v1 { D with nx := fun σ' H' => t2 vs σ' H' D.nx } s r1 ?_
    cases e : G F d en L with
    | nx en1 L1 => rw [e] at h'; exact fun μ' H' σ' x s' => q2 F μ' H' σ' en1 L1 ds vs D s' (RepL.mono x _ _ r2) (SPo.ext x h')
    | rt _ _ => rw [e] at h'; exact h'.elim
    | bk _ _ => rw [e] at h'; exact h'.elim
    | ct _ _ => rw [e] at h'; exact h'.elim
    | err _ _ _ => rw [e] at h'; exact h'.elim
    | bad => rw [e] at h'; exact h'.elim
theorem mg_tup {es : List Expr} {G : GMs} {n : Nat} {tg : Expr} (hK : X.K = g.k.K) (h : MGs g X W es G) (hp : ∀ t, PGs X es t → PG X tg (gTup X.K n t)) : MG g X W tg (tupG n G) := by
  obtain ⟨t, p, q⟩ := h
  refine ⟨_, hp t p, fun F μ H σ en L d v D s r h => ?_⟩
  cases d with
  | tup ds =>
    have h' : SPo g F μ H (if ds.length = n then G F ds en L else .bad) D W := h
    obtain ⟨a, vs, rfl, qs, rs⟩ := r
    split at h'
    · rename_i hl
      exact ⟨a, vs, rfl, by rw [hK]; exact qs, by rw [rs.length]; exact hl, q F μ H σ en L ds vs D s rs h'⟩
    · exact h'.elim
  | _ => exact h.elim

/-! ### simple statements -/
def asgS (f : EM) (G : GM) : SM := fun F en L => (f F en L).toS en fun d L1 => G F d en L1
theorem ms_asg {tg e : Expr} {f : EM} {G : GM} {pos : Pos} (he : ME g X W e f) (hg : MG g X W tg G)
    (hp : ∀ te u, PE X e te → PG X tg u → PS X (.Assign [tg] e pos) (tAsg te u)) : MS g X W (.Assign [tg] e pos) (asgS f G) := by
  obtain ⟨t, p, q⟩ := he
  obtain ⟨u, pu, qu⟩ := hg
  refine ⟨_, hp t u p pu, fun F μ H σ en L D s h => ?_⟩
  refine q F μ H σ en L _ s (SPo.bind s h fun d L1 μ1 H1 v x r s1 h1 => ?_)
  exact qu F μ1 H1 σ en L1 d v D s1 r h1
theorem ms_set {i : Nat} {x : Str} {e : Expr} {f : EM} {pos pos' : Pos} (hN : X.N.Nodup) (hi : X.N[i]? = some x) (hx : Loc X.env.scope x) (he : ME g X W e f) (hs : swapsWith e (some (.Name x pos')) pos.line X.env = pure false := by rfl) (hf : X.fn x = true ∨ X.env.scope.names.lookup x = some .local := by first | exact .inl rfl | exact .inr rfl | assumption) :
    MS g X W (.Assign [.Name x pos'] e pos) (asgS f (nameG i)) := by
  obtain ⟨t, p, q⟩ := he
  refine ⟨_, ps_set hN hi hx p hs hf, fun F μ H σ en L D s h => ?_⟩
  refine q F μ H σ en L _ s (SPo.bind s h fun d L1 μ1 H1 v x r s1 h1 => ?_)
  exact h1 μ1 H1 _ .refl (s1.set i r)
def dropS (f : EM) : SM := fun F en L => (f F en L).toS en fun _ L1 => .nx en L1
theorem ms_expr {e : Expr} {f : EM} {pos : Pos} (he : ME g X W e f) (hs : swapsWith e none pos.line X.env = pure false := by rfl) : MS g X W (.Expr e pos) (dropS f) := by
  obtain ⟨t, p, q⟩ := he
  refine ⟨_, ps_expr p hs, fun F μ H σ en L D s h => ?_⟩
  exact q F μ H σ en L _ s (SPo.bind s h fun d L1 μ1 H1 v x r s1 h1 => SPo.nx h1 s1)
def retS (f : EM) : SM := fun F en L => (f F en L).toS en fun d L1 => .rt d L1
theorem ms_ret {e : Expr} {f : EM} {pos : Pos} (he : ME g X W e f) : MS g X W (.Return (some e) pos) (retS f) := by
  obtain ⟨t, p, q⟩ := he
  refine ⟨_, ps_ret p, fun F μ H σ en L D s h => ?_⟩
  exact q F μ H σ en L _ s (SPo.bind s h fun d L1 μ1 H1 v x r s1 h1 => h1 μ1 H1 v .refl r s1.sto)
def passS : SM := fun _ en L => .nx en L
theorem ms_pass {pos : Pos} : MS g X W (.Pass pos) passS := ⟨_, ps_pass, fun F μ H σ en L D s h => SPo.nx h s⟩
def bkS : SM := fun _ en L => .bk en L
theorem ms_break {pos : Pos} : MS g X W (.Break pos) bkS := ⟨_, ps_break, fun F μ H σ en L D s h => h μ H σ .refl s⟩
def ctS : SM := fun _ en L => .ct en L
theorem ms_continue {pos : Pos} : MS g X W (.Continue pos) ctS := ⟨_, ps_continue, fun F μ H σ en L D s h => h μ H σ .refl s⟩
def ifS (c : TM) (f k : SM) : SM := fun F en L => (c F en L).toS en fun b L1 => if b = true then f F en L1 else k F en L1
theorem ms_if {c : Expr} {a b : List Stmt} {tc : TM} {f k : SM} {pos : Pos} (hc : MT g X W c tc) (ha : MB g X W a f) (hb : MB g X W b k) : MS g X W (.If c a b pos) (ifS tc f k) := by
  obtain ⟨t, p, q⟩ := hc
  obtain ⟨ta, pa, qa⟩ := ha
  obtain ⟨tb, pb, qb⟩ := hb
  refine ⟨_, ps_if p pa pb, fun F μ H σ en L D s h => ?_⟩
  refine q F μ H σ en L _ s (SPo.bind s h fun d L1 μ1 H1 v x r s1 h1 => ?_)
  cases r
  cases d with
  | true => rw [if_pos rfl] at h1 ⊢; exact qa F μ1 H1 σ en L1 D s1 h1
  | false => rw [if_neg Bool.false_ne_true] at h1 ⊢; exact qb F μ1 H1 σ en L1 D s1 h1
def augS (i : Nat) (G : OF) (f : EM) : SM := fun F en L => match en[i]? with
  | some (.d d) => ((f F en L).bind fun y L1 => G F d y L1).toS en fun z L2 => .nx (en.set i (.d z)) L2
  | _ => .bad
theorem ms_aug {i : Nat} {x : Str} {e : Expr} {f : EM} {op : Operator} {G : OF} {pos pos' : Pos} (hN : X.N.Nodup) (hi : X.N[i]? = some x) (hx : Loc X.env.scope x) (he : ME g X W e f) (ho : OpM g X (inplaceOp op) G)
    (hp : ∀ te ti, PE X e te → PIp X op ti → PS X (.AugAssign (.Name x pos') op e pos) (tAug i te ti)) : MS g X W (.AugAssign (.Name x pos') op e pos) (augS i G f) := by
  obtain ⟨t, p, q⟩ := he
  obtain ⟨r, o1, o2⟩ := ho
  refine ⟨_, hp t r p o1, fun F μ H σ en L D s h => ?_⟩
  unfold augS at h
  split at h
  · rename_i d e
    obtain ⟨v, ev, rv⟩ := s.env i d e
    refine ⟨v, ev, q F μ H σ en L _ s ?_⟩
    refine Po.bind (rel2 := rE g.k) (Q2 := fun z H2 => D.nx (σ.set i (some z)) H2) (SPo.bind s h fun z L2 μ2 H2 w x r s2 h2 => h2 μ2 H2 _ .refl (s2.set i r)) fun y L1 μ1 H1 w x r s1 h1 => ?_
    exact o2 F μ1 H1 v w d y L1 _ _ (Rep.mono x _ _ rv) r s1 h1
  · exact h.elim

/-! ### what is walked -/
structure Src where
  num : Nat
  item : Nat → Sto → Option D
  fin : Sto → Bool
def SrcOk (g : Gc) (s : Src) (J : It) : Prop :=
  ∀ μ H S, HS g.k μ H S → (∀ i d, i < s.num → s.item i S = some d → J.go i H ∧ ∀ x H', J.yld i H x H' → ∃ μ', Ext μ H μ' H' ∧ HS g.k μ' H' S ∧ Rep g.k μ' H' d x) ∧ (s.fin S = true → J.stop s.num H)
abbrev rI (g : Gk) : List Addr → Hp → Src → It → Prop := fun μ H s J => (∀ μ' H' : _, Ext μ H μ' H' → ∀ S, HS g μ' H' S → (∀ i d, i < s.num → s.item i S = some d → J.go i H' ∧ ∀ x H'', J.yld i H' x H'' → ∃ μ'', Ext μ' H' μ'' H'' ∧ HS g μ'' H'' S ∧ Rep g μ'' H'' d x) ∧ (s.fin S = true → J.stop s.num H'))
abbrev IM := MM Src
def MI (g : Gc) (X : Cx) (W : WX) (tg iter : Expr) (f : IM) : Prop :=
  ∃ t : TI, PI X tg iter t ∧ ∀ F μ H σ en L Q, SRep g μ H σ en (F ++ L) → Po g.k (rI g.k) F μ H (f F en L) Q (fun c d H' => W c d σ H') → t σ H Q
def lstSrc (n : Nat) (m : Nat) : Src := ⟨m, fun i S => match S[n]? with | some (.lst xs) => if xs.length = m then xs[i]? else none | _ => none, fun S => match S[n]? with | some (.lst xs) => decide (xs.length = m) | _ => false⟩
def valSrc (xs : List D) : Src := ⟨xs.length, fun i _ => xs[i]?, fun _ => true⟩
def seqSrc (F L : Sto) : D → Option Src
  | .loc n => (lstAt F L n).map fun xs => lstSrc n xs.length
  | .fls xs => some (valSrc xs)
  | _ => none
def tupSrc : D → Option Src
  | .tup xs => some (valSrc xs)
  | _ => none
def liftO {α : Type} (o : Option α) (L : Sto) : R α := match o with | some a => .ok a L | none => .bad
def listI (f : EM) : IM := fun F en L => (f F en L).bind fun d L1 => liftO (seqSrc F L1 d) L1
def tupI (f : EM) : IM := fun F en L => (f F en L).bind fun d L1 => liftO (tupSrc d) L1
theorem mi_list {tg l : Expr} {f : EM} (hK : X.K = g.k.K) (h : ME g X W l f) : MI g X W tg l (listI f) := by
  obtain ⟨t, p, q⟩ := h
  refine ⟨_, pi_list p, fun F μ H σ en L Q s h => ?_⟩
  refine q F μ H σ en L _ s (h.bind fun d L1 μ1 H1 v x r s1 h1 => ?_)
  rw [hK]
  cases d with
  | loc n =>
    cases e : lstAt F L1 n with
    | none =>
      have h1' : Po g.k (rI g.k) F μ1 H1 (liftO ((lstAt F L1 n).map fun xs => lstSrc n xs.length) L1) Q _ := h1
      rw [e] at h1'
      exact h1'.elim
    | some xs =>
      have h1' : Po g.k (rI g.k) F μ1 H1 (liftO ((lstAt F L1 n).map fun xs => lstSrc n xs.length) L1) Q _ := h1
      rw [e] at h1'
      obtain ⟨a, vs, rfl, m, ea, rl⟩ := Rep.loc_lst s1 r e
      refine ⟨a, rfl, ⟨vs, SqL.of ea⟩, Po.now (a := lstSrc n xs.length) (b := Itl g.k.K a) h1' ?_ s1⟩
      intro μ2 H2 x2 S s2
      have m2 := x2.get m
      have body : ∀ ys, S[n]? = some (.lst ys) → ∃ ws, SqL g.k.K H2 a ws ∧ H2 a = some (.lst ws) ∧ RepL g.k μ2 H2 ys ws := fun ys eS => by
        obtain ⟨a', m', ws, ew, rw'⟩ := s2.ob n _ eS
        rw [m2] at m'
        cases m'
        exact ⟨ws, SqL.of ew, ew, rw'⟩
      refine ⟨fun i d hi hd => ?_, fun hf => ?_⟩
      · have hd' : (match S[n]? with | some (.lst xs') => if xs'.length = xs.length then xs'[i]? else none | _ => none) = some d := hd
        split at hd'
        · rename_i ys eS
          split at hd'
          · obtain ⟨ws, q1, q2, q3⟩ := body ys eS
            obtain ⟨w', e1, e2⟩ := q3.get hd'
            refine ⟨⟨ws, w', q1, e1⟩, fun y H' ⟨eH, hy⟩ => ?_⟩
            subst eH
            have := hy ws q1
            rw [e1] at this
            cases this
            exact ⟨μ2, .refl, s2, e2⟩
          · cases hd'
        · cases hd'
      · have hf' : (match S[n]? with | some (.lst xs') => decide (xs'.length = xs.length) | _ => false) = true := hf
        split at hf'
        · rename_i ys eS
          obtain ⟨ws, q1, q2, q3⟩ := body ys eS
          exact ⟨ws, q1, by rw [q3.length]; exact Nat.le_of_eq (of_decide_eq_true hf')⟩
        · cases hf'
  | fls xs =>
    obtain ⟨a, vs, rfl, q1, rl⟩ := r
    refine ⟨a, rfl, ⟨vs, q1.sq⟩, Po.now (a := valSrc xs) (b := Itl g.k.K a) h1 ?_ s1⟩
    intro μ2 H2 x2 S s2
    have q2 := (fzl_keep x2.keep q1).sq
    have rl2 := RepL.mono x2 _ _ rl
    refine ⟨fun i d hi hd => ?_, fun _ => ⟨vs, q2, Nat.le_of_eq rl.length⟩⟩
    obtain ⟨w', e1, e2⟩ := rl2.get (show xs[i]? = some d from hd)
    refine ⟨⟨vs, w', q2, e1⟩, fun y H' ⟨eH, hy⟩ => ?_⟩
    subst eH
    have := hy vs q2
    rw [e1] at this
    cases this
    exact ⟨μ2, .refl, s2, e2⟩
  | _ => exact h1.elim
theorem mi_tup {tg l : Expr} {f : EM} (hK : X.K = g.k.K) (h : ME g X W l f) : MI g X W tg l (tupI f) := by
  obtain ⟨t, p, q⟩ := h
  refine ⟨_, pi_tup p, fun F μ H σ en L Q s h => ?_⟩
  refine q F μ H σ en L _ s (h.bind fun d L1 μ1 H1 v x r s1 h1 => ?_)
  rw [hK]
  cases d with
  | tup xs =>
    obtain ⟨a, vs, rfl, q1, rl⟩ := r
    refine ⟨a, rfl, ⟨vs, q1⟩, Po.now (a := valSrc xs) (b := Itt g.k.K a) h1 ?_ s1⟩
    intro μ2 H2 x2 S s2
    have q2 := sqt_keep x2.keep q1
    have rl2 := RepL.mono x2 _ _ rl
    refine ⟨fun i d hi hd => ?_, fun _ => ⟨vs, q2, Nat.le_of_eq rl.length⟩⟩
    obtain ⟨w', e1, e2⟩ := rl2.get (show xs[i]? = some d from hd)
    refine ⟨⟨vs, w', q2, e1⟩, fun y H' ⟨eH, hy⟩ => ?_⟩
    subst eH
    have := hy vs q2
    rw [e1] at this
    cases this
    exact ⟨μ2, .refl, s2, e2⟩
  | _ => exact h1.elim
def rngSrc (lo : Int) (n : Nat) : Src := ⟨n, fun i _ => some (.int (lo + i)), fun _ => true⟩
theorem rng_ok {lo : Int} {n : Nat} : rI g.k μ H (rngSrc lo n) (Itr lo n) := fun μ2 H2 x2 S s2 =>
  ⟨fun i d hi hd => ⟨hi, fun y H' ⟨eH, hy⟩ => by
    subst eH
    have hd' : some (D.int (lo + i)) = some d := hd
    cases hd'
    exact ⟨μ2, .refl, s2, hy⟩⟩, fun _ => Nat.le_refl _⟩
def big62 (i : Int) : Bool := decide (-(2 ^ 62) ≤ i) && decide (i < 2 ^ 62)
theorem big62_of {i : Int} (h : big62 i = true) : -(2 ^ 62) ≤ i ∧ i < 2 ^ 62 := by
  unfold big62 at h
  rw [Bool.and_eq_true] at h
  exact ⟨of_decide_eq_true h.1, of_decide_eq_true h.2⟩
def rng1I (f : AM) : IM := fun F en L => (f F en L).bind fun ds L1 => match ds with
  | [.int j] => if big62 j then .ok (rngSrc 0 j.toNat) L1 else .bad
  | _ => .bad
def rng2I (f : AM) : IM := fun F en L => (f F en L).bind fun ds L1 => match ds with
  | [.int i, .int j] => if big62 i && big62 j then .ok (rngSrc i (j - i).toNat) L1 else .bad
  | _ => .bad
theorem mi_range1 {tg a : Expr} {f : AM} {p pos : Pos} (hg : Gl X "range") (hm : X.mg "range" = none) (ha : MA g X W [a] f) (hs : starEach [a] X.env = [(false, eval a X.env)] := by rfl) : MI g X W tg (.Call (.Name "range" p) [a] [] pos) (rng1I f) := by
  obtain ⟨t, p, q⟩ := ha
  refine ⟨_, pi_range1 hg hm p hs, fun F μ H σ en L Q s h => ?_⟩
  refine q F μ H σ en L _ s (h.bind fun ds L1 μ1 H1 v x r s1 h1 => ?_)
  split at h1
  · rename_i j
    split at h1
    · rename_i hb
      obtain ⟨v1, r1, rfl, e1, e2⟩ := r
      rw [show r1 = [] from e2, show v1 = .int j from e1]
      exact ⟨j, rfl, (big62_of hb).1, (big62_of hb).2, h1.now rng_ok s1⟩
    · exact h1.elim
  · exact h1.elim
theorem mi_range2 {tg a b : Expr} {f : AM} {p pos : Pos} (hg : Gl X "range") (hm : X.mg "range" = none) (ha : MA g X W [a, b] f) (hs : starEach [a, b] X.env = [(false, eval a X.env), (false, eval b X.env)] := by rfl) (hs2 : starEach [b] X.env = [(false, eval b X.env)] := by rfl) : MI g X W tg (.Call (.Name "range" p) [a, b] [] pos) (rng2I f) := by
  obtain ⟨t, p, q⟩ := ha
  refine ⟨_, pi_range2 hg hm p hs hs2, fun F μ H σ en L Q s h => ?_⟩
  refine q F μ H σ en L _ s (h.bind fun ds L1 μ1 H1 v x r s1 h1 => ?_)
  split at h1
  · rename_i i j
    split at h1
    · rename_i hb
      rw [Bool.and_eq_true] at hb
      obtain ⟨v1, r1, rfl, e1, v2, r2, rfl, e2, e3⟩ := r
      rw [show r2 = [] from e3, show v1 = .int i from e1, show v2 = .int j from e2]
      exact ⟨i, j, rfl, ⟨(big62_of hb.1).1, (big62_of hb.1).2, (big62_of hb.2).1, (big62_of hb.2).2⟩, h1.now rng_ok s1⟩
    · exact h1.elim
  · exact h1.elim

/-! ### loops -/
/-- behind a turn's body -/
def turnK (r : SR) (k : En → Sto → SR) : SR :=
  match r with
  | .nx en L => k en L
  | .ct en L => k en L
  | .bk en L => .nx en L
  | r => r
def forM (s : Src) (G : GM) (body : SM) (F : Sto) : Nat → En → Sto → SR
  | 0, en, L => if s.fin (F ++ L) then .nx en L else .bad
  | m + 1, en, L => match s.item (s.num - (m + 1)) (F ++ L) with
    | none => .bad
    | some d => turnK ((G F d en L).next fun en1 L1 => body F en1 L1) fun en2 L2 => forM s G body F m en2 L2
def forS (fi : IM) (G : GM) (body : SM) : SM := fun F en L => (fi F en L).toS en fun s L1 => forM s G body F s.num en L1
theorem for_po {J : It} {src : Src} {G : GM} {body : SM} {tg : TG} {tb : TS} {D : Ends} (rj : rI g.k μ H src J)
    (hg : ∀ F μ H σ en L d v D, SRep g μ H σ en (F ++ L) → Rep g.k μ H d v → SPo g F μ H (G F d en L) D W → tg v σ H D.nx)
    (hb : ∀ F μ H σ en L D, SRep g μ H σ en (F ++ L) → SPo g F μ H (body F en L) D W → tb D σ H)
    (s : SRep g μ H σ en (F ++ L)) (h : SPo g F μ H (forM src G body F src.num en L) D W) (hbad : True) :
    (∀ d en L en' L', G F d en L ≠ .bk en' L' ∧ G F d en L ≠ .ct en' L') →
    ∃ Wv : Nat → Nat → St → Hp → Prop, (∃ m, Wv 0 m σ H) ∧ ∀ i m σ H, Wv i m σ H →
      (J.stop i H ∧ D.nx σ H) ∨ (J.go i H ∧ ∃ N : St → Hp → Prop, (∀ σ' H', N σ' H' → ∃ m', m' < m ∧ Wv (i + 1) m' σ' H') ∧ ∀ x H', J.yld i H x H' → tg x σ H' fun σ2 H2 => tb { D with nx := N, ct := N, bk := D.nx } σ2 H2) := by
  intro hG
  have step : ∀ (i m : Nat) (μ1 : List Addr) (H1 : Hp) (σ1 : St) (en1 : En) (L1 : Sto), i + m = src.num → Ext μ H μ1 H1 → SRep g μ1 H1 σ1 en1 (F ++ L1) → SPo g F μ1 H1 (forM src G body F m en1 L1) D W →
      (J.stop i H1 ∧ D.nx σ1 H1) ∨ (J.go i H1 ∧ ∃ N : St → Hp → Prop, (∀ σ' H', N σ' H' → ∃ m', m' < m ∧ ∃ μ2 en2 L2, (i + 1) + m' = src.num ∧ Ext μ H μ2 H' ∧ SRep g μ2 H' σ' en2 (F ++ L2) ∧ SPo g F μ2 H' (forM src G body F m' en2 L2) D W) ∧ ∀ x H', J.yld i H1 x H' → tg x σ1 H' fun σ2 H2 => tb { D with nx := N, ct := N, bk := D.nx } σ2 H2) := by
    intro i m μ1 H1 σ1 en1 L1 him x1 s1 p1
    cases m with
    | zero =>
      have p1' : SPo g F μ1 H1 (if src.fin (F ++ L1) then .nx en1 L1 else .bad) D W := p1
      split at p1'
      · rename_i hf
        have hi : i = src.num := by omega
        subst hi
        exact .inl ⟨(rj μ1 H1 x1 _ s1.sto).2 hf, SPo.nx p1' s1⟩
      · exact p1'.elim
    | succ m =>
      have hi : src.num - (m + 1) = i := by omega
      unfold forM at p1
      rw [hi] at p1
      cases e : src.item i (F ++ L1) with
      | none => rw [e] at p1; exact p1.elim
      | some d =>
        rw [e] at p1
        replace p1 : SPo g F μ1 H1 (turnK ((G F d en1 L1).next fun en1 L1 => body F en1 L1) fun en2 L2 => forM src G body F m en2 L2) D W := p1
        obtain ⟨go, yl⟩ := (rj μ1 H1 x1 _ s1.sto).1 i d (by omega) e
        refine .inr ⟨go, fun σ' H' => ∃ μ2 en2 L2, (i + 1) + m = src.num ∧ Ext μ H μ2 H' ∧ SRep g μ2 H' σ' en2 (F ++ L2) ∧ SPo g F μ2 H' (forM src G body F m en2 L2) D W, fun σ' H' n => ⟨m, Nat.lt_succ_self m, n⟩, fun x H' hy => ?_⟩
        obtain ⟨μ2, x2, s2, r2⟩ := yl x H' hy
        have s2' := s1.mono x2 s2
        refine hg F μ2 H' σ1 en1 L1 d x { D with nx := fun σ2 H2 => tb { nx := fun σ' H' => ∃ μ2 en2 L2, (i + 1) + m = src.num ∧ Ext μ H μ2 H' ∧ SRep g μ2 H' σ' en2 (F ++ L2) ∧ SPo g F μ2 H' (forM src G body F m en2 L2) D W, rt := D.rt, bk := D.nx, ct := fun σ' H' => ∃ μ2 en2 L2, (i + 1) + m = src.num ∧ Ext μ H μ2 H' ∧ SRep g μ2 H' σ' en2 (F ++ L2) ∧ SPo g F μ2 H' (forM src G body F m en2 L2) D W } σ2 H2 } s2' r2 ?_
        have p2 := SPo.ext x2 p1
        cases eG : G F d en1 L1 with
        | nx en2 L2 =>
          rw [eG] at p2
          intro μ3 H3 σ3 x3 s3
          refine hb F μ3 H3 σ3 en2 L2 _ s3 ?_
          have p3 : SPo g F μ3 H3 (turnK (body F en2 L2) fun en2 L2 => forM src G body F m en2 L2) D W := SPo.ext x3 p2
          cases eB : body F en2 L2 with
          | nx en3 L3 => rw [eB] at p3; exact fun μ4 H4 σ4 x4 s4 => ⟨μ4, en3, L3, by omega, ((x1.trans x2).trans x3).trans x4, s4, SPo.ext x4 p3⟩
          | ct en3 L3 => rw [eB] at p3; exact fun μ4 H4 σ4 x4 s4 => ⟨μ4, en3, L3, by omega, ((x1.trans x2).trans x3).trans x4, s4, SPo.ext x4 p3⟩
          | bk en3 L3 => rw [eB] at p3; exact p3
          | rt d3 L3 => rw [eB] at p3; exact p3
          | err e3 en3 L3 => rw [eB] at p3; exact p3
          | bad => rw [eB] at p3; exact p3
        | rt d2 L2 => rw [eG] at p2; exact p2
        | bk en2 L2 => exact absurd eG (hG d en1 L1 en2 L2).1
        | ct en2 L2 => exact absurd eG (hG d en1 L1 en2 L2).2
        | err e2 en2 L2 => rw [eG] at p2; exact p2
        | bad => rw [eG] at p2; exact p2
  refine ⟨fun i m σ1 H1 => ∃ μ1 en1 L1, i + m = src.num ∧ Ext μ H μ1 H1 ∧ SRep g μ1 H1 σ1 en1 (F ++ L1) ∧ SPo g F μ1 H1 (forM src G body F m en1 L1) D W, ⟨src.num, μ, en, L, by omega, .refl, s, h⟩, ?_⟩
  rintro i m σ1 H1 ⟨μ1, en1, L1, him, x1, s1, p1⟩
  exact step i m μ1 H1 σ1 en1 L1 him x1 s1 p1
/-- a target gives no break -/
def Calm (G : GM) : Prop := ∀ F d en L en' L', G F d en L ≠ .bk en' L' ∧ G F d en L ≠ .ct en' L'
def CalmS (G : GMs) : Prop := ∀ F d en L en' L', G F d en L ≠ .bk en' L' ∧ G F d en L ≠ .ct en' L'
theorem calm_name {i : Nat} : Calm (nameG i) := fun _ _ _ _ _ _ => ⟨nofun, nofun⟩
theorem calm_nil : CalmS nilG := fun F d en L en' L' => by cases d <;> exact ⟨nofun, nofun⟩
theorem calm_cons {G : GM} {K : GMs} (h2 : CalmS K) : CalmS (consG G K) := fun F d en L en' L' => by
  cases d with
  | nil => exact ⟨nofun, nofun⟩
  | cons d r =>
    show (match G F d en L with | .nx en1 L1 => K F r en1 L1 | _ => .bad) ≠ _ ∧ (match G F d en L with | .nx en1 L1 => K F r en1 L1 | _ => .bad) ≠ _
    cases G F d en L with
    | nx en1 L1 => exact h2 F r en1 L1 en' L'
    | _ => exact ⟨nofun, nofun⟩
theorem calm_tup {n : Nat} {K : GMs} (h : CalmS K) : Calm (tupG n K) := fun F d en L en' L' => by
  cases d with
  | tup ds =>
    show (if ds.length = n then K F ds en L else .bad) ≠ _ ∧ (if ds.length = n then K F ds en L else .bad) ≠ _
    split
    · exact h F ds en L en' L'
    · exact ⟨nofun, nofun⟩
  | _ => exact ⟨nofun, nofun⟩
theorem ms_for {tg iter : Expr} {body : List Stmt} {fi : IM} {G : GM} {fb : SM} {pos : Pos} (hp : PassesOwn (model X.prog X.w) X.A X.env X.xe) (hc : X.calm = true) (cG : Calm G) (hi : MI g X W tg iter fi) (hg : MG g X W tg G) (hb : MB g X W body fb)
    (hps : ∀ wi t tb, PI X tg iter wi → PG X tg t → PSs X body tb → PS X (.For tg iter body [] pos) (tFor wi t tb)) : MS g X W (.For tg iter body [] pos) (forS fi G fb) := by
  obtain ⟨wi, p1, q1⟩ := hi
  obtain ⟨t, p2, q2⟩ := hg
  obtain ⟨tb, p3, q3⟩ := hb
  refine ⟨_, hps wi t tb p1 p2 p3, fun F μ H σ en L D s h => ?_⟩
  refine q1 F μ H σ en L _ s (SPo.bind s h fun src L1 μ1 H1 J x r s1 h1 => ?_)
  exact for_po r q2 q3 s1 h1 trivial (fun d en L en' L' => cG F d en L en' L')
def whileM (c : TM) (body : SM) (F : Sto) : Nat → En → Sto → SR
  | 0, _, _ => .bad
  | m + 1, en, L => (c F en L).toS en fun b L1 => if b = true then turnK (body F en L1) (fun en2 L2 => whileM c body F m en2 L2) else .nx en L1
def whileS (fu : Nat) (c : TM) (body : SM) : SM := fun F en L => whileM c body F fu en L
theorem ms_while {c : Expr} {body : List Stmt} {tc : TM} {fb : SM} {pos : Pos} (fu : Nat) (hp : PassesOwn (model X.prog X.w) X.A X.env X.xe) (hc : MT g X W c tc) (hb : MB g X W body fb) : MS g X W (.While c body [] pos) (whileS fu tc fb) := by
  obtain ⟨t, p1, q1⟩ := hc
  obtain ⟨tb, p3, q3⟩ := hb
  refine ⟨_, ps_while hp p1 p3, fun F μ H σ en L D s h => ?_⟩
  refine ⟨fun m σ1 H1 => ∃ μ1 en1 L1, Ext μ H μ1 H1 ∧ SRep g μ1 H1 σ1 en1 (F ++ L1) ∧ SPo g F μ1 H1 (whileM tc fb F m en1 L1) D W, ⟨fu, μ, en, L, .refl, s, h⟩, ?_⟩
  rintro m σ1 H1 ⟨μ1, en1, L1, x1, s1, p⟩
  cases m with
  | zero => exact p.elim
  | succ m =>
    refine q1 F μ1 H1 σ1 en1 L1 _ s1 (SPo.bind s1 p fun b L2 μ2 H2 k x2 r s2 h2 => ?_)
    cases r
    cases b with
    | false => rw [if_neg Bool.false_ne_true] at h2 ⊢; exact SPo.nx h2 s2
    | true =>
      rw [if_pos rfl] at h2 ⊢
      refine ⟨fun σ' H' => ∃ μ3 en3 L3, Ext μ H μ3 H' ∧ SRep g μ3 H' σ' en3 (F ++ L3) ∧ SPo g F μ3 H' (whileM tc fb F m en3 L3) D W, fun σ' H' n => ⟨m, Nat.lt_succ_self m, n⟩, ?_⟩
      refine q3 F μ2 H2 σ1 en1 L2 _ s2 ?_
      cases eB : fb F en1 L2 with
      | nx en3 L3 => rw [eB] at h2; exact fun μ4 H4 σ4 x4 s4 => ⟨μ4, en3, L3, (x1.trans x2).trans x4, s4, SPo.ext x4 h2⟩
      | ct en3 L3 => rw [eB] at h2; exact fun μ4 H4 σ4 x4 s4 => ⟨μ4, en3, L3, (x1.trans x2).trans x4, s4, SPo.ext x4 h2⟩
      | bk en3 L3 => rw [eB] at h2; exact h2
      | rt d3 L3 => rw [eB] at h2; exact h2
      | err e3 en3 L3 => rw [eB] at h2; exact h2
      | bad => rw [eB] at h2; exact h2
end
end MI
end SMiC
section SMiG
set_option Elab.async false
set_option linter.all false
set_option maxRecDepth 100000
set_option maxHeartbeats 4000000
/-! MiG: promises of defs where no repr is under way (its guards are empty), so that repr of data may be asked. -/
namespace MI
open PySem L2 PyProof.Rows
section
variable {P : Program} {w : World} {K : PySem.W.Frag} {mg : Str → Option Value} {base : Heap}
/-- a def's promise, told of surroundings without guards -/
structure FnG (P : Program) (w : World) (K : PySem.W.Frag) (mg : Str → Option Value) (base : Heap) (j : Nat) (f : Addr) (fd : FuncData) (ps : List Str) (sp : Sp) : Prop where
  size : ∀ vs H Q E, sp vs H Q E → vs.length = ps.length
  does : ∀ (A : Around) (out : List Env) (s : Shared) (H : Hp) (ar : Args) (us : List Value) (vs : List V) (Q : VK) (E : XK), Room j A → A.guards = some [] → Env0 P w K mg base A out s H → BindsTo s fd ar (ps.zip us) → Vals vs us →
    sp vs H Q E → codeAny (model P w) A (.call (.ref f) ar) (CR (L2.CX P w) out P w H s Q E) s
theorem FnG.up {i j : Nat} {f : Addr} {fd : FuncData} {ps : List Str} {sp : Sp} (F : FnG P w K mg base i f fd ps sp) (h : i ≤ j) : FnG P w K mg base j f fd ps sp :=
  ⟨F.size, fun A out s H ar us vs Q E r => F.does A out s H ar us vs Q E (r.mono h)⟩
theorem guards_deeper {A : Around} {env : Env} (h : A.guards = some []) : (A.deeper env).guards = some [] := h
theorem guards_make {A : Around} {C : Addr} {us : List Value} {kw : List (Str × Value)} (h : A.guards = some []) : (A.under (.builtin "type.__call__" ⟨.ref C :: us, kw⟩)).guards = some [] := by
  first | exact h | (simp [Around.under, Code.guards, Code.isGuard, guardIds, pushGuards, h])
/-- the body shown, the def keeps its promise -/
theorem fng_of {x qual : Str} {st : Stmt} {f : Addr} {fd : FuncData} {N ps : List Str} {j : Nat} {sp : Sp} (FF : Fun K x qual st f fd) (S : FnScope N ps (defScope st)) (sz : ∀ vs H Q E, sp vs H Q E → vs.length = ps.length)
    (bd : ∀ (cd : Value) (A : Around) (out : List Env) (s : Shared) (H : Hp) (vs : List V) (Q : VK) (E : XK), Room j (A.deeper (envOfC qual (defScope st) s.heap.objs.size f cd)) → A.guards = some [] → sp vs H Q E →
      ∃ t, PSs (cxOf (L2.CX P w) P w K mg base N qual (defScope st) f cd A out s H E) (defBody st) t ∧ t { nx := fun _ H' => Q .non H', rt := Q } (L2.start N vs) H) : FnG P w K mg base (j + 1) f fd ps sp := by
  obtain ⟨oc, od, kV, doc, pm, an, cd, ct, osl, rfl, lk, cok⟩ := FF.ex
  constructor
  · exact sz
  intro A out s H ar us vs Q E rm gu e0 bt rv hs
  have same : ∀ b o, base.get? b = some o → s.heap.get? b = some o := fun b o e => (e0.bs b o e).1
  have KH : K.In s.heap := e0.mod.kin.keeps same
  have kinds : ∀ y ∈ ps.zip us, (defScope st).names.lookup y.1 = some .local ∨ ((defScope st).names.lookup y.1 = some .cell ∧ ((cellsFrom (s.heap.objs.size + 1) (defScope st).names []).lookup y.1).isSome = true) := by
    rintro ⟨n, v⟩ hy
    rcases S.par n (List.of_mem_zip hy).1 with q | q
    · left; exact q
    · right; exact ⟨q, PySem.W.cellsFrom_some _ _ _ (.inl q)⟩
  refine codeAny_call_function rm.depth (KH _ _ lk) rfl S.co S.gen rfl (PySem.W.codeRec_of KH cok) (bt _ _ _ _ ?_)
  refine wpAny_newFunctionEnv_cells S.kind kinds fun env he s1 ic => ?_
  subst he
  refine ⟨(e0.mod.nolimit.keeps same).keeps ic.toInCall.keep, codeAny_func ?_⟩
  obtain ⟨t, pt, tt⟩ := bd cd A out s H vs Q E (rm.deeper _) gu hs
  refine wpAny_mono (pt.run [] s1 (L2.start N vs) H _ (inv_start S rm.hd e0 (sz _ _ _ _ hs) rv ic) tt) (fun fl s' q => ?_) fun e s' q => q
  cases fl with
  | ret u => obtain ⟨v, σ', H', J, r, q⟩ := q; exact ⟨v, H', J.os, J.bare, J.base, J.hok, r, q⟩
  | next => obtain ⟨σ', H', J, q⟩ := q; exact ⟨V.non, H', J.os, J.bare, J.base, J.hok, rfl, q⟩
  | brk => obtain ⟨_, _, _, q⟩ := q; exact False.elim q
  | cont => obtain ⟨_, _, _, q⟩ := q; exact False.elim q
end

section
variable {X : Cx} {j : Nat} {f C : Addr} {fd : FuncData} {ps : List Str} {sp : Sp} {E : L2.St → XK} {E0 : XK} {ds : List Value} {dvs : List V}
theorem run_g {pins : List (Addr × Obj)} {σ : L2.St} {H : Hp} {s : Shared} {Q : VK} {us : List Value} {vs : List V} (F : FnG X.prog X.w X.K X.mg X.base j f fd ps sp) (rm : Room j X.A) (gu : X.A.guards = some []) (hb : Binds X.K fd ps ds) (hd : Vals dvs ds)
    (hx : PassesAt (L2.CX X.prog X.w) X σ (E σ)) (I : Inv X pins σ H s) (r : Vals vs us) (h : sp (vs ++ dvs) H Q (E σ)) : wpAny (model X.prog X.w) X.A (call (.ref f) us) (EP X pins σ Q) X.xe s := by
  have rr : Vals (vs ++ dvs) (us ++ ds) := r.append hd
  have ll : (us ++ ds).length = ps.length := rr.length.symm.trans (F.size _ _ _ _ h)
  refine wpAny_call (codeAny_mono (F.does X.A X.stack s H ⟨us, []⟩ (us ++ ds) (vs ++ dvs) Q (E σ) rm gu I.env0 (hb s us I.kIn ll) rr h) ?_)
  intro res s' q
  cases res with
  | error e => exact hx pins H s e s' I q
  | ok fl =>
    cases fl with
    | ret u => exact I.after q
    | _ => exact False.elim q
theorem pe_callG {x : Str} {p pos : Pos} {e : Expr} {es : List Expr} {t : TA} (F : FnG X.prog X.w X.K X.mg X.base j f fd ps sp) (rm : Room j X.A) (gu : X.A.guards = some []) (hg : Gl X x) (hm : X.mg x = some (.ref f)) (kp : PySem.W.keepIn X.K (.ref f) = true) (hb : Binds X.K fd ps ds) (hd : Vals dvs ds)
    (hx : ∀ σ, PassesAt (L2.CX X.prog X.w) X σ (E σ)) (ha : PA X (e :: es) t) (n1 : (x == ("__debug__" : Str)) = false) (n2 : starEach (e :: es) X.env = (false, eval e X.env) :: starEach es X.env) (n3 : (backTo pos (starEach es X.env)).any (·.1) = false) :
    PE X (.Call (.Name x p) (e :: es) [] pos) (tCallSD sp dvs E t) := by
  constructor
  intro pins s σ H Q I h
  refine wpAny_Call_Name_kw (ld_glob I hg hm (PySem.W.callWith_K (h₀ := X.base) I.ok.mod.kin kp (thn (ha.run pos pins s σ H _ I h) ?_) n2 n3) n1)
  rintro us s1 ⟨vs, H1, I1, r, q⟩
  exact ⟨I1.kIn, run_g F rm gu hb hd (hx σ) I1 r q⟩
theorem pe_callG0 {x : Str} {p pos : Pos} (F : FnG X.prog X.w X.K X.mg X.base j f fd ps sp) (rm : Room j X.A) (gu : X.A.guards = some []) (hg : Gl X x) (hm : X.mg x = some (.ref f)) (kp : PySem.W.keepIn X.K (.ref f) = true) (hb : Binds X.K fd ps ds) (hd : Vals dvs ds)
    (hx : ∀ σ, PassesAt (L2.CX X.prog X.w) X σ (E σ)) (n1 : (x == ("__debug__" : Str)) = false) : PE X (.Call (.Name x p) [] [] pos) (tCallSD sp dvs E tNil) := by
  constructor
  intro pins s σ H Q I h
  exact wpAny_Call_Name_kw (ld_glob I hg hm (PySem.W.callWith_K0 I.kIn kp (run_g (us := []) (vs := []) F rm gu hb hd (hx σ) I .nil h)) n1)
/-- a method of an instance of the class at C -/
def tMethG (C : Addr) (m : Str) (sp : Sp) (dvs : List V) (E : L2.St → XK) (ta : TE) (t : TA) : TE := fun σ H Q => ta σ H fun x H1 => ∃ a dx fs, x = .ref a ∧ H1 a = some (.ins C dx fs) ∧ fs.lookup m = none ∧ t σ H1 fun vs H2 => sp (x :: (vs ++ dvs)) H2 Q (E σ)
/-- how a method's call is evaluated -/
def MethForm (X : Cx) (o : Expr) (m : Str) (es : List Expr) (apos pos : Pos) : Prop := ∃ pl : Sem Bool, eval (.Call (.Attribute o m apos) es [] pos) X.env = (do
  let ov ← eval o X.env
  standAt apos.atName
  let (f, first) ← holding [ov] (getMethod ov m pl)
  callWith pos f first (backTo pos (starEach es X.env)) (backToKw pos (keywordEach [] X.env)))
theorem pe_methG {m : Str} {pos apos : Pos} {e o : Expr} {es : List Expr} {ta : TE} {t : TA} (ho : PE X o ta) (hc : Cls X.K C) (hm : Meth X.K C m f) (F : FnG X.prog X.w X.K X.mg X.base j f fd ps sp) (rm : Room j X.A) (gu : X.A.guards = some []) (hb : Binds X.K fd ps ds) (hd : Vals dvs ds)
    (hx : ∀ σ, PassesAt (L2.CX X.prog X.w) X σ (E σ)) (ha : PA X (e :: es) t) (n2 : starEach (e :: es) X.env = (false, eval e X.env) :: starEach es X.env) (n3 : (backTo pos (starEach es X.env)).any (·.1) = false) (n4 : MethForm X o m (e :: es) apos pos) :
    PE X (.Call (.Attribute o m apos) (e :: es) [] pos) (tMethG C m sp dvs E ta t) := by
  obtain ⟨pl, n4⟩ := n4
  constructor
  intro pins s σ H Q I h
  refine PySem.W.methodCall_KW (pl := pl) (thn (ho.run pins s σ H _ I h) ?_) n4
  rintro u s1 ⟨x, H1, I1, rx, a, dx, fs, ex, ea, nl, q⟩
  subst ex
  have eu : u = Value.ref a := rx
  subst eu
  refine getmeth_ok I1 ea hc hm nl (PySem.W.callWith_K (first := [.ref a]) (h₀ := X.base) I.ok.mod.kin hm.kp (thn (ha.run pos pins s1 σ H1 _ I1 q) ?_) n2 n3)
  rintro us s2 ⟨vs, H2, I2, r, q2⟩
  exact ⟨I2.kIn, run_g (us := .ref a :: us) (vs := .ref a :: vs) F rm gu hb hd (hx σ) I2 (.cons rfl r) q2⟩
theorem pe_methG0 {m : Str} {pos apos : Pos} {o : Expr} {ta : TE} (ho : PE X o ta) (hc : Cls X.K C) (hm : Meth X.K C m f) (F : FnG X.prog X.w X.K X.mg X.base j f fd ps sp) (rm : Room j X.A) (gu : X.A.guards = some []) (hb : Binds X.K fd ps ds) (hd : Vals dvs ds)
    (hx : ∀ σ, PassesAt (L2.CX X.prog X.w) X σ (E σ)) (n4 : MethForm X o m [] apos pos) : PE X (.Call (.Attribute o m apos) [] [] pos) (tMethG C m sp dvs E ta tNil) := by
  obtain ⟨pl, n4⟩ := n4
  constructor
  intro pins s σ H Q I h
  refine PySem.W.methodCall_KW (pl := pl) (thn (ho.run pins s σ H _ I h) ?_) n4
  rintro u s1 ⟨x, H1, I1, rx, a, dx, fs, ex, ea, nl, q⟩
  subst ex
  have eu : u = Value.ref a := rx
  subst eu
  exact getmeth_ok I1 ea hc hm nl (PySem.W.callWith_K0 (first := [.ref a]) I1.kIn hm.kp (run_g (us := [.ref a]) (vs := [.ref a]) F rm gu hb hd (hx σ) I1 (.cons rfl .nil) q))
theorem make_g {pins : List (Addr × Obj)} {σ : L2.St} {H : Hp} {s : Shared} {Q : VK} {us : List Value} {vs : List V} (M : Mk X.K C f) (F : FnG X.prog X.w X.K X.mg X.base j f fd ps sp) (rm : Room (j + 1) X.A) (gu : X.A.guards = some []) (hb : Binds X.K fd ps ds) (hd : Vals dvs ds)
    (hx : Passes (L2.CX X.prog X.w) X E0) (I : Inv X pins σ H s) (r : Vals vs us)
    (h : ∀ x dx, H x = none → H dx = none → dx ≠ x → sp (.ref x :: (vs ++ dvs)) (upd (upd H dx (.own x)) x (.ins C dx [])) (fun v H2 => v = .non ∧ Q (.ref x) H2) E0) : wpAny (model X.prog X.w) X.A (call (.ref C) us) (EP X pins σ Q) X.xe s := by
  have q0 := h (s.heap.objs.size + 1) s.heap.objs.size (I.hok.fresh (Nat.le_succ _)) (I.hok.fresh (Nat.le_refl _)) (Nat.ne_of_lt (Nat.lt_succ_self _))
  have J := Inv.made (C := C) I
  have rr : Vals (V.ref (s.heap.objs.size + 1) :: (vs ++ dvs)) (Value.ref (s.heap.objs.size + 1) :: (us ++ ds)) := .cons rfl (r.append hd)
  have ll : (Value.ref (s.heap.objs.size + 1) :: us ++ ds).length = ps.length := rr.length.symm.trans (F.size _ _ _ _ q0)
  refine wpAny_call (make_map (f := f) I.kIn M.makes M.init (beq_iff_eq.mp M.fn) (codeAny_mono (F.does _ X.stack _ _ ⟨Value.ref (s.heap.objs.size + 1) :: us, []⟩ (Value.ref (s.heap.objs.size + 1) :: (us ++ ds)) _ _ E0 (rm.make C us []) (guards_make gu)
    (J.env0.make C us []) (hb _ (Value.ref (s.heap.objs.size + 1) :: us) J.kIn ll) rr q0) ?_))
  intro res s' q
  cases res with
  | error e => exact hx pins σ _ _ e s' J q
  | ok fl =>
    cases fl with
    | ret u =>
      obtain ⟨v, H', I3, rv, ev, q3⟩ := J.after q
      subst ev
      exact ⟨rv, V.ref (s.heap.objs.size + 1), H', I3, rfl, q3⟩
    | _ => exact False.elim q
theorem pe_makeG {x : Str} {p pos : Pos} {e : Expr} {es : List Expr} {t : TA} (M : Mk X.K C f) (F : FnG X.prog X.w X.K X.mg X.base j f fd ps sp) (rm : Room (j + 1) X.A) (gu : X.A.guards = some []) (hg : Gl X x) (hm : X.mg x = some (.ref C)) (hb : Binds X.K fd ps ds) (hd : Vals dvs ds)
    (hx : Passes (L2.CX X.prog X.w) X E0) (ha : PA X (e :: es) t) (n1 : (x == ("__debug__" : Str)) = false) (n2 : starEach (e :: es) X.env = (false, eval e X.env) :: starEach es X.env) (n3 : (backTo pos (starEach es X.env)).any (·.1) = false) :
    PE X (.Call (.Name x p) (e :: es) [] pos) (tMake C sp dvs E0 t) := by
  constructor
  intro pins s σ H Q I h
  refine wpAny_Call_Name_kw (ld_glob I hg hm (PySem.W.callWith_K (h₀ := X.base) I.ok.mod.kin M.kp (thn (ha.run pos pins s σ H _ I h) ?_) n2 n3) n1)
  rintro us s1 ⟨vs, H1, I1, r, q⟩
  exact ⟨I1.kIn, make_g M F rm gu hb hd hx I1 r q⟩
theorem pe_makeG0 {x : Str} {p pos : Pos} (M : Mk X.K C f) (F : FnG X.prog X.w X.K X.mg X.base j f fd ps sp) (rm : Room (j + 1) X.A) (gu : X.A.guards = some []) (hg : Gl X x) (hm : X.mg x = some (.ref C)) (hb : Binds X.K fd ps ds) (hd : Vals dvs ds)
    (hx : Passes (L2.CX X.prog X.w) X E0) (n1 : (x == ("__debug__" : Str)) = false) : PE X (.Call (.Name x p) [] [] pos) (tMake C sp dvs E0 tNil) := by
  constructor
  intro pins s σ H Q I h
  exact wpAny_Call_Name_kw (ld_glob I hg hm (PySem.W.callWith_K0 I.kIn M.kp (make_g (us := []) (vs := []) M F rm gu hb hd hx I .nil h)) n1)
end

/-! ### the law's end -/
/-- the script stands for itself alone -/
theorem end_g {P : Program} {w : World} {K : PySem.W.Frag} {mg mb : Str → Option Value} {j : Nat} {fa a : Addr} {fd : FuncData} {x : Str} {sp : Sp} {s : Shared} {H : Hp} (KX : K.In s.heap) (n1 : s.heap.Ns mainGlobals mg) (n2 : s.heap.Ns builtinsNs mb) (n3 : ∀ x : Str, x ≠ "__name__" → mb x = bootBuiltins x)
    (n4 : s.heap.NoLimit) (n6 : s.heap.NoDigits) (n5 : s.gens = #[]) (rm : Room j callerA) (ok : HOk P w H s.heap) (only : Only H) (kn : ∀ b, (K.lookup b).isSome = true → H b = none) (dn : ∀ b o es ep, s.heap.get? b = some o → o.data = .dict es ep → H b = none)
    (F : ∀ base : Heap, K.In base → base.Ns mainGlobals mg → base.NoDigits → FnG P w K mg base j fa fd [x] sp) (bt : ∀ (s : Shared) (u : Value), BindsTo s fd ⟨[u], []⟩ [(x, u)]) (hs : sp [.ref a] H (fun v _ => v = .bl true) fun _ _ _ => False) :
    codeAny (model P w) callerA (.call (.ref fa) ⟨[.ref a], []⟩) (fun r s' => r = .ok (.ret (.bool true)) ∧ OldK s.heap s'.heap ∧ s'.os = s.os ∧ AllBare s'.gens) s := by
  have ns : ∀ {b : Addr} {m : Str → Option Value}, s.heap.Ns b m → (hidT s.heap H).Ns b m := by
    rintro b m ⟨o, es, ep, e, d, r⟩
    exact ⟨o, es, ep, hidT_get e (dn b o es ep e d), d, r⟩
  have kb : K.In (hidT s.heap H) := fun b o e => hidT_get (KX b o e) (kn b (by rw [e]; rfl))
  have md : Mod K mg (hidT s.heap H) := ⟨kb, ns n1, ⟨mb, ns n2, n3⟩, by obtain ⟨mc, h1, h2⟩ := n4; exact ⟨mc, ns h1, h2⟩⟩
  have e0 : Env0 P w K mg (hidT s.heap H) callerA [] s H := ⟨rfl, md, fun b o e => of_hidT e, Nat.le_of_eq (hidT_size _ _), trivial, fun b hb => (by cases hb), ok, .of_eq n5⟩
  refine codeAny_mono ((F _ kb (ns n1) (by obtain ⟨mc, h1, h2⟩ := n6; exact ⟨mc, ns h1, h2⟩)).does callerA [] s H ⟨[.ref a], []⟩ [.ref a] [.ref a] _ _ rm rfl e0 (bt s (.ref a)) (.cons rfl .nil) hs) ?_
  intro res s' q
  cases res with
  | error e => obtain ⟨_, _, _, _, _, _, _, _, _, _, _, _, f⟩ := q; exact False.elim f
  | ok fl =>
    cases fl with
    | ret u =>
      obtain ⟨v, H', os, bare, un, ok', rv, qv⟩ := q
      have qv' : v = .bl true := qv
      subst qv'
      have eu : u = Value.bool true := rv
      subst eu
      refine ⟨rfl, OldK.of_keep ?_, os, bare⟩
      intro b o e
      rcases only b with z | ⟨ob, xs, z⟩
      · exact un.keep b o e z (fun m => by cases m) (fun m => by cases m)
      · obtain ⟨e1, _⟩ := ok b _ z
        obtain ⟨e2, _⟩ := ok' b _ (un.frzs b ob _ z)
        rw [e1] at e
        cases e
        exact e2
    | _ => exact False.elim q
theorem walk_g {l : PySem.W.OpenLaw} {n j : Nat} {q : Program} {loose : List Str} {XP : (Str → Option Value) → Heap → Prop} {YP : World → Heap → Prop} {d : DefRec} {K : Params → PySem.W.Frag} {sp : PySem.W.Frag → Sp} {x : Str}
    (hn : l.most = some n) (hz : n ≤ sizeLine) (hdf : d.params.defaults = []) (rm : Room j callerA) (hY : ∀ (w : World) (h : Heap), YP w h → (K w.params).In h)
    (F : ∀ (w : World) (mg : Str → Option Value) (fa : Addr) (h : Heap), (K w.params).In h → h.Ns mainGlobals mg → mg d.name = some (.ref fa) →
      ∃ fd : FuncData, (∀ (s : Shared) (u : Value), BindsTo s fd ⟨[u], []⟩ [(x, u)]) ∧ ∀ base : Heap, (K w.params).In base → base.Ns mainGlobals mg → base.NoDigits → FnG l.prog w (K w.params) mg base j fa fd [x] (sp (K w.params)))
    (hsp : ∀ (K : PySem.W.Frag) (H : Hp) (a : Addr) (ns : List Int), ns.length ≤ n → Only H → FzL K H a (ns.map V.int) → sp K [.ref a] H (fun v _ => v = .bl true) fun _ _ _ => False) :
    PySem.W.WalkO q loose XP YP l.row.toRowW d [] (fun f vs => PySem.call f vs) := by
  refine Att.attach_call hn hdf ?_
  intro w s₀ s₁ mg mb fa o pm cd doc a vs ns G Y ho hd hcd hmg obj hin len ge
  have KX := hY w _ Y
  obtain ⟨fd, bt, FF⟩ := F w mg fa _ KX G.T.g hmg
  have rv := vals_ints hin
  have lv := hin.length
  have hl : ns.length ≤ sizeLine := Nat.le_trans len hz
  cases hk : (K w.params).lookup a with
  | some ob =>
    have e := KX a ob hk
    rw [obj] at e
    cases e
    refine end_g (H := fun _ => none) KX G.T.g G.T.b G.T.builtins G.T.nolimit G.T.nodigits ge rm (fun b u z => by cases z) (fun b => .inl rfl) (fun b _ => rfl) (fun _ _ _ _ _ _ => rfl) FF bt ?_
    exact hsp (K w.params) (fun _ => none) a ns len (fun b => .inl rfl) (.inr ⟨_, vs.toArray, _, hk, rfl, rfl, rfl, by rw [List.size_toArray, lv]; exact hl, by simpa using rv⟩)
  | none =>
    let Hs : Hp := fun b => if b = a then some (.frz { cls := .type "list", data := .seq vs.toArray } (.lst (ns.map V.int))) else none
    have hsa : Hs a = some (.frz { cls := .type "list", data := .seq vs.toArray } (.lst (ns.map V.int))) := if_pos rfl
    have hsn : ∀ b, b ≠ a → Hs b = none := fun b h => if_neg h
    have on : Only Hs := fun b => by
      by_cases h : b = a
      · subst h; exact .inr ⟨_, _, hsa⟩
      · exact .inl (hsn b h)
    refine end_g (H := Hs) KX G.T.g G.T.b G.T.builtins G.T.nolimit G.T.nodigits ge rm (fun b u z => ?_) on (fun b h => hsn b fun z => ?_) (fun b o es ep e1 e2 => hsn b fun z => ?_) FF bt (hsp (K w.params) Hs a ns len on (.inl ⟨_, hsa⟩))
    · by_cases h : b = a
      · subst h
        rw [hsa] at z
        cases z
        exact ⟨obj, by rw [List.length_map]; exact hl, vs, _, rv, obj⟩
      · rw [hsn b h] at z
        cases z
    · subst z
      rw [hk] at h
      cases h
    · subst z
      rw [obj] at e1
      cases e1
      cases e2
end MI
end SMiG
section SMiD
set_option Elab.async false
set_option linter.all false
set_option maxRecDepth 100000
set_option maxHeartbeats 4000000
namespace MI
open PySem L2 PyProof.Rows

/-! ### what is let go behind a call -/
def D.ltE (n : Nat) (e : Exc) : Bool := D.ltL n e.ds
def cutR (n k : Nat) (r : R D) : R D :=
  match r with
  | .ok d L => if D.lt n d && decide (k ≤ L.length) && (L.take k).all (MO.lt n) then .ok d (L.take k) else .bad
  | .err e L => if D.ltE n e && decide (k ≤ L.length) && (L.take k).all (MO.lt n) then .err e (L.take k) else .bad
  | .bad => .bad
def pureR (n : Nat) (L : Sto) (r : R D) : R D :=
  match r with
  | .ok d _ => if D.lt n d then .ok d L else .bad
  | .err e _ => if D.ltE n e then .err e L else .bad
  | .bad => .bad
section
variable {k : Gk} {F L : Sto} {μ : List Addr} {H : Hp} {Q : VK} {W : XK}
theorem XRep.back {t : List Addr} {e : Exc} {cls : Value} {dd : Option Addr} {H' : Hp} (h : XRep k (μ ++ t) H' e cls dd) (l : D.ltE μ.length e = true) : XRep k μ H' e cls dd := by
  obtain ⟨C, a, b, c⟩ := h
  refine ⟨C, a, b, ?_⟩
  rcases c with c | ⟨d, vs, e1, e2, e3, e4⟩
  · exact .inl c
  · exact .inr ⟨d, vs, e1, e2, e3, RepL.back _ _ e4 l⟩
theorem HS.lt (s : HS k μ H F) {n : Nat} {o : MO} (e : F[n]? = some o) : MO.lt μ.length o = true := by
  obtain ⟨a, _, r⟩ := s.ob n o e
  exact r.lt
theorem all_at {L : List MO} {p : MO → Bool} (h : L.all p = true) {n : Nat} {o : MO} (e : L[n]? = some o) : p o = true := List.all_eq_true.mp h o (List.mem_of_getElem? e)
theorem HS.cutAt {t : List Addr} {L' : Sto} {H' : Hp} (s : HS k μ H (F ++ L)) (h : HS k (μ ++ t) H' (F ++ L')) (hk : L.length ≤ L'.length) (hl : (L'.take L.length).all (MO.lt μ.length) = true) : HS k μ H' (F ++ L'.take L.length) := by
  refine h.cut ?_ fun n o e => ?_
  · rw [s.len, List.length_append, List.length_append, List.length_take]
    omega
  · by_cases hn : n < F.length
    · rw [List.getElem?_append_left hn] at e
      refine ⟨by rw [List.getElem?_append_left hn]; exact e, ?_⟩
      exact s.lt (n := n) (by rw [List.getElem?_append_left hn]; exact e)
    · rw [List.getElem?_append_right (by omega)] at e
      refine ⟨?_, all_at hl e⟩
      rw [List.getElem?_append_right (by omega)]
      rw [List.getElem?_take] at e
      split at e
      · exact e
      · cases e
theorem cut_po {r : R D} (s : HS k μ H (F ++ L)) (h : Po k (rE k) F μ H (cutR (F.length + L.length) L.length r) Q W) : Po k (rE k) F μ H r Q W := by
  have hm : F.length + L.length = μ.length := by rw [s.len, List.length_append]
  rw [hm] at h
  cases r with
  | ok d L' =>
    intro μ' H' v x rv hs
    obtain ⟨t, rfl⟩ := x.pre
    have h' : Po k (rE k) F μ H (if D.lt μ.length d && decide (L.length ≤ L'.length) && (L'.take L.length).all (MO.lt μ.length) then .ok d (L'.take L.length) else .bad) Q W := h
    split at h'
    · rename_i c
      rw [Bool.and_eq_true, Bool.and_eq_true] at c
      exact h' μ H' v ⟨⟨[], by simp⟩, x.keep⟩ (Rep.back _ _ rv c.1.1) (s.cutAt hs (of_decide_eq_true c.1.2) c.2)
    · exact h'.elim
  | err e L' =>
    intro μ' H' cls dd x rv hs
    obtain ⟨t, rfl⟩ := x.pre
    have h' : Po k (rE k) F μ H (if D.ltE μ.length e && decide (L.length ≤ L'.length) && (L'.take L.length).all (MO.lt μ.length) then .err e (L'.take L.length) else .bad) Q W := h
    split at h'
    · rename_i c
      rw [Bool.and_eq_true, Bool.and_eq_true] at c
      exact h' μ H' cls dd ⟨⟨[], by simp⟩, x.keep⟩ (XRep.back rv c.1.1) (s.cutAt hs (of_decide_eq_true c.1.2) c.2)
    · exact h'.elim
  | bad => exact h
theorem pure_po {r : R D} (s : HS k μ H (F ++ L)) (h : Po k (rE k) F μ H (pureR (F.length + L.length) L r) Q W) : Po k (rE k) (F ++ L) μ H r Q W := by
  have hm : F.length + L.length = μ.length := by rw [s.len, List.length_append]
  rw [hm] at h
  have back : ∀ {t : List Addr} {L' : Sto} {H' : Hp}, HS k (μ ++ t) H' (F ++ L ++ L') → HS k μ H' (F ++ L) := fun {t L' H'} hs =>
    hs.cut s.len fun n o e => ⟨by rw [List.getElem?_append_left (List.getElem?_eq_some_iff.mp e).1]; exact e, s.lt e⟩
  cases r with
  | ok d L' =>
    intro μ' H' v x rv hs
    obtain ⟨t, rfl⟩ := x.pre
    have h' : Po k (rE k) F μ H (if D.lt μ.length d then .ok d L else .bad) Q W := h
    split at h'
    · rename_i c
      exact h' μ H' v ⟨⟨[], by simp⟩, x.keep⟩ (Rep.back _ _ rv c) (back hs)
    · exact h'.elim
  | err e L' =>
    intro μ' H' cls dd x rv hs
    obtain ⟨t, rfl⟩ := x.pre
    have h' : Po k (rE k) F μ H (if D.ltE μ.length e then .err e L else .bad) Q W := h
    split at h'
    · rename_i c
      exact h' μ H' cls dd ⟨⟨[], by simp⟩, x.keep⟩ (XRep.back rv c) (back hs)
    · exact h'.elim
  | bad => exact h
end

/-! ### a def's promise -/
abbrev FM := List D → Sto → Sto → R D
inductive Md where
  | keep | pure | gc
def spM (k : Gk) (n : Nat) (m : FM) : Sp := fun vs H Q E => ∃ F L μ ds, RepL k μ H ds vs ∧ HS k μ H (F ++ L) ∧ ds.length = n ∧ Po k (rE k) F μ H (m ds F L) Q E
def callR (md : Md) (n : Nat) (m : FM) (ds : List D) (F L : Sto) : R D :=
  if ds.length = n then match md with
    | .keep => m ds F L
    | .pure => pureR (F.length + L.length) L (m ds (F ++ L) [])
    | .gc => cutR (F.length + L.length) L.length (m ds F L)
  else .bad
theorem call_sp {k : Gk} {F L : Sto} {μ : List Addr} {H : Hp} {Q : VK} {E : XK} {md : Md} {n : Nat} {m : FM} {ds : List D} {vs : List V} (s : HS k μ H (F ++ L)) (r : RepL k μ H ds vs) (h : Po k (rE k) F μ H (callR md n m ds F L) Q E) : spM k n m vs H Q E := by
  unfold callR at h
  split at h
  · rename_i hl
    cases md with
    | keep => exact ⟨F, L, μ, ds, r, s, hl, h⟩
    | pure => exact ⟨F ++ L, [], μ, ds, r, by rw [List.append_nil]; exact s, hl, pure_po s h⟩
    | gc => exact ⟨F, L, μ, ds, r, s, hl, cut_po s h⟩
  · exact False.elim h
def SR.fin (r : SR) : R D :=
  match r with
  | .nx _ L => .ok .non L
  | .rt d L => .ok d L
  | .err e _ L => .err e L
  | _ => .bad
def startD (n : Nat) (ds : List D) : En := ds.map Sl.d ++ List.replicate (n - ds.length) .no
def defM (n : Nat) (body : SM) : FM := fun ds F L => (body F (startD n ds) L).fin
def g0 (k : Gk) : Gc := ⟨k, fun _ _ => True, fun _ _ _ _ _ _ => trivial, none⟩
def WE0 (E : XK) : WX := fun c d _ H => E c d H
theorem start_env {k : Gk} {μ : List Addr} {H : Hp} {N : List Str} {ds : List D} {vs : List V} (r : RepL k μ H ds vs) (i : Nat) (d : D) (e : (startD N.length ds)[i]? = some (.d d)) : ∃ v, (L2.start N vs)[i]? = some (some v) ∧ Rep k μ H d v := by
  have hl := r.length
  unfold startD at e
  unfold L2.start
  by_cases hi : i < ds.length
  · rw [List.getElem?_append_left (by simpa using hi), List.getElem?_map] at e
    cases q : ds[i]? with
    | none => rw [q] at e; cases e
    | some d' =>
      rw [q] at e
      have e' : d' = d := by simpa using e
      subst e'
      obtain ⟨v, hv, rv⟩ := r.get q
      refine ⟨v, ?_, rv⟩
      rw [List.getElem?_append_left (by simpa using (List.getElem?_eq_some_iff.mp hv).1), List.getElem?_map, hv]
      rfl
  · rw [List.getElem?_append_right (by simpa using Nat.le_of_not_lt hi)] at e
    rw [List.getElem?_replicate] at e
    split at e <;> cases e
theorem start_ex {n : Nat} {ds : List D} (i : Nat) (e : (startD n ds)[i]? = some .ex) : False := by
  unfold startD at e
  rcases List.mem_append.mp (List.mem_of_getElem? e) with m | m
  · obtain ⟨d, _, q⟩ := List.mem_map.mp m
    cases q
  · cases (List.mem_replicate.mp m).2
/-- where a def's text runs: what is raised is taken, there is room, no repr is under way -/
structure Bd (g : Gc) (X : Cx) (W : WX) (j : Nat) : Prop where
  tk : Takes X W
  rm : Room (j + 1) X.A
  gu : X.A.guards = some []
  calm : X.calm = true
  K : X.K = g.k.K
theorem fn_ok {P : Program} {w : World} {k : Gk} {mg : Str → Option Value} {base : Heap} {x qual : Str} {st : Stmt} {f : Addr} {fd : FuncData} {N ps : List Str} {j : Nat} {body : SM} (FF : Fun k.K x qual st f fd) (S : FnScope N ps (defScope st))
    (hbody : ∀ (cdv : Value) (A : Around) (outer : List Env) (s : Shared) (H : Hp) (E : XK), Bd (g0 k) (cxOf (L2.CX P w) P w k.K mg base N qual (defScope st) f cdv A outer s H E) (WE0 E) j →
      MB (g0 k) (cxOf (L2.CX P w) P w k.K mg base N qual (defScope st) f cdv A outer s H E) (WE0 E) (defBody st) body) :
    FnG P w k.K mg base (j + 2) f fd ps (spM k ps.length (defM N.length body)) := by
  refine fng_of FF S (fun vs H Q E h => ?_) (fun cdv A outer s H vs Q E hr gu h => ?_)
  · obtain ⟨F, L, μ, ds, r, _, hl, _⟩ := h
    rw [r.length, hl]
  · obtain ⟨F, L, μ, ds, r, hs, hl, hp⟩ := h
    obtain ⟨t, p, q⟩ := hbody cdv A outer s H E ⟨takes_of rfl rfl rfl rfl, hr, gu, rfl, rfl⟩
    refine ⟨t, p, ?_⟩
    have hlen : (L2.start N vs).length = (startD N.length ds).length := by
      unfold L2.start startD
      simp [r.length]
    refine q F μ H _ (startD N.length ds) L _ ⟨hlen, fun i d e => start_env r i d e, fun i e => (start_ex i e).elim, hs, trivial⟩ ?_
    unfold defM at hp
    cases e : body F (startD N.length ds) L with
    | nx en L' => rw [e] at hp; exact fun μ' H' σ' x s' => hp μ' H' .non x rfl s'.sto
    | rt d L' => rw [e] at hp; exact fun μ' H' v x r s' => hp μ' H' v x r s'
    | bk en L' => rw [e] at hp; exact False.elim hp
    | ct en L' => rw [e] at hp; exact False.elim hp
    | err e2 en L' => rw [e] at hp; exact fun μ' H' σ' cls dd x r s' => hp μ' H' cls dd x r s'.sto
    | bad => rw [e] at hp; exact False.elim hp

/-! ### calls -/
section
variable {g : Gc} {X : Cx} {W : WX} {F L : Sto} {μ : List Addr} {H : Hp}
def callM (md : Md) (n : Nat) (m : FM) (fa : AM) : EM := fun F en L => (fa F en L).bind fun ds L1 => callR md n m ds F L1
/-- the constants that fill up -/
def moreA (dds : List D) (fa : AM) : AM := fun F en L => (fa F en L).bind fun ds L1 => .ok (ds ++ dds) L1
theorem more_po {dds : List D} {dvs : List V} {fa : AM} {ta : TA} (hdd : ∀ μ H, RepL g.k μ H dds dvs)
    (qa : ∀ F μ H σ en L Q, SRep g μ H σ en (F ++ L) → Po g.k (rA g.k) F μ H (fa F en L) Q (fun c d H' => W c d σ H') → ta σ H Q)
    {σ : L2.St} {en : En} {Q : List V → Hp → Prop} (s : SRep g μ H σ en (F ++ L)) (h : Po g.k (rA g.k) F μ H (moreA dds fa F en L) Q (fun c d H' => W c d σ H')) : ta σ H fun vs H1 => Q (vs ++ dvs) H1 :=
  qa F μ H σ en L _ s (Po.bind h fun ds L1 μ1 H1 vs x r s1 h1 => h1.now (r.append (hdd _ _)) s1)
theorem me_call {md : Md} {n j : Nat} {m : FM} {f : Addr} {fd : FuncData} {ps : List Str} {x : Str} {e : Expr} {es : List Expr} {fa : AM} {p pos : Pos} {dus : List Value} {dvs : List V} {dds : List D} (B : Bd g X W j) (hF : FnG X.prog X.w X.K X.mg X.base j f fd ps (spM g.k n m)) (hg : Gl X x)
    (hm : X.mg x = some (.ref f)) (hk : PySem.W.keepIn X.K (.ref f) = true) (hb : Binds X.K fd ps dus) (hd : Vals dvs dus) (hdd : ∀ μ H, RepL g.k μ H dds dvs) (ha : MA g X W (e :: es) fa)
    (n1 : (x == ("__debug__" : Str)) = false := by decide) (n2 : starEach (e :: es) X.env = (false, eval e X.env) :: starEach es X.env := by rfl) (n3 : (backTo pos (starEach es X.env)).any (·.1) = false := by rfl) : ME g X W (.Call (.Name x p) (e :: es) [] pos) (callM md n m (moreA dds fa)) := by
  obtain ⟨t, p, q⟩ := ha
  refine ⟨_, pe_callG hF (B.rm.mono (Nat.le_succ _)) B.gu hg hm hk hb hd (fun σ => passAt B.tk σ) p n1 n2 n3, fun F μ H σ en L Q s h => ?_⟩
  exact more_po hdd q s (Po.bind h fun ds L1 μ1 H1 vs x r s1 h1 => call_sp s1 r h1)
theorem me_call0 {md : Md} {n j : Nat} {m : FM} {f : Addr} {fd : FuncData} {ps : List Str} {x : Str} {p pos : Pos} {dus : List Value} {dvs : List V} {dds : List D} (B : Bd g X W j) (hF : FnG X.prog X.w X.K X.mg X.base j f fd ps (spM g.k n m)) (hg : Gl X x)
    (hm : X.mg x = some (.ref f)) (hk : PySem.W.keepIn X.K (.ref f) = true) (hb : Binds X.K fd ps dus) (hd : Vals dvs dus) (hdd : ∀ μ H, RepL g.k μ H dds dvs) (n1 : (x == ("__debug__" : Str)) = false := by decide) : ME g X W (.Call (.Name x p) [] [] pos) (callM md n m (moreA dds nilA)) := by
  refine ⟨_, pe_callG0 hF (B.rm.mono (Nat.le_succ _)) B.gu hg hm hk hb hd (fun σ => passAt B.tk σ) n1, fun F μ H σ en L Q s h => ?_⟩
  exact call_sp s.sto (hdd μ H) h

/-! ### attributes -/
def lookD (f : Str) : List (Str × D) → Option D
  | [] => none
  | (k, d) :: r => if k = f then some d else lookD f r
def putD (f : Str) (d : D) : List (Str × D) → List (Str × D)
  | [] => [(f, d)]
  | (k, e) :: r => if k = f then (k, d) :: r else (k, e) :: putD f d r
theorem repF_look {k : Gk} {f : Str} : ∀ {ds : List (Str × D)} {vs : List (Str × V)} {d : D}, RepF k μ H ds vs → lookD f ds = some d → ∃ v, vs.lookup f = some v ∧ Rep k μ H d v
  | [], _, _, _, e => by cases e
  | (k, d) :: r, _, d', ⟨v, vs, rfl, h1, h2⟩, e => by
    have e' : (if k = f then some d else lookD f r) = some d' := e
    by_cases hk : k = f
    · rw [if_pos hk] at e'
      cases e'
      subst hk
      exact ⟨v, by simp [List.lookup], h1⟩
    · rw [if_neg hk] at e'
      obtain ⟨v', a, b⟩ := repF_look h2 e'
      refine ⟨v', ?_, b⟩
      have : (f == k) = false := by simpa using fun z => hk z.symm
      simp only [List.lookup, this]
      exact a
theorem repF_none {k : Gk} {f : Str} : ∀ {ds : List (Str × D)} {vs : List (Str × V)}, RepF k μ H ds vs → lookD f ds = none → vs.lookup f = none
  | [], vs, h, _ => by rw [show vs = [] from h] <;> rfl
  | (k, d) :: r, _, ⟨v, vs, rfl, h1, h2⟩, e => by
    have e' : (if k = f then some d else lookD f r) = none := e
    by_cases hk : k = f
    · rw [if_pos hk] at e'
      cases e'
    · rw [if_neg hk] at e'
      have : (f == k) = false := by simpa using fun z => hk z.symm
      simp only [List.lookup, this]
      exact repF_none h2 e'
theorem repF_put {k : Gk} {f : Str} {d : D} {v : V} (hr : Rep k μ H d v) : ∀ {ds : List (Str × D)} {vs : List (Str × V)}, RepF k μ H ds vs → RepF k μ H (putD f d ds) (putF f v vs)
  | [], vs, h => by rw [show vs = [] from h]; exact ⟨v, [], rfl, hr, rfl⟩
  | (k, e) :: r, _, ⟨w, vs, rfl, h1, h2⟩ => by
    show RepF _ _ _ (if k = f then (k, d) :: r else (k, e) :: putD f d r) (if k = f then (k, v) :: vs else (k, w) :: putF f v vs)
    by_cases hk : k = f
    · rw [if_pos hk, if_pos hk]
      exact ⟨v, vs, rfl, hr, h2⟩
    · rw [if_neg hk, if_neg hk]
      exact ⟨w, _, rfl, h1, repF_put hr h2⟩
theorem RepF.length {k : Gk} : ∀ {ds : List (Str × D)} {vs : List (Str × V)}, RepF k μ H ds vs → vs.length = ds.length
  | [], vs, h => by rw [show vs = [] from h]; rfl
  | (k, e) :: r, _, ⟨w, vs, rfl, h1, h2⟩ => by simp [RepF.length h2]
def insAt (F L : Sto) (c : Nat) (d : D) : Option (Nat × List (Str × D)) := match d with
  | .loc n => match (F ++ L)[n]? with
    | some (.ins c' fs) => if c' = c then some (n, fs) else none
    | _ => none
  | _ => none
theorem Rep.ins {k : Gk} {d : D} {v : V} {c n : Nat} {fs : List (Str × D)} {C : Addr} (s : HS k μ H (F ++ L)) (r : Rep k μ H d v) (e : insAt F L c d = some (n, fs)) (hC : k.ct[c]? = some C) : d = .loc n ∧ ∃ a dx vs, v = .ref a ∧ μ[n]? = some a ∧ H a = some (.ins C dx vs) ∧ RepF k μ H fs vs ∧ (F ++ L)[n]? = some (.ins c fs) := by
  unfold insAt at e
  split at e
  · rename_i m
    split at e
    · rename_i c' fs' eS
      split at e
      · rename_i hc
        cases e
        subst hc
        obtain ⟨a, rfl, m⟩ := r
        obtain ⟨a', m', C', dx, vs, hC', ea, rf⟩ := s.ob _ _ eS
        rw [m] at m'
        cases m'
        rw [hC] at hC'
        cases hC'
        exact ⟨rfl, a, dx, vs, rfl, m, ea, rf, eS⟩
      · cases e
    · cases e
  · cases e
def fldM (c : Nat) (f : Str) (fe : EM) : EM := fun F en L => (fe F en L).bind fun d L1 => match insAt F L1 c d with
  | some (_, fs) => liftO (lookD f fs) L1
  | none => .bad
theorem me_fld {e : Expr} {fe : EM} {c : Nat} {C : Addr} {f : Str} {pos : Pos} (hK : X.K = g.k.K) (hC : g.k.ct[c]? = some C) (hcl : Cls X.K C) (hn : NoAttr X.K C f) (he : ME g X W e fe) (hb : attributeBase e f X.env (eval e X.env) = eval e X.env := by rfl) : ME g X W (.Attribute e f pos) (fldM c f fe) := by
  obtain ⟨t, p, q⟩ := he
  refine ⟨_, pe_fld p hb, fun F μ H σ en L Q s h => ?_⟩
  refine q F μ H σ en L _ s (h.bind fun d L1 μ1 H1 v x r s1 h1 => ?_)
  split at h1
  · rename_i n fs e
    obtain ⟨rfl, a, dx, vs, rfl, m, ea, rf, _⟩ := Rep.ins s1 r e hC
    cases el : lookD f fs with
    | none => rw [el] at h1; exact False.elim h1
    | some d' =>
      rw [el] at h1
      obtain ⟨w, lw, rw'⟩ := repF_look rf el
      exact ⟨a, C, dx, vs, w, rfl, ea, hcl, hn, lw, h1.now rw' s1⟩
  · exact False.elim h1
def wrL (F L : Sto) (n : Nat) (o : MO) : Option Sto := if F.length ≤ n then some (L.set (n - F.length) o) else none
/-- fields are written -/
theorem srep_ins {σ : L2.St} {en : En} {n c : Nat} {a dx C : Addr} {fs : List (Str × D)} {vs : List (Str × V)} {L' : Sto} (s : SRep g μ H σ en (F ++ L)) (e : μ[n]? = some a) (hC : g.k.ct[c]? = some C) (rf : RepF g.k μ H fs vs) (hw : wrL F L n (.ins c fs) = some L') (hm : IsMut (H a)) :
    Ext μ H μ (upd H a (.ins C dx vs)) ∧ SRep g μ (upd H a (.ins C dx vs)) σ en (F ++ L') := by
  unfold wrL at hw
  split at hw
  · rename_i hn
    cases hw
    have hs := s.sto.set (m := .ins c fs) (o := .ins C dx vs) e ⟨C, dx, vs, hC, upd_same, RepF.mono (Ext.mut hm) _ _ rf⟩
    rw [List.set_append_right _ _ hn] at hs
    exact ⟨.mut hm, s.mono (.mut hm) hs⟩
  · cases hw
def setfS (c : Nat) (f : Str) (fv fo : EM) : SM := fun F en L => ((fv F en L).bind fun y L1 => (fo F en L1).bind fun o L2 => .ok (y, o) L2).toS en fun yo L2 => match insAt F L2 c yo.2 with
  | some (n, fs) => if fs.length < 1000 then match wrL F L2 n (.ins c (putD f yo.1 fs)) with | some L3 => .nx en L3 | none => .bad else .bad
  | none => .bad
theorem ms_fld {o value : Expr} {fo fv : EM} {c : Nat} {C : Addr} {f : Str} {pos pos' : Pos} (hK : X.K = g.k.K) (hC : g.k.ct[c]? = some C) (hcl : Cls X.K C) (hn : NoAttr X.K C f) (ho : ME g X W o fo) (hv : ME g X W value fv)
    (hs : swapsWith value (some (.Attribute o f pos')) pos.line X.env = pure false := by rfl) : MS g X W (.Assign [.Attribute o f pos'] value pos) (setfS c f fv fo) := by
  obtain ⟨to, po, qo⟩ := ho
  obtain ⟨tv, pv, qv⟩ := hv
  refine ⟨_, ps_fld po pv hs, fun F μ H σ en L D s h => ?_⟩
  have h' : SPo g F μ H ((fv F en L).toS en fun y L1 => (fo F en L1).toS en fun o L2 => match insAt F L2 c o with
      | some (n, fs) => if fs.length < 1000 then match wrL F L2 n (.ins c (putD f y fs)) with | some L3 => .nx en L3 | none => .bad else .bad
      | none => .bad) D W := by
    unfold setfS at h
    cases e : fv F en L with
    | ok y L1 =>
      rw [e] at h
      cases e2 : fo F en L1 with
      | ok o L2 => simp only [R.bind, R.toS, e2] at h ⊢; exact h
      | err a b => simp only [R.bind, R.toS, e2] at h ⊢; exact h
      | bad => simp only [R.bind, R.toS, e2] at h ⊢; exact h
    | err a b => rw [e] at h; exact h
    | bad => rw [e] at h; exact h
  refine qv F μ H σ en L _ s (SPo.bind s h' fun y L1 μ1 H1 v x r s1 h1 => ?_)
  refine qo F μ1 H1 σ en L1 _ s1 (SPo.bind s1 h1 fun o L2 μ2 H2 w x2 r2 s2 h2 => ?_)
  split at h2
  · rename_i n fs e
    obtain ⟨rfl, a, dx, vs, rfl, m, ea, rf, _⟩ := Rep.ins s2.sto r2 e hC
    split at h2
    · rename_i hl
      split at h2
      · rename_i L3 ew
        obtain ⟨x3, s3⟩ := srep_ins (dx := dx) s2 m hC (repF_put (f := f) (Rep.mono x2 _ _ r) rf) ew (by rw [ea]; trivial)
        exact ⟨a, C, dx, vs, rfl, ea, hcl, hn, by rw [rf.length]; exact hl, h2 _ _ _ x3 s3⟩
      · exact False.elim h2
    · exact False.elim h2
  · exact False.elim h2
def augfS (c : Nat) (f : Str) (G : OF) (fo fv : EM) : SM := fun F en L => (fo F en L).toS en fun o L1 => match insAt F L1 c o with
  | some (n, fs) => match lookD f fs with
    | some d => ((fv F en L1).bind fun y L2 => G F d y L2).toS en fun z L3 => match insAt F L3 c o with
      | some (_, fs') => if fs'.length < 1000 then match wrL F L3 n (.ins c (putD f z fs')) with | some L4 => .nx en L4 | none => .bad else .bad
      | none => .bad
    | none => .bad
  | none => .bad
theorem ms_fldaug {o value : Expr} {fo fv : EM} {c : Nat} {C : Addr} {f : Str} {op : Operator} {G : OF} {pos tpos : Pos} (hK : X.K = g.k.K) (hC : g.k.ct[c]? = some C) (hcl : Cls X.K C) (hn : NoAttr X.K C f) (hop : OpM g X (inplaceOp op) G) (ho : ME g X W o fo) (hv : ME g X W value fv) :
    MS g X W (.AugAssign (.Attribute o f tpos) op value pos) (augfS c f G fo fv) := by
  obtain ⟨to, po, qo⟩ := ho
  obtain ⟨tv, pv, qv⟩ := hv
  obtain ⟨r, o1, o2⟩ := hop
  refine ⟨_, ps_fldaug (rd := r) po pv o1, fun F μ H σ en L D s h => ?_⟩
  refine qo F μ H σ en L _ s (SPo.bind s h fun o L1 μ1 H1 w x1 r1 s1 h1 => ?_)
  split at h1
  · rename_i n fs e
    obtain ⟨rfl, a, dx, vs, rfl, m, ea, rf, _⟩ := Rep.ins s1.sto r1 e hC
    split at h1
    · rename_i d el
      obtain ⟨u, lu, ru⟩ := repF_look rf el
      refine ⟨a, C, dx, vs, u, rfl, ea, hcl, hn, lu, ?_⟩
      refine qv F μ1 H1 σ en L1 _ s1 ?_
      refine Po.bind (rel2 := rE g.k) (Q2 := fun z H3 => ∃ dx' fs', H3 a = some (.ins C dx' fs') ∧ fs'.length < 1000 ∧ D.nx σ (upd H3 a (.ins C dx' (putF f z fs')))) (SPo.bind s1 h1 fun z L3 μ3 H3 zv x3 r3 s3 h3 => ?_) fun y L2 μ2 H2 yv x2 r2 s2 h2 => ?_
      · split at h3
        · rename_i n2 fs2 e2
          obtain ⟨q1, a2, dx2, vs2, q2, m2, ea2, rf2, _⟩ := Rep.ins s3.sto (Rep.mono x3 _ _ r1) e2 hC
          cases q1
          cases q2
          split at h3
          · rename_i hl
            split at h3
            · rename_i L4 ew
              obtain ⟨x4, s4⟩ := srep_ins (dx := dx2) s3 m2 hC (repF_put (f := f) r3 rf2) ew (by rw [ea2]; trivial)
              exact ⟨dx2, vs2, ea2, by rw [rf2.length]; exact hl, h3 _ _ _ x4 s4⟩
            · exact False.elim h3
          · exact False.elim h3
        · exact False.elim h3
      · exact o2 F μ2 H2 u yv d y L2 _ _ (Rep.mono x2 _ _ ru) r2 s2 h2
    · exact False.elim h1
  · exact False.elim h1

/-! ### methods, new instances -/
def methM (c : Nat) (nm : Str) (md : Md) (n : Nat) (m : FM) (fo : EM) (fa : AM) : EM := fun F en L => (fo F en L).bind fun o L1 => match insAt F L1 c o with
  | some (_, fs) => match lookD nm fs with
    | none => (fa F en L1).bind fun ds L2 => callR md n m (o :: ds) F L2
    | some _ => .bad
  | none => .bad
theorem meth_po {to : TE} {ta : TA} {fo : EM} {fa : AM} {c n : Nat} {C : Addr} {nm : Str} {md : Md} {m : FM} {dds : List D} {dvs : List V} (hC : g.k.ct[c]? = some C) (hdd : ∀ μ H, RepL g.k μ H dds dvs)
    (qo : ∀ F μ H σ en L Q, SRep g μ H σ en (F ++ L) → Po g.k (rE g.k) F μ H (fo F en L) Q (fun c d H' => W c d σ H') → to σ H Q)
    (qa : ∀ F μ H σ en L Q, SRep g μ H σ en (F ++ L) → Po g.k (rA g.k) F μ H (fa F en L) Q (fun c d H' => W c d σ H') → ta σ H Q)
    {σ : L2.St} {en : En} {Q : VK} (s : SRep g μ H σ en (F ++ L)) (h : Po g.k (rE g.k) F μ H (methM c nm md n m fo (moreA dds fa) F en L) Q (fun c d H' => W c d σ H')) : tMethG C nm (spM g.k n m) dvs (fun σ => WE W σ) to ta σ H Q := by
  refine qo F μ H σ en L _ s (Po.bind h fun o L1 μ1 H1 v x r s1 h1 => ?_)
  split at h1
  · rename_i n' fs e
    obtain ⟨rfl, a, dx, vs, rfl, m', ea, rf, _⟩ := Rep.ins s1 r e hC
    split at h1
    · rename_i el
      refine ⟨a, dx, vs, rfl, ea, repF_none rf el, ?_⟩
      refine more_po (Q := fun vs H2 => spM g.k n m (V.ref a :: vs) H2 Q (WE W σ)) hdd qa (s.mono x s1) (Po.bind h1 fun ds L2 μ2 H2 us x2 r2 s2 h2 => ?_)
      exact call_sp s2 (RepL.cons (Rep.mono x2 _ _ r) r2) h2
    · exact False.elim h1
  · exact False.elim h1
theorem me_meth {md : Md} {c n j : Nat} {C f : Addr} {m : FM} {fd : FuncData} {ps : List Str} {nm : Str} {e o : Expr} {es : List Expr} {fo : EM} {fa : AM} {pos apos : Pos} {dus : List Value} {dvs : List V} {dds : List D} (B : Bd g X W j) (hC : g.k.ct[c]? = some C) (hcl : Cls X.K C) (hm : Meth X.K C nm f)
    (hF : FnG X.prog X.w X.K X.mg X.base j f fd ps (spM g.k n m)) (hb : Binds X.K fd ps dus) (hd : Vals dvs dus) (hdd : ∀ μ H, RepL g.k μ H dds dvs) (ho : ME g X W o fo) (ha : MA g X W (e :: es) fa)
    (n4 : MethForm X o nm (e :: es) apos pos := by exact ⟨_, rfl⟩) (n2 : starEach (e :: es) X.env = (false, eval e X.env) :: starEach es X.env := by rfl) (n3 : (backTo pos (starEach es X.env)).any (·.1) = false := by rfl) : ME g X W (.Call (.Attribute o nm apos) (e :: es) [] pos) (methM c nm md n m fo (moreA dds fa)) := by
  obtain ⟨to, po, qo⟩ := ho
  obtain ⟨ta, pa, qa⟩ := ha
  exact ⟨_, pe_methG po hcl hm hF (B.rm.mono (Nat.le_succ _)) B.gu hb hd (fun σ => passAt B.tk σ) pa n2 n3 n4, fun F μ H σ en L Q s h => meth_po hC hdd qo qa s h⟩
theorem me_meth0 {md : Md} {c n j : Nat} {C f : Addr} {m : FM} {fd : FuncData} {ps : List Str} {nm : Str} {o : Expr} {fo : EM} {pos apos : Pos} {dus : List Value} {dvs : List V} {dds : List D} (B : Bd g X W j) (hC : g.k.ct[c]? = some C) (hcl : Cls X.K C) (hm : Meth X.K C nm f)
    (hF : FnG X.prog X.w X.K X.mg X.base j f fd ps (spM g.k n m)) (hb : Binds X.K fd ps dus) (hd : Vals dvs dus) (hdd : ∀ μ H, RepL g.k μ H dds dvs) (ho : ME g X W o fo) (n4 : MethForm X o nm [] apos pos := by exact ⟨_, rfl⟩) : ME g X W (.Call (.Attribute o nm apos) [] [] pos) (methM c nm md n m fo (moreA dds nilA)) := by
  obtain ⟨to, po, qo⟩ := ho
  exact ⟨_, pe_methG0 po hcl hm hF (B.rm.mono (Nat.le_succ _)) B.gu hb hd (fun σ => passAt B.tk σ) n4, fun F μ H σ en L Q s h => meth_po hC hdd qo (fun F μ H σ en L Q s h => Po.now (a := []) (b := []) h rfl s.sto) s h⟩
def makeM (c n : Nat) (m : FM) (fa : AM) : EM := fun F en L => (fa F en L).bind fun ds L1 =>
  if ds.length + 1 = n then match m (.loc (F.length + L1.length) :: ds) F (L1 ++ [.ins c []]) with
    | .ok .non L2 => .ok (.loc (F.length + L1.length)) L2
    | _ => .bad
  else .bad
theorem make_po {ta : TA} {fa : AM} {c n : Nat} {C : Addr} {m : FM} {dds : List D} {dvs : List V} (hC : g.k.ct[c]? = some C) (hdd : ∀ μ H, RepL g.k μ H dds dvs)
    (qa : ∀ F μ H σ en L Q, SRep g μ H σ en (F ++ L) → Po g.k (rA g.k) F μ H (fa F en L) Q (fun c d H' => W c d σ H') → ta σ H Q)
    {σ : L2.St} {en : En} {Q : VK} (s : SRep g μ H σ en (F ++ L)) (h : Po g.k (rE g.k) F μ H (makeM c n m (moreA dds fa) F en L) Q (fun c d H' => W c d σ H')) : tMake C (spM g.k n m) dvs (fun _ _ _ => False) ta σ H Q := by
  refine more_po (Q := fun vs H1 => ∀ x dx, H1 x = none → H1 dx = none → dx ≠ x → spM g.k n m (.ref x :: vs) (upd (upd H1 dx (.own x)) x (.ins C dx [])) (fun v H2 => v = .non ∧ Q (.ref x) H2) (fun _ _ _ => False)) hdd qa s (Po.bind h fun ds L1 μ1 H1 vs x r s1 h1 => ?_)
  intro a dx na nd nad
  split at h1
  · rename_i hl
    have hd := s1.new (o := .own a) nd
    have na' : upd H1 dx (.own a) a = none := by rw [upd_ne (Ne.symm nad)]; exact na
    have hs := hd.push (m := .ins c []) (o := .ins C dx []) na' ⟨C, dx, [], hC, upd_same, rfl⟩
    have x2 : Ext μ1 H1 (μ1 ++ [a]) (upd (upd H1 dx (.own a)) a (.ins C dx [])) := (Ext.new nd).trans (Ext.loc na')
    have len1 : F.length + L1.length = μ1.length := by rw [s1.len, List.length_append]
    refine ⟨F, L1 ++ [.ins c []], μ1 ++ [a], .loc (F.length + L1.length) :: ds, RepL.cons ⟨a, rfl, by rw [len1]; simp⟩ (RepL.mono x2 _ _ r), by rw [← List.append_assoc]; exact hs, by simpa using hl, ?_⟩
    cases em : m (.loc (F.length + L1.length) :: ds) F (L1 ++ [.ins c []]) with
    | ok d L2 =>
      rw [em] at h1
      cases d with
      | non => exact fun μ3 H3 v x3 r3 s3 => ⟨r3, h1 μ3 H3 _ (x2.trans x3) ⟨a, rfl, x3.get (by rw [len1]; simp)⟩ s3⟩
      | _ => exact False.elim h1
    | err e L2 => rw [em] at h1; exact False.elim h1
    | bad => rw [em] at h1; exact False.elim h1
  · exact False.elim h1
theorem me_make {c n j : Nat} {C f : Addr} {m : FM} {fd : FuncData} {ps : List Str} {x : Str} {e : Expr} {es : List Expr} {fa : AM} {p pos : Pos} {dus : List Value} {dvs : List V} {dds : List D} (B : Bd g X W j) (M : Mk X.K C f) (hC : g.k.ct[c]? = some C) (hF : FnG X.prog X.w X.K X.mg X.base j f fd ps (spM g.k n m)) (hg : Gl X x)
    (hm : X.mg x = some (.ref C)) (hb : Binds X.K fd ps dus) (hd : Vals dvs dus) (hdd : ∀ μ H, RepL g.k μ H dds dvs) (ha : MA g X W (e :: es) fa)
    (n1 : (x == ("__debug__" : Str)) = false := by decide) (n2 : starEach (e :: es) X.env = (false, eval e X.env) :: starEach es X.env := by rfl) (n3 : (backTo pos (starEach es X.env)).any (·.1) = false := by rfl) : ME g X W (.Call (.Name x p) (e :: es) [] pos) (makeM c n m (moreA dds fa)) := by
  obtain ⟨t, p, q⟩ := ha
  exact ⟨_, pe_makeG M hF B.rm B.gu hg hm hb hd (passes_call (E := fun _ _ _ => False) B.tk (fun _ _ _ _ z => False.elim z)) p n1 n2 n3, fun F μ H σ en L Q s h => make_po hC hdd q s h⟩
theorem me_make0 {c n j : Nat} {C f : Addr} {m : FM} {fd : FuncData} {ps : List Str} {x : Str} {p pos : Pos} {dus : List Value} {dvs : List V} {dds : List D} (B : Bd g X W j) (M : Mk X.K C f) (hC : g.k.ct[c]? = some C) (hF : FnG X.prog X.w X.K X.mg X.base j f fd ps (spM g.k n m)) (hg : Gl X x)
    (hm : X.mg x = some (.ref C)) (hb : Binds X.K fd ps dus) (hd : Vals dvs dus) (hdd : ∀ μ H, RepL g.k μ H dds dvs) (n1 : (x == ("__debug__" : Str)) = false := by decide) : ME g X W (.Call (.Name x p) [] [] pos) (makeM c n m (moreA dds nilA)) :=
  ⟨_, pe_makeG0 M hF B.rm B.gu hg hm hb hd (passes_call (E := fun _ _ _ => False) B.tk (fun _ _ _ _ z => False.elim z)) n1, fun F μ H σ en L Q s h => make_po hC hdd (fun F μ H σ en L Q s h => Po.now (a := []) (b := []) h rfl s.sto) s h⟩
/-- what a value left behind is let go -/
def gcE (f : EM) : EM := fun F en L => cutR (F.length + L.length) L.length (f F en L)
theorem me_gc {e : Expr} {f : EM} (h : ME g X W e f) : ME g X W e (gcE f) := by
  obtain ⟨t, p, q⟩ := h
  exact ⟨t, p, fun F μ H σ en L Q s h => q F μ H σ en L Q s (cut_po s.sto h)⟩
end
end MI
end SMiD
section SMiE
set_option Elab.async false
set_option linter.all false
set_option maxRecDepth 100000
set_option maxHeartbeats 4000000
/-! MiE: operators, subscripts, slices, calls of built-ins and their methods. -/
namespace MI
open PySem L2

section
variable {g : Gc} {X : Cx} {W : WX} {F L : Sto} {μ : List Addr} {H : Hp} {Q : VK} {WW : XK}
theorem repI {k : Gk} {i : Int} {x : V} (h : Rep k μ H (.int i) x) : x = .int i := h
theorem repS {k : Gk} {i : Str} {x : V} (h : Rep k μ H (.str i) x) : x = .str i := h
theorem repB {k : Gk} {i : Bool} {x : V} (h : Rep k μ H (.bl i) x) : x = .bl i := h
theorem repN {k : Gk} {x : V} (h : Rep k μ H .non x) : x = .non := h
theorem Po.int {k : Gk} {i : Int} (h : Po k (rE k) F μ H (.ok (.int i) L) Q WW) (s : HS k μ H (F ++ L)) : Q (.int i) H := Po.now (b := .int i) h (show Rep k _ _ (.int i) (.int i) from rfl) s
theorem Po.bl {k : Gk} {i : Bool} (h : Po k (rE k) F μ H (.ok (.bl i) L) Q WW) (s : HS k μ H (F ++ L)) : Q (.bl i) H := Po.now (b := .bl i) h (show Rep k _ _ (.bl i) (.bl i) from rfl) s
theorem Po.str {k : Gk} {i : Str} (h : Po k (rE k) F μ H (.ok (.str i) L) Q WW) (s : HS k μ H (F ++ L)) : Q (.str i) H := Po.now (b := .str i) h (show Rep k _ _ (.str i) (.str i) from rfl) s
theorem Po.non {k : Gk} (h : Po k (rE k) F μ H (.ok .non L) Q WW) (s : HS k μ H (F ++ L)) : Q .non H := Po.now (b := .non) h (show Rep k _ _ .non .non from rfl) s

/-! ### whole numbers -/
def intO (φ : Int → Int → Int) : OF := fun _ x y L => match x, y with | .int i, .int j => .ok (.int (φ i j)) L | _, _ => .bad
def intC (c : Int → Int → Bool) (φ : Int → Int → Int) : OF := fun _ x y L => match x, y with | .int i, .int j => if c i j then .ok (.int (φ i j)) L else .bad | _, _ => .bad
def intP (p : Int → Int → Bool) : OF := fun _ x y L => match x, y with | .int i, .int j => .ok (.bl (p i j)) L | _, _ => .bad
theorem om_I0 {f : Value → Value → Sem Value} {φ : Int → Int → Int} (h : OpR X f (rI0 fun i j => .int (φ i j))) : OpM g X f (intO φ) := by
  refine ⟨_, h, fun F μ H x y dx dy L Q WW rx ry s p => ?_⟩
  unfold intO at p
  split at p
  · exact ⟨_, _, repI rx, repI ry, p.int s⟩
  · exact p.elim
theorem om_IC {f : Value → Value → Sem Value} {c : Int → Int → Bool} {C : Int → Int → Prop} {φ : Int → Int → Int} (h : OpR X f (L2.rI C fun i j => .int (φ i j))) (hc : ∀ i j, c i j = true → C i j) : OpM g X f (intC c φ) := by
  refine ⟨_, h, fun F μ H x y dx dy L Q WW rx ry s p => ?_⟩
  unfold intC at p
  split at p
  · split at p
    · rename_i i j c'
      exact ⟨_, _, repI rx, repI ry, hc _ _ c', p.int s⟩
    · exact p.elim
  · exact p.elim
theorem om_IP {f : Value → Value → Sem Value} {q : Int → Int → Bool} (h : OpR X f (rI0 fun i j => .bl (q i j))) : OpM g X f (intP q) := by
  refine ⟨_, h, fun F μ H x y dx dy L Q WW rx ry s p => ?_⟩
  unfold intP at p
  split at p
  · exact ⟨_, _, repI rx, repI ry, p.bl s⟩
  · exact p.elim
theorem om_sub : OpM g X (binaryOp .Sub) (intO fun i j => i - j) := om_I0 op_sub
theorem om_isub : OpM g X (inplaceOp .Sub) (intO fun i j => i - j) := om_I0 iop_sub
def modO : OF := intC (fun _ j => decide (0 < j)) fun i j => i % j
def fdivO : OF := intC (fun _ j => decide (0 < j) && decide (j < 1073741824)) fun i j => i / j
def bits2 (j : Int) : Bool := decide (0 ≤ j) && decide (j ≤ 1000000)
def powO : OF := intC (fun i j => bits2 j && decide (i.natAbs < 2 ^ 64)) fun i j => i ^ j.toNat
def shlO : OF := intC (fun i j => bits2 j && decide (i.natAbs < 2 ^ 64)) fun i j => i * 2 ^ j.toNat
def shrO : OF := intC (fun _ j => decide (0 ≤ j)) fun i j => i / 2 ^ j.toNat
theorem om_mod : OpM g X (binaryOp .Mod) modO := om_IC op_mod fun i j h => of_decide_eq_true h
theorem om_fdiv : OpM g X (binaryOp .FloorDiv) fdivO := om_IC op_fdiv fun i j h => by
  rw [Bool.and_eq_true] at h
  exact ⟨of_decide_eq_true h.1, of_decide_eq_true h.2⟩
theorem cpow {i j : Int} (h : (bits2 j && decide (i.natAbs < 2 ^ 64)) = true) : CPow i j := by
  unfold bits2 at h
  rw [Bool.and_eq_true, Bool.and_eq_true] at h
  exact ⟨of_decide_eq_true h.1.1, of_decide_eq_true h.1.2, of_decide_eq_true h.2⟩
theorem om_pow : OpM g X (binaryOp .Pow) powO := om_IC op_pow fun i j h => cpow h
theorem om_shl : OpM g X (binaryOp .LShift) shlO := om_IC op_shl fun i j h => cpow h
theorem om_shr : OpM g X (binaryOp .RShift) shrO := om_IC op_shr fun i j h => of_decide_eq_true h
theorem om_and : OpM g X (binaryOp .BitAnd) (intO Builtin.bitAnd) := om_I0 op_and
theorem om_or : OpM g X (binaryOp .BitOr) (intO Builtin.bitOr) := om_I0 op_or
theorem om_xor : OpM g X (binaryOp .BitXor) (intO Builtin.bitXor) := om_I0 op_xor
def ltO : OF := intP fun i j => decide (i < j)
def leO : OF := intP fun i j => decide (i ≤ j)
def gtO : OF := intP fun i j => decide (j < i)
def geO : OF := intP fun i j => decide (j ≤ i)
theorem om_lt : OpM g X (compareOp .Lt) ltO := om_IP op_lt
theorem om_le : OpM g X (compareOp .LtE) leO := om_IP op_le
theorem om_gt : OpM g X (compareOp .Gt) gtO := om_IP op_gt
theorem om_ge : OpM g X (compareOp .GtE) geO := om_IP op_ge
/-- texts, by their code points -/
def strP (p : Str → Str → Bool) : OF := fun _ x y L => match x, y with | .str i, .str j => .ok (.bl (p i j)) L | _, _ => .bad
theorem om_SP {f : Value → Value → Sem Value} {q : Str → Str → Bool} {r : R2} (h : OpR X f r) (hr : ∀ i j H Q, Q (.bl (q i j)) H → r (.str i) (.str j) H Q) : OpM g X f (strP q) := by
  refine ⟨_, h, fun F μ H x y dx dy L Q WW rx ry s p => ?_⟩
  unfold strP at p
  split at p
  · rw [repS rx, repS ry]
    exact hr _ _ _ _ (p.bl s)
  · exact p.elim
def leS : OF := strP fun i j => !decide (j.cps.toList < i.cps.toList)
def ltS : OF := strP fun i j => decide (i.cps.toList < j.cps.toList)
theorem om_leS : OpM g X (compareOp .LtE) leS := om_SP op_le_str fun i j H Q q => ⟨i, j, rfl, rfl, q⟩
theorem om_ltS : OpM g X (compareOp .Lt) ltS := om_SP op_lt_str fun i j H Q q => ⟨i, j, rfl, rfl, q⟩
def negO (f : EM) : EM := fun F en L => (f F en L).bind fun d L1 => match d with | .int i => .ok (.int (-i)) L1 | _ => .bad
theorem me_neg {a : Expr} {f : EM} {pos : Pos} (h : ME g X W a f) : ME g X W (.UnaryOp .USub a pos) (negO f) := by
  obtain ⟨t, p, q⟩ := h
  refine ⟨_, pe_un un_neg p, fun F μ H σ en L Q s h => ?_⟩
  refine q F μ H σ en L _ s (h.bind fun d L1 μ1 H1 v x r s1 h1 => ?_)
  split at h1
  · rw [repI r]
    exact ⟨_, rfl, h1.int s1⟩
  · exact h1.elim

/-! ### + and * -/
def addO : OF := fun F x y L => match x, y with
  | .int i, .int j => .ok (.int (i + j)) L
  | .str a, .str b => if lenOk (a.length + b.length) then .ok (.str (a ++ b)) L else .bad
  | .tup a, .tup b => if lenOk (a.length + b.length) then .ok (.tup (a ++ b)) L else .bad
  | .loc n, .loc m => match lstAt F L n, lstAt F L m with
    | some a, some b => if lenOk (a.length + b.length) then newO F L (.lst (a ++ b)) else .bad
    | _, _ => .bad
  | _, _ => .bad
theorem RepL.nil_iff {k : Gk} {ds : List D} {vs : List V} (r : RepL k μ H ds vs) : vs = [] ↔ ds = [] := by
  have := r.length
  constructor
  · intro e; subst e; exact List.eq_nil_of_length_eq_zero (by simpa using this.symm)
  · intro e; subst e; exact r
theorem om_add (hK : X.K = g.k.K) : OpM g X (binaryOp .Add) addO := by
  refine ⟨_, (op_add.or (op_add_str.or (op_catA.or op_cat))), fun F μ H x y dx dy L Q WW rx ry s p => ?_⟩
  unfold addO at p
  split at p
  · exact .inl ⟨_, _, repI rx, repI ry, p.int s⟩
  · split at p
    · rename_i hl
      exact .inr (.inl ⟨_, _, repS rx, repS ry, lenOk_le hl, p.str s⟩)
    · exact p.elim
  · rename_i a b
    split at p
    · rename_i hl
      obtain ⟨c, vs, rfl, q1, r1⟩ := rx
      obtain ⟨d, ws, rfl, q2, r2⟩ := ry
      refine .inr (.inr (.inl ⟨c, d, vs, ws, rfl, rfl, by rw [hK]; exact q1, by rw [hK]; exact q2, by rw [r1.length, r2.length]; exact lenOk_le hl, fun e => ?_, fun _ e => ?_, fun _ _ t ht => ?_⟩))
      · rw [r1.nil_iff] at e
        subst e
        exact p.now ⟨d, ws, rfl, q2, r2⟩ s
      · rw [r2.nil_iff] at e
        subst e
        rw [List.append_nil] at p
        exact p.now ⟨c, vs, rfl, q1, r1⟩ s
      · exact po_newT s ht (r1.append r2) p
    · exact p.elim
  · split at p
    · rename_i n m _ _ a b e1 e2
      split at p
      · rename_i hl
        obtain ⟨c, vs, rfl, _, q1, r1⟩ := Rep.loc_lst s rx e1
        obtain ⟨d, ws, rfl, _, q2, r2⟩ := Rep.loc_lst s ry e2
        exact .inr (.inr (.inr ⟨c, d, vs, ws, rfl, rfl, q1, q2, by rw [r1.length, r2.length]; exact lenOk_le hl, fun t ht => po_newL s ht (r1.append r2) p⟩))
      · exact p.elim
    · exact p.elim
  · exact p.elim
def iaddO : OF := fun F x y L => match x, y with
  | .int i, .int j => .ok (.int (i + j)) L
  | .str a, .str b => if lenOk (a.length + b.length) then .ok (.str (a ++ b)) L else .bad
  | _, _ => .bad
theorem om_iadd : OpM g X (inplaceOp .Add) iaddO := by
  refine ⟨_, (iop_add.or iop_add_str), fun F μ H x y dx dy L Q WW rx ry s p => ?_⟩
  unfold iaddO at p
  split at p
  · exact .inl ⟨_, _, repI rx, repI ry, p.int s⟩
  · split at p
    · rename_i hl
      exact .inr ⟨_, _, repS rx, repS ry, lenOk_le hl, p.str s⟩
    · exact p.elim
  · exact p.elim
def mul64 (i j : Int) : Bool := (decide (-(2 ^ 64) < i) && decide (i < 2 ^ 64)) || (decide (-(2 ^ 64) < j) && decide (j < 2 ^ 64))
theorem cmul {i j : Int} (h : mul64 i j = true) : CMul i j := by
  unfold mul64 at h
  rw [Bool.or_eq_true, Bool.and_eq_true, Bool.and_eq_true] at h
  rcases h with h | h
  · exact .inl ⟨of_decide_eq_true h.1, of_decide_eq_true h.2⟩
  · exact .inr ⟨of_decide_eq_true h.1, of_decide_eq_true h.2⟩
theorem om_imul : OpM g X (inplaceOp .Mult) (intC mul64 fun i j => i * j) := om_IC iop_mul fun i j h => cmul h
def mulOkB (x : Str) (n : Int) : Bool := decide (-(2 ^ 62) ≤ n) && decide (n ≤ 16777216) && decide (x.length ≤ 16777216) && decide (x.length * n.toNat ≤ 16777216)
theorem mulOk_of {x : Str} {n : Int} (h : mulOkB x n = true) : MulOk x n := by
  unfold mulOkB at h
  simp only [Bool.and_eq_true, decide_eq_true_eq] at h
  obtain ⟨⟨⟨h1, h2⟩, h3⟩, h4⟩ := h
  refine ⟨?_, fun a _ => ?_, fun _ _ => ?_⟩
  · rw [Bool.or_eq_false_iff]
    exact ⟨decide_eq_false (by omega), decide_eq_false (by omega)⟩
  · have h0 : (0 : Int) < n := by omega
    have : (16777216 : Int) ≤ (2 ^ 63 - 1) / n := by
      rw [Int.le_ediv_iff_mul_le h0]
      omega
    omega
  · show decide (x.length * n.toNat > sizeLine) = false
    have z : sizeLine = 16777216 := sizeLine_eq
    rw [z]
    exact decide_eq_false (by omega)
theorem op_mulS : OpR X (binaryOp .Mult) (fun x y H Q => ∃ a n, x = .str a ∧ y = .int n ∧ MulOk a n ∧ Q (.str (Txt.mul a n)) H) := by
  intro pins s σ H x y v u Q I rx ry h
  obtain ⟨a, n, rfl, rfl, ok, q⟩ := h
  obtain ⟨t, rfl⟩ := rx
  obtain ⟨t', rfl⟩ := ry
  exact SB.mul ok fun t2 k2 => ⟨.str _, H, I.tok _, ⟨_, rfl⟩, q⟩
def mulO : OF := fun F x y L => match x, y with
  | .int i, .int j => if mul64 i j then .ok (.int (i * j)) L else .bad
  | .str a, .int n => if mulOkB a n then .ok (.str (Txt.mul a n)) L else .bad
  | .tup a, .int n => if !a.isEmpty && decide (2 ≤ n) && decide (n ≤ 1000) && decide (a.length ≤ 1000) then .ok (.tup (List.replicate n.toNat a).flatten) L else .bad
  | .loc m, .int n => match lstAt F L m with
    | some a => if decide (-(2 ^ 63) ≤ n) && decide (n < 2 ^ 63) && lenOk (a.length * n.toNat) then newO F L (.lst (List.replicate n.toNat a).flatten) else .bad
    | none => .bad
  | _, _ => .bad
theorem RepL.flat {k : Gk} {ds : List D} {vs : List V} (r : RepL k μ H ds vs) : ∀ n : Nat, RepL k μ H (List.replicate n ds).flatten (List.replicate n vs).flatten
  | 0 => rfl
  | n + 1 => by
    rw [List.replicate_succ, List.replicate_succ, List.flatten_cons, List.flatten_cons]
    exact r.append (RepL.flat r n)
theorem om_mul (hK : X.K = g.k.K) : OpM g X (binaryOp .Mult) mulO := by
  refine ⟨_, (op_mul.or (op_mulS.or (op_repT.or op_rep))), fun F μ H x y dx dy L Q WW rx ry s p => ?_⟩
  unfold mulO at p
  split at p
  · split at p
    · rename_i c
      exact .inl ⟨_, _, repI rx, repI ry, cmul c, p.int s⟩
    · exact p.elim
  · split at p
    · rename_i c
      exact .inr (.inl ⟨_, _, repS rx, repI ry, mulOk_of c, p.str s⟩)
    · exact p.elim
  · split at p
    · rename_i a n c
      simp only [Bool.and_eq_true, decide_eq_true_eq, Bool.not_eq_true'] at c
      obtain ⟨⟨⟨c1, c2⟩, c3⟩, c4⟩ := c
      obtain ⟨b, vs, rfl, q1, r1⟩ := rx
      refine .inr (.inr (.inl ⟨b, n, vs, rfl, repI ry, by rw [hK]; exact q1, fun e => ?_, c2, c3, by rw [r1.length]; exact c4, fun t ht => po_newT s ht (r1.flat _) p⟩))
      rw [r1.nil_iff] at e
      subst e
      cases c1
    · exact p.elim
  · split at p
    · rename_i a e1
      split at p
      · rename_i c
        simp only [Bool.and_eq_true, decide_eq_true_eq] at c
        obtain ⟨⟨c1, c2⟩, c3⟩ := c
        obtain ⟨b, vs, rfl, _, q1, r1⟩ := Rep.loc_lst s rx e1
        exact .inr (.inr (.inr ⟨b, _, vs, rfl, repI ry, q1, c1, c2, by rw [r1.length]; exact lenOk_le c3, fun t ht => po_newL s ht (r1.flat _) p⟩))
      · exact p.elim
    · exact p.elim
  · exact p.elim

/-! ### data as a whole: ==, != , repr -/
mutual
/-- data with the store's lists in place -/
def toPy (S : Sto) : Nat → D → Option PyData
  | 0, _ => none
  | _ + 1, .non => some .none
  | _ + 1, .bl b => some (.bool b)
  | _ + 1, .int i => some (.int i)
  | _ + 1, .str x => some (.str x)
  | k + 1, .tup ds => (toPyL S k ds).map .tuple
  | k + 1, .fls ds => (toPyL S k ds).map .list
  | k + 1, .loc n => match S[n]? with
    | some (.lst ds) => (toPyL S k ds).map .list
    | _ => none
  | _ + 1, .ty _ => none
  | _ + 1, .cl _ => none
def toPyL (S : Sto) : Nat → List D → Option (List PyData)
  | 0, _ => none
  | _ + 1, [] => some []
  | k + 1, d :: ds => (toPy S k d).bind fun x => (toPyL S k ds).map fun xs => x :: xs
end
mutual
theorem dp_of {k : Gk} {S : Sto} (s : HS k μ H S) : ∀ (n : Nat) (d : D) (v : V) (e : PyData), Rep k μ H d v → toPy S n d = some e → Dp k.K H v e
  | 0, _, _, _, _, h => by unfold toPy at h; cases h
  | n + 1, .non, v, e, r, h => by unfold toPy at h; cases h; rw [repN r]; exact .non
  | n + 1, .bl b, v, e, r, h => by unfold toPy at h; cases h; rw [repB r]; exact .bl b
  | n + 1, .int i, v, e, r, h => by unfold toPy at h; cases h; rw [repI r]; exact .int i
  | n + 1, .str x, v, e, r, h => by unfold toPy at h; cases h; rw [repS r]; exact .str x
  | n + 1, .tup ds, v, e, ⟨a, vs, ev, q, r⟩, h => by
    unfold toPy at h
    cases hl : toPyL S n ds with
    | none => rw [hl] at h; cases h
    | some es => rw [hl] at h; cases h; rw [ev]; exact .tup q (dpL_of s n ds vs es r hl)
  | n + 1, .fls ds, v, e, ⟨a, vs, ev, q, r⟩, h => by
    unfold toPy at h
    cases hl : toPyL S n ds with
    | none => rw [hl] at h; cases h
    | some es => rw [hl] at h; cases h; rw [ev]; exact .lst q.sq (dpL_of s n ds vs es r hl)
  | n + 1, .loc m, v, e, ⟨a, ev, q⟩, h => by
    unfold toPy at h
    split at h
    · rename_i ds es
      obtain ⟨a', q', vs, q2, r⟩ := s.ob m _ es
      rw [q] at q'
      cases q'
      cases hl : toPyL S n ds with
      | none => rw [hl] at h; cases h
      | some es => rw [hl] at h; cases h; rw [ev]; exact .lst (SqL.of q2) (dpL_of s n ds vs es r hl)
    · cases h
  | n + 1, .ty _, v, e, _, h => by unfold toPy at h; cases h
  | n + 1, .cl _, v, e, _, h => by unfold toPy at h; cases h
theorem dpL_of {k : Gk} {S : Sto} (s : HS k μ H S) : ∀ (n : Nat) (ds : List D) (vs : List V) (es : List PyData), RepL k μ H ds vs → toPyL S n ds = some es → DpAll k.K H vs es
  | 0, _, _, _, _, h => by unfold toPyL at h; cases h
  | n + 1, [], vs, es, r, h => by unfold toPyL at h; cases h; rw [show vs = [] from r]; exact .nil
  | n + 1, d :: ds, _, es, ⟨v, vs, rfl, r1, r2⟩, h => by
    unfold toPyL at h
    cases h1 : toPy S n d with
    | none => rw [h1] at h; cases h
    | some x =>
      rw [h1] at h
      cases h2 : toPyL S n ds with
      | none => rw [h2] at h; cases h
      | some xs => rw [h2] at h; cases h; exact .cons (dp_of s n d v x r1 h1) (dpL_of s n ds vs xs r2 h2)
end
def fuPy : Nat := 1000000
def eqDeep (neg : Bool) (F L : Sto) (x y : D) : R D := match toPy (F ++ L) fuPy x, toPy (F ++ L) fuPy y with
  | some a, some b => if SeqAt.shaped a && SeqAt.shaped b then .ok (.bl (if neg then !PyData.eqv a b else PyData.eqv a b)) L else .bad
  | _, _ => .bad
def eqO : OF := fun F x y L => match x, y with
  | .int i, .int j => .ok (.bl (decide (i = j))) L
  | .str i, .str j => .ok (.bl (decide (i = j))) L
  | .bl i, .bl j => .ok (.bl (decide (i = j))) L
  | .non, .non => .ok (.bl true) L
  | .str _, .non => .ok (.bl false) L
  | .str _, .int _ => .ok (.bl false) L
  | .non, .str _ => .ok (.bl false) L
  | .int _, .str _ => .ok (.bl false) L
  | .int _, .non => .ok (.bl false) L
  | .non, .int _ => .ok (.bl false) L
  | x, y => eqDeep false F L x y
def neO : OF := fun F x y L => match x, y with
  | .int i, .int j => .ok (.bl (!decide (i = j))) L
  | .str i, .str j => .ok (.bl (!decide (i = j))) L
  | .bl i, .bl j => .ok (.bl (!decide (i = j))) L
  | .non, .non => .ok (.bl false) L
  | .str _, .non => .ok (.bl true) L
  | .str _, .int _ => .ok (.bl true) L
  | .non, .str _ => .ok (.bl true) L
  | .int _, .str _ => .ok (.bl true) L
  | .int _, .non => .ok (.bl true) L
  | .non, .int _ => .ok (.bl true) L
  | x, y => eqDeep true F L x y
theorem dec_eqI {i j : Int} : decide (V.int i = V.int j) = decide (i = j) := by simp
theorem dec_eqS {i j : Str} : decide (V.str i = V.str j) = decide (i = j) := by simp
theorem dec_eqB {i j : Bool} : decide (V.bl i = V.bl j) = decide (i = j) := by simp
theorem eqDeep_po {neg : Bool} {x y : V} {dx dy : D} (hK : X.K = g.k.K) (s : HS g.k μ H (F ++ L)) (rx : Rep g.k μ H dx x) (ry : Rep g.k μ H dy y) (p : Po g.k (rE g.k) F μ H (eqDeep neg F L dx dy) Q WW) :
    ∃ d e, Dp X.K H x d ∧ Dp X.K H y e ∧ SeqAt.shaped d = true ∧ SeqAt.shaped e = true ∧ Q (.bl (if neg then !PyData.eqv d e else PyData.eqv d e)) H := by
  unfold eqDeep at p
  split at p
  · rename_i a b e1 e2
    split at p
    · rename_i c
      rw [Bool.and_eq_true] at c
      exact ⟨a, b, by rw [hK]; exact dp_of s _ _ _ _ rx e1, by rw [hK]; exact dp_of s _ _ _ _ ry e2, c.1, c.2, p.bl s⟩
    · exact p.elim
  · exact p.elim
theorem om_eq {j : Nat} (B : Bd g X W j) : OpM g X (compareOp .Eq) eqO := by
  refine ⟨_, (op_eq.or (op_eqD B.rm.units)), fun F μ H x y dx dy L Q WW rx ry s p => ?_⟩
  unfold eqO at p
  split at p
  · rw [repI rx, repI ry]; exact .inl ⟨rfl, by rw [dec_eqI]; exact p.bl s⟩
  · rw [repS rx, repS ry]; exact .inl ⟨rfl, by rw [dec_eqS]; exact p.bl s⟩
  · rw [repB rx, repB ry]; exact .inl ⟨rfl, by rw [dec_eqB]; exact p.bl s⟩
  · rw [repN rx, repN ry]; exact .inl ⟨rfl, p.bl s⟩
  · rw [repS rx, repN ry]; exact .inl ⟨rfl, p.bl s⟩
  · rw [repS rx, repI ry]; exact .inl ⟨rfl, p.bl s⟩
  · rw [repN rx, repS ry]; exact .inl ⟨rfl, p.bl s⟩
  · rw [repI rx, repS ry]; exact .inl ⟨rfl, p.bl s⟩
  · rw [repI rx, repN ry]; exact .inl ⟨rfl, p.bl s⟩
  · rw [repN rx, repI ry]; exact .inl ⟨rfl, p.bl s⟩
  · exact .inr (eqDeep_po (neg := false) B.K s rx ry p)
theorem om_ne {j : Nat} (B : Bd g X W j) : OpM g X (compareOp .NotEq) neO := by
  refine ⟨_, (op_ne.or (op_neD B.rm.units)), fun F μ H x y dx dy L Q WW rx ry s p => ?_⟩
  unfold neO at p
  split at p
  · rw [repI rx, repI ry]; exact .inl ⟨rfl, by rw [dec_eqI]; exact p.bl s⟩
  · rw [repS rx, repS ry]; exact .inl ⟨rfl, by rw [dec_eqS]; exact p.bl s⟩
  · rw [repB rx, repB ry]; exact .inl ⟨rfl, by rw [dec_eqB]; exact p.bl s⟩
  · rw [repN rx, repN ry]; exact .inl ⟨rfl, p.bl s⟩
  · rw [repS rx, repN ry]; exact .inl ⟨rfl, p.bl s⟩
  · rw [repS rx, repI ry]; exact .inl ⟨rfl, p.bl s⟩
  · rw [repN rx, repS ry]; exact .inl ⟨rfl, p.bl s⟩
  · rw [repI rx, repS ry]; exact .inl ⟨rfl, p.bl s⟩
  · rw [repI rx, repN ry]; exact .inl ⟨rfl, p.bl s⟩
  · rw [repN rx, repI ry]; exact .inl ⟨rfl, p.bl s⟩
  · exact .inr (eqDeep_po (neg := true) B.K s rx ry p)
def isNonD : D → Bool
  | .non => true
  | _ => false
theorem rep_non {k : Gk} {d : D} {v : V} (r : Rep k μ H d v) : decide (v = .non) = isNonD d := by
  cases d with
  | non => rw [show v = .non from r] <;> rfl
  | bl b => rw [show v = .bl b from r] <;> rfl
  | int b => rw [show v = .int b from r] <;> rfl
  | str b => rw [show v = .str b from r] <;> rfl
  | tup b => obtain ⟨_, _, rfl, _⟩ := r; rfl
  | fls b => obtain ⟨_, _, rfl, _⟩ := r; rfl
  | loc b => obtain ⟨_, rfl, _⟩ := r; rfl
  | ty b => rw [show v = .ty b from r] <;> rfl
  | cl b => obtain ⟨_, rfl, _⟩ := r; rfl
def isNO : OF := fun _ x y L => match y with | .non => .ok (.bl (isNonD x)) L | _ => .bad
def notNO : OF := fun _ x y L => match y with | .non => .ok (.bl (!isNonD x)) L | _ => .bad
theorem om_is : OpM g X (compareOp .Is) isNO := by
  refine ⟨_, op_isN, fun F μ H x y dx dy L Q WW rx ry s p => ?_⟩
  cases dy with
  | non => exact ⟨repN ry, by rw [rep_non rx]; exact Po.bl p s⟩
  | _ => exact p.elim
theorem om_isnot : OpM g X (compareOp .IsNot) notNO := by
  refine ⟨_, op_notN, fun F μ H x y dx dy L Q WW rx ry s p => ?_⟩
  cases dy with
  | non => exact ⟨repN ry, by rw [rep_non rx]; exact Po.bl p s⟩
  | _ => exact p.elim

/-! ### in -/
def flatD : D → Option V
  | .non => some .non
  | .bl b => some (.bl b)
  | .int i => some (.int i)
  | .str x => some (.str x)
  | _ => none
theorem rep_flat {k : Gk} {d : D} {v w : V} (r : Rep k μ H d v) (h : flatD d = some w) : v = w ∧ flatV v = true := by
  cases d with
  | non => cases h; exact ⟨r, by rw [repN r]; rfl⟩
  | bl b => cases h; exact ⟨r, by rw [repB r]; rfl⟩
  | int b => cases h; exact ⟨r, by rw [repI r]; rfl⟩
  | str b => cases h; exact ⟨r, by rw [repS r]; rfl⟩
  | _ => cases h
theorem rep_flats {k : Gk} : ∀ {ds : List D} {vs ws : List V}, RepL k μ H ds vs → ds.mapM flatD = some ws → vs = ws ∧ vs.all flatV = true
  | [], vs, ws, r, h => by
    rw [List.mapM_nil] at h
    cases h
    rw [show vs = [] from r]
    exact ⟨rfl, rfl⟩
  | d :: ds, _, ws, ⟨v, vs, rfl, r1, r2⟩, h => by
    rw [List.mapM_cons] at h
    cases h1 : flatD d with
    | none => rw [h1] at h; cases h
    | some w =>
      rw [h1] at h
      cases h2 : ds.mapM flatD with
      | none => rw [h2] at h; cases h
      | some us =>
        rw [h2] at h
        cases h
        obtain ⟨e1, f1⟩ := rep_flat r1 h1
        obtain ⟨e2, f2⟩ := rep_flats r2 h2
        exact ⟨by rw [e1, e2], by rw [List.all_cons, f1, f2]; rfl⟩
def inB (F L : Sto) (x y : D) : Option Bool := match x, y with
  | .str i, .str j => match i.cps.toList with
    | [c] => some (decide (c ∈ j.cps.toList))
    | _ => some (!(Builtin.Str.occurrences j i 0 j.length 1).isEmpty)
  | x, y => match flatD x, (itemsD F L y).bind fun ds => ds.mapM flatD with
    | some w, some ws => some (inV w ws)
    | _, _ => none
def inO (neg : Bool) : OF := fun F x y L => match inB F L x y with
  | some b => .ok (.bl (if neg then !b else b)) L
  | none => .bad
theorem in_items {neg : Bool} {x y : V} {dx dy : D} {b : Bool} (hK : X.K = g.k.K) (s : HS g.k μ H (F ++ L)) (rx : Rep g.k μ H dx x) (ry : Rep g.k μ H dy y) (e : (match flatD dx, (itemsD F L dy).bind fun ds => ds.mapM flatD with | some w, some ws => some (inV w ws) | _, _ => none) = some b) (q : Q (.bl (if neg then !b else b)) H) : rIn X.K neg x y H Q := by
  split at e
  · rename_i w ws e1 e2
    cases e
    cases e3 : itemsD F L dy with
    | none => rw [e3] at e2; cases e2
    | some ds =>
      rw [e3] at e2
      obtain ⟨a, vs, rfl, hs, r⟩ := Rep.items s ry e3
      obtain ⟨rfl, f1⟩ := rep_flat rx e1
      obtain ⟨rfl, f2⟩ := rep_flats r e2
      exact ⟨a, vs, rfl, by rw [hK]; exact hs, f1, f2, q⟩
  · cases e
theorem str_one {i : Str} {c : Nat} (h : i.cps.toList = [c]) : i = ⟨#[c]⟩ := by
  cases i with
  | mk a =>
    congr
    exact Array.toList_inj.mp h
theorem om_in (hK : X.K = g.k.K) : OpM g X (compareOp .In) (inO false) := by
  refine ⟨_, (op_in_sign.or (op_in_str.or op_in_seq)), fun F μ H x y dx dy L Q WW rx ry s p => ?_⟩
  unfold inO at p
  split at p
  · rename_i b e
    unfold inB at e
    split at e
    · rw [repS rx, repS ry]
      split at e
      · rename_i c ec
        cases e
        exact .inl ⟨c, _, by rw [str_one ec], rfl, p.bl s⟩
      · cases e
        exact .inr (.inl ⟨_, _, rfl, rfl, p.bl s⟩)
    · exact .inr (.inr (in_items (neg := false) hK s rx ry e (p.bl s)))
  · exact p.elim
theorem om_notin (hK : X.K = g.k.K) : OpM g X (compareOp .NotIn) (inO true) := by
  refine ⟨_, (op_notIn_sign.or (op_notin_str.or op_notIn_seq)), fun F μ H x y dx dy L Q WW rx ry s p => ?_⟩
  unfold inO at p
  split at p
  · rename_i b e
    unfold inB at e
    split at e
    · rw [repS rx, repS ry]
      split at e
      · rename_i c ec
        cases e
        exact .inl ⟨c, _, by rw [str_one ec], rfl, p.bl s⟩
      · cases e
        exact .inr (.inl ⟨_, _, rfl, rfl, p.bl s⟩)
    · exact .inr (.inr (in_items (neg := true) hK s rx ry e (p.bl s)))
  · exact p.elim
end
end MI
end SMiE
section SMiF
set_option Elab.async false
set_option linter.all false
set_option maxRecDepth 100000
set_option maxHeartbeats 4000000
/-! MiF: subscripts, slices, calls of built-ins, methods of lists and texts, isinstance, repr. -/
namespace MI
open PySem L2

section
variable {g : Gc} {X : Cx} {W : WX} {F L : Sto} {μ : List Addr} {H : Hp} {Q : VK} {WW : XK}
/-! ### a[i], a[i:j] -/
theorem repL_at {k : Gk} {ds : List D} {vs : List V} {i : Int} {d : D} (r : RepL k μ H ds vs) (h : atI ds i = some d) : ∃ v, atI vs i = some v ∧ Rep k μ H d v := by
  unfold atI at h ⊢
  rw [r.length]
  cases e : ixN ds.length i with
  | none => rw [e] at h; cases h
  | some j =>
    rw [e] at h
    exact r.get h
def ixO : OF := fun F x i L => match x, i with
  | .str z, .int k => if lenOk z.length then match atI z.cps.toList k with | some c => .ok (.str ⟨#[c]⟩) L | none => .bad else .bad
  | x, .int k => match itemsD F L x with
    | some ds => liftO (atI ds k) L
    | none => .bad
  | _, _ => .bad
theorem me_ix {a b : Expr} {fa fb : EM} {pos : Pos} (hK : X.K = g.k.K) (ha : ME g X W a fa) (hb : ME g X W b fb) (hs : PlainIx b) : ME g X W (.Subscript a b pos) (op2 ixO fa fb) := by
  obtain ⟨ta, pa, qa⟩ := ha
  obtain ⟨tb, pb, qb⟩ := hb
  refine ⟨_, pe_ix ix_seq pa pb hs, fun F μ H σ en L Q s h => bin_po qa qb (fun F μ H x y dx dy L Q WW rx ry s p => ?_) s h⟩
  have key : ∀ (d : D) (k : Int), Rep g.k μ H d x → Rep g.k μ H (.int k) y → Po g.k (rE g.k) F μ H (match itemsD F L d with | some ds => liftO (atI ds k) L | none => .bad) Q WW → rIx X.K x y H Q := fun d k rx ry p => by
    split at p
    · rename_i ds e
      obtain ⟨q, vs, rfl, hs, r⟩ := Rep.items s rx e
      cases ea : atI ds k with
      | none => rw [ea] at p; exact p.elim
      | some d' =>
        rw [ea] at p
        obtain ⟨v, ev, rv⟩ := repL_at r ea
        rcases hs with hs | hs
        · exact .inl ⟨q, vs, k, v, rfl, repI ry, by rw [hK]; exact hs, ev, p.now rv s⟩
        · exact .inr (.inl ⟨q, vs, k, v, rfl, repI ry, by rw [hK]; exact hs, ev, p.now rv s⟩)
    · exact p.elim
  unfold ixO at p
  split at p
  · split at p
    · rename_i hl
      split at p
      · rename_i c e
        exact .inr (.inr ⟨_, _, c, repS rx, repI ry, lenOk_le hl, e, p.str s⟩)
      · exact p.elim
    · exact p.elim
  · exact key _ _ rx ry p
  · exact p.elim
/-- a part of a slice -/
abbrev OM := MM (Option Int)
def noP : OM := fun _ _ L => .ok none L
def someP (f : EM) : OM := fun F en L => (f F en L).bind fun d L1 => match d with | .int i => .ok (some i) L1 | _ => .bad
abbrev rO : List Addr → Hp → Option Int → Option Int → Prop := fun _ _ a b => b = a
def MO' (g : Gc) (X : Cx) (W : WX) (e : Option Expr) (f : OM) : Prop :=
  ∃ t : TO, PO X e t ∧ ∀ F μ H σ en L Q, SRep g μ H σ en (F ++ L) → Po g.k rO F μ H (f F en L) Q (fun c d H' => W c d σ H') → t σ H Q
theorem mo_none : MO' g X W none noP := ⟨_, po_none, fun F μ H σ en L Q s h => Po.now (a := none) (b := none) h rfl s.sto⟩
theorem mo_some {e : Expr} {f : EM} (h : ME g X W e f) : MO' g X W (some e) (someP f) := by
  obtain ⟨t, p, q⟩ := h
  refine ⟨_, po_some p, fun F μ H σ en L Q s h => ?_⟩
  refine q F μ H σ en L _ s (h.bind fun d L1 μ1 H1 v x r s1 h1 => ?_)
  split at h1
  · exact ⟨_, repI r, Po.now (a := some _) (b := some _) h1 rfl s1⟩
  · exact h1.elim
def cutD (xs : List D) (lo hi : Option Int) : List D := (xs.drop (HT.sIx xs.length 0 lo)).take (HT.sIx xs.length xs.length hi - HT.sIx xs.length 0 lo)
theorem repL_cut {k : Gk} {ds : List D} {vs : List V} (r : RepL k μ H ds vs) (lo hi : Option Int) : RepL k μ H (cutD ds lo hi) (cutV vs lo hi) := by
  unfold cutD cutV
  rw [r.length]
  exact (r.drop _).take _
/-- the items of a list -/
def listD (F L : Sto) : D → Option (List D)
  | .fls xs => some xs
  | .loc n => lstAt F L n
  | _ => none
theorem Rep.list {k : Gk} {d : D} {xs : List D} {v : V} (s : HS k μ H (F ++ L)) (h : Rep k μ H d v) (e : listD F L d = some xs) : ∃ a vs, v = .ref a ∧ SqL k.K H a vs ∧ RepL k μ H xs vs := by
  cases d with
  | fls ds => cases e; obtain ⟨a, vs, rfl, q, r⟩ := h; exact ⟨a, vs, rfl, q.sq, r⟩
  | loc n => obtain ⟨a, vs, rfl, _, q, r⟩ := Rep.loc_lst s h e; exact ⟨a, vs, rfl, SqL.of q, r⟩
  | _ => cases e
def slO (F L : Sto) (x : D) (lo hi : Option Int) : R D := match x with
  | .str z => if lenOk z.length then .ok (.str (cutS z lo hi)) L else .bad
  | .tup ds => .ok (.tup (cutD ds lo hi)) L
  | x => match listD F L x with
    | some ds => newO F L (.lst (cutD ds lo hi))
    | none => .bad
def slM (f : EM) (lo hi : OM) : EM := fun F en L => (f F en L).bind fun x L1 => (lo F en L1).bind fun l L2 => (hi F en L2).bind fun h L3 => slO F L3 x l h
theorem cutD_all {ds : List D} {lo hi : Option Int} (h1 : HT.sIx ds.length 0 lo = 0) (h2 : HT.sIx ds.length ds.length hi = ds.length) : cutD ds lo hi = ds := by
  unfold cutD
  rw [h1, h2]
  simp
theorem me_sl {e : Expr} {f : EM} {lo hi : Option Expr} {fl fh : OM} {p2 pos : Pos} (hK : X.K = g.k.K) (he : ME g X W e f) (hl : MO' g X W lo fl) (hh : MO' g X W hi fh) : ME g X W (.Subscript e (.Slice lo hi none p2) pos) (slM f fl fh) := by
  obtain ⟨t, p, q⟩ := he
  obtain ⟨tl, pl, ql⟩ := hl
  obtain ⟨th, ph, qh⟩ := hh
  refine ⟨_, pe_slice (sl_str.or (sl_tupA.or sl_list)) p pl ph, fun F μ H σ en L Q s h => ?_⟩
  refine q F μ H σ en L _ s (Po.bind h fun d L1 μ1 H1 v x r s1 h1 => ?_)
  refine ql F μ1 H1 σ en L1 _ (s.mono x s1) (h1.bind fun l L2 μ2 H2 l' x2 e2 s2 h2 => ?_)
  cases e2
  refine qh F μ2 H2 σ en L2 _ (s.mono (x.trans x2) s2) (h2.bind fun u L3 μ3 H3 u' x3 e3 s3 h3 => ?_)
  cases e3
  have r3 := Rep.mono (x2.trans x3) _ _ r
  unfold slO at h3
  split at h3
  · split at h3
    · rename_i hl
      exact .inl ⟨_, repS r3, lenOk_le hl, h3.str s3⟩
    · exact h3.elim
  · obtain ⟨a, vs, rfl, qs, rs⟩ := r3
    refine .inr (.inl ⟨a, vs, rfl, by rw [hK]; exact qs, fun c => ?_, fun _ t ht => po_newT s3 ht (repL_cut rs l u) h3⟩)
    rw [rs.length] at c
    rw [cutD_all c.1 c.2] at h3
    exact h3.now ⟨a, vs, rfl, qs, rs⟩ s3
  · split at h3
    · rename_i ds e
      obtain ⟨a, vs, rfl, hs, r⟩ := Rep.list s3 r3 e
      exact .inr (.inr ⟨a, vs, rfl, by rw [hK]; exact hs, fun t ht => po_newL s3 ht (repL_cut r l u) h3⟩)
    · exact h3.elim

/-! ### calls of built-ins -/
abbrev CF := Sto → List D → Sto → R D
def CallM (g : Gc) (X : Cx) (f : Value) (G : CF) : Prop :=
  ∃ r, CallR X f r ∧ ∀ F μ H vs ds L Q WW, RepL g.k μ H ds vs → HS g.k μ H (F ++ L) → Po g.k (rE g.k) F μ H (G F ds L) Q WW → r vs H Q
def cbM (G : CF) (fa : AM) : EM := fun F en L => (fa F en L).bind fun ds L1 => G F ds L1
theorem me_cb {f : Value} {G : CF} {x : Str} {e : Expr} {es : List Expr} {fa : AM} {p pos : Pos} (hc : CallM g X f G) (ha : MA g X W (e :: es) fa)
    (hp : ∀ r t, CallR X f r → PA X (e :: es) t → PE X (.Call (.Name x p) (e :: es) [] pos) (tCB r t)) : ME g X W (.Call (.Name x p) (e :: es) [] pos) (cbM G fa) := by
  obtain ⟨r, c1, c2⟩ := hc
  obtain ⟨t, p, q⟩ := ha
  exact ⟨_, hp r t c1 p, fun F μ H σ en L Q s h => q F μ H σ en L _ s (Po.bind h fun ds L1 μ1 H1 vs x r s1 h1 => c2 F μ1 H1 vs ds L1 Q _ r s1 h1)⟩
theorem repL1 {k : Gk} {d : D} {vs : List V} (r : RepL k μ H [d] vs) : ∃ v, vs = [v] ∧ Rep k μ H d v := by
  obtain ⟨v, r', rfl, h, e⟩ := r
  rw [show r' = [] from e]
  exact ⟨v, rfl, h⟩
theorem repL2 {k : Gk} {d e : D} {vs : List V} (r : RepL k μ H [d, e] vs) : ∃ v w, vs = [v, w] ∧ Rep k μ H d v ∧ Rep k μ H e w := by
  obtain ⟨v, r', rfl, h, q⟩ := r
  obtain ⟨w, rfl, h2⟩ := repL1 q
  exact ⟨v, w, rfl, h, h2⟩
def lenG : CF := fun F ds L => match ds with
  | [.str z] => if lenOk z.length then .ok (.int z.length) L else .bad
  | [d] => match itemsD F L d with | some xs => .ok (.int xs.length) L | none => .bad
  | _ => .bad
theorem cm_len (hK : X.K = g.k.K) : CallM g X (.builtin "len") lenG := by
  refine ⟨_, call_len, fun F μ H vs ds L Q WW r0 s p => ?_⟩
  unfold lenG at p
  split at p
  · split at p
    · rename_i hl
      obtain ⟨v, rfl, r⟩ := repL1 r0
      exact ⟨v, _, rfl, by rw [repS r]; exact ⟨lenOk_le hl, rfl⟩, p.int s⟩
    · exact p.elim
  · split at p
    · rename_i xs e
      obtain ⟨v, rfl, r⟩ := repL1 r0
      obtain ⟨a, ws, rfl, hs, r2⟩ := Rep.items s r e
      rw [← r2.length] at p
      refine ⟨_, ws.length, rfl, ?_, p.int s⟩
      rw [hK]
      rcases hs with hs | hs
      · exact .inl ⟨ws, hs, rfl⟩
      · exact .inr ⟨ws, hs, rfl⟩
    · exact p.elim
  · exact p.elim
def intG : CF := fun F ds L => match ds with
  | [.int i] => .ok (.int i) L
  | [.bl b] => .ok (.int (if b then 1 else 0)) L
  | [.str z] => match PySem.intText? z with | some n => if decide (z.length ≤ 640) then .ok (.int n) L else .bad | none => .bad
  | _ => .bad
theorem CallR.or {f : Value} {r r' : List V → Hp → VK → Prop} (h : CallR X f r) (h' : CallR X f r') : CallR X f (fun xs H Q => r xs H Q ∨ r' xs H Q) := by
  intro pins s σ H xs us Q I rv q
  rcases q with q | q
  · exact h pins s σ H xs us Q I rv q
  · exact h' pins s σ H xs us Q I rv q
theorem cm_int : CallM g X (.type "int") intG := by
  refine ⟨_, CallR.or call_int1 call_int_str, fun F μ H vs ds L Q WW r0 s p => ?_⟩
  unfold intG at p
  split at p
  · obtain ⟨v, rfl, r⟩ := repL1 r0
    exact .inl (.inl ⟨_, by rw [repI r], p.int s⟩)
  · obtain ⟨v, rfl, r⟩ := repL1 r0
    exact .inl (.inr ⟨_, by rw [repB r], p.int s⟩)
  · split at p
    · rename_i n e
      split at p
      · rename_i hl
        obtain ⟨v, rfl, r⟩ := repL1 r0
        exact .inr ⟨_, n, by rw [repS r], e, of_decide_eq_true hl, p.int s⟩
      · exact p.elim
    · exact p.elim
  · exact p.elim
def small1920 (i : Int) : Bool := decide (i.natAbs.log2 < 1920)
def fig4300 (i : Int) : Bool := decide (i.natAbs < 10 ^ 4300)
def strG : CF := fun F ds L => match ds with
  | [.int i] => if fig4300 i then .ok (.str (toString i)) L else .bad
  | [.str z] => .ok (.str z) L
  | _ => .bad
/-- str(i) of at most 4300 figures -/
theorem call_str_fig (hc : X.calm = true) (hn : X.base.NoDigits) : CallR X (.type "str") (fun xs H Q => ∃ i, xs = [.int i] ∧ fig4300 i = true ∧ Q (.str (toString i)) H) := by
  intro pins s σ H xs us Q I r h
  obtain ⟨i, e, z, q⟩ := h
  subst e
  obtain ⟨u, e, t, e2⟩ := vals1 r
  subst e e2
  have z' : i.natAbs < 10 ^ 4300 := of_decide_eq_true z
  refine PyProof.Rows.str_of_int_or (I.ok.hd hc) (hn.keeps I.bk) (fun _ => ⟨.str (toString i), H, I.tok _, ⟨_, rfl⟩, q⟩) fun ge => ?_
  exact absurd z' (Nat.not_lt.mpr ge)
theorem cm_str (hc : X.calm = true) (hn : X.base.NoDigits) : CallM g X (.type "str") strG := by
  refine ⟨_, CallR.or (call_str_fig hc hn) SkE.call_str_str, fun F μ H vs ds L Q WW r0 s p => ?_⟩
  unfold strG at p
  split at p
  · split at p
    · rename_i c
      obtain ⟨v, rfl, r⟩ := repL1 r0
      exact .inl ⟨_, by rw [repI r], c, p.str s⟩
    · exact p.elim
  · obtain ⟨v, rfl, r⟩ := repL1 r0
    exact .inr ⟨_, by rw [repS r], p.str s⟩
  · exact p.elim
def absG : CF := fun F ds L => match ds with
  | [.int i] => .ok (.int (if i < 0 then -i else i)) L
  | _ => .bad
theorem cm_abs : CallM g X (.builtin "abs") absG := by
  refine ⟨_, call_abs, fun F μ H vs ds L Q WW r0 s p => ?_⟩
  unfold absG at p
  split at p
  · obtain ⟨v, rfl, r⟩ := repL1 r0
    exact ⟨_, by rw [repI r], p.int s⟩
  · exact p.elim
def max2G : CF := fun F ds L => match ds with
  | [.int i, .int j] => .ok (.int (if j > i then j else i)) L
  | _ => .bad
def min2G : CF := fun F ds L => match ds with
  | [.int i, .int j] => .ok (.int (if j < i then j else i)) L
  | _ => .bad
theorem cm_max2 (hc : X.calm = true) : CallM g X (.builtin "max") max2G := by
  refine ⟨_, call_max2 hc, fun F μ H vs ds L Q WW r0 s p => ?_⟩
  unfold max2G at p
  split at p
  · obtain ⟨v, w, rfl, r, r2⟩ := repL2 r0
    exact ⟨_, _, by rw [repI r, repI r2], p.int s⟩
  · exact p.elim
theorem cm_min2 (hc : X.calm = true) : CallM g X (.builtin "min") min2G := by
  refine ⟨_, call_min2 hc, fun F μ H vs ds L Q WW r0 s p => ?_⟩
  unfold min2G at p
  split at p
  · obtain ⟨v, w, rfl, r, r2⟩ := repL2 r0
    exact ⟨_, _, by rw [repI r, repI r2], p.int s⟩
  · exact p.elim
def tupG' : CF := fun F ds L => match ds with
  | [.tup xs] => .ok (.tup xs) L
  | [d] => match listD F L d with | some xs => .ok (.tup xs) L | none => .bad
  | _ => .bad
theorem cm_tuple (hK : X.K = g.k.K) : CallM g X (.type "tuple") tupG' := by
  refine ⟨_, call_tuple_of, fun F μ H vs ds L Q WW r0 s p => ?_⟩
  unfold tupG' at p
  split at p
  · obtain ⟨v, rfl, a, ws, rfl, q, r⟩ := repL1 r0
    exact ⟨a, ws, rfl, .inr ⟨by rw [hK]; exact q, p.now ⟨a, ws, rfl, q, r⟩ s⟩⟩
  · split at p
    · rename_i xs e
      obtain ⟨v, rfl, r⟩ := repL1 r0
      obtain ⟨a, ws, rfl, hs, r2⟩ := Rep.list s r e
      exact ⟨a, ws, rfl, .inl ⟨by rw [hK]; exact hs, fun t ht => po_newT s ht r2 p⟩⟩
    · exact p.elim
  · exact p.elim
def listG : CF := fun F ds L => match ds with
  | [d] => match itemsD F L d with | some xs => newO F L (.lst xs) | none => .bad
  | _ => .bad
theorem cm_list (hK : X.K = g.k.K) : CallM g X (.type "list") listG := by
  refine ⟨_, call_list_of, fun F μ H vs ds L Q WW r0 s p => ?_⟩
  unfold listG at p
  split at p
  · split at p
    · rename_i xs e
      obtain ⟨v, rfl, r⟩ := repL1 r0
      obtain ⟨a, ws, rfl, hs, r2⟩ := Rep.items s r e
      exact ⟨a, ws, rfl, by rw [hK]; exact hs, fun t ht => po_newL s ht r2 p⟩
    · exact p.elim
  · exact p.elim
def bls : List D → Option (List Bool)
  | [] => some []
  | .bl b :: r => (bls r).map fun bs => b :: bs
  | _ => none
def intsD : List D → Option (List Int)
  | [] => some []
  | .int b :: r => (intsD r).map fun bs => b :: bs
  | _ => none
def strsD : List D → Option (List Str)
  | [] => some []
  | .str b :: r => (strsD r).map fun bs => b :: bs
  | _ => none
theorem rep_bls {k : Gk} : ∀ {ds : List D} {vs : List V} {bs : List Bool}, RepL k μ H ds vs → bls ds = some bs → vs = bs.map V.bl
  | [], vs, bs, r, h => by cases h; exact r
  | d :: ds, _, bs, ⟨v, vs, rfl, r1, r2⟩, h => by
    cases d with
    | bl b =>
      have h' : (bls ds).map (fun bs => b :: bs) = some bs := h
      cases e : bls ds with
      | none => rw [e] at h'; cases h'
      | some cs => rw [e] at h'; cases h'; rw [repB r1, rep_bls r2 e]; rfl
    | _ => cases h
theorem rep_ints {k : Gk} : ∀ {ds : List D} {vs : List V} {bs : List Int}, RepL k μ H ds vs → intsD ds = some bs → vs = bs.map V.int
  | [], vs, bs, r, h => by cases h; exact r
  | d :: ds, _, bs, ⟨v, vs, rfl, r1, r2⟩, h => by
    cases d with
    | int b =>
      have h' : (intsD ds).map (fun bs => b :: bs) = some bs := h
      cases e : intsD ds with
      | none => rw [e] at h'; cases h'
      | some cs => rw [e] at h'; cases h'; rw [repI r1, rep_ints r2 e]; rfl
    | _ => cases h
theorem rep_strs {k : Gk} : ∀ {ds : List D} {vs : List V} {bs : List Str}, RepL k μ H ds vs → strsD ds = some bs → vs = bs.map V.str
  | [], vs, bs, r, h => by cases h; exact r
  | d :: ds, _, bs, ⟨v, vs, rfl, r1, r2⟩, h => by
    cases d with
    | str b =>
      have h' : (strsD ds).map (fun bs => b :: bs) = some bs := h
      cases e : strsD ds with
      | none => rw [e] at h'; cases h'
      | some cs => rw [e] at h'; cases h'; rw [repS r1, rep_strs r2 e]; rfl
    | _ => cases h
def allG (f : List Bool → Bool) : CF := fun F ds L => match ds with
  | [d] => match (listD F L d).bind bls with | some bs => .ok (.bl (f bs)) L | none => .bad
  | _ => .bad
theorem cm_all (hK : X.K = g.k.K) (hc : X.calm = true) : CallM g X (.builtin "all") (allG fun bs => bs.all id) := by
  refine ⟨_, cr_all hc, fun F μ H vs ds L Q WW r0 s p => ?_⟩
  unfold allG at p
  split at p
  · split at p
    · rename_i d _ bs e
      obtain ⟨v, rfl, r⟩ := repL1 r0
      cases e1 : listD F L d with
      | none => rw [e1] at e; cases e
      | some xs =>
        rw [e1] at e
        obtain ⟨a, ws, rfl, hs, r2⟩ := Rep.list s r e1
        rw [rep_bls r2 e] at hs
        exact ⟨a, bs, rfl, by rw [hK]; exact hs, p.bl s⟩
    · exact p.elim
  · exact p.elim
theorem cm_any (hK : X.K = g.k.K) (hc : X.calm = true) : CallM g X (.builtin "any") (allG fun bs => bs.any id) := by
  refine ⟨_, cr_any hc, fun F μ H vs ds L Q WW r0 s p => ?_⟩
  unfold allG at p
  split at p
  · split at p
    · rename_i d _ bs e
      obtain ⟨v, rfl, r⟩ := repL1 r0
      cases e1 : listD F L d with
      | none => rw [e1] at e; cases e
      | some xs =>
        rw [e1] at e
        obtain ⟨a, ws, rfl, hs, r2⟩ := Rep.list s r e1
        rw [rep_bls r2 e] at hs
        exact ⟨a, bs, rfl, by rw [hK]; exact hs, p.bl s⟩
    · exact p.elim
  · exact p.elim
def sumG : CF := fun F ds L => match ds with
  | [d] => match (listD F L d).bind intsD with | some bs => .ok (.int bs.sum) L | none => .bad
  | _ => .bad
theorem cm_sum (hK : X.K = g.k.K) (hc : X.calm = true) : CallM g X (.builtin "sum") sumG := by
  refine ⟨_, cr_sum hc, fun F μ H vs ds L Q WW r0 s p => ?_⟩
  unfold sumG at p
  split at p
  · split at p
    · rename_i d _ bs e
      obtain ⟨v, rfl, r⟩ := repL1 r0
      cases e1 : listD F L d with
      | none => rw [e1] at e; cases e
      | some xs =>
        rw [e1] at e
        obtain ⟨a, ws, rfl, hs, r2⟩ := Rep.list s r e1
        rw [rep_ints r2 e] at hs
        exact ⟨a, bs, rfl, by rw [hK]; exact hs, p.int s⟩
    · exact p.elim
  · exact p.elim

/-! ### isinstance -/
def tyN (F L : Sto) : D → Option String
  | .non => some "NoneType"
  | .bl _ => some "bool"
  | .int _ => some "int"
  | .str _ => some "str"
  | .tup _ => some "tuple"
  | .fls _ => some "list"
  | .loc n => (lstAt F L n).map fun _ => "list"
  | _ => none
theorem rep_ty {k : Gk} {d : D} {v : V} {n : String} (s : HS k μ H (F ++ L)) (r : Rep k μ H d v) (e : tyN F L d = some n) : TyX k.K H v (.type n) := by
  cases d with
  | non => cases e; rw [repN r]; exact .base .non
  | bl b => cases e; rw [repB r]; exact .base (.bl b)
  | int b => cases e; rw [repI r]; exact .base (.int b)
  | str b => cases e; rw [repS r]; exact .base (.str b)
  | tup ds =>
    cases e
    obtain ⟨a, vs, rfl, q, _⟩ := r
    rcases q with (q | ⟨o, q⟩) | ⟨o, its, n, q1, q2, _⟩
    · exact .base (.tup q)
    · exact .fTuple q
    · exact .kTuple q1 q2
  | fls ds =>
    cases e
    obtain ⟨a, vs, rfl, q, _⟩ := r
    rcases q with ⟨o, q⟩ | ⟨o, its, n, q1, q2, _⟩
    · exact .base (.frz q)
    · exact .kList q1 q2
  | loc m =>
    cases e1 : lstAt F L m with
    | none => rw [show tyN F L (.loc m) = (lstAt F L m).map (fun _ => "list") from rfl, e1] at e; cases e
    | some xs =>
      rw [show tyN F L (.loc m) = (lstAt F L m).map (fun _ => "list") from rfl, e1] at e
      cases e
      obtain ⟨a, vs, rfl, _, q, _⟩ := Rep.loc_lst s r e1
      exact .base (.lst q)
  | _ => cases e
def isiG : CF := fun F ds L => match ds with
  | [d, .ty c] => match (tyN F L d).bind fun n => kitB n c with | some b => .ok (.bl b) L | none => .bad
  | _ => .bad
theorem cm_isi (hK : X.K = g.k.K) : CallM g X (.builtin "isinstance") isiG := by
  refine ⟨_, call_isi, fun F μ H vs ds L Q WW r0 s p => ?_⟩
  unfold isiG at p
  split at p
  · rename_i d c
    split at p
    · rename_i b e
      obtain ⟨v, w, rfl, r1, r2⟩ := repL2 r0
      cases e1 : tyN F L d with
      | none => rw [e1] at e; cases e
      | some n =>
        rw [e1] at e
        refine ⟨v, w, .type n, .type c, b, rfl, ?_, ?_, kit_ty e, p.bl s⟩
        · rw [show w = .ty c from r2]; exact .ty c
        · rw [hK]; exact rep_ty s r1 e1
    · exact p.elim
  · exact p.elim
theorem me_ty {x : Str} {n : String} {pos : Pos} (hg : Gl X x) (hm : X.mg x = none) (hv : bootBuiltins x = some (.type n)) (hn : x ≠ "__name__" := by decide) (hd : (x == ("__debug__" : Str)) = false := by decide) : ME g X W (.Name x pos) (cM (.ty n)) :=
  me_cst (v := .ty n) (pe_bltn hg hm hv rfl hn hd) fun _ _ => rfl

/-! ### repr -/
theorem call_reprD (gu : X.A.guards = some []) (rm : X.A.units + 100 < cLine) : CallR X (.builtin "repr") (fun xs H Q => ∃ p d, xs = [.ref p] ∧ Dp X.K H (.ref p) d ∧ d.showable = true ∧ d.hasDict = false ∧ d.depth ≤ 64 ∧ d.shown.length ≤ sizeLine ∧ Q (.str d.shown) H) := by
  intro pins s σ H xs us Q I r h
  obtain ⟨p, d, rfl, dp, h1, h2, h3, h4, q⟩ := h
  obtain ⟨u, rfl, ru⟩ := vals1 r
  obtain ⟨as, rd⟩ := Dp.reads I d _ _ dp ru
  have eu : u = Value.ref p := ru
  subst eu
  exact repr_of_reads' rd h1 (fun z => by rw [h2] at z; cases z) gu (by omega) (fun _ _ e => e) (fun h' u tk hk => ⟨.str d.shown, H, I.kept hk, ⟨_, rfl⟩, q⟩) h4
theorem call_reprB : CallR X (.builtin "repr") (fun xs H Q => ∃ b, xs = [.bl b] ∧ Q (.str (if b then "True" else "False")) H) := by
  intro pins s σ H xs us Q I r h
  obtain ⟨b, rfl, q⟩ := h
  obtain ⟨u, rfl, ru⟩ := vals1 r
  have eu : u = Value.bool b := ru
  subst eu
  exact P.repr_of_bool ⟨.str _, H, I.tok _, ⟨_, rfl⟩, q⟩
theorem call_reprN : CallR X (.builtin "repr") (fun xs H Q => xs = [.non] ∧ Q (.str "None") H) := by
  intro pins s σ H xs us Q I r h
  obtain ⟨rfl, q⟩ := h
  obtain ⟨u, rfl, ru⟩ := vals1 r
  have eu : u = Value.none := ru
  subst eu
  exact P.repr_of_none ⟨.str _, H, I.tok _, ⟨_, rfl⟩, q⟩
theorem call_reprS : CallR X (.builtin "repr") (fun xs H Q => ∃ z : Str, xs = [.str z] ∧ (reprText z).length ≤ sizeLine ∧ Q (.str (reprText z)) H) := by
  intro pins s σ H xs us Q I r h
  obtain ⟨z, rfl, hl, q⟩ := h
  obtain ⟨u, rfl, ru⟩ := vals1 r
  obtain ⟨t, rfl⟩ := ru
  exact P.repr_of_str ⟨.str _, H, I.tok _, ⟨_, rfl⟩, q⟩ hl
def reprG : CF := fun F ds L => match ds with
  | [.int i] => if small1920 i then .ok (.str (toString i)) L else .bad
  | [.bl b] => .ok (.str (if b then "True" else "False")) L
  | [.non] => .ok (.str "None") L
  | [.str z] => if lenOk (reprText z).length then .ok (.str (reprText z)) L else .bad
  | [d] => match toPy (F ++ L) fuPy d with
    | some e => if e.showable && !e.hasDict && decide (e.depth ≤ 64) && lenOk e.shown.length then .ok (.str e.shown) L else .bad
    | none => .bad
  | _ => .bad
theorem rep_ref {k : Gk} {d : D} {v : V} {e : PyData} {n : Nat} {S : Sto} (r : Rep k μ H d v) (h : toPy S n d = some e) (h1 : d ≠ .non) (h2 : ∀ b, d ≠ .bl b) (h3 : ∀ b, d ≠ .int b) (h4 : ∀ b, d ≠ .str b) : ∃ p, v = .ref p := by
  cases d with
  | non => exact absurd rfl h1
  | bl b => exact absurd rfl (h2 b)
  | int b => exact absurd rfl (h3 b)
  | str b => exact absurd rfl (h4 b)
  | tup b => obtain ⟨a, _, rfl, _⟩ := r; exact ⟨a, rfl⟩
  | fls b => obtain ⟨a, _, rfl, _⟩ := r; exact ⟨a, rfl⟩
  | loc b => obtain ⟨a, rfl, _⟩ := r; exact ⟨a, rfl⟩
  | ty b => cases n <;> (unfold toPy at h; cases h)
  | cl b => cases n <;> (unfold toPy at h; cases h)
theorem cm_repr {j : Nat} (B : Bd g X W j) : CallM g X (.builtin "repr") reprG := by
  have hu : X.A.units + 100 < cLine := by have := B.rm.un; omega
  refine ⟨_, CallR.or SkE.call_repr_int (CallR.or call_reprB (CallR.or call_reprN (CallR.or call_reprS (call_reprD B.gu hu)))), fun F μ H vs ds L Q WW r0 s p => ?_⟩
  unfold reprG at p
  split at p
  · split at p
    · rename_i c
      obtain ⟨v, rfl, r⟩ := repL1 r0
      exact .inl ⟨_, by rw [repI r], of_decide_eq_true c, p.str s⟩
    · exact p.elim
  · obtain ⟨v, rfl, r⟩ := repL1 r0
    exact .inr (.inl ⟨_, by rw [repB r], p.str s⟩)
  · obtain ⟨v, rfl, r⟩ := repL1 r0
    exact .inr (.inr (.inl ⟨by rw [repN r], p.str s⟩))
  · split at p
    · rename_i c
      obtain ⟨v, rfl, r⟩ := repL1 r0
      exact .inr (.inr (.inr (.inl ⟨_, by rw [repS r], lenOk_le c, p.str s⟩)))
    · exact p.elim
  · rename_i d h1 h2 h3 h4
    split at p
    · rename_i e he
      split at p
      · rename_i c
        simp only [Bool.and_eq_true, Bool.not_eq_true', decide_eq_true_eq] at c
        obtain ⟨⟨⟨c1, c2⟩, c3⟩, c4⟩ := c
        obtain ⟨v, rfl, r⟩ := repL1 r0
        obtain ⟨q, rfl⟩ := rep_ref r he (fun z => h3 z) (fun b z => h2 b z) (fun b z => h1 b z) (fun b z => h4 b z)
        exact .inr (.inr (.inr (.inr ⟨q, e, rfl, by rw [B.K]; exact dp_of s _ _ _ _ r he, c1, c2, c3, lenOk_le c4, p.str s⟩)))
      · exact p.elim
    · exact p.elim
  · exact p.elim

/-! ### methods of lists and texts -/
abbrev BF := Sto → D → List D → Sto → R D
def BmM (g : Gc) (X : Cx) (id : String) (G : BF) : Prop :=
  ∃ r, MtR X id r ∧ ∀ F μ H x vs dx ds L Q WW, Rep g.k μ H dx x → RepL g.k μ H ds vs → HS g.k μ H (F ++ L) → Po g.k (rE g.k) F μ H (G F dx ds L) Q WW → r x vs H Q
def tyOk (T : String) (F L : Sto) (d : D) : Bool := match d with
  | .str _ => T == "str"
  | d => (T == "list") && (listD F L d).isSome
theorem rep_tyV {k : Gk} {d : D} {v : V} {T : String} (s : HS k μ H (F ++ L)) (r : Rep k μ H d v) (e : tyOk T F L d = true) : tyV k.K T v H := by
  have key : ((T == "list") && (listD F L d).isSome) = true → tyV k.K T v H := fun e => by
    rw [Bool.and_eq_true] at e
    obtain ⟨xs, hx⟩ := Option.isSome_iff_exists.mp e.2
    obtain ⟨a, vs, rfl, q, _⟩ := Rep.list s r hx
    exact .inl ⟨beq_iff_eq.mp e.1, vs, q⟩
  cases d with
  | str z => rw [show v = .str z from r]; exact beq_iff_eq.mp e
  | _ => exact key e
def bmM (T : String) (G : BF) (fo : EM) (fa : AM) : EM := fun F en L => (fo F en L).bind fun x L1 => if tyOk T F L1 x then (fa F en L1).bind fun ds L2 => G F x ds L2 else .bad
theorem me_bm {T id : String} {G : BF} {nm : Str} {o e : Expr} {es : List Expr} {fo : EM} {fa : AM} {apos pos : Pos} (hK : X.K = g.k.K) (hm : BmM g X id G) (ho : ME g X W o fo) (ha : MA g X W (e :: es) fa)
    (hp : ∀ r to t, MtR X id r → PE X o to → PA X (e :: es) t → PE X (.Call (.Attribute o nm apos) (e :: es) [] pos) (tBM X.K T r to t)) : ME g X W (.Call (.Attribute o nm apos) (e :: es) [] pos) (bmM T G fo fa) := by
  obtain ⟨r, m1, m2⟩ := hm
  obtain ⟨to, po, qo⟩ := ho
  obtain ⟨t, p, q⟩ := ha
  refine ⟨_, hp r to t m1 po p, fun F μ H σ en L Q s h => ?_⟩
  refine qo F μ H σ en L _ s (Po.bind h fun d L1 μ1 H1 v x r1 s1 h1 => ?_)
  split at h1
  · rename_i c
    refine ⟨by rw [hK]; exact rep_tyV s1 r1 c, ?_⟩
    exact q F μ1 H1 σ en L1 _ (s.mono x s1) (h1.bind fun ds L2 μ2 H2 vs x2 r2 s2 h2 => m2 F μ2 H2 v vs d ds L2 Q _ (Rep.mono x2 _ _ r1) r2 s2 h2)
  · exact h1.elim
theorem me_bm0 {T id : String} {G : BF} {nm : Str} {o : Expr} {fo : EM} {apos pos : Pos} (hK : X.K = g.k.K) (hm : BmM g X id G) (ho : ME g X W o fo)
    (hp : ∀ r to, MtR X id r → PE X o to → PE X (.Call (.Attribute o nm apos) [] [] pos) (tBM0 X.K T r to)) : ME g X W (.Call (.Attribute o nm apos) [] [] pos) (bmM T G fo nilA) := by
  obtain ⟨r, m1, m2⟩ := hm
  obtain ⟨to, po, qo⟩ := ho
  refine ⟨_, hp r to m1 po, fun F μ H σ en L Q s h => ?_⟩
  refine qo F μ H σ en L _ s (Po.bind h fun d L1 μ1 H1 v x r1 s1 h1 => ?_)
  split at h1
  · rename_i c
    exact ⟨by rw [hK]; exact rep_tyV s1 r1 c, m2 F μ1 H1 v [] d [] L1 Q _ r1 rfl s1 h1⟩
  · exact h1.elim
/-- a list of what may change -/
def ownL (F L : Sto) : D → Option (Nat × List D)
  | .loc n => if F.length ≤ n then (lstAt F L n).map fun xs => (n, xs) else none
  | _ => none
theorem Rep.own {k : Gk} {d : D} {v : V} {n : Nat} {xs : List D} (s : HS k μ H (F ++ L)) (r : Rep k μ H d v) (e : ownL F L d = some (n, xs)) : d = .loc n ∧ F.length ≤ n ∧ ∃ a vs, v = .ref a ∧ μ[n]? = some a ∧ H a = some (.lst vs) ∧ RepL k μ H xs vs := by
  cases d with
  | loc m =>
    have e' : (if F.length ≤ m then (lstAt F L m).map fun xs => (m, xs) else none) = some (n, xs) := e
    split at e'
    · rename_i hm
      cases e1 : lstAt F L m with
      | none => rw [e1] at e'; cases e'
      | some ys =>
        rw [e1] at e'
        cases e'
        obtain ⟨a, vs, rfl, m1, q, r2⟩ := Rep.loc_lst s r e1
        exact ⟨rfl, hm, a, vs, rfl, m1, q, r2⟩
    · cases e'
  | _ => cases e
def setL (F L : Sto) (n : Nat) (xs : List D) (d : D) : R D := .ok d (L.set (n - F.length) (.lst xs))
theorem po_setL {n : Nat} {p : Addr} {xs : List D} {vs : List V} {d : D} {v : V} (s : HS g.k μ H (F ++ L)) (e : μ[n]? = some p) (hn : F.length ≤ n) (r : RepL g.k μ H xs vs) (hr : Rep g.k μ H d v) (h : Po g.k (rE g.k) F μ H (setL F L n xs d) Q WW) : Q v (upd H p (.lst vs)) := by
  obtain ⟨o, _, ro⟩ := s.at e
  exact po_set s e hn r (Rep.mono (Ext.mut ro.mut) _ _ hr) h
def appendB : BF := fun F x ds L => match ownL F L x, ds with
  | some (n, xs), [d] => if decide (xs.length < 16777216) then setL F L n (xs ++ [d]) .non else .bad
  | _, _ => .bad
theorem lt_line {n : Nat} (h : decide (n < 16777216) = true) : n < sizeLine := by
  rw [sizeLine_eq]
  exact of_decide_eq_true h
theorem bm_append : BmM g X "list.append" appendB := by
  refine ⟨_, mt_append, fun F μ H x vs dx ds L Q WW rx rs s p => ?_⟩
  unfold appendB at p
  split at p
  · rename_i n xs d e
    split at p
    · rename_i c
      obtain ⟨rfl, hn, a, ws, rfl, m, q, r⟩ := Rep.own s rx e
      obtain ⟨y, rfl, ry⟩ := repL1 rs
      exact ⟨a, ws, y, rfl, rfl, q, by rw [r.length]; exact lt_line c, po_setL s m hn (r.append (.one ry)) (d := .non) rfl p⟩
    · exact p.elim
  · exact p.elim
def extendB : BF := fun F x ds L => match ownL F L x, ds with
  | some (n, xs), [.loc m] => match lstAt F L m with
    | some ys => if lenOk (xs.length + ys.length) then setL F L n (xs ++ ys) .non else .bad
    | none => .bad
  | _, _ => .bad
theorem bm_extend : BmM g X "list.extend" extendB := by
  refine ⟨_, mt_extend, fun F μ H x vs dx ds L Q WW rx rs s p => ?_⟩
  unfold extendB at p
  split at p
  · rename_i n xs m e
    split at p
    · rename_i ys e2
      split at p
      · rename_i c
        obtain ⟨rfl, hn, a, ws, rfl, m1, q, r⟩ := Rep.own s rx e
        obtain ⟨y, rfl, ry⟩ := repL1 rs
        obtain ⟨b, zs, rfl, _, q2, r2⟩ := Rep.loc_lst s ry e2
        exact ⟨a, b, ws, zs, rfl, rfl, q, q2, by rw [r.length, r2.length]; exact lenOk_le c, po_setL s m1 hn (r.append r2) (d := .non) rfl p⟩
      · exact p.elim
    · exact p.elim
  · exact p.elim
def popB : BF := fun F x ds L => match ownL F L x, ds with
  | some (n, xs), [] => match xs[xs.length - 1]? with
    | some d => setL F L n xs.dropLast d
    | none => .bad
  | _, _ => .bad
theorem bm_pop : BmM g X "list.pop" popB := by
  refine ⟨_, mt_pop, fun F μ H x vs dx ds L Q WW rx rs s p => ?_⟩
  unfold popB at p
  split at p
  · rename_i n xs e
    split at p
    · rename_i d e2
      obtain ⟨rfl, hn, a, ws, rfl, m, q, r⟩ := Rep.own s rx e
      rw [show vs = [] from rs]
      obtain ⟨y, ey, ry⟩ := r.get e2
      exact ⟨a, ws, y, rfl, rfl, q, by rw [r.length]; exact ey, po_setL s m hn r.dropLast ry p⟩
    · exact p.elim
  · exact p.elim
def reverseB : BF := fun F x ds L => match ownL F L x, ds with
  | some (n, xs), [] => setL F L n xs.reverse .non
  | _, _ => .bad
theorem bm_reverse : BmM g X "list.reverse" reverseB := by
  refine ⟨_, mt_reverse, fun F μ H x vs dx ds L Q WW rx rs s p => ?_⟩
  unfold reverseB at p
  split at p
  · rename_i n xs e
    obtain ⟨rfl, hn, a, ws, rfl, m, q, r⟩ := Rep.own s rx e
    rw [show vs = [] from rs]
    exact ⟨a, ws, rfl, rfl, q, po_setL s m hn r.reverse (d := .non) rfl p⟩
  · exact p.elim
def joinB : BF := fun F x ds L => match x, ds with
  | .str z, [d] => match (itemsD F L d).bind strsD with
    | some ys => if decide ((ys.map (·.length)).sum + ys.length * z.length ≤ 16777216) then .ok (.str (Txt.join z ys)) L else .bad
    | none => .bad
  | _, _ => .bad
theorem bm_join (hK : X.K = g.k.K) : BmM g X "str.join" joinB := by
  refine ⟨_, mt_join, fun F μ H x vs dx ds L Q WW rx rs s p => ?_⟩
  unfold joinB at p
  split at p
  · rename_i z d
    split at p
    · rename_i ys e
      split at p
      · rename_i c
        obtain ⟨y, rfl, ry⟩ := repL1 rs
        cases e1 : itemsD F L d with
        | none => rw [e1] at e; cases e
        | some xs =>
          rw [e1] at e
          obtain ⟨a, ws, rfl, hs, r2⟩ := Rep.items s ry e1
          rw [rep_strs r2 e] at hs
          exact ⟨z, a, ys, repS rx, rfl, by rw [hK]; exact hs, of_decide_eq_true c, p.str s⟩
      · exact p.elim
    · exact p.elim
  · exact p.elim
end
end MI
end SMiF
section SMiH
set_option Elab.async false
set_option linter.all false
set_option maxRecDepth 100000
set_option maxHeartbeats 4000000
/-! MiH: comprehensions, raise, try. -/
namespace MI
open PySem L2

section
variable {g : Gc} {X : Cx} {W : WX} {F L : Sto} {μ : List Addr} {H : Hp}
/-- a target's meaning, whatever the context -/
def GS (g : Gc) (t : TG) (G : GM) : Prop := ∀ W F μ H σ en L d v D, SRep g μ H σ en (F ++ L) → Rep g.k μ H d v → SPo g F μ H (G F d en L) D W → t v σ H D.nx
def GSs (g : Gc) (t : TGs) (G : GMs) : Prop := ∀ W F μ H σ en L d v D, SRep g μ H σ en (F ++ L) → RepL g.k μ H d v → SPo g F μ H (G F d en L) D W → t v σ H D.nx
theorem gs_name {i : Nat} : GS g (gName i) (nameG i) := fun W F μ H σ en L d v D s r h => h μ H _ .refl (s.set i r)
theorem gss_nil : GSs g gNil nilG := fun W F μ H σ en L d v D s r h => by
  cases d with
  | nil => exact ⟨r, SPo.nx h s⟩
  | cons _ _ => exact h.elim
theorem gss_cons {t : TG} {u : TGs} {G : GM} {K : GMs} (h1 : GS g t G) (h2 : GSs g u K) : GSs g (gCons t u) (consG G K) := fun W F μ H σ en L d v D s r h => by
  cases d with
  | nil => exact h.elim
  | cons d ds =>
    obtain ⟨v1, vs, rfl, r1, r2⟩ := r
    refine ⟨v1, vs, rfl, ?_⟩
    have h' : SPo g F μ H (match G F d en L with | .nx en1 L1 => K F ds en1 L1 | _ => .bad) D W := h
    refine h1 W F μ H σ en L d v1 { D with nx := fun σ' H' => u vs σ' H' D.nx } s r1 ?_
    cases e : G F d en L with
    | nx en1 L1 => rw [e] at h'; exact fun μ' H' σ' x s' => h2 W F μ' H' σ' en1 L1 ds vs D s' (RepL.mono x _ _ r2) (SPo.ext x h')
    | _ => rw [e] at h'; exact h'.elim
theorem gs_tup {n : Nat} {u : TGs} {K : GMs} (h : GSs g u K) : GS g (gTup g.k.K n u) (tupG n K) := fun W F μ H σ en L d v D s r h' => by
  cases d with
  | tup ds =>
    have h' : SPo g F μ H (if ds.length = n then K F ds en L else .bad) D W := h'
    obtain ⟨a, vs, rfl, qs, rs⟩ := r
    split at h'
    · rename_i hl
      exact ⟨a, vs, rfl, qs, by rw [rs.length]; exact hl, h W F μ H σ en L ds vs D s rs h'⟩
    · exact h'.elim
  | _ => exact h'.elim
/-- what a block's target stores is the block's own -/
def Inw (vs : List Nat) (t : TG) : Prop := ∀ v σ H (Q : L2.St → Hp → Prop), t v σ H Q → t v σ H fun σ2 H2 => wipe σ2 vs = wipe σ vs ∧ Q σ2 H2
def Inws (vs : List Nat) (t : TGs) : Prop := ∀ v σ H (Q : L2.St → Hp → Prop), t v σ H Q → t v σ H fun σ2 H2 => wipe σ2 vs = wipe σ vs ∧ Q σ2 H2
theorem wipe_set {i : Nat} {x : Option V} : ∀ {vs : List Nat} {σ : L2.St}, i ∈ vs → wipe (σ.set i x) vs = wipe σ vs
  | [], _, h => by cases h
  | v :: vs, σ, h => by
    show (wipe (σ.set i x) vs).set v none = (wipe σ vs).set v none
    by_cases hv : i ∈ vs
    · rw [wipe_set hv]
    · have e : i = v := by
        rcases List.mem_cons.mp h with e | e
        · exact e
        · exact absurd e hv
      subst e
      apply List.ext_getElem?
      intro j
      by_cases hj : j = i
      · subst hj
        simp [List.getElem?_set, wipe_length]
      · rw [List.getElem?_set_ne (Ne.symm hj), List.getElem?_set_ne (Ne.symm hj)]
        have out : ∀ (vs : List Nat) (τ : L2.St), (wipe (τ.set i x) vs)[j]? = (wipe τ vs)[j]? := by
          intro vs
          induction vs with
          | nil => intro τ; exact List.getElem?_set_ne (Ne.symm hj)
          | cons u us ih =>
            intro τ
            show ((wipe (τ.set i x) us).set u none)[j]? = ((wipe τ us).set u none)[j]?
            rw [List.getElem?_set, List.getElem?_set, ih τ]
            simp only [wipe_length, List.length_set]
        exact out vs σ
theorem wipe_none {i : Nat} : ∀ {vs : List Nat} {σ : L2.St}, i ∈ vs → i < σ.length → (wipe σ vs)[i]? = some none
  | [], _, h, _ => by cases h
  | v :: vs, σ, h, hl => by
    show ((wipe σ vs).set v none)[i]? = some none
    by_cases e : i = v
    · subst e
      exact List.getElem?_set_self (by rw [wipe_length]; exact hl)
    · rw [List.getElem?_set_ne (Ne.symm e)]
      exact wipe_none ((List.mem_cons.mp h).resolve_left e) hl
theorem wipe_idem (σ : L2.St) (vs : List Nat) : wipe (wipe σ vs) vs = wipe σ vs := by
  apply List.ext_getElem?
  intro j
  by_cases h : j ∈ vs
  · by_cases hl : j < σ.length
    · rw [wipe_none h (by rw [wipe_length]; exact hl), wipe_none h hl]
    · rw [List.getElem?_eq_none (by rw [wipe_length, wipe_length]; omega), List.getElem?_eq_none (by rw [wipe_length]; omega)]
  · rw [wipe_out h]
theorem inw_name {i : Nat} {vs : List Nat} (h : i ∈ vs) : Inw vs (gName i) := fun v σ H Q q => ⟨wipe_set h, q⟩
theorem inws_nil {vs : List Nat} : Inws vs gNil := fun v σ H Q q => ⟨q.1, rfl, q.2⟩
theorem tg_mono {X' : Cx} {t : TG} : True := trivial
/-- targets are monotone -/
def Mog (t : TG) : Prop := ∀ v σ H (Q Q' : L2.St → Hp → Prop), (∀ a b, Q a b → Q' a b) → t v σ H Q → t v σ H Q'
def Mogs (t : TGs) : Prop := ∀ v σ H (Q Q' : L2.St → Hp → Prop), (∀ a b, Q a b → Q' a b) → t v σ H Q → t v σ H Q'
theorem mog_name {i : Nat} : Mog (gName i) := fun v σ H Q Q' h q => h _ _ q
theorem mogs_nil : Mogs gNil := fun v σ H Q Q' h q => ⟨q.1, h _ _ q.2⟩
theorem mogs_cons {t : TG} {u : TGs} (h1 : Mog t) (h2 : Mogs u) : Mogs (gCons t u) := fun v σ H Q Q' h ⟨a, r, e, q⟩ => ⟨a, r, e, h1 _ _ _ _ _ (fun σ' H' q => h2 _ _ _ _ _ h q) q⟩
theorem mog_tup {K : PySem.W.Frag} {n : Nat} {u : TGs} (h2 : Mogs u) : Mog (gTup K n u) := fun v σ H Q Q' h ⟨a, xs, e, s, l, q⟩ => ⟨a, xs, e, s, l, h2 _ _ _ _ _ h q⟩
theorem inws_cons {vs : List Nat} {t : TG} {u : TGs} (m1 : Mog t) (m2 : Mogs u) (h1 : Inw vs t) (h2 : Inws vs u) : Inws vs (gCons t u) := fun v σ H Q ⟨a, r, e, q⟩ =>
  ⟨a, r, e, m1 _ _ _ _ _ (fun σ' H' ⟨e1, q⟩ => m2 _ _ _ _ _ (fun σ2 H2 ⟨e2, q⟩ => ⟨e2.trans e1, q⟩) (h2 _ _ _ _ q)) (h1 _ _ _ _ q)⟩
theorem inw_tup {vs : List Nat} {K : PySem.W.Frag} {n : Nat} {u : TGs} (h2 : Inws vs u) : Inw vs (gTup K n u) := fun v σ H Q ⟨a, xs, e, s, l, q⟩ => ⟨a, xs, e, s, l, h2 _ _ _ _ q⟩

/-! ### list comprehensions -/
def wipeD (en : En) : List Nat → En
  | [] => en
  | v :: vs => (wipeD en vs).set v .no
theorem wipeD_length (en : En) : ∀ vs : List Nat, (wipeD en vs).length = en.length
  | [] => rfl
  | v :: vs => by unfold wipeD; rw [List.length_set, wipeD_length en vs]
theorem wipeD_some {en : En} {i : Nat} {d : Sl} (hd : d ≠ .no) : ∀ {vs : List Nat}, (wipeD en vs)[i]? = some d → en[i]? = some d ∧ i ∉ vs
  | [], h => ⟨h, by simp⟩
  | v :: vs, h => by
    have h' : ((wipeD en vs).set v .no)[i]? = some d := h
    by_cases e : i = v
    · subst e
      rw [List.getElem?_set] at h'
      split at h'
      · split at h'
        · cases h'; exact absurd rfl hd
        · cases h'
      · exact absurd rfl (by assumption)
    · rw [List.getElem?_set_ne (Ne.symm e)] at h'
      obtain ⟨a, b⟩ := wipeD_some hd h'
      exact ⟨a, by simp [e, b]⟩
theorem srep_wipe {σ : L2.St} {en : En} {S : Sto} (s : SRep g μ H σ en S) (vs : List Nat) : SRep g μ H (wipe σ vs) (wipeD en vs) S := by
  refine ⟨by rw [wipe_length, wipeD_length]; exact s.len, fun i d e => ?_, fun i e => ?_, s.sto, s.inv⟩
  · obtain ⟨a, b⟩ := wipeD_some (by intro z; cases z) e
    obtain ⟨v, ev, r⟩ := s.env i d a
    exact ⟨v, by rw [wipe_out b]; exact ev, r⟩
  · obtain ⟨a, b⟩ := wipeD_some (by intro z; cases z) e
    obtain ⟨v, e1, e2⟩ := s.exs i a
    exact ⟨v, e1, by rw [wipe_out b]; exact e2⟩
def lcGo (src : Src) (G : GM) (tt : TM) (fe : EM) (n : Nat) (F : Sto) (en0 : En) : Nat → Sto → R D
  | 0, L => if src.fin (F ++ L) then .ok (.loc n) L else .bad
  | m + 1, L => match src.item (src.num - (m + 1)) (F ++ L) with
    | none => .bad
    | some d => match G F d en0 L with
      | .nx en1 L1 => (tt F en1 L1).bind fun b L2 => if b = true then (fe F en1 L2).bind fun y L3 => (appendB F (.loc n) [y] L3).bind fun _ L4 => lcGo src G tt fe n F en0 m L4
          else lcGo src G tt fe n F en0 m L2
      | _ => .bad
/-- where nothing may be raised -/
def noErr {α : Type} (r : R α) : R α := match r with | .err _ _ => .bad | r => r
theorem noErr_po {α β : Type} {k : Gk} {rel : List Addr → Hp → α → β → Prop} {r : R α} {Q : β → Hp → Prop} {WW : XK} (h : Po k rel F μ H (noErr r) Q WW) : Po k rel F μ H r Q (fun _ _ _ => False) := by
  cases r with
  | ok a L => exact h
  | err e L => exact h.elim
  | bad => exact h
def lcM (fi : IM) (G : GM) (tt : TM) (fe : EM) (vs : List Nat) : EM := fun F en L => (fi F en L).bind fun src L1 => noErr <| lcGo src G tt fe (F.length + L1.length) F (wipeD en vs) src.num (L1 ++ [.lst []])
def yesM : TM := fun _ _ L => .ok true L
def MTs (g : Gc) (X : Cx) (W : WX) (ifs : List Expr) (f : TM) : Prop :=
  ∃ t : TT, PTs X ifs t ∧ ∀ F μ H σ en L Q, SRep g μ H σ en (F ++ L) → Po g.k rT F μ H (f F en L) Q (fun c d H' => W c d σ H') → t σ H Q
theorem mts_nil : MTs g X W [] yesM := ⟨_, pts_nil, fun F μ H σ en L Q s h => Po.now (a := true) (b := true) h rfl s.sto⟩
theorem mts_one {c : Expr} {f : TM} (h : MT g X W c f) : MTs g X W [c] f := by
  obtain ⟨t, p, q⟩ := h
  exact ⟨t, pts_one p, q⟩
/-- the readings, whatever the context -/
def cE (g : Gc) (W : WX) (f : EM) : TE := fun σ H Q => ∃ F μ en L, SRep g μ H σ en (F ++ L) ∧ Po g.k (rE g.k) F μ H (f F en L) Q (fun c d H' => W c d σ H')
def cT (g : Gc) (W : WX) (f : TM) : TT := fun σ H Q => ∃ F μ en L, SRep g μ H σ en (F ++ L) ∧ Po g.k rT F μ H (f F en L) Q (fun c d H' => W c d σ H')
theorem ME.pe {e : Expr} {f : EM} (h : ME g X W e f) : PE X e (cE g W f) := by
  obtain ⟨t, p, q⟩ := h
  exact ⟨fun pins s σ H Q I ⟨F, μ, en, L, sr, po⟩ => p.run pins s σ H Q I (q F μ H σ en L Q sr po)⟩
theorem MTs.pt {e : List Expr} {f : TM} (h : MTs g X W e f) : PTs X e (cT g W f) := by
  obtain ⟨t, p, q⟩ := h
  exact ⟨fun pins s σ H Q I ⟨F, μ, en, L, sr, po⟩ => p.run pins s σ H Q I (q F μ H σ en L Q sr po)⟩
abbrev W0 : WX := fun _ _ _ _ => False
theorem lc_go {J : It} {src : Src} {G : GM} {tt : TM} {fe : EM} {t : TG} {vs : List Nat} {σ : L2.St} {en : En} {Q : VK} {Dl : Addr} {W1 : WX} {We : XK} (hW : ∀ c d σ' H', We c d H' → W1 c d σ' H') (rj : rI g.k μ H src J) (gs : GS g t G) (mo : Mog t) (iw : Inw vs t) (cG : Calm G) (s : SRep g μ H σ en (F ++ L)) (hD : H Dl = none)
    (h : Po g.k (rE g.k) F μ H (lcGo src G tt fe (F.length + L.length) F (wipeD en vs) src.num (L ++ [.lst []])) Q We) :
    ∃ Wv : Nat → Nat → Hp → Prop, (∃ m, Wv 0 m (upd H Dl (.lst []))) ∧ ∀ i m H, Wv i m H →
      (J.stop i H ∧ Q (.ref Dl) H) ∨ (J.go i H ∧ ∃ Nx : Hp → Prop, (∀ H', Nx H' → ∃ m', m' < m ∧ Wv (i + 1) m' H') ∧ ∀ x H', J.yld i H x H' → t x (wipe σ vs) H' fun σ2 H2 => wipe σ2 vs = wipe σ vs ∧ cT g W1 tt σ2 H2 fun b H3 =>
        if b = true then cE g W1 fe σ2 H3 fun y H4 => ∃ acc, H4 Dl = some (.lst acc) ∧ acc.length < sizeLine ∧ Nx (upd H4 Dl (.lst (acc ++ [y]))) else Nx H3) := by
  have hn : F.length + L.length = μ.length := by rw [s.sto.len, List.length_append]
  let Wv : Nat → Nat → Hp → Prop := fun i m H1 => ∃ μ1 L1, i + m = src.num ∧ Ext μ H μ1 H1 ∧ HS g.k μ1 H1 (F ++ L1) ∧ μ1[F.length + L.length]? = some Dl ∧ Po g.k (rE g.k) F μ1 H1 (lcGo src G tt fe (F.length + L.length) F (wipeD en vs) m L1) Q We
  refine ⟨Wv, ⟨src.num, μ ++ [Dl], L ++ [.lst []], by omega, Ext.loc hD, by rw [← List.append_assoc]; exact s.sto.push hD ⟨[], upd_same, rfl⟩, by rw [hn]; simp, Po.ext (Ext.loc hD) h⟩, ?_⟩
  rintro i m H1 ⟨μ1, L1, him, x1, s1, mD, p1⟩
  cases m with
  | zero =>
    have p1' : Po g.k (rE g.k) F μ1 H1 (if src.fin (F ++ L1) then .ok (.loc (F.length + L.length)) L1 else .bad) Q We := p1
    split at p1'
    · rename_i hf
      have hi : i = src.num := by omega
      subst hi
      exact .inl ⟨(rj μ1 H1 x1 _ s1).2 hf, p1'.now ⟨Dl, rfl, mD⟩ s1⟩
    · exact p1'.elim
  | succ m =>
    have hi : src.num - (m + 1) = i := by omega
    unfold lcGo at p1
    rw [hi] at p1
    cases e : src.item i (F ++ L1) with
    | none => rw [e] at p1; exact p1.elim
    | some d =>
      rw [e] at p1
      obtain ⟨go, yl⟩ := (rj μ1 H1 x1 _ s1).1 i d (by omega) e
      refine .inr ⟨go, fun H' => Wv (i + 1) m H', fun H' n => ⟨m, Nat.lt_succ_self m, n⟩, fun x H2 hy => ?_⟩
      obtain ⟨μ2, x2, s2, r2⟩ := yl x H2 hy
      have sr2 : SRep g μ2 H2 (wipe σ vs) (wipeD en vs) (F ++ L1) := (srep_wipe s vs).mono (x1.trans x2) s2
      have mD2 := x2.get mD
      have p2 := Po.ext x2 p1
      refine iw x (wipe σ vs) H2 _ ?_ |> fun q => mo _ _ _ _ _ (fun σ2 H3 ⟨e1, q⟩ => ⟨e1.trans ?_, q⟩) q
      rotate_left
      · -- the block's own slots stay forgotten
        exact wipe_idem σ vs
      · dsimp only at p2
        refine gs W0 F μ2 H2 (wipe σ vs) (wipeD en vs) L1 d x { nx := fun σ2 H3 => cT g W1 tt σ2 H3 fun b H4 => if b = true then cE g W1 fe σ2 H4 fun y H5 => ∃ acc, H5 Dl = some (.lst acc) ∧ acc.length < sizeLine ∧ Wv (i + 1) m (upd H5 Dl (.lst (acc ++ [y]))) else Wv (i + 1) m H4, rt := fun _ _ => False } sr2 r2 ?_
        cases eG : G F d (wipeD en vs) L1 with
        | nx en3 L3 =>
          rw [eG] at p2
          intro μ3 H3 σ3 x3 s3
          have p3 := Po.ext x3 p2
          refine ⟨F, μ3, en3, L3, s3, ?_⟩
          refine (Po.bind p3 fun b L4 μ4 H4 b' x4 e4 s4 p4 => ?_).imp (fun _ _ q => q) (fun c d H' q => hW c d _ H' q)
          cases e4
          cases b with
          | false =>
            rw [if_neg Bool.false_ne_true] at p4 ⊢
            exact ⟨μ4, L4, by omega, (((x1.trans x2).trans x3).trans x4), s4, x4.get (x3.get mD2), p4⟩
          | true =>
            rw [if_pos rfl] at p4 ⊢
            refine ⟨F, μ4, en3, L4, s3.mono x4 s4, ?_⟩
            refine (Po.bind p4 fun y L5 μ5 H5 yv x5 r5 s5 p5 => ?_).imp (fun _ _ q => q) (fun c d H' q => hW c d _ H' q)
            have mD5 := x5.get (x4.get (x3.get mD2))
            unfold appendB at p5
            split at p5
            · rename_i n' xs d' eo el
              cases el
              obtain ⟨en', hle, a, ws, ea, m5, q5, rl⟩ := Rep.own s5 (show Rep g.k μ5 H5 (.loc (F.length + L.length)) (.ref Dl) from ⟨Dl, rfl, mD5⟩) eo
              cases en'
              cases ea
              split at p5
              · rename_i hc
                refine ⟨ws, q5, by rw [rl.length]; exact lt_line hc, ?_⟩
                have ro : IsMut (H5 Dl) := by rw [q5]; trivial
                have hs := s5.set (m := .lst (xs ++ [y])) (o := .lst (ws ++ [yv])) m5 ⟨_, upd_same, RepL.mono (Ext.mut ro) _ _ (rl.append (.one r5))⟩
                rw [List.set_append_right _ _ hle] at hs
                exact ⟨μ5, _, by omega, ((((x1.trans x2).trans x3).trans x4).trans x5).trans (Ext.mut ro), hs, m5, Po.ext (Ext.mut ro) p5⟩
              · exact p5.elim
            · exact p5.elim
        | rt d2 L2 => rw [eG] at p2; exact p2.elim
        | bk en2 L2 => exact absurd eG (cG F d _ L1 en2 L2).1
        | ct en2 L2 => exact absurd eG (cG F d _ L1 en2 L2).2
        | err e2 en2 L2 => rw [eG] at p2; exact p2.elim
        | bad => rw [eG] at p2; exact p2.elim
theorem me_lc {elt tg iter : Expr} {ifs : List Expr} {scope : Scope} {own : List (Str × Nat)} {pos : Pos} {t : TG} {fi : IM} {G : GM} {ft : TM} {fe : EM} (hc : X.calm = true) (hN : X.N.Nodup) (hi : MI g X W tg iter fi) (ok : BlkOk X.N X.env.scope scope own)
    (gs : GS g t G) (mo : Mog t) (iw : Inw (own.map (·.2)) t) (cG : Calm G) (hg : ∀ (s : Shared) (H : Hp) (C : Addr) (cl : List (Str × Addr)) (fp : List Addr), PG (X.blk s H scope (compEnvC scope cl C X.env) fp) tg t)
    (ht : ∀ (s : Shared) (H : Hp) (C : Addr) (cl : List (Str × Addr)) (fp : List Addr), MTs g (X.blk s H scope (compEnvC scope cl C X.env) fp) W0 ifs ft)
    (he : ∀ (s : Shared) (H : Hp) (C : Addr) (cl : List (Str × Addr)) (fp : List Addr), ME g (X.blk s H scope (compEnvC scope cl C X.env) fp) W0 elt fe)
    (hs : ∀ x, foldedSetIterable iter X.env x = pure x := by intro _; rfl) : ME g X W (.ListComp elt [⟨tg, iter, ifs, 0⟩] scope pos) (lcM fi G ft fe (own.map (·.2))) := by
  obtain ⟨wi, p1, q1⟩ := hi
  refine ⟨_, pe_lc hc hN p1 ok hg (fun s H C cl fp => (ht s H C cl fp).pt) (fun s H C cl fp => (he s H C cl fp).pe) hs, fun F μ H σ en L Q s h => ?_⟩
  refine q1 F μ H σ en L _ s (Po.bind h fun src L1 μ1 H1 J x r s1 h1 => ?_)
  intro Dl hD
  exact lc_go (W1 := W0) (fun _ _ _ _ z => z) r gs mo iw cG (s.mono x s1) hD (noErr_po h1)
/-- name = [..] on one line -/
theorem ms_setLc {i : Nat} {y : Str} {elt tg iter : Expr} {ifs : List Expr} {scope : Scope} {own : List (Str × Nat)} {pos spos py : Pos} {t : TG} {fi : IM} {G : GM} {ft : TM} {fe : EM} (hc : X.calm = true) (hN : X.N.Nodup) (hy : X.N[i]? = some y) (hyl : X.env.scope.names.lookup y = some .local)
    (hsw : swapsWith (.ListComp elt [⟨tg, iter, ifs, 0⟩] scope pos) (some (.Name y py)) spos.line X.env = pure true) (hi : MI g X W tg iter fi) (ok : BlkOk X.N X.env.scope scope own)
    (gs : GS g t G) (mo : Mog t) (iw : Inw (own.map (·.2)) t) (cG : Calm G) (hg : ∀ (s : Shared) (H : Hp) (C : Addr) (cl : List (Str × Addr)) (fp : List Addr), PG (X.blk s H scope (compEnvC scope cl C X.env) fp) tg t)
    (ht : ∀ (s : Shared) (H : Hp) (C : Addr) (cl : List (Str × Addr)) (fp : List Addr), MTs g (X.blk s H scope (compEnvC scope cl C X.env) fp) W0 ifs ft)
    (he : ∀ (s : Shared) (H : Hp) (C : Addr) (cl : List (Str × Addr)) (fp : List Addr), ME g (X.blk s H scope (compEnvC scope cl C X.env) fp) W0 elt fe)
    (hs : ∀ x, foldedSetIterable iter X.env x = pure x := by intro _; rfl) : MS g X W (.Assign [.Name y py] (.ListComp elt [⟨tg, iter, ifs, 0⟩] scope pos) spos) (asgS (lcM fi G ft fe (own.map (·.2))) (nameG i)) := by
  obtain ⟨wi, p1, q1⟩ := hi
  refine ⟨_, L2.ps_setLc hc hN hy hyl hsw p1 ok hg (fun s H C cl fp => (ht s H C cl fp).pt) (fun s H C cl fp => (he s H C cl fp).pe) hs, fun F μ H σ en L D s h => ?_⟩
  have h2 : Po g.k (rE g.k) F μ H (lcM fi G ft fe (own.map (·.2)) F en L) (fun v H' => D.nx (σ.set i (some v)) H') (fun c d H' => W c d σ H') :=
    SPo.bind s h fun d L1 μ1 H1 v x r s1 h1 => h1 μ1 H1 _ .refl (s1.set i r)
  refine q1 F μ H σ en L _ s (Po.bind h2 fun src L1 μ1 H1 J x r s1 h1 => ?_)
  intro Dl hD
  exact lc_go (W1 := W0) (fun _ _ _ _ z => z) r gs mo iw cG (s.mono x s1) hD (noErr_po h1)

/-! ### raise, try -/
def raiseS (c : Nat) : SM := fun _ en L => .err ⟨c, [], []⟩ en L
theorem ms_raise {e : Expr} {c : Nat} {C : Addr} {pos : Pos} {j : Nat} (B : Bd g X W j) (hC : g.k.ct[c]? = some C) (he : PMk X e (fun _ H Q => Q (.ref C) none H)) : MS g X W (.Raise (some e) none pos) (raiseS c) :=
  ⟨_, ps_raise B.calm B.tk he, fun F μ H σ en L D s h => h μ H σ (.ref C) none .refl ⟨C, hC, rfl, .inl rfl⟩ s⟩
/-- raise X(e), X's own __init__ keeping e -/
def raiseFS (c : Nat) (f : Str) (fe : EM) : SM := fun F en L => (fe F en L).toS en fun d L1 => .err ⟨c, [f], [d]⟩ en L1
def tMkF (C : Addr) (f : Str) (ta : TE) : L2.St → Hp → XK → Prop := fun σ H Q => ta σ H fun v H1 => ∀ d, H1 d = none → Q (.ref C) (some d) (upd H1 d (.xd [(f, v)]))
theorem ms_raiseF {e e1 : Expr} {c : Nat} {C : Addr} {f : Str} {fe : EM} {pos : Pos} {j : Nat} (B : Bd g X W j) (hC : g.k.ct[c]? = some C) (h1 : ME g X W e1 fe) (he : ∀ ta, PE X e1 ta → PMk X e (tMkF C f ta)) : MS g X W (.Raise (some e) none pos) (raiseFS c f fe) := by
  obtain ⟨t, p, q⟩ := h1
  refine ⟨_, ps_raise B.calm B.tk (he t p), fun F μ H σ en L D s h => ?_⟩
  refine q F μ H σ en L _ s (SPo.bind s h fun d L1 μ1 H1 v x r s1 h1 => ?_)
  intro dd hd
  have x2 : Ext μ1 H1 μ1 (upd H1 dd (.xd [(f, v)])) := Ext.new hd
  exact h1 μ1 _ σ (.ref C) (some dd) x2 ⟨C, hC, rfl, .inr ⟨dd, [(f, v)], rfl, upd_same, rfl, RepL.one (Rep.mono x2 _ _ r)⟩⟩ (s1.mono x2 (s1.sto.new hd))
/-- which classes are below which -/
def cS (g : Gc) (W : WX) (f : SM) : TS := fun D σ H => ∃ F μ en L, SRep g μ H σ en (F ++ L) ∧ SPo g F μ H (f F en L) D W
theorem MB.ps {s : List Stmt} {f : SM} (h : MB g X W s f) : PSs X s (cS g W f) := by
  obtain ⟨t, p, q⟩ := h
  exact ⟨fun pins s σ H D I ⟨F, μ, en, L, sr, po⟩ => p.run pins s σ H D I (q F μ H σ en L D sr po)⟩
/-- with what the caught exception holds -/
def gx (g : Gc) (e : Exc) (a : Addr) (cls : Value) (dd : Option Addr) : Gc := ⟨g.k, fun μ H => g.inv μ H ∧ XRep g.k μ H e cls dd, fun μ H μ' H' x h => ⟨g.mono μ H μ' H' x h.1, XRep.mono x h.2⟩, some a⟩
theorem srep_gx {σ : L2.St} {en : En} {S : Sto} {e : Exc} {a : Addr} {cls : Value} {dd : Option Addr} (hg : g.exn = none) (s : SRep g μ H σ en S) (x : XRep g.k μ H e cls dd) : SRep (gx g e a cls dd) μ H σ en S :=
  ⟨s.len, s.env, fun i q => (by obtain ⟨b, z, _⟩ := s.exs i q; rw [hg] at z; cases z), s.sto, s.inv, x⟩
theorem srep_gxi {σ : L2.St} {en : En} {S : Sto} {e : Exc} {a : Addr} {cls : Value} {dd : Option Addr} (hg : g.exn = none) (i : Nat) (s : SRep g μ H σ en S) (x : XRep g.k μ H e cls dd) : SRep (gx g e a cls dd) μ H (σ.set i (some (.ref a))) (en.set i .ex) S := by
  refine ⟨by simp [s.len], fun j u q => ?_, fun j q => ?_, s.sto, s.inv, x⟩
  · by_cases h : j = i
    · subst h
      rw [List.getElem?_set] at q
      split at q
      · split at q <;> cases q
      · exact absurd rfl (by assumption)
    · rw [List.getElem?_set_ne (Ne.symm h)] at q ⊢
      exact s.env j u q
  · by_cases h : j = i
    · subst h
      have hl : j < en.length := by
        have := (List.getElem?_eq_some_iff.mp q).1
        simpa using this
      exact ⟨a, rfl, List.getElem?_set_self (by rw [s.len]; exact hl)⟩
    · rw [List.getElem?_set_ne (Ne.symm h)] at q
      obtain ⟨b, z, _⟩ := s.exs j q
      rw [hg] at z
      cases z
/-- the exception is let go -/
def unex (en : En) : En := en.map fun s => match s with | .ex => .no | s => s
theorem unex_d {en : En} {i : Nat} {d : D} (h : (unex en)[i]? = some (.d d)) : en[i]? = some (.d d) := by
  unfold unex at h
  rw [List.getElem?_map] at h
  cases e : en[i]? with
  | none => rw [e] at h; cases h
  | some s =>
    rw [e] at h
    cases s with
    | d x => exact h
    | no => cases h
    | ex => cases h
theorem unex_ex {en : En} {i : Nat} (h : (unex en)[i]? = some .ex) : False := by
  unfold unex at h
  rw [List.getElem?_map] at h
  cases e : en[i]? with
  | none => rw [e] at h; cases h
  | some s => rw [e] at h; cases s <;> cases h
theorem srep_ungx {σ : L2.St} {en : En} {S : Sto} {e : Exc} {a : Addr} {cls : Value} {dd : Option Addr} (s : SRep (gx g e a cls dd) μ H σ en S) : SRep g μ H σ (unex en) S :=
  ⟨by rw [s.len]; unfold unex; simp, fun i d q => s.env i d (unex_d q), fun i q => (unex_ex q).elim, s.sto, s.inv.1⟩
theorem SRep.none {σ : L2.St} {en : En} {S : Sto} (s : SRep g μ H σ en S) (i : Nat) (o : Option V) : SRep g μ H (σ.set i o) (en.set i .no) S := by
  refine ⟨by simp [s.len], fun j u e => ?_, fun j e => ?_, s.sto, s.inv⟩
  · by_cases h : j = i
    · subst h
      rw [List.getElem?_set] at e
      split at e
      · split at e <;> cases e
      · exact absurd rfl (by assumption)
    · rw [List.getElem?_set_ne (Ne.symm h)] at e ⊢
      exact s.env j u e
  · by_cases h : j = i
    · subst h
      rw [List.getElem?_set] at e
      split at e
      · split at e <;> cases e
      · exact absurd rfl (by assumption)
    · rw [List.getElem?_set_ne (Ne.symm h)] at e ⊢
      exact s.exs j e
def outS (f : En → En) (r : SR) : SR := match r with
  | .nx en2 L2 => .nx (f en2) L2
  | .bk en2 L2 => .bk (f en2) L2
  | .ct en2 L2 => .ct (f en2) L2
  | .rt d L2 => .rt d L2
  | .err _ _ _ => .bad
  | .bad => .bad
/-- try: body except C as n: suite; ei, eo: the slots ahead of the suite and behind it -/
def tryS (bel : Nat → Option Bool) (fb : SM) (ei eo : En → En) (fs : Exc → SM) : SM := fun F en L => match fb F en L with
  | .err e en1 L1 => match bel e.c with
    | some true => outS eo (fs e F (ei en1) L1)
    | some false => .err e en1 L1
    | none => .bad
  | r => r
theorem try_po {bel : Nat → Option Bool} {fb : SM} {ei eo : En → En} {fs : Exc → SM} {C : Addr} {σ : L2.St} {en : En} {D : Ends} {ts : Addr → Value → Option Addr → L2.St → Hp → Prop}
    (hbel : ∀ c b C', bel c = some b → g.k.ct[c]? = some C' → PySem.W.exmOne X.K (.ref C') (.ref C) = some b)
    (hs : ∀ (e : Exc) (a : Addr) (cls : Value) (d : Option Addr) F μ H σ en L, H a = none → SRep g μ H σ en (F ++ L) → XRep g.k μ H e cls d → SPo g F μ H (outS eo (fs e F (ei en) L)) D W → ts a cls d σ H)
    (s : SRep g μ H σ en (F ++ L)) (h : SPo g F μ H (tryS bel fb ei eo fs F en L) D W) :
    SPo g F μ H (fb F en L) D (fun cls d σ H => ∃ b, PySem.W.exmOne X.K cls (.ref C) = some b ∧ (b = true → ∀ a, H a = none → ts a cls d σ H) ∧ (b = false → W cls d σ H)) := by
  unfold tryS at h
  cases eB : fb F en L with
  | nx en1 L1 => rw [eB] at h; exact h
  | rt d L1 => rw [eB] at h; exact h
  | bk en1 L1 => rw [eB] at h; exact h
  | ct en1 L1 => rw [eB] at h; exact h
  | bad => rw [eB] at h; exact h
  | err e en1 L1 =>
    rw [eB] at h
    intro μ1 H1 σ1 cls dd x1 xr s1
    have h1 : SPo g F μ1 H1 (match bel e.c with
      | some true => outS eo (fs e F (ei en1) L1)
      | some false => .err e en1 L1
      | none => .bad) D W := SPo.ext x1 h
    have xr' := xr
    obtain ⟨C', hC', rfl, hx⟩ := xr
    cases eb : bel e.c with
    | none => rw [eb] at h1; exact h1.elim
    | some b =>
      rw [eb] at h1
      refine ⟨b, hbel _ _ _ eb hC', fun hbt a ha => ?_, fun hbf => ?_⟩
      · subst hbt
        exact hs e a _ dd F μ1 H1 σ1 en1 L1 ha s1 xr' h1
      · subst hbf
        exact h1 μ1 H1 σ1 _ dd .refl xr' s1
theorem out_po {r : SR} {eo : En → En} {D D' : Ends} {e : Exc} {a : Addr} {cls : Value} {dd : Option Addr} (h : SPo g F μ H (outS eo r) D W)
    (h1 : ∀ μ H σ en L, SRep (gx g e a cls dd) μ H σ en (F ++ L) → (∀ N : L2.St → Hp → Prop, (∀ μ' H' σ', Ext μ H μ' H' → SRep g μ' H' σ' (eo en) (F ++ L) → N σ' H') → (N = D.nx → D'.nx σ H) ∧ (N = D.bk → D'.bk σ H) ∧ (N = D.ct → D'.ct σ H))) (h2 : D'.rt = D.rt) : SPo (gx g e a cls dd) F μ H r D' W0 := by
  cases r with
  | nx en2 L2 => exact fun μ2 H2 σ2 x2 s2 => (h1 μ2 H2 σ2 en2 L2 s2 D.nx fun μ' H' σ' x s => h μ' H' σ' (x2.trans x) s).1 rfl
  | bk en2 L2 => exact fun μ2 H2 σ2 x2 s2 => (h1 μ2 H2 σ2 en2 L2 s2 D.bk fun μ' H' σ' x s => h μ' H' σ' (x2.trans x) s).2.1 rfl
  | ct en2 L2 => exact fun μ2 H2 σ2 x2 s2 => (h1 μ2 H2 σ2 en2 L2 s2 D.ct fun μ' H' σ' x s => h μ' H' σ' (x2.trans x) s).2.2 rfl
  | rt d L2 => rw [show SPo (gx g e a cls dd) F μ H (.rt d L2) D' W0 = (∀ μ' H' v, Ext μ H μ' H' → Rep g.k μ' H' d v → HS g.k μ' H' (F ++ L2) → D'.rt v H') from rfl, h2]; exact fun μ2 H2 v x2 r2 s2 => h μ2 H2 v x2 r2 s2
  | err _ _ _ => exact h.elim
  | bad => exact h.elim
theorem ms_try {x n : Str} {C : Addr} {i : Nat} {body suite : List Stmt} {b₀ : Stmt} {np pos pos' : Pos} {fb : SM} {fs : Exc → SM} {bel : Nat → Option Bool} {j : Nat} (B : Bd g X W j) (hg : g.exn = none) (hst : X.stack = X.env :: X.outer) (hfr : X.env.frame = some X.env.locals) (hN : X.N.Nodup) (hi : X.N[i]? = some n) (hln : X.env.kindOf n = some .local)
    (hc : Names X x (.ref C)) (hbel : ∀ c b C', bel c = some b → g.k.ct[c]? = some C' → PySem.W.exmOne X.K (.ref C') (.ref C) = some b)
    (hb : ∀ (W' : WX) (pn : List (Addr × Obj)) (xe : Value → Shared → Prop), Bd g (X.tr pn xe) W' j → PassesOwn (model X.prog X.w) X.A X.env xe → MB g (X.tr pn xe) W' body fb)
    (hs : ∀ (a : Addr) (oe : Obj) (cls : Value) (d : Option Addr) (pn : List (Addr × Obj)) (e : Exc), Zc cls d oe → (∃ vs, oe.data = .fields vs) → MB (gx g e a cls d) (X.suite a ((a, oe) :: pn)) W0 (b₀ :: suite) (fs e)) :
    MS g X W (.Try body [.ExceptHandler (some (.Name x np)) (some n) (b₀ :: suite) pos'] [] [] pos) (tryS bel fb (fun en => en.set i .ex) (fun en => (unex en).set i .no) fs) := by
  refine ⟨_, ps_try_as (tb := fun W' => cS g W' fb) (ts := fun a cls d D σ H => ∃ e, cS (gx g e a cls d) W0 (fs e) D σ H) hst hfr hN hi hln hc B.tk (fun W' pn xe tk po => (hb W' pn xe ⟨tk, B.rm, B.gu, B.calm, B.K⟩ po).ps) (fun a oe cls d pn z1 z2 => ⟨fun pins s σ H D I ⟨e, q⟩ => (hs a oe cls d pn e z1 z2).ps.run pins s σ H D I q⟩), fun F μ H σ en L D s h => ?_⟩
  refine ⟨F, μ, en, L, s, ?_⟩
  refine try_po (X := X) (C := C) (ts := fun a cls d σ H => ∃ e, cS (gx g e a cls d) W0 (fs e) { nx := fun σ' H' => D.nx (σ'.set i none) H', rt := D.rt, bk := fun σ' H' => D.bk (σ'.set i none) H', ct := fun σ' H' => D.ct (σ'.set i none) H' } (σ.set i (some (.ref a))) H) hbel ?_ s h
  intro e a cls d F μ H σ en L ha s1 xr h1
  refine ⟨e, F, μ, en.set i .ex, L, srep_gxi hg i s1 xr, out_po (D := D) h1 (fun μ2 H2 σ2 en2 L2 s2 N q => ?_) rfl⟩
  have z := q μ2 H2 (σ2.set i none) .refl ((srep_ungx s2).none i _)
  exact ⟨fun e => by subst e; exact z, fun e => by subst e; exact z, fun e => by subst e; exact z⟩
theorem ms_tryO {x : Str} {C : Addr} {body suite : List Stmt} {b₀ : Stmt} {np pos pos' : Pos} {fb : SM} {fs : Exc → SM} {bel : Nat → Option Bool} {j : Nat} (B : Bd g X W j) (hg : g.exn = none) (hst : X.stack = X.env :: X.outer) (hfr : X.env.frame = some X.env.locals)
    (hc : Names X x (.ref C)) (hbel : ∀ c b C', bel c = some b → g.k.ct[c]? = some C' → PySem.W.exmOne X.K (.ref C') (.ref C) = some b)
    (hb : ∀ (W' : WX) (pn : List (Addr × Obj)) (xe : Value → Shared → Prop), Bd g (X.tr pn xe) W' j → PassesOwn (model X.prog X.w) X.A X.env xe → MB g (X.tr pn xe) W' body fb)
    (hs : ∀ (a : Addr) (oe : Obj) (cls : Value) (d : Option Addr) (pn : List (Addr × Obj)) (e : Exc), Zc cls d oe → (∃ vs, oe.data = .fields vs) → MB (gx g e a cls d) (X.suite a ((a, oe) :: pn)) W0 (b₀ :: suite) (fs e)) :
    MS g X W (.Try body [.ExceptHandler (some (.Name x np)) none (b₀ :: suite) pos'] [] [] pos) (tryS bel fb (fun en => en) unex fs) := by
  refine ⟨_, ps_try_only (tb := fun W' => cS g W' fb) (ts := fun a cls d D σ H => ∃ e, cS (gx g e a cls d) W0 (fs e) D σ H) hst hfr hc B.tk (fun W' pn xe tk po => (hb W' pn xe ⟨tk, B.rm, B.gu, B.calm, B.K⟩ po).ps) (fun a oe cls d pn z1 z2 => ⟨fun pins s σ H D I ⟨e, q⟩ => (hs a oe cls d pn e z1 z2).ps.run pins s σ H D I q⟩), fun F μ H σ en L D s h => ?_⟩
  refine ⟨F, μ, en, L, s, ?_⟩
  refine try_po (X := X) (C := C) (ts := fun a cls d σ H => ∃ e, cS (gx g e a cls d) W0 (fs e) D σ H) hbel ?_ s h
  intro e a cls d F μ H σ en L ha s1 xr h1
  refine ⟨e, F, μ, en, L, srep_gx hg s1 xr, out_po (D := D) h1 (fun μ2 H2 σ2 en2 L2 s2 N q => ?_) rfl⟩
  have z := q μ2 H2 σ2 .refl (srep_ungx s2)
  exact ⟨fun e => by subst e; exact z, fun e => by subst e; exact z, fun e => by subst e; exact z⟩
/-- the field of the exception that is handled -/
def exfM (c i : Nat) (f : Str) (e : Exc) : EM := fun _ en L => match en[i]?, e.ks, e.ds with
  | some .ex, [k], [d] => if k = f ∧ e.c = c then .ok d L else .bad
  | _, _, _ => .bad
def tExF (C a : Addr) (cls : Value) (dd : Option Addr) (f : Str) (te : TE) : TE := fun σ H Q => te σ H fun x H1 => x = .ref a ∧ cls = .ref C ∧ ∃ (d : Addr) (v : V), dd = some d ∧ H1 d = some (.xd [(f, v)]) ∧ Q v H1
theorem me_exf {i c : Nat} {C : Addr} {e : Exc} {a : Addr} {cls : Value} {dd : Option Addr} {f : Str} {pos : Pos} {o : Expr} (hC : g.k.ct[c]? = some C) (ho : PE X o (tVar i)) (hp : PE X o (tVar i) → PE X (.Attribute o f pos) (tExF C a cls dd f (tVar i))) : ME (gx g e a cls dd) X W (.Attribute o f pos) (exfM c i f e) := by
  refine ⟨_, hp ho, fun F μ H σ en L Q s h => ?_⟩
  unfold exfM at h
  split at h
  · rename_i k d e1 e2 e3
    split at h
    · rename_i hk
      obtain ⟨hk, hc⟩ := hk
      obtain ⟨b, q1, q2⟩ := s.exs i e1
      cases q1
      obtain ⟨_, C', hC', hcl, hx⟩ := s.inv
      rw [hc, hC] at hC'
      cases hC'
      rcases hx with hx | ⟨d', vs, r1, r2, r3, r4⟩
      · rw [e2] at hx; cases hx
      · rw [e2] at r3
        rw [e3] at r4
        cases vs with
        | nil => cases r3
        | cons p rest =>
          have r3' : p.1 :: rest.map (·.1) = [k] := r3
          have e4 : rest = [] := by
            have := congrArg List.length r3'
            simp at this
            exact this
          subst e4
          have e5 : p.1 = f := by rw [← hk]; exact (List.cons.inj r3').1
          obtain ⟨w, r, ew, rw', _⟩ := r4
          have ew' : [p.2] = w :: r := ew
          cases ew'
          refine ⟨.ref a, q2, rfl, hcl, d', p.2, r1, ?_, Po.now h rw' s.sto⟩
          rw [r2, ← e5]
    · exact h.elim
  · exact h.elim
end
end MI
end SMiH
section SMiI
set_option Elab.async false
set_option linter.all false
set_option maxRecDepth 100000
set_option maxHeartbeats 4000000
/-! MiI: what the printed derivations name besides. -/
namespace MI
open PySem L2
section
variable {g : Gc} {X : Cx} {W : WX} {F L : Sto} {μ : List Addr} {H : Hp}
theorem mt_chain {op op' : CmpOp} {a b c : Expr} {fa fb fc : EM} {G G' : OF} {pos : Pos} (ho : OpM g X (compareOp op) G) (ho' : OpM g X (compareOp op') G') (ha : ME g X W a fa) (hb : ME g X W b fb) (hc : ME g X W c fc)
    (hm : lastMarks [op, op'] [b, c] = false := by rfl) : MT g X W (.Compare a [op, op'] [b, c] pos) (tstM (chain2 G G' fa fb fc)) := by
  obtain ⟨r, o1, o2⟩ := ho
  obtain ⟨r', o3, o4⟩ := ho'
  obtain ⟨ta, pa, qa⟩ := ha
  obtain ⟨tb, pb, qb⟩ := hb
  obtain ⟨tc, pc, qc⟩ := hc
  exact ⟨_, pt_chain o1 o3 pa pb pc hm, fun F μ H σ en L Q s h => chain_po qa qb qc o2 o4 s (asB_po h)⟩
/-- the slot's value -/
theorem me_v (i : Nat) {x : Str} {pos : Pos} (hN : X.N[i]? = some x := by rfl) (hv : Vis X.env.scope x := by first | exact Or.inl rfl | exact Or.inr (Or.inl rfl) | exact Or.inr (Or.inr rfl)) (hd : (x == ("__debug__" : Str)) = false := by decide)
    (hcd : (x == ("__classdict__" : Str)) = false := by decide) : ME g X W (.Name x pos) (getV i) := me_var hN hv hd hcd
/-! comparisons of numbers or texts -/
def cmpO (p : Int → Int → Bool) (q : Str → Str → Bool) : OF := fun _ x y L => match x, y with
  | .int i, .int j => .ok (.bl (p i j)) L
  | .str i, .str j => .ok (.bl (q i j)) L
  | _, _ => .bad
theorem om_cmp {f : Value → Value → Sem Value} {p : Int → Int → Bool} {q : Str → Str → Bool} {r : R2} (h : OpR X f (rI0 fun i j => .bl (p i j))) (h2 : OpR X f r) (hr : ∀ i j H Q, Q (.bl (q i j)) H → r (.str i) (.str j) H Q) : OpM g X f (cmpO p q) := by
  refine ⟨_, h.or h2, fun F μ H x y dx dy L Q WW rx ry s p => ?_⟩
  unfold cmpO at p
  split at p
  · exact .inl ⟨_, _, repI rx, repI ry, p.bl s⟩
  · rw [repS rx, repS ry]
    exact .inr (hr _ _ _ _ (p.bl s))
  · exact p.elim
def ltX : OF := cmpO (fun i j => decide (i < j)) fun i j => decide (i.cps.toList < j.cps.toList)
def leX : OF := cmpO (fun i j => decide (i ≤ j)) fun i j => !decide (j.cps.toList < i.cps.toList)
def gtX : OF := cmpO (fun i j => decide (j < i)) fun i j => decide (j.cps.toList < i.cps.toList)
def geX : OF := cmpO (fun i j => decide (j ≤ i)) fun i j => !decide (i.cps.toList < j.cps.toList)
theorem om_ltX : OpM g X (compareOp .Lt) ltX := om_cmp op_lt op_lt_str fun i j H Q q => ⟨i, j, rfl, rfl, q⟩
theorem om_leX : OpM g X (compareOp .LtE) leX := om_cmp op_le op_le_str fun i j H Q q => ⟨i, j, rfl, rfl, q⟩
theorem om_gtX : OpM g X (compareOp .Gt) gtX := om_cmp op_gt op_gt_str fun i j H Q q => ⟨i, j, rfl, rfl, q⟩
theorem om_geX : OpM g X (compareOp .GtE) geX := om_cmp op_ge op_ge_str fun i j H Q q => ⟨i, j, rfl, rfl, q⟩
/-! walked: a list, a tuple, a text -/
def strSrc (z : Str) : Src := ⟨z.cps.size, fun i _ => (z.cps[i]?).map fun c => .str ⟨#[c]⟩, fun _ => true⟩
def anySrc (F L : Sto) : D → Option Src
  | .loc n => (lstAt F L n).map fun xs => lstSrc n xs.length
  | .fls xs => some (valSrc xs)
  | .tup xs => some (valSrc xs)
  | .str z => some (strSrc z)
  | _ => none
def anyI (f : EM) : IM := fun F en L => (f F en L).bind fun d L1 => liftO (anySrc F L1 d) L1
theorem pi_or {tg e : Expr} {t u : TI} (h : PI X tg e t) (h' : PI X tg e u) : PI X tg e (fun σ H R => t σ H R ∨ u σ H R) :=
  ⟨fun pins s σ H R I q => q.elim (fun q => h.run pins s σ H R I q) fun q => h'.run pins s σ H R I q⟩
def onlyS : D → Option Src
  | .str z => some (strSrc z)
  | _ => none
def strI (f : EM) : IM := fun F en L => (f F en L).bind fun d L1 => liftO (onlyS d) L1
theorem mi_str {tg l : Expr} {f : EM} (h : ME g X W l f) : MI g X W tg l (strI f) := by
  obtain ⟨t, p, q⟩ := h
  refine ⟨_, pi_str p, fun F μ H σ en L Q s h => ?_⟩
  refine q F μ H σ en L _ s (Po.bind h fun d L1 μ1 H1 v x r s1 h1 => ?_)
  cases d with
  | str z =>
    refine ⟨z, repS r, Po.now (a := strSrc z) (b := Its z) h1 ?_ s1⟩
    intro μ2 H2 x2 S s2
    refine ⟨fun i d hi hd => ⟨hi, fun y H' ⟨eH, c, e1, e2⟩ => ?_⟩, fun _ => Nat.le_refl _⟩
    subst eH
    have hd' : (z.cps[i]?).map (fun c => D.str ⟨#[c]⟩) = some d := hd
    rw [e1] at hd'
    cases hd'
    exact ⟨μ2, .refl, s2, e2⟩
  | _ => exact h1.elim
theorem mi_any {tg l : Expr} {f : EM} (hK : X.K = g.k.K) (h : ME g X W l f) : MI g X W tg l (anyI f) := by
  obtain ⟨t1, p1, q1⟩ := mi_list (tg := tg) hK h
  obtain ⟨t2, p2, q2⟩ := mi_tup (tg := tg) hK h
  obtain ⟨t3, p3, q3⟩ := mi_str (tg := tg) h
  refine ⟨_, pi_or p1 (pi_or p2 p3), fun F μ H σ en L Q s h => ?_⟩
  unfold anyI at h
  cases e : f F en L with
  | ok d L1 =>
    rw [e] at h
    cases d with
    | loc n => exact .inl (q1 F μ H σ en L Q s (by unfold listI; rw [e]; exact h))
    | fls xs => exact .inl (q1 F μ H σ en L Q s (by unfold listI; rw [e]; exact h))
    | tup xs => exact .inr (.inl (q2 F μ H σ en L Q s (by unfold tupI; rw [e]; exact h)))
    | str z => exact .inr (.inr (q3 F μ H σ en L Q s (by unfold strI; rw [e]; exact h)))
    | _ => exact h.elim
  | err a L1 => rw [e] at h; exact .inl (q1 F μ H σ en L Q s (by unfold listI; rw [e]; exact h))
  | bad => rw [e] at h; exact h.elim
/-- a comprehension's block -/
theorem Bd.blk {j : Nat} (B : Bd g X W j) {s : Shared} {H : Hp} {scope : Scope} {ce : Env} {fp : List Addr} : Bd g (X.blk s H scope ce fp) W0 j :=
  ⟨fun u s' ⟨_, _, _, _, _, _, _, _, _, _, _, _, _, _, _, _, f⟩ => f.elim, B.rm, B.gu, B.calm, B.K⟩
theorem fng_bad {P : Program} {w : World} {K : PySem.W.Frag} {mg : Str → Option Value} {base : Heap} {j : Nat} {f : Addr} {fd : FuncData} {ps : List Str} {k : Gk} : FnG P w K mg base j f fd ps (spM k ps.length fun _ _ _ => .bad) :=
  ⟨fun vs H Q E ⟨F, L, μ, ds, r, _, hl, _⟩ => by rw [r.length, hl], fun A out s H ar us vs Q E _ _ _ _ _ ⟨_, _, _, _, _, _, _, f⟩ => f.elim⟩
theorem repL_nil {k : Gk} : ∀ μ H, RepL k μ H [] [] := fun _ _ => rfl
end
end MI
end SMiI
section SMiJ
set_option Elab.async false
set_option linter.all false
set_option maxRecDepth 100000
set_option maxHeartbeats 4000000
/-! MiJ: own exceptions with a field, made by an __init__ that calls its base's; reading the field. -/
namespace MI
open PySem L2 PyProof.Rows
section
variable {X : Cx} {o e : Expr} {es : List Expr} {to te : TE} {ta : TA} {f : Str} {p p' p1 p2 pos : Pos}
/-- what the written part says of an own exception class whose __init__ is ValueError's -/
structure Xcls (K : PySem.W.Frag) (C : Addr) : Prop where
  rd : PySem.W.readsIn K C (.type "type") = true
  ga : PySem.W.specialIn K (.ref C) "__getattribute__" = some (some (.builtin "type.__getattribute__"))
  at_ : PySem.W.findCls K (.ref C) (.type "type") "__init__" = some (.val (.builtin "ValueError.__init__"))
theorem pe_xinit {x : Str} {CR : Addr} {pl : Sem Bool} (hg : Gl X x) (hm : X.mg x = some (.ref CR)) (T0 : Xcls X.K CR) (ha : PA X (e :: es) ta)
    (hc : eval (.Call (.Attribute (.Name x p1) "__init__" p2) (e :: es) [] pos) X.env = (do
      let ov ← eval (.Name x p1) X.env
      standAt p2.atName
      let fs ← holding [ov] (getMethod ov "__init__" pl)
      callWith pos fs.1 fs.2 (backTo pos (starEach (e :: es) X.env)) (backToKw pos (keywordEach [] X.env))) := by rfl)
    (hd : (x == ("__debug__" : Str)) = false := by decide)
    (he : starEach (e :: es) X.env = (false, eval e X.env) :: starEach es X.env := by rfl) (hpl : (backTo pos (starEach es X.env)).any (·.1) = false := by rfl) :
    PE X (.Call (.Attribute (.Name x p1) "__init__" p2) (e :: es) [] pos) (tVeI X.K ta) := by
  constructor
  intro pins s σ H Q I h
  refine PySem.W.methodCall_KW (pl := pl) (ld_glob I hg hm ?_ hd) hc
  refine PySem.W.method_cls I.kIn T0.ga (PySem.W.cls_value I.kIn T0.rd T0.at_ (by rfl) ?_)
  refine PyProof.Rows.callWith_method1 (thn (ha.run pos pins _ σ H _ (I.tok _) h) fun us s1 hh => ?_) he hpl
  obtain ⟨vs, H1, I1, r1, a, C, ws, ev, hl, T, ea, q⟩ := hh
  subst ev
  cases r1 with
  | @cons _ u0 _ ur ra rr =>
    obtain rfl : u0 = Value.ref a := ra
    have hlen : ur.length ≤ sizeLine := by
      have := Paired.length rr
      rw [sizeLine_eq]
      omega
    exact oinit_ok T I1 ea hlen fun s' J => ⟨.non, H1, J, rfl, q⟩
/-- the promise of an __init__ that keeps its second argument as the field f -/
def spI (K : PySem.W.Frag) (f : Str) : Sp := fun vs H Q _ => ∃ (a C : Addr) (y : V), vs = [.ref a, y] ∧ OexC K C ∧ PySem.W.findIn K (.ref C) f = some none ∧ H a = some (exo a C none) ∧
  ∀ dx, H dx = none → dx ≠ a → Q .non (upd (upd H dx (exd dx [(f, y)])) a (exo a C (some dx)))
theorem pmk_imp {t t' : L2.St → Hp → XK → Prop} (h : PMk X e t) (i : ∀ σ H Q, t' σ H Q → t σ H Q) : PMk X e t' := fun pins s σ H Q I q => h pins s σ H Q I (i σ H Q q)
theorem pmk_f {x : Str} {C fI : Addr} {k : Nat} {fd : FuncData} {ps : List Str} {e : Expr} {ta : TE} (tk : ∃ W, Takes X W) (T : OexC X.K C) (hno : PySem.W.findIn X.K (.ref C) f = some none) (iC : PySem.W.findIn X.K (.ref C) "__init__" = some (some (.ref fI))) (tI : PySem.W.typeIn X.K (.ref fI) = some (.type "function"))
    (F1 : FnOk X.prog X.w X.K X.mg X.base (L2.CX X.prog X.w) k fI fd ps (spI X.K f)) (hr : Room (k + 1) X.A) (hb : Binds X.K fd ps []) (hg : Gl X x) (hm : X.mg x = some (.ref C)) (he : PE X e ta)
    (hdb : (x == ("__debug__" : Str)) = false := by decide) (hs : starEach (e :: []) X.env = (false, eval e X.env) :: starEach [] X.env := by rfl) (hpl : (backTo pos (starEach [] X.env)).any (·.1) = false := by rfl) :
    PMk X (.Call (.Name x p) (e :: []) [] pos) (tMkF C f ta) := by
  obtain ⟨W, tk⟩ := tk
  have he2 : PE X e (fun σ H Q => ∃ R, ta σ H R ∧ ∀ v H1, R v H1 → Q v H1) := ⟨fun pins s σ H Q I ⟨R, h, i⟩ =>
    thn (he.run pins s σ H R I h) fun u s1 ⟨v, H1, I1, r, q⟩ => ⟨v, H1, I1, r, i v H1 q⟩⟩
  refine pmk_imp (pmk_oex (dvs := []) T iC tI F1 hr hb .nil (passes_call (E := fun _ _ _ => False) tk (fun _ _ _ _ z => False.elim z)) hg hm (pa_cons he2 pa_nil hs) hdb hs hpl) fun σ H Q h => ?_
  refine ⟨_, h, fun v H1 q => ⟨by show 1 ≤ 1000; decide, fun a na => ⟨a, C, v, rfl, T, hno, upd_same, fun dx nd ne => ⟨rfl, dx, [(f, v)], upd_same, ?_, ?_, ?_⟩⟩⟩⟩
  · rw [upd_ne ne, upd_same]
  · rw [upd_ne ne] at nd
    exact nd
  · rw [upd_ne ne] at nd
    have z := q dx nd
    have e : upd H1 dx (.xd [(f, v)]) = upd (del (upd (upd (upd H1 a (exo a C none)) dx (exd dx [(f, v)])) a (exo a C (some dx))) a) dx (.xd [(f, v)]) := by
      funext b
      by_cases h1 : b = dx
      · subst h1; rw [upd_same, upd_same]
      · rw [upd_ne h1, upd_ne h1]
        by_cases h2 : b = a
        · subst h2; rw [del_same]; exact na
        · rw [del_ne h2, upd_ne h2, upd_ne h1, upd_ne h2]
    rw [← e]
    exact z
theorem relO_one {f : Str} {v : V} {v' : Value} (r : RelV v v') (h : Str) : RelO (List.lookup h [(f, v)]) (if h = f then some v' else none) := by
  by_cases hw : h = f
  · subst hw
    have q : List.lookup h [(h, v)] = some v := by simp [List.lookup]
    rw [if_pos rfl, q]
    exact r
  · have qw : (h == f) = false := by simpa using hw
    have q2 : List.lookup h [(f, v)] = none := by simp [List.lookup, qw]
    rw [if_neg hw, q2]
    trivial
/-- what the written part says for reading a field of an exception of the class -/
structure Xfld (K : PySem.W.Frag) (C : Addr) (f : Str) : Prop where
  ga : PySem.W.findIn K (.ref C) "__getattribute__" = some (some (.builtin "BaseException.__getattribute__"))
  gg : PySem.W.findIn K (.ref C) "__getattr__" = some none
  exC : PySem.W.subIn K (.ref C) (.type "BaseException") = some true
  hdC : PySem.W.hasDictIn K C = true
  noN : PySem.W.findIn K (.ref C) f = some none
theorem pe_exf {C a : Addr} {oe : Obj} {cls : Value} {d : Option Addr} {pn : List (Addr × Obj)} {o : Expr} {te : TE} (T : Xfld X.K C f) (hz : Zc cls d oe) (hf : ∃ vs, oe.data = .fields vs) (he : PE (X.suite a ((a, oe) :: pn)) o te)
    (hb : attributeBase o f X.env (eval o X.env) = eval o X.env := by rfl) : PE (X.suite a ((a, oe) :: pn)) (.Attribute o f pos) (tExF C a cls d f te) := by
  constructor
  intro pins s σ H Q I h
  refine attr_of hb (thn (he.run pins s σ H _ I h) fun u s1 hh => ?_)
  obtain ⟨x, H1, I1, rx, ex, ec, dd, v, ed, ea, q⟩ := hh
  subst ex ec ed
  obtain rfl : u = Value.ref a := rx
  obtain ⟨ha, _⟩ := I1.pin (a, oe) (List.mem_append_left _ List.mem_cons_self)
  obtain ⟨vs, hd⟩ := hf
  have hx : ObjOk X.prog X.w H1 s1.heap dd (.xd [(f, v)]) := I1.hok dd _ ea
  obtain ⟨mA, hns, hr⟩ := hx
  obtain ⟨od, ho, hl⟩ := lookIn_ns hns
  have l : List.lookup f [(f, v)] = some v := by simp [List.lookup]
  obtain ⟨u, hu, ru⟩ := RelO.some_of (v := v) (o := mA f) (by rw [← l]; exact hr f)
  have J : PySem.W.InstAt s1.heap a oe C (some od) := ⟨ha, hz.1, by unfold PySem.W.notCls; rw [hd] <;> rfl, by rw [hz.2]; exact ho⟩
  exact HandSPX.exc_get I1.kIn J T.ga T.gg T.exC (PySem.W.findObj_own T.hdC T.noN rfl (by rw [hl, hu])) (handed_of ru) ⟨v, H1, I1.tok _, ru, q⟩
end
section
variable {g : Gc} {X : Cx} {W : WX}
theorem me_globE {x : Str} {v : V} {d : D} {pos : Pos} (hg : Gl X x) (h : ∃ u, X.mg x = some u ∧ RelV v u) (rd : ∀ μ H, Rep g.k μ H d v) (hd : (x == ("__debug__" : Str)) = false := by decide) : ME g X W (.Name x pos) (cM d) := by
  obtain ⟨u, hm, r⟩ := h
  exact me_glob hg hm r rd hd
theorem blk_me {j : Nat} {s : Shared} {H : Hp} {scope : Scope} {ce : Env} {fp : List Addr} {e : Expr} {f : EM} (B : Bd g X W j) (h : Bd g (X.blk s H scope ce fp) W0 j → ME g (X.blk s H scope ce fp) W0 e f) : ME g (X.blk s H scope ce fp) W0 e f := h B.blk
theorem blk_mts {j : Nat} {s : Shared} {H : Hp} {scope : Scope} {ce : Env} {fp : List Addr} {e : List Expr} {f : TM} (B : Bd g X W j) (h : Bd g (X.blk s H scope ce fp) W0 j → MTs g (X.blk s H scope ce fp) W0 e f) : MTs g (X.blk s H scope ce fp) W0 e f := h B.blk
end
end MI
end SMiJ
section SMiK
set_option Elab.async false
set_option linter.all false
set_option maxRecDepth 100000
set_option maxHeartbeats 4000000
/-! MiK: list comprehensions whose element may raise. -/
namespace MI
open PySem L2 PyProof.Rows
section
variable {M : Model} {A : Around} {E : Value → Shared → Prop} {s : Shared} {Z : Obj → Prop} {bs : Heap} {env : Env} {outer : List Env} {L x : Addr} {fl : Value}
/-- noted by this frame, whatever its flight says of another place -/
theorem note_z {Q : Unit → Shared → Prop} (st : HandSPX.Steady Z) (hA : A.frames = some (env :: outer)) (hL : env.frame = some L) (k0 : bs.StaysIn s.heap) (n0 : bs.get? x = none) (ff : s.heap.FunFrames bs (env :: outer)) (tr : HandSPX.TracedZ s.heap bs x Z fl) (ne : (fl == rawInt L) = false)
    (hQ : ∀ h1, HandSPX.HeldZ bs (env :: outer) x Z L h1 → s.heap.UpToSlots h1 → Q () { s with heap := h1 }) : wpAny M A (noteFrame (.ref x) env) Q E s := by
  obtain ⟨o, vs, T, ot, ts, h1, h2, h3, h4, h5, h6, h7, h8, h9⟩ := tr
  have sz : 3 < ts.size := (Array.getElem?_eq_some_iff.mp h9).1
  have nt : ∀ b ob, s.heap.get? b = some ob → (∀ us, ob.data ≠ .fields us) → b ≠ T := by
    rintro b ob e1 e2 rfl
    rw [h7] at e1
    cases e1
    exact e2 ts h8
  have oth : ∀ b, b ≠ T → (s.heap.update T (Obj.mapFields (·.setIfInBounds 3 Value.none))).get? b = s.heap.get? b := by
    intro b nb
    exact Heap.get?_update_other _ _ (Ne.symm nb)
  unfold noteFrame
  simp only [hL]
  refine wpAny_bind (wpAny_field h1 h3 h4 ?_)
  rw [if_pos (by simp : (Value.ref T != Value.none) = true)]
  refine wpAny_bind (wpAny_field h7 h8 h9 ?_)
  rw [if_neg (by rw [ne]; exact Bool.false_ne_true)]
  refine wpAny_bind (wpAny_setField h7 h8 sz ?_)
  refine HandSPX.wpAny_entryZ st hA (ff.of_keeps fun b ob e1 e2 => ⟨ob, (oth b (nt b ob e1 e2)).trans e1, rfl⟩) hL ((oth x (Ne.symm h6)).trans h1) ?_ n0 h3 (Array.getElem?_eq_some_iff.mp h4).1 h2 ?_
  · intro b ob e1
    refine (oth b ?_).trans (k0 b ob e1)
    rintro rfl
    rw [h5] at e1
    cases e1
  · rintro h' ⟨y1, y2, y3, y4⟩
    refine hQ h' ⟨y1, n0, y2, y3⟩ ?_
    intro b ob e1 e2
    exact y4 b ob ((oth b (nt b ob e1 e2)).trans e1) e2
end
section
variable {X : Cx} {pins : List (Addr × Obj)} {σ : L2.St} {H3 : Hp} {s3 : Shared} {W : WX} {We : XK} {scope : Scope} {ce : Env} {fp : List Addr}
theorem blk_err (I3 : Inv X pins σ H3 s3) (hst : X.stack = X.env :: X.outer) (hL : X.env.frame = some X.env.locals) (f3 : ∀ b ∈ fp, FpOk X pins H3 b ∧ b < s3.heap.objs.size) (hC : ce.locals = s3.heap.objs.size) (hcf : ce.frame = X.env.frame)
    (tk : Takes X W) (hW : ∀ cls d H', We cls d H' → W cls d σ H') {u : Value} {s' : Shared} (x : XE (X.blk s3 H3 scope ce fp) (fun cls d _ H' => We cls d H') u s') :
    notedBy (model X.prog X.w) X.A ce (fun e s'' => CompFails (model X.prog X.w) X.A X.xe ce e s'') u s' := by
  obtain ⟨a, B, sI, pn', σ', H', cls, d, rfl, I, nb, up, sky, na, os, ag, w⟩ := x
  have hfr : X.A.frames = some (X.env :: X.outer) := by rw [I3.ok.frames, hst]
  have nC : ∀ b o, s3.heap.get? b = some o → b ≠ ce.locals := fun b o e z => by
    have := Heap.lt_size e
    rw [z, hC] at this
    exact Nat.lt_irrefl _ this
  show wpAny _ _ (noteFrame (.ref a) ce) _ _ s'
  rw [noteFrame_env _ hcf]
  have held : ∀ h1, HandSPX.HeldZ B (X.env :: X.outer) a (Zc cls d) X.env.locals h1 → s'.heap.UpToSlots h1 → CompFails (model X.prog X.w) X.A X.xe ce (.ref a) { s' with heap := h1 } := by
    rintro h1 ⟨k1, k2, k3, o, vs, T, ot, ts, e1, e2, e3, e4, e5, e6, e7, e8, e9⟩ up1
    obtain ⟨m, hn, _⟩ := I.loc
    have hn1 : h1.Ns ce.locals m := up1.ns (up.ns hn)
    refine ⟨m, hn1, fun h2 m2 hn2 sb => ?_⟩
    obtain ⟨oc, es, ep, c1, c2, _⟩ := hn1
    have nf : ∀ b ob us, h1.get? b = some ob → ob.data = .fields us → b ≠ ce.locals := by
      rintro b ob us q1 q2 rfl
      have q1' : h1.get? ce.locals = some ob := q1
      rw [c1] at q1'
      cases q1'
      rw [c2] at q2
      cases q2
    have na2 := nf a o vs e1 e3
    have nT := nf T ot ts e7 e8
    generalize hB' : PySem.W.hideAll B [ce.locals] = B'
    have b1 : ∀ b ob, B'.get? b = some ob → B.get? b = some ob ∧ b ≠ ce.locals := by
      intro b ob q
      subst hB'
      refine ⟨PySem.W.of_hideAll _ q, ?_⟩
      rintro rfl
      rw [PySem.W.hideAll_none _ (List.mem_singleton.mpr rfl)] at q
      cases q
    have b2 : ∀ b ob, B.get? b = some ob → b ≠ ce.locals → B'.get? b = some ob := by
      intro b ob q n
      subst hB'
      exact PySem.W.hideAll_get _ q (by simpa using n)
    have b3 : ∀ b, B.get? b = none → B'.get? b = none := by
      intro b q
      cases z : B'.get? b with
      | none => rfl
      | some ob => rw [(b1 b ob z).1] at q; cases q
    have st2 : B'.StaysIn h2 := fun b ob q => by
      obtain ⟨q1, q2⟩ := b1 b ob q
      exact (sb.2 b q2).trans (k1 b ob q1)
    have ff2 : h2.FunFrames B' (X.env :: X.outer) := funFrames_none (Heap.FunFrames.sameBut sb hn2 k3) fun b hb => b3 b (by
      obtain ⟨en, m1, m2⟩ := List.mem_filterMap.mp hb
      exact (k3.mem hb).1)
    have held2 : HandSPX.HeldZ B' (X.env :: X.outer) a (Zc cls d) X.env.locals h2 :=
      ⟨st2, b3 _ k2, ff2, o, vs, T, ot, ts, (sb.2 a na2).trans e1, e2, e3, e4, b3 _ e5, e6, (sb.2 T nT).trans e7, e8, e9⟩
    unfold PySem.passOn
    refine wpAny_bind (wpAny_field ((sb.2 a na2).trans e1) e3 e4 ?_)
    rw [if_neg (show ¬ ((Value.ref T == Value.none) = true) by simp)]
    rw [hcf, hL]
    refine wpAny_bind (HandSPX.setFlight_onZ held2 fun h4 hh up4 => wpAny_throw (tk _ _ ?_))
    -- the state without the exception
    obtain ⟨G, g1, g2⟩ := restrict h4 fun b => (B'.get? b).isSome || decide (b ∈ frs X.stack)
    have gB : ∀ b ob, B'.get? b = some ob → G.get? b = some ob := by
      intro b ob q
      rw [g1 b (by simp [q])]
      exact hh.1 b ob q
    have gF : ∀ b, b ∈ frs X.stack → G.get? b = h4.get? b := fun b q => g1 b (by simp [q])
    have of : ∀ b ob, G.get? b = some ob → h4.get? b = some ob ∧ ((∃ z, B'.get? b = some z) ∨ b ∈ frs X.stack) := by
      intro b ob q
      cases p : ((B'.get? b).isSome || decide (b ∈ frs X.stack)) with
      | false => rw [g2 b p] at q; cases q
      | true =>
        rw [g1 b p] at q
        rcases Bool.or_eq_true_iff.mp p with p | p
        · exact ⟨q, .inl (Option.isSome_iff_exists.mp p)⟩
        · exact ⟨q, .inr (of_decide_eq_true p)⟩
    have chain : ∀ b ob, sI.heap.get? b = some ob → (∀ us, ob.data ≠ .fields us) → b ≠ ce.locals → ∃ sl, h4.get? b = some { ob with slots := sl } := by
      intro b ob q1 q2 q3
      obtain ⟨l1, r1⟩ := up b ob q1 q2
      obtain ⟨l2, r2⟩ := up1 b _ r1 q2
      have r3 : h2.get? b = some _ := (sb.2 b q3).trans r2
      obtain ⟨l4, r4⟩ := up4 b _ r3 q2
      exact ⟨l4, r4⟩
    have gnd : ∀ b ob, s3.heap.get? b = some ob → sI.heap.get? b = some ob → b ∉ frs X.stack → G.get? b = some ob := fun b ob q1 q2 q3 => gB b ob (b2 b ob (nb b ob q2 q3) (nC b ob q1))
    have nfs : ∀ b ∈ frs X.stack, ∀ us ob, s3.heap.get? b = some ob → ob.data ≠ .fields us := fun b hb us ob q => by
      obtain ⟨_, o', q', hd⟩ := I3.stack.mem hb
      rw [q] at q'
      cases q'
      exact hd us
    have un : Un (frs X.stack) fp H3 H' s3.heap G := by
      refine ⟨fun b ob q1 q2 q3 q4 => gnd b ob q1 (I.base.keep b ob q1 q2 q3 q4) q3, fun b ob q1 q2 q3 q4 => ?_, fun b ob q1 q2 q3 => I.base.free b ob q1 q2 q3, fun b ob q1 q2 => ?_, I.base.tups, I.base.frzs, I.base.tbls⟩
      · obtain ⟨sl, r⟩ := I.base.slot b ob q1 q2 q3 q4
        obtain ⟨sl2, r2⟩ := chain b _ r (fun us => nfs b q3 us ob q1) (nC b ob q1)
        exact ⟨sl2, (gF b q3).trans r2⟩
      · by_cases hb : b ∈ frs X.stack
        · have n3 : H3 b = none := I3.stkFree b hb
          obtain ⟨sl, r⟩ := I.base.slot b ob q1 n3 hb q2
          obtain ⟨sl2, r2⟩ := chain b _ r (fun us => nfs b hb us ob q1) (nC b ob q1)
          exact ⟨_, (gF b hb).trans r2⟩
        · obtain ⟨o', r⟩ := I.base.there b ob q1 q2
          exact ⟨o', gB b o' (b2 b o' (nb b o' r hb) (nC b ob q1))⟩
    have hok : HOk X.prog X.w H' G := by
      intro b ob q
      have z : ObjOk X.prog X.w H' B b ob := I.inGround nb b ob q
      have nl : H' ce.locals = none := I.free
      refine z.stay (fun c v hc r => gB c v (b2 c v r ?_)) (fun _ r => r) fun _ _ r => r
      rintro rfl
      rcases hc with hc | hc
      · rw [← hc, nl] at q; cases q
      · rw [nl] at hc; cases hc
    refine ⟨a, B', { s3 with heap := G, gens := s'.gens, drawn := s'.drawn, toks := s'.toks }, pins, σ, H', cls, d, rfl, ?_, ?_, Heap.UpToSlots.of_keeps fun b ob q => (of b ob q).1, ?_, na, os.trans I.os, ag, hW _ _ _ w⟩
    · exact I3.call (ch := fp) un hok ag fun b hb => ⟨(f3 b hb).1.2.2.2.1, (f3 b hb).1.2.1, (f3 b hb).1.2.2.2.2.1, (f3 b hb).1.2.2.2.2.2⟩
    · intro b ob q hb
      obtain ⟨r1, ⟨z, r2⟩ | r2⟩ := of b ob q
      · have r3 : h4.get? b = some z := hh.1 b z r2
        rw [r1] at r3
        cases r3
        exact r2
      · exact absurd r2 hb
    · rw [hst]
      exact .inr (.inr hh)
  have sky' : Sky B (X.env :: X.outer) a (Zc cls d) ce.locals s'.heap := by
    have z : Sky B X.stack a (Zc cls d) ce.locals s'.heap := sky
    rw [hst] at z
    exact z
  rcases sky' with ⟨q1, q2, q3, o, vs, q4, q5, q6, q7⟩ | fl | hh
  · exact HandSPX.look_newZ Zc.steady hfr q3 hL q4 q1 q2 q6 q7 q5 held
  · exact HandSPX.looks_onZ Zc.steady hfr hL fl held
  · obtain ⟨q1, q2, q3, q4⟩ := hh
    refine note_z Zc.steady hfr hL q1 q2 q3 q4 ?_ held
    have lt : X.env.locals < ce.locals := by rw [hC]; exact I3.lt
    have : ce.locals ≠ X.env.locals := Nat.ne_of_gt lt
    simp only [rawInt, beq_eq_false_iff_ne]
    intro z
    injection z with z
    exact this (Int.ofNat.inj z)
/-- the block's context, its exceptions kept -/
abbrev Xb (X : Cx) (s : Shared) (H : Hp) (scope : Scope) (ce : Env) (fp : List Addr) (We : XK) : Cx := (X.blk s H scope ce fp).wish (XE (X.blk s H scope ce fp) fun cls d _ H' => We cls d H')
theorem xe_unwish {X : Cx} {E : Value → Shared → Prop} {W : WX} {u : Value} {s' : Shared} (x : XE (X.wish E) W u s') : XE X W u s' := by
  obtain ⟨a, B, sI, pn, τ, H, cls, d, q1, I, r⟩ := x
  exact ⟨a, B, sI, pn, τ, H, cls, d, q1, I.unwish, r⟩
theorem lcx_core {s : Shared} {H : Hp} {Q : VK} {elt tg iter : Expr} {ifs : List Expr} {own : List (Str × Nat)} {pos pos2 : Pos} {wi : TI} {g : TG} {tt : TT} {te : TE} {use : Option (Value → Sem Unit)} {Qf : Value → Shared → Prop}
    (hst : X.stack = X.env :: X.outer) (hL : X.env.frame = some X.env.locals) (tk : Takes X W) (hW : ∀ cls d H', We cls d H' → W cls d σ H')
    (hc : X.calm = true) (hN : X.N.Nodup) (I : Inv X pins σ H s) (hi : PI X tg iter wi) (ok : BlkOk X.N X.env.scope scope own)
    (hg : ∀ (s : Shared) (H : Hp) (C : Addr) (cl : List (Str × Addr)) (fp : List Addr), PG (X.blk s H scope (compEnvC scope cl C X.env) fp) tg g)
    (ht : ∀ (s : Shared) (H : Hp) (C : Addr) (cl : List (Str × Addr)) (fp : List Addr), PTs (Xb X s H scope (compEnvC scope cl C X.env) fp We) ifs tt)
    (he : ∀ (s : Shared) (H : Hp) (C : Addr) (cl : List (Str × Addr)) (fp : List Addr), PE (Xb X s H scope (compEnvC scope cl C X.env) fp We) elt te) (hs : ∀ x, foldedSetIterable iter X.env x = pure x)
    (h : tLc wi g tt te (own.map (·.2)) σ H Q)
    (fine : ∀ D ce s' m H', ce.locals ∉ ([] : List Addr) → Inv X pins σ H' s' → Q (.ref D) H' → s'.heap.Ns ce.locals m → FpOk X pins H' ce.locals → compEnds (model X.prog X.w) X.A X.xe use Qf (.ref D) ce (.ok .next) s') :
    wpAny (model X.prog X.w) X.A (comprehension (.ListComp elt [⟨tg, iter, ifs, 0⟩] scope pos) scope X.env pos2 (newList []) false (eval iter X.env) use) Qf X.xe s := by
  have hfree : ∀ y ∈ scope.names, y.2 = .free → ∃ c, X.env.cells.lookup y.1 = some c := fun y hy e => by
    rcases ok.free y hy e with k | k
    · exact I.ok.has _ (.inl k)
    · exact I.ok.has _ (.inr k)
  refine comprehension_at (use := use) rfl hs (closure_ok hfree) ok.kind (fun y hy e => by rw [ok.uniq y hy, e]) ?_
  refine thn (hi.run pins s σ H _ I h) fun xv s1 hx => thn hx fun itv s2 h2 => ?_
  obtain ⟨it, fp, tn, J, H2, rfl, I2, T, st2, f2, q⟩ := h2
  refine wpAny_newObj_type (newEnv_comp ?_) (by show 0 ≤ sizeLine; decide)
  generalize eD : s2.heap.objs.size = D
  obtain ⟨V, ⟨m0, v0⟩, turn⟩ := q D (I2.hok.fresh (Nat.le_of_eq eD))
  -- the list that grows
  generalize eT : ({ s2 with heap := s2.heap.push { cls := .type "list", data := .seq ([] : List Value).toArray } } : Shared) = s3
  have push : s3.heap = s2.heap.push { cls := .type "list", data := .seq ([] : List Value).toArray } := by rw [← eT]
  have I3 : Inv X pins σ (upd H2 D (.lst [])) s3 := by
    subst eT
    refine I2.laid (t' := s2.toks) (fun b o e => Heap.get?_push_of_some _ e) (Nat.le_of_eq eD) ⟨Nat.zero_le _, [], 0, .nil, ?_⟩
    subst eD
    exact Heap.get?_push_size _ rfl
  have f3 : ∀ b ∈ fp, FpOk X pins (upd H2 D (.lst [])) b ∧ b < s3.heap.objs.size := by
    intro b hb
    obtain ⟨o, e, _⟩ := T.obj _ _ st2 b hb
    have lt := Heap.lt_size e
    obtain ⟨p1, p2⟩ := f2 b hb
    refine ⟨⟨?_, p2⟩, ?_⟩
    · rw [upd_ne (by rw [← eD]; exact Nat.ne_of_lt lt)]
      exact p1
    · rw [push, Heap.size_push]
      exact Nat.lt_succ_of_lt lt
  have st3 : tn 0 s3.heap := T.keep _ _ _ st2 fun b _ o e => by
    rw [push]
    exact Heap.get?_push_of_some _ e
  have I4 := block_start I3 ok hN f3
  have pg := hg s3 (upd H2 D (.lst [])) s3.heap.objs.size (cellsFrom (s3.heap.objs.size + 1) scope.names (cloFrom X.env.cells scope.names [])) fp
  have pt := ht s3 (upd H2 D (.lst [])) s3.heap.objs.size (cellsFrom (s3.heap.objs.size + 1) scope.names (cloFrom X.env.cells scope.names [])) fp
  have pe := he s3 (upd H2 D (.lst [])) s3.heap.objs.size (cellsFrom (s3.heap.objs.size + 1) scope.names (cloFrom X.env.cells scope.names [])) fp
  show codeAny _ _ (.compStart (.ListComp elt [⟨tg, iter, ifs, 0⟩] scope pos) 0 (.ref it) (.ref D) (compEnvC scope (cellsFrom (s3.heap.objs.size + 1) scope.names (cloFrom X.env.cells scope.names [])) s3.heap.objs.size X.env))
    (compEnds (model X.prog X.w) X.A X.xe use Qf (.ref D) (compEnvC scope (cellsFrom (s3.heap.objs.size + 1) scope.names (cloFrom X.env.cells scope.names [])) s3.heap.objs.size X.env)) { s3 with heap := pushCells (s3.heap.push { cls := .type "dict", data := .dict #[] }) scope.names }
  have nfp : ∀ b ∈ fp, (upd H2 D (.lst [])) b = none := fun b hb => (f3 b hb).1.1
  generalize hce : compEnvC scope (cellsFrom (s3.heap.objs.size + 1) scope.names (cloFrom X.env.cells scope.names [])) s3.heap.objs.size X.env = ce at I4 pg pt pe ⊢
  have cL : ce.locals = s3.heap.objs.size := by subst hce; rfl
  have cF : ce.frame = X.env.frame := by subst hce; rfl
  generalize eH : upd H2 D (.lst []) = H3 at I3 I4 pg pt pe v0 nfp f3
  generalize es4 : ({ s3 with heap := pushCells (s3.heap.push { cls := .type "dict", data := .dict #[] }) scope.names } : Shared) = s4 at I4 ⊢
  have st4 : tn 0 s4.heap := T.keep _ _ _ st3 fun b _ o e => by
    subst es4
    exact pushCells_keeps _ _ _ _ (Heap.get?_push_of_some _ e)
  have err : ∀ (u : Value) (s' : Shared), XE (X.blk s3 H3 scope ce fp) (fun cls d _ H' => We cls d H') u s' → notedBy (model X.prog X.w) X.A ce (fun e s'' => compEnds (model X.prog X.w) X.A X.xe use Qf (.ref D) ce (.error e) s'') u s' := by
    intro u s' x
    have z := blk_err I3 hst hL f3 cL cF tk hW x
    cases use <;> exact z
  have stat : ∀ {σ2 : L2.St} {H' : Hp} {s' : Shared}, Inv (X.blk s3 H3 scope ce fp) [] σ2 H' s' → (∀ b ∈ fp, H' b = none) → ∀ b ∈ fp, FpOk (X.blk s3 H3 scope ce fp) [] H' b := by
    intro σ2 H' s' J' hn b hb
    refine ⟨hn b hb, (J'.ok.exf b hb).1, J'.ok.exfs b hb, .inl hb, fun x c e => (J'.ok.exf b hb).2 x c e, fun p hp => ?_⟩
    have hp' : p ∈ ([] : List (Addr × Obj)) ++ [] := hp
    simp at hp'
  have loop : codeAny (model X.prog X.w) X.A (.compLoop (.ListComp elt [⟨tg, iter, ifs, 0⟩] scope pos) 0 (.ref it) (.ref D) ce) (compEnds (model X.prog X.w) X.A X.xe use Qf (.ref D) ce) s4 := by
    refine compLoop_any (fun n s' => ∃ i H', Inv (X.blk s3 H3 scope ce fp) [] (wipe σ (own.map (·.2))) H' s' ∧ tn i s'.heap ∧ (∀ b ∈ fp, H' b = none) ∧ V i n H') ?_ m0 ⟨0, H3, I4, st4, nfp, v0⟩
    rintro n s5 ⟨i, H5, I5, st5, n5, v5⟩
    rcases turn i n H5 v5 with ⟨stop, qq⟩ | ⟨go, Nx, hNx, step⟩
    · refine thnF (T.done (X.blk s3 H3 scope ce fp) rfl rfl rfl hc i [] s5 _ H5 (fun _ _ => False) I5 (stat I5 n5) st5 stop) fun r s6 ⟨hr, I6⟩ => ?_
      subst hr
      have I7 : Inv X pins σ H5 s6 := I3.call' (ch := fp) I6.os I6.base I6.hok I6.bare fun b hb => ⟨(f3 b hb).1.2.2.2.1, (f3 b hb).1.2.1, (f3 b hb).1.2.2.2.2.1, (f3 b hb).1.2.2.2.2.2⟩
      have nC : H5 ce.locals = none := I6.free
      obtain ⟨m, hn, _⟩ := I6.loc
      exact fine D ce s6 m H5 (by simp) I7 qq hn (I3.fpOk (Nat.le_of_eq cL.symm) nC)
    · refine thnF (T.item (X.blk s3 H3 scope ce fp) rfl rfl rfl hc i [] s5 _ H5 (fun _ _ => False) I5 (stat I5 n5) st5 go) fun r s6 ⟨u, hr, h6⟩ => ?_
      subst hr
      refine thnF h6 fun _ s7 ⟨x, H7, I7, r7, y7, st7, n7⟩ => ?_
      refine thnF (pg.run _ s7 _ H7 x u _ (I7.pinned (stat I7 n7) (T.obj _ _ st7)) r7 (step x H7 y7)) fun _ s8 ⟨σ8, H8, I8, hw8, q8⟩ => ?_
      refine wpAny_mono (pt.run _ s8 σ8 H8 _ (I8.wish _) q8) (fun b s9 ⟨H9, I9, q9⟩ => ?_) fun u s' x => err u s' x
      have fin : ∀ {s' : Shared} {H' : Hp}, Inv (X.blk s3 H3 scope ce fp) ([] ++ pinsAt fp s7.heap) σ8 H' s' → Nx H' → ∃ m, m < n ∧ ∃ i H', Inv (X.blk s3 H3 scope ce fp) [] (wipe σ (own.map (·.2))) H' s' ∧ tn i s'.heap ∧ (∀ b ∈ fp, H' b = none) ∧ V i m H' := by
        intro s' H' J' nx
        obtain ⟨m2, hm, v2⟩ := hNx H' nx
        have pn2 : ∀ b ∈ fp, ∀ o, s7.heap.get? b = some o → s'.heap.get? b = some o ∧ H' b = none := fun b hb o e =>
          have z := J'.pin (b, o) (List.mem_append_right _ (List.mem_append_right _ (mem_pinsAt hb e)))
          ⟨z.1, z.2.1⟩
        refine ⟨m2, hm, i + 1, H', (J'.unpinned (pins := [])).weak (by rw [← wipe_length σ8 (own.map (·.2)), hw8]) ?_, T.keep _ _ _ st7 fun b hb o e => (pn2 b hb o e).1, ?_, v2⟩
        · intro j v e
          rw [← hw8] at e
          exact (wipe_some e).1
        · intro b hb
          obtain ⟨o, e, _⟩ := T.obj _ _ st7 b hb
          exact (pn2 b hb o e).2
      cases b with
      | false =>
        rw [if_neg Bool.false_ne_true] at q9 ⊢
        exact fin I9.unwish q9
      | true =>
        rw [if_pos rfl] at q9 ⊢
        refine wpAny_mono (pe.run _ s9 σ8 H9 _ I9 q9) (fun z s10 ⟨yv, H10, I10, r10, acc, eD2, hz, nx⟩ => ?_) fun u s' x => err u s' x
        exact app_ok (X := X.blk s3 H3 scope ce fp) I10.unwish eD2 hz r10 fun s11 I11 => fin I11 nx
  exact codeAny_compStart_list loop (T.self X.A 0 _ _ _ st4 loop)
theorem pe_lcx {elt tg iter : Expr} {ifs : List Expr} {own : List (Str × Nat)} {pos : Pos} {wi : TI} {g : TG} {tt : XK → TT} {te : XK → TE} (hst : X.stack = X.env :: X.outer) (hL : X.env.frame = some X.env.locals) (tk : Takes X W) (hc : X.calm = true) (hN : X.N.Nodup) (hi : PI X tg iter wi) (ok : BlkOk X.N X.env.scope scope own)
    (hg : ∀ (s : Shared) (H : Hp) (C : Addr) (cl : List (Str × Addr)) (fp : List Addr), PG (X.blk s H scope (compEnvC scope cl C X.env) fp) tg g)
    (ht : ∀ (We : XK) (s : Shared) (H : Hp) (C : Addr) (cl : List (Str × Addr)) (fp : List Addr), PTs (Xb X s H scope (compEnvC scope cl C X.env) fp We) ifs (tt We))
    (he : ∀ (We : XK) (s : Shared) (H : Hp) (C : Addr) (cl : List (Str × Addr)) (fp : List Addr), PE (Xb X s H scope (compEnvC scope cl C X.env) fp We) elt (te We)) (hs : ∀ x, foldedSetIterable iter X.env x = pure x := by intro _; rfl) :
    PE X (.ListComp elt [⟨tg, iter, ifs, 0⟩] scope pos) (fun σ H Q => tLc wi g (tt (WE W σ)) (te (WE W σ)) (own.map (·.2)) σ H Q) := by
  constructor
  intro pins s σ H Q I h
  rw [eval_ListComp]
  refine lcx_core hst hL tk (We := WE W σ) (fun _ _ _ z => z) hc hN I hi ok hg (ht _) (he _) hs h fun D ce s' m H' _ I' q hn f => ⟨m, hn, fun h2 sb => ?_⟩
  obtain ⟨f0, f1, f2, f3, f4, f5⟩ := f
  exact ⟨.ref D, H', I'.turned (t' := s'.toks) (fun b o hb e => (sb.2 b hb).trans e) f0 f1 f3 f4 f5, rfl, q⟩
end
section
variable {g : Gc} {X : Cx} {W : WX}
def lcxM (fi : IM) (G : GM) (tt : TM) (fe : EM) (vs : List Nat) : EM := fun F en L => (fi F en L).bind fun src L1 => lcGo src G tt fe (F.length + L1.length) F (wipeD en vs) src.num (L1 ++ [.lst []])
theorem me_lcx {elt tg iter : Expr} {ifs : List Expr} {scope : Scope} {own : List (Str × Nat)} {pos : Pos} {t : TG} {fi : IM} {G : GM} {ft : TM} {fe : EM} {j : Nat} (B : Bd g X W j) (hst : X.stack = X.env :: X.outer) (hL : X.env.frame = some X.env.locals) (hN : X.N.Nodup) (hi : MI g X W tg iter fi) (ok : BlkOk X.N X.env.scope scope own)
    (gs : GS g t G) (mo : Mog t) (iw : Inw (own.map (·.2)) t) (cG : Calm G) (hg : ∀ (s : Shared) (H : Hp) (C : Addr) (cl : List (Str × Addr)) (fp : List Addr), PG (X.blk s H scope (compEnvC scope cl C X.env) fp) tg t)
    (ht : ∀ (We : XK) (s : Shared) (H : Hp) (C : Addr) (cl : List (Str × Addr)) (fp : List Addr), Bd g (Xb X s H scope (compEnvC scope cl C X.env) fp We) (WE0 We) j → MTs g (Xb X s H scope (compEnvC scope cl C X.env) fp We) (WE0 We) ifs ft)
    (he : ∀ (We : XK) (s : Shared) (H : Hp) (C : Addr) (cl : List (Str × Addr)) (fp : List Addr), Bd g (Xb X s H scope (compEnvC scope cl C X.env) fp We) (WE0 We) j → ME g (Xb X s H scope (compEnvC scope cl C X.env) fp We) (WE0 We) elt fe)
    (hs : ∀ x, foldedSetIterable iter X.env x = pure x := by intro _; rfl) : ME g X W (.ListComp elt [⟨tg, iter, ifs, 0⟩] scope pos) (lcxM fi G ft fe (own.map (·.2))) := by
  obtain ⟨wi, p1, q1⟩ := hi
  have bd : ∀ (We : XK) (s : Shared) (H : Hp) (C : Addr) (cl : List (Str × Addr)) (fp : List Addr), Bd g (Xb X s H scope (compEnvC scope cl C X.env) fp We) (WE0 We) j := fun We s H C cl fp => ⟨fun u s' x => xe_unwish x, B.rm, B.gu, B.calm, B.K⟩
  refine ⟨_, pe_lcx (tt := fun We => cT g (WE0 We) ft) (te := fun We => cE g (WE0 We) fe) hst hL B.tk B.calm hN p1 ok hg (fun We s H C cl fp => (ht We s H C cl fp (bd We s H C cl fp)).pt) (fun We s H C cl fp => (he We s H C cl fp (bd We s H C cl fp)).pe) hs, fun F μ H σ en L Q s h => ?_⟩
  refine q1 F μ H σ en L _ s (Po.bind h fun src L1 μ1 H1 J x r s1 h1 => ?_)
  intro Dl hD
  exact lc_go (W1 := WE0 (WE W σ)) (fun _ _ _ _ z => z) r gs mo iw cG (s.mono x s1) hD h1
theorem ps_setLcx {i : Nat} {y : Str} {py : Pos} {elt tg iter : Expr} {ifs : List Expr} {scope : Scope} {own : List (Str × Nat)} {pos spos : Pos} {wi : TI} {g : TG} {tt : XK → TT} {te : XK → TE} (hst : X.stack = X.env :: X.outer) (hL : X.env.frame = some X.env.locals) (tk : Takes X W) (hc : X.calm = true) (hN : X.N.Nodup)
    (hy : X.N[i]? = some y) (hyl : X.env.scope.names.lookup y = some .local) (hsw : swapsWith (.ListComp elt [⟨tg, iter, ifs, 0⟩] scope pos) (some (.Name y py)) spos.line X.env = pure true) (hi : PI X tg iter wi) (ok : BlkOk X.N X.env.scope scope own)
    (hg : ∀ (s : Shared) (H : Hp) (C : Addr) (cl : List (Str × Addr)) (fp : List Addr), PG (X.blk s H scope (compEnvC scope cl C X.env) fp) tg g)
    (ht : ∀ (We : XK) (s : Shared) (H : Hp) (C : Addr) (cl : List (Str × Addr)) (fp : List Addr), PTs (Xb X s H scope (compEnvC scope cl C X.env) fp We) ifs (tt We))
    (he : ∀ (We : XK) (s : Shared) (H : Hp) (C : Addr) (cl : List (Str × Addr)) (fp : List Addr), PE (Xb X s H scope (compEnvC scope cl C X.env) fp We) elt (te We)) (hs : ∀ x, foldedSetIterable iter X.env x = pure x := by intro _; rfl) :
    PS X (.Assign [.Name y py] (.ListComp elt [⟨tg, iter, ifs, 0⟩] scope pos) spos) (fun D σ H => tLc wi g (tt (WE W σ)) (te (WE W σ)) (own.map (·.2)) σ H fun x H1 => gName i x σ H1 D.nx) := by
  constructor
  intro pins s σ H D I h
  rw [exec_Assign_Name_used _ _ _ _ hsw]
  refine wpAny_bind (wpAny_standAt (wpAny_bind ?_))
  refine wpAny_bind (thn (lcx_core (Qf := fun _ s2 => SP X pins D .next s2) hst hL tk (We := WE W σ) (fun _ _ _ z => z) hc hN I hi ok hg (ht _) (he _) hs h fun Dl ce s2 m H2 _ I2 q hn f => ?_) fun _ _ z => wpAny_pure (wpAny_pure z))
  show wpAny _ _ (assign (.Name y py) X.env (.ref Dl)) _ _ _
  refine wpAny_assign_Name (store_ok2 (v := V.ref Dl) I2 hN hy (.inl hyl) rfl (fun s3 I3 ⟨a, sb, ha⟩ => ?_) (.inr hyl))
  obtain ⟨f0, f1, f2, f3, f4, f5⟩ := f
  have na : ce.locals ≠ a := by
    rcases ha with z | z
    · rw [z]; exact f1
    · intro e; exact f4 y a z e.symm
  refine ⟨m, hn.sameBut sb na, fun h4 sb4 => ⟨_, H2, I3.turned (t' := s3.toks) (fun b o hb e => (sb4.2 b hb).trans e) f0 f1 f3 f4 f5, q⟩⟩
theorem ms_setLcx {i : Nat} {y : Str} {py : Pos} {elt tg iter : Expr} {ifs : List Expr} {scope : Scope} {own : List (Str × Nat)} {pos spos : Pos} {t : TG} {fi : IM} {G : GM} {ft : TM} {fe : EM} {j : Nat} (B : Bd g X W j) (hst : X.stack = X.env :: X.outer) (hL : X.env.frame = some X.env.locals) (hN : X.N.Nodup)
    (hy : X.N[i]? = some y) (hyl : X.env.scope.names.lookup y = some .local) (hsw : swapsWith (.ListComp elt [⟨tg, iter, ifs, 0⟩] scope pos) (some (.Name y py)) spos.line X.env = pure true) (hi : MI g X W tg iter fi) (ok : BlkOk X.N X.env.scope scope own)
    (gs : GS g t G) (mo : Mog t) (iw : Inw (own.map (·.2)) t) (cG : Calm G) (hg : ∀ (s : Shared) (H : Hp) (C : Addr) (cl : List (Str × Addr)) (fp : List Addr), PG (X.blk s H scope (compEnvC scope cl C X.env) fp) tg t)
    (ht : ∀ (We : XK) (s : Shared) (H : Hp) (C : Addr) (cl : List (Str × Addr)) (fp : List Addr), Bd g (Xb X s H scope (compEnvC scope cl C X.env) fp We) (WE0 We) j → MTs g (Xb X s H scope (compEnvC scope cl C X.env) fp We) (WE0 We) ifs ft)
    (he : ∀ (We : XK) (s : Shared) (H : Hp) (C : Addr) (cl : List (Str × Addr)) (fp : List Addr), Bd g (Xb X s H scope (compEnvC scope cl C X.env) fp We) (WE0 We) j → ME g (Xb X s H scope (compEnvC scope cl C X.env) fp We) (WE0 We) elt fe)
    (hs : ∀ x, foldedSetIterable iter X.env x = pure x := by intro _; rfl) : MS g X W (.Assign [.Name y py] (.ListComp elt [⟨tg, iter, ifs, 0⟩] scope pos) spos) (asgS (lcxM fi G ft fe (own.map (·.2))) (nameG i)) := by
  obtain ⟨wi, p1, q1⟩ := hi
  have bd : ∀ (We : XK) (s : Shared) (H : Hp) (C : Addr) (cl : List (Str × Addr)) (fp : List Addr), Bd g (Xb X s H scope (compEnvC scope cl C X.env) fp We) (WE0 We) j := fun We s H C cl fp => ⟨fun u s' x => xe_unwish x, B.rm, B.gu, B.calm, B.K⟩
  refine ⟨_, ps_setLcx (tt := fun We => cT g (WE0 We) ft) (te := fun We => cE g (WE0 We) fe) hst hL B.tk B.calm hN hy hyl hsw p1 ok hg (fun We s H C cl fp => (ht We s H C cl fp (bd We s H C cl fp)).pt) (fun We s H C cl fp => (he We s H C cl fp (bd We s H C cl fp)).pe) hs, fun F μ H σ en L D s h => ?_⟩
  have h2 : Po g.k (rE g.k) F μ H (lcxM fi G ft fe (own.map (·.2)) F en L) (fun v H' => D.nx (σ.set i (some v)) H') (fun c d H' => W c d σ H') :=
    SPo.bind s h fun d L1 μ1 H1 v x r s1 h1 => h1 μ1 H1 _ .refl (s1.set i r)
  refine q1 F μ H σ en L _ s (Po.bind h2 fun src L1 μ1 H1 J x r s1 h1 => ?_)
  intro Dl hD
  exact lc_go (W1 := WE0 (WE W σ)) (fun _ _ _ _ z => z) r gs mo iw cG (s.mono x s1) hD h1
end
end MI
end SMiK
section SMiL
set_option Elab.async false
set_option linter.all false
set_option maxRecDepth 100000
set_option maxHeartbeats 4000000
/-! MiL: a tuple or a list, taken apart. -/
namespace MI
open PySem L2
section
variable {g : Gc} {X : Cx} {W : WX} {F L : Sto} {μ : List Addr} {H : Hp}
/-- the parts of a tuple, a list -/
def partsD (F L : Sto) : D → Option (List D)
  | .tup ds => some ds
  | d => listD F L d
def unpG (n : Nat) (K : GMs) : GM := fun F d en L => match partsD F L d with
  | some ds => if ds.length = n then K F ds en L else .bad
  | none => .bad
def gUnp (K : PySem.W.Frag) (n : Nat) (t : TGs) : TG := fun v σ H Q => gTup K n t v σ H Q ∨ gLst K n t v σ H Q
theorem pg_unp {es : List Expr} {k n : Nat} {t : TGs} {pos : Pos} (hc : X.calm = true) (h : PGs X es t) (hn : (assignEach es X.env).length = n := by rfl) (hst : (assignEach es X.env).findIdx? (·.1) = none := by rfl) : PG X (.Tuple es k pos) (gUnp X.K n t) :=
  ⟨fun pins s σ H v u Q I r q => q.elim (fun q => (pg_tup hc h hn hst).run pins s σ H v u Q I r q) fun q => (pg_lst hc h hn hst).run pins s σ H v u Q I r q⟩
theorem parts_of {d : D} {v : V} {n : Nat} {t : TGs} {σ : L2.St} {Q : L2.St → Hp → Prop} {ds : List D} (s : HS g.k μ H (F ++ L)) (r : Rep g.k μ H d v) (e : partsD F L d = some ds) (hl : ds.length = n) (h : ∀ vs, RepL g.k μ H ds vs → t vs σ H Q) : gUnp g.k.K n t v σ H Q := by
  have lst : listD F L d = some ds → gUnp g.k.K n t v σ H Q := fun e => by
    obtain ⟨a, vs, rfl, q, rs⟩ := Rep.list s r e
    exact .inr ⟨a, vs, rfl, q, by rw [rs.length]; exact hl, h vs rs⟩
  cases d with
  | tup xs =>
    cases e
    obtain ⟨a, vs, rfl, q, rs⟩ := r
    exact .inl ⟨a, vs, rfl, q, by rw [rs.length]; exact hl, h vs rs⟩
  | _ => exact lst e
theorem mg_unp {es : List Expr} {G : GMs} {n : Nat} {tg : Expr} (hK : X.K = g.k.K) (h : MGs g X W es G) (hp : ∀ t, PGs X es t → PG X tg (gUnp X.K n t)) : MG g X W tg (unpG n G) := by
  obtain ⟨t, p, q⟩ := h
  refine ⟨_, hp t p, fun F μ H σ en L d v D s r h => ?_⟩
  unfold unpG at h
  split at h
  · rename_i ds e
    split at h
    · rename_i hl
      rw [hK]
      exact parts_of s.sto r e hl fun vs rs => q F μ H σ en L ds vs D s rs h
    · exact h.elim
  · exact h.elim
theorem gs_unp {n : Nat} {u : TGs} {K : GMs} (hh : GSs g u K) : GS g (gUnp g.k.K n u) (unpG n K) := fun W F μ H σ en L d v D s r h => by
  unfold unpG at h
  split at h
  · rename_i ds e
    split at h
    · rename_i hl
      exact parts_of s.sto r e hl fun vs rs => hh W F μ H σ en L ds vs D s rs h
    · exact h.elim
  · exact h.elim
theorem calm_unp {n : Nat} {K : GMs} (h : CalmS K) : Calm (unpG n K) := fun F d en L en' L' => by
  unfold unpG
  split
  · split
    · exact h F _ en L en' L'
    · exact ⟨nofun, nofun⟩
  · exact ⟨nofun, nofun⟩
theorem mog_unp {K : PySem.W.Frag} {n : Nat} {u : TGs} (h : Mogs u) : Mog (gUnp K n u) := fun v σ H Q Q' i q =>
  q.elim (fun ⟨a, xs, e, s, l, q⟩ => .inl ⟨a, xs, e, s, l, h _ _ _ _ _ i q⟩) fun ⟨a, xs, e, s, l, q⟩ => .inr ⟨a, xs, e, s, l, h _ _ _ _ _ i q⟩
theorem inw_unp {vs : List Nat} {K : PySem.W.Frag} {n : Nat} {u : TGs} (h : Inws vs u) : Inw vs (gUnp K n u) := fun v σ H Q q =>
  q.elim (fun ⟨a, xs, e, s, l, q⟩ => .inl ⟨a, xs, e, s, l, h _ _ _ _ q⟩) fun ⟨a, xs, e, s, l, q⟩ => .inr ⟨a, xs, e, s, l, h _ _ _ _ q⟩
end
end MI
end SMiL
section SK20A
set_option Elab.async false
set_option linter.all false
set_option maxRecDepth 100000
namespace K20
open PySem L2 MI
def bel_BadNumber : Nat → Option Bool
  | 0 => some false
  | 1 => some true
  | 2 => some false
  | _ => none
def bel_Malformed : Nat → Option Bool
  | 0 => some false
  | 1 => some false
  | 2 => some true
  | _ => none
/-- has_text -/
def b_0 (fu : Nat) (c : Nat → FM) : SM :=
    seqS (ifS (notM (truM (op2 shrO (cbM absG (consA (getV 0) (nilA))) (cM (.int 13287))))) (retS (cM (.bl true))) (nilS))
    (seqS (asgS (cM (.int 1)) (nameG 1))
    (seqS (forS (rng1I (consA (cM (.int 4000)) (nilA))) (nameG 2) (augS 1 (intC mul64 fun i j => i * j) (cM (.int 10))))
    (retS (op2 ltX (cbM absG (consA (getV 0) (nilA))) (getV 1)))))
/-- term_text -/
def b_1 (fu : Nat) (c : Nat → FM) : SM :=
    seqS (ifS (tstM (op2 isNO (getV 0) (cM .non))) (retS (cM (.str (Str.ofString "none")))) (nilS))
    (seqS (ifS (truM (cbM isiG (consA (getV 0) (consA (cM (.ty "int")) (nilA))))) (seqS (ifS (notM (truM (callM .pure 1 (c 0) (moreA [] (consA (getV 0) (nilA)))))) (raiseS 1) (nilS))
    (retS (cbM strG (consA (getV 0) (nilA))))) (nilS))
    (seqS (ifS (truM (cbM isiG (consA (getV 0) (consA (cM (.ty "str")) (nilA))))) (seqS (ifS (orM (tstM (op2 eqO (getV 0) (cM (.str (Str.ofString "none"))))) (notM (truM (gcE (cbM (allG fun bs => bs.all id) (consA (lcxM (anyI (getV 0)) (nameG 1) (yesM) (op2 (inO false) (getV 1) (cM (.str (Str.ofString "abcdefghijklmnopqrstuvwxyz")))) [1]) (nilA))))))) (raiseS 1) (nilS))
    (retS (orV (getV 0) (cM (.str (Str.ofString ".")))))) (nilS))
    (retS (op2 addO (op2 addO (cM (.str (Str.ofString "("))) (gcE (bmM "str" joinB (cM (.str (Str.ofString " "))) (consA (lcxM (anyI (getV 0)) (nameG 2) (yesM) (callM .pure 1 (c 1) (moreA [] (consA (getV 2) (nilA)))) [2]) (nilA))))) (cM (.str (Str.ofString ")")))))))
/-- Reading.__init__ -/
def b_2 (fu : Nat) (c : Nat → FM) : SM :=
    seqS (setfS 3 (Str.ofString "text") (getV 1) (getV 0))
    (setfS 3 (Str.ofString "at") (cM (.int 0)) (getV 0))
/-- Reading.sign -/
def b_3 (fu : Nat) (c : Nat → FM) : SM :=
    retS (slM (fldM 3 (Str.ofString "text") (getV 0)) (someP (fldM 3 (Str.ofString "at") (getV 0))) (someP (op2 addO (fldM 3 (Str.ofString "at") (getV 0)) (cM (.int 1)))))
/-- Reading.is_at -/
def b_4 (fu : Nat) (c : Nat → FM) : SM :=
    retS (andV (op2 neO (methM 3 (Str.ofString "sign") .pure 1 (c 3) (getV 0) (moreA [] (nilA))) (cM (.str (Str.ofString "")))) (op2 (inO false) (methM 3 (Str.ofString "sign") .pure 1 (c 3) (getV 0) (moreA [] (nilA))) (getV 1)))
/-- Reading.take -/
def b_5 (fu : Nat) (c : Nat → FM) : SM :=
    seqS (asgS (fldM 3 (Str.ofString "at") (getV 0)) (nameG 2))
    (seqS (whileS fu (truM (methM 3 (Str.ofString "is_at") .pure 2 (c 4) (getV 0) (moreA [] (consA (getV 1) (nilA))))) (augfS 3 (Str.ofString "at") iaddO (getV 0) (cM (.int 1))))
    (retS (slM (fldM 3 (Str.ofString "text") (getV 0)) (someP (getV 2)) (someP (fldM 3 (Str.ofString "at") (getV 0))))))
/-- Reading.integer -/
def b_6 (fu : Nat) (c : Nat → FM) : SM :=
    seqS (asgS (methM 3 (Str.ofString "is_at") .pure 2 (c 4) (getV 0) (moreA [] (consA (cM (.str (Str.ofString "-"))) (nilA)))) (nameG 1))
    (seqS (ifS (truM (getV 1)) (augfS 3 (Str.ofString "at") iaddO (getV 0) (cM (.int 1))) (nilS))
    (seqS (asgS (fldM 3 (Str.ofString "at") (getV 0)) (nameG 2))
    (seqS (ifS (orM (notM (truM (methM 3 (Str.ofString "is_at") .pure 2 (c 4) (getV 0) (moreA [] (consA (cM (.str (Str.ofString "0123456789"))) (nilA)))))) (andM (truM (getV 1)) (truM (methM 3 (Str.ofString "is_at") .pure 2 (c 4) (getV 0) (moreA [] (consA (cM (.str (Str.ofString "0"))) (nilA))))))) (raiseFS 2 (Str.ofString "at") (fldM 3 (Str.ofString "at") (getV 0))) (nilS))
    (seqS (asgS (methM 3 (Str.ofString "is_at") .pure 2 (c 4) (getV 0) (moreA [] (consA (cM (.str (Str.ofString "0"))) (nilA)))) (nameG 3))
    (seqS (asgS (methM 3 (Str.ofString "take") .gc 2 (c 5) (getV 0) (moreA [] (consA (cM (.str (Str.ofString "0123456789"))) (nilA)))) (nameG 4))
    (seqS (ifS (andM (truM (getV 3)) (tstM (op2 gtX (cbM lenG (consA (getV 4) (nilA))) (cM (.int 1))))) (raiseFS 2 (Str.ofString "at") (op2 addO (getV 2) (cM (.int 1)))) (nilS))
    (seqS (ifS (tstM (op2 gtX (cbM lenG (consA (getV 4) (nilA))) (cM (.int 20)))) (raiseFS 2 (Str.ofString "at") (op2 addO (getV 2) (cM (.int 20)))) (nilS))
    (retS (ifM (truM (getV 1)) (negO (cbM intG (consA (getV 4) (nilA)))) (cbM intG (consA (getV 4) (nilA))))))))))))
/-- Reading.term -/
def b_7 (fu : Nat) (c : Nat → FM) : SM :=
    seqS (ifS (truM (methM 3 (Str.ofString "is_at") .pure 2 (c 4) (getV 0) (moreA [] (consA (cM (.str (Str.ofString "("))) (nilA))))) (seqS (ifS (tstM (op2 eqO (getV 1) (cM (.int 12)))) (raiseFS 2 (Str.ofString "at") (fldM 3 (Str.ofString "at") (getV 0))) (nilS))
    (retS (methM 3 (Str.ofString "entries") .gc 2 (c 8) (getV 0) (moreA [] (consA (op2 addO (getV 1) (cM (.int 1))) (nilA)))))) (nilS))
    (seqS (ifS (truM (methM 3 (Str.ofString "is_at") .pure 2 (c 4) (getV 0) (moreA [] (consA (cM (.str (Str.ofString "."))) (nilA))))) (seqS (augfS 3 (Str.ofString "at") iaddO (getV 0) (cM (.int 1)))
    (retS (cM (.str (Str.ofString ""))))) (nilS))
    (seqS (ifS (truM (methM 3 (Str.ofString "is_at") .pure 2 (c 4) (getV 0) (moreA [] (consA (cM (.str (Str.ofString "abcdefghijklmnopqrstuvwxyz"))) (nilA))))) (seqS (asgS (methM 3 (Str.ofString "take") .gc 2 (c 5) (getV 0) (moreA [] (consA (cM (.str (Str.ofString "abcdefghijklmnopqrstuvwxyz"))) (nilA)))) (nameG 2))
    (retS (ifM (tstM (op2 eqO (getV 2) (cM (.str (Str.ofString "none"))))) (cM .non) (getV 2)))) (nilS))
    (retS (methM 3 (Str.ofString "integer") .gc 1 (c 6) (getV 0) (moreA [] (nilA))))))
/-- Reading.entries -/
def b_8 (fu : Nat) (c : Nat → FM) : SM :=
    seqS (augfS 3 (Str.ofString "at") iaddO (getV 0) (cM (.int 1)))
    (seqS (asgS (lstM (nilA)) (nameG 2))
    (seqS (whileS fu (notM (truM (methM 3 (Str.ofString "is_at") .pure 2 (c 4) (getV 0) (moreA [] (consA (cM (.str (Str.ofString ")"))) (nilA)))))) (seqS (ifS (truM (getV 2)) (seqS (ifS (notM (truM (methM 3 (Str.ofString "is_at") .pure 2 (c 4) (getV 0) (moreA [] (consA (cM (.str (Str.ofString " "))) (nilA)))))) (raiseFS 2 (Str.ofString "at") (fldM 3 (Str.ofString "at") (getV 0))) (nilS))
    (augfS 3 (Str.ofString "at") iaddO (getV 0) (cM (.int 1)))) (nilS))
    (dropS (bmM "list" appendB (getV 2) (consA (methM 3 (Str.ofString "term") .gc 2 (c 7) (getV 0) (moreA [] (consA (getV 1) (nilA)))) (nilA))))))
    (seqS (augfS 3 (Str.ofString "at") iaddO (getV 0) (cM (.int 1)))
    (retS (cbM tupG' (consA (getV 2) (nilA)))))))
/-- read_term -/
def b_9 (fu : Nat) (c : Nat → FM) : SM :=
    seqS (asgS (makeM 3 2 (c 2) (moreA [] (consA (getV 0) (nilA)))) (nameG 1))
    (seqS (asgS (methM 3 (Str.ofString "term") .gc 2 (c 7) (getV 1) (moreA [] (consA (cM (.int 0)) (nilA)))) (nameG 2))
    (seqS (ifS (tstM (op2 ltX (fldM 3 (Str.ofString "at") (getV 1)) (cbM lenG (consA (getV 0) (nilA))))) (raiseFS 2 (Str.ofString "at") (fldM 3 (Str.ofString "at") (getV 1))) (nilS))
    (retS (getV 2))))
/-- _law_number -/
def b_10 (fu : Nat) (c : Nat → FM) : SM :=
    seqS (ifS (tstM (op2 ltX (getV 0) (cM (.int 0)))) (retS (op2 (intO fun i j => i - j) (cM (.int 0)) (getV 0))) (nilS))
    (retS (getV 0))
/-- _law_draws -/
def b_11 (fu : Nat) (c : Nat → FM) : SM :=
    seqS (asgS (lstM (nilA)) (nameG 1))
    (seqS (forS (anyI (getV 0)) (nameG 2) (seqS (asgS (callM .pure 1 (c 10) (moreA [] (consA (getV 2) (nilA)))) (nameG 3))
    (ifS (tstM (op2 geX (getV 3) (cM (.int 1000000000000000000)))) (forS (rng1I (consA (cM (.int 60)) (nilA))) (nameG 4) (seqS (ifS (tstM (op2 eqO (getV 3) (cM (.int 0)))) (bkS) (nilS))
    (seqS (dropS (bmM "list" appendB (getV 1) (consA (op2 modO (cbM intG (consA (getV 3) (nilA))) (cM (.int 1000))) (nilA))))
    (asgS (op2 fdivO (getV 3) (cM (.int 1000))) (nameG 3))))) (seqS (asgS (op2 modO (cbM intG (consA (op2 addO (op2 mulO (getV 3) (cM (.int 48271))) (cM (.int 11))) (nilA))) (cM (.int 2147483647))) (nameG 5))
    (seqS (asgS (op2 modO (cbM intG (consA (op2 addO (op2 mulO (getV 5) (cM (.int 69621))) (getV 3)) (nilA))) (cM (.int 2147483629))) (nameG 6))
    (dropS (bmM "list" extendB (getV 1) (consA (lstM (consA (op2 modO (cbM intG (consA (getV 3) (nilA))) (cM (.int 1000))) (consA (op2 modO (cbM intG (consA (getV 5) (nilA))) (cM (.int 1000))) (consA (op2 modO (cbM intG (consA (getV 6) (nilA))) (cM (.int 1000))) (nilA))))) (nilA)))))))))
    (seqS (dropS (bmM "list" reverseB (getV 1) nilA))
    (retS (getV 1))))
/-- _law_next -/
def b_12 (fu : Nat) (c : Nat → FM) : SM :=
    seqS (ifS (truM (getV 0)) (retS (bmM "list" popB (getV 0) nilA)) (nilS))
    (retS (cM (.int 0)))
/-- _law_more -/
def b_13 (fu : Nat) (c : Nat → FM) : SM :=
    seqS (asgS (op2 addO (op2 addO (op2 mulO (cM (.int 1000)) (callM .gc 1 (c 12) (moreA [] (consA (getV 0) (nilA))))) (callM .gc 1 (c 12) (moreA [] (consA (getV 0) (nilA))))) (cM (.int 1))) (nameG 2))
    (seqS (asgS (lstM (nilA)) (nameG 3))
    (seqS (forS (rng1I (consA (getV 1) (nilA))) (nameG 4) (seqS (asgS (op2 modO (cbM intG (consA (op2 addO (op2 mulO (getV 2) (cM (.int 48271))) (cM (.int 12345))) (nilA))) (cM (.int 2147483647))) (nameG 2))
    (dropS (bmM "list" appendB (getV 3) (consA (op2 modO (cbM intG (consA (op2 fdivO (getV 2) (cM (.int 7))) (nilA))) (cM (.int 1000))) (nilA))))))
    (retS (op2 addO (getV 3) (getV 0)))))
/-- _law_pick -/
def b_14 (fu : Nat) (c : Nat → FM) : SM :=
    retS (op2 ixO (getV 1) (op2 modO (cbM intG (consA (callM .gc 1 (c 12) (moreA [] (consA (getV 0) (nilA)))) (nilA))) (cbM lenG (consA (getV 1) (nilA)))))
/-- _law_term -/
def b_15 (fu : Nat) (c : Nat → FM) : SM :=
    seqS (asgS (op2 modO (cbM intG (consA (callM .gc 1 (c 12) (moreA [] (consA (getV 0) (nilA)))) (nilA))) (ifM (tstM (op2 ltX (getV 1) (cM (.int 4)))) (cM (.int 8)) (cM (.int 5)))) (nameG 2))
    (seqS (ifS (tstM (op2 eqO (getV 2) (cM (.int 0)))) (seqS (asgS (gcE (bmM "str" joinB (cM (.str (Str.ofString ""))) (consA (lcxM (rng1I (consA (op2 modO (cbM intG (consA (callM .gc 1 (c 12) (moreA [] (consA (getV 0) (nilA)))) (nilA))) (cM (.int 6))) (nilA))) (nameG 4) (yesM) (op2 ixO (cM (.str (Str.ofString "abcnoze"))) (op2 modO (cbM intG (consA (callM .gc 1 (c 12) (moreA [] (consA (getV 0) (nilA)))) (nilA))) (cM (.int 7)))) [4]) (nilA)))) (nameG 3))
    (retS (ifM (tstM (op2 eqO (getV 3) (cM (.str (Str.ofString "none"))))) (cM (.str (Str.ofString "zone"))) (getV 3)))) (nilS))
    (seqS (ifS (tstM (op2 eqO (getV 2) (cM (.int 1)))) (retS (callM .gc 2 (c 14) (moreA [] (consA (getV 0) (consA (lstM (consA (cM .non) (consA (cM (.int 0)) (consA (negO (cM (.int 1))) (consA (op2 powO (cM (.int 10)) (cM (.int 19))) (consA (op2 addO (op2 (intO fun i j => i - j) (cM (.int 0)) (op2 powO (cM (.int 10)) (cM (.int 20)))) (cM (.int 1))) (nilA))))))) (nilA)))))) (nilS))
    (seqS (ifS (tstM (op2 ltX (getV 2) (cM (.int 5)))) (retS (op2 (intO fun i j => i - j) (cbM intG (consA (callM .gc 1 (c 12) (moreA [] (consA (getV 0) (nilA)))) (nilA))) (op2 mulO (cM (.int 100)) (op2 modO (cbM intG (consA (callM .gc 1 (c 12) (moreA [] (consA (getV 0) (nilA)))) (nilA))) (cM (.int 7)))))) (nilS))
    (retS (gcE (cbM tupG' (consA (lcxM (rng1I (consA (op2 modO (cbM intG (consA (callM .gc 1 (c 12) (moreA [] (consA (getV 0) (nilA)))) (nilA))) (cM (.int 4))) (nilA))) (nameG 4) (yesM) (callM .gc 2 (c 15) (moreA [] (consA (getV 0) (consA (op2 addO (getV 1) (cM (.int 1))) (nilA))))) [4]) (nilA))))))))
/-- _law_text -/
def b_16 (fu : Nat) (c : Nat → FM) : SM :=
    seqS (ifS (tstM (op2 isNO (getV 0) (cM .non))) (retS (cM (.str (Str.ofString "none")))) (nilS))
    (seqS (ifS (truM (cbM isiG (consA (getV 0) (consA (cM (.ty "int")) (nilA))))) (retS (cbM strG (consA (getV 0) (nilA)))) (nilS))
    (seqS (ifS (truM (cbM isiG (consA (getV 0) (consA (cM (.ty "str")) (nilA))))) (retS (ifM (tstM (op2 neO (getV 0) (cM (.str (Str.ofString ""))))) (getV 0) (cM (.str (Str.ofString "."))))) (nilS))
    (retS (op2 addO (op2 addO (cM (.str (Str.ofString "("))) (gcE (bmM "str" joinB (cM (.str (Str.ofString " "))) (consA (lcxM (anyI (getV 0)) (nameG 1) (yesM) (callM .pure 1 (c 16) (moreA [] (consA (getV 1) (nilA)))) [1]) (nilA))))) (cM (.str (Str.ofString ")")))))))
/-- _law_integer -/
def b_17 (fu : Nat) (c : Nat → FM) : SM :=
    seqS (asgS (getV 1) (nameG 2))
    (seqS (ifS (tstM (op2 eqO (slM (getV 0) (someP (getV 1)) (someP (op2 addO (getV 1) (cM (.int 1))))) (cM (.str (Str.ofString "-"))))) (seqS (asgS (op2 addO (getV 1) (cM (.int 1))) (nameG 1))
    (ifS (tstM (op2 eqO (slM (getV 0) (someP (getV 1)) (someP (op2 addO (getV 1) (cM (.int 1))))) (cM (.str (Str.ofString "0"))))) (retS (lstM (consA (cM (.str (Str.ofString "bad"))) (consA (getV 1) (nilA))))) (nilS))) (nilS))
    (seqS (asgS (getV 1) (nameG 3))
    (seqS (forS (rng1I (consA (cbM lenG (consA (getV 0) (nilA))) (nilA))) (nameG 4) (ifS (andM (tstM (op2 ltX (getV 1) (cbM lenG (consA (getV 0) (nilA))))) (tstM (op2 (inO false) (op2 ixO (getV 0) (getV 1)) (cM (.str (Str.ofString "0123456789")))))) (asgS (op2 addO (getV 1) (cM (.int 1))) (nameG 1)) (nilS)))
    (seqS (ifS (tstM (op2 eqO (getV 1) (getV 3))) (retS (lstM (consA (cM (.str (Str.ofString "bad"))) (consA (getV 1) (nilA))))) (nilS))
    (seqS (ifS (andM (tstM (op2 eqO (op2 ixO (getV 0) (getV 3)) (cM (.str (Str.ofString "0"))))) (tstM (op2 gtX (getV 1) (op2 addO (getV 3) (cM (.int 1)))))) (retS (lstM (consA (cM (.str (Str.ofString "bad"))) (consA (op2 addO (getV 3) (cM (.int 1))) (nilA))))) (nilS))
    (seqS (ifS (tstM (op2 gtX (op2 (intO fun i j => i - j) (getV 1) (getV 3)) (cM (.int 20)))) (retS (lstM (consA (cM (.str (Str.ofString "bad"))) (consA (op2 addO (getV 3) (cM (.int 20))) (nilA))))) (nilS))
    (retS (lstM (consA (cbM intG (consA (slM (getV 0) (someP (getV 2)) (someP (getV 1))) (nilA))) (consA (getV 1) (nilA)))))))))))
/-- _law_read -/
def b_18 (fu : Nat) (c : Nat → FM) : SM :=
    seqS (asgS (slM (getV 0) (someP (getV 1)) (someP (op2 addO (getV 1) (cM (.int 1))))) (nameG 3))
    (seqS (ifS (tstM (op2 eqO (getV 3) (cM (.str (Str.ofString "("))))) (seqS (ifS (tstM (op2 eqO (getV 2) (cM (.int 12)))) (retS (lstM (consA (cM (.str (Str.ofString "bad"))) (consA (getV 1) (nilA))))) (nilS))
    (retS (callM .keep 3 (c 19) (moreA [] (consA (getV 0) (consA (op2 addO (getV 1) (cM (.int 1))) (consA (op2 addO (getV 2) (cM (.int 1))) (nilA)))))))) (nilS))
    (seqS (ifS (tstM (op2 eqO (getV 3) (cM (.str (Str.ofString "."))))) (retS (lstM (consA (cM (.str (Str.ofString ""))) (consA (op2 addO (getV 1) (cM (.int 1))) (nilA))))) (nilS))
    (seqS (ifS (andM (tstM (op2 neO (getV 3) (cM (.str (Str.ofString ""))))) (tstM (op2 (inO false) (getV 3) (cM (.str (Str.ofString "abcdefghijklmnopqrstuvwxyz")))))) (seqS (asgS (getV 1) (nameG 4))
    (seqS (forS (rng1I (consA (cbM lenG (consA (getV 0) (nilA))) (nilA))) (nameG 5) (ifS (andM (tstM (op2 ltX (getV 4) (cbM lenG (consA (getV 0) (nilA))))) (tstM (op2 (inO false) (op2 ixO (getV 0) (getV 4)) (cM (.str (Str.ofString "abcdefghijklmnopqrstuvwxyz")))))) (asgS (op2 addO (getV 4) (cM (.int 1))) (nameG 4)) (nilS)))
    (retS (lstM (consA (ifM (tstM (op2 eqO (slM (getV 0) (someP (getV 1)) (someP (getV 4))) (cM (.str (Str.ofString "none"))))) (cM .non) (slM (getV 0) (someP (getV 1)) (someP (getV 4)))) (consA (getV 4) (nilA))))))) (nilS))
    (retS (callM .keep 2 (c 17) (moreA [] (consA (getV 0) (consA (getV 1) (nilA)))))))))
/-- _law_entries -/
def b_19 (fu : Nat) (c : Nat → FM) : SM :=
    seqS (asgS (lstM (nilA)) (nameG 3))
    (seqS (forS (rng1I (consA (op2 addO (cbM lenG (consA (getV 0) (nilA))) (cM (.int 1))) (nilA))) (nameG 4) (seqS (ifS (tstM (op2 eqO (slM (getV 0) (someP (getV 1)) (someP (op2 addO (getV 1) (cM (.int 1))))) (cM (.str (Str.ofString ")"))))) (retS (lstM (consA (cbM tupG' (consA (getV 3) (nilA))) (consA (op2 addO (getV 1) (cM (.int 1))) (nilA))))) (nilS))
    (seqS (ifS (truM (getV 3)) (seqS (ifS (tstM (op2 neO (slM (getV 0) (someP (getV 1)) (someP (op2 addO (getV 1) (cM (.int 1))))) (cM (.str (Str.ofString " "))))) (retS (lstM (consA (cM (.str (Str.ofString "bad"))) (consA (getV 1) (nilA))))) (nilS))
    (asgS (op2 addO (getV 1) (cM (.int 1))) (nameG 1))) (nilS))
    (seqS (asgS (callM .keep 3 (c 18) (moreA [] (consA (getV 0) (consA (getV 1) (consA (getV 2) (nilA)))))) (unpG 2 (consG (nameG 5) (consG (nameG 6) (nilG)))))
    (seqS (ifS (andM (tstM (op2 eqO (getV 5) (cM (.str (Str.ofString "bad"))))) (truM (cbM isiG (consA (getV 5) (consA (cM (.ty "str")) (nilA)))))) (retS (lstM (consA (getV 5) (consA (getV 6) (nilA))))) (nilS))
    (seqS (dropS (bmM "list" appendB (getV 3) (consA (getV 5) (nilA))))
    (asgS (getV 6) (nameG 1))))))))
    (retS (lstM (consA (cM (.str (Str.ofString "bad"))) (consA (getV 1) (nilA))))))
/-- _law_due -/
def b_20 (fu : Nat) (c : Nat → FM) : SM :=
    seqS (asgS (callM .keep 3 (c 18) (moreA [] (consA (getV 0) (consA (cM (.int 0)) (consA (cM (.int 0)) (nilA)))))) (unpG 2 (consG (nameG 1) (consG (nameG 2) (nilG)))))
    (seqS (ifS (andM (truM (cbM isiG (consA (getV 1) (consA (cM (.ty "str")) (nilA))))) (tstM (op2 eqO (getV 1) (cM (.str (Str.ofString "bad")))))) (retS (lstM (consA (cM (.str (Str.ofString "bad"))) (consA (getV 2) (nilA))))) (nilS))
    (retS (ifM (tstM (op2 ltX (getV 2) (cbM lenG (consA (getV 0) (nilA))))) (lstM (consA (cM (.str (Str.ofString "bad"))) (consA (getV 2) (nilA)))) (lstM (consA (cM (.str (Str.ofString "term"))) (consA (getV 1) (nilA)))))))
/-- _law_told -/
def b_21 (fu : Nat) (c : Nat → FM) : SM :=
    tryS bel_Malformed (retS (lstM (consA (cM (.str (Str.ofString "term"))) (consA (callM .pure 1 (c 9) (moreA [] (consA (getV 0) (nilA)))) (nilA))))) (fun en => en.set 1 .ex) (fun en => (unex en).set 1 .no) (fun e => retS (lstM (consA (cM (.str (Str.ofString "bad"))) (consA (exfM 2 1 (Str.ofString "at") e) (nilA)))))
/-- _law_refused -/
def b_22 (fu : Nat) (c : Nat → FM) : SM :=
    tryS bel_BadNumber (seqS (dropS (callM .pure 1 (c 1) (moreA [] (consA (getV 0) (nilA)))))
    (retS (cM (.bl false)))) (fun en => en) unex (fun e => retS (cM (.bl true)))
/-- law -/
def b_23 (fu : Nat) (c : Nat → FM) : SM :=
    seqS (asgS (callM .keep 1 (c 11) (moreA [] (consA (getV 0) (nilA)))) (nameG 1))
    (seqS (asgS (callM .keep 2 (c 13) (moreA [] (consA (getV 1) (consA (cM (.int 120)) (nilA))))) (nameG 1))
    (seqS (asgS (tupM (consA (tupM (consA (cM (.int 1)) (consA (cM (.int 2)) (nilA)))) (consA (tupM (consA (cM (.int 1)) (consA (cM (.int 1)) (nilA)))) (nilA)))) (nameG 2))
    (seqS (ifS (orM (tstM (op2 neO (callM .pure 1 (c 1) (moreA [] (consA (getV 2) (nilA)))) (cM (.str (Str.ofString "((1 2) (1 1))"))))) (tstM (op2 neO (cbM reprG (consA (callM .pure 1 (c 9) (moreA [] (consA (cM (.str (Str.ofString "(. none (-5))"))) (nilA)))) (nilA))) (cbM reprG (consA (tupM (consA (cM (.str (Str.ofString ""))) (consA (cM .non) (consA (tupM (consA (negO (cM (.int 5))) (nilA))) (nilA))))) (nilA)))))) (retS (cM (.bl false))) (nilS))
    (seqS (forS (rng1I (consA (cM (.int 4)) (nilA))) (nameG 3) (seqS (asgS (callM .gc 2 (c 15) (moreA [] (consA (getV 1) (consA (cM (.int 0)) (nilA))))) (nameG 4))
    (seqS (asgS (callM .pure 1 (c 16) (moreA [] (consA (getV 4) (nilA)))) (nameG 5))
    (seqS (ifS (orM (tstM (op2 neO (callM .pure 1 (c 1) (moreA [] (consA (getV 4) (nilA)))) (getV 5))) (tstM (op2 neO (gcE (cbM reprG (consA (callM .keep 1 (c 21) (moreA [] (consA (getV 5) (nilA)))) (nilA)))) (gcE (cbM reprG (consA (lstM (consA (cM (.str (Str.ofString "term"))) (consA (getV 4) (nilA)))) (nilA))))))) (retS (cM (.bl false))) (nilS))
    (seqS (ifS (andM (truM (cbM isiG (consA (getV 4) (consA (cM (.ty "tuple")) (nilA))))) (tstM (op2 neO (callM .pure 1 (c 1) (moreA [] (consA (cbM listG (consA (getV 4) (nilA))) (nilA)))) (getV 5)))) (retS (cM (.bl false))) (nilS))
    (forS (rng1I (consA (cM (.int 5)) (nilA))) (nameG 6) (seqS (asgS (op2 modO (cbM intG (consA (callM .gc 1 (c 12) (moreA [] (consA (getV 1) (nilA)))) (nilA))) (op2 addO (cbM lenG (consA (getV 5) (nilA))) (cM (.int 1)))) (nameG 7))
    (seqS (asgS (op2 modO (cbM intG (consA (callM .gc 1 (c 12) (moreA [] (consA (getV 1) (nilA)))) (nilA))) (cM (.int 2))) (nameG 8))
    (seqS (asgS (callM .gc 2 (c 14) (moreA [] (consA (getV 1) (consA (lstM (consA (cM (.str (Str.ofString ""))) (consA (cM (.str (Str.ofString " "))) (consA (cM (.str (Str.ofString "("))) (consA (cM (.str (Str.ofString ")"))) (consA (cM (.str (Str.ofString "-"))) (consA (cM (.str (Str.ofString "0"))) (consA (cM (.str (Str.ofString "7"))) (consA (cM (.str (Str.ofString "a"))) (consA (cM (.str (Str.ofString "."))) (consA (cM (.str (Str.ofString "A"))) (consA (cM (.str (Str.ofString "_"))) (consA (cM (.str (Str.ofString "\t"))) (nilA)))))))))))))) (nilA))))) (nameG 9))
    (seqS (asgS (op2 addO (op2 addO (slM (getV 5) (noP) (someP (getV 7))) (getV 9)) (slM (getV 5) (someP (op2 addO (getV 7) (getV 8))) (noP))) (nameG 10))
    (ifS (andM (tstM (op2 (inO true) (cM (.str (Str.ofString "bad"))) (getV 10))) (tstM (op2 neO (gcE (cbM reprG (consA (callM .keep 1 (c 21) (moreA [] (consA (getV 10) (nilA)))) (nilA)))) (gcE (cbM reprG (consA (callM .keep 1 (c 20) (moreA [] (consA (getV 10) (nilA)))) (nilA))))))) (retS (cM (.bl false))) (nilS))))))))))))
    (seqS (asgS (op2 addO (op2 addO (op2 mulO (cM (.str (Str.ofString "("))) (cM (.int 12))) (cM (.str (Str.ofString "5")))) (op2 mulO (cM (.str (Str.ofString ")"))) (cM (.int 12)))) (nameG 11))
    (seqS (asgS (lstM (consA (cM (.str (Str.ofString ""))) (consA (cM (.str (Str.ofString "("))) (consA (cM (.str (Str.ofString "()"))) (consA (cM (.str (Str.ofString "( )"))) (consA (cM (.str (Str.ofString "(1 )"))) (consA (cM (.str (Str.ofString "(1  2)"))) (consA (cM (.str (Str.ofString "(1 2"))) (consA (cM (.str (Str.ofString "1 2"))) (consA (cM (.str (Str.ofString "-0"))) (consA (cM (.str (Str.ofString "00"))) (consA (cM (.str (Str.ofString "01"))) (consA (cM (.str (Str.ofString "-"))) (consA (op2 mulO (cM (.str (Str.ofString "1"))) (cM (.int 20))) (consA (op2 mulO (cM (.str (Str.ofString "1"))) (cM (.int 21))) (consA (op2 addO (cM (.str (Str.ofString "-"))) (op2 mulO (cM (.str (Str.ofString "9"))) (cM (.int 21)))) (consA (getV 11) (consA (op2 addO (op2 addO (cM (.str (Str.ofString "("))) (getV 11)) (cM (.str (Str.ofString ")")))) (consA (cM (.str (Str.ofString "()()"))) (consA (cM (.str (Str.ofString "(a.)"))) (consA (cM (.str (Str.ofString "5a"))) (consA (cM (.str (Str.ofString "a5"))) (nilA))))))))))))))))))))))) (nameG 12))
    (seqS (asgS (op2 addO (getV 12) (lstM (consA (cM (.str (Str.ofString "none"))) (consA (cM (.str (Str.ofString ".."))) (consA (cM (.str (Str.ofString ")"))) (nilA)))))) (nameG 12))
    (seqS (ifS (tstM (op2 neO (lcxM (anyI (getV 12)) (nameG 5) (yesM) (gcE (cbM reprG (consA (callM .keep 1 (c 21) (moreA [] (consA (getV 5) (nilA)))) (nilA)))) [5]) (lcxM (anyI (getV 12)) (nameG 5) (yesM) (gcE (cbM reprG (consA (callM .keep 1 (c 20) (moreA [] (consA (getV 5) (nilA)))) (nilA)))) [5]))) (retS (cM (.bl false))) (nilS))
    (seqS (asgS (cM (.int 1)) (nameG 13))
    (seqS (forS (rng1I (consA (cM (.int 4000)) (nilA))) (nameG 3) (asgS (op2 mulO (cM (.int 10)) (getV 13)) (nameG 13)))
    (seqS (ifS (orM (tstM (op2 neO (callM .pure 1 (c 1) (moreA [] (consA (op2 (intO fun i j => i - j) (getV 13) (cM (.int 1))) (nilA)))) (op2 mulO (cM (.str (Str.ofString "9"))) (cM (.int 4000))))) (orM (tstM (op2 neO (callM .pure 1 (c 1) (moreA [] (consA (op2 (intO fun i j => i - j) (cM (.int 1)) (getV 13)) (nilA)))) (op2 addO (cM (.str (Str.ofString "-"))) (op2 mulO (cM (.str (Str.ofString "9"))) (cM (.int 4000)))))) (notM (truM (callM .pure 1 (c 22) (moreA [] (consA (getV 13) (nilA)))))))) (retS (cM (.bl false))) (nilS))
    (retS (op2 eqO (lcxM (anyI (lstM (consA (cM (.str (Str.ofString "none"))) (consA (cM (.str (Str.ofString "A"))) (consA (cM (.str (Str.ofString "a b"))) (consA (tupM (consA (cM (.str (Str.ofString "ok"))) (consA (cM (.str (Str.ofString "x1"))) (nilA)))) (consA (tupM (consA (tupM (consA (cM (.str (Str.ofString "none"))) (nilA))) (nilA))) (nilA)))))))) (nameG 4) (yesM) (callM .pure 1 (c 22) (moreA [] (consA (getV 4) (nilA)))) [4]) (op2 mulO (lstM (consA (cM (.bl true)) (nilA))) (cM (.int 5))))))))))))))))
def run (fu : Nat) : Nat → Nat → FM
  | 0, _ => fun _ _ _ => .bad
  | k + 1, 0 => defM 3 (b_0 fu (run fu k))
  | k + 1, 1 => defM 3 (b_1 fu (run fu k))
  | k + 1, 2 => defM 2 (b_2 fu (run fu k))
  | k + 1, 3 => defM 1 (b_3 fu (run fu k))
  | k + 1, 4 => defM 2 (b_4 fu (run fu k))
  | k + 1, 5 => defM 3 (b_5 fu (run fu k))
  | k + 1, 6 => defM 5 (b_6 fu (run fu k))
  | k + 1, 7 => defM 3 (b_7 fu (run fu k))
  | k + 1, 8 => defM 3 (b_8 fu (run fu k))
  | k + 1, 9 => defM 3 (b_9 fu (run fu k))
  | k + 1, 10 => defM 1 (b_10 fu (run fu k))
  | k + 1, 11 => defM 7 (b_11 fu (run fu k))
  | k + 1, 12 => defM 1 (b_12 fu (run fu k))
  | k + 1, 13 => defM 5 (b_13 fu (run fu k))
  | k + 1, 14 => defM 2 (b_14 fu (run fu k))
  | k + 1, 15 => defM 5 (b_15 fu (run fu k))
  | k + 1, 16 => defM 2 (b_16 fu (run fu k))
  | k + 1, 17 => defM 5 (b_17 fu (run fu k))
  | k + 1, 18 => defM 6 (b_18 fu (run fu k))
  | k + 1, 19 => defM 7 (b_19 fu (run fu k))
  | k + 1, 20 => defM 3 (b_20 fu (run fu k))
  | k + 1, 21 => defM 2 (b_21 fu (run fu k))
  | k + 1, 22 => defM 1 (b_22 fu (run fu k))
  | k + 1, 23 => defM 14 (b_23 fu (run fu k))
  | _ + 1, _ => fun _ _ _ => .bad
end K20
end SK20A
section SK20B
set_option Elab.async false
set_option linter.all false
set_option maxRecDepth 100000
set_option maxHeartbeats 4000000
namespace K20
open PySem L2 MI PyProof.Rows
def topS (i : Nat) : Stmt := PySem.Challenge.pw_runsproven_k20_texts_of_terms.main.body.getD i (.Pass ⟨0, 0, 0, 0⟩)
def psOf : Nat → List Str
  | 0 => [(Str.ofString "number")]
  | 1 => [(Str.ofString "term")]
  | 2 => [(Str.ofString "self"), (Str.ofString "text")]
  | 3 => [(Str.ofString "self")]
  | 4 => [(Str.ofString "self"), (Str.ofString "signs")]
  | 5 => [(Str.ofString "self"), (Str.ofString "signs")]
  | 6 => [(Str.ofString "self")]
  | 7 => [(Str.ofString "self"), (Str.ofString "depth")]
  | 8 => [(Str.ofString "self"), (Str.ofString "depth")]
  | 9 => [(Str.ofString "text")]
  | 10 => [(Str.ofString "cell")]
  | 11 => [(Str.ofString "script")]
  | 12 => [(Str.ofString "draws")]
  | 13 => [(Str.ofString "draws"), (Str.ofString "many")]
  | 14 => [(Str.ofString "draws"), (Str.ofString "some")]
  | 15 => [(Str.ofString "draws"), (Str.ofString "depth")]
  | 16 => [(Str.ofString "term")]
  | 17 => [(Str.ofString "text"), (Str.ofString "at")]
  | 18 => [(Str.ofString "text"), (Str.ofString "at"), (Str.ofString "depth")]
  | 19 => [(Str.ofString "text"), (Str.ofString "at"), (Str.ofString "depth")]
  | 20 => [(Str.ofString "text")]
  | 21 => [(Str.ofString "text")]
  | 22 => [(Str.ofString "term")]
  | 23 => [(Str.ofString "script")]
  | _ => []
abbrev s_0 : Stmt := topS 13
abbrev N_0 : List Str := [(Str.ofString "number"), (Str.ofString "bound"), (Str.ofString "_")]
theorem sc_0 : FnScope N_0 (psOf 0) (defScope s_0) := ⟨rfl, rfl, rfl, by decide +kernel, rfl, by decide +kernel, by decide +kernel⟩
abbrev s_1 : Stmt := topS 14
abbrev N_1 : List Str := [(Str.ofString "term"), (Str.ofString "sign"), (Str.ofString "entry")]
theorem sc_1 : FnScope N_1 (psOf 1) (defScope s_1) := ⟨rfl, rfl, rfl, by decide +kernel, rfl, by decide +kernel, by decide +kernel⟩
abbrev s_2 : Stmt := inClass (topS 15) 0
abbrev N_2 : List Str := [(Str.ofString "self"), (Str.ofString "text")]
theorem sc_2 : FnScope N_2 (psOf 2) (defScope s_2) := ⟨rfl, rfl, rfl, by decide +kernel, rfl, by decide +kernel, by decide +kernel⟩
abbrev s_3 : Stmt := inClass (topS 15) 1
abbrev N_3 : List Str := [(Str.ofString "self")]
theorem sc_3 : FnScope N_3 (psOf 3) (defScope s_3) := ⟨rfl, rfl, rfl, by decide +kernel, rfl, by decide +kernel, by decide +kernel⟩
abbrev s_4 : Stmt := inClass (topS 15) 2
abbrev N_4 : List Str := [(Str.ofString "self"), (Str.ofString "signs")]
theorem sc_4 : FnScope N_4 (psOf 4) (defScope s_4) := ⟨rfl, rfl, rfl, by decide +kernel, rfl, by decide +kernel, by decide +kernel⟩
abbrev s_5 : Stmt := inClass (topS 15) 3
abbrev N_5 : List Str := [(Str.ofString "self"), (Str.ofString "signs"), (Str.ofString "start")]
theorem sc_5 : FnScope N_5 (psOf 5) (defScope s_5) := ⟨rfl, rfl, rfl, by decide +kernel, rfl, by decide +kernel, by decide +kernel⟩
abbrev s_6 : Stmt := inClass (topS 15) 4
abbrev N_6 : List Str := [(Str.ofString "self"), (Str.ofString "minus"), (Str.ofString "start"), (Str.ofString "zero"), (Str.ofString "figures")]
theorem sc_6 : FnScope N_6 (psOf 6) (defScope s_6) := ⟨rfl, rfl, rfl, by decide +kernel, rfl, by decide +kernel, by decide +kernel⟩
abbrev s_7 : Stmt := inClass (topS 15) 5
abbrev N_7 : List Str := [(Str.ofString "self"), (Str.ofString "depth"), (Str.ofString "word")]
theorem sc_7 : FnScope N_7 (psOf 7) (defScope s_7) := ⟨rfl, rfl, rfl, by decide +kernel, rfl, by decide +kernel, by decide +kernel⟩
abbrev s_8 : Stmt := inClass (topS 15) 6
abbrev N_8 : List Str := [(Str.ofString "self"), (Str.ofString "depth"), (Str.ofString "found")]
theorem sc_8 : FnScope N_8 (psOf 8) (defScope s_8) := ⟨rfl, rfl, rfl, by decide +kernel, rfl, by decide +kernel, by decide +kernel⟩
abbrev s_9 : Stmt := topS 16
abbrev N_9 : List Str := [(Str.ofString "text"), (Str.ofString "reading"), (Str.ofString "term")]
theorem sc_9 : FnScope N_9 (psOf 9) (defScope s_9) := ⟨rfl, rfl, rfl, by decide +kernel, rfl, by decide +kernel, by decide +kernel⟩
abbrev s_10 : Stmt := topS 18
abbrev N_10 : List Str := [(Str.ofString "cell")]
theorem sc_10 : FnScope N_10 (psOf 10) (defScope s_10) := ⟨rfl, rfl, rfl, by decide +kernel, rfl, by decide +kernel, by decide +kernel⟩
abbrev s_11 : Stmt := topS 19
abbrev N_11 : List Str := [(Str.ofString "script"), (Str.ofString "draws"), (Str.ofString "cell"), (Str.ofString "rest"), (Str.ofString "k"), (Str.ofString "once"), (Str.ofString "twice")]
theorem sc_11 : FnScope N_11 (psOf 11) (defScope s_11) := ⟨rfl, rfl, rfl, by decide +kernel, rfl, by decide +kernel, by decide +kernel⟩
abbrev s_12 : Stmt := topS 20
abbrev N_12 : List Str := [(Str.ofString "draws")]
theorem sc_12 : FnScope N_12 (psOf 12) (defScope s_12) := ⟨rfl, rfl, rfl, by decide +kernel, rfl, by decide +kernel, by decide +kernel⟩
abbrev s_13 : Stmt := topS 21
abbrev N_13 : List Str := [(Str.ofString "draws"), (Str.ofString "many"), (Str.ofString "seed"), (Str.ofString "more"), (Str.ofString "k")]
theorem sc_13 : FnScope N_13 (psOf 13) (defScope s_13) := ⟨rfl, rfl, rfl, by decide +kernel, rfl, by decide +kernel, by decide +kernel⟩
abbrev s_14 : Stmt := topS 22
abbrev N_14 : List Str := [(Str.ofString "draws"), (Str.ofString "some")]
theorem sc_14 : FnScope N_14 (psOf 14) (defScope s_14) := ⟨rfl, rfl, rfl, by decide +kernel, rfl, by decide +kernel, by decide +kernel⟩
abbrev s_15 : Stmt := topS 23
abbrev N_15 : List Str := [(Str.ofString "draws"), (Str.ofString "depth"), (Str.ofString "kind"), (Str.ofString "word"), (Str.ofString "k")]
theorem sc_15 : FnScope N_15 (psOf 15) (defScope s_15) := ⟨rfl, rfl, rfl, by decide +kernel, rfl, by decide +kernel, by decide +kernel⟩
abbrev s_16 : Stmt := topS 24
abbrev N_16 : List Str := [(Str.ofString "term"), (Str.ofString "entry")]
theorem sc_16 : FnScope N_16 (psOf 16) (defScope s_16) := ⟨rfl, rfl, rfl, by decide +kernel, rfl, by decide +kernel, by decide +kernel⟩
abbrev s_17 : Stmt := topS 25
abbrev N_17 : List Str := [(Str.ofString "text"), (Str.ofString "at"), (Str.ofString "start"), (Str.ofString "first"), (Str.ofString "k")]
theorem sc_17 : FnScope N_17 (psOf 17) (defScope s_17) := ⟨rfl, rfl, rfl, by decide +kernel, rfl, by decide +kernel, by decide +kernel⟩
abbrev s_18 : Stmt := topS 26
abbrev N_18 : List Str := [(Str.ofString "text"), (Str.ofString "at"), (Str.ofString "depth"), (Str.ofString "sign"), (Str.ofString "end"), (Str.ofString "k")]
theorem sc_18 : FnScope N_18 (psOf 18) (defScope s_18) := ⟨rfl, rfl, rfl, by decide +kernel, rfl, by decide +kernel, by decide +kernel⟩
abbrev s_19 : Stmt := topS 27
abbrev N_19 : List Str := [(Str.ofString "text"), (Str.ofString "at"), (Str.ofString "depth"), (Str.ofString "found"), (Str.ofString "turn"), (Str.ofString "term"), (Str.ofString "end")]
theorem sc_19 : FnScope N_19 (psOf 19) (defScope s_19) := ⟨rfl, rfl, rfl, by decide +kernel, rfl, by decide +kernel, by decide +kernel⟩
abbrev s_20 : Stmt := topS 28
abbrev N_20 : List Str := [(Str.ofString "text"), (Str.ofString "term"), (Str.ofString "at")]
theorem sc_20 : FnScope N_20 (psOf 20) (defScope s_20) := ⟨rfl, rfl, rfl, by decide +kernel, rfl, by decide +kernel, by decide +kernel⟩
abbrev s_21 : Stmt := topS 29
abbrev N_21 : List Str := [(Str.ofString "text"), (Str.ofString "error")]
theorem sc_21 : FnScope N_21 (psOf 21) (defScope s_21) := ⟨rfl, rfl, rfl, by decide +kernel, rfl, by decide +kernel, by decide +kernel⟩
abbrev s_22 : Stmt := topS 30
abbrev N_22 : List Str := [(Str.ofString "term")]
theorem sc_22 : FnScope N_22 (psOf 22) (defScope s_22) := ⟨rfl, rfl, rfl, by decide +kernel, rfl, by decide +kernel, by decide +kernel⟩
abbrev s_23 : Stmt := topS 31
abbrev N_23 : List Str := [(Str.ofString "script"), (Str.ofString "draws"), (Str.ofString "some"), (Str.ofString "turn"), (Str.ofString "term"), (Str.ofString "text"), (Str.ofString "k"), (Str.ofString "at"), (Str.ofString "cut"), (Str.ofString "sign"), (Str.ofString "spoilt"), (Str.ofString "deep"), (Str.ofString "texts"), (Str.ofString "great")]
theorem sc_23 : FnScope N_23 (psOf 23) (defScope s_23) := ⟨rfl, rfl, rfl, by decide +kernel, rfl, by decide +kernel, by decide +kernel⟩
abbrev si_Malformed : Stmt := inClass (topS 3) 0
abbrev Ni_Malformed : List Str := [(Str.ofString "self"), (Str.ofString "at")]
theorem sci_Malformed : FnScope Ni_Malformed Ni_Malformed (defScope si_Malformed) := ⟨rfl, rfl, rfl, by decide +kernel, rfl, by decide +kernel, by decide +kernel⟩
/-- what the top has written -/
structure TX (K : PySem.W.Frag) (mg : Str → Option Value) (a : Nat → Addr) (d : Nat → FuncData) (A : Nat → Addr) (ai_Malformed : Addr) (di_Malformed : FuncData) : Prop where
  g_0 : mg (Str.ofString "has_text") = some (.ref (a 0))
  k_0 : PySem.W.keepIn K (.ref (a 0)) = true
  b_0 : Binds K (d 0) (psOf 0) []
  f_0 : Fun K (Str.ofString "has_text") (Str.ofString "has_text") s_0 (a 0) (d 0)
  g_1 : mg (Str.ofString "term_text") = some (.ref (a 1))
  k_1 : PySem.W.keepIn K (.ref (a 1)) = true
  b_1 : Binds K (d 1) (psOf 1) []
  f_1 : Fun K (Str.ofString "term_text") (Str.ofString "term_text") s_1 (a 1) (d 1)
  mk_Reading : Mk K (A 3) (a 2)
  k_2 : PySem.W.keepIn K (.ref (a 2)) = true
  b_2 : Binds K (d 2) (psOf 2) []
  f_2 : Fun K (Str.ofString "__init__") (Str.ofString "Reading.__init__") s_2 (a 2) (d 2)
  m_3 : Meth K (A 3) (Str.ofString "sign") (a 3)
  k_3 : PySem.W.keepIn K (.ref (a 3)) = true
  b_3 : Binds K (d 3) (psOf 3) []
  f_3 : Fun K (Str.ofString "sign") (Str.ofString "Reading.sign") s_3 (a 3) (d 3)
  m_4 : Meth K (A 3) (Str.ofString "is_at") (a 4)
  k_4 : PySem.W.keepIn K (.ref (a 4)) = true
  b_4 : Binds K (d 4) (psOf 4) []
  f_4 : Fun K (Str.ofString "is_at") (Str.ofString "Reading.is_at") s_4 (a 4) (d 4)
  m_5 : Meth K (A 3) (Str.ofString "take") (a 5)
  k_5 : PySem.W.keepIn K (.ref (a 5)) = true
  b_5 : Binds K (d 5) (psOf 5) []
  f_5 : Fun K (Str.ofString "take") (Str.ofString "Reading.take") s_5 (a 5) (d 5)
  m_6 : Meth K (A 3) (Str.ofString "integer") (a 6)
  k_6 : PySem.W.keepIn K (.ref (a 6)) = true
  b_6 : Binds K (d 6) (psOf 6) []
  f_6 : Fun K (Str.ofString "integer") (Str.ofString "Reading.integer") s_6 (a 6) (d 6)
  m_7 : Meth K (A 3) (Str.ofString "term") (a 7)
  k_7 : PySem.W.keepIn K (.ref (a 7)) = true
  b_7 : Binds K (d 7) (psOf 7) []
  f_7 : Fun K (Str.ofString "term") (Str.ofString "Reading.term") s_7 (a 7) (d 7)
  m_8 : Meth K (A 3) (Str.ofString "entries") (a 8)
  k_8 : PySem.W.keepIn K (.ref (a 8)) = true
  b_8 : Binds K (d 8) (psOf 8) []
  f_8 : Fun K (Str.ofString "entries") (Str.ofString "Reading.entries") s_8 (a 8) (d 8)
  g_9 : mg (Str.ofString "read_term") = some (.ref (a 9))
  k_9 : PySem.W.keepIn K (.ref (a 9)) = true
  b_9 : Binds K (d 9) (psOf 9) []
  f_9 : Fun K (Str.ofString "read_term") (Str.ofString "read_term") s_9 (a 9) (d 9)
  g_10 : mg (Str.ofString "_law_number") = some (.ref (a 10))
  k_10 : PySem.W.keepIn K (.ref (a 10)) = true
  b_10 : Binds K (d 10) (psOf 10) []
  f_10 : Fun K (Str.ofString "_law_number") (Str.ofString "_law_number") s_10 (a 10) (d 10)
  g_11 : mg (Str.ofString "_law_draws") = some (.ref (a 11))
  k_11 : PySem.W.keepIn K (.ref (a 11)) = true
  b_11 : Binds K (d 11) (psOf 11) []
  f_11 : Fun K (Str.ofString "_law_draws") (Str.ofString "_law_draws") s_11 (a 11) (d 11)
  g_12 : mg (Str.ofString "_law_next") = some (.ref (a 12))
  k_12 : PySem.W.keepIn K (.ref (a 12)) = true
  b_12 : Binds K (d 12) (psOf 12) []
  f_12 : Fun K (Str.ofString "_law_next") (Str.ofString "_law_next") s_12 (a 12) (d 12)
  g_13 : mg (Str.ofString "_law_more") = some (.ref (a 13))
  k_13 : PySem.W.keepIn K (.ref (a 13)) = true
  b_13 : Binds K (d 13) (psOf 13) []
  f_13 : Fun K (Str.ofString "_law_more") (Str.ofString "_law_more") s_13 (a 13) (d 13)
  g_14 : mg (Str.ofString "_law_pick") = some (.ref (a 14))
  k_14 : PySem.W.keepIn K (.ref (a 14)) = true
  b_14 : Binds K (d 14) (psOf 14) []
  f_14 : Fun K (Str.ofString "_law_pick") (Str.ofString "_law_pick") s_14 (a 14) (d 14)
  g_15 : mg (Str.ofString "_law_term") = some (.ref (a 15))
  k_15 : PySem.W.keepIn K (.ref (a 15)) = true
  b_15 : Binds K (d 15) (psOf 15) []
  f_15 : Fun K (Str.ofString "_law_term") (Str.ofString "_law_term") s_15 (a 15) (d 15)
  g_16 : mg (Str.ofString "_law_text") = some (.ref (a 16))
  k_16 : PySem.W.keepIn K (.ref (a 16)) = true
  b_16 : Binds K (d 16) (psOf 16) []
  f_16 : Fun K (Str.ofString "_law_text") (Str.ofString "_law_text") s_16 (a 16) (d 16)
  g_17 : mg (Str.ofString "_law_integer") = some (.ref (a 17))
  k_17 : PySem.W.keepIn K (.ref (a 17)) = true
  b_17 : Binds K (d 17) (psOf 17) []
  f_17 : Fun K (Str.ofString "_law_integer") (Str.ofString "_law_integer") s_17 (a 17) (d 17)
  g_18 : mg (Str.ofString "_law_read") = some (.ref (a 18))
  k_18 : PySem.W.keepIn K (.ref (a 18)) = true
  b_18 : Binds K (d 18) (psOf 18) []
  f_18 : Fun K (Str.ofString "_law_read") (Str.ofString "_law_read") s_18 (a 18) (d 18)
  g_19 : mg (Str.ofString "_law_entries") = some (.ref (a 19))
  k_19 : PySem.W.keepIn K (.ref (a 19)) = true
  b_19 : Binds K (d 19) (psOf 19) []
  f_19 : Fun K (Str.ofString "_law_entries") (Str.ofString "_law_entries") s_19 (a 19) (d 19)
  g_20 : mg (Str.ofString "_law_due") = some (.ref (a 20))
  k_20 : PySem.W.keepIn K (.ref (a 20)) = true
  b_20 : Binds K (d 20) (psOf 20) []
  f_20 : Fun K (Str.ofString "_law_due") (Str.ofString "_law_due") s_20 (a 20) (d 20)
  g_21 : mg (Str.ofString "_law_told") = some (.ref (a 21))
  k_21 : PySem.W.keepIn K (.ref (a 21)) = true
  b_21 : Binds K (d 21) (psOf 21) []
  f_21 : Fun K (Str.ofString "_law_told") (Str.ofString "_law_told") s_21 (a 21) (d 21)
  g_22 : mg (Str.ofString "_law_refused") = some (.ref (a 22))
  k_22 : PySem.W.keepIn K (.ref (a 22)) = true
  b_22 : Binds K (d 22) (psOf 22) []
  f_22 : Fun K (Str.ofString "_law_refused") (Str.ofString "_law_refused") s_22 (a 22) (d 22)
  g_23 : mg (Str.ofString "law") = some (.ref (a 23))
  k_23 : PySem.W.keepIn K (.ref (a 23)) = true
  b_23 : Binds K (d 23) (psOf 23) []
  f_23 : Fun K (Str.ofString "law") (Str.ofString "law") s_23 (a 23) (d 23)
  c_FIGURES : ∃ u, mg (Str.ofString "FIGURES") = some u ∧ RelV (V.str (Str.ofString "0123456789")) u
  c_MOST_BITS : ∃ u, mg (Str.ofString "MOST_BITS") = some u ∧ RelV (V.int 13287) u
  c_MOST_FIGURES : ∃ u, mg (Str.ofString "MOST_FIGURES") = some u ∧ RelV (V.int 20) u
  c_MOST_OPEN : ∃ u, mg (Str.ofString "MOST_OPEN") = some u ∧ RelV (V.int 12) u
  c_MOST_TEXT : ∃ u, mg (Str.ofString "MOST_TEXT") = some u ∧ RelV (V.int 4000) u
  c_NOBODY : ∃ u, mg (Str.ofString "NOBODY") = some u ∧ RelV (V.str (Str.ofString ".")) u
  c_NOTHING : ∃ u, mg (Str.ofString "NOTHING") = some u ∧ RelV (V.str (Str.ofString "none")) u
  c_SMALL : ∃ u, mg (Str.ofString "SMALL") = some u ∧ RelV (V.str (Str.ofString "abcdefghijklmnopqrstuvwxyz")) u
  z_abs : mg (Str.ofString "abs") = none
  z_all : mg (Str.ofString "all") = none
  z_int : mg (Str.ofString "int") = none
  z_isinstance : mg (Str.ofString "isinstance") = none
  z_len : mg (Str.ofString "len") = none
  z_list : mg (Str.ofString "list") = none
  z_range : mg (Str.ofString "range") = none
  z_repr : mg (Str.ofString "repr") = none
  z_str : mg (Str.ofString "str") = none
  z_tuple : mg (Str.ofString "tuple") = none
  gc_Reading : mg (Str.ofString "Reading") = some (.ref (A 3))
  gc_RunError : mg (Str.ofString "RunError") = some (.ref (A 0))
  gc_BadNumber : mg (Str.ofString "BadNumber") = some (.ref (A 1))
  gc_Malformed : mg (Str.ofString "Malformed") = some (.ref (A 2))
  cl_Reading : Cls K (A 3)
  no_Reading_at : NoAttr K (A 3) (Str.ofString "at")
  no_Reading_text : NoAttr K (A 3) (Str.ofString "text")
  ex_RunError : PySem.W.excIn K (A 0) [.type "ValueError", .type "Exception", .type "BaseException", .type "object"] "ValueError.__new__" = true
  kc_RunError : PySem.W.keepIn K (.ref (A 0)) = true
  sb_RunError : PySem.W.subIn K (.ref (A 0)) (.type "BaseException") = some true
  tc_RunError : PySem.W.typeIn K (.ref (A 0)) = some (.type "type")
  ex_BadNumber : PySem.W.excIn K (A 1) [.type "ValueError", .type "Exception", .type "BaseException", .type "object"] "ValueError.__new__" = true
  kc_BadNumber : PySem.W.keepIn K (.ref (A 1)) = true
  sb_BadNumber : PySem.W.subIn K (.ref (A 1)) (.type "BaseException") = some true
  tc_BadNumber : PySem.W.typeIn K (.ref (A 1)) = some (.type "type")
  ox_Malformed : OexC K (A 2)
  nf_Malformed : PySem.W.findIn K (.ref (A 2)) (Str.ofString "at") = some none
  ic_Malformed : PySem.W.findIn K (.ref (A 2)) "__init__" = some (some (.ref ai_Malformed))
  ti_Malformed : PySem.W.typeIn K (.ref ai_Malformed) = some (.type "function")
  ib_Malformed : Binds K di_Malformed Ni_Malformed []
  if_Malformed : Fun K "__init__" (Str.ofString "Malformed.__init__") si_Malformed ai_Malformed di_Malformed
  xf_Malformed_at : Xfld K (A 2) (Str.ofString "at")
  xc_Malformed : Xcls K (A 0)
  bel_BadNumber : ∀ c b C', bel_BadNumber c = some b → ((List.range 4).map A)[c]? = some C' → PySem.W.exmOne K (.ref C') (.ref (A 1)) = some b
  bel_Malformed : ∀ c b C', bel_Malformed c = some b → ((List.range 4).map A)[c]? = some C' → PySem.W.exmOne K (.ref C') (.ref (A 2)) = some b
def gk (K : PySem.W.Frag) (A : Nat → Addr) : Gk := ⟨K, (List.range 4).map A⟩
section
variable {P : Program} {w : World} {K : PySem.W.Frag} {mg : Str → Option Value} {base : Heap} {a : Nat → Addr} {d : Nat → FuncData} {A : Nat → Addr} {ai_Malformed : Addr} {di_Malformed : FuncData}
theorem ct_Reading : (gk K A).ct[3]? = some (A 3) := rfl
theorem ct_RunError : (gk K A).ct[0]? = some (A 0) := rfl
theorem ct_BadNumber : (gk K A).ct[1]? = some (A 1) := rfl
theorem ct_Malformed : (gk K A).ct[2]? = some (A 2) := rfl
theorem io_Malformed (T : TX K mg a d A ai_Malformed di_Malformed) : FnOk P w K mg base (L2.CX P w) 2 ai_Malformed di_Malformed Ni_Malformed (spI K (Str.ofString "at")) := by
  refine T.if_Malformed.okX sci_Malformed (fun vs H Q E h => ?_) (fun cdv B outer s H vs Q E hr h => ?_)
  · obtain ⟨p, C, y, rfl, _⟩ := h
    rfl
  · obtain ⟨p, C, y, rfl, q1, q2, q3, q4⟩ := h
    refine ⟨_, pss_cons (ps_expr (pe_xinit rfl T.gc_RunError T.xc_Malformed (pa_cons (pv 0) (pa_cons pe_str pa_nil)))) (pss_one (ps_ost (pv 0) (pv 1))), ?_⟩
    refine ⟨_, rfl, p, C, [_], rfl, (by decide), q1, q3, _, rfl, _, rfl, p, C, rfl, q1, q2, .inl ⟨q3, q4⟩⟩
set_option linter.unusedVariables false in
theorem ok_0 {j fu : Nat} {c : Nat → FM} (hj : 2 ≤ j) (hnd : base.NoDigits) (T : TX K mg a d A ai_Malformed di_Malformed) (ih : ∀ i, FnG P w K mg base j (a i) (d i) (psOf i) (spM (gk K A) (psOf i).length (c i))) : FnG P w K mg base (j + 2) (a 0) (d 0) (psOf 0) (spM (gk K A) (psOf 0).length (defM 3 (b_0 fu c))) := by
  refine fn_ok (k := gk K A) T.f_0 sc_0 (fun cdv AA outer s H E B => ?_)
  have nd := sc_0.nd
  have po := passes_of (X := cxOf (L2.CX P w) P w K mg base N_0 (Str.ofString "has_text") (defScope s_0) (a 0) cdv AA outer s H E) rfl
  exact mb_cons (ms_if (mt_not (mt_truth B.K (me_op om_shr (me_cb (cm_abs) (ma_cons (me_v 0) (ma_nil)) (fun _ _ hc ha => pe_callB hc (by rfl) T.z_abs (by decide +kernel) ha)) (me_globE (v := V.int 13287) (d := D.int 13287) (by rfl) T.c_MOST_BITS (fun _ _ => rfl))) (fun _ => rfl))) (mb_one (ms_ret (me_bl))) (mb_nil))
    (mb_cons (ms_set (i := 1) nd rfl (Or.inl rfl) (me_int))
    (mb_cons (ms_for po B.calm (calm_name) (mi_range1 (by rfl) T.z_range (ma_cons (me_globE (v := V.int 4000) (d := D.int 4000) (by rfl) T.c_MOST_TEXT (fun _ _ => rfl)) (ma_nil))) (mg_name (i := 2) nd rfl (Or.inl rfl)) (mb_one (ms_aug (i := 1) nd rfl (Or.inl rfl) (me_int) om_imul (fun _ _ h1 h2 => ps_aug (i := 1) nd rfl (Or.inl rfl) h1 h2))) (fun _ _ _ h1 h2 h3 => ps_for po B.calm h1 h2 h3))
    (mb_one (ms_ret (me_cmp om_ltX (me_cb (cm_abs) (ma_cons (me_v 0) (ma_nil)) (fun _ _ hc ha => pe_callB hc (by rfl) T.z_abs (by decide +kernel) ha)) (me_v 1) (nomark _))))))
set_option linter.unusedVariables false in
theorem ok_1 {j fu : Nat} {c : Nat → FM} (hj : 2 ≤ j) (hnd : base.NoDigits) (T : TX K mg a d A ai_Malformed di_Malformed) (ih : ∀ i, FnG P w K mg base j (a i) (d i) (psOf i) (spM (gk K A) (psOf i).length (c i))) : FnG P w K mg base (j + 2) (a 1) (d 1) (psOf 1) (spM (gk K A) (psOf 1).length (defM 3 (b_1 fu c))) := by
  refine fn_ok (k := gk K A) T.f_1 sc_1 (fun cdv AA outer s H E B => ?_)
  have nd := sc_1.nd
  have po := passes_of (X := cxOf (L2.CX P w) P w K mg base N_1 (Str.ofString "term_text") (defScope s_1) (a 1) cdv AA outer s H E) rfl
  exact mb_cons (ms_if (mt_cmp om_is (me_v 0) (me_non) (nomark _)) (mb_one (ms_ret (me_globE (v := V.str (Str.ofString "none")) (d := D.str (Str.ofString "none")) (by rfl) T.c_NOTHING (fun _ _ => rfl)))) (mb_nil))
    (mb_cons (ms_if (mt_truth B.K (me_cb (cm_isi B.K) (ma_cons (me_v 0) (ma_cons (me_ty (n := "int") (by rfl) T.z_int (by decide +kernel)) (ma_nil))) (fun _ _ hc ha => pe_callB hc (by rfl) T.z_isinstance (by decide +kernel) ha)) (fun _ => rfl)) (mb_cons (ms_if (mt_not (mt_truth B.K (me_call (dus := []) (dvs := []) (dds := []) B (ih 0) (by rfl) T.g_0 T.k_0 T.b_0 .nil repL_nil (ma_cons (me_v 0) (ma_nil))) (fun _ => rfl))) (mb_one (ms_raise B ct_BadNumber (pmk_own PySem.F.excBase_ValueError T.ex_BadNumber T.gc_BadNumber T.kc_BadNumber (raises_own T.sb_BadNumber T.tc_BadNumber) rfl))) (mb_nil))
    (mb_one (ms_ret (me_cb (cm_str B.calm hnd) (ma_cons (me_v 0) (ma_nil)) (fun _ _ hc ha => pe_callTy hc (by rfl) T.z_str (by decide +kernel) ha))))) (mb_nil))
    (mb_cons (ms_if (mt_truth B.K (me_cb (cm_isi B.K) (ma_cons (me_v 0) (ma_cons (me_ty (n := "str") (by rfl) T.z_str (by decide +kernel)) (ma_nil))) (fun _ _ hc ha => pe_callB hc (by rfl) T.z_isinstance (by decide +kernel) ha)) (fun _ => rfl)) (mb_cons (ms_if (MW.mt (mw_or (mt_cmp (om_eq B) (me_v 0) (me_globE (v := V.str (Str.ofString "none")) (d := D.str (Str.ofString "none")) (by rfl) T.c_NOTHING (fun _ _ => rfl)) (nomark _)) (mw_or1 (mt_not (mt_truth B.K (me_gc (me_cb (cm_all B.K B.calm) (ma_cons (me_lcx (own := [((Str.ofString "sign"), 1)]) (t := gName 1) B rfl rfl nd (mi_any B.K (me_v 0)) (blkOk_by (own := [((Str.ofString "sign"), 1)]) (N := N_1) (sc := defScope s_1) (by decide +kernel)) (gs_name) (mog_name) (inw_name (by decide)) (calm_name) (fun _ _ _ _ _ => pg_name (i := 1) nd rfl (Or.inl rfl)) (fun _ _ _ _ _ _ B => mts_nil) (fun _ _ _ _ _ _ B => me_cmp (om_in B.K) (me_v 1) (me_globE (v := V.str (Str.ofString "abcdefghijklmnopqrstuvwxyz")) (d := D.str (Str.ofString "abcdefghijklmnopqrstuvwxyz")) (by rfl) T.c_SMALL (fun _ _ => rfl)) (by rfl))) (ma_nil)) (fun _ _ hc ha => pe_callB hc (by rfl) T.z_all (by decide +kernel) ha))) (fun _ => rfl)))))) (mb_one (ms_raise B ct_BadNumber (pmk_own PySem.F.excBase_ValueError T.ex_BadNumber T.gc_BadNumber T.kc_BadNumber (raises_own T.sb_BadNumber T.tc_BadNumber) rfl))) (mb_nil))
    (mb_one (ms_ret (me_or B.K (me_v 0) (me_one (me_globE (v := V.str (Str.ofString ".")) (d := D.str (Str.ofString ".")) (by rfl) T.c_NOBODY (fun _ _ => rfl))))))) (mb_nil))
    (mb_one (ms_ret (me_op (om_add B.K) (me_op (om_add B.K) (me_str) (me_gc (me_bm (T := "str") B.K (bm_join B.K) (me_str) (ma_cons (me_lcx (own := [((Str.ofString "entry"), 2)]) (t := gName 2) B rfl rfl nd (mi_any B.K (me_v 0)) (blkOk_by (own := [((Str.ofString "entry"), 2)]) (N := N_1) (sc := defScope s_1) (by decide +kernel)) (gs_name) (mog_name) (inw_name (by decide)) (calm_name) (fun _ _ _ _ _ => pg_name (i := 2) nd rfl (Or.inl rfl)) (fun _ _ _ _ _ _ B => mts_nil) (fun _ _ _ _ _ _ B => me_call (dus := []) (dvs := []) (dds := []) B (ih 1) (by rfl) T.g_1 T.k_1 T.b_1 .nil repL_nil (ma_cons (me_v 2) (ma_nil)))) (ma_nil)) (fun _ _ _ hm ho ha => pe_bm PySem.F.plainAttrs_str PySem.F.slot_str_join PySem.F.type_str_join hm ho ha)))) (me_str))))))
set_option linter.unusedVariables false in
theorem ok_2 {j fu : Nat} {c : Nat → FM} (hj : 2 ≤ j) (hnd : base.NoDigits) (T : TX K mg a d A ai_Malformed di_Malformed) (ih : ∀ i, FnG P w K mg base j (a i) (d i) (psOf i) (spM (gk K A) (psOf i).length (c i))) : FnG P w K mg base (j + 2) (a 2) (d 2) (psOf 2) (spM (gk K A) (psOf 2).length (defM 2 (b_2 fu c))) := by
  refine fn_ok (k := gk K A) T.f_2 sc_2 (fun cdv AA outer s H E B => ?_)
  have nd := sc_2.nd
  have po := passes_of (X := cxOf (L2.CX P w) P w K mg base N_2 (Str.ofString "Reading.__init__") (defScope s_2) (a 2) cdv AA outer s H E) rfl
  exact mb_cons (ms_fld B.K ct_Reading T.cl_Reading T.no_Reading_text (me_v 0) (me_v 1))
    (mb_one (ms_fld B.K ct_Reading T.cl_Reading T.no_Reading_at (me_v 0) (me_int)))
set_option linter.unusedVariables false in
theorem ok_3 {j fu : Nat} {c : Nat → FM} (hj : 2 ≤ j) (hnd : base.NoDigits) (T : TX K mg a d A ai_Malformed di_Malformed) (ih : ∀ i, FnG P w K mg base j (a i) (d i) (psOf i) (spM (gk K A) (psOf i).length (c i))) : FnG P w K mg base (j + 2) (a 3) (d 3) (psOf 3) (spM (gk K A) (psOf 3).length (defM 1 (b_3 fu c))) := by
  refine fn_ok (k := gk K A) T.f_3 sc_3 (fun cdv AA outer s H E B => ?_)
  have nd := sc_3.nd
  have po := passes_of (X := cxOf (L2.CX P w) P w K mg base N_3 (Str.ofString "Reading.sign") (defScope s_3) (a 3) cdv AA outer s H E) rfl
  exact mb_one (ms_ret (me_sl B.K (me_fld B.K ct_Reading T.cl_Reading T.no_Reading_text (me_v 0)) (mo_some (me_fld B.K ct_Reading T.cl_Reading T.no_Reading_at (me_v 0))) (mo_some (me_op (om_add B.K) (me_fld B.K ct_Reading T.cl_Reading T.no_Reading_at (me_v 0)) (me_int)))))
set_option linter.unusedVariables false in
theorem ok_4 {j fu : Nat} {c : Nat → FM} (hj : 2 ≤ j) (hnd : base.NoDigits) (T : TX K mg a d A ai_Malformed di_Malformed) (ih : ∀ i, FnG P w K mg base j (a i) (d i) (psOf i) (spM (gk K A) (psOf i).length (c i))) : FnG P w K mg base (j + 2) (a 4) (d 4) (psOf 4) (spM (gk K A) (psOf 4).length (defM 2 (b_4 fu c))) := by
  refine fn_ok (k := gk K A) T.f_4 sc_4 (fun cdv AA outer s H E B => ?_)
  have nd := sc_4.nd
  have po := passes_of (X := cxOf (L2.CX P w) P w K mg base N_4 (Str.ofString "Reading.is_at") (defScope s_4) (a 4) cdv AA outer s H E) rfl
  exact mb_one (ms_ret (me_and B.K (me_cmp (om_ne B) (me_meth0 (dus := []) (dvs := []) (dds := []) B ct_Reading T.cl_Reading T.m_3 (ih 3) T.b_3 .nil repL_nil (me_v 0)) (me_str) (nomark _)) (me_one (me_cmp (om_in B.K) (me_meth0 (dus := []) (dvs := []) (dds := []) B ct_Reading T.cl_Reading T.m_3 (ih 3) T.b_3 .nil repL_nil (me_v 0)) (me_v 1) (by rfl)))))
set_option linter.unusedVariables false in
theorem ok_5 {j fu : Nat} {c : Nat → FM} (hj : 2 ≤ j) (hnd : base.NoDigits) (T : TX K mg a d A ai_Malformed di_Malformed) (ih : ∀ i, FnG P w K mg base j (a i) (d i) (psOf i) (spM (gk K A) (psOf i).length (c i))) : FnG P w K mg base (j + 2) (a 5) (d 5) (psOf 5) (spM (gk K A) (psOf 5).length (defM 3 (b_5 fu c))) := by
  refine fn_ok (k := gk K A) T.f_5 sc_5 (fun cdv AA outer s H E B => ?_)
  have nd := sc_5.nd
  have po := passes_of (X := cxOf (L2.CX P w) P w K mg base N_5 (Str.ofString "Reading.take") (defScope s_5) (a 5) cdv AA outer s H E) rfl
  exact mb_cons (ms_set (i := 2) nd rfl (Or.inl rfl) (me_fld B.K ct_Reading T.cl_Reading T.no_Reading_at (me_v 0)))
    (mb_cons (ms_while fu po (mt_truth B.K (me_meth (dus := []) (dvs := []) (dds := []) B ct_Reading T.cl_Reading T.m_4 (ih 4) T.b_4 .nil repL_nil (me_v 0) (ma_cons (me_v 1) (ma_nil))) (fun _ => rfl)) (mb_one (ms_fldaug B.K ct_Reading T.cl_Reading T.no_Reading_at om_iadd (me_v 0) (me_int))))
    (mb_one (ms_ret (me_sl B.K (me_fld B.K ct_Reading T.cl_Reading T.no_Reading_text (me_v 0)) (mo_some (me_v 2)) (mo_some (me_fld B.K ct_Reading T.cl_Reading T.no_Reading_at (me_v 0)))))))
set_option linter.unusedVariables false in
theorem ok_6 {j fu : Nat} {c : Nat → FM} (hj : 2 ≤ j) (hnd : base.NoDigits) (T : TX K mg a d A ai_Malformed di_Malformed) (ih : ∀ i, FnG P w K mg base j (a i) (d i) (psOf i) (spM (gk K A) (psOf i).length (c i))) : FnG P w K mg base (j + 2) (a 6) (d 6) (psOf 6) (spM (gk K A) (psOf 6).length (defM 5 (b_6 fu c))) := by
  refine fn_ok (k := gk K A) T.f_6 sc_6 (fun cdv AA outer s H E B => ?_)
  have nd := sc_6.nd
  have po := passes_of (X := cxOf (L2.CX P w) P w K mg base N_6 (Str.ofString "Reading.integer") (defScope s_6) (a 6) cdv AA outer s H E) rfl
  exact mb_cons (ms_set (i := 1) nd rfl (Or.inl rfl) (me_meth (dus := []) (dvs := []) (dds := []) B ct_Reading T.cl_Reading T.m_4 (ih 4) T.b_4 .nil repL_nil (me_v 0) (ma_cons (me_str) (ma_nil))))
    (mb_cons (ms_if (mt_truth B.K (me_v 1) (fun _ => rfl)) (mb_one (ms_fldaug B.K ct_Reading T.cl_Reading T.no_Reading_at om_iadd (me_v 0) (me_int))) (mb_nil))
    (mb_cons (ms_set (i := 2) nd rfl (Or.inl rfl) (me_fld B.K ct_Reading T.cl_Reading T.no_Reading_at (me_v 0)))
    (mb_cons (ms_if (MW.mt (mw_or (mt_not (mt_truth B.K (me_meth (dus := []) (dvs := []) (dds := []) B ct_Reading T.cl_Reading T.m_4 (ih 4) T.b_4 .nil repL_nil (me_v 0) (ma_cons (me_globE (v := V.str (Str.ofString "0123456789")) (d := D.str (Str.ofString "0123456789")) (by rfl) T.c_FIGURES (fun _ _ => rfl)) (ma_nil))) (fun _ => rfl))) (mw_or1 (MW.mt (mw_and (mt_truth B.K (me_v 1) (fun _ => rfl)) (mw_and1 (mt_truth B.K (me_meth (dus := []) (dvs := []) (dds := []) B ct_Reading T.cl_Reading T.m_4 (ih 4) T.b_4 .nil repL_nil (me_v 0) (ma_cons (me_str) (ma_nil))) (fun _ => rfl)))))))) (mb_one (ms_raiseF B ct_Malformed (me_fld B.K ct_Reading T.cl_Reading T.no_Reading_at (me_v 0)) (fun _ h => pmk_f ⟨_, B.tk⟩ T.ox_Malformed T.nf_Malformed T.ic_Malformed T.ti_Malformed (io_Malformed T) (B.rm.mono (Nat.succ_le_succ hj)) T.ib_Malformed rfl T.gc_Malformed h))) (mb_nil))
    (mb_cons (ms_set (i := 3) nd rfl (Or.inl rfl) (me_meth (dus := []) (dvs := []) (dds := []) B ct_Reading T.cl_Reading T.m_4 (ih 4) T.b_4 .nil repL_nil (me_v 0) (ma_cons (me_str) (ma_nil))))
    (mb_cons (ms_set (i := 4) nd rfl (Or.inl rfl) (me_meth (dus := []) (dvs := []) (dds := []) B ct_Reading T.cl_Reading T.m_5 (ih 5) T.b_5 .nil repL_nil (me_v 0) (ma_cons (me_globE (v := V.str (Str.ofString "0123456789")) (d := D.str (Str.ofString "0123456789")) (by rfl) T.c_FIGURES (fun _ _ => rfl)) (ma_nil))))
    (mb_cons (ms_if (MW.mt (mw_and (mt_truth B.K (me_v 3) (fun _ => rfl)) (mw_and1 (mt_cmp om_gtX (me_cb (cm_len B.K) (ma_cons (me_v 4) (ma_nil)) (fun _ _ hc ha => pe_callB hc (by rfl) T.z_len (by decide +kernel) ha)) (me_int) (nomark _))))) (mb_one (ms_raiseF B ct_Malformed (me_op (om_add B.K) (me_v 2) (me_int)) (fun _ h => pmk_f ⟨_, B.tk⟩ T.ox_Malformed T.nf_Malformed T.ic_Malformed T.ti_Malformed (io_Malformed T) (B.rm.mono (Nat.succ_le_succ hj)) T.ib_Malformed rfl T.gc_Malformed h))) (mb_nil))
    (mb_cons (ms_if (mt_cmp om_gtX (me_cb (cm_len B.K) (ma_cons (me_v 4) (ma_nil)) (fun _ _ hc ha => pe_callB hc (by rfl) T.z_len (by decide +kernel) ha)) (me_globE (v := V.int 20) (d := D.int 20) (by rfl) T.c_MOST_FIGURES (fun _ _ => rfl)) (nomark _)) (mb_one (ms_raiseF B ct_Malformed (me_op (om_add B.K) (me_v 2) (me_globE (v := V.int 20) (d := D.int 20) (by rfl) T.c_MOST_FIGURES (fun _ _ => rfl))) (fun _ h => pmk_f ⟨_, B.tk⟩ T.ox_Malformed T.nf_Malformed T.ic_Malformed T.ti_Malformed (io_Malformed T) (B.rm.mono (Nat.succ_le_succ hj)) T.ib_Malformed rfl T.gc_Malformed h))) (mb_nil))
    (mb_one (ms_ret (me_if (mt_truth B.K (me_v 1) (fun _ => rfl)) (me_neg (me_cb (cm_int) (ma_cons (me_v 4) (ma_nil)) (fun _ _ hc ha => pe_callTy hc (by rfl) T.z_int (by decide +kernel) ha))) (me_cb (cm_int) (ma_cons (me_v 4) (ma_nil)) (fun _ _ hc ha => pe_callTy hc (by rfl) T.z_int (by decide +kernel) ha))))))))))))
set_option linter.unusedVariables false in
theorem ok_7 {j fu : Nat} {c : Nat → FM} (hj : 2 ≤ j) (hnd : base.NoDigits) (T : TX K mg a d A ai_Malformed di_Malformed) (ih : ∀ i, FnG P w K mg base j (a i) (d i) (psOf i) (spM (gk K A) (psOf i).length (c i))) : FnG P w K mg base (j + 2) (a 7) (d 7) (psOf 7) (spM (gk K A) (psOf 7).length (defM 3 (b_7 fu c))) := by
  refine fn_ok (k := gk K A) T.f_7 sc_7 (fun cdv AA outer s H E B => ?_)
  have nd := sc_7.nd
  have po := passes_of (X := cxOf (L2.CX P w) P w K mg base N_7 (Str.ofString "Reading.term") (defScope s_7) (a 7) cdv AA outer s H E) rfl
  exact mb_cons (ms_if (mt_truth B.K (me_meth (dus := []) (dvs := []) (dds := []) B ct_Reading T.cl_Reading T.m_4 (ih 4) T.b_4 .nil repL_nil (me_v 0) (ma_cons (me_str) (ma_nil))) (fun _ => rfl)) (mb_cons (ms_if (mt_cmp (om_eq B) (me_v 1) (me_globE (v := V.int 12) (d := D.int 12) (by rfl) T.c_MOST_OPEN (fun _ _ => rfl)) (nomark _)) (mb_one (ms_raiseF B ct_Malformed (me_fld B.K ct_Reading T.cl_Reading T.no_Reading_at (me_v 0)) (fun _ h => pmk_f ⟨_, B.tk⟩ T.ox_Malformed T.nf_Malformed T.ic_Malformed T.ti_Malformed (io_Malformed T) (B.rm.mono (Nat.succ_le_succ hj)) T.ib_Malformed rfl T.gc_Malformed h))) (mb_nil))
    (mb_one (ms_ret (me_meth (dus := []) (dvs := []) (dds := []) B ct_Reading T.cl_Reading T.m_8 (ih 8) T.b_8 .nil repL_nil (me_v 0) (ma_cons (me_op (om_add B.K) (me_v 1) (me_int)) (ma_nil)))))) (mb_nil))
    (mb_cons (ms_if (mt_truth B.K (me_meth (dus := []) (dvs := []) (dds := []) B ct_Reading T.cl_Reading T.m_4 (ih 4) T.b_4 .nil repL_nil (me_v 0) (ma_cons (me_globE (v := V.str (Str.ofString ".")) (d := D.str (Str.ofString ".")) (by rfl) T.c_NOBODY (fun _ _ => rfl)) (ma_nil))) (fun _ => rfl)) (mb_cons (ms_fldaug B.K ct_Reading T.cl_Reading T.no_Reading_at om_iadd (me_v 0) (me_int))
    (mb_one (ms_ret (me_str)))) (mb_nil))
    (mb_cons (ms_if (mt_truth B.K (me_meth (dus := []) (dvs := []) (dds := []) B ct_Reading T.cl_Reading T.m_4 (ih 4) T.b_4 .nil repL_nil (me_v 0) (ma_cons (me_globE (v := V.str (Str.ofString "abcdefghijklmnopqrstuvwxyz")) (d := D.str (Str.ofString "abcdefghijklmnopqrstuvwxyz")) (by rfl) T.c_SMALL (fun _ _ => rfl)) (ma_nil))) (fun _ => rfl)) (mb_cons (ms_set (i := 2) nd rfl (Or.inl rfl) (me_meth (dus := []) (dvs := []) (dds := []) B ct_Reading T.cl_Reading T.m_5 (ih 5) T.b_5 .nil repL_nil (me_v 0) (ma_cons (me_globE (v := V.str (Str.ofString "abcdefghijklmnopqrstuvwxyz")) (d := D.str (Str.ofString "abcdefghijklmnopqrstuvwxyz")) (by rfl) T.c_SMALL (fun _ _ => rfl)) (ma_nil))))
    (mb_one (ms_ret (me_if (mt_cmp (om_eq B) (me_v 2) (me_globE (v := V.str (Str.ofString "none")) (d := D.str (Str.ofString "none")) (by rfl) T.c_NOTHING (fun _ _ => rfl)) (nomark _)) (me_non) (me_v 2))))) (mb_nil))
    (mb_one (ms_ret (me_meth0 (dus := []) (dvs := []) (dds := []) B ct_Reading T.cl_Reading T.m_6 (ih 6) T.b_6 .nil repL_nil (me_v 0))))))
set_option linter.unusedVariables false in
theorem ok_8 {j fu : Nat} {c : Nat → FM} (hj : 2 ≤ j) (hnd : base.NoDigits) (T : TX K mg a d A ai_Malformed di_Malformed) (ih : ∀ i, FnG P w K mg base j (a i) (d i) (psOf i) (spM (gk K A) (psOf i).length (c i))) : FnG P w K mg base (j + 2) (a 8) (d 8) (psOf 8) (spM (gk K A) (psOf 8).length (defM 3 (b_8 fu c))) := by
  refine fn_ok (k := gk K A) T.f_8 sc_8 (fun cdv AA outer s H E B => ?_)
  have nd := sc_8.nd
  have po := passes_of (X := cxOf (L2.CX P w) P w K mg base N_8 (Str.ofString "Reading.entries") (defScope s_8) (a 8) cdv AA outer s H E) rfl
  exact mb_cons (ms_fldaug B.K ct_Reading T.cl_Reading T.no_Reading_at om_iadd (me_v 0) (me_int))
    (mb_cons (ms_set (i := 2) nd rfl (Or.inl rfl) (me_lst (ma_nil)))
    (mb_cons (ms_while fu po (mt_not (mt_truth B.K (me_meth (dus := []) (dvs := []) (dds := []) B ct_Reading T.cl_Reading T.m_4 (ih 4) T.b_4 .nil repL_nil (me_v 0) (ma_cons (me_str) (ma_nil))) (fun _ => rfl))) (mb_cons (ms_if (mt_truth B.K (me_v 2) (fun _ => rfl)) (mb_cons (ms_if (mt_not (mt_truth B.K (me_meth (dus := []) (dvs := []) (dds := []) B ct_Reading T.cl_Reading T.m_4 (ih 4) T.b_4 .nil repL_nil (me_v 0) (ma_cons (me_str) (ma_nil))) (fun _ => rfl))) (mb_one (ms_raiseF B ct_Malformed (me_fld B.K ct_Reading T.cl_Reading T.no_Reading_at (me_v 0)) (fun _ h => pmk_f ⟨_, B.tk⟩ T.ox_Malformed T.nf_Malformed T.ic_Malformed T.ti_Malformed (io_Malformed T) (B.rm.mono (Nat.succ_le_succ hj)) T.ib_Malformed rfl T.gc_Malformed h))) (mb_nil))
    (mb_one (ms_fldaug B.K ct_Reading T.cl_Reading T.no_Reading_at om_iadd (me_v 0) (me_int)))) (mb_nil))
    (mb_one (ms_expr (me_bm (T := "list") B.K bm_append (me_v 2) (ma_cons (me_meth (dus := []) (dvs := []) (dds := []) B ct_Reading T.cl_Reading T.m_7 (ih 7) T.b_7 .nil repL_nil (me_v 0) (ma_cons (me_v 1) (ma_nil))) (ma_nil)) (fun _ _ _ hm ho ha => pe_bm PySem.F.plainAttrs_list PySem.F.slot_list_append PySem.F.type_list_append hm ho ha))))))
    (mb_cons (ms_fldaug B.K ct_Reading T.cl_Reading T.no_Reading_at om_iadd (me_v 0) (me_int))
    (mb_one (ms_ret (me_cb (cm_tuple B.K) (ma_cons (me_v 2) (ma_nil)) (fun _ _ hc ha => pe_callTy hc (by rfl) T.z_tuple (by decide +kernel) ha)))))))
set_option linter.unusedVariables false in
theorem ok_9 {j fu : Nat} {c : Nat → FM} (hj : 2 ≤ j) (hnd : base.NoDigits) (T : TX K mg a d A ai_Malformed di_Malformed) (ih : ∀ i, FnG P w K mg base j (a i) (d i) (psOf i) (spM (gk K A) (psOf i).length (c i))) : FnG P w K mg base (j + 2) (a 9) (d 9) (psOf 9) (spM (gk K A) (psOf 9).length (defM 3 (b_9 fu c))) := by
  refine fn_ok (k := gk K A) T.f_9 sc_9 (fun cdv AA outer s H E B => ?_)
  have nd := sc_9.nd
  have po := passes_of (X := cxOf (L2.CX P w) P w K mg base N_9 (Str.ofString "read_term") (defScope s_9) (a 9) cdv AA outer s H E) rfl
  exact mb_cons (ms_set (i := 1) nd rfl (Or.inl rfl) (me_make (dus := []) (dvs := []) (dds := []) B T.mk_Reading ct_Reading (ih 2) (by rfl) T.gc_Reading T.b_2 .nil repL_nil (ma_cons (me_v 0) (ma_nil))))
    (mb_cons (ms_set (i := 2) nd rfl (Or.inl rfl) (me_meth (dus := []) (dvs := []) (dds := []) B ct_Reading T.cl_Reading T.m_7 (ih 7) T.b_7 .nil repL_nil (me_v 1) (ma_cons (me_int) (ma_nil))))
    (mb_cons (ms_if (mt_cmp om_ltX (me_fld B.K ct_Reading T.cl_Reading T.no_Reading_at (me_v 1)) (me_cb (cm_len B.K) (ma_cons (me_v 0) (ma_nil)) (fun _ _ hc ha => pe_callB hc (by rfl) T.z_len (by decide +kernel) ha)) (nomark _)) (mb_one (ms_raiseF B ct_Malformed (me_fld B.K ct_Reading T.cl_Reading T.no_Reading_at (me_v 1)) (fun _ h => pmk_f ⟨_, B.tk⟩ T.ox_Malformed T.nf_Malformed T.ic_Malformed T.ti_Malformed (io_Malformed T) (B.rm.mono (Nat.succ_le_succ hj)) T.ib_Malformed rfl T.gc_Malformed h))) (mb_nil))
    (mb_one (ms_ret (me_v 2)))))
set_option linter.unusedVariables false in
theorem ok_10 {j fu : Nat} {c : Nat → FM} (hj : 2 ≤ j) (hnd : base.NoDigits) (T : TX K mg a d A ai_Malformed di_Malformed) (ih : ∀ i, FnG P w K mg base j (a i) (d i) (psOf i) (spM (gk K A) (psOf i).length (c i))) : FnG P w K mg base (j + 2) (a 10) (d 10) (psOf 10) (spM (gk K A) (psOf 10).length (defM 1 (b_10 fu c))) := by
  refine fn_ok (k := gk K A) T.f_10 sc_10 (fun cdv AA outer s H E B => ?_)
  have nd := sc_10.nd
  have po := passes_of (X := cxOf (L2.CX P w) P w K mg base N_10 (Str.ofString "_law_number") (defScope s_10) (a 10) cdv AA outer s H E) rfl
  exact mb_cons (ms_if (mt_cmp om_ltX (me_v 0) (me_int) (nomark _)) (mb_one (ms_ret (me_op om_sub (me_int) (me_v 0)))) (mb_nil))
    (mb_one (ms_ret (me_v 0)))
set_option linter.unusedVariables false in
theorem ok_11 {j fu : Nat} {c : Nat → FM} (hj : 2 ≤ j) (hnd : base.NoDigits) (T : TX K mg a d A ai_Malformed di_Malformed) (ih : ∀ i, FnG P w K mg base j (a i) (d i) (psOf i) (spM (gk K A) (psOf i).length (c i))) : FnG P w K mg base (j + 2) (a 11) (d 11) (psOf 11) (spM (gk K A) (psOf 11).length (defM 7 (b_11 fu c))) := by
  refine fn_ok (k := gk K A) T.f_11 sc_11 (fun cdv AA outer s H E B => ?_)
  have nd := sc_11.nd
  have po := passes_of (X := cxOf (L2.CX P w) P w K mg base N_11 (Str.ofString "_law_draws") (defScope s_11) (a 11) cdv AA outer s H E) rfl
  exact mb_cons (ms_set (i := 1) nd rfl (Or.inl rfl) (me_lst (ma_nil)))
    (mb_cons (ms_for po B.calm (calm_name) (mi_any B.K (me_v 0)) (mg_name (i := 2) nd rfl (Or.inl rfl)) (mb_cons (ms_set (i := 3) nd rfl (Or.inl rfl) (me_call (dus := []) (dvs := []) (dds := []) B (ih 10) (by rfl) T.g_10 T.k_10 T.b_10 .nil repL_nil (ma_cons (me_v 2) (ma_nil))))
    (mb_one (ms_if (mt_cmp om_geX (me_v 3) (me_int) (nomark _)) (mb_one (ms_for po B.calm (calm_name) (mi_range1 (by rfl) T.z_range (ma_cons (me_int) (ma_nil))) (mg_name (i := 4) nd rfl (Or.inl rfl)) (mb_cons (ms_if (mt_cmp (om_eq B) (me_v 3) (me_int) (nomark _)) (mb_one (ms_break)) (mb_nil))
    (mb_cons (ms_expr (me_bm (T := "list") B.K bm_append (me_v 1) (ma_cons (me_op om_mod (me_cb (cm_int) (ma_cons (me_v 3) (ma_nil)) (fun _ _ hc ha => pe_callTy hc (by rfl) T.z_int (by decide +kernel) ha)) (me_int)) (ma_nil)) (fun _ _ _ hm ho ha => pe_bm PySem.F.plainAttrs_list PySem.F.slot_list_append PySem.F.type_list_append hm ho ha)))
    (mb_one (ms_set (i := 3) nd rfl (Or.inl rfl) (me_op om_fdiv (me_v 3) (me_int)))))) (fun _ _ _ h1 h2 h3 => ps_for po B.calm h1 h2 h3))) (mb_cons (ms_set (i := 5) nd rfl (Or.inl rfl) (me_op om_mod (me_cb (cm_int) (ma_cons (me_op (om_add B.K) (me_op (om_mul B.K) (me_v 3) (me_int)) (me_int)) (ma_nil)) (fun _ _ hc ha => pe_callTy hc (by rfl) T.z_int (by decide +kernel) ha)) (me_int)))
    (mb_cons (ms_set (i := 6) nd rfl (Or.inl rfl) (me_op om_mod (me_cb (cm_int) (ma_cons (me_op (om_add B.K) (me_op (om_mul B.K) (me_v 5) (me_int)) (me_v 3)) (ma_nil)) (fun _ _ hc ha => pe_callTy hc (by rfl) T.z_int (by decide +kernel) ha)) (me_int)))
    (mb_one (ms_expr (me_bm (T := "list") B.K bm_extend (me_v 1) (ma_cons (me_lst (ma_cons (me_op om_mod (me_cb (cm_int) (ma_cons (me_v 3) (ma_nil)) (fun _ _ hc ha => pe_callTy hc (by rfl) T.z_int (by decide +kernel) ha)) (me_int)) (ma_cons (me_op om_mod (me_cb (cm_int) (ma_cons (me_v 5) (ma_nil)) (fun _ _ hc ha => pe_callTy hc (by rfl) T.z_int (by decide +kernel) ha)) (me_int)) (ma_cons (me_op om_mod (me_cb (cm_int) (ma_cons (me_v 6) (ma_nil)) (fun _ _ hc ha => pe_callTy hc (by rfl) T.z_int (by decide +kernel) ha)) (me_int)) (ma_nil))))) (ma_nil)) (fun _ _ _ hm ho ha => pe_bm PySem.F.plainAttrs_list PySem.F.slot_list_extend PySem.F.type_list_extend hm ho ha))))))))) (fun _ _ _ h1 h2 h3 => ps_for po B.calm h1 h2 h3))
    (mb_cons (ms_expr (me_bm0 (T := "list") B.K bm_reverse (me_v 1) (fun _ _ hm ho => pe_bm0 PySem.F.plainAttrs_list PySem.F.slot_list_reverse PySem.F.type_list_reverse hm ho)))
    (mb_one (ms_ret (me_v 1)))))
set_option linter.unusedVariables false in
theorem ok_12 {j fu : Nat} {c : Nat → FM} (hj : 2 ≤ j) (hnd : base.NoDigits) (T : TX K mg a d A ai_Malformed di_Malformed) (ih : ∀ i, FnG P w K mg base j (a i) (d i) (psOf i) (spM (gk K A) (psOf i).length (c i))) : FnG P w K mg base (j + 2) (a 12) (d 12) (psOf 12) (spM (gk K A) (psOf 12).length (defM 1 (b_12 fu c))) := by
  refine fn_ok (k := gk K A) T.f_12 sc_12 (fun cdv AA outer s H E B => ?_)
  have nd := sc_12.nd
  have po := passes_of (X := cxOf (L2.CX P w) P w K mg base N_12 (Str.ofString "_law_next") (defScope s_12) (a 12) cdv AA outer s H E) rfl
  exact mb_cons (ms_if (mt_truth B.K (me_v 0) (fun _ => rfl)) (mb_one (ms_ret (me_bm0 (T := "list") B.K bm_pop (me_v 0) (fun _ _ hm ho => pe_bm0 PySem.F.plainAttrs_list PySem.F.slot_list_pop PySem.F.type_list_pop hm ho)))) (mb_nil))
    (mb_one (ms_ret (me_int)))
set_option linter.unusedVariables false in
theorem ok_13 {j fu : Nat} {c : Nat → FM} (hj : 2 ≤ j) (hnd : base.NoDigits) (T : TX K mg a d A ai_Malformed di_Malformed) (ih : ∀ i, FnG P w K mg base j (a i) (d i) (psOf i) (spM (gk K A) (psOf i).length (c i))) : FnG P w K mg base (j + 2) (a 13) (d 13) (psOf 13) (spM (gk K A) (psOf 13).length (defM 5 (b_13 fu c))) := by
  refine fn_ok (k := gk K A) T.f_13 sc_13 (fun cdv AA outer s H E B => ?_)
  have nd := sc_13.nd
  have po := passes_of (X := cxOf (L2.CX P w) P w K mg base N_13 (Str.ofString "_law_more") (defScope s_13) (a 13) cdv AA outer s H E) rfl
  exact mb_cons (ms_set (i := 2) nd rfl (Or.inl rfl) (me_op (om_add B.K) (me_op (om_add B.K) (me_op (om_mul B.K) (me_int) (me_call (dus := []) (dvs := []) (dds := []) B (ih 12) (by rfl) T.g_12 T.k_12 T.b_12 .nil repL_nil (ma_cons (me_v 0) (ma_nil)))) (me_call (dus := []) (dvs := []) (dds := []) B (ih 12) (by rfl) T.g_12 T.k_12 T.b_12 .nil repL_nil (ma_cons (me_v 0) (ma_nil)))) (me_int)))
    (mb_cons (ms_set (i := 3) nd rfl (Or.inl rfl) (me_lst (ma_nil)))
    (mb_cons (ms_for po B.calm (calm_name) (mi_range1 (by rfl) T.z_range (ma_cons (me_v 1) (ma_nil))) (mg_name (i := 4) nd rfl (Or.inl rfl)) (mb_cons (ms_set (i := 2) nd rfl (Or.inl rfl) (me_op om_mod (me_cb (cm_int) (ma_cons (me_op (om_add B.K) (me_op (om_mul B.K) (me_v 2) (me_int)) (me_int)) (ma_nil)) (fun _ _ hc ha => pe_callTy hc (by rfl) T.z_int (by decide +kernel) ha)) (me_int)))
    (mb_one (ms_expr (me_bm (T := "list") B.K bm_append (me_v 3) (ma_cons (me_op om_mod (me_cb (cm_int) (ma_cons (me_op om_fdiv (me_v 2) (me_int)) (ma_nil)) (fun _ _ hc ha => pe_callTy hc (by rfl) T.z_int (by decide +kernel) ha)) (me_int)) (ma_nil)) (fun _ _ _ hm ho ha => pe_bm PySem.F.plainAttrs_list PySem.F.slot_list_append PySem.F.type_list_append hm ho ha))))) (fun _ _ _ h1 h2 h3 => ps_for po B.calm h1 h2 h3))
    (mb_one (ms_ret (me_op (om_add B.K) (me_v 3) (me_v 0))))))
set_option linter.unusedVariables false in
theorem ok_14 {j fu : Nat} {c : Nat → FM} (hj : 2 ≤ j) (hnd : base.NoDigits) (T : TX K mg a d A ai_Malformed di_Malformed) (ih : ∀ i, FnG P w K mg base j (a i) (d i) (psOf i) (spM (gk K A) (psOf i).length (c i))) : FnG P w K mg base (j + 2) (a 14) (d 14) (psOf 14) (spM (gk K A) (psOf 14).length (defM 2 (b_14 fu c))) := by
  refine fn_ok (k := gk K A) T.f_14 sc_14 (fun cdv AA outer s H E B => ?_)
  have nd := sc_14.nd
  have po := passes_of (X := cxOf (L2.CX P w) P w K mg base N_14 (Str.ofString "_law_pick") (defScope s_14) (a 14) cdv AA outer s H E) rfl
  exact mb_one (ms_ret (me_ix B.K (me_v 1) (me_op om_mod (me_cb (cm_int) (ma_cons (me_call (dus := []) (dvs := []) (dds := []) B (ih 12) (by rfl) T.g_12 T.k_12 T.b_12 .nil repL_nil (ma_cons (me_v 0) (ma_nil))) (ma_nil)) (fun _ _ hc ha => pe_callTy hc (by rfl) T.z_int (by decide +kernel) ha)) (me_cb (cm_len B.K) (ma_cons (me_v 1) (ma_nil)) (fun _ _ hc ha => pe_callB hc (by rfl) T.z_len (by decide +kernel) ha))) (fun _ _ => rfl)))
set_option linter.unusedVariables false in
theorem ok_15 {j fu : Nat} {c : Nat → FM} (hj : 2 ≤ j) (hnd : base.NoDigits) (T : TX K mg a d A ai_Malformed di_Malformed) (ih : ∀ i, FnG P w K mg base j (a i) (d i) (psOf i) (spM (gk K A) (psOf i).length (c i))) : FnG P w K mg base (j + 2) (a 15) (d 15) (psOf 15) (spM (gk K A) (psOf 15).length (defM 5 (b_15 fu c))) := by
  refine fn_ok (k := gk K A) T.f_15 sc_15 (fun cdv AA outer s H E B => ?_)
  have nd := sc_15.nd
  have po := passes_of (X := cxOf (L2.CX P w) P w K mg base N_15 (Str.ofString "_law_term") (defScope s_15) (a 15) cdv AA outer s H E) rfl
  exact mb_cons (ms_set (i := 2) nd rfl (Or.inl rfl) (me_op om_mod (me_cb (cm_int) (ma_cons (me_call (dus := []) (dvs := []) (dds := []) B (ih 12) (by rfl) T.g_12 T.k_12 T.b_12 .nil repL_nil (ma_cons (me_v 0) (ma_nil))) (ma_nil)) (fun _ _ hc ha => pe_callTy hc (by rfl) T.z_int (by decide +kernel) ha)) (me_if (mt_cmp om_ltX (me_v 1) (me_int) (nomark _)) (me_int) (me_int))))
    (mb_cons (ms_if (mt_cmp (om_eq B) (me_v 2) (me_int) (nomark _)) (mb_cons (ms_set (i := 3) nd rfl (Or.inl rfl) (me_gc (me_bm (T := "str") B.K (bm_join B.K) (me_str) (ma_cons (me_lcx (own := [((Str.ofString "k"), 4)]) (t := gName 4) B rfl rfl nd (mi_range1 (by rfl) T.z_range (ma_cons (me_op om_mod (me_cb (cm_int) (ma_cons (me_call (dus := []) (dvs := []) (dds := []) B (ih 12) (by rfl) T.g_12 T.k_12 T.b_12 .nil repL_nil (ma_cons (me_v 0) (ma_nil))) (ma_nil)) (fun _ _ hc ha => pe_callTy hc (by rfl) T.z_int (by decide +kernel) ha)) (me_int)) (ma_nil))) (blkOk_by (own := [((Str.ofString "k"), 4)]) (N := N_15) (sc := defScope s_15) (by decide +kernel)) (gs_name) (mog_name) (inw_name (by decide)) (calm_name) (fun _ _ _ _ _ => pg_name (i := 4) nd rfl (Or.inl rfl)) (fun _ _ _ _ _ _ B => mts_nil) (fun _ _ _ _ _ _ B => me_ix B.K (me_str) (me_op om_mod (me_cb (cm_int) (ma_cons (me_call (dus := []) (dvs := []) (dds := []) B (ih 12) (by rfl) T.g_12 T.k_12 T.b_12 .nil repL_nil (ma_cons (me_v 0) (ma_nil))) (ma_nil)) (fun _ _ hc ha => pe_callTy hc (by rfl) T.z_int (by decide +kernel) ha)) (me_int)) (fun _ _ => rfl))) (ma_nil)) (fun _ _ _ hm ho ha => pe_bm PySem.F.plainAttrs_str PySem.F.slot_str_join PySem.F.type_str_join hm ho ha))))
    (mb_one (ms_ret (me_if (mt_cmp (om_eq B) (me_v 3) (me_str) (nomark _)) (me_str) (me_v 3))))) (mb_nil))
    (mb_cons (ms_if (mt_cmp (om_eq B) (me_v 2) (me_int) (nomark _)) (mb_one (ms_ret (me_call (dus := []) (dvs := []) (dds := []) B (ih 14) (by rfl) T.g_14 T.k_14 T.b_14 .nil repL_nil (ma_cons (me_v 0) (ma_cons (me_lst (ma_cons (me_non) (ma_cons (me_int) (ma_cons (me_neg (me_int)) (ma_cons (me_op om_pow (me_int) (me_int)) (ma_cons (me_op (om_add B.K) (me_op om_sub (me_int) (me_op om_pow (me_int) (me_int))) (me_int)) (ma_nil))))))) (ma_nil)))))) (mb_nil))
    (mb_cons (ms_if (mt_cmp om_ltX (me_v 2) (me_int) (nomark _)) (mb_one (ms_ret (me_op om_sub (me_cb (cm_int) (ma_cons (me_call (dus := []) (dvs := []) (dds := []) B (ih 12) (by rfl) T.g_12 T.k_12 T.b_12 .nil repL_nil (ma_cons (me_v 0) (ma_nil))) (ma_nil)) (fun _ _ hc ha => pe_callTy hc (by rfl) T.z_int (by decide +kernel) ha)) (me_op (om_mul B.K) (me_int) (me_op om_mod (me_cb (cm_int) (ma_cons (me_call (dus := []) (dvs := []) (dds := []) B (ih 12) (by rfl) T.g_12 T.k_12 T.b_12 .nil repL_nil (ma_cons (me_v 0) (ma_nil))) (ma_nil)) (fun _ _ hc ha => pe_callTy hc (by rfl) T.z_int (by decide +kernel) ha)) (me_int)))))) (mb_nil))
    (mb_one (ms_ret (me_gc (me_cb (cm_tuple B.K) (ma_cons (me_lcx (own := [((Str.ofString "k"), 4)]) (t := gName 4) B rfl rfl nd (mi_range1 (by rfl) T.z_range (ma_cons (me_op om_mod (me_cb (cm_int) (ma_cons (me_call (dus := []) (dvs := []) (dds := []) B (ih 12) (by rfl) T.g_12 T.k_12 T.b_12 .nil repL_nil (ma_cons (me_v 0) (ma_nil))) (ma_nil)) (fun _ _ hc ha => pe_callTy hc (by rfl) T.z_int (by decide +kernel) ha)) (me_int)) (ma_nil))) (blkOk_by (own := [((Str.ofString "k"), 4)]) (N := N_15) (sc := defScope s_15) (by decide +kernel)) (gs_name) (mog_name) (inw_name (by decide)) (calm_name) (fun _ _ _ _ _ => pg_name (i := 4) nd rfl (Or.inl rfl)) (fun _ _ _ _ _ _ B => mts_nil) (fun _ _ _ _ _ _ B => me_call (dus := []) (dvs := []) (dds := []) B (ih 15) (by rfl) T.g_15 T.k_15 T.b_15 .nil repL_nil (ma_cons (me_v 0) (ma_cons (me_op (om_add B.K) (me_v 1) (me_int)) (ma_nil))))) (ma_nil)) (fun _ _ hc ha => pe_callTy hc (by rfl) T.z_tuple (by decide +kernel) ha))))))))
set_option linter.unusedVariables false in
theorem ok_16 {j fu : Nat} {c : Nat → FM} (hj : 2 ≤ j) (hnd : base.NoDigits) (T : TX K mg a d A ai_Malformed di_Malformed) (ih : ∀ i, FnG P w K mg base j (a i) (d i) (psOf i) (spM (gk K A) (psOf i).length (c i))) : FnG P w K mg base (j + 2) (a 16) (d 16) (psOf 16) (spM (gk K A) (psOf 16).length (defM 2 (b_16 fu c))) := by
  refine fn_ok (k := gk K A) T.f_16 sc_16 (fun cdv AA outer s H E B => ?_)
  have nd := sc_16.nd
  have po := passes_of (X := cxOf (L2.CX P w) P w K mg base N_16 (Str.ofString "_law_text") (defScope s_16) (a 16) cdv AA outer s H E) rfl
  exact mb_cons (ms_if (mt_cmp om_is (me_v 0) (me_non) (nomark _)) (mb_one (ms_ret (me_str))) (mb_nil))
    (mb_cons (ms_if (mt_truth B.K (me_cb (cm_isi B.K) (ma_cons (me_v 0) (ma_cons (me_ty (n := "int") (by rfl) T.z_int (by decide +kernel)) (ma_nil))) (fun _ _ hc ha => pe_callB hc (by rfl) T.z_isinstance (by decide +kernel) ha)) (fun _ => rfl)) (mb_one (ms_ret (me_cb (cm_str B.calm hnd) (ma_cons (me_v 0) (ma_nil)) (fun _ _ hc ha => pe_callTy hc (by rfl) T.z_str (by decide +kernel) ha)))) (mb_nil))
    (mb_cons (ms_if (mt_truth B.K (me_cb (cm_isi B.K) (ma_cons (me_v 0) (ma_cons (me_ty (n := "str") (by rfl) T.z_str (by decide +kernel)) (ma_nil))) (fun _ _ hc ha => pe_callB hc (by rfl) T.z_isinstance (by decide +kernel) ha)) (fun _ => rfl)) (mb_one (ms_ret (me_if (mt_cmp (om_ne B) (me_v 0) (me_str) (nomark _)) (me_v 0) (me_str)))) (mb_nil))
    (mb_one (ms_ret (me_op (om_add B.K) (me_op (om_add B.K) (me_str) (me_gc (me_bm (T := "str") B.K (bm_join B.K) (me_str) (ma_cons (me_lcx (own := [((Str.ofString "entry"), 1)]) (t := gName 1) B rfl rfl nd (mi_any B.K (me_v 0)) (blkOk_by (own := [((Str.ofString "entry"), 1)]) (N := N_16) (sc := defScope s_16) (by decide +kernel)) (gs_name) (mog_name) (inw_name (by decide)) (calm_name) (fun _ _ _ _ _ => pg_name (i := 1) nd rfl (Or.inl rfl)) (fun _ _ _ _ _ _ B => mts_nil) (fun _ _ _ _ _ _ B => me_call (dus := []) (dvs := []) (dds := []) B (ih 16) (by rfl) T.g_16 T.k_16 T.b_16 .nil repL_nil (ma_cons (me_v 1) (ma_nil)))) (ma_nil)) (fun _ _ _ hm ho ha => pe_bm PySem.F.plainAttrs_str PySem.F.slot_str_join PySem.F.type_str_join hm ho ha)))) (me_str))))))
set_option linter.unusedVariables false in
theorem ok_17 {j fu : Nat} {c : Nat → FM} (hj : 2 ≤ j) (hnd : base.NoDigits) (T : TX K mg a d A ai_Malformed di_Malformed) (ih : ∀ i, FnG P w K mg base j (a i) (d i) (psOf i) (spM (gk K A) (psOf i).length (c i))) : FnG P w K mg base (j + 2) (a 17) (d 17) (psOf 17) (spM (gk K A) (psOf 17).length (defM 5 (b_17 fu c))) := by
  refine fn_ok (k := gk K A) T.f_17 sc_17 (fun cdv AA outer s H E B => ?_)
  have nd := sc_17.nd
  have po := passes_of (X := cxOf (L2.CX P w) P w K mg base N_17 (Str.ofString "_law_integer") (defScope s_17) (a 17) cdv AA outer s H E) rfl
  exact mb_cons (ms_set (i := 2) nd rfl (Or.inl rfl) (me_v 1))
    (mb_cons (ms_if (mt_cmp (om_eq B) (me_sl B.K (me_v 0) (mo_some (me_v 1)) (mo_some (me_op (om_add B.K) (me_v 1) (me_int)))) (me_str) (nomark _)) (mb_cons (ms_set (i := 1) nd rfl (Or.inl rfl) (me_op (om_add B.K) (me_v 1) (me_int)))
    (mb_one (ms_if (mt_cmp (om_eq B) (me_sl B.K (me_v 0) (mo_some (me_v 1)) (mo_some (me_op (om_add B.K) (me_v 1) (me_int)))) (me_str) (nomark _)) (mb_one (ms_ret (me_lst (ma_cons (me_str) (ma_cons (me_v 1) (ma_nil)))))) (mb_nil)))) (mb_nil))
    (mb_cons (ms_set (i := 3) nd rfl (Or.inl rfl) (me_v 1))
    (mb_cons (ms_for po B.calm (calm_name) (mi_range1 (by rfl) T.z_range (ma_cons (me_cb (cm_len B.K) (ma_cons (me_v 0) (ma_nil)) (fun _ _ hc ha => pe_callB hc (by rfl) T.z_len (by decide +kernel) ha)) (ma_nil))) (mg_name (i := 4) nd rfl (Or.inl rfl)) (mb_one (ms_if (MW.mt (mw_and (mt_cmp om_ltX (me_v 1) (me_cb (cm_len B.K) (ma_cons (me_v 0) (ma_nil)) (fun _ _ hc ha => pe_callB hc (by rfl) T.z_len (by decide +kernel) ha)) (nomark _)) (mw_and1 (mt_cmp (om_in B.K) (me_ix B.K (me_v 0) (me_v 1) (fun _ _ => rfl)) (me_str) (by rfl))))) (mb_one (ms_set (i := 1) nd rfl (Or.inl rfl) (me_op (om_add B.K) (me_v 1) (me_int)))) (mb_nil))) (fun _ _ _ h1 h2 h3 => ps_for po B.calm h1 h2 h3))
    (mb_cons (ms_if (mt_cmp (om_eq B) (me_v 1) (me_v 3) (nomark _)) (mb_one (ms_ret (me_lst (ma_cons (me_str) (ma_cons (me_v 1) (ma_nil)))))) (mb_nil))
    (mb_cons (ms_if (MW.mt (mw_and (mt_cmp (om_eq B) (me_ix B.K (me_v 0) (me_v 3) (fun _ _ => rfl)) (me_str) (nomark _)) (mw_and1 (mt_cmp om_gtX (me_v 1) (me_op (om_add B.K) (me_v 3) (me_int)) (nomark _))))) (mb_one (ms_ret (me_lst (ma_cons (me_str) (ma_cons (me_op (om_add B.K) (me_v 3) (me_int)) (ma_nil)))))) (mb_nil))
    (mb_cons (ms_if (mt_cmp om_gtX (me_op om_sub (me_v 1) (me_v 3)) (me_int) (nomark _)) (mb_one (ms_ret (me_lst (ma_cons (me_str) (ma_cons (me_op (om_add B.K) (me_v 3) (me_int)) (ma_nil)))))) (mb_nil))
    (mb_one (ms_ret (me_lst (ma_cons (me_cb (cm_int) (ma_cons (me_sl B.K (me_v 0) (mo_some (me_v 2)) (mo_some (me_v 1))) (ma_nil)) (fun _ _ hc ha => pe_callTy hc (by rfl) T.z_int (by decide +kernel) ha)) (ma_cons (me_v 1) (ma_nil))))))))))))
set_option linter.unusedVariables false in
theorem ok_18 {j fu : Nat} {c : Nat → FM} (hj : 2 ≤ j) (hnd : base.NoDigits) (T : TX K mg a d A ai_Malformed di_Malformed) (ih : ∀ i, FnG P w K mg base j (a i) (d i) (psOf i) (spM (gk K A) (psOf i).length (c i))) : FnG P w K mg base (j + 2) (a 18) (d 18) (psOf 18) (spM (gk K A) (psOf 18).length (defM 6 (b_18 fu c))) := by
  refine fn_ok (k := gk K A) T.f_18 sc_18 (fun cdv AA outer s H E B => ?_)
  have nd := sc_18.nd
  have po := passes_of (X := cxOf (L2.CX P w) P w K mg base N_18 (Str.ofString "_law_read") (defScope s_18) (a 18) cdv AA outer s H E) rfl
  exact mb_cons (ms_set (i := 3) nd rfl (Or.inl rfl) (me_sl B.K (me_v 0) (mo_some (me_v 1)) (mo_some (me_op (om_add B.K) (me_v 1) (me_int)))))
    (mb_cons (ms_if (mt_cmp (om_eq B) (me_v 3) (me_str) (nomark _)) (mb_cons (ms_if (mt_cmp (om_eq B) (me_v 2) (me_int) (nomark _)) (mb_one (ms_ret (me_lst (ma_cons (me_str) (ma_cons (me_v 1) (ma_nil)))))) (mb_nil))
    (mb_one (ms_ret (me_call (dus := []) (dvs := []) (dds := []) B (ih 19) (by rfl) T.g_19 T.k_19 T.b_19 .nil repL_nil (ma_cons (me_v 0) (ma_cons (me_op (om_add B.K) (me_v 1) (me_int)) (ma_cons (me_op (om_add B.K) (me_v 2) (me_int)) (ma_nil)))))))) (mb_nil))
    (mb_cons (ms_if (mt_cmp (om_eq B) (me_v 3) (me_str) (nomark _)) (mb_one (ms_ret (me_lst (ma_cons (me_str) (ma_cons (me_op (om_add B.K) (me_v 1) (me_int)) (ma_nil)))))) (mb_nil))
    (mb_cons (ms_if (MW.mt (mw_and (mt_cmp (om_ne B) (me_v 3) (me_str) (nomark _)) (mw_and1 (mt_cmp (om_in B.K) (me_v 3) (me_str) (by rfl))))) (mb_cons (ms_set (i := 4) nd rfl (Or.inl rfl) (me_v 1))
    (mb_cons (ms_for po B.calm (calm_name) (mi_range1 (by rfl) T.z_range (ma_cons (me_cb (cm_len B.K) (ma_cons (me_v 0) (ma_nil)) (fun _ _ hc ha => pe_callB hc (by rfl) T.z_len (by decide +kernel) ha)) (ma_nil))) (mg_name (i := 5) nd rfl (Or.inl rfl)) (mb_one (ms_if (MW.mt (mw_and (mt_cmp om_ltX (me_v 4) (me_cb (cm_len B.K) (ma_cons (me_v 0) (ma_nil)) (fun _ _ hc ha => pe_callB hc (by rfl) T.z_len (by decide +kernel) ha)) (nomark _)) (mw_and1 (mt_cmp (om_in B.K) (me_ix B.K (me_v 0) (me_v 4) (fun _ _ => rfl)) (me_str) (by rfl))))) (mb_one (ms_set (i := 4) nd rfl (Or.inl rfl) (me_op (om_add B.K) (me_v 4) (me_int)))) (mb_nil))) (fun _ _ _ h1 h2 h3 => ps_for po B.calm h1 h2 h3))
    (mb_one (ms_ret (me_lst (ma_cons (me_if (mt_cmp (om_eq B) (me_sl B.K (me_v 0) (mo_some (me_v 1)) (mo_some (me_v 4))) (me_str) (nomark _)) (me_non) (me_sl B.K (me_v 0) (mo_some (me_v 1)) (mo_some (me_v 4)))) (ma_cons (me_v 4) (ma_nil)))))))) (mb_nil))
    (mb_one (ms_ret (me_call (dus := []) (dvs := []) (dds := []) B (ih 17) (by rfl) T.g_17 T.k_17 T.b_17 .nil repL_nil (ma_cons (me_v 0) (ma_cons (me_v 1) (ma_nil)))))))))
set_option linter.unusedVariables false in
theorem ok_19 {j fu : Nat} {c : Nat → FM} (hj : 2 ≤ j) (hnd : base.NoDigits) (T : TX K mg a d A ai_Malformed di_Malformed) (ih : ∀ i, FnG P w K mg base j (a i) (d i) (psOf i) (spM (gk K A) (psOf i).length (c i))) : FnG P w K mg base (j + 2) (a 19) (d 19) (psOf 19) (spM (gk K A) (psOf 19).length (defM 7 (b_19 fu c))) := by
  refine fn_ok (k := gk K A) T.f_19 sc_19 (fun cdv AA outer s H E B => ?_)
  have nd := sc_19.nd
  have po := passes_of (X := cxOf (L2.CX P w) P w K mg base N_19 (Str.ofString "_law_entries") (defScope s_19) (a 19) cdv AA outer s H E) rfl
  exact mb_cons (ms_set (i := 3) nd rfl (Or.inl rfl) (me_lst (ma_nil)))
    (mb_cons (ms_for po B.calm (calm_name) (mi_range1 (by rfl) T.z_range (ma_cons (me_op (om_add B.K) (me_cb (cm_len B.K) (ma_cons (me_v 0) (ma_nil)) (fun _ _ hc ha => pe_callB hc (by rfl) T.z_len (by decide +kernel) ha)) (me_int)) (ma_nil))) (mg_name (i := 4) nd rfl (Or.inl rfl)) (mb_cons (ms_if (mt_cmp (om_eq B) (me_sl B.K (me_v 0) (mo_some (me_v 1)) (mo_some (me_op (om_add B.K) (me_v 1) (me_int)))) (me_str) (nomark _)) (mb_one (ms_ret (me_lst (ma_cons (me_cb (cm_tuple B.K) (ma_cons (me_v 3) (ma_nil)) (fun _ _ hc ha => pe_callTy hc (by rfl) T.z_tuple (by decide +kernel) ha)) (ma_cons (me_op (om_add B.K) (me_v 1) (me_int)) (ma_nil)))))) (mb_nil))
    (mb_cons (ms_if (mt_truth B.K (me_v 3) (fun _ => rfl)) (mb_cons (ms_if (mt_cmp (om_ne B) (me_sl B.K (me_v 0) (mo_some (me_v 1)) (mo_some (me_op (om_add B.K) (me_v 1) (me_int)))) (me_str) (nomark _)) (mb_one (ms_ret (me_lst (ma_cons (me_str) (ma_cons (me_v 1) (ma_nil)))))) (mb_nil))
    (mb_one (ms_set (i := 1) nd rfl (Or.inl rfl) (me_op (om_add B.K) (me_v 1) (me_int))))) (mb_nil))
    (mb_cons (ms_asg (me_call (dus := []) (dvs := []) (dds := []) B (ih 18) (by rfl) T.g_18 T.k_18 T.b_18 .nil repL_nil (ma_cons (me_v 0) (ma_cons (me_v 1) (ma_cons (me_v 2) (ma_nil))))) (mg_unp B.K (mgs_cons (mg_name (i := 5) nd rfl (Or.inl rfl)) (mgs_cons (mg_name (i := 6) nd rfl (Or.inl rfl)) (mgs_nil) (fun _ _ h1 h2 => pgs_cons h1 h2)) (fun _ _ h1 h2 => pgs_cons h1 h2)) (fun _ h => pg_unp B.calm h)) (fun _ _ h1 h2 => ps_asg h1 h2))
    (mb_cons (ms_if (MW.mt (mw_and (mt_cmp (om_eq B) (me_v 5) (me_str) (nomark _)) (mw_and1 (mt_truth B.K (me_cb (cm_isi B.K) (ma_cons (me_v 5) (ma_cons (me_ty (n := "str") (by rfl) T.z_str (by decide +kernel)) (ma_nil))) (fun _ _ hc ha => pe_callB hc (by rfl) T.z_isinstance (by decide +kernel) ha)) (fun _ => rfl))))) (mb_one (ms_ret (me_lst (ma_cons (me_v 5) (ma_cons (me_v 6) (ma_nil)))))) (mb_nil))
    (mb_cons (ms_expr (me_bm (T := "list") B.K bm_append (me_v 3) (ma_cons (me_v 5) (ma_nil)) (fun _ _ _ hm ho ha => pe_bm PySem.F.plainAttrs_list PySem.F.slot_list_append PySem.F.type_list_append hm ho ha)))
    (mb_one (ms_set (i := 1) nd rfl (Or.inl rfl) (me_v 6)))))))) (fun _ _ _ h1 h2 h3 => ps_for po B.calm h1 h2 h3))
    (mb_one (ms_ret (me_lst (ma_cons (me_str) (ma_cons (me_v 1) (ma_nil)))))))
set_option linter.unusedVariables false in
theorem ok_20 {j fu : Nat} {c : Nat → FM} (hj : 2 ≤ j) (hnd : base.NoDigits) (T : TX K mg a d A ai_Malformed di_Malformed) (ih : ∀ i, FnG P w K mg base j (a i) (d i) (psOf i) (spM (gk K A) (psOf i).length (c i))) : FnG P w K mg base (j + 2) (a 20) (d 20) (psOf 20) (spM (gk K A) (psOf 20).length (defM 3 (b_20 fu c))) := by
  refine fn_ok (k := gk K A) T.f_20 sc_20 (fun cdv AA outer s H E B => ?_)
  have nd := sc_20.nd
  have po := passes_of (X := cxOf (L2.CX P w) P w K mg base N_20 (Str.ofString "_law_due") (defScope s_20) (a 20) cdv AA outer s H E) rfl
  exact mb_cons (ms_asg (me_call (dus := []) (dvs := []) (dds := []) B (ih 18) (by rfl) T.g_18 T.k_18 T.b_18 .nil repL_nil (ma_cons (me_v 0) (ma_cons (me_int) (ma_cons (me_int) (ma_nil))))) (mg_unp B.K (mgs_cons (mg_name (i := 1) nd rfl (Or.inl rfl)) (mgs_cons (mg_name (i := 2) nd rfl (Or.inl rfl)) (mgs_nil) (fun _ _ h1 h2 => pgs_cons h1 h2)) (fun _ _ h1 h2 => pgs_cons h1 h2)) (fun _ h => pg_unp B.calm h)) (fun _ _ h1 h2 => ps_asg h1 h2))
    (mb_cons (ms_if (MW.mt (mw_and (mt_truth B.K (me_cb (cm_isi B.K) (ma_cons (me_v 1) (ma_cons (me_ty (n := "str") (by rfl) T.z_str (by decide +kernel)) (ma_nil))) (fun _ _ hc ha => pe_callB hc (by rfl) T.z_isinstance (by decide +kernel) ha)) (fun _ => rfl)) (mw_and1 (mt_cmp (om_eq B) (me_v 1) (me_str) (nomark _))))) (mb_one (ms_ret (me_lst (ma_cons (me_str) (ma_cons (me_v 2) (ma_nil)))))) (mb_nil))
    (mb_one (ms_ret (me_if (mt_cmp om_ltX (me_v 2) (me_cb (cm_len B.K) (ma_cons (me_v 0) (ma_nil)) (fun _ _ hc ha => pe_callB hc (by rfl) T.z_len (by decide +kernel) ha)) (nomark _)) (me_lst (ma_cons (me_str) (ma_cons (me_v 2) (ma_nil)))) (me_lst (ma_cons (me_str) (ma_cons (me_v 1) (ma_nil))))))))
set_option linter.unusedVariables false in
theorem ok_21 {j fu : Nat} {c : Nat → FM} (hj : 2 ≤ j) (hnd : base.NoDigits) (T : TX K mg a d A ai_Malformed di_Malformed) (ih : ∀ i, FnG P w K mg base j (a i) (d i) (psOf i) (spM (gk K A) (psOf i).length (c i))) : FnG P w K mg base (j + 2) (a 21) (d 21) (psOf 21) (spM (gk K A) (psOf 21).length (defM 2 (b_21 fu c))) := by
  refine fn_ok (k := gk K A) T.f_21 sc_21 (fun cdv AA outer s H E B => ?_)
  have nd := sc_21.nd
  have po := passes_of (X := cxOf (L2.CX P w) P w K mg base N_21 (Str.ofString "_law_told") (defScope s_21) (a 21) cdv AA outer s H E) rfl
  exact mb_one (ms_try (i := 1) B rfl rfl rfl nd rfl rfl ⟨rfl, by decide, Or.inl T.gc_Malformed⟩ T.bel_Malformed (fun _ _ _ B po => mb_one (ms_ret (me_lst (ma_cons (me_str) (ma_cons (me_call (dus := []) (dvs := []) (dds := []) B (ih 9) (by rfl) T.g_9 T.k_9 T.b_9 .nil repL_nil (ma_cons (me_v 0) (ma_nil))) (ma_nil)))))) (fun _ _ _ _ _ e z1 z2 => mb_one (ms_ret (me_lst (ma_cons (me_str) (ma_cons (me_exf ct_Malformed (pv 1) (fun ho => pe_exf T.xf_Malformed_at z1 z2 ho)) (ma_nil)))))))
set_option linter.unusedVariables false in
theorem ok_22 {j fu : Nat} {c : Nat → FM} (hj : 2 ≤ j) (hnd : base.NoDigits) (T : TX K mg a d A ai_Malformed di_Malformed) (ih : ∀ i, FnG P w K mg base j (a i) (d i) (psOf i) (spM (gk K A) (psOf i).length (c i))) : FnG P w K mg base (j + 2) (a 22) (d 22) (psOf 22) (spM (gk K A) (psOf 22).length (defM 1 (b_22 fu c))) := by
  refine fn_ok (k := gk K A) T.f_22 sc_22 (fun cdv AA outer s H E B => ?_)
  have nd := sc_22.nd
  have po := passes_of (X := cxOf (L2.CX P w) P w K mg base N_22 (Str.ofString "_law_refused") (defScope s_22) (a 22) cdv AA outer s H E) rfl
  exact mb_one (ms_tryO B rfl rfl rfl ⟨rfl, by decide, Or.inl T.gc_BadNumber⟩ T.bel_BadNumber (fun _ _ _ B po => mb_cons (ms_expr (me_call (dus := []) (dvs := []) (dds := []) B (ih 1) (by rfl) T.g_1 T.k_1 T.b_1 .nil repL_nil (ma_cons (me_v 0) (ma_nil))))
    (mb_one (ms_ret (me_bl)))) (fun _ _ _ _ _ e z1 z2 => mb_one (ms_ret (me_bl))))
set_option linter.unusedVariables false in
theorem ok_23 {j fu : Nat} {c : Nat → FM} (hj : 2 ≤ j) (hnd : base.NoDigits) (T : TX K mg a d A ai_Malformed di_Malformed) (ih : ∀ i, FnG P w K mg base j (a i) (d i) (psOf i) (spM (gk K A) (psOf i).length (c i))) : FnG P w K mg base (j + 2) (a 23) (d 23) (psOf 23) (spM (gk K A) (psOf 23).length (defM 14 (b_23 fu c))) := by
  refine fn_ok (k := gk K A) T.f_23 sc_23 (fun cdv AA outer s H E B => ?_)
  have nd := sc_23.nd
  have po := passes_of (X := cxOf (L2.CX P w) P w K mg base N_23 (Str.ofString "law") (defScope s_23) (a 23) cdv AA outer s H E) rfl
  exact mb_cons (ms_set (i := 1) nd rfl (Or.inl rfl) (me_call (dus := []) (dvs := []) (dds := []) B (ih 11) (by rfl) T.g_11 T.k_11 T.b_11 .nil repL_nil (ma_cons (me_v 0) (ma_nil))))
    (mb_cons (ms_set (i := 1) nd rfl (Or.inl rfl) (me_call (dus := []) (dvs := []) (dds := []) B (ih 13) (by rfl) T.g_13 T.k_13 T.b_13 .nil repL_nil (ma_cons (me_v 1) (ma_cons (me_int) (ma_nil)))))
    (mb_cons (ms_set (i := 2) nd rfl (Or.inl rfl) (me_tup (ma_cons (me_tup (ma_cons (me_int) (ma_cons (me_int) (ma_nil)))) (ma_cons (me_tup (ma_cons (me_int) (ma_cons (me_int) (ma_nil)))) (ma_nil)))))
    (mb_cons (ms_if (MW.mt (mw_or (mt_cmp (om_ne B) (me_call (dus := []) (dvs := []) (dds := []) B (ih 1) (by rfl) T.g_1 T.k_1 T.b_1 .nil repL_nil (ma_cons (me_v 2) (ma_nil))) (me_str) (nomark _)) (mw_or1 (mt_cmp (om_ne B) (me_cb (cm_repr B) (ma_cons (me_call (dus := []) (dvs := []) (dds := []) B (ih 9) (by rfl) T.g_9 T.k_9 T.b_9 .nil repL_nil (ma_cons (me_str) (ma_nil))) (ma_nil)) (fun _ _ hc ha => pe_callB hc (by rfl) T.z_repr (by decide +kernel) ha)) (me_cb (cm_repr B) (ma_cons (me_tup (ma_cons (me_str) (ma_cons (me_non) (ma_cons (me_tup (ma_cons (me_neg (me_int)) (ma_nil))) (ma_nil))))) (ma_nil)) (fun _ _ hc ha => pe_callB hc (by rfl) T.z_repr (by decide +kernel) ha)) (nomark _))))) (mb_one (ms_ret (me_bl))) (mb_nil))
    (mb_cons (ms_for po B.calm (calm_name) (mi_range1 (by rfl) T.z_range (ma_cons (me_int) (ma_nil))) (mg_name (i := 3) nd rfl (Or.inl rfl)) (mb_cons (ms_set (i := 4) nd rfl (Or.inl rfl) (me_call (dus := []) (dvs := []) (dds := []) B (ih 15) (by rfl) T.g_15 T.k_15 T.b_15 .nil repL_nil (ma_cons (me_v 1) (ma_cons (me_int) (ma_nil)))))
    (mb_cons (ms_set (i := 5) nd rfl (Or.inl rfl) (me_call (dus := []) (dvs := []) (dds := []) B (ih 16) (by rfl) T.g_16 T.k_16 T.b_16 .nil repL_nil (ma_cons (me_v 4) (ma_nil))))
    (mb_cons (ms_if (MW.mt (mw_or (mt_cmp (om_ne B) (me_call (dus := []) (dvs := []) (dds := []) B (ih 1) (by rfl) T.g_1 T.k_1 T.b_1 .nil repL_nil (ma_cons (me_v 4) (ma_nil))) (me_v 5) (nomark _)) (mw_or1 (mt_cmp (om_ne B) (me_gc (me_cb (cm_repr B) (ma_cons (me_call (dus := []) (dvs := []) (dds := []) B (ih 21) (by rfl) T.g_21 T.k_21 T.b_21 .nil repL_nil (ma_cons (me_v 5) (ma_nil))) (ma_nil)) (fun _ _ hc ha => pe_callB hc (by rfl) T.z_repr (by decide +kernel) ha))) (me_gc (me_cb (cm_repr B) (ma_cons (me_lst (ma_cons (me_str) (ma_cons (me_v 4) (ma_nil)))) (ma_nil)) (fun _ _ hc ha => pe_callB hc (by rfl) T.z_repr (by decide +kernel) ha))) (nomark _))))) (mb_one (ms_ret (me_bl))) (mb_nil))
    (mb_cons (ms_if (MW.mt (mw_and (mt_truth B.K (me_cb (cm_isi B.K) (ma_cons (me_v 4) (ma_cons (me_ty (n := "tuple") (by rfl) T.z_tuple (by decide +kernel)) (ma_nil))) (fun _ _ hc ha => pe_callB hc (by rfl) T.z_isinstance (by decide +kernel) ha)) (fun _ => rfl)) (mw_and1 (mt_cmp (om_ne B) (me_call (dus := []) (dvs := []) (dds := []) B (ih 1) (by rfl) T.g_1 T.k_1 T.b_1 .nil repL_nil (ma_cons (me_cb (cm_list B.K) (ma_cons (me_v 4) (ma_nil)) (fun _ _ hc ha => pe_callTy hc (by rfl) T.z_list (by decide +kernel) ha)) (ma_nil))) (me_v 5) (nomark _))))) (mb_one (ms_ret (me_bl))) (mb_nil))
    (mb_one (ms_for po B.calm (calm_name) (mi_range1 (by rfl) T.z_range (ma_cons (me_int) (ma_nil))) (mg_name (i := 6) nd rfl (Or.inl rfl)) (mb_cons (ms_set (i := 7) nd rfl (Or.inl rfl) (me_op om_mod (me_cb (cm_int) (ma_cons (me_call (dus := []) (dvs := []) (dds := []) B (ih 12) (by rfl) T.g_12 T.k_12 T.b_12 .nil repL_nil (ma_cons (me_v 1) (ma_nil))) (ma_nil)) (fun _ _ hc ha => pe_callTy hc (by rfl) T.z_int (by decide +kernel) ha)) (me_op (om_add B.K) (me_cb (cm_len B.K) (ma_cons (me_v 5) (ma_nil)) (fun _ _ hc ha => pe_callB hc (by rfl) T.z_len (by decide +kernel) ha)) (me_int))))
    (mb_cons (ms_set (i := 8) nd rfl (Or.inl rfl) (me_op om_mod (me_cb (cm_int) (ma_cons (me_call (dus := []) (dvs := []) (dds := []) B (ih 12) (by rfl) T.g_12 T.k_12 T.b_12 .nil repL_nil (ma_cons (me_v 1) (ma_nil))) (ma_nil)) (fun _ _ hc ha => pe_callTy hc (by rfl) T.z_int (by decide +kernel) ha)) (me_int)))
    (mb_cons (ms_set (i := 9) nd rfl (Or.inl rfl) (me_call (dus := []) (dvs := []) (dds := []) B (ih 14) (by rfl) T.g_14 T.k_14 T.b_14 .nil repL_nil (ma_cons (me_v 1) (ma_cons (me_lst (ma_cons (me_str) (ma_cons (me_str) (ma_cons (me_str) (ma_cons (me_str) (ma_cons (me_str) (ma_cons (me_str) (ma_cons (me_str) (ma_cons (me_str) (ma_cons (me_str) (ma_cons (me_str) (ma_cons (me_str) (ma_cons (me_str) (ma_nil)))))))))))))) (ma_nil)))))
    (mb_cons (ms_set (i := 10) nd rfl (Or.inl rfl) (me_op (om_add B.K) (me_op (om_add B.K) (me_sl B.K (me_v 5) (mo_none) (mo_some (me_v 7))) (me_v 9)) (me_sl B.K (me_v 5) (mo_some (me_op (om_add B.K) (me_v 7) (me_v 8))) (mo_none))))
    (mb_one (ms_if (MW.mt (mw_and (mt_cmp (om_notin B.K) (me_str) (me_v 10) (by rfl)) (mw_and1 (mt_cmp (om_ne B) (me_gc (me_cb (cm_repr B) (ma_cons (me_call (dus := []) (dvs := []) (dds := []) B (ih 21) (by rfl) T.g_21 T.k_21 T.b_21 .nil repL_nil (ma_cons (me_v 10) (ma_nil))) (ma_nil)) (fun _ _ hc ha => pe_callB hc (by rfl) T.z_repr (by decide +kernel) ha))) (me_gc (me_cb (cm_repr B) (ma_cons (me_call (dus := []) (dvs := []) (dds := []) B (ih 20) (by rfl) T.g_20 T.k_20 T.b_20 .nil repL_nil (ma_cons (me_v 10) (ma_nil))) (ma_nil)) (fun _ _ hc ha => pe_callB hc (by rfl) T.z_repr (by decide +kernel) ha))) (nomark _))))) (mb_one (ms_ret (me_bl))) (mb_nil))))))) (fun _ _ _ h1 h2 h3 => ps_for po B.calm h1 h2 h3))))))) (fun _ _ _ h1 h2 h3 => ps_for po B.calm h1 h2 h3))
    (mb_cons (ms_set (i := 11) nd rfl (Or.inl rfl) (me_op (om_add B.K) (me_op (om_add B.K) (me_op (om_mul B.K) (me_str) (me_int)) (me_str)) (me_op (om_mul B.K) (me_str) (me_int))))
    (mb_cons (ms_set (i := 12) nd rfl (Or.inl rfl) (me_lst (ma_cons (me_str) (ma_cons (me_str) (ma_cons (me_str) (ma_cons (me_str) (ma_cons (me_str) (ma_cons (me_str) (ma_cons (me_str) (ma_cons (me_str) (ma_cons (me_str) (ma_cons (me_str) (ma_cons (me_str) (ma_cons (me_str) (ma_cons (me_op (om_mul B.K) (me_str) (me_int)) (ma_cons (me_op (om_mul B.K) (me_str) (me_int)) (ma_cons (me_op (om_add B.K) (me_str) (me_op (om_mul B.K) (me_str) (me_int))) (ma_cons (me_v 11) (ma_cons (me_op (om_add B.K) (me_op (om_add B.K) (me_str) (me_v 11)) (me_str)) (ma_cons (me_str) (ma_cons (me_str) (ma_cons (me_str) (ma_cons (me_str) (ma_nil))))))))))))))))))))))))
    (mb_cons (ms_set (i := 12) nd rfl (Or.inl rfl) (me_op (om_add B.K) (me_v 12) (me_lst (ma_cons (me_str) (ma_cons (me_str) (ma_cons (me_str) (ma_nil)))))))
    (mb_cons (ms_if (mt_cmp (om_ne B) (me_lcx (own := [((Str.ofString "text"), 5)]) (t := gName 5) B rfl rfl nd (mi_any B.K (me_v 12)) (blkOk_by (own := [((Str.ofString "text"), 5)]) (N := N_23) (sc := defScope s_23) (by decide +kernel)) (gs_name) (mog_name) (inw_name (by decide)) (calm_name) (fun _ _ _ _ _ => pg_name (i := 5) nd rfl (Or.inl rfl)) (fun _ _ _ _ _ _ B => mts_nil) (fun _ _ _ _ _ _ B => me_gc (me_cb (cm_repr B) (ma_cons (me_call (dus := []) (dvs := []) (dds := []) B (ih 21) (by rfl) T.g_21 T.k_21 T.b_21 .nil repL_nil (ma_cons (me_v 5) (ma_nil))) (ma_nil)) (fun _ _ hc ha => pe_callB hc (by rfl) T.z_repr (by decide +kernel) ha)))) (me_lcx (own := [((Str.ofString "text"), 5)]) (t := gName 5) B rfl rfl nd (mi_any B.K (me_v 12)) (blkOk_by (own := [((Str.ofString "text"), 5)]) (N := N_23) (sc := defScope s_23) (by decide +kernel)) (gs_name) (mog_name) (inw_name (by decide)) (calm_name) (fun _ _ _ _ _ => pg_name (i := 5) nd rfl (Or.inl rfl)) (fun _ _ _ _ _ _ B => mts_nil) (fun _ _ _ _ _ _ B => me_gc (me_cb (cm_repr B) (ma_cons (me_call (dus := []) (dvs := []) (dds := []) B (ih 20) (by rfl) T.g_20 T.k_20 T.b_20 .nil repL_nil (ma_cons (me_v 5) (ma_nil))) (ma_nil)) (fun _ _ hc ha => pe_callB hc (by rfl) T.z_repr (by decide +kernel) ha)))) (nomark _)) (mb_one (ms_ret (me_bl))) (mb_nil))
    (mb_cons (ms_set (i := 13) nd rfl (Or.inl rfl) (me_int))
    (mb_cons (ms_for po B.calm (calm_name) (mi_range1 (by rfl) T.z_range (ma_cons (me_int) (ma_nil))) (mg_name (i := 3) nd rfl (Or.inl rfl)) (mb_one (ms_set (i := 13) nd rfl (Or.inl rfl) (me_op (om_mul B.K) (me_int) (me_v 13)))) (fun _ _ _ h1 h2 h3 => ps_for po B.calm h1 h2 h3))
    (mb_cons (ms_if (MW.mt (mw_or (mt_cmp (om_ne B) (me_call (dus := []) (dvs := []) (dds := []) B (ih 1) (by rfl) T.g_1 T.k_1 T.b_1 .nil repL_nil (ma_cons (me_op om_sub (me_v 13) (me_int)) (ma_nil))) (me_op (om_mul B.K) (me_str) (me_int)) (nomark _)) (mw_or (mt_cmp (om_ne B) (me_call (dus := []) (dvs := []) (dds := []) B (ih 1) (by rfl) T.g_1 T.k_1 T.b_1 .nil repL_nil (ma_cons (me_op om_sub (me_int) (me_v 13)) (ma_nil))) (me_op (om_add B.K) (me_str) (me_op (om_mul B.K) (me_str) (me_int))) (nomark _)) (mw_or1 (mt_not (mt_truth B.K (me_call (dus := []) (dvs := []) (dds := []) B (ih 22) (by rfl) T.g_22 T.k_22 T.b_22 .nil repL_nil (ma_cons (me_v 13) (ma_nil))) (fun _ => rfl))))))) (mb_one (ms_ret (me_bl))) (mb_nil))
    (mb_one (ms_ret (me_cmp (om_eq B) (me_lcx (own := [((Str.ofString "term"), 4)]) (t := gName 4) B rfl rfl nd (mi_any B.K (me_lst (ma_cons (me_str) (ma_cons (me_str) (ma_cons (me_str) (ma_cons (me_tup (ma_cons (me_str) (ma_cons (me_str) (ma_nil)))) (ma_cons (me_tup (ma_cons (me_tup (ma_cons (me_str) (ma_nil))) (ma_nil))) (ma_nil)))))))) (blkOk_by (own := [((Str.ofString "term"), 4)]) (N := N_23) (sc := defScope s_23) (by decide +kernel)) (gs_name) (mog_name) (inw_name (by decide)) (calm_name) (fun _ _ _ _ _ => pg_name (i := 4) nd rfl (Or.inl rfl)) (fun _ _ _ _ _ _ B => mts_nil) (fun _ _ _ _ _ _ B => me_call (dus := []) (dvs := []) (dds := []) B (ih 22) (by rfl) T.g_22 T.k_22 T.b_22 .nil repL_nil (ma_cons (me_v 4) (ma_nil)))) (me_op (om_mul B.K) (me_lst (ma_cons (me_bl) (ma_nil))) (me_int)) (nomark _)))))))))))))))
end
end K20
end SK20B
section SK20C
set_option Elab.async false
set_option linter.all false
set_option maxRecDepth 100000
set_option maxHeartbeats 4000000
namespace K20
open PySem L2 MI PyProof.Rows
theorem hf_0 {K : PySem.W.Frag} {x : Addr} {od an : Option Addr} {sl : Array (Option Value)} {oc kV dc pm cd ct : Value} (g : PySem.W.nsIn K mainGlobals (Str.ofString "has_text") = some (some (.ref x))) (l : K.lookup x = some ⟨oc, od, .func (PySem.W.fnOf (Str.ofString "has_text") (Str.ofString "has_text") (defArgs s_0) (defBody s_0) (defScope s_0) .none kV dc pm an cd ct), sl⟩) (c : PySem.W.codeIn K cd (Str.ofString "has_text") = true) (k : PySem.W.keepIn K (.ref x) = true) : ∃ (x : Addr) (fd : FuncData), PySem.W.nsIn K mainGlobals (Str.ofString "has_text") = some (some (.ref x)) ∧ PySem.W.keepIn K (.ref x) = true ∧ Fun K (Str.ofString "has_text") (Str.ofString "has_text") s_0 x fd ∧ Binds K fd (psOf 0) [] :=
  ⟨_, _, g, k, fun_mk (st := s_0) l c k, (fun_mk (st := s_0) l c k).binds (ps := psOf 0) fun _ _ _ _ _ _ us hl => match us, hl with | [_], _ => rfl⟩
theorem hf_1 {K : PySem.W.Frag} {x : Addr} {od an : Option Addr} {sl : Array (Option Value)} {oc kV dc pm cd ct : Value} (g : PySem.W.nsIn K mainGlobals (Str.ofString "term_text") = some (some (.ref x))) (l : K.lookup x = some ⟨oc, od, .func (PySem.W.fnOf (Str.ofString "term_text") (Str.ofString "term_text") (defArgs s_1) (defBody s_1) (defScope s_1) .none kV dc pm an cd ct), sl⟩) (c : PySem.W.codeIn K cd (Str.ofString "term_text") = true) (k : PySem.W.keepIn K (.ref x) = true) : ∃ (x : Addr) (fd : FuncData), PySem.W.nsIn K mainGlobals (Str.ofString "term_text") = some (some (.ref x)) ∧ PySem.W.keepIn K (.ref x) = true ∧ Fun K (Str.ofString "term_text") (Str.ofString "term_text") s_1 x fd ∧ Binds K fd (psOf 1) [] :=
  ⟨_, _, g, k, fun_mk (st := s_1) l c k, (fun_mk (st := s_1) l c k).binds (ps := psOf 1) fun _ _ _ _ _ _ us hl => match us, hl with | [_], _ => rfl⟩
theorem hf_9 {K : PySem.W.Frag} {x : Addr} {od an : Option Addr} {sl : Array (Option Value)} {oc kV dc pm cd ct : Value} (g : PySem.W.nsIn K mainGlobals (Str.ofString "read_term") = some (some (.ref x))) (l : K.lookup x = some ⟨oc, od, .func (PySem.W.fnOf (Str.ofString "read_term") (Str.ofString "read_term") (defArgs s_9) (defBody s_9) (defScope s_9) .none kV dc pm an cd ct), sl⟩) (c : PySem.W.codeIn K cd (Str.ofString "read_term") = true) (k : PySem.W.keepIn K (.ref x) = true) : ∃ (x : Addr) (fd : FuncData), PySem.W.nsIn K mainGlobals (Str.ofString "read_term") = some (some (.ref x)) ∧ PySem.W.keepIn K (.ref x) = true ∧ Fun K (Str.ofString "read_term") (Str.ofString "read_term") s_9 x fd ∧ Binds K fd (psOf 9) [] :=
  ⟨_, _, g, k, fun_mk (st := s_9) l c k, (fun_mk (st := s_9) l c k).binds (ps := psOf 9) fun _ _ _ _ _ _ us hl => match us, hl with | [_], _ => rfl⟩
theorem hf_10 {K : PySem.W.Frag} {x : Addr} {od an : Option Addr} {sl : Array (Option Value)} {oc kV dc pm cd ct : Value} (g : PySem.W.nsIn K mainGlobals (Str.ofString "_law_number") = some (some (.ref x))) (l : K.lookup x = some ⟨oc, od, .func (PySem.W.fnOf (Str.ofString "_law_number") (Str.ofString "_law_number") (defArgs s_10) (defBody s_10) (defScope s_10) .none kV dc pm an cd ct), sl⟩) (c : PySem.W.codeIn K cd (Str.ofString "_law_number") = true) (k : PySem.W.keepIn K (.ref x) = true) : ∃ (x : Addr) (fd : FuncData), PySem.W.nsIn K mainGlobals (Str.ofString "_law_number") = some (some (.ref x)) ∧ PySem.W.keepIn K (.ref x) = true ∧ Fun K (Str.ofString "_law_number") (Str.ofString "_law_number") s_10 x fd ∧ Binds K fd (psOf 10) [] :=
  ⟨_, _, g, k, fun_mk (st := s_10) l c k, (fun_mk (st := s_10) l c k).binds (ps := psOf 10) fun _ _ _ _ _ _ us hl => match us, hl with | [_], _ => rfl⟩
theorem hf_11 {K : PySem.W.Frag} {x : Addr} {od an : Option Addr} {sl : Array (Option Value)} {oc kV dc pm cd ct : Value} (g : PySem.W.nsIn K mainGlobals (Str.ofString "_law_draws") = some (some (.ref x))) (l : K.lookup x = some ⟨oc, od, .func (PySem.W.fnOf (Str.ofString "_law_draws") (Str.ofString "_law_draws") (defArgs s_11) (defBody s_11) (defScope s_11) .none kV dc pm an cd ct), sl⟩) (c : PySem.W.codeIn K cd (Str.ofString "_law_draws") = true) (k : PySem.W.keepIn K (.ref x) = true) : ∃ (x : Addr) (fd : FuncData), PySem.W.nsIn K mainGlobals (Str.ofString "_law_draws") = some (some (.ref x)) ∧ PySem.W.keepIn K (.ref x) = true ∧ Fun K (Str.ofString "_law_draws") (Str.ofString "_law_draws") s_11 x fd ∧ Binds K fd (psOf 11) [] :=
  ⟨_, _, g, k, fun_mk (st := s_11) l c k, (fun_mk (st := s_11) l c k).binds (ps := psOf 11) fun _ _ _ _ _ _ us hl => match us, hl with | [_], _ => rfl⟩
theorem hf_12 {K : PySem.W.Frag} {x : Addr} {od an : Option Addr} {sl : Array (Option Value)} {oc kV dc pm cd ct : Value} (g : PySem.W.nsIn K mainGlobals (Str.ofString "_law_next") = some (some (.ref x))) (l : K.lookup x = some ⟨oc, od, .func (PySem.W.fnOf (Str.ofString "_law_next") (Str.ofString "_law_next") (defArgs s_12) (defBody s_12) (defScope s_12) .none kV dc pm an cd ct), sl⟩) (c : PySem.W.codeIn K cd (Str.ofString "_law_next") = true) (k : PySem.W.keepIn K (.ref x) = true) : ∃ (x : Addr) (fd : FuncData), PySem.W.nsIn K mainGlobals (Str.ofString "_law_next") = some (some (.ref x)) ∧ PySem.W.keepIn K (.ref x) = true ∧ Fun K (Str.ofString "_law_next") (Str.ofString "_law_next") s_12 x fd ∧ Binds K fd (psOf 12) [] :=
  ⟨_, _, g, k, fun_mk (st := s_12) l c k, (fun_mk (st := s_12) l c k).binds (ps := psOf 12) fun _ _ _ _ _ _ us hl => match us, hl with | [_], _ => rfl⟩
theorem hf_13 {K : PySem.W.Frag} {x : Addr} {od an : Option Addr} {sl : Array (Option Value)} {oc kV dc pm cd ct : Value} (g : PySem.W.nsIn K mainGlobals (Str.ofString "_law_more") = some (some (.ref x))) (l : K.lookup x = some ⟨oc, od, .func (PySem.W.fnOf (Str.ofString "_law_more") (Str.ofString "_law_more") (defArgs s_13) (defBody s_13) (defScope s_13) .none kV dc pm an cd ct), sl⟩) (c : PySem.W.codeIn K cd (Str.ofString "_law_more") = true) (k : PySem.W.keepIn K (.ref x) = true) : ∃ (x : Addr) (fd : FuncData), PySem.W.nsIn K mainGlobals (Str.ofString "_law_more") = some (some (.ref x)) ∧ PySem.W.keepIn K (.ref x) = true ∧ Fun K (Str.ofString "_law_more") (Str.ofString "_law_more") s_13 x fd ∧ Binds K fd (psOf 13) [] :=
  ⟨_, _, g, k, fun_mk (st := s_13) l c k, (fun_mk (st := s_13) l c k).binds (ps := psOf 13) fun _ _ _ _ _ _ us hl => match us, hl with | [_, _], _ => rfl⟩
theorem hf_14 {K : PySem.W.Frag} {x : Addr} {od an : Option Addr} {sl : Array (Option Value)} {oc kV dc pm cd ct : Value} (g : PySem.W.nsIn K mainGlobals (Str.ofString "_law_pick") = some (some (.ref x))) (l : K.lookup x = some ⟨oc, od, .func (PySem.W.fnOf (Str.ofString "_law_pick") (Str.ofString "_law_pick") (defArgs s_14) (defBody s_14) (defScope s_14) .none kV dc pm an cd ct), sl⟩) (c : PySem.W.codeIn K cd (Str.ofString "_law_pick") = true) (k : PySem.W.keepIn K (.ref x) = true) : ∃ (x : Addr) (fd : FuncData), PySem.W.nsIn K mainGlobals (Str.ofString "_law_pick") = some (some (.ref x)) ∧ PySem.W.keepIn K (.ref x) = true ∧ Fun K (Str.ofString "_law_pick") (Str.ofString "_law_pick") s_14 x fd ∧ Binds K fd (psOf 14) [] :=
  ⟨_, _, g, k, fun_mk (st := s_14) l c k, (fun_mk (st := s_14) l c k).binds (ps := psOf 14) fun _ _ _ _ _ _ us hl => match us, hl with | [_, _], _ => rfl⟩
theorem hf_15 {K : PySem.W.Frag} {x : Addr} {od an : Option Addr} {sl : Array (Option Value)} {oc kV dc pm cd ct : Value} (g : PySem.W.nsIn K mainGlobals (Str.ofString "_law_term") = some (some (.ref x))) (l : K.lookup x = some ⟨oc, od, .func (PySem.W.fnOf (Str.ofString "_law_term") (Str.ofString "_law_term") (defArgs s_15) (defBody s_15) (defScope s_15) .none kV dc pm an cd ct), sl⟩) (c : PySem.W.codeIn K cd (Str.ofString "_law_term") = true) (k : PySem.W.keepIn K (.ref x) = true) : ∃ (x : Addr) (fd : FuncData), PySem.W.nsIn K mainGlobals (Str.ofString "_law_term") = some (some (.ref x)) ∧ PySem.W.keepIn K (.ref x) = true ∧ Fun K (Str.ofString "_law_term") (Str.ofString "_law_term") s_15 x fd ∧ Binds K fd (psOf 15) [] :=
  ⟨_, _, g, k, fun_mk (st := s_15) l c k, (fun_mk (st := s_15) l c k).binds (ps := psOf 15) fun _ _ _ _ _ _ us hl => match us, hl with | [_, _], _ => rfl⟩
theorem hf_16 {K : PySem.W.Frag} {x : Addr} {od an : Option Addr} {sl : Array (Option Value)} {oc kV dc pm cd ct : Value} (g : PySem.W.nsIn K mainGlobals (Str.ofString "_law_text") = some (some (.ref x))) (l : K.lookup x = some ⟨oc, od, .func (PySem.W.fnOf (Str.ofString "_law_text") (Str.ofString "_law_text") (defArgs s_16) (defBody s_16) (defScope s_16) .none kV dc pm an cd ct), sl⟩) (c : PySem.W.codeIn K cd (Str.ofString "_law_text") = true) (k : PySem.W.keepIn K (.ref x) = true) : ∃ (x : Addr) (fd : FuncData), PySem.W.nsIn K mainGlobals (Str.ofString "_law_text") = some (some (.ref x)) ∧ PySem.W.keepIn K (.ref x) = true ∧ Fun K (Str.ofString "_law_text") (Str.ofString "_law_text") s_16 x fd ∧ Binds K fd (psOf 16) [] :=
  ⟨_, _, g, k, fun_mk (st := s_16) l c k, (fun_mk (st := s_16) l c k).binds (ps := psOf 16) fun _ _ _ _ _ _ us hl => match us, hl with | [_], _ => rfl⟩
theorem hf_17 {K : PySem.W.Frag} {x : Addr} {od an : Option Addr} {sl : Array (Option Value)} {oc kV dc pm cd ct : Value} (g : PySem.W.nsIn K mainGlobals (Str.ofString "_law_integer") = some (some (.ref x))) (l : K.lookup x = some ⟨oc, od, .func (PySem.W.fnOf (Str.ofString "_law_integer") (Str.ofString "_law_integer") (defArgs s_17) (defBody s_17) (defScope s_17) .none kV dc pm an cd ct), sl⟩) (c : PySem.W.codeIn K cd (Str.ofString "_law_integer") = true) (k : PySem.W.keepIn K (.ref x) = true) : ∃ (x : Addr) (fd : FuncData), PySem.W.nsIn K mainGlobals (Str.ofString "_law_integer") = some (some (.ref x)) ∧ PySem.W.keepIn K (.ref x) = true ∧ Fun K (Str.ofString "_law_integer") (Str.ofString "_law_integer") s_17 x fd ∧ Binds K fd (psOf 17) [] :=
  ⟨_, _, g, k, fun_mk (st := s_17) l c k, (fun_mk (st := s_17) l c k).binds (ps := psOf 17) fun _ _ _ _ _ _ us hl => match us, hl with | [_, _], _ => rfl⟩
theorem hf_18 {K : PySem.W.Frag} {x : Addr} {od an : Option Addr} {sl : Array (Option Value)} {oc kV dc pm cd ct : Value} (g : PySem.W.nsIn K mainGlobals (Str.ofString "_law_read") = some (some (.ref x))) (l : K.lookup x = some ⟨oc, od, .func (PySem.W.fnOf (Str.ofString "_law_read") (Str.ofString "_law_read") (defArgs s_18) (defBody s_18) (defScope s_18) .none kV dc pm an cd ct), sl⟩) (c : PySem.W.codeIn K cd (Str.ofString "_law_read") = true) (k : PySem.W.keepIn K (.ref x) = true) : ∃ (x : Addr) (fd : FuncData), PySem.W.nsIn K mainGlobals (Str.ofString "_law_read") = some (some (.ref x)) ∧ PySem.W.keepIn K (.ref x) = true ∧ Fun K (Str.ofString "_law_read") (Str.ofString "_law_read") s_18 x fd ∧ Binds K fd (psOf 18) [] :=
  ⟨_, _, g, k, fun_mk (st := s_18) l c k, (fun_mk (st := s_18) l c k).binds (ps := psOf 18) fun _ _ _ _ _ _ us hl => match us, hl with | [_, _, _], _ => rfl⟩
theorem hf_19 {K : PySem.W.Frag} {x : Addr} {od an : Option Addr} {sl : Array (Option Value)} {oc kV dc pm cd ct : Value} (g : PySem.W.nsIn K mainGlobals (Str.ofString "_law_entries") = some (some (.ref x))) (l : K.lookup x = some ⟨oc, od, .func (PySem.W.fnOf (Str.ofString "_law_entries") (Str.ofString "_law_entries") (defArgs s_19) (defBody s_19) (defScope s_19) .none kV dc pm an cd ct), sl⟩) (c : PySem.W.codeIn K cd (Str.ofString "_law_entries") = true) (k : PySem.W.keepIn K (.ref x) = true) : ∃ (x : Addr) (fd : FuncData), PySem.W.nsIn K mainGlobals (Str.ofString "_law_entries") = some (some (.ref x)) ∧ PySem.W.keepIn K (.ref x) = true ∧ Fun K (Str.ofString "_law_entries") (Str.ofString "_law_entries") s_19 x fd ∧ Binds K fd (psOf 19) [] :=
  ⟨_, _, g, k, fun_mk (st := s_19) l c k, (fun_mk (st := s_19) l c k).binds (ps := psOf 19) fun _ _ _ _ _ _ us hl => match us, hl with | [_, _, _], _ => rfl⟩
theorem hf_20 {K : PySem.W.Frag} {x : Addr} {od an : Option Addr} {sl : Array (Option Value)} {oc kV dc pm cd ct : Value} (g : PySem.W.nsIn K mainGlobals (Str.ofString "_law_due") = some (some (.ref x))) (l : K.lookup x = some ⟨oc, od, .func (PySem.W.fnOf (Str.ofString "_law_due") (Str.ofString "_law_due") (defArgs s_20) (defBody s_20) (defScope s_20) .none kV dc pm an cd ct), sl⟩) (c : PySem.W.codeIn K cd (Str.ofString "_law_due") = true) (k : PySem.W.keepIn K (.ref x) = true) : ∃ (x : Addr) (fd : FuncData), PySem.W.nsIn K mainGlobals (Str.ofString "_law_due") = some (some (.ref x)) ∧ PySem.W.keepIn K (.ref x) = true ∧ Fun K (Str.ofString "_law_due") (Str.ofString "_law_due") s_20 x fd ∧ Binds K fd (psOf 20) [] :=
  ⟨_, _, g, k, fun_mk (st := s_20) l c k, (fun_mk (st := s_20) l c k).binds (ps := psOf 20) fun _ _ _ _ _ _ us hl => match us, hl with | [_], _ => rfl⟩
theorem hf_21 {K : PySem.W.Frag} {x : Addr} {od an : Option Addr} {sl : Array (Option Value)} {oc kV dc pm cd ct : Value} (g : PySem.W.nsIn K mainGlobals (Str.ofString "_law_told") = some (some (.ref x))) (l : K.lookup x = some ⟨oc, od, .func (PySem.W.fnOf (Str.ofString "_law_told") (Str.ofString "_law_told") (defArgs s_21) (defBody s_21) (defScope s_21) .none kV dc pm an cd ct), sl⟩) (c : PySem.W.codeIn K cd (Str.ofString "_law_told") = true) (k : PySem.W.keepIn K (.ref x) = true) : ∃ (x : Addr) (fd : FuncData), PySem.W.nsIn K mainGlobals (Str.ofString "_law_told") = some (some (.ref x)) ∧ PySem.W.keepIn K (.ref x) = true ∧ Fun K (Str.ofString "_law_told") (Str.ofString "_law_told") s_21 x fd ∧ Binds K fd (psOf 21) [] :=
  ⟨_, _, g, k, fun_mk (st := s_21) l c k, (fun_mk (st := s_21) l c k).binds (ps := psOf 21) fun _ _ _ _ _ _ us hl => match us, hl with | [_], _ => rfl⟩
theorem hf_22 {K : PySem.W.Frag} {x : Addr} {od an : Option Addr} {sl : Array (Option Value)} {oc kV dc pm cd ct : Value} (g : PySem.W.nsIn K mainGlobals (Str.ofString "_law_refused") = some (some (.ref x))) (l : K.lookup x = some ⟨oc, od, .func (PySem.W.fnOf (Str.ofString "_law_refused") (Str.ofString "_law_refused") (defArgs s_22) (defBody s_22) (defScope s_22) .none kV dc pm an cd ct), sl⟩) (c : PySem.W.codeIn K cd (Str.ofString "_law_refused") = true) (k : PySem.W.keepIn K (.ref x) = true) : ∃ (x : Addr) (fd : FuncData), PySem.W.nsIn K mainGlobals (Str.ofString "_law_refused") = some (some (.ref x)) ∧ PySem.W.keepIn K (.ref x) = true ∧ Fun K (Str.ofString "_law_refused") (Str.ofString "_law_refused") s_22 x fd ∧ Binds K fd (psOf 22) [] :=
  ⟨_, _, g, k, fun_mk (st := s_22) l c k, (fun_mk (st := s_22) l c k).binds (ps := psOf 22) fun _ _ _ _ _ _ us hl => match us, hl with | [_], _ => rfl⟩
theorem hf_23 {K : PySem.W.Frag} {x : Addr} {od an : Option Addr} {sl : Array (Option Value)} {oc kV dc pm cd ct : Value} (g : PySem.W.nsIn K mainGlobals (Str.ofString "law") = some (some (.ref x))) (l : K.lookup x = some ⟨oc, od, .func (PySem.W.fnOf (Str.ofString "law") (Str.ofString "law") (defArgs s_23) (defBody s_23) (defScope s_23) .none kV dc pm an cd ct), sl⟩) (c : PySem.W.codeIn K cd (Str.ofString "law") = true) (k : PySem.W.keepIn K (.ref x) = true) : ∃ (x : Addr) (fd : FuncData), PySem.W.nsIn K mainGlobals (Str.ofString "law") = some (some (.ref x)) ∧ PySem.W.keepIn K (.ref x) = true ∧ Fun K (Str.ofString "law") (Str.ofString "law") s_23 x fd ∧ Binds K fd (psOf 23) [] ∧ ∀ (s : Shared) (u : Value), BindsTo s fd ⟨[u], []⟩ [((Str.ofString "script"), u)] :=
  ⟨_, _, g, k, fun_mk (st := s_23) l c k, (fun_mk (st := s_23) l c k).binds (ps := psOf 23) fun _ _ _ _ _ _ us hl => match us, hl with | [_], _ => rfl, fun _ _ => .of_eq rfl⟩
theorem hc_FIGURES {K : PySem.W.Frag} {t : Tok} (g : PySem.W.nsIn K mainGlobals (Str.ofString "FIGURES") = some (some (.str (Str.ofString "0123456789") t))) : ∃ u, PySem.W.nsIn K mainGlobals (Str.ofString "FIGURES") = some (some u) ∧ RelV (V.str (Str.ofString "0123456789")) u := ⟨_, g, ⟨_, rfl⟩⟩
theorem hc_MOST_BITS {K : PySem.W.Frag} {t : Tok} (g : PySem.W.nsIn K mainGlobals (Str.ofString "MOST_BITS") = some (some (.int 13287 t))) : ∃ u, PySem.W.nsIn K mainGlobals (Str.ofString "MOST_BITS") = some (some u) ∧ RelV (V.int 13287) u := ⟨_, g, ⟨_, rfl⟩⟩
theorem hc_MOST_FIGURES {K : PySem.W.Frag} {t : Tok} (g : PySem.W.nsIn K mainGlobals (Str.ofString "MOST_FIGURES") = some (some (.int 20 t))) : ∃ u, PySem.W.nsIn K mainGlobals (Str.ofString "MOST_FIGURES") = some (some u) ∧ RelV (V.int 20) u := ⟨_, g, ⟨_, rfl⟩⟩
theorem hc_MOST_OPEN {K : PySem.W.Frag} {t : Tok} (g : PySem.W.nsIn K mainGlobals (Str.ofString "MOST_OPEN") = some (some (.int 12 t))) : ∃ u, PySem.W.nsIn K mainGlobals (Str.ofString "MOST_OPEN") = some (some u) ∧ RelV (V.int 12) u := ⟨_, g, ⟨_, rfl⟩⟩
theorem hc_MOST_TEXT {K : PySem.W.Frag} {t : Tok} (g : PySem.W.nsIn K mainGlobals (Str.ofString "MOST_TEXT") = some (some (.int 4000 t))) : ∃ u, PySem.W.nsIn K mainGlobals (Str.ofString "MOST_TEXT") = some (some u) ∧ RelV (V.int 4000) u := ⟨_, g, ⟨_, rfl⟩⟩
theorem hc_NOBODY {K : PySem.W.Frag} {t : Tok} (g : PySem.W.nsIn K mainGlobals (Str.ofString "NOBODY") = some (some (.str (Str.ofString ".") t))) : ∃ u, PySem.W.nsIn K mainGlobals (Str.ofString "NOBODY") = some (some u) ∧ RelV (V.str (Str.ofString ".")) u := ⟨_, g, ⟨_, rfl⟩⟩
theorem hc_NOTHING {K : PySem.W.Frag} {t : Tok} (g : PySem.W.nsIn K mainGlobals (Str.ofString "NOTHING") = some (some (.str (Str.ofString "none") t))) : ∃ u, PySem.W.nsIn K mainGlobals (Str.ofString "NOTHING") = some (some u) ∧ RelV (V.str (Str.ofString "none")) u := ⟨_, g, ⟨_, rfl⟩⟩
theorem hc_SMALL {K : PySem.W.Frag} {t : Tok} (g : PySem.W.nsIn K mainGlobals (Str.ofString "SMALL") = some (some (.str (Str.ofString "abcdefghijklmnopqrstuvwxyz") t))) : ∃ u, PySem.W.nsIn K mainGlobals (Str.ofString "SMALL") = some (some u) ∧ RelV (V.str (Str.ofString "abcdefghijklmnopqrstuvwxyz")) u := ⟨_, g, ⟨_, rfl⟩⟩
theorem exm_of {K : PySem.W.Frag} {C C' : Addr} {b : Bool} (h1 : PySem.W.subIn K (.ref C) (.type "BaseException") = some true) (h2 : PySem.W.isClsIn K C = true) (h3 : PySem.W.typeIn K (.ref C) = some (.type "type")) (h4 : PySem.W.subIn K (.ref C') (.ref C) = some b) : PySem.W.exmOne K (.ref C') (.ref C) = some b := by
  have e1 : (PySem.W.subIn K (.ref C) (.type "BaseException") == some true) = true := by rw [h1] <;> rfl
  have e2 : ((PySem.W.clsIn K C).isSome && PySem.W.typeIn K (.ref C) == some (.type "type")) = true := by
    have q : (PySem.W.clsIn K C).isSome = true := h2
    rw [q, h3] <;> rfl
  show (if (PySem.W.subIn K (.ref C) (.type "BaseException") == some true) = true then (if ((PySem.W.clsIn K C).isSome && PySem.W.typeIn K (.ref C) == some (.type "type")) = true then PySem.W.subIn K (.ref C') (.ref C) else none) else none) = some b
  rw [if_pos e1, if_pos e2]
  exact h4
theorem all_ok {P : Program} {w : World} {K : PySem.W.Frag} {mg : Str → Option Value} {base : Heap} {a : Nat → Addr} {d : Nat → FuncData} {A : Nat → Addr} {ai_Malformed : Addr} {di_Malformed : FuncData} {fu : Nat} (hnd : base.NoDigits) (T : TX K mg a d A ai_Malformed di_Malformed) : ∀ k i, FnG P w K mg base (2 * k + 2) (a i) (d i) (psOf i) (spM (gk K A) (psOf i).length (run fu k i))
  | 0, _ => fng_bad
  | k + 1, 0 => ok_0 (j := 2 * k + 2) (by omega) hnd T (all_ok hnd T k)
  | k + 1, 1 => ok_1 (j := 2 * k + 2) (by omega) hnd T (all_ok hnd T k)
  | k + 1, 2 => ok_2 (j := 2 * k + 2) (by omega) hnd T (all_ok hnd T k)
  | k + 1, 3 => ok_3 (j := 2 * k + 2) (by omega) hnd T (all_ok hnd T k)
  | k + 1, 4 => ok_4 (j := 2 * k + 2) (by omega) hnd T (all_ok hnd T k)
  | k + 1, 5 => ok_5 (j := 2 * k + 2) (by omega) hnd T (all_ok hnd T k)
  | k + 1, 6 => ok_6 (j := 2 * k + 2) (by omega) hnd T (all_ok hnd T k)
  | k + 1, 7 => ok_7 (j := 2 * k + 2) (by omega) hnd T (all_ok hnd T k)
  | k + 1, 8 => ok_8 (j := 2 * k + 2) (by omega) hnd T (all_ok hnd T k)
  | k + 1, 9 => ok_9 (j := 2 * k + 2) (by omega) hnd T (all_ok hnd T k)
  | k + 1, 10 => ok_10 (j := 2 * k + 2) (by omega) hnd T (all_ok hnd T k)
  | k + 1, 11 => ok_11 (j := 2 * k + 2) (by omega) hnd T (all_ok hnd T k)
  | k + 1, 12 => ok_12 (j := 2 * k + 2) (by omega) hnd T (all_ok hnd T k)
  | k + 1, 13 => ok_13 (j := 2 * k + 2) (by omega) hnd T (all_ok hnd T k)
  | k + 1, 14 => ok_14 (j := 2 * k + 2) (by omega) hnd T (all_ok hnd T k)
  | k + 1, 15 => ok_15 (j := 2 * k + 2) (by omega) hnd T (all_ok hnd T k)
  | k + 1, 16 => ok_16 (j := 2 * k + 2) (by omega) hnd T (all_ok hnd T k)
  | k + 1, 17 => ok_17 (j := 2 * k + 2) (by omega) hnd T (all_ok hnd T k)
  | k + 1, 18 => ok_18 (j := 2 * k + 2) (by omega) hnd T (all_ok hnd T k)
  | k + 1, 19 => ok_19 (j := 2 * k + 2) (by omega) hnd T (all_ok hnd T k)
  | k + 1, 20 => ok_20 (j := 2 * k + 2) (by omega) hnd T (all_ok hnd T k)
  | k + 1, 21 => ok_21 (j := 2 * k + 2) (by omega) hnd T (all_ok hnd T k)
  | k + 1, 22 => ok_22 (j := 2 * k + 2) (by omega) hnd T (all_ok hnd T k)
  | k + 1, 23 => ok_23 (j := 2 * k + 2) (by omega) hnd T (all_ok hnd T k)
  | _ + 1, _ + 24 => fng_bad
theorem hcls {K : PySem.W.Frag} {A3 : Addr} {A0 : Addr} {A1 : Addr} {A2 : Addr} {x_2 : Addr} {od_2 an_2 : Option Addr} {sl_2 : Array (Option Value)} {oc_2 kV_2 dc_2 pm_2 cd_2 ct_2 : Value} {x_3 : Addr} {od_3 an_3 : Option Addr} {sl_3 : Array (Option Value)} {oc_3 kV_3 dc_3 pm_3 cd_3 ct_3 : Value} {x_4 : Addr} {od_4 an_4 : Option Addr} {sl_4 : Array (Option Value)} {oc_4 kV_4 dc_4 pm_4 cd_4 ct_4 : Value} {x_5 : Addr} {od_5 an_5 : Option Addr} {sl_5 : Array (Option Value)} {oc_5 kV_5 dc_5 pm_5 cd_5 ct_5 : Value} {x_6 : Addr} {od_6 an_6 : Option Addr} {sl_6 : Array (Option Value)} {oc_6 kV_6 dc_6 pm_6 cd_6 ct_6 : Value} {x_7 : Addr} {od_7 an_7 : Option Addr} {sl_7 : Array (Option Value)} {oc_7 kV_7 dc_7 pm_7 cd_7 ct_7 : Value} {x_8 : Addr} {od_8 an_8 : Option Addr} {sl_8 : Array (Option Value)} {oc_8 kV_8 dc_8 pm_8 cd_8 ct_8 : Value} {x_Malformed : Addr} {od_Malformed an_Malformed : Option Addr} {sl_Malformed : Array (Option Value)} {oc_Malformed kV_Malformed dc_Malformed pm_Malformed cd_Malformed ct_Malformed : Value} {nm_Malformed q_Malformed : Str} {Na_Malformed : Addr} {bs_Malformed : List Value} {sn_Malformed : List Str} {sub_Malformed : List Value} {ab_Malformed : Bool} {col_Malformed : Option Bool} {dd_Malformed : Option Addr} {m0_Malformed m1_Malformed m2_Malformed m3_Malformed m5_Malformed : Option Value}
    (g_Reading : PySem.W.nsIn K mainGlobals (Str.ofString "Reading") = some (some (.ref A3)))
    (g_RunError : PySem.W.nsIn K mainGlobals (Str.ofString "RunError") = some (some (.ref A0)))
    (g_BadNumber : PySem.W.nsIn K mainGlobals (Str.ofString "BadNumber") = some (some (.ref A1)))
    (g_Malformed : PySem.W.nsIn K mainGlobals (Str.ofString "Malformed") = some (some (.ref A2)))
    (pg_Reading : PySem.W.plainGet K A3 Str.empty = true)
    (hd_Reading : PySem.W.hasDictIn K A3 = true)
    (po_Reading : PySem.W.plainOver K A3 = true)
    (sa_Reading : PySem.W.findIn K (.ref A3) "__setattr__" = some (some (.builtin "object.__setattr__")))
    (ma_Reading : PySem.W.makesIn K A3 = true)
    (kp_Reading : PySem.W.keepIn K (.ref A3) = true)
    (no_Reading_at : PySem.W.findIn K (.ref A3) (Str.ofString "at") = some none)
    (no_Reading_text : PySem.W.findIn K (.ref A3) (Str.ofString "text") = some none)
    (at_2 : PySem.W.findIn K (.ref A3) (Str.ofString "__init__") = some (some (.ref x_2)))
    (fn_2 : PySem.W.isFn K (.ref x_2) = true)
    (l_2 : K.lookup x_2 = some ⟨oc_2, od_2, .func (PySem.W.fnOf (Str.ofString "__init__") (Str.ofString "Reading.__init__") (defArgs s_2) (defBody s_2) (defScope s_2) .none kV_2 dc_2 pm_2 an_2 cd_2 ct_2), sl_2⟩)
    (c_2 : PySem.W.codeIn K cd_2 (Str.ofString "Reading.__init__") = true)
    (k_2 : PySem.W.keepIn K (.ref x_2) = true)
    (at_3 : PySem.W.findIn K (.ref A3) (Str.ofString "sign") = some (some (.ref x_3)))
    (fn_3 : PySem.W.isFn K (.ref x_3) = true)
    (l_3 : K.lookup x_3 = some ⟨oc_3, od_3, .func (PySem.W.fnOf (Str.ofString "sign") (Str.ofString "Reading.sign") (defArgs s_3) (defBody s_3) (defScope s_3) .none kV_3 dc_3 pm_3 an_3 cd_3 ct_3), sl_3⟩)
    (c_3 : PySem.W.codeIn K cd_3 (Str.ofString "Reading.sign") = true)
    (k_3 : PySem.W.keepIn K (.ref x_3) = true)
    (at_4 : PySem.W.findIn K (.ref A3) (Str.ofString "is_at") = some (some (.ref x_4)))
    (fn_4 : PySem.W.isFn K (.ref x_4) = true)
    (l_4 : K.lookup x_4 = some ⟨oc_4, od_4, .func (PySem.W.fnOf (Str.ofString "is_at") (Str.ofString "Reading.is_at") (defArgs s_4) (defBody s_4) (defScope s_4) .none kV_4 dc_4 pm_4 an_4 cd_4 ct_4), sl_4⟩)
    (c_4 : PySem.W.codeIn K cd_4 (Str.ofString "Reading.is_at") = true)
    (k_4 : PySem.W.keepIn K (.ref x_4) = true)
    (at_5 : PySem.W.findIn K (.ref A3) (Str.ofString "take") = some (some (.ref x_5)))
    (fn_5 : PySem.W.isFn K (.ref x_5) = true)
    (l_5 : K.lookup x_5 = some ⟨oc_5, od_5, .func (PySem.W.fnOf (Str.ofString "take") (Str.ofString "Reading.take") (defArgs s_5) (defBody s_5) (defScope s_5) .none kV_5 dc_5 pm_5 an_5 cd_5 ct_5), sl_5⟩)
    (c_5 : PySem.W.codeIn K cd_5 (Str.ofString "Reading.take") = true)
    (k_5 : PySem.W.keepIn K (.ref x_5) = true)
    (at_6 : PySem.W.findIn K (.ref A3) (Str.ofString "integer") = some (some (.ref x_6)))
    (fn_6 : PySem.W.isFn K (.ref x_6) = true)
    (l_6 : K.lookup x_6 = some ⟨oc_6, od_6, .func (PySem.W.fnOf (Str.ofString "integer") (Str.ofString "Reading.integer") (defArgs s_6) (defBody s_6) (defScope s_6) .none kV_6 dc_6 pm_6 an_6 cd_6 ct_6), sl_6⟩)
    (c_6 : PySem.W.codeIn K cd_6 (Str.ofString "Reading.integer") = true)
    (k_6 : PySem.W.keepIn K (.ref x_6) = true)
    (at_7 : PySem.W.findIn K (.ref A3) (Str.ofString "term") = some (some (.ref x_7)))
    (fn_7 : PySem.W.isFn K (.ref x_7) = true)
    (l_7 : K.lookup x_7 = some ⟨oc_7, od_7, .func (PySem.W.fnOf (Str.ofString "term") (Str.ofString "Reading.term") (defArgs s_7) (defBody s_7) (defScope s_7) .none kV_7 dc_7 pm_7 an_7 cd_7 ct_7), sl_7⟩)
    (c_7 : PySem.W.codeIn K cd_7 (Str.ofString "Reading.term") = true)
    (k_7 : PySem.W.keepIn K (.ref x_7) = true)
    (at_8 : PySem.W.findIn K (.ref A3) (Str.ofString "entries") = some (some (.ref x_8)))
    (fn_8 : PySem.W.isFn K (.ref x_8) = true)
    (l_8 : K.lookup x_8 = some ⟨oc_8, od_8, .func (PySem.W.fnOf (Str.ofString "entries") (Str.ofString "Reading.entries") (defArgs s_8) (defBody s_8) (defScope s_8) .none kV_8 dc_8 pm_8 an_8 cd_8 ct_8), sl_8⟩)
    (c_8 : PySem.W.codeIn K cd_8 (Str.ofString "Reading.entries") = true)
    (k_8 : PySem.W.keepIn K (.ref x_8) = true)
    (sb_RunError : PySem.W.subIn K (.ref A0) (.type "BaseException") = some true)
    (tc_RunError : PySem.W.typeIn K (.ref A0) = some (.type "type"))
    (kc_RunError : PySem.W.keepIn K (.ref A0) = true)
    (is_RunError : PySem.W.isClsIn K A0 = true)
    (ex_RunError : PySem.W.excIn K A0 [.type "ValueError", .type "Exception", .type "BaseException", .type "object"] "ValueError.__new__" = true)
    (sb_BadNumber : PySem.W.subIn K (.ref A1) (.type "BaseException") = some true)
    (tc_BadNumber : PySem.W.typeIn K (.ref A1) = some (.type "type"))
    (kc_BadNumber : PySem.W.keepIn K (.ref A1) = true)
    (is_BadNumber : PySem.W.isClsIn K A1 = true)
    (ex_BadNumber : PySem.W.excIn K A1 [.type "ValueError", .type "Exception", .type "BaseException", .type "object"] "ValueError.__new__" = true)
    (sb_Malformed : PySem.W.subIn K (.ref A2) (.type "BaseException") = some true)
    (tc_Malformed : PySem.W.typeIn K (.ref A2) = some (.type "type"))
    (kc_Malformed : PySem.W.keepIn K (.ref A2) = true)
    (is_Malformed : PySem.W.isClsIn K A2 = true)
    (xl_Malformed : K.lookup A2 = some (excClassObj nm_Malformed q_Malformed A2 Na_Malformed bs_Malformed [.ref A0, .type "ValueError", .type "Exception", .type "BaseException", .type "object"] true sn_Malformed sub_Malformed ab_Malformed col_Malformed dd_Malformed m0_Malformed m1_Malformed m2_Malformed m3_Malformed m5_Malformed "ValueError.__new__"))
    (sa_Malformed : PySem.W.findIn K (.ref A2) "__setattr__" = some (some (.builtin "object.__setattr__")))
    (ga_Malformed : PySem.W.findIn K (.ref A2) "__getattribute__" = some (some (.builtin "BaseException.__getattribute__")))
    (gg_Malformed : PySem.W.findIn K (.ref A2) "__getattr__" = some none)
    (nf_Malformed : PySem.W.findIn K (.ref A2) (Str.ofString "at") = some none)
    (hd_Malformed : PySem.W.hasDictIn K A2 = true)
    (ic_Malformed : PySem.W.findIn K (.ref A2) "__init__" = some (some (.ref x_Malformed)))
    (ti_Malformed : PySem.W.typeIn K (.ref x_Malformed) = some (.type "function"))
    (l_Malformed : K.lookup x_Malformed = some ⟨oc_Malformed, od_Malformed, .func (PySem.W.fnOf (Str.ofString "__init__") (Str.ofString "Malformed.__init__") (defArgs si_Malformed) (defBody si_Malformed) (defScope si_Malformed) .none kV_Malformed dc_Malformed pm_Malformed an_Malformed cd_Malformed ct_Malformed), sl_Malformed⟩)
    (c_Malformed : PySem.W.codeIn K cd_Malformed (Str.ofString "Malformed.__init__") = true)
    (k_Malformed : PySem.W.keepIn K (.ref x_Malformed) = true)
    (rd_RunError : PySem.W.readsIn K A0 (.type "type") = true)
    (sp_RunError : PySem.W.specialIn K (.ref A0) "__getattribute__" = some (some (.builtin "type.__getattribute__")))
    (fc_RunError : PySem.W.findCls K (.ref A0) (.type "type") "__init__" = some (.val (.builtin "ValueError.__init__")))
    (b_RunError_BadNumber : PySem.W.subIn K (.ref A0) (.ref A1) = some false)
    (b_BadNumber_BadNumber : PySem.W.subIn K (.ref A1) (.ref A1) = some true)
    (b_Malformed_BadNumber : PySem.W.subIn K (.ref A2) (.ref A1) = some false)
    (b_RunError_Malformed : PySem.W.subIn K (.ref A0) (.ref A2) = some false)
    (b_BadNumber_Malformed : PySem.W.subIn K (.ref A1) (.ref A2) = some false)
    (b_Malformed_Malformed : PySem.W.subIn K (.ref A2) (.ref A2) = some true)
    : ∃ (A0 : Addr) (A1 : Addr) (A2 : Addr) (A3 : Addr) (x2 : Addr) (d2 : FuncData) (x3 : Addr) (d3 : FuncData) (x4 : Addr) (d4 : FuncData) (x5 : Addr) (d5 : FuncData) (x6 : Addr) (d6 : FuncData) (x7 : Addr) (d7 : FuncData) (x8 : Addr) (d8 : FuncData) (ai_Malformed : Addr) (di_Malformed : FuncData), (Mk K A3 x2) ∧ (PySem.W.keepIn K (.ref x2) = true) ∧ (Binds K d2 (psOf 2) []) ∧ (Fun K (Str.ofString "__init__") (Str.ofString "Reading.__init__") s_2 x2 d2) ∧ (Meth K A3 (Str.ofString "sign") x3) ∧ (PySem.W.keepIn K (.ref x3) = true) ∧ (Binds K d3 (psOf 3) []) ∧ (Fun K (Str.ofString "sign") (Str.ofString "Reading.sign") s_3 x3 d3) ∧ (Meth K A3 (Str.ofString "is_at") x4) ∧ (PySem.W.keepIn K (.ref x4) = true) ∧ (Binds K d4 (psOf 4) []) ∧ (Fun K (Str.ofString "is_at") (Str.ofString "Reading.is_at") s_4 x4 d4) ∧ (Meth K A3 (Str.ofString "take") x5) ∧ (PySem.W.keepIn K (.ref x5) = true) ∧ (Binds K d5 (psOf 5) []) ∧ (Fun K (Str.ofString "take") (Str.ofString "Reading.take") s_5 x5 d5) ∧ (Meth K A3 (Str.ofString "integer") x6) ∧ (PySem.W.keepIn K (.ref x6) = true) ∧ (Binds K d6 (psOf 6) []) ∧ (Fun K (Str.ofString "integer") (Str.ofString "Reading.integer") s_6 x6 d6) ∧ (Meth K A3 (Str.ofString "term") x7) ∧ (PySem.W.keepIn K (.ref x7) = true) ∧ (Binds K d7 (psOf 7) []) ∧ (Fun K (Str.ofString "term") (Str.ofString "Reading.term") s_7 x7 d7) ∧ (Meth K A3 (Str.ofString "entries") x8) ∧ (PySem.W.keepIn K (.ref x8) = true) ∧ (Binds K d8 (psOf 8) []) ∧ (Fun K (Str.ofString "entries") (Str.ofString "Reading.entries") s_8 x8 d8) ∧ (PySem.W.nsIn K mainGlobals (Str.ofString "Reading") = some (some (.ref A3))) ∧ (PySem.W.nsIn K mainGlobals (Str.ofString "RunError") = some (some (.ref A0))) ∧ (PySem.W.nsIn K mainGlobals (Str.ofString "BadNumber") = some (some (.ref A1))) ∧ (PySem.W.nsIn K mainGlobals (Str.ofString "Malformed") = some (some (.ref A2))) ∧ (Cls K A3) ∧ (NoAttr K A3 (Str.ofString "at")) ∧ (NoAttr K A3 (Str.ofString "text")) ∧ (PySem.W.excIn K A0 [.type "ValueError", .type "Exception", .type "BaseException", .type "object"] "ValueError.__new__" = true) ∧ (PySem.W.keepIn K (.ref A0) = true) ∧ (PySem.W.subIn K (.ref A0) (.type "BaseException") = some true) ∧ (PySem.W.typeIn K (.ref A0) = some (.type "type")) ∧ (PySem.W.excIn K A1 [.type "ValueError", .type "Exception", .type "BaseException", .type "object"] "ValueError.__new__" = true) ∧ (PySem.W.keepIn K (.ref A1) = true) ∧ (PySem.W.subIn K (.ref A1) (.type "BaseException") = some true) ∧ (PySem.W.typeIn K (.ref A1) = some (.type "type")) ∧ (OexC K A2) ∧ (PySem.W.findIn K (.ref A2) (Str.ofString "at") = some none) ∧ (PySem.W.findIn K (.ref A2) "__init__" = some (some (.ref ai_Malformed))) ∧ (PySem.W.typeIn K (.ref ai_Malformed) = some (.type "function")) ∧ (Binds K di_Malformed Ni_Malformed []) ∧ (Fun K "__init__" (Str.ofString "Malformed.__init__") si_Malformed ai_Malformed di_Malformed) ∧ (Xfld K A2 (Str.ofString "at")) ∧ (Xcls K A0) ∧ (∀ c b C', bel_BadNumber c = some b → ([A0, A1, A2, A3])[c]? = some C' → PySem.W.exmOne K (.ref C') (.ref A1) = some b) ∧ (∀ c b C', bel_Malformed c = some b → ([A0, A1, A2, A3])[c]? = some C' → PySem.W.exmOne K (.ref C') (.ref A2) = some b) :=
  ⟨A0, A1, A2, A3, x_2, PySem.W.fnOf (Str.ofString "__init__") (Str.ofString "Reading.__init__") (defArgs s_2) (defBody s_2) (defScope s_2) .none kV_2 dc_2 pm_2 an_2 cd_2 ct_2, x_3, PySem.W.fnOf (Str.ofString "sign") (Str.ofString "Reading.sign") (defArgs s_3) (defBody s_3) (defScope s_3) .none kV_3 dc_3 pm_3 an_3 cd_3 ct_3, x_4, PySem.W.fnOf (Str.ofString "is_at") (Str.ofString "Reading.is_at") (defArgs s_4) (defBody s_4) (defScope s_4) .none kV_4 dc_4 pm_4 an_4 cd_4 ct_4, x_5, PySem.W.fnOf (Str.ofString "take") (Str.ofString "Reading.take") (defArgs s_5) (defBody s_5) (defScope s_5) .none kV_5 dc_5 pm_5 an_5 cd_5 ct_5, x_6, PySem.W.fnOf (Str.ofString "integer") (Str.ofString "Reading.integer") (defArgs s_6) (defBody s_6) (defScope s_6) .none kV_6 dc_6 pm_6 an_6 cd_6 ct_6, x_7, PySem.W.fnOf (Str.ofString "term") (Str.ofString "Reading.term") (defArgs s_7) (defBody s_7) (defScope s_7) .none kV_7 dc_7 pm_7 an_7 cd_7 ct_7, x_8, PySem.W.fnOf (Str.ofString "entries") (Str.ofString "Reading.entries") (defArgs s_8) (defBody s_8) (defScope s_8) .none kV_8 dc_8 pm_8 an_8 cd_8 ct_8, x_Malformed, _,
    ⟨ma_Reading, at_2, fn_2, kp_Reading⟩,
    k_2,
    (fun_mk (st := s_2) l_2 c_2 k_2).binds (ps := psOf 2) fun _ _ _ _ _ _ us hl => match us, hl with | [_, _], _ => rfl,
    fun_mk (st := s_2) l_2 c_2 k_2,
    ⟨at_3, fn_3, k_3⟩,
    k_3,
    (fun_mk (st := s_3) l_3 c_3 k_3).binds (ps := psOf 3) fun _ _ _ _ _ _ us hl => match us, hl with | [_], _ => rfl,
    fun_mk (st := s_3) l_3 c_3 k_3,
    ⟨at_4, fn_4, k_4⟩,
    k_4,
    (fun_mk (st := s_4) l_4 c_4 k_4).binds (ps := psOf 4) fun _ _ _ _ _ _ us hl => match us, hl with | [_, _], _ => rfl,
    fun_mk (st := s_4) l_4 c_4 k_4,
    ⟨at_5, fn_5, k_5⟩,
    k_5,
    (fun_mk (st := s_5) l_5 c_5 k_5).binds (ps := psOf 5) fun _ _ _ _ _ _ us hl => match us, hl with | [_, _], _ => rfl,
    fun_mk (st := s_5) l_5 c_5 k_5,
    ⟨at_6, fn_6, k_6⟩,
    k_6,
    (fun_mk (st := s_6) l_6 c_6 k_6).binds (ps := psOf 6) fun _ _ _ _ _ _ us hl => match us, hl with | [_], _ => rfl,
    fun_mk (st := s_6) l_6 c_6 k_6,
    ⟨at_7, fn_7, k_7⟩,
    k_7,
    (fun_mk (st := s_7) l_7 c_7 k_7).binds (ps := psOf 7) fun _ _ _ _ _ _ us hl => match us, hl with | [_, _], _ => rfl,
    fun_mk (st := s_7) l_7 c_7 k_7,
    ⟨at_8, fn_8, k_8⟩,
    k_8,
    (fun_mk (st := s_8) l_8 c_8 k_8).binds (ps := psOf 8) fun _ _ _ _ _ _ us hl => match us, hl with | [_, _], _ => rfl,
    fun_mk (st := s_8) l_8 c_8 k_8,
    g_Reading,
    g_RunError,
    g_BadNumber,
    g_Malformed,
    ⟨pg_Reading, hd_Reading, po_Reading, sa_Reading⟩,
    no_Reading_at,
    no_Reading_text,
    ex_RunError,
    kc_RunError,
    sb_RunError,
    tc_RunError,
    ex_BadNumber,
    kc_BadNumber,
    sb_BadNumber,
    tc_BadNumber,
    ⟨⟨_, _, _, _, _, _, _, _, _, _, _, _, _, _, _, xl_Malformed, by rfl⟩, sa_Malformed, sb_Malformed, tc_Malformed, kc_Malformed⟩,
    nf_Malformed,
    ic_Malformed,
    ti_Malformed,
    (fun_mk (st := si_Malformed) l_Malformed c_Malformed k_Malformed).binds (ps := Ni_Malformed) fun _ _ _ _ _ _ us hl => match us, hl with | [_, _], _ => rfl,
    fun_mk (st := si_Malformed) l_Malformed c_Malformed k_Malformed,
    ⟨ga_Malformed, gg_Malformed, sb_Malformed, hd_Malformed, nf_Malformed⟩,
    ⟨rd_RunError, sp_RunError, fc_RunError⟩,
    (fun c b C' hb hC => match c, hb, hC with
      | 0, hb, hC => by
        cases hb
        cases hC
        exact exm_of sb_BadNumber is_BadNumber tc_BadNumber b_RunError_BadNumber
      | 1, hb, hC => by
        cases hb
        cases hC
        exact exm_of sb_BadNumber is_BadNumber tc_BadNumber b_BadNumber_BadNumber
      | 2, hb, hC => by
        cases hb
        cases hC
        exact exm_of sb_BadNumber is_BadNumber tc_BadNumber b_Malformed_BadNumber
      | 3, hb, _ => (by cases hb)
      | _ + 4, hb, _ => (by cases hb)),
    (fun c b C' hb hC => match c, hb, hC with
      | 0, hb, hC => by
        cases hb
        cases hC
        exact exm_of sb_Malformed is_Malformed tc_Malformed b_RunError_Malformed
      | 1, hb, hC => by
        cases hb
        cases hC
        exact exm_of sb_Malformed is_Malformed tc_Malformed b_BadNumber_Malformed
      | 2, hb, hC => by
        cases hb
        cases hC
        exact exm_of sb_Malformed is_Malformed tc_Malformed b_Malformed_Malformed
      | 3, hb, _ => (by cases hb)
      | _ + 4, hb, _ => (by cases hb))⟩
def spL (KK fu : Nat) (K : PySem.W.Frag) : Sp := fun vs H Q E => ∀ A, spM (gk K A) 1 (run fu KK 23) vs H Q E
theorem all_mk (KK fu : Nat) {P : Program} {w : World} {K : PySem.W.Frag} {h : Heap} {mg : Str → Option Value} {fa : Addr} (X : K.In h) (G : h.Ns mainGlobals mg) (hfa : mg "law" = some (.ref fa))
    (h0 : ∃ (x : Addr) (fd : FuncData), PySem.W.nsIn K mainGlobals (Str.ofString "has_text") = some (some (.ref x)) ∧ PySem.W.keepIn K (.ref x) = true ∧ Fun K (Str.ofString "has_text") (Str.ofString "has_text") s_0 x fd ∧ Binds K fd (psOf 0) [])
    (h1 : ∃ (x : Addr) (fd : FuncData), PySem.W.nsIn K mainGlobals (Str.ofString "term_text") = some (some (.ref x)) ∧ PySem.W.keepIn K (.ref x) = true ∧ Fun K (Str.ofString "term_text") (Str.ofString "term_text") s_1 x fd ∧ Binds K fd (psOf 1) [])
    (h9 : ∃ (x : Addr) (fd : FuncData), PySem.W.nsIn K mainGlobals (Str.ofString "read_term") = some (some (.ref x)) ∧ PySem.W.keepIn K (.ref x) = true ∧ Fun K (Str.ofString "read_term") (Str.ofString "read_term") s_9 x fd ∧ Binds K fd (psOf 9) [])
    (h10 : ∃ (x : Addr) (fd : FuncData), PySem.W.nsIn K mainGlobals (Str.ofString "_law_number") = some (some (.ref x)) ∧ PySem.W.keepIn K (.ref x) = true ∧ Fun K (Str.ofString "_law_number") (Str.ofString "_law_number") s_10 x fd ∧ Binds K fd (psOf 10) [])
    (h11 : ∃ (x : Addr) (fd : FuncData), PySem.W.nsIn K mainGlobals (Str.ofString "_law_draws") = some (some (.ref x)) ∧ PySem.W.keepIn K (.ref x) = true ∧ Fun K (Str.ofString "_law_draws") (Str.ofString "_law_draws") s_11 x fd ∧ Binds K fd (psOf 11) [])
    (h12 : ∃ (x : Addr) (fd : FuncData), PySem.W.nsIn K mainGlobals (Str.ofString "_law_next") = some (some (.ref x)) ∧ PySem.W.keepIn K (.ref x) = true ∧ Fun K (Str.ofString "_law_next") (Str.ofString "_law_next") s_12 x fd ∧ Binds K fd (psOf 12) [])
    (h13 : ∃ (x : Addr) (fd : FuncData), PySem.W.nsIn K mainGlobals (Str.ofString "_law_more") = some (some (.ref x)) ∧ PySem.W.keepIn K (.ref x) = true ∧ Fun K (Str.ofString "_law_more") (Str.ofString "_law_more") s_13 x fd ∧ Binds K fd (psOf 13) [])
    (h14 : ∃ (x : Addr) (fd : FuncData), PySem.W.nsIn K mainGlobals (Str.ofString "_law_pick") = some (some (.ref x)) ∧ PySem.W.keepIn K (.ref x) = true ∧ Fun K (Str.ofString "_law_pick") (Str.ofString "_law_pick") s_14 x fd ∧ Binds K fd (psOf 14) [])
    (h15 : ∃ (x : Addr) (fd : FuncData), PySem.W.nsIn K mainGlobals (Str.ofString "_law_term") = some (some (.ref x)) ∧ PySem.W.keepIn K (.ref x) = true ∧ Fun K (Str.ofString "_law_term") (Str.ofString "_law_term") s_15 x fd ∧ Binds K fd (psOf 15) [])
    (h16 : ∃ (x : Addr) (fd : FuncData), PySem.W.nsIn K mainGlobals (Str.ofString "_law_text") = some (some (.ref x)) ∧ PySem.W.keepIn K (.ref x) = true ∧ Fun K (Str.ofString "_law_text") (Str.ofString "_law_text") s_16 x fd ∧ Binds K fd (psOf 16) [])
    (h17 : ∃ (x : Addr) (fd : FuncData), PySem.W.nsIn K mainGlobals (Str.ofString "_law_integer") = some (some (.ref x)) ∧ PySem.W.keepIn K (.ref x) = true ∧ Fun K (Str.ofString "_law_integer") (Str.ofString "_law_integer") s_17 x fd ∧ Binds K fd (psOf 17) [])
    (h18 : ∃ (x : Addr) (fd : FuncData), PySem.W.nsIn K mainGlobals (Str.ofString "_law_read") = some (some (.ref x)) ∧ PySem.W.keepIn K (.ref x) = true ∧ Fun K (Str.ofString "_law_read") (Str.ofString "_law_read") s_18 x fd ∧ Binds K fd (psOf 18) [])
    (h19 : ∃ (x : Addr) (fd : FuncData), PySem.W.nsIn K mainGlobals (Str.ofString "_law_entries") = some (some (.ref x)) ∧ PySem.W.keepIn K (.ref x) = true ∧ Fun K (Str.ofString "_law_entries") (Str.ofString "_law_entries") s_19 x fd ∧ Binds K fd (psOf 19) [])
    (h20 : ∃ (x : Addr) (fd : FuncData), PySem.W.nsIn K mainGlobals (Str.ofString "_law_due") = some (some (.ref x)) ∧ PySem.W.keepIn K (.ref x) = true ∧ Fun K (Str.ofString "_law_due") (Str.ofString "_law_due") s_20 x fd ∧ Binds K fd (psOf 20) [])
    (h21 : ∃ (x : Addr) (fd : FuncData), PySem.W.nsIn K mainGlobals (Str.ofString "_law_told") = some (some (.ref x)) ∧ PySem.W.keepIn K (.ref x) = true ∧ Fun K (Str.ofString "_law_told") (Str.ofString "_law_told") s_21 x fd ∧ Binds K fd (psOf 21) [])
    (h22 : ∃ (x : Addr) (fd : FuncData), PySem.W.nsIn K mainGlobals (Str.ofString "_law_refused") = some (some (.ref x)) ∧ PySem.W.keepIn K (.ref x) = true ∧ Fun K (Str.ofString "_law_refused") (Str.ofString "_law_refused") s_22 x fd ∧ Binds K fd (psOf 22) [])
    (h23 : ∃ (x : Addr) (fd : FuncData), PySem.W.nsIn K mainGlobals (Str.ofString "law") = some (some (.ref x)) ∧ PySem.W.keepIn K (.ref x) = true ∧ Fun K (Str.ofString "law") (Str.ofString "law") s_23 x fd ∧ Binds K fd (psOf 23) [] ∧ ∀ (s : Shared) (u : Value), BindsTo s fd ⟨[u], []⟩ [((Str.ofString "script"), u)])
    (cc_FIGURES : ∃ u, PySem.W.nsIn K mainGlobals (Str.ofString "FIGURES") = some (some u) ∧ RelV (V.str (Str.ofString "0123456789")) u)
    (cc_MOST_BITS : ∃ u, PySem.W.nsIn K mainGlobals (Str.ofString "MOST_BITS") = some (some u) ∧ RelV (V.int 13287) u)
    (cc_MOST_FIGURES : ∃ u, PySem.W.nsIn K mainGlobals (Str.ofString "MOST_FIGURES") = some (some u) ∧ RelV (V.int 20) u)
    (cc_MOST_OPEN : ∃ u, PySem.W.nsIn K mainGlobals (Str.ofString "MOST_OPEN") = some (some u) ∧ RelV (V.int 12) u)
    (cc_MOST_TEXT : ∃ u, PySem.W.nsIn K mainGlobals (Str.ofString "MOST_TEXT") = some (some u) ∧ RelV (V.int 4000) u)
    (cc_NOBODY : ∃ u, PySem.W.nsIn K mainGlobals (Str.ofString "NOBODY") = some (some u) ∧ RelV (V.str (Str.ofString ".")) u)
    (cc_NOTHING : ∃ u, PySem.W.nsIn K mainGlobals (Str.ofString "NOTHING") = some (some u) ∧ RelV (V.str (Str.ofString "none")) u)
    (cc_SMALL : ∃ u, PySem.W.nsIn K mainGlobals (Str.ofString "SMALL") = some (some u) ∧ RelV (V.str (Str.ofString "abcdefghijklmnopqrstuvwxyz")) u)
    (zz_abs : PySem.W.nsIn K mainGlobals (Str.ofString "abs") = some none)
    (zz_all : PySem.W.nsIn K mainGlobals (Str.ofString "all") = some none)
    (zz_int : PySem.W.nsIn K mainGlobals (Str.ofString "int") = some none)
    (zz_isinstance : PySem.W.nsIn K mainGlobals (Str.ofString "isinstance") = some none)
    (zz_len : PySem.W.nsIn K mainGlobals (Str.ofString "len") = some none)
    (zz_list : PySem.W.nsIn K mainGlobals (Str.ofString "list") = some none)
    (zz_range : PySem.W.nsIn K mainGlobals (Str.ofString "range") = some none)
    (zz_repr : PySem.W.nsIn K mainGlobals (Str.ofString "repr") = some none)
    (zz_str : PySem.W.nsIn K mainGlobals (Str.ofString "str") = some none)
    (zz_tuple : PySem.W.nsIn K mainGlobals (Str.ofString "tuple") = some none)
    (hK : ∃ (A0 : Addr) (A1 : Addr) (A2 : Addr) (A3 : Addr) (x2 : Addr) (d2 : FuncData) (x3 : Addr) (d3 : FuncData) (x4 : Addr) (d4 : FuncData) (x5 : Addr) (d5 : FuncData) (x6 : Addr) (d6 : FuncData) (x7 : Addr) (d7 : FuncData) (x8 : Addr) (d8 : FuncData) (ai_Malformed : Addr) (di_Malformed : FuncData), (Mk K A3 x2) ∧ (PySem.W.keepIn K (.ref x2) = true) ∧ (Binds K d2 (psOf 2) []) ∧ (Fun K (Str.ofString "__init__") (Str.ofString "Reading.__init__") s_2 x2 d2) ∧ (Meth K A3 (Str.ofString "sign") x3) ∧ (PySem.W.keepIn K (.ref x3) = true) ∧ (Binds K d3 (psOf 3) []) ∧ (Fun K (Str.ofString "sign") (Str.ofString "Reading.sign") s_3 x3 d3) ∧ (Meth K A3 (Str.ofString "is_at") x4) ∧ (PySem.W.keepIn K (.ref x4) = true) ∧ (Binds K d4 (psOf 4) []) ∧ (Fun K (Str.ofString "is_at") (Str.ofString "Reading.is_at") s_4 x4 d4) ∧ (Meth K A3 (Str.ofString "take") x5) ∧ (PySem.W.keepIn K (.ref x5) = true) ∧ (Binds K d5 (psOf 5) []) ∧ (Fun K (Str.ofString "take") (Str.ofString "Reading.take") s_5 x5 d5) ∧ (Meth K A3 (Str.ofString "integer") x6) ∧ (PySem.W.keepIn K (.ref x6) = true) ∧ (Binds K d6 (psOf 6) []) ∧ (Fun K (Str.ofString "integer") (Str.ofString "Reading.integer") s_6 x6 d6) ∧ (Meth K A3 (Str.ofString "term") x7) ∧ (PySem.W.keepIn K (.ref x7) = true) ∧ (Binds K d7 (psOf 7) []) ∧ (Fun K (Str.ofString "term") (Str.ofString "Reading.term") s_7 x7 d7) ∧ (Meth K A3 (Str.ofString "entries") x8) ∧ (PySem.W.keepIn K (.ref x8) = true) ∧ (Binds K d8 (psOf 8) []) ∧ (Fun K (Str.ofString "entries") (Str.ofString "Reading.entries") s_8 x8 d8) ∧ (PySem.W.nsIn K mainGlobals (Str.ofString "Reading") = some (some (.ref A3))) ∧ (PySem.W.nsIn K mainGlobals (Str.ofString "RunError") = some (some (.ref A0))) ∧ (PySem.W.nsIn K mainGlobals (Str.ofString "BadNumber") = some (some (.ref A1))) ∧ (PySem.W.nsIn K mainGlobals (Str.ofString "Malformed") = some (some (.ref A2))) ∧ (Cls K A3) ∧ (NoAttr K A3 (Str.ofString "at")) ∧ (NoAttr K A3 (Str.ofString "text")) ∧ (PySem.W.excIn K A0 [.type "ValueError", .type "Exception", .type "BaseException", .type "object"] "ValueError.__new__" = true) ∧ (PySem.W.keepIn K (.ref A0) = true) ∧ (PySem.W.subIn K (.ref A0) (.type "BaseException") = some true) ∧ (PySem.W.typeIn K (.ref A0) = some (.type "type")) ∧ (PySem.W.excIn K A1 [.type "ValueError", .type "Exception", .type "BaseException", .type "object"] "ValueError.__new__" = true) ∧ (PySem.W.keepIn K (.ref A1) = true) ∧ (PySem.W.subIn K (.ref A1) (.type "BaseException") = some true) ∧ (PySem.W.typeIn K (.ref A1) = some (.type "type")) ∧ (OexC K A2) ∧ (PySem.W.findIn K (.ref A2) (Str.ofString "at") = some none) ∧ (PySem.W.findIn K (.ref A2) "__init__" = some (some (.ref ai_Malformed))) ∧ (PySem.W.typeIn K (.ref ai_Malformed) = some (.type "function")) ∧ (Binds K di_Malformed Ni_Malformed []) ∧ (Fun K "__init__" (Str.ofString "Malformed.__init__") si_Malformed ai_Malformed di_Malformed) ∧ (Xfld K A2 (Str.ofString "at")) ∧ (Xcls K A0) ∧ (∀ c b C', bel_BadNumber c = some b → ([A0, A1, A2, A3])[c]? = some C' → PySem.W.exmOne K (.ref C') (.ref A1) = some b) ∧ (∀ c b C', bel_Malformed c = some b → ([A0, A1, A2, A3])[c]? = some C' → PySem.W.exmOne K (.ref C') (.ref A2) = some b))
    : ∃ fd : FuncData, (∀ (s : Shared) (u : Value), BindsTo s fd ⟨[u], []⟩ [((Str.ofString "script"), u)]) ∧ ∀ base : Heap, K.In base → base.Ns mainGlobals mg → base.NoDigits → FnG P w K mg base (2 * KK + 2) fa fd [(Str.ofString "script")] (spL KK fu K) := by
  obtain ⟨x0, d0, g0, k0, f0, b0⟩ := h0
  obtain ⟨x1, d1, g1, k1, f1, b1⟩ := h1
  obtain ⟨x9, d9, g9, k9, f9, b9⟩ := h9
  obtain ⟨x10, d10, g10, k10, f10, b10⟩ := h10
  obtain ⟨x11, d11, g11, k11, f11, b11⟩ := h11
  obtain ⟨x12, d12, g12, k12, f12, b12⟩ := h12
  obtain ⟨x13, d13, g13, k13, f13, b13⟩ := h13
  obtain ⟨x14, d14, g14, k14, f14, b14⟩ := h14
  obtain ⟨x15, d15, g15, k15, f15, b15⟩ := h15
  obtain ⟨x16, d16, g16, k16, f16, b16⟩ := h16
  obtain ⟨x17, d17, g17, k17, f17, b17⟩ := h17
  obtain ⟨x18, d18, g18, k18, f18, b18⟩ := h18
  obtain ⟨x19, d19, g19, k19, f19, b19⟩ := h19
  obtain ⟨x20, d20, g20, k20, f20, b20⟩ := h20
  obtain ⟨x21, d21, g21, k21, f21, b21⟩ := h21
  obtain ⟨x22, d22, g22, k22, f22, b22⟩ := h22
  obtain ⟨x23, d23, g23, k23, f23, b23, bt⟩ := h23
  obtain ⟨A0, A1, A2, A3, x2, d2, x3, d3, x4, d4, x5, d5, x6, d6, x7, d7, x8, d8, ai_Malformed, di_Malformed, q_mk_Reading, q_k_2, q_b_2, q_f_2, q_m_3, q_k_3, q_b_3, q_f_3, q_m_4, q_k_4, q_b_4, q_f_4, q_m_5, q_k_5, q_b_5, q_f_5, q_m_6, q_k_6, q_b_6, q_f_6, q_m_7, q_k_7, q_b_7, q_f_7, q_m_8, q_k_8, q_b_8, q_f_8, q_gc_Reading, q_gc_RunError, q_gc_BadNumber, q_gc_Malformed, q_cl_Reading, q_no_Reading_at, q_no_Reading_text, q_ex_RunError, q_kc_RunError, q_sb_RunError, q_tc_RunError, q_ex_BadNumber, q_kc_BadNumber, q_sb_BadNumber, q_tc_BadNumber, q_ox_Malformed, q_nf_Malformed, q_ic_Malformed, q_ti_Malformed, q_ib_Malformed, q_if_Malformed, q_xf_Malformed_at, q_xc_Malformed, q_bel_BadNumber, q_bel_Malformed⟩ := hK
  have e := hfa.symm.trans (PySem.W.mg_of X G g23)
  cases e
  let a : Nat → Addr := fun i => match i with | 0 => x0 | 1 => x1 | 2 => x2 | 3 => x3 | 4 => x4 | 5 => x5 | 6 => x6 | 7 => x7 | 8 => x8 | 9 => x9 | 10 => x10 | 11 => x11 | 12 => x12 | 13 => x13 | 14 => x14 | 15 => x15 | 16 => x16 | 17 => x17 | 18 => x18 | 19 => x19 | 20 => x20 | 21 => x21 | 22 => x22 | 23 => fa | _ => fa
  let d : Nat → FuncData := fun i => match i with | 0 => d0 | 1 => d1 | 2 => d2 | 3 => d3 | 4 => d4 | 5 => d5 | 6 => d6 | 7 => d7 | 8 => d8 | 9 => d9 | 10 => d10 | 11 => d11 | 12 => d12 | 13 => d13 | 14 => d14 | 15 => d15 | 16 => d16 | 17 => d17 | 18 => d18 | 19 => d19 | 20 => d20 | 21 => d21 | 22 => d22 | 23 => d23 | _ => d23
  let A : Nat → Addr := fun i => match i with | 0 => A0 | 1 => A1 | 2 => A2 | 3 => A3 | _ => A0
  have T : TX K mg a d A ai_Malformed di_Malformed :=
    { g_0 := PySem.W.mg_of X G g0,
      k_0 := k0,
      b_0 := b0,
      f_0 := f0,
      g_1 := PySem.W.mg_of X G g1,
      k_1 := k1,
      b_1 := b1,
      f_1 := f1,
      mk_Reading := q_mk_Reading,
      k_2 := q_k_2,
      b_2 := q_b_2,
      f_2 := q_f_2,
      m_3 := q_m_3,
      k_3 := q_k_3,
      b_3 := q_b_3,
      f_3 := q_f_3,
      m_4 := q_m_4,
      k_4 := q_k_4,
      b_4 := q_b_4,
      f_4 := q_f_4,
      m_5 := q_m_5,
      k_5 := q_k_5,
      b_5 := q_b_5,
      f_5 := q_f_5,
      m_6 := q_m_6,
      k_6 := q_k_6,
      b_6 := q_b_6,
      f_6 := q_f_6,
      m_7 := q_m_7,
      k_7 := q_k_7,
      b_7 := q_b_7,
      f_7 := q_f_7,
      m_8 := q_m_8,
      k_8 := q_k_8,
      b_8 := q_b_8,
      f_8 := q_f_8,
      g_9 := PySem.W.mg_of X G g9,
      k_9 := k9,
      b_9 := b9,
      f_9 := f9,
      g_10 := PySem.W.mg_of X G g10,
      k_10 := k10,
      b_10 := b10,
      f_10 := f10,
      g_11 := PySem.W.mg_of X G g11,
      k_11 := k11,
      b_11 := b11,
      f_11 := f11,
      g_12 := PySem.W.mg_of X G g12,
      k_12 := k12,
      b_12 := b12,
      f_12 := f12,
      g_13 := PySem.W.mg_of X G g13,
      k_13 := k13,
      b_13 := b13,
      f_13 := f13,
      g_14 := PySem.W.mg_of X G g14,
      k_14 := k14,
      b_14 := b14,
      f_14 := f14,
      g_15 := PySem.W.mg_of X G g15,
      k_15 := k15,
      b_15 := b15,
      f_15 := f15,
      g_16 := PySem.W.mg_of X G g16,
      k_16 := k16,
      b_16 := b16,
      f_16 := f16,
      g_17 := PySem.W.mg_of X G g17,
      k_17 := k17,
      b_17 := b17,
      f_17 := f17,
      g_18 := PySem.W.mg_of X G g18,
      k_18 := k18,
      b_18 := b18,
      f_18 := f18,
      g_19 := PySem.W.mg_of X G g19,
      k_19 := k19,
      b_19 := b19,
      f_19 := f19,
      g_20 := PySem.W.mg_of X G g20,
      k_20 := k20,
      b_20 := b20,
      f_20 := f20,
      g_21 := PySem.W.mg_of X G g21,
      k_21 := k21,
      b_21 := b21,
      f_21 := f21,
      g_22 := PySem.W.mg_of X G g22,
      k_22 := k22,
      b_22 := b22,
      f_22 := f22,
      g_23 := PySem.W.mg_of X G g23,
      k_23 := k23,
      b_23 := b23,
      f_23 := f23,
      c_FIGURES := (by obtain ⟨u, g, r⟩ := cc_FIGURES; exact ⟨u, PySem.W.mg_of X G g, r⟩),
      c_MOST_BITS := (by obtain ⟨u, g, r⟩ := cc_MOST_BITS; exact ⟨u, PySem.W.mg_of X G g, r⟩),
      c_MOST_FIGURES := (by obtain ⟨u, g, r⟩ := cc_MOST_FIGURES; exact ⟨u, PySem.W.mg_of X G g, r⟩),
      c_MOST_OPEN := (by obtain ⟨u, g, r⟩ := cc_MOST_OPEN; exact ⟨u, PySem.W.mg_of X G g, r⟩),
      c_MOST_TEXT := (by obtain ⟨u, g, r⟩ := cc_MOST_TEXT; exact ⟨u, PySem.W.mg_of X G g, r⟩),
      c_NOBODY := (by obtain ⟨u, g, r⟩ := cc_NOBODY; exact ⟨u, PySem.W.mg_of X G g, r⟩),
      c_NOTHING := (by obtain ⟨u, g, r⟩ := cc_NOTHING; exact ⟨u, PySem.W.mg_of X G g, r⟩),
      c_SMALL := (by obtain ⟨u, g, r⟩ := cc_SMALL; exact ⟨u, PySem.W.mg_of X G g, r⟩),
      z_abs := PySem.W.mg_none_of X G zz_abs,
      z_all := PySem.W.mg_none_of X G zz_all,
      z_int := PySem.W.mg_none_of X G zz_int,
      z_isinstance := PySem.W.mg_none_of X G zz_isinstance,
      z_len := PySem.W.mg_none_of X G zz_len,
      z_list := PySem.W.mg_none_of X G zz_list,
      z_range := PySem.W.mg_none_of X G zz_range,
      z_repr := PySem.W.mg_none_of X G zz_repr,
      z_str := PySem.W.mg_none_of X G zz_str,
      z_tuple := PySem.W.mg_none_of X G zz_tuple,
      gc_Reading := PySem.W.mg_of X G q_gc_Reading,
      gc_RunError := PySem.W.mg_of X G q_gc_RunError,
      gc_BadNumber := PySem.W.mg_of X G q_gc_BadNumber,
      gc_Malformed := PySem.W.mg_of X G q_gc_Malformed,
      cl_Reading := q_cl_Reading,
      no_Reading_at := q_no_Reading_at,
      no_Reading_text := q_no_Reading_text,
      ex_RunError := q_ex_RunError,
      kc_RunError := q_kc_RunError,
      sb_RunError := q_sb_RunError,
      tc_RunError := q_tc_RunError,
      ex_BadNumber := q_ex_BadNumber,
      kc_BadNumber := q_kc_BadNumber,
      sb_BadNumber := q_sb_BadNumber,
      tc_BadNumber := q_tc_BadNumber,
      ox_Malformed := q_ox_Malformed,
      nf_Malformed := q_nf_Malformed,
      ic_Malformed := q_ic_Malformed,
      ti_Malformed := q_ti_Malformed,
      ib_Malformed := q_ib_Malformed,
      if_Malformed := q_if_Malformed,
      xf_Malformed_at := q_xf_Malformed_at,
      xc_Malformed := q_xc_Malformed,
      bel_BadNumber := q_bel_BadNumber,
      bel_Malformed := q_bel_Malformed }
  refine ⟨d23, bt, fun base _ _ hnd => ?_⟩
  have z := all_ok (P := P) (w := w) (base := base) (fu := fu) hnd T KK 23
  exact ⟨fun vs H Q E h => z.size vs H Q E (h A), fun AA out s H ar us vs Q E r g e bt r2 h => z.does AA out s H ar us vs Q E r g e bt r2 (h A)⟩
end K20
end SK20C
section SP1
set_option Elab.async false
set_option linter.all false
set_option maxRecDepth 100000
set_option maxHeartbeats 4000000
namespace K20
open PySem L2 MI
abbrev Cs := List Nat
abbrev mkS (cs : Cs) : Str := ⟨cs.toArray⟩
abbrev tx : Str := Str.ofString "text"
abbrev nat_ : Str := Str.ofString "at"
def rdg (z : Str) (n : Nat) : MO := .ins 3 [(Str.ofString "text", .str z), (Str.ofString "at", .int n)]
theorem lk_text {a b : D} : lookD (Str.ofString "text") [(Str.ofString "text", a), (Str.ofString "at", b)] = some a := by
  unfold lookD; rw [if_pos rfl]
theorem ne_ta : ¬ Str.ofString "text" = Str.ofString "at" := by decide +kernel
theorem lk_at {a b : D} : lookD (Str.ofString "at") [(Str.ofString "text", a), (Str.ofString "at", b)] = some b := by
  unfold lookD; rw [if_neg ne_ta]; unfold lookD; rw [if_pos rfl]
theorem lk_no {a b : D} {x : Str} (h1 : ¬ Str.ofString "text" = x) (h2 : ¬ Str.ofString "at" = x) : lookD x [(Str.ofString "text", a), (Str.ofString "at", b)] = none := by
  unfold lookD; rw [if_neg h1]; unfold lookD; rw [if_neg h2]; rfl
theorem lk_sign {a b : D} : lookD (Str.ofString "sign") [(Str.ofString "text", a), (Str.ofString "at", b)] = none := lk_no (by decide +kernel) (by decide +kernel)
theorem lk_isat {a b : D} : lookD (Str.ofString "is_at") [(Str.ofString "text", a), (Str.ofString "at", b)] = none := lk_no (by decide +kernel) (by decide +kernel)
theorem lk_take {a b : D} : lookD (Str.ofString "take") [(Str.ofString "text", a), (Str.ofString "at", b)] = none := lk_no (by decide +kernel) (by decide +kernel)
theorem lk_integer {a b : D} : lookD (Str.ofString "integer") [(Str.ofString "text", a), (Str.ofString "at", b)] = none := lk_no (by decide +kernel) (by decide +kernel)
theorem lk_term {a b : D} : lookD (Str.ofString "term") [(Str.ofString "text", a), (Str.ofString "at", b)] = none := lk_no (by decide +kernel) (by decide +kernel)
theorem lk_entries {a b : D} : lookD (Str.ofString "entries") [(Str.ofString "text", a), (Str.ofString "at", b)] = none := lk_no (by decide +kernel) (by decide +kernel)
theorem put_at {a b d : D} : putD (Str.ofString "at") d [(Str.ofString "text", a), (Str.ofString "at", b)] = [(Str.ofString "text", a), (Str.ofString "at", d)] := by
  unfold putD; rw [if_neg ne_ta]; unfold putD; rw [if_pos rfl]
def flds (z : Str) (n : Nat) : List (Str × D) := [(Str.ofString "text", .str z), (Str.ofString "at", .int n)]
theorem ins_rdg {F L : Sto} {m n : Nat} {z : Str} (h : (F ++ L)[m]? = some (rdg z n)) : insAt F L 3 (.loc m) = some (m, flds z n) := by
  unfold insAt
  simp only [h, rdg, if_true, flds]
theorem sIx_n (n d k : Nat) : HT.sIx n d (some (k : Int)) = min k n := HT.sIx_nat n d k
theorem cut_mm (z : Str) (n m : Nat) : cutS z (some (n : Int)) (some (m : Int)) = mkS ((z.cps.toList.drop n).take (m - n)) := by
  unfold cutS
  rw [sIx_n, sIx_n]
  have hl : z.cps.toList.length = z.length := Array.length_toList
  congr 2
  by_cases h : n ≤ z.length
  · rw [Nat.min_eq_left h]
    by_cases h2 : m ≤ z.length
    · rw [Nat.min_eq_left h2]
    · rw [Nat.min_eq_right (by omega)]
      rw [List.take_of_length_le (by rw [List.length_drop]; omega), List.take_of_length_le (by rw [List.length_drop]; omega)]
  · rw [Nat.min_eq_right (Nat.le_of_not_le h)]
    have e1 : z.cps.toList.drop z.length = [] := List.drop_eq_nil_of_le (by omega)
    have e2 : z.cps.toList.drop n = [] := List.drop_eq_nil_of_le (by omega)
    rw [e1, e2]
    simp
theorem cut_one (z : Str) (n : Nat) : cutS z (some (n : Int)) (some ((n : Int) + 1)) = mkS ((z.cps.toList.drop n).take 1) := by
  have := cut_mm z n (n + 1)
  rw [Nat.add_sub_cancel_left] at this
  exact this
def isIn (s : Str) : Nat → Bool := fun c => decide (c ∈ s.cps.toList)
def hdP (p : Nat → Bool) : Cs → Bool
  | c :: _ => p c
  | [] => false
section
variable {fu k : Nat} {F L : Sto} {m n : Nat} {z : Str}
theorem l_sign (hz : lenOk z.length = true) (h : (F ++ L)[m]? = some (rdg z n)) : run fu (k + 1) 3 [.loc m] F L = .ok (.str (mkS ((z.cps.toList.drop n).take 1))) L := by
  show defM 1 (b_3 fu (run fu k)) [.loc m] F L = _
  simp only [defM, b_3, startD, retS, slM, fldM, getV, someP, op2, cM, List.map, List.replicate, List.length_cons, List.length_nil, Nat.sub_self, Nat.sub_zero, List.append_nil, List.getElem?_cons_zero, R.bind, insAt, h, rdg, lk_text, lk_at, liftO, if_true, addO, slO, hz, R.toS, SR.fin, cut_one]
theorem l_isat (hz : lenOk z.length = true) {sg : Str} (h : (F ++ L)[m]? = some (rdg z n)) : run fu (k + 2) 4 [.loc m, .str sg] F L = .ok (.bl (hdP (isIn sg) (z.cps.toList.drop n))) L := by
  have hs : run fu (k + 1) 3 [.loc m] (F ++ L) [] = .ok (.str (mkS ((z.cps.toList.drop n).take 1))) [] := l_sign hz (by rw [List.append_nil]; exact h)
  show defM 2 (b_4 fu (run fu (k + 1))) [.loc m, .str sg] F L = _
  cases e : z.cps.toList.drop n with
  | nil =>
    rw [e] at hs
    simp only [defM, b_4, startD, retS, andV, methM, moreA, nilA, callR, pureR, D.lt, fldM, getV, someP, op2, cM, List.map, List.replicate, List.length_cons, List.length_nil, Nat.sub_self, Nat.sub_zero, List.append_nil, List.getElem?_cons_zero, R.bind, insAt, h, rdg, lk_sign, if_true, hs, R.toS, SR.fin, neO]
    rfl
  | cons c r =>
    rw [e] at hs
    simp only [defM, b_4, startD, retS, andV, methM, moreA, nilA, callR, pureR, D.lt, fldM, getV, someP, op2, cM, List.map, List.replicate, List.length_cons, List.length_nil, Nat.sub_self, Nat.sub_zero, List.append_nil, List.getElem?_cons_zero, List.getElem?_cons_succ, R.bind, insAt, h, rdg, lk_sign, if_true, hs, R.toS, SR.fin, neO, inO, inB, truD, List.take]
    rfl
end
end K20
end SP1
section SP2
set_option Elab.async false
set_option linter.all false
set_option maxRecDepth 100000
set_option maxHeartbeats 4000000
namespace K20
open PySem L2 MI
section
variable {fu k : Nat} {F L : Sto} {m n q : Nat} {z : Str}
theorem at_q {o : MO} (h : L[q]? = some o) : (F ++ L)[F.length + q]? = some o := by
  rw [List.getElem?_append_right (Nat.le_add_right _ _), Nat.add_sub_cancel_left]; exact h
theorem wr_q {o : MO} : wrL F L (F.length + q) o = some (L.set q o) := by
  unfold wrL; rw [if_pos (Nat.le_add_right _ _), Nat.add_sub_cancel_left]
/-- nothing in it names a place -/
def Cl (L : Sto) : Prop := ∀ o ∈ L, ∀ n, MO.lt n o = true
theorem Cl.set {o : MO} (h : Cl L) (ho : ∀ n, MO.lt n o = true) : Cl (L.set q o) := fun x hx => by
  rcases List.mem_or_eq_of_mem_set hx with hx | rfl
  · exact h x hx
  · exact ho
theorem Cl.app {o : MO} (h : Cl L) (ho : ∀ n, MO.lt n o = true) : Cl (L ++ [o]) := fun x hx => by
  rcases List.mem_append.mp hx with hx | hx
  · exact h x hx
  · rw [List.mem_singleton.mp hx]; exact ho
theorem cl_rdg : ∀ i, MO.lt i (rdg z n) = true := fun i => rfl
theorem Cl.all (h : Cl L) (i j : Nat) : (L.take j).all (MO.lt i) = true := List.all_eq_true.mpr fun o ho => h o (List.mem_of_mem_take ho) i
theorem cut_ok {i j : Nat} {d : D} (hd : D.lt i d = true) (hl : j ≤ L.length) (h : Cl L) : cutR i j (.ok d L) = .ok d (L.take j) := by
  unfold cutR
  simp only [hd, decide_eq_true hl, h.all i j, Bool.and_self, if_true]
theorem cut_err {i j : Nat} {e : Exc} (hd : D.ltE i e = true) (hl : j ≤ L.length) (h : Cl L) : cutR i j (.err e L) = .err e (L.take j) := by
  unfold cutR
  simp only [hd, decide_eq_true hl, h.all i j, Bool.and_self, if_true]
theorem l_step {en : En} (he : en[0]? = some (.d (.loc (F.length + q)))) (h : L[q]? = some (rdg z n)) :
    augfS 3 (Str.ofString "at") iaddO (getV 0) (cM (.int 1)) F en L = .nx en (L.set q (rdg z (n + 1))) := by
  have h2 := at_q (F := F) h
  unfold rdg at h h2
  simp only [augfS, getV, he, R.toS, insAt, h2, if_true, lk_at, cM, R.bind, iaddO, put_at, wr_q, rdg, List.length_cons, List.length_nil]
  rfl
theorem set_set' {o o' : MO} : (L.set q o).set q o' = L.set q o' := List.set_set ..
theorem get_set {o : MO} (h : q < L.length) : (L.set q o)[q]? = some o := List.getElem?_set_self h
theorem lt_of_get {o : MO} (h : L[q]? = some o) : q < L.length := (List.getElem?_eq_some_iff.mp h).1
theorem set_self {o : MO} (h : L[q]? = some o) : L.set q o = L := by
  obtain ⟨h1, h2⟩ := List.getElem?_eq_some_iff.mp h
  subst h2
  exact List.set_getElem_self h1
/-- asks of the reading, as text has them -/
theorem m_isat (hz : lenOk z.length = true) {en : En} {fs : EM} {sg : Str} {d : D} (he : en[0]? = some (.d (.loc (F.length + q)))) (h : L[q]? = some (rdg z n)) (hf : fs F en L = .ok (.str sg) L) :
    methM 3 (Str.ofString "is_at") .pure 2 (run fu (k + 2) 4) (getV 0) (moreA [] (consA fs nilA)) F en L = .ok (.bl (hdP (isIn sg) (z.cps.toList.drop n))) L := by
  have h2 := at_q (F := F) h
  have hs : run fu (k + 2) 4 [.loc (F.length + q), .str sg] (F ++ L) [] = _ := l_isat hz (F := F ++ L) (L := []) (n := n) (by rw [List.append_nil]; exact h2)
  unfold rdg at h h2
  simp only [methM, getV, he, R.bind, insAt, h2, if_true, lk_isat, moreA, consA, nilA, hf, List.append_nil, callR, List.length_cons, List.length_nil, hs, pureR, D.lt]
theorem take_loop (hz : lenOk z.length = true) {sg : Str} : ∀ (r : Cs) (n f : Nat) (en : En) (L : Sto), z.cps.toList.drop n = r → r.length < f → en[0]? = some (.d (.loc (F.length + q))) → en[1]? = some (.d (.str sg)) → L[q]? = some (rdg z n) →
    whileM (truM (methM 3 (Str.ofString "is_at") .pure 2 (run fu (k + 2) 4) (getV 0) (moreA [] (consA (getV 1) nilA)))) (augfS 3 (Str.ofString "at") iaddO (getV 0) (cM (.int 1))) F f en L =
      .nx en (L.set q (rdg z (n + (r.takeWhile (isIn sg)).length)))
  | r, n, 0, _, _, _, hf, _, _, _ => absurd hf (Nat.not_lt_zero _)
  | r, n, f + 1, en, L, hr, hf, e0, e1, hL => by
    have hm := m_isat (fu := fu) (k := k) hz (F := F) (fs := getV 1) (sg := sg) (d := .non) e0 hL (by simp only [getV, e1])
    rw [hr] at hm
    unfold whileM
    cases r with
    | nil =>
      simp only [truM, hm, hdP, R.bind, truD, R.toS, Bool.false_eq_true, if_false, List.takeWhile, List.length_nil, Nat.add_zero]
      rw [set_self hL]
    | cons c r =>
      have hr2 : z.cps.toList.drop (n + 1) = r := by
        have := congrArg (List.drop 1) hr
        simpa [List.drop_drop] using this
      cases hc : isIn sg c with
      | false =>
        simp only [truM, hm, hdP, hc, R.bind, truD, R.toS, Bool.false_eq_true, if_false, List.takeWhile, List.length_nil, Nat.add_zero]
        rw [set_self hL]
      | true =>
        have hl := lt_of_get hL
        have ih := take_loop hz r (n + 1) f en (L.set q (rdg z (n + 1))) hr2 (by simpa using hf) e0 e1 (get_set hl)
        simp only [truM, hm, hdP, hc, R.bind, truD, R.toS, if_true, List.takeWhile, List.length_cons, l_step e0 hL, turnK]
        rw [ih, set_set']
        congr 2
        congr 1
        omega
end
end K20
end SP2
section SP3
set_option Elab.async false
set_option linter.all false
set_option maxRecDepth 100000
set_option maxHeartbeats 4000000
namespace K20
open PySem L2 MI
inductive PR where
  | fine (d : D) (n : Nat) (r : Cs) | bad (n : Nat)
abbrev FIG : Str := Str.ofString "0123456789"
abbrev SMA : Str := Str.ofString "abcdefghijklmnopqrstuvwxyz"
def pNum (neg : Bool) (n : Nat) (r : Cs) : PR :=
  if !(hdP (isIn FIG) r) || (neg && hdP (isIn (Str.ofString "0")) r) then .bad n
  else if hdP (isIn (Str.ofString "0")) r && decide (1 < (r.takeWhile (isIn FIG)).length) then .bad (n + 1)
  else if 20 < (r.takeWhile (isIn FIG)).length then .bad (n + 20)
  else .fine (.int (if neg then -(NumText.digitsVal (r.takeWhile (isIn FIG)) : Int) else NumText.digitsVal (r.takeWhile (isIn FIG)))) (n + (r.takeWhile (isIn FIG)).length) (r.dropWhile (isIn FIG))
def pInt (n : Nat) (r : Cs) : PR := if hdP (isIn (Str.ofString "-")) r then pNum true (n + 1) r.tail else pNum false n r
def xAt (n : Nat) : Exc := ⟨2, [Str.ofString "at"], [.int n]⟩
/-- what the reading answers -/
def Is (z : Str) (q : Nat) (L : Sto) (p : PR) (r : R D) : Prop :=
  match p with
  | .fine d n' _ => r = .ok d (L.set q (rdg z n'))
  | .bad n' => ∃ n'', r = .err (xAt n') (L.set q (rdg z n''))
theorem mem_tw {p : Nat → Bool} {c : Nat} : ∀ {r : Cs}, c ∈ r.takeWhile p → p c = true
  | [], h => by cases h
  | d :: r, h => by
    by_cases e : p d = true
    · rw [List.takeWhile_cons, if_pos e] at h
      rcases List.mem_cons.mp h with rfl | h
      · exact e
      · exact mem_tw h
    · rw [List.takeWhile_cons, if_neg e] at h
      cases h
theorem take_tw (p : Nat → Bool) : ∀ r : Cs, r.take (r.takeWhile p).length = r.takeWhile p
  | [] => rfl
  | c :: r => by
    by_cases h : p c = true
    · rw [List.takeWhile_cons, if_pos h, List.length_cons, List.take_succ_cons, take_tw p r]
    · rw [List.takeWhile_cons, if_neg h]; rfl
theorem drop_tw (p : Nat → Bool) : ∀ r : Cs, r.drop (r.takeWhile p).length = r.dropWhile p
  | [] => rfl
  | c :: r => by
    by_cases h : p c = true
    · rw [List.takeWhile_cons, if_pos h, List.length_cons, List.drop_succ_cons, drop_tw p r, List.dropWhile_cons, if_pos h]
    · rw [List.takeWhile_cons, if_neg h, List.dropWhile_cons, if_neg h]; rfl
theorem fig_all (r : Cs) : NumText.AllDigits (r.takeWhile (isIn FIG)) := fun c hc => by
  have h : isIn FIG c = true := mem_tw hc
  have h2 : c ∈ [48,49,50,51,52,53,54,55,56,57] := of_decide_eq_true h
  simp only [List.mem_cons, List.not_mem_nil, or_false] at h2
  omega
theorem int_read {ds : Cs} (h : NumText.AllDigits ds) (h1 : ds ≠ []) (h2 : ds.length ≤ 20) : intText? (mkS ds) = some ((NumText.digitsVal ds : Nat) : Int) :=
  intText_digits (x := mkS ds) h h1 (by show ds.toArray.size ≤ 4300; rw [List.size_toArray]; omega)
section
variable {fu k : Nat} {F L : Sto} {m n q : Nat} {z : Str}
theorem l_take (hz : lenOk z.length = true) {sg : Str} (hf : z.cps.toList.length < fu) (hL : L[q]? = some (rdg z n)) :
    run fu (k + 3) 5 [.loc (F.length + q), .str sg] F L = .ok (.str (mkS ((z.cps.toList.drop n).takeWhile (isIn sg)))) (L.set q (rdg z (n + ((z.cps.toList.drop n).takeWhile (isIn sg)).length))) := by
  have hl := lt_of_get hL
  have h2 := ins_rdg (at_q (F := F) hL)
  have h3 := ins_rdg <| at_q (F := F) (get_set (o := rdg z (n + ((z.cps.toList.drop n).takeWhile (isIn sg)).length)) hl)
  have lp := take_loop (fu := fu) (k := k) (F := F) (q := q) hz (sg := sg) (z.cps.toList.drop n) n fu [.d (.loc (F.length + q)), .d (.str sg), .d (.int n)] L rfl (by rw [List.length_drop]; omega) rfl rfl hL
  show defM 3 (b_5 fu (run fu (k + 2))) [.loc (F.length + q), .str sg] F L = _
  unfold b_5 whileS
  simp only [defM, startD, seqS, asgS, fldM, getV, List.map, List.replicate, List.length_cons, List.length_nil, Nat.reduceSub, Nat.reduceAdd, List.cons_append, List.nil_append, List.getElem?_cons_zero, R.bind, h2, flds, if_true, lk_at, liftO, R.toS, nameG, List.set_cons_succ, List.set_cons_zero, SR.next, lp, retS, slM, h3, lk_text, someP, List.getElem?_cons_succ, slO, hz, SR.fin, cut_mm, Nat.add_sub_cancel_left, take_tw]
theorem m_take (hz : lenOk z.length = true) {en : En} {fs : EM} {sg : Str} (hf : z.cps.toList.length < fu) (hc : Cl L) (he : en[0]? = some (.d (.loc (F.length + q)))) (h : L[q]? = some (rdg z n)) (hfs : fs F en L = .ok (.str sg) L) :
    methM 3 (Str.ofString "take") .gc 2 (run fu (k + 3) 5) (getV 0) (moreA [] (consA fs nilA)) F en L = .ok (.str (mkS ((z.cps.toList.drop n).takeWhile (isIn sg)))) (L.set q (rdg z (n + ((z.cps.toList.drop n).takeWhile (isIn sg)).length))) := by
  have h2 := ins_rdg (at_q (F := F) h)
  have hs := l_take (fu := fu) (k := k) (F := F) hz (sg := sg) hf h
  have hl : L.length ≤ (L.set q (rdg z (n + ((z.cps.toList.drop n).takeWhile (isIn sg)).length))).length := by rw [List.length_set]; exact Nat.le_refl _
  simp only [methM, getV, he, R.bind, h2, flds, if_true, lk_take, moreA, consA, nilA, hfs, List.append_nil, callR, List.length_cons, List.length_nil, hs]
  rw [cut_ok rfl hl (hc.set cl_rdg), List.take_of_length_le (by rw [List.length_set]; exact Nat.le_refl _)]
end
end K20
end SP3
section SP4
set_option Elab.async false
set_option linter.all false
set_option maxRecDepth 100000
set_option maxHeartbeats 4000000
namespace K20
open PySem L2 MI
def b6r (fu : Nat) (c : Nat → FM) : SM :=
    seqS (asgS (fldM 3 (Str.ofString "at") (getV 0)) (nameG 2))
    (seqS (ifS (orM (notM (truM (methM 3 (Str.ofString "is_at") .pure 2 (c 4) (getV 0) (moreA [] (consA (cM (.str (Str.ofString "0123456789"))) (nilA)))))) (andM (truM (getV 1)) (truM (methM 3 (Str.ofString "is_at") .pure 2 (c 4) (getV 0) (moreA [] (consA (cM (.str (Str.ofString "0"))) (nilA))))))) (raiseFS 2 (Str.ofString "at") (fldM 3 (Str.ofString "at") (getV 0))) (nilS))
    (seqS (asgS (methM 3 (Str.ofString "is_at") .pure 2 (c 4) (getV 0) (moreA [] (consA (cM (.str (Str.ofString "0"))) (nilA)))) (nameG 3))
    (seqS (asgS (methM 3 (Str.ofString "take") .gc 2 (c 5) (getV 0) (moreA [] (consA (cM (.str (Str.ofString "0123456789"))) (nilA)))) (nameG 4))
    (seqS (ifS (andM (truM (getV 3)) (tstM (op2 gtX (cbM lenG (consA (getV 4) (nilA))) (cM (.int 1))))) (raiseFS 2 (Str.ofString "at") (op2 addO (getV 2) (cM (.int 1)))) (nilS))
    (seqS (ifS (tstM (op2 gtX (cbM lenG (consA (getV 4) (nilA))) (cM (.int 20)))) (raiseFS 2 (Str.ofString "at") (op2 addO (getV 2) (cM (.int 20)))) (nilS))
    (retS (ifM (truM (getV 1)) (negO (cbM intG (consA (getV 4) (nilA)))) (cbM intG (consA (getV 4) (nilA))))))))))
theorem b6_eq (fu : Nat) (c : Nat → FM) : b_6 fu c = seqS (asgS (methM 3 (Str.ofString "is_at") .pure 2 (c 4) (getV 0) (moreA [] (consA (cM (.str (Str.ofString "-"))) (nilA)))) (nameG 1))
    (seqS (ifS (truM (getV 1)) (augfS 3 (Str.ofString "at") iaddO (getV 0) (cM (.int 1))) (nilS)) (b6r fu c)) := rfl
theorem mk_len (cs : Cs) : (mkS cs).length = cs.length := List.size_toArray ..
theorem tw_le (p : Nat → Bool) : ∀ r : Cs, (r.takeWhile p).length ≤ r.length
  | [] => Nat.le_refl _
  | c :: r => by
    by_cases h : p c = true
    · rw [List.takeWhile_cons, if_pos h, List.length_cons, List.length_cons]; exact Nat.succ_le_succ (tw_le p r)
    · rw [List.takeWhile_cons, if_neg h]; exact Nat.zero_le _
theorem tw_ne {p : Nat → Bool} : ∀ {r : Cs}, hdP p r = true → r.takeWhile p ≠ []
  | c :: r, h => by rw [List.takeWhile_cons, if_pos (show p c = true from h)]; intro z; cases z
section
variable {fu k : Nat} {F L : Sto} {m n q : Nat} {z : Str}
theorem len_tw (hz : lenOk z.length = true) (p : Nat → Bool) : lenOk (mkS ((z.cps.toList.drop n).takeWhile p)).length = true := by
  rw [mk_len]
  have h1 := tw_le p (z.cps.toList.drop n)
  have h2 : (z.cps.toList.drop n).length ≤ z.length := by rw [List.length_drop, Array.length_toList]; exact Nat.sub_le _ _
  have h3 : z.length ≤ 16777216 := of_decide_eq_true hz
  exact decide_eq_true (by omega)
theorem l_num (hz : lenOk z.length = true) (hf : z.cps.toList.length < fu) (hc : Cl L) (hL : L[q]? = some (rdg z n)) (neg : Bool) :
    Is z q L (pNum neg n (z.cps.toList.drop n)) (b6r fu (run fu (k + 3)) F [.d (.loc (F.length + q)), .d (.bl neg), .no, .no, .no] L).fin := by
  have hl := lt_of_get hL
  have h2 := ins_rdg (at_q (F := F) hL)
  have e0 : ∀ a b c d : Sl, ([.d (.loc (F.length + q)), a, b, c, d] : En)[0]? = some (.d (.loc (F.length + q))) := fun _ _ _ _ => rfl
  have q1 := fun a b c d => m_isat (fu := fu) (k := k + 1) hz (F := F) (fs := cM (.str (Str.ofString "0123456789"))) (sg := FIG) (d := .non) (e0 a b c d) hL rfl
  have q2 := fun a b c d => m_isat (fu := fu) (k := k + 1) hz (F := F) (fs := cM (.str (Str.ofString "0"))) (sg := Str.ofString "0") (d := .non) (e0 a b c d) hL rfl
  have q3 := fun a b c d => m_take (fu := fu) (k := k) hz (F := F) (fs := cM (.str (Str.ofString "0123456789"))) (sg := FIG) hf hc (e0 a b c d) hL rfl
  simp only [Nat.add_assoc, Nat.reduceAdd] at q1 q2
  have q4 := len_tw (n := n) hz (isIn FIG)
  unfold b6r pNum
  cases ha : hdP (isIn FIG) (z.cps.toList.drop n) with
  | false =>
    rw [ha] at q1
    refine ⟨n, ?_⟩
    simp only [seqS, asgS, fldM, getV, List.getElem?_cons_zero, R.bind, h2, flds, lk_at, liftO, R.toS, nameG, List.set_cons_succ, List.set_cons_zero, SR.next, ifS, MI.orM, MI.notM, truM, q1, truD, Bool.not_false, if_true, raiseFS, SR.fin, xAt]
    rw [set_self hL]
  | true =>
    rw [ha] at q1
    have hv := int_read (fig_all (z.cps.toList.drop n)) (tw_ne ha)
    cases hb : hdP (isIn (Str.ofString "0")) (z.cps.toList.drop n) with
    | true =>
      rw [hb] at q2
      cases neg with
      | true =>
        refine ⟨n, ?_⟩
        simp only [seqS, asgS, fldM, getV, List.getElem?_cons_zero, List.getElem?_cons_succ, R.bind, h2, flds, lk_at, liftO, R.toS, nameG, List.set_cons_succ, List.set_cons_zero, SR.next, ifS, MI.orM, MI.andM, MI.notM, truM, q1, q2, truD, Bool.not_true, Bool.false_eq_true, if_false, if_true, raiseFS, SR.fin, xAt]
        rw [set_self hL]
      | false =>
        by_cases hn : 1 < ((z.cps.toList.drop n).takeWhile (isIn FIG)).length
        · have hd : decide ((1 : Int) < ((mkS ((z.cps.toList.drop n).takeWhile (isIn FIG))).length : Int)) = true := by rw [mk_len]; exact decide_eq_true (by omega)
          rw [decide_eq_true hn]
          refine ⟨n + ((z.cps.toList.drop n).takeWhile (isIn FIG)).length, ?_⟩
          simp only [seqS, asgS, fldM, getV, List.getElem?_cons_zero, List.getElem?_cons_succ, R.bind, h2, flds, lk_at, liftO, R.toS, nameG, List.set_cons_succ, List.set_cons_zero, SR.next, ifS, MI.orM, MI.andM, MI.notM, truM, q1, q2, q3, truD, Bool.not_true, Bool.false_eq_true, if_false, if_true, raiseFS, SR.fin, xAt, nilS, tstM, op2, cbM, consA, nilA, lenG, q4, cM, gtX, cmpO, asB, hd, addO]
          rfl
        · have hd : decide ((1 : Int) < ((mkS ((z.cps.toList.drop n).takeWhile (isIn FIG))).length : Int)) = false := by rw [mk_len]; exact decide_eq_false (by omega)
          have h20 : ¬ 20 < ((z.cps.toList.drop n).takeWhile (isIn FIG)).length := by omega
          have hd2 : decide ((20 : Int) < ((mkS ((z.cps.toList.drop n).takeWhile (isIn FIG))).length : Int)) = false := by rw [mk_len]; exact decide_eq_false (by omega)
          have h640 : decide ((mkS ((z.cps.toList.drop n).takeWhile (isIn FIG))).length ≤ 640) = true := by rw [mk_len]; exact decide_eq_true (by omega)
          rw [decide_eq_false hn, if_neg h20]
          simp only [seqS, asgS, fldM, getV, List.getElem?_cons_zero, List.getElem?_cons_succ, R.bind, h2, flds, lk_at, liftO, R.toS, nameG, List.set_cons_succ, List.set_cons_zero, SR.next, ifS, MI.orM, MI.andM, MI.notM, truM, q1, q2, q3, truD, Bool.not_true, Bool.not_false, Bool.false_and, Bool.and_false, Bool.or_false, Bool.false_eq_true, if_false, if_true, raiseFS, SR.fin, xAt, nilS, tstM, op2, cbM, consA, nilA, lenG, q4, cM, gtX, cmpO, asB, hd, hd2, addO, retS, ifM, negO, intG, hv (by omega), h640, Is]
    | false =>
      rw [hb] at q2
      by_cases h20 : 20 < ((z.cps.toList.drop n).takeWhile (isIn FIG)).length
      · have hd2 : decide ((20 : Int) < ((mkS ((z.cps.toList.drop n).takeWhile (isIn FIG))).length : Int)) = true := by rw [mk_len]; exact decide_eq_true (by omega)
        rw [if_pos h20]
        cases neg
        all_goals
          refine ⟨n + ((z.cps.toList.drop n).takeWhile (isIn FIG)).length, ?_⟩
          simp only [seqS, asgS, fldM, getV, List.getElem?_cons_zero, List.getElem?_cons_succ, R.bind, h2, flds, lk_at, liftO, R.toS, nameG, List.set_cons_succ, List.set_cons_zero, SR.next, ifS, MI.orM, MI.andM, MI.notM, truM, q1, q2, q3, truD, Bool.not_true, Bool.not_false, Bool.false_and, Bool.and_false, Bool.or_false, Bool.false_eq_true, if_false, if_true, raiseFS, SR.fin, xAt, nilS, tstM, op2, cbM, consA, nilA, lenG, q4, cM, gtX, cmpO, asB, hd2, addO, retS, ifM, negO, intG]
          rfl
      · have hd2 : decide ((20 : Int) < ((mkS ((z.cps.toList.drop n).takeWhile (isIn FIG))).length : Int)) = false := by rw [mk_len]; exact decide_eq_false (by omega)
        have h640 : decide ((mkS ((z.cps.toList.drop n).takeWhile (isIn FIG))).length ≤ 640) = true := by rw [mk_len]; exact decide_eq_true (by omega)
        rw [if_neg h20]
        cases neg
        all_goals
          simp only [seqS, asgS, fldM, getV, List.getElem?_cons_zero, List.getElem?_cons_succ, R.bind, h2, flds, lk_at, liftO, R.toS, nameG, List.set_cons_succ, List.set_cons_zero, SR.next, ifS, MI.orM, MI.andM, MI.notM, truM, q1, q2, q3, truD, Bool.not_true, Bool.not_false, Bool.false_and, Bool.and_false, Bool.or_false, Bool.false_eq_true, if_false, if_true, raiseFS, SR.fin, xAt, nilS, tstM, op2, cbM, consA, nilA, lenG, q4, cM, gtX, cmpO, asB, hd2, addO, retS, ifM, negO, intG, hv (by omega), h640, Is]
end
end K20
end SP4
section SP5
set_option Elab.async false
set_option linter.all false
set_option maxRecDepth 100000
set_option maxHeartbeats 4000000
namespace K20
open PySem L2 MI
def pAtom (n : Nat) (r : Cs) : PR :=
  if hdP (isIn (Str.ofString ".")) r then .fine (.str (Str.ofString "")) (n + 1) r.tail
  else if hdP (isIn SMA) r then .fine (if mkS (r.takeWhile (isIn SMA)) = Str.ofString "none" then .non else .str (mkS (r.takeWhile (isIn SMA)))) (n + (r.takeWhile (isIn SMA)).length) (r.dropWhile (isIn SMA))
  else pInt n r
def pLoop (pt : Nat → Cs → PR) : Nat → List D → Nat → Cs → PR
  | 0, _, _, _ => .bad 0
  | f + 1, acc, n, r =>
    if hdP (isIn (Str.ofString ")")) r then .fine (.tup acc) (n + 1) r.tail
    else if !acc.isEmpty && !(hdP (isIn (Str.ofString " ")) r) then .bad n
    else match pt (if acc.isEmpty then n else n + 1) (if acc.isEmpty then r else r.tail) with
      | .bad m => .bad m
      | .fine d n2 r2 => pLoop pt f (acc ++ [d]) n2 r2
def pTerm (f : Nat) : Nat → Nat → Cs → PR
  | 0, n, r => if hdP (isIn (Str.ofString "(")) r then .bad n else pAtom n r
  | j + 1, n, r => if hdP (isIn (Str.ofString "(")) r then pLoop (pTerm f j) f [] (n + 1) r.tail else pAtom n r
/-- data of the kind that a text stands for: none, words, numbers of at most 20 figures -/
inductive Tm : Nat → D → Prop where
  | non {j} : Tm j .non
  | int {j i} : i.natAbs < 10 ^ 20 → Tm j (.int i)
  | str {j w} : (∀ c ∈ w.cps.toList, isIn SMA c = true) → Tm j (.str w)
  | tup {j ds} : (∀ d ∈ ds, Tm j d) → Tm (j + 1) (.tup ds)
theorem ltL_all {i : Nat} : ∀ {ds : List D}, (∀ d ∈ ds, D.lt i d = true) → D.ltL i ds = true
  | [], _ => rfl
  | d :: ds, h => by
    unfold D.ltL
    rw [h d (List.mem_cons_self ..), ltL_all fun e he => h e (List.mem_cons_of_mem _ he)]
    rfl
theorem Tm.lt {j : Nat} {d : D} (h : Tm j d) (i : Nat) : D.lt i d = true := by
  induction h with
  | non => rfl
  | int _ => rfl
  | str _ => rfl
  | tup _ ih => exact ltL_all ih
/-- what was read stands ahead of what is left -/
def Eaten (j : Nat) (n : Nat) (r : Cs) (p : PR) : Prop := ∀ d n2 r2, p = .fine d n2 r2 → ∃ c : Cs, c ≠ [] ∧ r = c ++ r2 ∧ n2 = n + c.length ∧ Tm j d
theorem hd_cons {p : Nat → Bool} : ∀ {r : Cs}, hdP p r = true → ∃ c, p c = true ∧ r = c :: r.tail
  | c :: r, h => ⟨c, h, rfl⟩
theorem tw_app (p : Nat → Bool) : ∀ r : Cs, r.takeWhile p ++ r.dropWhile p = r
  | [] => rfl
  | c :: r => by
    by_cases h : p c = true
    · rw [List.takeWhile_cons, if_pos h, List.dropWhile_cons, if_pos h, List.cons_append, tw_app p r]
    · rw [List.takeWhile_cons, if_neg h, List.dropWhile_cons, if_neg h]; rfl
theorem dv_lt : ∀ (ds : Cs) (a : Nat), NumText.AllDigits ds → ds.foldl (fun acc c => acc * 10 + (c - 48)) a < (a + 1) * 10 ^ ds.length
  | [], a, _ => by simp
  | c :: ds, a, h => by
    have hc := h c (List.mem_cons_self ..)
    have ih := dv_lt ds (a * 10 + (c - 48)) fun x hx => h x (List.mem_cons_of_mem _ hx)
    rw [List.foldl_cons, List.length_cons]
    refine Nat.lt_of_lt_of_le ih ?_
    rw [Nat.pow_succ, Nat.mul_comm (10 ^ ds.length) 10, ← Nat.mul_assoc]
    exact Nat.mul_le_mul_right _ (by omega)
theorem dv_20 {ds : Cs} (h : NumText.AllDigits ds) (hl : ds.length ≤ 20) : NumText.digitsVal ds < 10 ^ 20 := by
  have := dv_lt ds 0 h
  unfold NumText.digitsVal
  have h2 : 10 ^ ds.length ≤ 10 ^ 20 := Nat.pow_le_pow_right (by decide) hl
  rw [Nat.zero_add, Nat.one_mul] at this
  exact Nat.lt_of_lt_of_le this h2
theorem pNum_eaten {j : Nat} (neg : Bool) (n : Nat) (r : Cs) : Eaten j n r (pNum neg n r) := by
  intro d n2 r2 h
  unfold pNum at h
  split at h
  · cases h
  · split at h
    · cases h
    · split at h
      · cases h
      · rename_i h1 h2 h3
        cases h
        have hd : hdP (isIn FIG) r = true := by
          cases e : hdP (isIn FIG) r with
          | true => rfl
          | false => rw [e] at h1; exact absurd rfl h1
        refine ⟨_, tw_ne hd, (tw_app _ r).symm, rfl, .int ?_⟩
        have := dv_20 (fig_all r) (by omega)
        cases neg <;> (simp only [Bool.false_eq_true, if_false, if_true]; omega)
theorem Eaten.step {j n : Nat} {c : Nat} {r : Cs} {p : PR} (h : Eaten j (n + 1) r p) : Eaten j n (c :: r) p := fun d n2 r2 e => by
  obtain ⟨cs, h1, h2, h3, h4⟩ := h d n2 r2 e
  exact ⟨c :: cs, List.cons_ne_nil _ _, by rw [h2]; rfl, by rw [h3, List.length_cons]; omega, h4⟩
theorem pInt_eaten {j : Nat} (n : Nat) (r : Cs) : Eaten j n r (pInt n r) := by
  unfold pInt
  split
  · rename_i h
    obtain ⟨c, _, e⟩ := hd_cons h
    rw [e]
    exact (pNum_eaten true (n + 1) r.tail).step
  · exact pNum_eaten false n r
theorem pAtom_eaten {j : Nat} (n : Nat) (r : Cs) : Eaten j n r (pAtom n r) := by
  unfold pAtom
  split
  · rename_i h
    intro d n2 r2 e
    cases e
    obtain ⟨c, _, e⟩ := hd_cons h
    exact ⟨[c], List.cons_ne_nil _ _, e, rfl, .str fun c hc => nomatch (show c ∈ ([] : Cs) from hc)⟩
  · split
    · rename_i h
      intro d n2 r2 e
      cases e
      refine ⟨_, tw_ne h, (tw_app _ r).symm, rfl, ?_⟩
      split
      · exact .non
      · exact .str fun c hc => mem_tw (show c ∈ r.takeWhile (isIn SMA) from hc)
    · exact pInt_eaten n r
theorem pLoop_eaten {j : Nat} {pt : Nat → Cs → PR} (hp : ∀ n r, Eaten j n r (pt n r)) : ∀ (f : Nat) (acc : List D) (n : Nat) (r : Cs), (∀ d ∈ acc, Tm j d) → Eaten (j + 1) n r (pLoop pt f acc n r)
  | 0, _, _, _, _ => fun _ _ _ h => by unfold pLoop at h; cases h
  | f + 1, acc, n, r, ha => by
    intro d n2 r2 h
    unfold pLoop at h
    split at h
    · rename_i h1
      cases h
      obtain ⟨c, _, e⟩ := hd_cons h1
      exact ⟨[c], List.cons_ne_nil _ _, e, rfl, .tup ha⟩
    · split at h
      · cases h
      · rename_i h1 h2
        have key : ∀ (n1 : Nat) (r1 : Cs), (∃ c0 : Cs, r = c0 ++ r1 ∧ n1 = n + c0.length) → (match pt n1 r1 with | .bad m => PR.bad m | .fine d n2 r2 => pLoop pt f (acc ++ [d]) n2 r2) = .fine d n2 r2 →
            ∃ c : Cs, c ≠ [] ∧ r = c ++ r2 ∧ n2 = n + c.length ∧ Tm (j + 1) d := by
          rintro n1 r1 ⟨c0, e1, e2⟩ h
          split at h
          · cases h
          · rename_i d' n' r' e
            obtain ⟨c1, g1, g2, g3, g4⟩ := hp n1 r1 d' n' r' e
            obtain ⟨c2, k1, k2, k3, k4⟩ := pLoop_eaten hp f (acc ++ [d']) n' r' (fun x hx => by
              rcases List.mem_append.mp hx with hx | hx
              · exact ha x hx
              · rw [List.mem_singleton.mp hx]; exact g4) d n2 r2 h
            refine ⟨c0 ++ (c1 ++ c2), ?_, ?_, ?_, k4⟩
            · intro z
              have := congrArg List.length z
              simp at this
              exact g1 this.2.1
            · rw [e1, g2, k2, List.append_assoc, List.append_assoc]
            · rw [k3, g3, e2, List.length_append, List.length_append]; omega
        cases hE : acc.isEmpty with
        | true =>
          rw [hE] at h
          exact key n r ⟨[], rfl, rfl⟩ h
        | false =>
          rw [hE] at h
          have hs : hdP (isIn (Str.ofString " ")) r = true := by
            cases e : hdP (isIn (Str.ofString " ")) r with
            | true => rfl
            | false => rw [hE, e] at h2; exact absurd rfl h2
          obtain ⟨c, _, e⟩ := hd_cons hs
          exact key (n + 1) r.tail ⟨[c], e, rfl⟩ h
theorem Tm.up {j : Nat} {d : D} (h : Tm j d) : ∀ {i : Nat}, j ≤ i → Tm i d := by
  induction h with
  | non => intro i _; exact .non
  | int h => intro i _; exact .int h
  | str h => intro i _; exact .str h
  | @tup j ds _ ih =>
    intro i hi
    obtain ⟨i, rfl⟩ : ∃ m, i = m + 1 := ⟨i - 1, by omega⟩
    exact .tup fun d hd => ih d hd (by omega)
theorem pTerm_eaten (f : Nat) : ∀ (j n : Nat) (r : Cs), Eaten j n r (pTerm f j n r)
  | 0, n, r => by
    unfold pTerm
    split
    · intro d n2 r2 h; cases h
    · exact pAtom_eaten n r
  | j + 1, n, r => by
    unfold pTerm
    split
    · rename_i h
      obtain ⟨c, _, e⟩ := hd_cons h
      rw [e]
      exact (pLoop_eaten (pTerm_eaten f j) f [] (n + 1) r.tail (fun d hd => by cases hd)).step
    · exact pAtom_eaten n r
end K20
end SP5
section SP6
set_option Elab.async false
set_option linter.all false
set_option maxRecDepth 100000
set_option maxHeartbeats 4000000
namespace K20
open PySem L2 MI
/-- .. with what is left lying behind it -/
def IsX (z : Str) (q : Nat) (L : Sto) (p : PR) (r : R D) : Prop :=
  match p with
  | .fine d n' _ => ∃ T, Cl T ∧ r = .ok d (L.set q (rdg z n') ++ T)
  | .bad n' => ∃ n'' T, Cl T ∧ r = .err (xAt n') (L.set q (rdg z n'') ++ T)
theorem cl_nil : Cl [] := fun _ h => nomatch h
theorem Is.x {z : Str} {q : Nat} {L : Sto} {p : PR} {r : R D} (h : Is z q L p r) : IsX z q L p r := by
  cases p with
  | fine d n' r' => exact ⟨[], cl_nil, by rw [List.append_nil]; exact h⟩
  | bad n' => obtain ⟨m, e⟩ := h; exact ⟨m, [], cl_nil, by rw [List.append_nil]; exact e⟩
theorem cl_app {A B : Sto} (h : Cl A) (h2 : Cl B) : Cl (A ++ B) := fun o ho => (List.mem_append.mp ho).elim (h o) (h2 o)
theorem IsX.cut {z : Str} {q i : Nat} {L : Sto} {p : PR} {r : R D} (h : IsX z q L p r) (hc : Cl L) (hd : ∀ d n r, p = .fine d n r → D.lt i d = true) : Is z q L p (cutR i L.length r) := by
  cases p with
  | fine d n' r' =>
    obtain ⟨T, hT, e⟩ := h
    subst e
    show _ = R.ok d _
    rw [cut_ok (hd d n' r' rfl) (by rw [List.length_append, List.length_set]; omega) (cl_app (hc.set cl_rdg) hT)]
    rw [List.take_append_of_le_length (by rw [List.length_set]; exact Nat.le_refl _), List.take_of_length_le (by rw [List.length_set]; exact Nat.le_refl _)]
  | bad n' =>
    obtain ⟨m, T, hT, e⟩ := h
    subst e
    refine ⟨m, ?_⟩
    rw [cut_err rfl (by rw [List.length_append, List.length_set]; omega) (cl_app (hc.set cl_rdg) hT)]
    rw [List.take_append_of_le_length (by rw [List.length_set]; exact Nat.le_refl _), List.take_of_length_le (by rw [List.length_set]; exact Nat.le_refl _)]
theorem Is.set {z : Str} {q : Nat} {L : Sto} {o : MO} {p : PR} {r : R D} (h : Is z q (L.set q o) p r) : Is z q L p r := by
  cases p with
  | fine d n' r' => rw [show r = _ from h]; show R.ok d _ = _; rw [set_set']
  | bad n' => obtain ⟨m, e⟩ := h; exact ⟨m, by rw [e, set_set']⟩
theorem IsX.set {z : Str} {q : Nat} {L : Sto} {o : MO} {p : PR} {r : R D} (h : IsX z q (L.set q o) p r) : IsX z q L p r := by
  cases p with
  | fine d n' r' => obtain ⟨T, hT, e⟩ := h; exact ⟨T, hT, by rw [e, set_set']⟩
  | bad n' => obtain ⟨m, T, hT, e⟩ := h; exact ⟨m, T, hT, by rw [e, set_set']⟩
section
variable {fu k : Nat} {F L : Sto} {m n q : Nat} {z : Str}
theorem drop_s {cs : Cs} {n c : Nat} {r : Cs} (h : cs.drop n = c :: r) : cs.drop (n + 1) = r := by
  have := congrArg (List.drop 1) h
  simpa [List.drop_drop] using this
theorem tail_drop {cs : Cs} {n : Nat} {p : Nat → Bool} (h : hdP p (cs.drop n) = true) : (cs.drop n).tail = cs.drop (n + 1) := by
  obtain ⟨c, _, e⟩ := hd_cons h
  exact (drop_s e).symm
theorem l_integer (hz : lenOk z.length = true) (hf : z.cps.toList.length < fu) (hc : Cl L) (hL : L[q]? = some (rdg z n)) :
    Is z q L (pInt n (z.cps.toList.drop n)) (run fu (k + 4) 6 [.loc (F.length + q)] F L) := by
  have hl := lt_of_get hL
  have q1 := fun a b c d => m_isat (fu := fu) (k := k + 1) hz (F := F) (fs := cM (.str (Str.ofString "-"))) (sg := Str.ofString "-") (d := .non) (en := [.d (.loc (F.length + q)), a, b, c, d]) rfl hL rfl
  simp only [Nat.add_assoc, Nat.reduceAdd] at q1
  show Is z q L _ (defM 5 (b_6 fu (run fu (k + 3))) [.loc (F.length + q)] F L)
  rw [b6_eq]
  unfold pInt
  cases hm : hdP (isIn (Str.ofString "-")) (z.cps.toList.drop n) with
  | true =>
    rw [hm] at q1
    rw [if_pos rfl, tail_drop hm]
    have z1 := l_num (fu := fu) (k := k) (F := F) hz hf (hc.set (q := q) (cl_rdg (n := n + 1))) (get_set (o := rdg z (n + 1)) hl) true
    have st := fun b c d => l_step (F := F) (en := [.d (.loc (F.length + q)), .d (.bl true), b, c, d]) rfl hL
    simp only [defM, startD, seqS, asgS, List.map, List.replicate, List.length_cons, List.length_nil, Nat.reduceSub, Nat.reduceAdd, List.cons_append, List.nil_append, q1, R.toS, nameG, List.set_cons_succ, List.set_cons_zero, SR.next, ifS, truM, getV, List.getElem?_cons_succ, List.getElem?_cons_zero, R.bind, truD, if_true, st]
    exact z1.set
  | false =>
    rw [hm] at q1
    rw [if_neg Bool.false_ne_true]
    have z1 := l_num (fu := fu) (k := k) (F := F) hz hf hc hL false
    simp only [defM, startD, seqS, asgS, List.map, List.replicate, List.length_cons, List.length_nil, Nat.reduceSub, Nat.reduceAdd, List.cons_append, List.nil_append, q1, R.toS, nameG, List.set_cons_succ, List.set_cons_zero, SR.next, ifS, truM, getV, List.getElem?_cons_succ, List.getElem?_cons_zero, R.bind, truD, if_true, Bool.false_eq_true, if_false, nilS]
    exact z1
/-- a method that moves the reading, called on self -/
theorem m_move {i w : Nat} {nm : Str} {c : FM} {fa : AM} {ds : List D} {p : PR} {j : Nat} (hn : ∀ a b : D, lookD nm [(Str.ofString "text", a), (Str.ofString "at", b)] = none) {en : En} (hc : Cl L) (he : en[i]? = some (.d (.loc (F.length + q)))) (h : L[q]? = some (rdg z n)) (hfa : fa F en L = .ok ds L) (hw : ds.length + 1 = w)
    (hp : IsX z q L p (c (.loc (F.length + q) :: ds) F L)) (hE : ∀ d n r, p = .fine d n r → Tm j d) : Is z q L p (methM 3 nm .gc w c (getV i) (moreA [] fa) F en L) := by
  have h2 := ins_rdg (at_q (F := F) h)
  have z1 := hp.cut (i := F.length + L.length) hc fun d n r e => (hE d n r e).lt _
  simp only [methM, getV, he, R.bind, h2, flds, hn, moreA, hfa, List.append_nil, callR, List.length_cons, hw, if_true]
  exact z1
end
end K20
end SP6
section SP7
set_option Elab.async false
set_option linter.all false
set_option maxRecDepth 100000
set_option maxHeartbeats 4000000
namespace K20
open PySem L2 MI
section
variable {fu k : Nat} {F L : Sto} {m n q : Nat} {z : Str}
theorem l_term1 {dep j : Nat} {pE : PR} (hz : lenOk z.length = true) (hf : z.cps.toList.length < fu) (hc : Cl L) (hL : L[q]? = some (rdg z n)) (hp : hdP (isIn (Str.ofString "(")) (z.cps.toList.drop n) = true → dep ≠ 12 → IsX z q L pE (run fu (k + 4) 8 [.loc (F.length + q), .int ((dep : Int) + 1)] F L))
    (hE : ∀ d n r, pE = .fine d n r → Tm j d) : Is z q L (if hdP (isIn (Str.ofString "(")) (z.cps.toList.drop n) then (if dep = 12 then .bad n else pE) else pAtom n (z.cps.toList.drop n)) (run fu (k + 5) 7 [.loc (F.length + q), .int dep] F L) := by
  have hl := lt_of_get hL
  have h2 := ins_rdg (at_q (F := F) hL)
  have q1 := fun b c => m_isat (fu := fu) (k := k + 2) hz (F := F) (fs := cM (.str (Str.ofString "("))) (sg := Str.ofString "(") (d := .non) (en := [.d (.loc (F.length + q)), b, c]) rfl hL rfl
  have q2 := fun b c => m_isat (fu := fu) (k := k + 2) hz (F := F) (fs := cM (.str (Str.ofString "."))) (sg := Str.ofString ".") (d := .non) (en := [.d (.loc (F.length + q)), b, c]) rfl hL rfl
  have q3 := fun b c => m_isat (fu := fu) (k := k + 2) hz (F := F) (fs := cM (.str (Str.ofString "abcdefghijklmnopqrstuvwxyz"))) (sg := SMA) (d := .non) (en := [.d (.loc (F.length + q)), b, c]) rfl hL rfl
  have q4 := fun b c => m_take (fu := fu) (k := k + 1) hz (F := F) (fs := cM (.str (Str.ofString "abcdefghijklmnopqrstuvwxyz"))) (sg := SMA) hf hc (en := [.d (.loc (F.length + q)), b, c]) rfl hL rfl
  have q5 := fun b c => m_move (i := 0) (w := 1) (nm := Str.ofString "integer") (j := 0) (c := run fu (k + 4) 6) (fa := nilA) (ds := []) (F := F) (p := pInt n (z.cps.toList.drop n)) (en := [.d (.loc (F.length + q)), b, c]) (fun _ _ => lk_integer) hc rfl hL rfl rfl (l_integer (fu := fu) (k := k) (F := F) hz hf hc hL).x fun d n2 r2 e => by
    obtain ⟨_, _, _, _, t⟩ := pInt_eaten (j := 0) n _ d n2 r2 e
    exact t
  have st := fun b c => l_step (F := F) (en := [.d (.loc (F.length + q)), b, c]) rfl hL
  simp only [Nat.add_assoc, Nat.reduceAdd] at q1 q2 q3 q4
  show Is z q L _ (defM 3 (b_7 fu (run fu (k + 4))) [.loc (F.length + q), .int dep] F L)
  unfold b_7
  cases h1 : hdP (isIn (Str.ofString "(")) (z.cps.toList.drop n) with
  | true =>
    rw [h1] at q1
    rw [if_pos rfl]
    by_cases hd : dep = 12
    · rw [if_pos hd]
      subst hd
      refine ⟨n, ?_⟩
      simp only [defM, startD, seqS, List.map, List.replicate, List.length_cons, List.length_nil, Nat.reduceSub, Nat.reduceAdd, List.cons_append, List.nil_append, q1, R.toS, SR.next, ifS, truM, R.bind, truD, if_true, tstM, op2, getV, List.getElem?_cons_succ, List.getElem?_cons_zero, cM, eqO, asB, raiseFS, fldM, h2, flds, lk_at, liftO, SR.fin, xAt, Int.cast_ofNat_Int, decide_true]
      rw [set_self hL]
    · rw [if_neg hd]
      have hd2 : decide ((dep : Int) = 12) = false := decide_eq_false (by omega)
      have q6 := fun b => m_move (i := 0) (w := 2) (nm := Str.ofString "entries") (j := j) (c := run fu (k + 4) 8) (fa := consA (op2 addO (getV 1) (cM (.int 1))) nilA) (ds := [.int ((dep : Int) + 1)]) (F := F) (p := pE) (en := [.d (.loc (F.length + q)), .d (.int dep), b]) (fun _ _ => lk_entries) hc rfl hL rfl rfl (hp h1 hd) hE
      have q7 := q6 .no
      simp only [defM, startD, seqS, List.map, List.replicate, List.length_cons, List.length_nil, Nat.reduceSub, Nat.reduceAdd, List.cons_append, List.nil_append, q1, R.toS, SR.next, ifS, truM, R.bind, truD, if_true, tstM, op2, getV, List.getElem?_cons_succ, List.getElem?_cons_zero, cM, eqO, asB, hd2, Bool.false_eq_true, if_false, nilS, retS]
      cases pE with
      | fine d n' r' =>
        rw [show methM 3 (Str.ofString "entries") .gc 2 (run fu (k + 4) 8) (getV 0) (moreA [] (consA (op2 addO (getV 1) (cM (.int 1))) nilA)) F [.d (.loc (F.length + q)), .d (.int dep), .no] L = _ from q7]
        rfl
      | bad n' =>
        obtain ⟨n'', e⟩ := q7
        rw [e]
        exact ⟨n'', rfl⟩
  | false =>
    rw [h1] at q1
    rw [if_neg Bool.false_ne_true]
    unfold pAtom
    cases h3 : hdP (isIn (Str.ofString ".")) (z.cps.toList.drop n) with
    | true =>
      rw [h3] at q2
      rw [if_pos rfl]
      simp only [defM, startD, seqS, List.map, List.replicate, List.length_cons, List.length_nil, Nat.reduceSub, Nat.reduceAdd, List.cons_append, List.nil_append, q1, q2, R.toS, SR.next, ifS, truM, R.bind, truD, if_true, Bool.false_eq_true, if_false, nilS, st, retS, cM, SR.fin, Is]
    | false =>
      rw [h3] at q2
      rw [if_neg Bool.false_ne_true]
      cases h4 : hdP (isIn SMA) (z.cps.toList.drop n) with
      | true =>
        rw [h4] at q3
        rw [if_pos rfl]
        simp only [defM, startD, seqS, List.map, List.replicate, List.length_cons, List.length_nil, Nat.reduceSub, Nat.reduceAdd, List.cons_append, List.nil_append, q1, q2, q3, q4, R.toS, SR.next, ifS, truM, R.bind, truD, if_true, Bool.false_eq_true, if_false, nilS, retS, cM, asgS, nameG, List.set_cons_succ, List.set_cons_zero, ifM, tstM, op2, getV, List.getElem?_cons_succ, List.getElem?_cons_zero, eqO, asB, Is]
        by_cases hn : mkS ((z.cps.toList.drop n).takeWhile (isIn SMA)) = Str.ofString "none"
        · simp only [hn, decide_true, if_true, SR.fin]
        · simp only [hn, decide_false, Bool.false_eq_true, if_false, SR.fin]
      | false =>
        rw [h4] at q3
        rw [if_neg Bool.false_ne_true]
        have q7 := q5 (.d (.int dep)) .no
        simp only [defM, startD, seqS, List.map, List.replicate, List.length_cons, List.length_nil, Nat.reduceSub, Nat.reduceAdd, List.cons_append, List.nil_append, q1, q2, q3, R.toS, SR.next, ifS, truM, R.bind, truD, if_true, Bool.false_eq_true, if_false, nilS, retS]
        generalize pInt n (z.cps.toList.drop n) = pI at q7 ⊢
        cases pI with
        | fine d n' r' =>
          rw [show methM 3 (Str.ofString "integer") .gc 1 (run fu (k + 4) 6) (getV 0) (moreA [] nilA) F [.d (.loc (F.length + q)), .d (.int dep), .no] L = _ from q7]
          rfl
        | bad n' =>
          obtain ⟨n'', e⟩ := q7
          rw [e]
          exact ⟨n'', rfl⟩
end
end K20
end SP7
section SP8
set_option Elab.async false
set_option linter.all false
set_option maxRecDepth 100000
set_option maxHeartbeats 4000000
namespace K20
open PySem L2 MI
def entC (c : Nat → FM) : TM := MI.notM (truM (methM 3 (Str.ofString "is_at") .pure 2 (c 4) (getV 0) (moreA [] (consA (cM (.str (Str.ofString ")"))) (nilA)))))
def entB (c : Nat → FM) : SM := seqS (ifS (truM (getV 2)) (seqS (ifS (MI.notM (truM (methM 3 (Str.ofString "is_at") .pure 2 (c 4) (getV 0) (moreA [] (consA (cM (.str (Str.ofString " "))) (nilA)))))) (raiseFS 2 (Str.ofString "at") (fldM 3 (Str.ofString "at") (getV 0))) (nilS))
    (augfS 3 (Str.ofString "at") iaddO (getV 0) (cM (.int 1)))) (nilS))
    (dropS (bmM "list" appendB (getV 2) (consA (methM 3 (Str.ofString "term") .gc 2 (c 7) (getV 0) (moreA [] (consA (getV 1) (nilA)))) (nilA))))
theorem b8_eq (fu : Nat) (c : Nat → FM) : b_8 fu c = seqS (augfS 3 (Str.ofString "at") iaddO (getV 0) (cM (.int 1)))
    (seqS (asgS (lstM (nilA)) (nameG 2))
    (seqS (whileS fu (entC c) (entB c))
    (seqS (augfS 3 (Str.ofString "at") iaddO (getV 0) (cM (.int 1)))
    (retS (cbM tupG' (consA (getV 2) (nilA))))))) := rfl
section
variable {fu k : Nat} {F L : Sto} {m n q : Nat} {z : Str}
theorem cl_tms {j : Nat} {acc : List D} (h : ∀ d ∈ acc, Tm j d) : Cl [.lst acc] := fun o ho i => by
  rw [List.mem_singleton.mp ho]
  exact ltL_all fun d hd => (h d hd).lt i
theorem lst_end {A : Sto} {acc : List D} : lstAt F (A ++ [.lst acc]) (F.length + A.length) = some acc := by
  have e : (F ++ (A ++ [MO.lst acc]))[F.length + A.length]? = some (.lst acc) := at_q (by simp)
  unfold lstAt
  rw [e]
theorem get_app {A B : Sto} {o : MO} (h : A[q]? = some o) : (A ++ B)[q]? = some o := by
  rw [List.getElem?_append_left (lt_of_get h)]; exact h
theorem set_app {A B : Sto} {o : MO} (h : q < A.length) : (A ++ B).set q o = A.set q o ++ B := List.set_append_left _ _ h
/-- the loop of entries -/
theorem ent_loop {dep j : Nat} {pt : Nat → Cs → PR} (hz : lenOk z.length = true)
    (hp : ∀ n r, Eaten j n r (pt n r)) (ht : ∀ (n : Nat) (L : Sto), Cl L → L[q]? = some (rdg z n) → Is z q L (pt n (z.cps.toList.drop n)) (run fu (k + 3) 7 [.loc (F.length + q), .int dep] F L)) :
    ∀ (f : Nat) (acc : List D) (n : Nat) (A : Sto), Cl A → A[q]? = some (rdg z n) → (∀ d ∈ acc, Tm j d) → acc.length < n → (z.cps.toList.drop n).length < f → n ≤ z.length →
      (∃ n0 acc0, n0 < z.length ∧ (∀ d ∈ acc0, Tm j d) ∧ pLoop pt f acc n (z.cps.toList.drop n) = .fine (.tup acc0) (n0 + 1) (z.cps.toList.drop (n0 + 1)) ∧
        whileM (entC (run fu (k + 3))) (entB (run fu (k + 3))) F f [.d (.loc (F.length + q)), .d (.int dep), .d (.loc (F.length + A.length))] (A ++ [.lst acc]) = .nx [.d (.loc (F.length + q)), .d (.int dep), .d (.loc (F.length + A.length))] (A.set q (rdg z n0) ++ [.lst acc0])) ∨
      (∃ mm n0 acc0 en, (∀ d ∈ acc0, Tm j d) ∧ pLoop pt f acc n (z.cps.toList.drop n) = .bad mm ∧
        whileM (entC (run fu (k + 3))) (entB (run fu (k + 3))) F f [.d (.loc (F.length + q)), .d (.int dep), .d (.loc (F.length + A.length))] (A ++ [.lst acc]) = .err (xAt mm) en (A.set q (rdg z n0) ++ [.lst acc0]))
  | 0, _, _, _, _, _, _, _, hf, _ => absurd hf (Nat.not_lt_zero _)
  | f + 1, acc, n, A, hc, hA, ha, hn, hf, hnz => by
    have hl := lt_of_get hA
    have hL : (A ++ [MO.lst acc])[q]? = some (rdg z n) := get_app hA
    have h2 := ins_rdg (at_q (F := F) hL)
    have hcl : Cl (A ++ [MO.lst acc]) := cl_app hc (cl_tms ha)
    have q1 := fun b c => m_isat (fu := fu) (k := k + 1) hz (F := F) (fs := cM (.str (Str.ofString ")"))) (sg := Str.ofString ")") (d := .non) (en := [.d (.loc (F.length + q)), b, c]) rfl hL rfl
    have q2 := fun b c => m_isat (fu := fu) (k := k + 1) hz (F := F) (fs := cM (.str (Str.ofString " "))) (sg := Str.ofString " ") (d := .non) (en := [.d (.loc (F.length + q)), b, c]) rfl hL rfl
    simp only [Nat.add_assoc, Nat.reduceAdd] at q1 q2
    have le := lst_end (F := F) (A := A) (acc := acc)
    unfold pLoop whileM
    cases h1 : hdP (isIn (Str.ofString ")")) (z.cps.toList.drop n) with
    | true =>
      rw [h1] at q1
      refine .inl ⟨n, acc, ?_, ha, ?_, ?_⟩
      · obtain ⟨c, _, e⟩ := hd_cons h1
        have := congrArg List.length e
        rw [List.length_drop, Array.length_toList, List.length_cons] at this
        show n < z.cps.size
        omega
      · rw [if_pos rfl, tail_drop h1]
      · simp only [entC, MI.notM, truM, q1, R.bind, truD, R.toS, Bool.not_true, Bool.false_eq_true, if_false]
        rw [set_self hA]
    | false =>
      rw [h1] at q1
      rw [if_neg Bool.false_ne_true]
      -- the term, its place known
      have go : ∀ (n1 : Nat), n1 ≤ z.length → n ≤ n1 → n1 ≤ n + 1 → (∀ x, entB (run fu (k + 3)) F [.d (.loc (F.length + q)), .d (.int dep), .d (.loc (F.length + A.length))] (A ++ [.lst acc]) = x →
            x = dropS (bmM "list" appendB (getV 2) (consA (methM 3 (Str.ofString "term") .gc 2 (run fu (k + 3) 7) (getV 0) (moreA [] (consA (getV 1) (nilA)))) (nilA))) F [.d (.loc (F.length + q)), .d (.int dep), .d (.loc (F.length + A.length))] (A.set q (rdg z n1) ++ [.lst acc])) →
          (∃ n0 acc0, n0 < z.length ∧ (∀ d ∈ acc0, Tm j d) ∧ (match pt n1 (z.cps.toList.drop n1) with | .bad m => PR.bad m | .fine d n2 r2 => pLoop pt f (acc ++ [d]) n2 r2) = .fine (.tup acc0) (n0 + 1) (z.cps.toList.drop (n0 + 1)) ∧
            turnK (entB (run fu (k + 3)) F [.d (.loc (F.length + q)), .d (.int dep), .d (.loc (F.length + A.length))] (A ++ [.lst acc])) (fun en2 L2 => whileM (entC (run fu (k + 3))) (entB (run fu (k + 3))) F f en2 L2) = .nx [.d (.loc (F.length + q)), .d (.int dep), .d (.loc (F.length + A.length))] (A.set q (rdg z n0) ++ [.lst acc0])) ∨
          (∃ mm n0 acc0 en, (∀ d ∈ acc0, Tm j d) ∧ (match pt n1 (z.cps.toList.drop n1) with | .bad m => PR.bad m | .fine d n2 r2 => pLoop pt f (acc ++ [d]) n2 r2) = .bad mm ∧
            turnK (entB (run fu (k + 3)) F [.d (.loc (F.length + q)), .d (.int dep), .d (.loc (F.length + A.length))] (A ++ [.lst acc])) (fun en2 L2 => whileM (entC (run fu (k + 3))) (entB (run fu (k + 3))) F f en2 L2) = .err (xAt mm) en (A.set q (rdg z n0) ++ [.lst acc0])) := by
        intro n1 hn1 hnn hnn2 hx
        rw [hx _ rfl]
        have hc1 : Cl (A.set q (rdg z n1) ++ [MO.lst acc]) := cl_app (hc.set cl_rdg) (cl_tms ha)
        have hA1 : (A.set q (rdg z n1))[q]? = some (rdg z n1) := get_set hl
        have hL1 : (A.set q (rdg z n1) ++ [MO.lst acc])[q]? = some (rdg z n1) := get_app hA1
        have len1 : (A.set q (rdg z n1)).length = A.length := List.length_set ..
        have le1 := lst_end (F := F) (A := A.set q (rdg z n1)) (acc := acc)
        rw [len1] at le1
        have t1 := m_move (i := 0) (w := 2) (nm := Str.ofString "term") (j := j) (c := run fu (k + 3) 7) (fa := consA (getV 1) nilA) (ds := [.int dep]) (F := F) (p := pt n1 (z.cps.toList.drop n1)) (en := [.d (.loc (F.length + q)), .d (.int dep), .d (.loc (F.length + A.length))])
          (fun _ _ => lk_term) hc1 rfl hL1 rfl rfl (ht n1 _ hc1 hL1).x fun d n2 r2 e => by
            obtain ⟨_, _, _, _, t⟩ := hp n1 _ d n2 r2 e
            exact t
        have ty : tyOk "list" F (A.set q (rdg z n1) ++ [.lst acc]) (.loc (F.length + A.length)) = true := by
          show (("list" == "list") && (lstAt F _ _).isSome) = true
          rw [le1]; rfl
        cases e : pt n1 (z.cps.toList.drop n1) with
        | bad mm =>
          rw [e] at t1
          obtain ⟨n'', t2⟩ := t1
          refine .inr ⟨mm, n'', acc, [.d (.loc (F.length + q)), .d (.int dep), .d (.loc (F.length + A.length))], ha, rfl, ?_⟩
          simp only [dropS, bmM, getV, List.getElem?_cons_succ, List.getElem?_cons_zero, R.bind, ty, if_true, consA]
          rw [show methM 3 (Str.ofString "term") .gc 2 (run fu (k + 3) 7) (getV 0) (moreA [] (consA (getV 1) nilA)) F [.d (.loc (F.length + q)), .d (.int dep), .d (.loc (F.length + A.length))] (A.set q (rdg z n1) ++ [.lst acc]) = _ from t2]
          simp only [R.toS, turnK]
          rw [set_app (by rw [len1]; exact hl), set_set']
        | fine d n2 r2 =>
          rw [e] at t1
          obtain ⟨c, c1, c2, c3, c4⟩ := hp n1 _ d n2 r2 e
          have hr2 : r2 = z.cps.toList.drop n2 := by
            rw [c3, ← List.drop_drop, c2]
            simp
          have hlen : c.length + r2.length = z.length - n1 := by
            have := congrArg List.length c2
            rw [List.length_drop, Array.length_toList, List.length_append] at this
            show _ = z.cps.size - n1
            omega
          have cpos : 0 < c.length := List.length_pos_iff.mpr c1
          have t2 : methM 3 (Str.ofString "term") .gc 2 (run fu (k + 3) 7) (getV 0) (moreA [] (consA (getV 1) nilA)) F [.d (.loc (F.length + q)), .d (.int dep), .d (.loc (F.length + A.length))] (A.set q (rdg z n1) ++ [.lst acc]) = .ok d (A.set q (rdg z n2) ++ [.lst acc]) := by
            rw [show methM 3 (Str.ofString "term") .gc 2 (run fu (k + 3) 7) (getV 0) (moreA [] (consA (getV 1) nilA)) F [.d (.loc (F.length + q)), .d (.int dep), .d (.loc (F.length + A.length))] (A.set q (rdg z n1) ++ [.lst acc]) = _ from t1]
            rw [set_app (by rw [len1]; exact hl), set_set']
          have len2 : (A.set q (rdg z n2)).length = A.length := List.length_set ..
          have le2 := lst_end (F := F) (A := A.set q (rdg z n2)) (acc := acc)
          rw [len2] at le2
          have ow : ownL F (A.set q (rdg z n2) ++ [.lst acc]) (.loc (F.length + A.length)) = some (F.length + A.length, acc) := by
            unfold ownL
            simp only [Nat.le_add_right, if_true, le2, Option.map]
          have zl : z.length ≤ 16777216 := of_decide_eq_true hz
          have hlt : decide (acc.length < 16777216) = true := decide_eq_true (by omega)
          have st : (A.set q (rdg z n2) ++ [MO.lst acc]).set A.length (.lst (acc ++ [d])) = A.set q (rdg z n2) ++ [.lst (acc ++ [d])] := by
            rw [List.set_append_right _ _ (by rw [len2]; exact Nat.le_refl _), len2, Nat.sub_self]
            rfl
          have ih := ent_loop hz hp ht f (acc ++ [d]) n2 (A.set q (rdg z n2)) (hc.set cl_rdg) (get_set hl) (fun x hx => by
            rcases List.mem_append.mp hx with hx | hx
            · exact ha x hx
            · rw [List.mem_singleton.mp hx]; exact c4) (by rw [List.length_append, List.length_singleton]; omega) (by rw [← hr2]; rw [List.length_drop, Array.length_toList] at hf; show r2.length < f; have : z.cps.size = z.length := rfl; omega) (by omega)
          rw [len2, ← hr2] at ih
          have bd : dropS (bmM "list" appendB (getV 2) (consA (methM 3 (Str.ofString "term") .gc 2 (run fu (k + 3) 7) (getV 0) (moreA [] (consA (getV 1) nilA))) nilA)) F [.d (.loc (F.length + q)), .d (.int dep), .d (.loc (F.length + A.length))] (A.set q (rdg z n1) ++ [.lst acc])
              = .nx [.d (.loc (F.length + q)), .d (.int dep), .d (.loc (F.length + A.length))] (A.set q (rdg z n2) ++ [.lst (acc ++ [d])]) := by
            simp only [dropS, bmM, getV, List.getElem?_cons_succ, List.getElem?_cons_zero, R.bind, ty, if_true, consA, t2, nilA, appendB, ow, hlt, setL, Nat.add_sub_cancel_left, st, R.toS]
          rw [bd]
          simp only [turnK]
          rcases ih with ⟨n0, acc0, i1, i2, i3, i4⟩ | ⟨mm, n0, acc0, en, i2, i3, i4⟩
          · exact .inl ⟨n0, acc0, i1, i2, i3, by rw [i4, set_set']⟩
          · exact .inr ⟨mm, n0, acc0, en, i2, i3, by rw [i4, set_set']⟩
      have cond : entC (run fu (k + 3)) F [.d (.loc (F.length + q)), .d (.int dep), .d (.loc (F.length + A.length))] (A ++ [.lst acc]) = .ok true (A ++ [.lst acc]) := by
        simp only [entC, MI.notM, truM, q1, R.bind, truD, Bool.not_false]
      rw [cond]
      simp only [R.toS, if_true]
      have tr : truM (getV 2) F [.d (.loc (F.length + q)), .d (.int dep), .d (.loc (F.length + A.length))] (A ++ [.lst acc]) = .ok (!acc.isEmpty) (A ++ [.lst acc]) := by
        simp only [truM, getV, List.getElem?_cons_succ, List.getElem?_cons_zero, R.bind, truD, itemsD, le, Option.map]
      cases hE : acc.isEmpty with
      | true =>
        rw [hE] at tr
        refine go n hnz (Nat.le_refl _) (Nat.le_succ _) ?_
        rintro x rfl
        simp only [entB, seqS, ifS, tr, R.toS, Bool.not_true, Bool.false_eq_true, if_false, nilS, SR.next]
        rw [set_self hA]
      | false =>
        rw [hE] at tr
        cases h3 : hdP (isIn (Str.ofString " ")) (z.cps.toList.drop n) with
        | false =>
          rw [h3] at q2
          refine .inr ⟨n, n, acc, [.d (.loc (F.length + q)), .d (.int dep), .d (.loc (F.length + A.length))], ha, rfl, ?_⟩
          simp only [entB, seqS, ifS, tr, R.toS, Bool.not_false, if_true]
          simp only [MI.notM, truM, q2, R.bind, truD, R.toS, Bool.not_false, if_true, raiseFS, fldM, getV, List.getElem?_cons_zero, h2, flds, lk_at, liftO, SR.next, turnK, xAt]
          rw [set_self hA]
        | true =>
          rw [h3] at q2
          have sl := fun b c => l_step (F := F) (en := [.d (.loc (F.length + q)), b, c]) rfl hL
          have hlt : n + 1 ≤ z.length := by
            obtain ⟨c, _, e⟩ := hd_cons h3
            have := congrArg List.length e
            rw [List.length_drop, Array.length_toList, List.length_cons] at this
            show n + 1 ≤ z.cps.size
            omega
          have := go (n + 1) hlt (Nat.le_succ _) (Nat.le_refl _) (by
            rintro x rfl
            simp only [entB, seqS, ifS, tr, R.toS, Bool.not_false, if_true]
            simp only [MI.notM, truM, q2, R.bind, truD, R.toS, Bool.not_true, Bool.false_eq_true, if_false, nilS, SR.next, sl]
            rw [set_app hl])
          rw [← tail_drop h3] at this
          exact this
end
end K20
end SP8
section SP9
set_option Elab.async false
set_option linter.all false
set_option maxRecDepth 100000
set_option maxHeartbeats 4000000
namespace K20
open PySem L2 MI
section
variable {fu k : Nat} {F L : Sto} {m n q : Nat} {z : Str}
theorem l_ent {dep j : Nat} {pt : Nat → Cs → PR} (hz : lenOk z.length = true) (hf : z.length < fu) (hc : Cl L) (hL : L[q]? = some (rdg z n)) (hn : n < z.length)
    (hp : ∀ n r, Eaten j n r (pt n r)) (ht : ∀ (n : Nat) (L : Sto), Cl L → L[q]? = some (rdg z n) → Is z q L (pt n (z.cps.toList.drop n)) (run fu (k + 3) 7 [.loc (F.length + q), .int dep] F L)) :
    IsX z q L (pLoop pt fu [] (n + 1) (z.cps.toList.drop (n + 1))) (run fu (k + 4) 8 [.loc (F.length + q), .int dep] F L) := by
  have hl := lt_of_get hL
  have st := fun b c => l_step (F := F) (en := [.d (.loc (F.length + q)), b, c]) rfl hL
  have len1 : (L.set q (rdg z (n + 1))).length = L.length := List.length_set ..
  have lp := ent_loop (fu := fu) (k := k) (F := F) (q := q) (dep := dep) hz hp ht fu [] (n + 1) (L.set q (rdg z (n + 1))) (hc.set cl_rdg) (get_set hl) (fun d hd => nomatch hd) (Nat.succ_pos _) (by rw [List.length_drop, Array.length_toList]; have : z.cps.size = z.length := rfl; omega) hn
  rw [len1] at lp
  show IsX z q L _ (defM 3 (b_8 fu (run fu (k + 3))) [.loc (F.length + q), .int dep] F L)
  rw [b8_eq]
  have ln : lenOk 0 = true := rfl
  rcases lp with ⟨n0, acc0, i1, i2, i3, i4⟩ | ⟨mm, n0, acc0, en, i2, i3, i4⟩
  · rw [i3]
    refine ⟨[.lst acc0], cl_tms i2, ?_⟩
    have hA0 : ((L.set q (rdg z (n + 1))).set q (rdg z n0))[q]? = some (rdg z n0) := get_set (by rw [len1]; exact hl)
    have st2 := fun b c => l_step (F := F) (L := (L.set q (rdg z (n + 1))).set q (rdg z n0) ++ [.lst acc0]) (en := [.d (.loc (F.length + q)), b, c]) rfl (get_app hA0)
    have le := lst_end (F := F) (A := L.set q (rdg z (n0 + 1))) (acc := acc0)
    rw [List.length_set] at le
    have e1 : (((L.set q (rdg z (n + 1))).set q (rdg z n0) ++ [MO.lst acc0]).set q (rdg z (n0 + 1))) = L.set q (rdg z (n0 + 1)) ++ [.lst acc0] := by
      rw [set_app (by rw [List.length_set, len1]; exact hl), set_set', set_set']
    rw [e1] at st2
    simp only [defM, startD, seqS, List.map, List.replicate, List.length_cons, List.length_nil, Nat.reduceSub, Nat.reduceAdd, List.cons_append, List.nil_append, st, SR.next, asgS, lstM, nilA, R.bind, ln, if_true, newO, len1, R.toS, nameG, List.set_cons_succ, List.set_cons_zero, whileS, i4, st2, retS, cbM, consA, getV, List.getElem?_cons_succ, List.getElem?_cons_zero, tupG', listD, le, SR.fin]
  · rw [i3]
    refine ⟨n0, [.lst acc0], cl_tms i2, ?_⟩
    simp only [defM, startD, seqS, List.map, List.replicate, List.length_cons, List.length_nil, Nat.reduceSub, Nat.reduceAdd, List.cons_append, List.nil_append, st, SR.next, asgS, lstM, nilA, R.bind, ln, if_true, newO, len1, R.toS, nameG, List.set_cons_succ, List.set_cons_zero, whileS, i4, SR.fin]
    rw [set_set']
theorem l_term (hz : lenOk z.length = true) (hf : z.length < fu) : ∀ (j k dep n : Nat) (L : Sto), dep + j = 12 → Cl L → L[q]? = some (rdg z n) →
    Is z q L (pTerm fu j n (z.cps.toList.drop n)) (run fu (k + 5 + 2 * j) 7 [.loc (F.length + q), .int dep] F L)
  | 0, k, dep, n, L, hd, hc, hL => by
    have z1 := l_term1 (fu := fu) (k := k) (F := F) (dep := dep) (j := 0) (pE := .bad 0) hz (by rw [Array.length_toList]; exact hf) hc hL (fun _ h => absurd (by omega) h) (fun d n r h => by cases h)
    rw [if_pos (show dep = 12 by omega)] at z1
    unfold pTerm
    exact z1
  | j + 1, k, dep, n, L, hd, hc, hL => by
    have z1 := l_term1 (fu := fu) (k := k + 2 * j + 2) (F := F) (dep := dep) (j := j + 1) (pE := pLoop (pTerm fu j) fu [] (n + 1) (z.cps.toList.drop (n + 1))) hz (by rw [Array.length_toList]; exact hf) hc hL (fun h1 h => by
        have hn : n < z.length := by
          obtain ⟨c, _, e⟩ := hd_cons h1
          have := congrArg List.length e
          rw [List.length_drop, Array.length_toList, List.length_cons] at this
          show n < z.cps.size
          omega
        have z2 := l_ent (fu := fu) (k := k + 2 * j + 2) (F := F) (q := q) (dep := dep + 1) hz hf hc hL hn (pTerm_eaten fu j) fun n L hc hL => by
          have := l_term hz hf j k (dep + 1) n L (by omega) hc hL
          rw [show k + 2 * j + 2 + 3 = k + 5 + 2 * j by omega]
          exact this
        exact z2) (fun d n2 r2 h => by
        obtain ⟨_, _, _, _, t⟩ := pLoop_eaten (pTerm_eaten fu j) fu [] (n + 1) _ (fun d hd => nomatch hd) d n2 r2 h
        exact t)
    rw [if_neg (show ¬ dep = 12 by omega)] at z1
    unfold pTerm
    rw [show k + 5 + 2 * (j + 1) = k + 2 * j + 2 + 5 by omega]
    cases h : hdP (isIn (Str.ofString "(")) (z.cps.toList.drop n) with
    | true => rw [h] at z1; rw [tail_drop h]; exact z1
    | false => rw [h] at z1; exact z1
end
end K20
end SP9
section SP10
set_option Elab.async false
set_option linter.all false
set_option maxRecDepth 100000
set_option maxHeartbeats 4000000
namespace K20
open PySem L2 MI
section
variable {fu k : Nat} {F L : Sto} {z : Str}
theorem l_init : run fu (k + 1) 2 [.loc (F.length + 0), .str z] F [.ins 3 []] = .ok .non [rdg z 0] := by
  show defM 2 (b_2 fu (run fu k)) [.loc (F.length + 0), .str z] F [.ins 3 []] = _
  have a1 : (F ++ [MO.ins 3 []])[F.length + 0]? = some (.ins 3 []) := at_q rfl
  have i1 : insAt F [MO.ins 3 []] 3 (.loc (F.length + 0)) = some (F.length + 0, []) := by
    unfold insAt
    simp only [a1, if_true]
  have a2 : (F ++ [MO.ins 3 [(Str.ofString "text", D.str z)]])[F.length + 0]? = some (.ins 3 [(Str.ofString "text", .str z)]) := at_q rfl
  have i2 : insAt F [MO.ins 3 [(Str.ofString "text", .str z)]] 3 (.loc (F.length + 0)) = some (F.length + 0, [(Str.ofString "text", .str z)]) := by
    unfold insAt
    simp only [a2, if_true]
  have p1 : putD (Str.ofString "text") (D.str z) [] = [(Str.ofString "text", D.str z)] := rfl
  have p2 : putD (Str.ofString "at") (D.int 0) [(Str.ofString "text", D.str z)] = [(Str.ofString "text", D.str z), (Str.ofString "at", D.int 0)] := by
    unfold putD; rw [if_neg ne_ta]; rfl
  have w1 : wrL F [MO.ins 3 []] (F.length + 0) (.ins 3 [(Str.ofString "text", D.str z)]) = some [.ins 3 [(Str.ofString "text", D.str z)]] := wr_q
  have w2 : wrL F [MO.ins 3 [(Str.ofString "text", D.str z)]] (F.length + 0) (.ins 3 [(Str.ofString "text", D.str z), (Str.ofString "at", D.int 0)]) = some [.ins 3 [(Str.ofString "text", D.str z), (Str.ofString "at", D.int 0)]] := wr_q
  have n1 : (0 : Nat) < 1000 := by decide
  have n2 : (1 : Nat) < 1000 := by decide
  simp only [defM, b_2, startD, seqS, List.map, List.replicate, List.length_cons, List.length_nil, Nat.reduceSub, Nat.reduceAdd, List.cons_append, List.nil_append, List.append_nil, setfS, getV, List.getElem?_cons_succ, List.getElem?_cons_zero, R.bind, R.toS, i1, i2, p1, p2, w1, w2, n1, n2, if_true, SR.next, cM, SR.fin]
  rfl
theorem len_str (hz : lenOk z.length = true) {en : En} {i : Nat} (he : en[i]? = some (.d (.str z))) : cbM lenG (consA (getV i) nilA) F en L = .ok (.int z.length) L := by
  simp only [cbM, consA, getV, he, R.bind, nilA, lenG, hz, if_true]
/-- what the reading of a whole text answers -/
def readD (fu : Nat) (z : Str) : Sum D Nat := match pTerm fu 12 0 z.cps.toList with
  | .fine d n _ => if n < z.length then .inr n else .inl d
  | .bad m => .inr m
theorem l_read (hz : lenOk z.length = true) (hf : z.length < fu) :
    (∀ d, readD fu z = .inl d → ∃ L', run fu (k + 5 + 2 * 12 + 1) 9 [.str z] F [] = .ok d L' ∧ Tm 12 d) ∧ (∀ m, readD fu z = .inr m → ∃ L', run fu (k + 5 + 2 * 12 + 1) 9 [.str z] F [] = .err (xAt m) L') := by
  have hc : Cl [rdg z 0] := cl_app (A := []) cl_nil fun o ho i => by rw [List.mem_singleton.mp ho]; rfl
  have z1 := l_term (fu := fu) (F := F) (q := 0) hz hf 12 k 0 0 [rdg z 0] rfl hc rfl
  have ini := l_init (fu := fu) (k := k + 4 + 2 * 12) (F := F) (z := z)
  have t1 := m_move (i := 1) (w := 2) (nm := Str.ofString "term") (j := 12) (c := run fu (k + 5 + 2 * 12) 7) (fa := consA (cM (.int 0)) nilA) (ds := [.int 0]) (F := F) (q := 0) (n := 0) (p := pTerm fu 12 0 (z.cps.toList.drop 0)) (en := [.d (.str z), .d (.loc (F.length + 0)), .no])
      (fun _ _ => lk_term) hc rfl rfl rfl rfl z1.x fun d n2 r2 e => by
        obtain ⟨_, _, _, _, t⟩ := pTerm_eaten fu 12 0 _ d n2 r2 e
        exact t
  rw [List.drop_zero] at t1
  have mk : makeM 3 2 (run fu (k + 5 + 2 * 12) 2) (moreA [] (consA (getV 0) nilA)) F [.d (.str z), .no, .no] [] = .ok (.loc (F.length + 0)) [rdg z 0] := by
    have ini' : run fu (k + 5 + 2 * 12) 2 [.loc (F.length + 0), .str z] F [.ins 3 []] = .ok .non [rdg z 0] := ini
    simp only [makeM, moreA, consA, getV, List.getElem?_cons_zero, R.bind, nilA, List.append_nil, List.length_cons, List.length_nil, Nat.reduceAdd, if_true, List.nil_append, ini']
  have base : ∀ x, run fu (k + 5 + 2 * 12 + 1) 9 [.str z] F [] = x → x = (((methM 3 (Str.ofString "term") .gc 2 (run fu (k + 5 + 2 * 12) 7) (getV 1) (moreA [] (consA (cM (.int 0)) nilA)) F [.d (.str z), .d (.loc (F.length + 0)), .no] [rdg z 0]).toS [.d (.str z), .d (.loc (F.length + 0)), .no] fun d L1 => nameG 2 F d [.d (.str z), .d (.loc (F.length + 0)), .no] L1).next fun en L => seqS (ifS (tstM (op2 ltX (fldM 3 (Str.ofString "at") (getV 1)) (cbM lenG (consA (getV 0) nilA)))) (raiseFS 2 (Str.ofString "at") (fldM 3 (Str.ofString "at") (getV 1))) nilS) (retS (getV 2)) F en L).fin := by
    rintro x rfl
    show defM 3 (b_9 fu (run fu (k + 5 + 2 * 12))) [.str z] F [] = _
    unfold b_9
    rw [defM]
    simp only [startD, List.map, List.replicate, List.length_cons, List.length_nil, Nat.reduceSub, Nat.reduceAdd, List.cons_append, List.nil_append]
    rw [seqS, asgS, mk]
    simp only [R.toS, nameG, List.set_cons_succ, List.set_cons_zero, SR.next]
    rw [seqS, asgS]
    rfl
  have base := base _ rfl
  cases e : pTerm fu 12 0 z.cps.toList with
  | bad m =>
    rw [e] at t1
    obtain ⟨n'', t2⟩ := t1
    constructor
    · intro d h
      unfold readD at h
      rw [e] at h
      cases h
    · intro mm h
      unfold readD at h
      rw [e] at h
      cases h
      refine ⟨[rdg z n''], ?_⟩
      rw [base, t2]
      rfl
  | fine d n r =>
    rw [e] at t1
    obtain ⟨c, c1, c2, c3, c4⟩ := pTerm_eaten fu 12 0 _ d n r e
    have t2 : methM 3 (Str.ofString "term") .gc 2 (run fu (k + 5 + 2 * 12) 7) (getV 1) (moreA [] (consA (cM (.int 0)) nilA)) F [.d (.str z), .d (.loc (F.length + 0)), .no] [rdg z 0] = .ok d [rdg z n] := t1
    have i2 := ins_rdg (at_q (F := F) (L := [rdg z n]) (q := 0) (o := rdg z n) rfl)
    have ls : lenG F [.str z] [rdg z n] = .ok (.int z.length) [rdg z n] := by simp only [lenG, hz, if_true]
    rw [base, t2]
    have rd : readD fu z = if n < z.length then .inr n else .inl d := by unfold readD; rw [e]
    rw [rd]
    by_cases hn : n < z.length
    · have hd : decide ((n : Int) < (z.length : Int)) = true := decide_eq_true (by omega)
      constructor
      · intro d h
        rw [if_pos hn] at h
        cases h
      · intro m h
        rw [if_pos hn] at h
        cases h
        refine ⟨[rdg z n], ?_⟩
        simp only [R.toS, nameG, List.set_cons_succ, List.set_cons_zero, SR.next, seqS, ifS, tstM, op2, fldM, getV, List.getElem?_cons_succ, List.getElem?_cons_zero, R.bind, i2, flds, lk_at, liftO, cbM, consA, nilA, ls, ltX, cmpO, hd, asB, if_true, raiseFS, SR.fin, xAt]
    · have hd : decide ((n : Int) < (z.length : Int)) = false := decide_eq_false (by omega)
      constructor
      · intro d' h
        rw [if_neg hn] at h
        cases h
        refine ⟨[rdg z n], ?_, c4⟩
        simp only [R.toS, nameG, List.set_cons_succ, List.set_cons_zero, SR.next, seqS, ifS, tstM, op2, fldM, getV, List.getElem?_cons_succ, List.getElem?_cons_zero, R.bind, i2, flds, lk_at, liftO, cbM, consA, nilA, ls, ltX, cmpO, hd, asB, Bool.false_eq_true, if_false, nilS, retS, SR.fin]
      · intro m h
        rw [if_neg hn] at h
        cases h
def toldD (fu : Nat) (z : Str) : List D := match readD fu z with
  | .inl d => [.str (Str.ofString "term"), d]
  | .inr m => [.str (Str.ofString "bad"), .int m]
theorem l_told (hz : lenOk z.length = true) (hf : z.length < fu) : run fu (k + 5 + 2 * 12 + 2) 21 [.str z] F L = .ok (.loc (F.length + L.length)) (L ++ [.lst (toldD fu z)]) := by
  obtain ⟨r1, r2⟩ := l_read (k := k) (F := F ++ L) hz hf
  show defM 2 (b_21 fu (run fu (k + 5 + 2 * 12 + 1))) [.str z] F L = _
  have l2 : lenOk 2 = true := rfl
  cases e : readD fu z with
  | inl d =>
    obtain ⟨L', h, t⟩ := r1 d e
    unfold toldD
    rw [e]
    simp only [defM, b_21, startD, List.map, List.replicate, List.length_cons, List.length_nil, Nat.reduceSub, Nat.reduceAdd, List.cons_append, List.nil_append, tryS, retS, lstM, consA, cM, R.bind, callM, moreA, getV, List.getElem?_cons_zero, nilA, List.append_nil, callR, if_true, h, pureR, t.lt, l2, newO, R.toS, SR.fin]
  | inr m =>
    obtain ⟨L', h⟩ := r2 m e
    unfold toldD
    rw [e]
    have lt : D.ltE (F.length + L.length) (xAt m) = true := rfl
    simp only [defM, b_21, startD, List.map, List.replicate, List.length_cons, List.length_nil, Nat.reduceSub, Nat.reduceAdd, List.cons_append, List.nil_append, tryS, retS, lstM, consA, cM, R.bind, callM, moreA, getV, List.getElem?_cons_zero, nilA, List.append_nil, callR, if_true, h, pureR, lt, R.toS]
    simp only [xAt, bel_Malformed, exfM, List.set_cons_succ, List.set_cons_zero, List.getElem?_cons_succ, List.getElem?_cons_zero, and_self, if_true, l2, newO, outS, SR.fin]
    rfl
end
end K20
end SP10
section SP11
set_option Elab.async false
set_option linter.all false
set_option maxRecDepth 100000
set_option maxHeartbeats 4000000
namespace K20
open PySem L2 MI
theorem one_eq {s : Str} {c0 : Nat} (hs : s.cps.toList = [c0]) : ∀ r : Cs, decide (mkS (r.take 1) = s) = hdP (isIn s) r
  | [] => by
    refine decide_eq_false fun e => ?_
    rw [← e] at hs
    cases hs
  | c :: r => by
    show decide (mkS [c] = s) = decide (c ∈ s.cps.toList)
    rw [hs]
    by_cases h : c = c0
    · subst h
      rw [decide_eq_true (show mkS [c] = s by
        obtain ⟨a⟩ := s
        show Str.mk [c].toArray = Str.mk a
        rw [← hs])]
      simp
    · rw [decide_eq_false (fun e => h (by rw [← e] at hs; simpa using hs))]
      simp [h]
theorem at_nat (xs : Cs) (a : Nat) (h : a < xs.length) : atI xs (a : Int) = xs[a]? := by
  unfold atI ixN
  first
  | (rw [if_neg (by omega)]; simp [h])
  | simp [h]
theorem in_one {c : Nat} {sg : Str} {F L : Sto} : inO false F (.str ⟨#[c]⟩) (.str sg) L = .ok (.bl (isIn sg c)) L := rfl
def scanS (i : Nat) (sg : Str) : SM := ifS (MI.andM (tstM (op2 ltX (getV i) (cbM lenG (consA (getV 0) (nilA))))) (tstM (op2 (inO false) (op2 ixO (getV 0) (getV i)) (cM (.str sg))))) (asgS (op2 addO (getV i) (cM (.int 1))) (nameG i)) (nilS)
theorem scan {z sg : Str} {F L : Sto} {i t N : Nat} {E : Sl → Sl → En} (hz : lenOk z.length = true) (e0 : ∀ v x, (E v x)[0]? = some (.d (.str z))) (ei : ∀ v x, (E v x)[i]? = some v) (si : ∀ v x w, (E v x).set i w = E w x) (st : ∀ v x y, (E v x).set t y = E v y) :
    ∀ (m a : Nat) (x : Sl), ((z.cps.toList.drop a).takeWhile (isIn sg)).length ≤ m → ∃ y, MI.forM (rngSrc 0 N) (nameG t) (scanS i sg) F m (E (.d (.int a)) x) L = .nx (E (.d (.int ((a + ((z.cps.toList.drop a).takeWhile (isIn sg)).length : Nat)))) y) L
  | 0, a, x, h => by
    refine ⟨x, ?_⟩
    rw [show ((z.cps.toList.drop a).takeWhile (isIn sg)).length = 0 from Nat.le_zero.mp h]
    rfl
  | m + 1, a, x, h => by
    have ih := fun a x h => scan (sg := sg) (F := F) (L := L) (t := t) (N := N) hz e0 ei si st m a x h
    unfold MI.forM
    simp only [rngSrc, nameG, st, SR.next]
    cases e : z.cps.toList.drop a with
    | nil =>
      have hlt : decide ((a : Int) < (z.length : Int)) = false := by
        have := congrArg List.length e
        rw [List.length_drop, Array.length_toList, List.length_nil] at this
        exact decide_eq_false (by have e : z.cps.size = z.length := rfl; omega)
      obtain ⟨y, hy⟩ := ih a (.d (.int (0 + ((N - (m + 1) : Nat) : Int)))) (by rw [e]; exact Nat.zero_le _)
      rw [e] at hy
      refine ⟨y, ?_⟩
      simp only [scanS, ifS, MI.andM, tstM, op2, getV, ei, e0, R.bind, cbM, consA, nilA, lenG, hz, if_true, ltX, cmpO, hlt, asB, Bool.false_eq_true, if_false, R.toS, nilS, turnK]
      exact hy
    | cons c r =>
      have hl : a < z.cps.toList.length := by
        have := congrArg List.length e
        rw [List.length_drop, List.length_cons] at this
        omega
      have hlt : decide ((a : Int) < (z.length : Int)) = true := decide_eq_true (by have e : z.cps.toList.length = z.length := Array.length_toList; omega)
      have hat : atI z.cps.toList (a : Int) = some c := by
        rw [at_nat _ _ hl]
        have := congrArg (fun l : Cs => l[0]?) e
        simpa [List.getElem?_drop] using this
      cases hc : isIn sg c with
      | false =>
        obtain ⟨y, hy⟩ := ih a (.d (.int (0 + ((N - (m + 1) : Nat) : Int)))) (by rw [e, List.takeWhile_cons, if_neg (by rw [hc]; exact Bool.false_ne_true)]; exact Nat.zero_le _)
        rw [e] at hy
        refine ⟨y, ?_⟩
        have hin : inO false F (.str ⟨#[c]⟩) (.str sg) L = .ok (.bl false) L := by rw [in_one, hc]
        simp only [scanS, ifS, MI.andM, tstM, op2, getV, ei, e0, R.bind, cbM, consA, nilA, lenG, hz, if_true, ltX, cmpO, hlt, asB, R.toS, ixO, hat, cM, hin, Bool.false_eq_true, if_false, nilS, turnK]
        exact hy
      | true =>
        have h' : ((z.cps.toList.drop (a + 1)).takeWhile (isIn sg)).length ≤ m := by
          rw [drop_s e]
          rw [e, List.takeWhile_cons, if_pos hc, List.length_cons] at h
          omega
        obtain ⟨y, hy⟩ := ih (a + 1) (.d (.int (0 + ((N - (m + 1) : Nat) : Int)))) h'
        refine ⟨y, ?_⟩
        have hin : inO false F (.str ⟨#[c]⟩) (.str sg) L = .ok (.bl true) L := by rw [in_one, hc]
        simp only [scanS, ifS, MI.andM, tstM, op2, getV, ei, e0, R.bind, cbM, consA, nilA, lenG, hz, if_true, ltX, cmpO, hlt, asB, R.toS, ixO, hat, cM, hin, asgS, addO, nameG, si, turnK]
        rw [drop_s e] at hy
        rw [List.takeWhile_cons, if_pos hc, List.length_cons]
        rw [show a + 1 + (r.takeWhile (isIn sg)).length = a + ((r.takeWhile (isIn sg)).length + 1) by omega] at hy
        exact hy
end K20
end SP11
section SP12
set_option Elab.async false
set_option linter.all false
set_option maxRecDepth 100000
set_option maxHeartbeats 4000000
namespace K20
open PySem L2 MI
def encP : PR → List D
  | .fine d n _ => [d, .int n]
  | .bad m => [.str (Str.ofString "bad"), .int m]
def r17 : SM :=
    seqS (asgS (getV 1) (nameG 3))
    (seqS (forS (rng1I (consA (cbM lenG (consA (getV 0) (nilA))) (nilA))) (nameG 4) (ifS (MI.andM (tstM (op2 ltX (getV 1) (cbM lenG (consA (getV 0) (nilA))))) (tstM (op2 (inO false) (op2 ixO (getV 0) (getV 1)) (cM (.str (Str.ofString "0123456789")))))) (asgS (op2 addO (getV 1) (cM (.int 1))) (nameG 1)) (nilS)))
    (seqS (ifS (tstM (op2 eqO (getV 1) (getV 3))) (retS (lstM (consA (cM (.str (Str.ofString "bad"))) (consA (getV 1) (nilA))))) (nilS))
    (seqS (ifS (MI.andM (tstM (op2 eqO (op2 ixO (getV 0) (getV 3)) (cM (.str (Str.ofString "0"))))) (tstM (op2 gtX (getV 1) (op2 addO (getV 3) (cM (.int 1)))))) (retS (lstM (consA (cM (.str (Str.ofString "bad"))) (consA (op2 addO (getV 3) (cM (.int 1))) (nilA))))) (nilS))
    (seqS (ifS (tstM (op2 gtX (op2 (intO fun i j => i - j) (getV 1) (getV 3)) (cM (.int 20)))) (retS (lstM (consA (cM (.str (Str.ofString "bad"))) (consA (op2 addO (getV 3) (cM (.int 20))) (nilA))))) (nilS))
    (retS (lstM (consA (cbM intG (consA (slM (getV 0) (someP (getV 2)) (someP (getV 1))) (nilA))) (consA (getV 1) (nilA)))))))))
theorem b17_eq (fu : Nat) (c : Nat → FM) : b_17 fu c = seqS (asgS (getV 1) (nameG 2))
    (seqS (ifS (tstM (op2 eqO (slM (getV 0) (someP (getV 1)) (someP (op2 addO (getV 1) (cM (.int 1))))) (cM (.str (Str.ofString "-"))))) (seqS (asgS (op2 addO (getV 1) (cM (.int 1))) (nameG 1))
    (ifS (tstM (op2 eqO (slM (getV 0) (someP (getV 1)) (someP (op2 addO (getV 1) (cM (.int 1))))) (cM (.str (Str.ofString "0"))))) (retS (lstM (consA (cM (.str (Str.ofString "bad"))) (consA (getV 1) (nilA))))) (nilS))) (nilS)) r17) := rfl
theorem cs0 : (Str.ofString "0").cps.toList = [48] := by rfl
theorem csm : (Str.ofString "-").cps.toList = [45] := by rfl
section
variable {fu k : Nat} {F L : Sto} {n q : Nat} {z : Str}
theorem big_len (hz : lenOk z.length = true) : big62 (z.length : Int) = true := by
  have h : z.length ≤ 16777216 := of_decide_eq_true hz
  unfold big62
  rw [Bool.and_eq_true]
  exact ⟨decide_eq_true (by omega), decide_eq_true (by omega)⟩
theorem rng_len (hz : lenOk z.length = true) {en : En} (he : en[0]? = some (.d (.str z))) : rng1I (consA (cbM lenG (consA (getV 0) (nilA))) (nilA)) F en L = .ok (rngSrc 0 z.length) L := by
  have h := len_str (F := F) (L := L) hz he
  simp only [rng1I, consA, h, R.bind, nilA, big_len hz, if_true, Int.toNat_natCast]
theorem l_num2 (hz : lenOk z.length = true) {neg : Bool} {n0 : Nat} (hneg : neg = true → hdP (isIn (Str.ofString "0")) (z.cps.toList.drop n) = false)
    (hv : hdP (isIn FIG) (z.cps.toList.drop n) = true → ((z.cps.toList.drop n).takeWhile (isIn FIG)).length ≤ 20 → intText? (cutS z (some (n0 : Int)) (some ((n + ((z.cps.toList.drop n).takeWhile (isIn FIG)).length : Nat) : Int))) = some (if neg then -(NumText.digitsVal ((z.cps.toList.drop n).takeWhile (isIn FIG)) : Int) else NumText.digitsVal ((z.cps.toList.drop n).takeWhile (isIn FIG))) ∧
      (cutS z (some (n0 : Int)) (some ((n + ((z.cps.toList.drop n).takeWhile (isIn FIG)).length : Nat) : Int))).length ≤ 640) :
    (r17 F [.d (.str z), .d (.int n), .d (.int n0), .no, .no] L).fin = .ok (.loc (F.length + L.length)) (L ++ [.lst (encP (pNum neg n (z.cps.toList.drop n)))]) := by
  have l2 : lenOk 2 = true := rfl
  have rg := rng_len (F := F) (L := L) hz (en := [.d (.str z), .d (.int n), .d (.int n0), .d (.int n), .no]) rfl
  have hN : ((z.cps.toList.drop n).takeWhile (isIn FIG)).length ≤ z.length := by
    have h1 := tw_le (isIn FIG) (z.cps.toList.drop n)
    have e1 : z.cps.toList.length = z.length := Array.length_toList
    rw [List.length_drop, e1] at h1
    omega
  obtain ⟨y, sc⟩ := scan (sg := FIG) (F := F) (L := L) (i := 1) (t := 4) (N := z.length) (E := fun v x => [.d (.str z), v, .d (.int n0), .d (.int n), x]) hz (fun _ _ => rfl) (fun _ _ => rfl) (fun _ _ _ => rfl) (fun _ _ _ => rfl) z.length n .no hN
  have sc' : forS (rng1I (consA (cbM lenG (consA (getV 0) (nilA))) (nilA))) (nameG 4) (scanS 1 FIG) F [.d (.str z), .d (.int n), .d (.int n0), .d (.int n), .no] L = .nx [.d (.str z), .d (.int ((n + ((z.cps.toList.drop n).takeWhile (isIn FIG)).length : Nat))), .d (.int n0), .d (.int n), y] L := by
    unfold forS
    rw [rg]
    exact sc
  have top : r17 F [.d (.str z), .d (.int n), .d (.int n0), .no, .no] L = seqS (forS (rng1I (consA (cbM lenG (consA (getV 0) (nilA))) (nilA))) (nameG 4) (scanS 1 FIG)) (fun F en L => (seqS (ifS (tstM (op2 eqO (getV 1) (getV 3))) (retS (lstM (consA (cM (.str (Str.ofString "bad"))) (consA (getV 1) (nilA))))) (nilS))
    (seqS (ifS (MI.andM (tstM (op2 eqO (op2 ixO (getV 0) (getV 3)) (cM (.str (Str.ofString "0"))))) (tstM (op2 gtX (getV 1) (op2 addO (getV 3) (cM (.int 1)))))) (retS (lstM (consA (cM (.str (Str.ofString "bad"))) (consA (op2 addO (getV 3) (cM (.int 1))) (nilA))))) (nilS))
    (seqS (ifS (tstM (op2 gtX (op2 (intO fun i j => i - j) (getV 1) (getV 3)) (cM (.int 20)))) (retS (lstM (consA (cM (.str (Str.ofString "bad"))) (consA (op2 addO (getV 3) (cM (.int 20))) (nilA))))) (nilS))
    (retS (lstM (consA (cbM intG (consA (slM (getV 0) (someP (getV 2)) (someP (getV 1))) (nilA))) (consA (getV 1) (nilA)))))))) F en L) F [.d (.str z), .d (.int n), .d (.int n0), .d (.int n), .no] L := rfl
  rw [top, seqS, sc']
  simp only [SR.next]
  unfold pNum
  cases ha : hdP (isIn FIG) (z.cps.toList.drop n) with
  | false =>
    have e0 : (z.cps.toList.drop n).takeWhile (isIn FIG) = [] := by
      cases e : z.cps.toList.drop n with
      | nil => rfl
      | cons c r => rw [e] at ha; rw [List.takeWhile_cons, if_neg (by rw [show isIn FIG c = false from ha]; exact Bool.false_ne_true)]
    rw [e0]
    have hd : decide (((n + 0 : Nat) : Int) = (n : Int)) = true := decide_eq_true (by simp)
    simp only [seqS, ifS, tstM, op2, getV, List.getElem?_cons_succ, List.getElem?_cons_zero, R.bind, eqO, hd, asB, R.toS, if_true, retS, lstM, consA, cM, nilA, List.length_cons, List.length_nil, l2, newO, SR.next, SR.fin, Bool.not_false, Bool.true_or, encP]
    rfl
  | true =>
    obtain ⟨c, hc, e⟩ := hd_cons ha
    have tpos : 0 < ((z.cps.toList.drop n).takeWhile (isIn FIG)).length := List.length_pos_iff.mpr (tw_ne ha)
    have hl : n < z.cps.toList.length := by
      have := congrArg List.length e
      rw [List.length_drop, List.length_cons] at this
      omega
    have hat : atI z.cps.toList (n : Int) = some c := by
      rw [at_nat _ _ hl]
      have := congrArg (fun l : Cs => l[0]?) e
      simpa [List.getElem?_drop] using this
    have h0 : decide ((⟨#[c]⟩ : Str) = Str.ofString "0") = hdP (isIn (Str.ofString "0")) (z.cps.toList.drop n) := by
      have := one_eq cs0 (z.cps.toList.drop n)
      rw [← this, e]
      rfl
    obtain ⟨hvv, hlen⟩ := And.intro (hv ha) (hv ha)
    generalize hT : ((z.cps.toList.drop n).takeWhile (isIn FIG)) = T at *
    have hd1 : decide (((n + T.length : Nat) : Int) = (n : Int)) = false := decide_eq_false (by omega)
    cases hb : hdP (isIn (Str.ofString "0")) (z.cps.toList.drop n) with
    | true =>
      rw [hb] at h0
      have hng : neg = false := by
        cases neg with
        | false => rfl
        | true => have := hneg rfl; rw [hb] at this; cases this
      subst hng
      by_cases h1 : 1 < T.length
      · have hd2 : decide ((n : Int) + 1 < ((n + T.length : Nat) : Int)) = true := decide_eq_true (by omega)
        rw [decide_eq_true h1]
        simp only [seqS, ifS, tstM, op2, getV, List.getElem?_cons_succ, List.getElem?_cons_zero, R.bind, eqO, hd1, asB, R.toS, Bool.false_eq_true, if_false, if_true, retS, lstM, consA, cM, nilA, List.length_cons, List.length_nil, l2, newO, SR.next, SR.fin, Bool.not_true, Bool.or_false, Bool.false_and, Bool.and_self, encP, nilS, MI.andM, ixO, hz, hat, h0, gtX, cmpO, addO, hd2]
        rfl
      · have hd2 : decide ((n : Int) + 1 < ((n + T.length : Nat) : Int)) = false := decide_eq_false (by omega)
        have h20 : ¬ 20 < T.length := by omega
        have hd3 : decide ((20 : Int) < ((n + T.length : Nat) : Int) - (n : Int)) = false := decide_eq_false (by omega)
        have hi : intG F [.str (cutS z (some (n0 : Int)) (some ((n + T.length : Nat) : Int)))] L = .ok (.int (NumText.digitsVal T)) L := by
          simp only [intG, (hvv (by omega)).1, decide_eq_true (hvv (by omega)).2, if_true, Bool.false_eq_true, if_false]
        rw [decide_eq_false h1, if_neg h20]
        simp only [seqS, ifS, tstM, op2, getV, List.getElem?_cons_succ, List.getElem?_cons_zero, R.bind, eqO, hd1, asB, R.toS, Bool.false_eq_true, if_false, if_true, retS, lstM, consA, cM, nilA, List.length_cons, List.length_nil, l2, newO, SR.next, SR.fin, Bool.not_true, Bool.or_false, Bool.false_and, Bool.and_false, encP, nilS, MI.andM, ixO, hz, hat, h0, gtX, cmpO, addO, hd2, intO, hd3, cbM, slM, someP, slO, hi]
    | false =>
      rw [hb] at h0
      by_cases h20 : 20 < T.length
      · have hd3 : decide ((20 : Int) < ((n + T.length : Nat) : Int) - (n : Int)) = true := decide_eq_true (by omega)
        rw [if_pos h20]
        simp only [seqS, ifS, tstM, op2, getV, List.getElem?_cons_succ, List.getElem?_cons_zero, R.bind, eqO, hd1, asB, R.toS, Bool.false_eq_true, if_false, if_true, retS, lstM, consA, cM, nilA, List.length_cons, List.length_nil, l2, newO, SR.next, SR.fin, Bool.not_true, Bool.or_false, Bool.false_and, Bool.and_false, encP, nilS, MI.andM, ixO, hz, hat, h0, gtX, cmpO, addO, intO, hd3]
        rfl
      · have hd3 : decide ((20 : Int) < ((n + T.length : Nat) : Int) - (n : Int)) = false := decide_eq_false (by omega)
        have hi : intG F [.str (cutS z (some (n0 : Int)) (some ((n + T.length : Nat) : Int)))] L = .ok (.int (if neg then -(NumText.digitsVal T : Int) else NumText.digitsVal T)) L := by
          simp only [intG, (hvv (by omega)).1, decide_eq_true (hvv (by omega)).2, if_true]
        rw [if_neg h20]
        simp only [seqS, ifS, tstM, op2, getV, List.getElem?_cons_succ, List.getElem?_cons_zero, R.bind, eqO, hd1, asB, R.toS, Bool.false_eq_true, if_false, if_true, retS, lstM, consA, cM, nilA, List.length_cons, List.length_nil, l2, newO, SR.next, SR.fin, Bool.not_true, Bool.or_false, Bool.false_and, Bool.and_false, encP, nilS, MI.andM, ixO, hz, hat, h0, gtX, cmpO, addO, intO, hd3, cbM, slM, someP, slO, hi]
end
end K20
end SP12
section SP13
set_option Elab.async false
set_option linter.all false
set_option maxRecDepth 100000
set_option maxHeartbeats 4000000
namespace K20
open PySem L2 MI
section
variable {fu k : Nat} {F L : Sto} {n q : Nat} {z : Str}
theorem sl_one (hz : lenOk z.length = true) {en : En} {i : Nat} (e0 : en[0]? = some (.d (.str z))) (ei : en[i]? = some (.d (.int n))) : slM (getV 0) (someP (getV i)) (someP (op2 addO (getV i) (cM (.int 1)))) F en L = .ok (.str (mkS ((z.cps.toList.drop n).take 1))) L := by
  simp only [slM, getV, e0, ei, R.bind, someP, op2, addO, cM, slO, hz, if_true, cut_one]
theorem is_one (hz : lenOk z.length = true) {s : Str} {c0 : Nat} (hs : s.cps.toList = [c0]) {en : En} {i : Nat} (e0 : en[0]? = some (.d (.str z))) (ei : en[i]? = some (.d (.int n))) :
    tstM (op2 eqO (slM (getV 0) (someP (getV i)) (someP (op2 addO (getV i) (cM (.int 1))))) (cM (.str s))) F en L = .ok (hdP (isIn s) (z.cps.toList.drop n)) L := by
  simp only [tstM, op2, sl_one hz e0 ei, R.bind, cM, eqO, asB, one_eq hs]
theorem inc {a b c d : Sl} : asgS (op2 addO (getV 1) (cM (.int 1))) (nameG 1) F [a, .d (.int n), b, c, d] L = .nx [a, .d (.int ((n + 1 : Nat) : Int)), b, c, d] L := rfl
theorem mv {a x b c d : Sl} {y : D} : asgS (getV 1) (nameG 2) F [a, .d y, b, c, d] L = .nx [a, .d y, .d y, c, d] L := rfl
theorem l_linteger (hz : lenOk z.length = true) : run fu (k + 1) 17 [.str z, .int n] F L = .ok (.loc (F.length + L.length)) (L ++ [.lst (encP (pInt n (z.cps.toList.drop n)))]) := by
  have l2 : lenOk 2 = true := rfl
  have q1 := fun b c d => is_one (F := F) (L := L) (n := n) hz csm (en := [.d (.str z), .d (.int n), b, c, d]) (i := 1) rfl rfl
  have q2 := fun b c d => is_one (F := F) (L := L) (n := n + 1) hz cs0 (en := [.d (.str z), .d (.int ((n + 1 : Nat) : Int)), b, c, d]) (i := 1) rfl rfl
  show defM 5 (b_17 fu (run fu k)) [.str z, .int n] F L = _
  rw [b17_eq]
  unfold pInt
  have key : ∀ (m : Nat) (T : Cs), z.cps.toList.drop m = T ++ z.cps.toList.drop (m + T.length) → cutS z (some (m : Int)) (some ((m + T.length : Nat) : Int)) = mkS T := by
    intro m T e
    rw [cut_mm, Nat.add_sub_cancel_left, e, List.take_left]
  have twd : ∀ m, z.cps.toList.drop m = (z.cps.toList.drop m).takeWhile (isIn FIG) ++ z.cps.toList.drop (m + ((z.cps.toList.drop m).takeWhile (isIn FIG)).length) := by
    intro m
    rw [← List.drop_drop, drop_tw, tw_app]
  cases hm : hdP (isIn (Str.ofString "-")) (z.cps.toList.drop n) with
  | true =>
    rw [hm] at q1
    rw [if_pos rfl, tail_drop hm]
    obtain ⟨c, hc, e⟩ := hd_cons hm
    have hc' : c = 45 := by
      have : c ∈ (Str.ofString "-").cps.toList := of_decide_eq_true hc
      rw [csm] at this
      exact List.mem_singleton.mp this
    subst hc'
    rw [tail_drop hm] at e
    cases hb : hdP (isIn (Str.ofString "0")) (z.cps.toList.drop (n + 1)) with
    | true =>
      rw [hb] at q2
      have pn : pNum true (n + 1) (z.cps.toList.drop (n + 1)) = .bad (n + 1) := by
        unfold pNum
        rw [hb]
        simp
      rw [pn]
      simp only [defM, startD, List.map, List.replicate, List.length_cons, List.length_nil, Nat.reduceSub, Nat.reduceAdd, List.cons_append, List.nil_append, seqS, mv, SR.next, ifS, q1, q2, R.toS, if_true, inc, retS, lstM, consA, cM, R.bind, getV, List.getElem?_cons_succ, List.getElem?_cons_zero, nilA, l2, newO, SR.fin, encP]
    | false =>
      rw [hb] at q2
      have nn := l_num2 (F := F) (L := L) (n := n + 1) hz (neg := true) (n0 := n) (fun _ => hb) fun ha hl => by
        have ee : z.cps.toList.drop n = (45 :: (z.cps.toList.drop (n + 1)).takeWhile (isIn FIG)) ++ z.cps.toList.drop (n + (45 :: (z.cps.toList.drop (n + 1)).takeWhile (isIn FIG)).length) := by
          rw [List.length_cons, show n + (((z.cps.toList.drop (n + 1)).takeWhile (isIn FIG)).length + 1) = n + 1 + ((z.cps.toList.drop (n + 1)).takeWhile (isIn FIG)).length by omega, List.cons_append, ← twd (n + 1)]
          exact e
        have kk := key n _ ee
        rw [List.length_cons, show n + (((z.cps.toList.drop (n + 1)).takeWhile (isIn FIG)).length + 1) = n + 1 + ((z.cps.toList.drop (n + 1)).takeWhile (isIn FIG)).length by omega] at kk
        rw [kk]
        refine ⟨?_, by rw [mk_len, List.length_cons]; omega⟩
        rw [if_pos rfl]
        exact intText_neg (x := mkS (45 :: (z.cps.toList.drop (n + 1)).takeWhile (isIn FIG))) rfl (fig_all _) (tw_ne ha) (by rw [mk_len, List.length_cons]; omega)
      simp only [defM, startD, List.map, List.replicate, List.length_cons, List.length_nil, Nat.reduceSub, Nat.reduceAdd, List.cons_append, List.nil_append, seqS, mv, SR.next, ifS, q1, q2, R.toS, if_true, inc, Bool.false_eq_true, if_false, nilS]
      exact nn
  | false =>
    rw [hm] at q1
    rw [if_neg Bool.false_ne_true]
    have nn := l_num2 (F := F) (L := L) (n := n) hz (neg := false) (n0 := n) (fun h => by cases h) fun ha hl => by
      have kk := key n _ (twd n)
      rw [kk]
      refine ⟨?_, by rw [mk_len]; omega⟩
      rw [if_neg Bool.false_ne_true]
      exact int_read (fig_all _) (tw_ne ha) hl
    simp only [defM, startD, List.map, List.replicate, List.length_cons, List.length_nil, Nat.reduceSub, Nat.reduceAdd, List.cons_append, List.nil_append, seqS, mv, SR.next, ifS, q1, R.toS, Bool.false_eq_true, if_false, nilS]
    exact nn
end
end K20
end SP13
section SP14
set_option Elab.async false
set_option linter.all false
set_option maxRecDepth 100000
set_option maxHeartbeats 4000000
namespace K20
open PySem L2 MI
mutual
def py : D → PyData
  | .non => .none
  | .bl b => .bool b
  | .int i => .int i
  | .str x => .str x
  | .tup ds => .tuple (pyL ds)
  | _ => .none
def pyL : List D → List PyData
  | [] => []
  | d :: ds => py d :: pyL ds
end
theorem low26 {c : Nat} (h : isIn SMA c = true) : c < 256 := by
  have h2 : c ∈ SMA.cps.toList := of_decide_eq_true h
  have e : SMA.cps.toList = List.range' 97 26 := by rfl
  rw [e, List.mem_range'] at h2
  omega
theorem all_L {P : PyData → Prop} {ds : List D} (h : ∀ d ∈ ds, P (py d)) : ∀ e ∈ pyL ds, P e := by
  induction ds with
  | nil => intro e he; cases he
  | cons d ds ih =>
    intro e he
    unfold pyL at he
    rcases List.mem_cons.mp he with rfl | he
    · exact h d (List.mem_cons_self ..)
    · exact ih (fun x hx => h x (List.mem_cons_of_mem _ hx)) e he
theorem canAll : ∀ {es : List PyData}, (∀ e ∈ es, PyData.canLay0 e = true) → PyData.canLayAll0 es = true
  | [], _ => rfl
  | e :: es, h => by
    unfold PyData.canLayAll0
    rw [h e (List.mem_cons_self ..), canAll fun x hx => h x (List.mem_cons_of_mem _ hx)]
    rfl
theorem depAll {j : Nat} : ∀ {es : List PyData}, (∀ e ∈ es, PyData.depth e ≤ j) → PyData.depthAll es ≤ j
  | [], _ => Nat.zero_le _
  | e :: es, h => by
    unfold PyData.depthAll
    exact Nat.max_le.mpr ⟨h e (List.mem_cons_self ..), depAll fun x hx => h x (List.mem_cons_of_mem _ hx)⟩
theorem shoAll : ∀ {es : List PyData}, (∀ e ∈ es, PyData.showable e = true) → PyData.showableAll es = true
  | [], _ => rfl
  | e :: es, h => by
    unfold PyData.showableAll
    rw [h e (List.mem_cons_self ..), shoAll fun x hx => h x (List.mem_cons_of_mem _ hx)]
    rfl
theorem dicAll : ∀ {es : List PyData}, (∀ e ∈ es, PyData.hasDict e = false) → PyData.hasDictAll es = false
  | [], _ => rfl
  | e :: es, h => by
    unfold PyData.hasDictAll
    rw [h e (List.mem_cons_self ..), dicAll fun x hx => h x (List.mem_cons_of_mem _ hx)]
    rfl
theorem log_20 {i : Int} (h : i.natAbs < 10 ^ 20) : i.natAbs.log2 < 1920 := by
  by_cases h0 : i.natAbs = 0
  · rw [h0]; decide
  · rw [Nat.log2_lt h0]
    exact Nat.lt_trans h (by decide +kernel)
theorem Tm.py {j : Nat} {d : D} (h : Tm j d) : PyData.canLay0 (K20.py d) = true ∧ PyData.depth (K20.py d) ≤ j ∧ PyData.showable (K20.py d) = true ∧ PyData.hasDict (K20.py d) = false := by
  induction h with
  | non => exact ⟨rfl, Nat.zero_le _, rfl, rfl⟩
  | int h => exact ⟨rfl, Nat.zero_le _, decide_eq_true (log_20 h), rfl⟩
  | @str j w h =>
    refine ⟨?_, Nat.zero_le _, rfl, rfl⟩
    show PyData.strOk w = true
    unfold PyData.strOk
    rw [← Array.all_toList, List.all_eq_true]
    intro c hc
    exact decide_eq_true (Nat.lt_trans (low26 (h c hc)) (by decide))
  | @tup j ds _ ih =>
    unfold K20.py
    refine ⟨canAll (all_L fun d hd => (ih d hd).1), ?_, shoAll (all_L fun d hd => (ih d hd).2.2.1), dicAll (all_L fun d hd => (ih d hd).2.2.2)⟩
    show PyData.depthAll (pyL ds) + 1 ≤ j + 1
    exact Nat.succ_le_succ (depAll (all_L (P := fun e => PyData.depth e ≤ j) fun d hd => (ih d hd).2.1))
/-- no list in it is longer -/
inductive Sz (s : Nat) : D → Prop where
  | non : Sz s .non
  | int {i} : Sz s (.int i)
  | str {w} : Sz s (.str w)
  | tup {ds} : ds.length ≤ s → (∀ d ∈ ds, Sz s d) → Sz s (.tup ds)
theorem Sz.up {s t : Nat} {d : D} (h : Sz s d) (le : s ≤ t) : Sz t d := by
  induction h with
  | non => exact .non
  | int => exact .int
  | str => exact .str
  | tup h _ ih => exact .tup (Nat.le_trans h le) ih
theorem toPyL_of {S : Sto} {N : Nat} : ∀ {ds : List D} {m : Nat}, (∀ d ∈ ds, ∀ n, N ≤ n → toPy S n d = some (py d)) → N + ds.length + 1 ≤ m → toPyL S m ds = some (pyL ds)
  | [], m, _, h => by
    obtain ⟨m, rfl⟩ : ∃ k, m = k + 1 := ⟨m - 1, by omega⟩
    rfl
  | d :: ds, m, hd, h => by
    rw [List.length_cons] at h
    obtain ⟨m, rfl⟩ : ∃ k, m = k + 1 := ⟨m - 1, by omega⟩
    unfold toPyL pyL
    rw [hd d (List.mem_cons_self ..) m (by omega), toPyL_of (fun x hx => hd x (List.mem_cons_of_mem _ hx)) (by omega)]
    rfl
theorem toPy_of {S : Sto} {s j : Nat} {d : D} (h : Tm j d) : Sz s d → ∀ n, (j + 1) * (s + 2) ≤ n → toPy S n d = some (py d) := by
  induction h with
  | non => intro _ n hn; obtain ⟨n, rfl⟩ : ∃ k, n = k + 1 := ⟨n - 1, by rw [Nat.add_mul] at hn; omega⟩; rfl
  | int _ => intro _ n hn; obtain ⟨n, rfl⟩ : ∃ k, n = k + 1 := ⟨n - 1, by rw [Nat.add_mul] at hn; omega⟩; rfl
  | str _ => intro _ n hn; obtain ⟨n, rfl⟩ : ∃ k, n = k + 1 := ⟨n - 1, by rw [Nat.add_mul] at hn; omega⟩; rfl
  | @tup j ds _ ih =>
    intro hs n hn
    cases hs with
    | tup hl hs =>
      rw [Nat.add_mul] at hn
      obtain ⟨n, rfl⟩ : ∃ k, n = k + 1 := ⟨n - 1, by omega⟩
      unfold toPy py
      rw [toPyL_of (N := (j + 1) * (s + 2)) (fun d hd m hm => ih d hd (hs d hd) m hm) (by omega)]
      rfl
/-! how long it shows -/
theorem tup_len (ts : List Str) : (tupleText ts).length ≤ piled ts + 3 := by
  unfold tupleText
  have hl : ∀ a b : Str, (a ++ b).length = a.length + b.length := fun a b => Array.size_append ..
  rw [hl, hl]
  have h1 : (Str.ofString "(").length = 1 := rfl
  have h2 : (Str.ofString (if (ts.length == 1) = true then ",)" else ")")).length ≤ 2 := by split <;> decide
  by_cases hn : ts = []
  · subst hn
    have h3 : (Str.join ", " []).length = 0 := rfl
    show (Str.ofString "(").length + (Str.join ", " []).length + _ ≤ _
    rw [h1, h3]
    omega
  · have h3 := join_length_add ts hn
    show (Str.ofString "(").length + (Str.join ", " ts).length + _ ≤ _
    rw [h1]
    omega
def ps (acc : List D) : Nat := piled (PyData.shownAll (pyL acc))
theorem pyL_app : ∀ (a b : List D), pyL (a ++ b) = pyL a ++ pyL b
  | [], b => rfl
  | d :: a, b => by
    show py d :: pyL (a ++ b) = _
    rw [pyL_app a b]; rfl
theorem shA_app : ∀ (a b : List PyData), PyData.shownAll (a ++ b) = PyData.shownAll a ++ PyData.shownAll b
  | [], b => rfl
  | d :: a, b => by
    show PyData.shown d :: PyData.shownAll (a ++ b) = _
    rw [shA_app a b]; rfl
theorem ps_app (acc : List D) (d : D) : ps (acc ++ [d]) = ps acc + ((PyData.shown (py d)).length + 2) := by
  unfold ps
  rw [pyL_app, shA_app, piled_append]
  rfl
theorem sh_tup (ds : List D) : (PyData.shown (py (.tup ds))).length ≤ ps ds + 3 := tup_len _
theorem sh_word {w : Str} (h : ∀ c ∈ w.cps.toList, isIn SMA c = true) : (PyData.shown (py (.str w))).length ≤ 10 * w.length + 2 :=
  PySem.StrLaws.reprText_len w fun c hc => Nat.lt_trans (low26 (h c hc)) (by decide)
theorem sh_int {i : Int} {k : Nat} (hk : 0 < k) (h : i.natAbs < 10 ^ k) : (PyData.shown (py (.int i))).length ≤ k + 1 := by
  show (Str.ofString (toString i)).length ≤ k + 1
  rw [ofString_length]
  exact int_text_length_le10 hk h
def Eat2 (s : Nat) (r : Cs) (p : PR) : Prop := ∀ d n2 r2, p = .fine d n2 r2 → (r.length ≤ s → Sz s d) ∧ (PyData.shown (py d)).length + 16 * r2.length ≤ 16 * r.length
theorem pNum_eat2 {s : Nat} (neg : Bool) (n : Nat) (r : Cs) : Eat2 s r (pNum neg n r) := by
  intro d n2 r2 h
  unfold pNum at h
  split at h
  · cases h
  · split at h
    · cases h
    · split at h
      · cases h
      · rename_i h1 h2 h3
        cases h
        have hd : hdP (isIn FIG) r = true := by
          cases e : hdP (isIn FIG) r with
          | true => rfl
          | false => rw [e] at h1; exact absurd rfl h1
        have tp : 0 < (r.takeWhile (isIn FIG)).length := List.length_pos_iff.mpr (tw_ne hd)
        have hlt : NumText.digitsVal (r.takeWhile (isIn FIG)) < 10 ^ (r.takeWhile (isIn FIG)).length := by
          have := dv_lt (r.takeWhile (isIn FIG)) 0 (fig_all r)
          rw [Nat.zero_add, Nat.one_mul] at this
          exact this
        have hs := sh_int (i := (if neg then -(NumText.digitsVal (r.takeWhile (isIn FIG)) : Int) else NumText.digitsVal (r.takeWhile (isIn FIG)))) tp (by cases neg <;> (simp only [Bool.false_eq_true, if_false, if_true]; omega))
        have e := congrArg List.length (tw_app (isIn FIG) r)
        rw [List.length_append] at e
        exact ⟨fun _ => .int, by omega⟩
theorem tail_len {p : Nat → Bool} {r : Cs} (h : hdP p r = true) : r.tail.length + 1 = r.length := by
  obtain ⟨c, _, e⟩ := hd_cons h
  have := congrArg List.length e
  rw [List.length_cons] at this
  exact this.symm
theorem pInt_eat2 {s : Nat} (n : Nat) (r : Cs) : Eat2 s r (pInt n r) := by
  unfold pInt
  split
  · rename_i h
    intro d n2 r2 e
    obtain ⟨h1, h2⟩ := pNum_eat2 (s := s) true (n + 1) r.tail d n2 r2 e
    have := tail_len h
    exact ⟨fun le => h1 (by omega), by omega⟩
  · exact pNum_eat2 false n r
theorem pAtom_eat2 {s : Nat} (n : Nat) (r : Cs) : Eat2 s r (pAtom n r) := by
  unfold pAtom
  split
  · rename_i h
    intro d n2 r2 e
    cases e
    have := tail_len h
    have h2 : (PyData.shown (py (.str (Str.ofString "")))).length ≤ 10 * 0 + 2 := sh_word (w := Str.ofString "") fun c hc => nomatch (show c ∈ ([] : Cs) from hc)
    exact ⟨fun _ => .str, by omega⟩
  · split
    · rename_i h
      intro d n2 r2 e
      cases e
      have tp : 0 < (r.takeWhile (isIn SMA)).length := List.length_pos_iff.mpr (tw_ne h)
      have e := congrArg List.length (tw_app (isIn SMA) r)
      rw [List.length_append] at e
      split
      · have h4 : (PyData.shown (py .non)).length = 4 := by rfl
        exact ⟨fun _ => .non, by omega⟩
      · have hw := sh_word (w := mkS (r.takeWhile (isIn SMA))) fun c hc => mem_tw (show c ∈ r.takeWhile (isIn SMA) from hc)
        rw [show (mkS (r.takeWhile (isIn SMA))).length = (r.takeWhile (isIn SMA)).length from mk_len _] at hw
        exact ⟨fun _ => .str, by omega⟩
    · exact pInt_eat2 n r
theorem pLoop_eat2 {s j : Nat} {pt : Nat → Cs → PR} (hp : ∀ n r, Eaten j n r (pt n r)) (hp2 : ∀ n r, Eat2 s r (pt n r)) : ∀ (f : Nat) (acc : List D) (n : Nat) (r : Cs) d n2 r2, pLoop pt f acc n r = .fine d n2 r2 →
    (acc.length + r.length ≤ s → (∀ d ∈ acc, Sz s d) → Sz s d) ∧ (PyData.shown (py d)).length + 16 * r2.length ≤ 16 * r.length + ps acc + (if acc.isEmpty then 2 else 0)
  | 0, _, _, _, _, _, _, h => by unfold pLoop at h; cases h
  | f + 1, acc, n, r, d, n2, r2, h => by
    unfold pLoop at h
    split at h
    · rename_i h1
      cases h
      have := tail_len h1
      have h2 := sh_tup acc
      exact ⟨fun le ha => .tup (by omega) ha, by omega⟩
    · split at h
      · cases h
      · rename_i h1 h2
        have key : ∀ (n1 : Nat) (r1 : Cs) (c0 : Nat), r1.length + c0 = r.length → (acc.isEmpty = false → c0 = 1) → (match pt n1 r1 with | .bad m => PR.bad m | .fine d n2 r2 => pLoop pt f (acc ++ [d]) n2 r2) = .fine d n2 r2 →
            (acc.length + r.length ≤ s → (∀ d ∈ acc, Sz s d) → Sz s d) ∧ (PyData.shown (py d)).length + 16 * r2.length ≤ 16 * r.length + ps acc + (if acc.isEmpty then 2 else 0) := by
          intro n1 r1 c0 e1 e2 h
          split at h
          · cases h
          · rename_i d' n' r' e
            obtain ⟨c1, g1, g2, g3, g4⟩ := hp n1 r1 d' n' r' e
            obtain ⟨k1, k2⟩ := hp2 n1 r1 d' n' r' e
            obtain ⟨i1, i2⟩ := pLoop_eat2 hp hp2 f (acc ++ [d']) n' r' d n2 r2 h
            have cp : 0 < c1.length := List.length_pos_iff.mpr g1
            have lr := congrArg List.length g2
            rw [List.length_append] at lr
            rw [ps_app, show (acc ++ [d']).isEmpty = false by cases acc <;> rfl, if_neg Bool.false_ne_true] at i2
            refine ⟨fun le ha => i1 (by rw [List.length_append, List.length_singleton]; omega) fun x hx => ?_, ?_⟩
            · rcases List.mem_append.mp hx with hx | hx
              · exact ha x hx
              · rw [List.mem_singleton.mp hx]; exact k1 (by omega)
            · cases hE : acc.isEmpty with
              | true => rw [if_pos rfl]; omega
              | false => have := e2 hE; rw [if_neg Bool.false_ne_true]; omega
        cases hE : acc.isEmpty with
        | true =>
          rw [hE] at h
          have := key n r 0 rfl (fun z => by rw [hE] at z; cases z) h
          rw [hE] at this
          exact this
        | false =>
          rw [hE] at h
          have hs : hdP (isIn (Str.ofString " ")) r = true := by
            cases e : hdP (isIn (Str.ofString " ")) r with
            | true => rfl
            | false => rw [hE, e] at h2; exact absurd rfl h2
          have := key (n + 1) r.tail 1 (tail_len hs) (fun _ => rfl) h
          rw [hE] at this
          exact this
theorem pTerm_eat2 {s : Nat} (f : Nat) : ∀ (j n : Nat) (r : Cs), Eat2 s r (pTerm f j n r)
  | 0, n, r => by
    unfold pTerm
    split
    · intro d n2 r2 h; cases h
    · exact pAtom_eat2 n r
  | j + 1, n, r => by
    unfold pTerm
    split
    · rename_i h
      intro d n2 r2 e
      obtain ⟨h1, h2⟩ := pLoop_eat2 (s := s) (pTerm_eaten f j) (pTerm_eat2 f j) f [] (n + 1) r.tail d n2 r2 e
      have := tail_len h
      have p0 : ps [] = 0 := rfl
      rw [p0] at h2
      simp only [List.isEmpty_nil, if_true] at h2
      exact ⟨fun le => h1 (by rw [List.length_nil]; omega) (fun d hd => nomatch hd), by omega⟩
    · exact pAtom_eat2 n r
end K20
end SP14
section SP15
set_option Elab.async false
set_option linter.all false
set_option maxRecDepth 100000
set_option maxHeartbeats 4000000
namespace K20
open PySem L2 MI
theorem list2_len (a b : Str) : (listText [a, b]).length = a.length + b.length + 4 := by
  unfold listText
  have hl : ∀ a b : Str, (a ++ b).length = a.length + b.length := fun a b => Array.size_append ..
  simp only [textFrom]
  repeat rw [hl]
  have h1 : (Str.ofString "[").length = 1 := rfl
  have h2 : (Str.ofString "]").length = 1 := rfl
  have h3 : (Str.ofString ", ").length = 2 := rfl
  have h0 : (Str.ofString "").length = 0 := rfl
  first
  | omega
  | (simp; omega)
/-- where it goes wrong lies within -/
def Wi (n : Nat) (r : Cs) (p : PR) : Prop := ∀ m, p = .bad m → m ≤ n + r.length
theorem pNum_wi (neg : Bool) (n : Nat) (r : Cs) : Wi n r (pNum neg n r) := by
  intro m h
  have tl := tw_le (isIn FIG) r
  unfold pNum at h
  split at h
  · cases h; omega
  · split at h
    · rename_i h2
      cases h
      rw [Bool.and_eq_true] at h2
      have := of_decide_eq_true h2.2
      omega
    · split at h
      · cases h; omega
      · cases h
theorem pInt_wi (n : Nat) (r : Cs) : Wi n r (pInt n r) := by
  unfold pInt
  split
  · rename_i h
    intro m e
    have := pNum_wi true (n + 1) r.tail m e
    have := tail_len h
    omega
  · exact pNum_wi false n r
theorem pAtom_wi (n : Nat) (r : Cs) : Wi n r (pAtom n r) := by
  unfold pAtom
  split
  · intro m e; cases e
  · split
    · intro m e; cases e
    · exact pInt_wi n r
theorem pLoop_wi {j : Nat} {pt : Nat → Cs → PR} (hp : ∀ n r, Eaten j n r (pt n r)) (hw : ∀ n r, Wi n r (pt n r)) : ∀ (f : Nat) (acc : List D) (n : Nat) (r : Cs), Wi n r (pLoop pt f acc n r)
  | 0, _, n, r => fun m h => by unfold pLoop at h; cases h; omega
  | f + 1, acc, n, r => by
    intro m h
    unfold pLoop at h
    split at h
    · cases h
    · split at h
      · cases h; omega
      · rename_i h1 h2
        have key : ∀ (n1 : Nat) (r1 : Cs), n1 + r1.length = n + r.length → (match pt n1 r1 with | .bad m => PR.bad m | .fine d n2 r2 => pLoop pt f (acc ++ [d]) n2 r2) = .bad m → m ≤ n + r.length := by
          intro n1 r1 e1 h
          split at h
          · rename_i mm e
            cases h
            have := hw n1 r1 _ e
            omega
          · rename_i d' n' r' e
            obtain ⟨c1, g1, g2, g3, g4⟩ := hp n1 r1 d' n' r' e
            have := pLoop_wi hp hw f (acc ++ [d']) n' r' m h
            have lr := congrArg List.length g2
            rw [List.length_append] at lr
            omega
        cases hE : acc.isEmpty with
        | true => rw [hE] at h; exact key n r rfl h
        | false =>
          rw [hE] at h
          have hs : hdP (isIn (Str.ofString " ")) r = true := by
            cases e : hdP (isIn (Str.ofString " ")) r with
            | true => rfl
            | false => rw [hE, e] at h2; exact absurd rfl h2
          have := tail_len hs
          exact key (n + 1) r.tail (by omega) h
theorem pTerm_wi (f : Nat) : ∀ (j n : Nat) (r : Cs), Wi n r (pTerm f j n r)
  | 0, n, r => by
    unfold pTerm
    split
    · intro m h; cases h; omega
    · exact pAtom_wi n r
  | j + 1, n, r => by
    unfold pTerm
    split
    · rename_i h
      intro m e
      have := pLoop_wi (pTerm_eaten f j) (pTerm_wi f j) f [] (n + 1) r.tail m e
      have := tail_len h
      omega
    · exact pAtom_wi n r
/-- a pair of a word and data, shown -/
theorem repr_pair {F L : Sto} {m s : Nat} {w : Str} {d : D} (hL : lstAt F L m = some [.str w, d]) (hw : ∀ c ∈ w.cps.toList, isIn SMA c = true) (hwl : w.length ≤ 10) (ht : Tm 12 d) (hs : Sz s d) (hz : s ≤ 50000) (hl : (PyData.shown (py d)).length ≤ 1000000) :
    reprG F [.loc m] L = .ok (.str (PyData.shown (.list [.str w, py d]))) L := by
  obtain ⟨t1, t2, t3, t4⟩ := ht.py
  have hS : (F ++ L)[m]? = some (.lst [.str w, d]) := by
    unfold lstAt at hL
    split at hL
    · rename_i xs e
      cases hL
      exact e
    · cases hL
  have h1 : toPy (F ++ L) fuPy (.loc m) = some (.list [.str w, py d]) := by
    show toPy (F ++ L) (999999 + 1) (.loc m) = _
    unfold toPy
    rw [hS]
    have e : toPyL (F ++ L) 999999 [.str w, d] = some [.str w, py d] := by
      show toPyL (F ++ L) (999998 + 1) [.str w, d] = _
      unfold toPyL
      have e2 : toPyL (F ++ L) 999998 [d] = some [py d] := by
        show toPyL (F ++ L) (999997 + 1) [d] = _
        unfold toPyL
        rw [toPy_of ht hs 999997 (by omega)]
        rfl
      rw [e2]
      rfl
    show Option.map PyData.list (toPyL (F ++ L) 999999 [.str w, d]) = _
    rw [e]
    rfl
  have sw := sh_word hw
  have sh : (PyData.shown (.list [.str w, py d])).length ≤ 16777216 := by
    have e : (PyData.shown (.list [.str w, py d])).length = (listText [PyData.shown (.str w), PyData.shown (py d)]).length := rfl
    rw [e, list2_len]
    have : (PyData.shown (.str w)).length ≤ 10 * w.length + 2 := sw
    omega
  have c1 : PyData.showable (.list [.str w, py d]) = true := by
    show (true && (PyData.showable (py d) && true)) = true
    rw [t3]; rfl
  have c2 : PyData.hasDict (.list [.str w, py d]) = false := by
    show (false || (PyData.hasDict (py d) || false)) = false
    rw [t4]; rfl
  have c3 : PyData.depth (.list [.str w, py d]) ≤ 64 := by
    show max 0 (max (PyData.depth (py d)) 0) + 1 ≤ 64
    omega
  show (match toPy (F ++ L) fuPy (.loc m) with | some e => if e.showable && !e.hasDict && decide (e.depth ≤ 64) && lenOk e.shown.length then (R.ok (D.str e.shown) L : R D) else R.bad | none => R.bad) = _
  rw [h1]
  show (if (PyData.showable (.list [.str w, py d]) && !PyData.hasDict (.list [.str w, py d]) && decide (PyData.depth (.list [.str w, py d]) ≤ 64) && lenOk (PyData.shown (.list [.str w, py d])).length) = true then _ else _) = _
  rw [c1, c2, decide_eq_true c3, show lenOk (PyData.shown (.list [.str w, py d])).length = true from decide_eq_true sh]
  rfl
theorem w_term : ∀ c ∈ (Str.ofString "term").cps.toList, isIn SMA c = true := by decide +kernel
theorem w_bad : ∀ c ∈ (Str.ofString "bad").cps.toList, isIn SMA c = true := by decide +kernel
def tellS (xs : List D) : Str := PyData.shown (.list (pyL xs))
theorem repr_told {fu : Nat} {F L : Sto} {m : Nat} {z : Str} (hz : z.length ≤ 50000) (hL : lstAt F L m = some (toldD fu z)) : reprG F [.loc m] L = .ok (.str (tellS (toldD fu z))) L := by
  have e1 : z.cps.toList.length = z.length := Array.length_toList
  have bad : ∀ k, k ≤ 60000 → lstAt F L m = some [.str (Str.ofString "bad"), .int (k : Nat)] → reprG F [.loc m] L = .ok (.str (tellS [.str (Str.ofString "bad"), .int (k : Nat)])) L := fun k hk hL => by
    have hi : ((k : Int)).natAbs < 10 ^ 20 := by
      rw [Int.natAbs_natCast]
      exact Nat.lt_of_le_of_lt hk (by decide +kernel)
    exact repr_pair (s := 0) hL w_bad (by decide +kernel) (.int hi) .int (by omega) (Nat.le_trans (sh_int (k := 20) (by decide) hi) (by decide))
  unfold toldD at hL ⊢
  unfold readD at hL ⊢
  cases e : pTerm fu 12 0 z.cps.toList with
  | bad mm =>
    rw [e] at hL
    have := pTerm_wi fu 12 0 _ mm e
    exact bad mm (by omega) hL
  | fine d n r =>
    rw [e] at hL
    obtain ⟨c, c1, c2, c3, c4⟩ := pTerm_eaten fu 12 0 _ d n r e
    obtain ⟨k1, k2⟩ := pTerm_eat2 (s := z.length) fu 12 0 _ d n r e
    have lr := congrArg List.length c2
    rw [List.length_append] at lr
    by_cases hn : n < z.length
    · simp only [hn, if_true] at hL ⊢
      exact bad n (by omega) hL
    · simp only [hn, if_false] at hL ⊢
      exact repr_pair (s := z.length) hL w_term (by decide +kernel) c4 (k1 (by omega)) hz (by omega)
end K20
end SP15
section SP16
set_option Elab.async false
set_option linter.all false
set_option maxRecDepth 100000
set_option maxHeartbeats 4000000
namespace K20
open PySem L2 MI
/-- a list laid behind what there is -/
def Tl (F L : Sto) (xs : List D) (r : R D) : Prop := ∃ J, r = .ok (.loc (F.length + L.length + J.length)) (L ++ J ++ [.lst xs])
theorem csp : (Str.ofString "(").cps.toList = [40] := by rfl
theorem csq : (Str.ofString ")").cps.toList = [41] := by rfl
theorem csd : (Str.ofString ".").cps.toList = [46] := by rfl
theorem css : (Str.ofString " ").cps.toList = [32] := by rfl
section
variable {fu k : Nat} {F L : Sto} {n q : Nat} {z : Str}
theorem tl_of {xs : List D} {L : Sto} {r : R D} (h : r = .ok (.loc (F.length + L.length)) (L ++ [.lst xs])) : Tl F L xs r := ⟨[], by rw [List.append_nil]; exact h⟩
theorem lst2 {en : En} {fa : AM} {xs : List D} (h : fa F en L = .ok xs L) (hl : lenOk xs.length = true) : (retS (lstM fa) F en L) = .rt (.loc (F.length + L.length)) (L ++ [.lst xs]) := by
  simp only [retS, lstM, h, R.bind, hl, if_true, newO, R.toS]
theorem eq_one {s : Str} {c0 : Nat} (hs : s.cps.toList = [c0]) {en : En} {i : Nat} {r : Cs} (ei : en[i]? = some (.d (.str (mkS (r.take 1))))) : tstM (op2 eqO (getV i) (cM (.str s))) F en L = .ok (hdP (isIn s) r) L := by
  simp only [tstM, op2, getV, ei, R.bind, cM, eqO, asB, one_eq hs]
theorem sma_one {en : En} {r : Cs} (ei : en[3]? = some (.d (.str (mkS (r.take 1))))) : MI.andM (tstM (op2 neO (getV 3) (cM (.str (Str.ofString ""))))) (tstM (op2 (inO false) (getV 3) (cM (.str (Str.ofString "abcdefghijklmnopqrstuvwxyz"))))) F en L = .ok (hdP (isIn SMA) r) L := by
  cases r with
  | nil =>
    simp only [MI.andM, tstM, op2, getV, ei, R.bind, cM, neO, asB]
    rfl
  | cons c r =>
    have h1 : decide (mkS ((c :: r).take 1) = Str.ofString "") = false := decide_eq_false fun e => by
      have := congrArg (fun s : Str => s.cps.toList.length) e
      simp at this
      cases this
    have h2 : inO false F (.str (mkS ((c :: r).take 1))) (.str SMA) L = .ok (.bl (isIn SMA c)) L := in_one
    simp only [MI.andM, tstM, op2, getV, ei, R.bind, cM, neO, asB, h1, Bool.not_false, if_true]
    rw [show inO false F (.str (mkS ((c :: r).take 1))) (.str (Str.ofString "abcdefghijklmnopqrstuvwxyz")) L = _ from h2]
    rfl
theorem l_lread1 {dep : Nat} {pE : PR} (hz : lenOk z.length = true) (hp : hdP (isIn (Str.ofString "(")) (z.cps.toList.drop n) = true → dep ≠ 12 → Tl F L (encP pE) (run fu (k + 1) 19 [.str z, .int ((n : Int) + 1), .int ((dep : Int) + 1)] F L)) :
    Tl F L (encP (if hdP (isIn (Str.ofString "(")) (z.cps.toList.drop n) then (if dep = 12 then .bad n else pE) else pAtom n (z.cps.toList.drop n))) (run fu (k + 2) 18 [.str z, .int n, .int dep] F L) := by
  have l2 : lenOk 2 = true := rfl
  have s1 := fun a b c d => sl_one (F := F) (L := L) (n := n) hz (en := [.d (.str z), .d (.int n), a, b, c, d]) (i := 1) rfl rfl
  have q1 := fun a b c => eq_one (F := F) (L := L) csp (i := 3) (r := z.cps.toList.drop n) (en := [.d (.str z), .d (.int n), a, .d (.str (mkS ((z.cps.toList.drop n).take 1))), b, c]) rfl
  have q2 := fun a b c => eq_one (F := F) (L := L) csd (i := 3) (r := z.cps.toList.drop n) (en := [.d (.str z), .d (.int n), a, .d (.str (mkS ((z.cps.toList.drop n).take 1))), b, c]) rfl
  have q3 := fun a b c => sma_one (F := F) (L := L) (r := z.cps.toList.drop n) (en := [.d (.str z), .d (.int n), a, .d (.str (mkS ((z.cps.toList.drop n).take 1))), b, c]) rfl
  have t12 : ∀ a b c, tstM (op2 eqO (getV 2) (cM (.int 12))) F [.d (.str z), .d (.int n), .d (.int dep), a, b, c] L = .ok (decide ((dep : Int) = 12)) L := by
    intro a b c
    simp only [tstM, op2, getV, List.getElem?_cons_succ, List.getElem?_cons_zero, R.bind, cM, eqO, asB]
  show Tl F L _ (defM 6 (b_18 fu (run fu (k + 1))) [.str z, .int n, .int dep] F L)
  unfold b_18
  have base : ∀ (B : SM), (defM 6 (seqS (asgS (slM (getV 0) (someP (getV 1)) (someP (op2 addO (getV 1) (cM (.int 1))))) (nameG 3)) B) [.str z, .int n, .int dep] F L) = (B F [.d (.str z), .d (.int n), .d (.int dep), .d (.str (mkS ((z.cps.toList.drop n).take 1))), .no, .no] L).fin := by
    intro B
    simp only [defM, startD, List.map, List.replicate, List.length_cons, List.length_nil, Nat.reduceSub, Nat.reduceAdd, List.cons_append, List.nil_append, seqS, asgS, s1, R.toS, nameG, List.set_cons_succ, List.set_cons_zero, SR.next]
  rw [base]
  cases h1 : hdP (isIn (Str.ofString "(")) (z.cps.toList.drop n) with
  | true =>
    rw [h1] at q1
    rw [if_pos rfl]
    by_cases hd : dep = 12
    · subst hd
      rw [if_pos rfl]
      refine tl_of ?_
      simp only [seqS, ifS, q1, R.toS, if_true, t12]
      simp only [Int.cast_ofNat_Int, decide_true, if_true, getV, List.getElem?_cons_succ, List.getElem?_cons_zero, R.bind, R.toS, cM, retS, lstM, consA, nilA, List.length_cons, List.length_nil, Nat.reduceAdd, l2, newO, SR.next, SR.fin, encP]
    · rw [if_neg hd]
      have hd2 : decide ((dep : Int) = 12) = false := decide_eq_false (by omega)
      obtain ⟨J, hJ⟩ := hp h1 hd
      refine ⟨J, ?_⟩
      simp only [seqS, ifS, q1, R.toS, if_true, t12, hd2, Bool.false_eq_true, if_false, nilS, SR.next]
      simp only [op2, if_true, R.toS, SR.next, getV, List.getElem?_cons_succ, List.getElem?_cons_zero, R.bind, cM, retS, callM, moreA, consA, addO, nilA, List.append_nil, callR, List.length_cons, List.length_nil, Nat.reduceAdd, hJ, SR.fin]
  | false =>
    rw [h1] at q1
    rw [if_neg Bool.false_ne_true]
    unfold pAtom
    cases h3 : hdP (isIn (Str.ofString ".")) (z.cps.toList.drop n) with
    | true =>
      rw [h3] at q2
      rw [if_pos rfl]
      refine tl_of ?_
      simp only [seqS, ifS, q1, q2, R.toS, Bool.false_eq_true, if_false, if_true, nilS, SR.next]
      simp only [if_true, R.toS, SR.next, retS, lstM, consA, cM, op2, getV, List.getElem?_cons_succ, List.getElem?_cons_zero, R.bind, addO, nilA, List.length_cons, List.length_nil, Nat.reduceAdd, l2, newO, SR.fin, encP]
      rfl
    | false =>
      rw [h3] at q2
      rw [if_neg Bool.false_ne_true]
      cases h4 : hdP (isIn SMA) (z.cps.toList.drop n) with
      | true =>
        rw [h4] at q3
        rw [if_pos rfl]
        refine tl_of ?_
        have hN : ((z.cps.toList.drop n).takeWhile (isIn SMA)).length ≤ z.length := by
          have h1 := tw_le (isIn SMA) (z.cps.toList.drop n)
          have e1 : z.cps.toList.length = z.length := Array.length_toList
          rw [List.length_drop, e1] at h1
          omega
        obtain ⟨y, sc⟩ := scan (sg := SMA) (F := F) (L := L) (i := 4) (t := 5) (N := z.length) (E := fun v x => [.d (.str z), .d (.int n), .d (.int dep), .d (.str (mkS ((z.cps.toList.drop n).take 1))), v, x]) hz (fun _ _ => rfl) (fun _ _ => rfl) (fun _ _ _ => rfl) (fun _ _ _ => rfl) z.length n .no hN
        have rg := rng_len (F := F) (L := L) hz (en := [.d (.str z), .d (.int n), .d (.int dep), .d (.str (mkS ((z.cps.toList.drop n).take 1))), .d (.int n), .no]) rfl
        have sc' : forS (rng1I (consA (cbM lenG (consA (getV 0) (nilA))) (nilA))) (nameG 5) (ifS (MI.andM (tstM (op2 ltX (getV 4) (cbM lenG (consA (getV 0) (nilA))))) (tstM (op2 (inO false) (op2 ixO (getV 0) (getV 4)) (cM (.str (Str.ofString "abcdefghijklmnopqrstuvwxyz")))))) (asgS (op2 addO (getV 4) (cM (.int 1))) (nameG 4)) (nilS)) F [.d (.str z), .d (.int n), .d (.int dep), .d (.str (mkS ((z.cps.toList.drop n).take 1))), .d (.int n), .no] L = .nx [.d (.str z), .d (.int n), .d (.int dep), .d (.str (mkS ((z.cps.toList.drop n).take 1))), .d (.int ((n + ((z.cps.toList.drop n).takeWhile (isIn SMA)).length : Nat))), y] L := by
          unfold forS
          rw [rg]
          exact sc
        simp only [seqS, ifS, q1, q2, q3, R.toS, Bool.false_eq_true, if_false, if_true, nilS, SR.next, asgS, getV, List.getElem?_cons_succ, List.getElem?_cons_zero, nameG, List.set_cons_succ, List.set_cons_zero]
        rw [show forS _ (nameG 5) _ F _ L = _ from sc']
        have cw : cutS z (some (n : Int)) (some ((n + ((z.cps.toList.drop n).takeWhile (isIn SMA)).length : Nat) : Int)) = mkS ((z.cps.toList.drop n).takeWhile (isIn SMA)) := by
          rw [cut_mm, Nat.add_sub_cancel_left, take_tw]
        by_cases hn : mkS ((z.cps.toList.drop n).takeWhile (isIn SMA)) = Str.ofString "none"
        · simp only [retS, lstM, consA, ifM, tstM, op2, slM, getV, List.getElem?_cons_succ, List.getElem?_cons_zero, R.bind, someP, slO, hz, if_true, cw, cM, eqO, asB, hn, decide_true, nilA, List.length_cons, List.length_nil, Nat.reduceAdd, l2, newO, R.toS, SR.fin, encP]
        · simp only [retS, lstM, consA, ifM, tstM, op2, slM, getV, List.getElem?_cons_succ, List.getElem?_cons_zero, R.bind, someP, slO, hz, if_true, cw, cM, eqO, asB, hn, decide_false, Bool.false_eq_true, if_false, nilA, List.length_cons, List.length_nil, Nat.reduceAdd, l2, newO, R.toS, SR.fin, encP]
      | false =>
        rw [h4] at q3
        rw [if_neg Bool.false_ne_true]
        refine tl_of ?_
        have li := l_linteger (fu := fu) (k := k) (F := F) (L := L) (n := n) hz
        simp only [seqS, ifS, q1, q2, q3, R.toS, Bool.false_eq_true, if_false, nilS, SR.next, retS, callM, moreA, consA, getV, List.getElem?_cons_succ, List.getElem?_cons_zero, R.bind, nilA, List.append_nil, callR, List.length_cons, List.length_nil, Nat.reduceAdd, if_true, li, SR.fin]
end
end K20
end SP16
section SP17
set_option Elab.async false
set_option linter.all false
set_option maxRecDepth 100000
set_option maxHeartbeats 4000000
namespace K20
open PySem L2 MI
def lB (c : Nat → FM) : SM :=
    seqS (ifS (tstM (op2 eqO (slM (getV 0) (someP (getV 1)) (someP (op2 addO (getV 1) (cM (.int 1))))) (cM (.str (Str.ofString ")"))))) (retS (lstM (consA (cbM tupG' (consA (getV 3) (nilA))) (consA (op2 addO (getV 1) (cM (.int 1))) (nilA))))) (nilS))
    (seqS (ifS (truM (getV 3)) (seqS (ifS (tstM (op2 neO (slM (getV 0) (someP (getV 1)) (someP (op2 addO (getV 1) (cM (.int 1))))) (cM (.str (Str.ofString " "))))) (retS (lstM (consA (cM (.str (Str.ofString "bad"))) (consA (getV 1) (nilA))))) (nilS))
    (asgS (op2 addO (getV 1) (cM (.int 1))) (nameG 1))) (nilS))
    (seqS (asgS (callM .keep 3 (c 18) (moreA [] (consA (getV 0) (consA (getV 1) (consA (getV 2) (nilA)))))) (unpG 2 (consG (nameG 5) (consG (nameG 6) (nilG)))))
    (seqS (ifS (MI.andM (tstM (op2 eqO (getV 5) (cM (.str (Str.ofString "bad"))))) (truM (cbM isiG (consA (getV 5) (consA (cM (.ty "str")) (nilA)))))) (retS (lstM (consA (getV 5) (consA (getV 6) (nilA))))) (nilS))
    (seqS (dropS (bmM "list" appendB (getV 3) (consA (getV 5) (nilA))))
    (asgS (getV 6) (nameG 1))))))
theorem b19_eq (fu : Nat) (c : Nat → FM) : b_19 fu c = seqS (asgS (lstM (nilA)) (nameG 3))
    (seqS (forS (rng1I (consA (op2 addO (cbM lenG (consA (getV 0) (nilA))) (cM (.int 1))) (nilA))) (nameG 4) (lB c))
    (retS (lstM (consA (cM (.str (Str.ofString "bad"))) (consA (getV 1) (nilA)))))) := rfl
section
variable {fu k : Nat} {F L : Sto} {n q : Nat} {z : Str}
theorem eq_bad {en : En} {i j s : Nat} {d : D} (ei : en[i]? = some (.d d)) (ht : Tm j d) (hj : j ≤ 12) (hs : Sz s d) (hz : s ≤ 50000) (hd : d ≠ .str (Str.ofString "bad")) : tstM (op2 eqO (getV i) (cM (.str (Str.ofString "bad")))) F en L = .ok false L := by
  have key : eqO F d (.str (Str.ofString "bad")) L = .ok (.bl false) L := by
    cases ht with
    | non => rfl
    | int _ => rfl
    | @str _ w _ =>
      have : decide (w = Str.ofString "bad") = false := decide_eq_false fun e => hd (by rw [e])
      show R.ok (D.bl (decide (w = Str.ofString "bad"))) L = _
      rw [this]
    | @tup j ds h =>
      have ht : Tm (j + 1) (.tup ds) := .tup h
      obtain ⟨t1, t2, t3, t4⟩ := ht.py
      have e1 := toPy_of (S := F ++ L) ht hs fuPy (by
        show (j + 1 + 1) * (s + 2) ≤ 1000000
        have : (j + 1 + 1) * (s + 2) ≤ 13 * 50002 := Nat.mul_le_mul (by omega) (by omega)
        omega)
      have e2 : toPy (F ++ L) fuPy (.str (Str.ofString "bad")) = some (.str (Str.ofString "bad")) := rfl
      show eqDeep false F L (.tup ds) (.str (Str.ofString "bad")) = _
      unfold eqDeep
      rw [e1, e2]
      have s1 : SeqAt.shaped (py (.tup ds)) = true := by
        unfold SeqAt.shaped
        rw [t1, decide_eq_true (by omega)]
        rfl
      have s2 : SeqAt.shaped (.str (Str.ofString "bad")) = true := by decide +kernel
      simp only [s1, s2, Bool.and_self, if_true, Bool.false_eq_true, if_false]
      rfl
  simp only [tstM, op2, getV, ei, R.bind, cM, key, asB]
theorem ne_one (hz : lenOk z.length = true) {s : Str} {c0 : Nat} (hs : s.cps.toList = [c0]) {en : En} {i : Nat} (e0 : en[0]? = some (.d (.str z))) (ei : en[i]? = some (.d (.int n))) :
    tstM (op2 neO (slM (getV 0) (someP (getV i)) (someP (op2 addO (getV i) (cM (.int 1))))) (cM (.str s))) F en L = .ok (!hdP (isIn s) (z.cps.toList.drop n)) L := by
  simp only [tstM, op2, sl_one hz e0 ei, R.bind, cM, neO, asB, one_eq hs]
theorem lst_mid {A J : Sto} {acc : List D} : lstAt F (A ++ .lst acc :: J) (F.length + A.length) = some acc := by
  have e : (F ++ (A ++ MO.lst acc :: J))[F.length + A.length]? = some (.lst acc) := at_q (by simp)
  unfold lstAt
  rw [e]
theorem set_mid {A J : Sto} {o o' : MO} : (A ++ o :: J).set A.length o' = A ++ o' :: J := by
  rw [List.set_append_right _ _ (Nat.le_refl _), Nat.sub_self]
  rfl
theorem inc7 {a b c d e x : Sl} : asgS (op2 addO (getV 1) (cM (.int 1))) (nameG 1) F [a, .d (.int n), b, c, d, e, x] L = .nx [a, .d (.int ((n + 1 : Nat) : Int)), b, c, d, e, x] L := rfl
theorem lent_loop {dep j N : Nat} {pt : Nat → Cs → PR} (hz : lenOk z.length = true) (hz2 : z.length ≤ 50000) (hj : j ≤ 12)
    (hp : ∀ n r, Eaten j n r (pt n r)) (hp2 : ∀ n r, Eat2 50000 r (pt n r)) (hnb : ∀ n d n2 r2, pt n (z.cps.toList.drop n) = .fine d n2 r2 → d ≠ .str (Str.ofString "bad"))
    (ht : ∀ (n : Nat) (L : Sto), Tl F L (encP (pt n (z.cps.toList.drop n))) (run fu k 18 [.str z, .int n, .int dep] F L)) :
    ∀ (m f : Nat) (acc : List D) (n : Nat) (J : Sto) (x4 x5 x6 : Sl), (z.cps.toList.drop n).length < m → (z.cps.toList.drop n).length < f → acc.length < n → n ≤ z.length →
      ∃ acc' J', MI.forM (rngSrc 0 N) (nameG 4) (lB (run fu k)) F m [.d (.str z), .d (.int n), .d (.int dep), .d (.loc (F.length + L.length)), x4, x5, x6] (L ++ .lst acc :: J) = .rt (.loc (F.length + (L ++ .lst acc' :: J').length)) ((L ++ .lst acc' :: J') ++ [.lst (encP (pLoop pt f acc n (z.cps.toList.drop n)))])
  | 0, _, _, _, _, _, _, _, h, _, _, _ => absurd h (Nat.not_lt_zero _)
  | m + 1, 0, _, _, _, _, _, _, _, h, _, _ => absurd h (Nat.not_lt_zero _)
  | m + 1, f + 1, acc, n, J, x4, x5, x6, hm, hf, ha, hn => by
    have l2 : lenOk 2 = true := rfl
    have e1 : z.cps.toList.length = z.length := Array.length_toList
    have zl : z.length ≤ 16777216 := of_decide_eq_true hz
    have q1 := fun (S : Sto) (n : Nat) a b c d e => is_one (F := F) (L := S) (n := n) hz csq (en := [.d (.str z), .d (.int n), a, b, c, d, e]) (i := 1) rfl rfl
    have q2 := fun (S : Sto) (n : Nat) a b c d e => ne_one (F := F) (L := S) (n := n) hz css (en := [.d (.str z), .d (.int n), a, b, c, d, e]) (i := 1) rfl rfl
    have lm := lst_mid (F := F) (A := L) (J := J) (acc := acc)
    unfold MI.forM
    simp only [rngSrc, nameG, List.set_cons_succ, List.set_cons_zero, SR.next]
    generalize hx4 : Sl.d (.int (0 + ((N - (m + 1) : Nat) : Int))) = y4
    have hst : ∀ (B : SM) en S, (lB (run fu k)) F en S = lB (run fu k) F en S := fun _ _ _ => rfl
    unfold pLoop
    have q1' := q1 (L ++ .lst acc :: J) n
    have q2' := q2 (L ++ .lst acc :: J) n
    cases h1 : hdP (isIn (Str.ofString ")")) (z.cps.toList.drop n) with
    | true =>
      rw [h1] at q1'
      refine ⟨acc, J, ?_⟩
      have tg : cbM tupG' (consA (getV 3) nilA) F [.d (.str z), .d (.int n), .d (.int dep), .d (.loc (F.length + L.length)), y4, x5, x6] (L ++ .lst acc :: J) = .ok (.tup acc) (L ++ .lst acc :: J) := by
        simp only [cbM, consA, getV, List.getElem?_cons_succ, List.getElem?_cons_zero, R.bind, nilA, tupG', listD, lm]
      have r1 := lst2 (F := F) (L := L ++ .lst acc :: J) (en := [.d (.str z), .d (.int n), .d (.int dep), .d (.loc (F.length + L.length)), y4, x5, x6]) (fa := consA (cbM tupG' (consA (getV 3) nilA)) (consA (op2 addO (getV 1) (cM (.int 1))) nilA)) (xs := [.tup acc, .int ((n + 1 : Nat) : Int)]) (by
        rw [consA, tg]
        rfl) rfl
      simp only [lB, seqS, ifS, q1', R.toS, if_true]
      rw [r1]
      rfl
    | false =>
      rw [h1] at q1'
      rw [if_neg Bool.false_ne_true]
      have tr : truM (getV 3) F [.d (.str z), .d (.int n), .d (.int dep), .d (.loc (F.length + L.length)), y4, x5, x6] (L ++ .lst acc :: J) = .ok (!acc.isEmpty) (L ++ .lst acc :: J) := by
        simp only [truM, getV, List.getElem?_cons_succ, List.getElem?_cons_zero, R.bind, truD, itemsD, lm, Option.map]
      -- from the place n1 on
      have go : ∀ n1, n1 ≤ z.length → n ≤ n1 → n1 ≤ n + 1 →
          ∃ acc' J', turnK ((seqS (asgS (callM .keep 3 (run fu k 18) (moreA [] (consA (getV 0) (consA (getV 1) (consA (getV 2) (nilA)))))) (unpG 2 (consG (nameG 5) (consG (nameG 6) (nilG)))))
            (seqS (ifS (MI.andM (tstM (op2 eqO (getV 5) (cM (.str (Str.ofString "bad"))))) (truM (cbM isiG (consA (getV 5) (consA (cM (.ty "str")) (nilA)))))) (retS (lstM (consA (getV 5) (consA (getV 6) (nilA))))) (nilS))
            (seqS (dropS (bmM "list" appendB (getV 3) (consA (getV 5) (nilA))))
            (asgS (getV 6) (nameG 1))))) F [.d (.str z), .d (.int n1), .d (.int dep), .d (.loc (F.length + L.length)), y4, x5, x6] (L ++ .lst acc :: J)) (fun en2 L2 => MI.forM (rngSrc 0 N) (nameG 4) (lB (run fu k)) F m en2 L2) =
            .rt (.loc (F.length + (L ++ .lst acc' :: J').length)) ((L ++ .lst acc' :: J') ++ [.lst (encP (match pt n1 (z.cps.toList.drop n1) with | .bad m => PR.bad m | .fine d n2 r2 => pLoop pt f (acc ++ [d]) n2 r2))]) := by
        intro n1 hn1 hnn hnn2
        obtain ⟨J1, hJ⟩ := ht n1 (L ++ .lst acc :: J)
        have assoc : L ++ MO.lst acc :: J ++ J1 ++ [.lst (encP (pt n1 (z.cps.toList.drop n1)))] = L ++ MO.lst acc :: (J ++ J1 ++ [.lst (encP (pt n1 (z.cps.toList.drop n1)))]) := by simp
        have cl : callM .keep 3 (run fu k 18) (moreA [] (consA (getV 0) (consA (getV 1) (consA (getV 2) (nilA))))) F [.d (.str z), .d (.int n1), .d (.int dep), .d (.loc (F.length + L.length)), y4, x5, x6] (L ++ .lst acc :: J) = .ok (.loc (F.length + (L ++ .lst acc :: J).length + J1.length)) (L ++ MO.lst acc :: (J ++ J1 ++ [.lst (encP (pt n1 (z.cps.toList.drop n1)))])) := by
          rw [← assoc, ← hJ]
          simp only [callM, moreA, consA, getV, List.getElem?_cons_succ, List.getElem?_cons_zero, R.bind, nilA, List.append_nil, callR, List.length_cons, List.length_nil, Nat.reduceAdd, if_true]
        have pa : partsD F (L ++ MO.lst acc :: (J ++ J1 ++ [.lst (encP (pt n1 (z.cps.toList.drop n1)))])) (.loc (F.length + (L ++ .lst acc :: J).length + J1.length)) = some (encP (pt n1 (z.cps.toList.drop n1))) := by
          rw [← assoc]
          have := lst_end (F := F) (A := L ++ MO.lst acc :: J ++ J1) (acc := encP (pt n1 (z.cps.toList.drop n1)))
          rw [List.length_append (bs := J1), ← Nat.add_assoc] at this
          exact this
        have enl : (encP (pt n1 (z.cps.toList.drop n1))).length = 2 := by cases pt n1 (z.cps.toList.drop n1) <;> rfl
        cases e : pt n1 (z.cps.toList.drop n1) with
        | bad mm =>
          rw [e] at cl pa enl
          refine ⟨acc, J ++ J1 ++ [.lst (encP (.bad mm))], ?_⟩
          have tb : tstM (op2 eqO (getV 5) (cM (.str (Str.ofString "bad")))) F [.d (.str z), .d (.int n1), .d (.int dep), .d (.loc (F.length + L.length)), y4, .d (.str (Str.ofString "bad")), .d (.int mm)] (L ++ MO.lst acc :: (J ++ J1 ++ [.lst (encP (.bad mm))])) = .ok true (L ++ MO.lst acc :: (J ++ J1 ++ [.lst (encP (.bad mm))])) := by
            simp only [tstM, op2, getV, List.getElem?_cons_succ, List.getElem?_cons_zero, R.bind, cM, eqO, asB, decide_true]
          have ti : truM (cbM isiG (consA (getV 5) (consA (cM (.ty "str")) (nilA)))) F [.d (.str z), .d (.int n1), .d (.int dep), .d (.loc (F.length + L.length)), y4, .d (.str (Str.ofString "bad")), .d (.int mm)] (L ++ MO.lst acc :: (J ++ J1 ++ [.lst (encP (.bad mm))])) = .ok true (L ++ MO.lst acc :: (J ++ J1 ++ [.lst (encP (.bad mm))])) := rfl
          have ts : (asgS (callM .keep 3 (run fu k 18) (moreA [] (consA (getV 0) (consA (getV 1) (consA (getV 2) (nilA)))))) (unpG 2 (consG (nameG 5) (consG (nameG 6) (nilG))))) F [.d (.str z), .d (.int n1), .d (.int dep), .d (.loc (F.length + L.length)), y4, x5, x6] (L ++ .lst acc :: J) = .nx [.d (.str z), .d (.int n1), .d (.int dep), .d (.loc (F.length + L.length)), y4, .d (.str (Str.ofString "bad")), .d (.int mm)] (L ++ MO.lst acc :: (J ++ J1 ++ [.lst (encP (.bad mm))])) := by
            simp only [asgS, cl, R.toS, unpG, pa, enl, if_true]
            rfl
          have r1 := lst2 (F := F) (L := L ++ MO.lst acc :: (J ++ J1 ++ [.lst (encP (.bad mm))])) (en := [.d (.str z), .d (.int n1), .d (.int dep), .d (.loc (F.length + L.length)), y4, .d (.str (Str.ofString "bad")), .d (.int mm)]) (fa := consA (getV 5) (consA (getV 6) nilA)) (xs := [.str (Str.ofString "bad"), .int mm]) rfl rfl
          simp only [seqS, ts, SR.next, ifS, MI.andM, tb, ti, R.bind, if_true, R.toS]
          rw [r1]
          rfl
        | fine d n2 r2 =>
          rw [e] at cl pa enl
          obtain ⟨c, c1, c2, c3, c4⟩ := hp n1 _ d n2 r2 e
          obtain ⟨k1, _⟩ := hp2 n1 _ d n2 r2 e
          have hr2 : r2 = z.cps.toList.drop n2 := by
            rw [c3, ← List.drop_drop, c2]
            simp
          have lr := congrArg List.length c2
          rw [List.length_append, List.length_drop, e1] at lr
          rw [List.length_drop, e1] at hm hf
          have cpos : 0 < c.length := List.length_pos_iff.mpr c1
          have hdb := hnb n1 d n2 r2 e
          have sz := k1 (by rw [List.length_drop, e1]; omega)
          obtain ⟨acc', J', ih⟩ := lent_loop hz hz2 hj hp hp2 hnb ht m f (acc ++ [d]) n2 (J ++ J1 ++ [.lst (encP (.fine d n2 r2))]) y4 (.d d) (.d (.int n2)) (by rw [← hr2]; omega) (by rw [← hr2]; omega) (by rw [List.length_append, List.length_singleton]; omega) (by omega)
          rw [← hr2] at ih
          refine ⟨acc', J', ?_⟩
          have ts : (asgS (callM .keep 3 (run fu k 18) (moreA [] (consA (getV 0) (consA (getV 1) (consA (getV 2) (nilA)))))) (unpG 2 (consG (nameG 5) (consG (nameG 6) (nilG))))) F [.d (.str z), .d (.int n1), .d (.int dep), .d (.loc (F.length + L.length)), y4, x5, x6] (L ++ .lst acc :: J) = .nx [.d (.str z), .d (.int n1), .d (.int dep), .d (.loc (F.length + L.length)), y4, .d d, .d (.int n2)] (L ++ MO.lst acc :: (J ++ J1 ++ [.lst (encP (.fine d n2 r2))])) := by
            simp only [asgS, cl, R.toS, unpG, pa, enl, if_true]
            rfl
          have tb := eq_bad (F := F) (L := L ++ MO.lst acc :: (J ++ J1 ++ [.lst (encP (.fine d n2 r2))])) (en := [.d (.str z), .d (.int n1), .d (.int dep), .d (.loc (F.length + L.length)), y4, .d d, .d (.int n2)]) (i := 5) rfl c4 hj sz (Nat.le_refl _) hdb
          have lm2 := lst_mid (F := F) (A := L) (J := J ++ J1 ++ [.lst (encP (.fine d n2 r2))]) (acc := acc)
          have ty : tyOk "list" F (L ++ MO.lst acc :: (J ++ J1 ++ [.lst (encP (.fine d n2 r2))])) (.loc (F.length + L.length)) = true := by
            show (("list" == "list") && (lstAt F _ _).isSome) = true
            rw [lm2]; rfl
          have ow : ownL F (L ++ MO.lst acc :: (J ++ J1 ++ [.lst (encP (.fine d n2 r2))])) (.loc (F.length + L.length)) = some (F.length + L.length, acc) := by
            unfold ownL
            simp only [Nat.le_add_right, if_true, lm2, Option.map]
          have hlt : decide (acc.length < 16777216) = true := decide_eq_true (by omega)
          have ap : (dropS (bmM "list" appendB (getV 3) (consA (getV 5) (nilA)))) F [.d (.str z), .d (.int n1), .d (.int dep), .d (.loc (F.length + L.length)), y4, .d d, .d (.int n2)] (L ++ MO.lst acc :: (J ++ J1 ++ [.lst (encP (.fine d n2 r2))])) = .nx [.d (.str z), .d (.int n1), .d (.int dep), .d (.loc (F.length + L.length)), y4, .d d, .d (.int n2)] (L ++ MO.lst (acc ++ [d]) :: (J ++ J1 ++ [.lst (encP (.fine d n2 r2))])) := by
            simp only [dropS, bmM, getV, List.getElem?_cons_succ, List.getElem?_cons_zero, R.bind, ty, if_true, consA, nilA, appendB, ow, hlt, setL, Nat.add_sub_cancel_left, set_mid, R.toS]
          simp only [seqS, ts, SR.next, ifS, MI.andM, tb, R.bind, Bool.false_eq_true, if_false, R.toS, nilS, ap]
          exact ih
      cases hE : acc.isEmpty with
      | true =>
        rw [hE] at tr
        obtain ⟨acc', J', g⟩ := go n hn (Nat.le_refl _) (Nat.le_succ _)
        refine ⟨acc', J', ?_⟩
        simp only [lB, seqS, ifS, q1', tr, R.toS, Bool.not_true, Bool.false_eq_true, if_false, nilS, SR.next] at g ⊢
        exact g
      | false =>
        rw [hE] at tr
        cases h3 : hdP (isIn (Str.ofString " ")) (z.cps.toList.drop n) with
        | false =>
          rw [h3] at q2'
          refine ⟨acc, J, ?_⟩
          have r1 := lst2 (F := F) (L := L ++ .lst acc :: J) (en := [.d (.str z), .d (.int n), .d (.int dep), .d (.loc (F.length + L.length)), y4, x5, x6]) (fa := consA (cM (.str (Str.ofString "bad"))) (consA (getV 1) nilA)) (xs := [.str (Str.ofString "bad"), .int n]) rfl rfl
          simp only [lB, seqS, ifS, q1', q2', tr, R.toS, Bool.not_false, Bool.false_eq_true, if_false, if_true, nilS, SR.next]
          rw [r1]
          rfl
        | true =>
          rw [h3] at q2'
          have hlt : n + 1 ≤ z.length := by
            obtain ⟨c, _, e⟩ := hd_cons h3
            have := congrArg List.length e
            rw [List.length_drop, e1, List.length_cons] at this
            omega
          obtain ⟨acc', J', g⟩ := go (n + 1) hlt (Nat.le_succ _) (Nat.le_refl _)
          refine ⟨acc', J', ?_⟩
          rw [← tail_drop h3] at g
          simp only [lB, seqS, ifS, q1', q2', tr, R.toS, Bool.not_false, Bool.not_true, Bool.false_eq_true, if_false, if_true, nilS, SR.next, inc7] at g ⊢
          exact g
end
end K20
end SP17
section SP18
set_option Elab.async false
set_option linter.all false
set_option maxRecDepth 100000
set_option maxHeartbeats 4000000
namespace K20
open PySem L2 MI
/-- no word of it is bad -/
def NoBad (z : Str) : Prop := ∀ n, mkS ((z.cps.toList.drop n).takeWhile (isIn SMA)) ≠ Str.ofString "bad"
theorem pLoop_tup {pt : Nat → Cs → PR} : ∀ (f : Nat) (acc : List D) (n : Nat) (r : Cs) {d n2 r2}, pLoop pt f acc n r = .fine d n2 r2 → ∃ ds, d = .tup ds
  | 0, _, _, _, _, _, _, h => by unfold pLoop at h; cases h
  | f + 1, acc, n, r, d, n2, r2, h => by
    unfold pLoop at h
    split at h
    · cases h; exact ⟨_, rfl⟩
    · split at h
      · cases h
      · split at h
        · cases h
        · exact pLoop_tup f _ _ _ h
theorem pInt_int (n : Nat) (r : Cs) {d n2 r2} (h : pInt n r = .fine d n2 r2) : ∃ i, d = .int i := by
  have key : ∀ neg n r, pNum neg n r = .fine d n2 r2 → ∃ i, d = .int i := by
    intro neg n r h
    unfold pNum at h
    split at h
    · cases h
    · split at h
      · cases h
      · split at h
        · cases h
        · cases h; exact ⟨_, rfl⟩
  unfold pInt at h
  split at h
  · exact key _ _ _ h
  · exact key _ _ _ h
theorem pAtom_nb {n : Nat} {r : Cs} {d n2 r2} (hb : mkS (r.takeWhile (isIn SMA)) ≠ Str.ofString "bad") (h : pAtom n r = .fine d n2 r2) : d ≠ .str (Str.ofString "bad") := by
  unfold pAtom at h
  split at h
  · cases h
    intro e
    injection e with e
    exact absurd e (by decide +kernel)
  · split at h
    · cases h
      split
      · intro e; cases e
      · intro e
        injection e with e
        exact hb e
    · obtain ⟨i, rfl⟩ := pInt_int n r h
      intro e; cases e
theorem pTerm_nb {f n j : Nat} {r : Cs} {d n2 r2} (hb : mkS (r.takeWhile (isIn SMA)) ≠ Str.ofString "bad") (h : pTerm f j n r = .fine d n2 r2) : d ≠ .str (Str.ofString "bad") := by
  cases j with
  | zero =>
    unfold pTerm at h
    split at h
    · cases h
    · exact pAtom_nb hb h
  | succ j =>
    unfold pTerm at h
    split at h
    · obtain ⟨ds, rfl⟩ := pLoop_tup _ _ _ _ h
      intro e; cases e
    · exact pAtom_nb hb h
section
variable {fu k : Nat} {F L : Sto} {n q : Nat} {z : Str}
theorem l_lent {dep j f : Nat} {pt : Nat → Cs → PR} (hz : lenOk z.length = true) (hz2 : z.length ≤ 50000) (hj : j ≤ 12) (hf : z.length < f)
    (hp : ∀ n r, Eaten j n r (pt n r)) (hp2 : ∀ n r, Eat2 50000 r (pt n r)) (hnb : ∀ n d n2 r2, pt n (z.cps.toList.drop n) = .fine d n2 r2 → d ≠ .str (Str.ofString "bad"))
    (ht : ∀ (n : Nat) (L : Sto), Tl F L (encP (pt n (z.cps.toList.drop n))) (run fu k 18 [.str z, .int n, .int dep] F L)) (h0 : 0 < n) (hn : n ≤ z.length) :
    Tl F L (encP (pLoop pt f [] n (z.cps.toList.drop n))) (run fu (k + 1) 19 [.str z, .int n, .int dep] F L) := by
  have e1 : z.cps.toList.length = z.length := Array.length_toList
  obtain ⟨acc', J', g⟩ := lent_loop (F := F) (L := L) (N := z.length + 1) hz hz2 hj hp hp2 hnb ht (z.length + 1) f [] n [] .no .no .no (by rw [List.length_drop, e1]; omega) (by rw [List.length_drop, e1]; omega) h0 hn
  have zl : z.length ≤ 16777216 := of_decide_eq_true hz
  refine ⟨.lst acc' :: J', ?_⟩
  show defM 7 (b_19 fu (run fu k)) [.str z, .int n, .int dep] F L = _
  rw [b19_eq]
  have l0 : lenOk 0 = true := rfl
  have rg : rng1I (consA (op2 addO (cbM lenG (consA (getV 0) nilA)) (cM (.int 1))) nilA) F [.d (.str z), .d (.int n), .d (.int dep), .d (.loc (F.length + L.length)), .no, .no, .no] (L ++ [.lst []]) = .ok (rngSrc 0 (z.length + 1)) (L ++ [.lst []]) := by
    have h := len_str (F := F) (L := L ++ [.lst []]) hz (en := [.d (.str z), .d (.int n), .d (.int dep), .d (.loc (F.length + L.length)), .no, .no, .no]) (i := 0) rfl
    have b : big62 ((z.length : Int) + 1) = true := by
      unfold big62
      rw [Bool.and_eq_true]
      exact ⟨decide_eq_true (by omega), decide_eq_true (by omega)⟩
    have t : ((z.length : Int) + 1).toNat = z.length + 1 := by omega
    simp only [rng1I, consA, op2, h, R.bind, cM, addO, nilA, b, if_true, t]
  simp only [defM, startD, List.map, List.replicate, List.length_cons, List.length_nil, Nat.reduceSub, Nat.reduceAdd, List.cons_append, List.nil_append, seqS, asgS, lstM, nilA, R.bind, l0, if_true, newO, R.toS, nameG, List.set_cons_succ, List.set_cons_zero, SR.next, forS, rg]
  rw [show (rngSrc 0 (z.length + 1)).num = z.length + 1 from rfl, g]
  simp only [SR.fin, List.length_append, List.length_cons, ← Nat.add_assoc]
theorem l_lread (hz : lenOk z.length = true) (hz2 : z.length ≤ 50000) (hf : z.length < fu) (hb : NoBad z) : ∀ (j k dep n : Nat) (L : Sto), dep + j = 12 →
    Tl F L (encP (pTerm fu j n (z.cps.toList.drop n))) (run fu (k + 2 + 2 * j) 18 [.str z, .int n, .int dep] F L)
  | 0, k, dep, n, L, hd => by
    have z1 := l_lread1 (fu := fu) (k := k) (F := F) (L := L) (n := n) (dep := dep) (pE := .bad 0) hz (fun _ h => absurd (by omega) h)
    rw [if_pos (show dep = 12 by omega)] at z1
    unfold pTerm
    exact z1
  | j + 1, k, dep, n, L, hd => by
    have z1 := l_lread1 (fu := fu) (k := k + 2 * j + 2) (F := F) (L := L) (n := n) (dep := dep) (pE := pLoop (pTerm fu j) fu [] (n + 1) (z.cps.toList.drop (n + 1))) hz (fun h1 h => by
        have hn : n + 1 ≤ z.length := by
          obtain ⟨c, _, e⟩ := hd_cons h1
          have := congrArg List.length e
          rw [List.length_drop, Array.length_toList, List.length_cons] at this
          show n + 1 ≤ z.cps.size
          omega
        exact l_lent (fu := fu) (k := k + 2 * j + 2) (F := F) (L := L) (dep := dep + 1) hz hz2 (by omega) hf (pTerm_eaten fu j) (pTerm_eat2 fu j) (fun n d n2 r2 e => pTerm_nb (hb n) e) (fun n L => by
          have := l_lread hz hz2 hf hb j k (dep + 1) n L (by omega)
          rw [show k + 2 * j + 2 = k + 2 + 2 * j by omega]
          exact this) (Nat.succ_pos n) hn)
    rw [if_neg (show ¬ dep = 12 by omega)] at z1
    unfold pTerm
    rw [show k + 2 + 2 * (j + 1) = k + 2 * j + 2 + 2 by omega]
    cases h : hdP (isIn (Str.ofString "(")) (z.cps.toList.drop n) with
    | true => rw [h] at z1; rw [tail_drop h]; exact z1
    | false => rw [h] at z1; exact z1
theorem l_due (hz : lenOk z.length = true) (hz2 : z.length ≤ 50000) (hf : z.length < fu) (hb : NoBad z) : Tl F L (toldD fu z) (run fu (k + 2 + 2 * 12 + 1) 20 [.str z] F L) := by
  obtain ⟨J, hJ⟩ := l_lread (F := F) hz hz2 hf hb 12 k 0 0 L rfl
  rw [List.drop_zero] at hJ
  have pa : partsD F (L ++ J ++ [.lst (encP (pTerm fu 12 0 z.cps.toList))]) (.loc (F.length + L.length + J.length)) = some (encP (pTerm fu 12 0 z.cps.toList)) := by
    have := lst_end (F := F) (A := L ++ J) (acc := encP (pTerm fu 12 0 z.cps.toList))
    rw [List.length_append, ← Nat.add_assoc] at this
    exact this
  have cl : callM .keep 3 (run fu (k + 2 + 2 * 12) 18) (moreA [] (consA (getV 0) (consA (cM (.int 0)) (consA (cM (.int 0)) nilA)))) F [.d (.str z), .no, .no] L = .ok (.loc (F.length + L.length + J.length)) (L ++ J ++ [.lst (encP (pTerm fu 12 0 z.cps.toList))]) := by
    rw [← hJ]
    simp only [callM, moreA, consA, getV, List.getElem?_cons_zero, R.bind, cM, nilA, List.append_nil, callR, List.length_cons, List.length_nil, Nat.reduceAdd, if_true]
    rfl
  have l2 : lenOk 2 = true := rfl
  show Tl F L _ (defM 3 (b_20 fu (run fu (k + 2 + 2 * 12))) [.str z] F L)
  unfold b_20 toldD readD
  have enl : (encP (pTerm fu 12 0 z.cps.toList)).length = 2 := by cases pTerm fu 12 0 z.cps.toList <;> rfl
  generalize hB : seqS (ifS (MI.andM (truM (cbM isiG (consA (getV 1) (consA (cM (.ty "str")) (nilA))))) (tstM (op2 eqO (getV 1) (cM (.str (Str.ofString "bad")))))) (retS (lstM (consA (cM (.str (Str.ofString "bad"))) (consA (getV 2) (nilA))))) (nilS))
    (retS (ifM (tstM (op2 ltX (getV 2) (cbM lenG (consA (getV 0) (nilA))))) (lstM (consA (cM (.str (Str.ofString "bad"))) (consA (getV 2) (nilA)))) (lstM (consA (cM (.str (Str.ofString "term"))) (consA (getV 1) (nilA)))))) = B
  have base : ∀ d m, encP (pTerm fu 12 0 z.cps.toList) = [d, .int m] → defM 3 (seqS (asgS (callM .keep 3 (run fu (k + 2 + 2 * 12) 18) (moreA [] (consA (getV 0) (consA (cM (.int 0)) (consA (cM (.int 0)) (nilA)))))) (unpG 2 (consG (nameG 1) (consG (nameG 2) (nilG))))) B) [.str z] F L
      = (B F [.d (.str z), .d d, .d (.int m)] (L ++ J ++ [.lst [d, .int m]])).fin := by
    intro d m e
    rw [e] at cl pa
    simp only [defM, startD, List.map, List.replicate, List.length_cons, List.length_nil, Nat.reduceSub, Nat.reduceAdd, List.cons_append, List.nil_append, seqS, asgS, cl, R.toS, unpG, pa, if_true, consG, nameG, List.set_cons_succ, List.set_cons_zero, nilG, SR.next]
  cases e : pTerm fu 12 0 z.cps.toList with
  | bad mm =>
    rw [base _ _ (by rw [e]; rfl)]
    subst hB
    refine ⟨J ++ [.lst [.str (Str.ofString "bad"), .int mm]], ?_⟩
    have ti : truM (cbM isiG (consA (getV 1) (consA (cM (.ty "str")) (nilA)))) F [.d (.str z), .d (.str (Str.ofString "bad")), .d (.int mm)] (L ++ J ++ [.lst [.str (Str.ofString "bad"), .int mm]]) = .ok true (L ++ J ++ [.lst [.str (Str.ofString "bad"), .int mm]]) := rfl
    have tb : tstM (op2 eqO (getV 1) (cM (.str (Str.ofString "bad")))) F [.d (.str z), .d (.str (Str.ofString "bad")), .d (.int mm)] (L ++ J ++ [.lst [.str (Str.ofString "bad"), .int mm]]) = .ok true (L ++ J ++ [.lst [.str (Str.ofString "bad"), .int mm]]) := by
      simp only [tstM, op2, getV, List.getElem?_cons_succ, List.getElem?_cons_zero, R.bind, cM, eqO, asB, decide_true]
    have r1 := lst2 (F := F) (L := L ++ J ++ [.lst [.str (Str.ofString "bad"), .int mm]]) (en := [.d (.str z), .d (.str (Str.ofString "bad")), .d (.int mm)]) (fa := consA (cM (.str (Str.ofString "bad"))) (consA (getV 2) nilA)) (xs := [.str (Str.ofString "bad"), .int mm]) rfl rfl
    simp only [seqS, ifS, MI.andM, ti, tb, R.bind, if_true, R.toS, r1, SR.next, SR.fin]
    simp only [List.length_append, List.length_cons, List.length_nil, ← Nat.add_assoc, List.append_assoc]
  | fine d n r =>
    have enc : encP (pTerm fu 12 0 z.cps.toList) = [d, .int n] := by rw [e]; rfl
    obtain ⟨c, c1, c2, c3, c4⟩ := pTerm_eaten fu 12 0 _ d n r e
    obtain ⟨k1, k2⟩ := pTerm_eat2 (s := 50000) fu 12 0 _ d n r e
    have e1 : z.cps.toList.length = z.length := Array.length_toList
    have hdb := pTerm_nb (hb 0) (by rw [List.drop_zero]; exact e)
    have tb := eq_bad (F := F) (L := L ++ J ++ [.lst [d, .int n]]) (en := [.d (.str z), .d d, .d (.int n)]) (i := 1) rfl c4 (Nat.le_refl _) (k1 (by omega)) (Nat.le_refl _) hdb
    rw [base _ _ enc]
    subst hB
    have isb : ∃ b, truM (cbM isiG (consA (getV 1) (consA (cM (.ty "str")) (nilA)))) F [.d (.str z), .d d, .d (.int n)] (L ++ J ++ [.lst [d, .int n]]) = .ok b (L ++ J ++ [.lst [d, .int n]]) := by
      cases c4 with
      | non => exact ⟨_, rfl⟩
      | int _ => exact ⟨_, rfl⟩
      | str _ => exact ⟨_, rfl⟩
      | tup _ => exact ⟨_, rfl⟩
    obtain ⟨b, ti⟩ := isb
    have cond : MI.andM (truM (cbM isiG (consA (getV 1) (consA (cM (.ty "str")) (nilA))))) (tstM (op2 eqO (getV 1) (cM (.str (Str.ofString "bad"))))) F [.d (.str z), .d d, .d (.int n)] (L ++ J ++ [.lst [d, .int n]]) = .ok false (L ++ J ++ [.lst [d, .int n]]) := by
      cases b <;> simp only [MI.andM, ti, R.bind, tb, Bool.false_eq_true, if_false, if_true]
    have ln := len_str (F := F) (L := L ++ J ++ [.lst [d, .int n]]) hz (en := [.d (.str z), .d d, .d (.int n)]) (i := 0) rfl
    have tl : tstM (op2 ltX (getV 2) (cbM lenG (consA (getV 0) nilA))) F [.d (.str z), .d d, .d (.int n)] (L ++ J ++ [.lst [d, .int n]]) = .ok (decide ((n : Int) < (z.length : Int))) (L ++ J ++ [.lst [d, .int n]]) := by
      simp only [tstM, op2, getV, List.getElem?_cons_succ, List.getElem?_cons_zero, R.bind, ln, ltX, cmpO, asB]
    by_cases hn : n < z.length
    · refine ⟨J ++ [.lst [d, .int n]], ?_⟩
      have hd : decide ((n : Int) < (z.length : Int)) = true := decide_eq_true (by omega)
      simp only [seqS, ifS, cond, R.toS, Bool.false_eq_true, if_false, nilS, SR.next, retS, ifM, tl, hd, R.bind, if_true, lstM, consA, cM, getV, List.getElem?_cons_succ, List.getElem?_cons_zero, nilA, List.length_cons, List.length_nil, Nat.reduceAdd, l2, newO, SR.fin, hn]
      simp only [List.length_append, List.length_cons, List.length_nil, ← Nat.add_assoc, List.append_assoc]
    · refine ⟨J ++ [.lst [d, .int n]], ?_⟩
      have hd : decide ((n : Int) < (z.length : Int)) = false := decide_eq_false (by omega)
      simp only [seqS, ifS, cond, R.toS, Bool.false_eq_true, if_false, nilS, SR.next, retS, ifM, tl, hd, R.bind, if_true, lstM, consA, cM, getV, List.getElem?_cons_succ, List.getElem?_cons_zero, nilA, List.length_cons, List.length_nil, Nat.reduceAdd, l2, newO, SR.fin, hn]
      simp only [List.length_append, List.length_cons, List.length_nil, ← Nat.add_assoc, List.append_assoc]
end
end K20
end SP18
section SP19
set_option Elab.async false
set_option linter.all false
set_option maxRecDepth 100000
set_option maxHeartbeats 4000000
namespace K20
open PySem L2 MI
def numI (i : Int) : Cs := if i < 0 then 45 :: TL.numL i.natAbs else TL.numL i.natAbs
theorem tl_int (i : Int) : (Str.ofString (toString i)).cps.toList = numI i := by
  cases i with
  | ofNat m =>
    have : numI (Int.ofNat m) = TL.numL m := by
      unfold numI
      rw [if_neg (by simp)]
      rfl
    rw [this]
    exact TL.tl_num m
  | negSucc m =>
    have e : numI (Int.negSucc m) = 45 :: TL.numL (m + 1) := by
      unfold numI
      rw [if_pos (Int.negSucc_lt_zero m)]
      rfl
    rw [e, PyProof.Rows.signs_ofString]
    have e2 : toString (Int.negSucc m) = "-" ++ Nat.repr (m + 1) := rfl
    rw [e2, String.toList_append, List.map_append]
    have e3 : ("-" : String).toList.map Char.toNat = [45] := by decide +kernel
    rw [e3, Nat.toList_repr]
    rfl
theorem str_int (i : Int) : Str.ofString (toString i) = mkS (numI i) := TL.ext_tl (tl_int i)
theorem numI_len {i : Int} {k : Nat} (hk : 0 < k) (h : i.natAbs < 10 ^ k) : (numI i).length ≤ k + 1 := by
  have := TL.numL_len hk h
  unfold numI
  split
  · rw [List.length_cons]; omega
  · omega
@[irreducible] def big : Nat := 10 ^ 4000
theorem big_lo : 2 ^ 13287 ≤ big := by decide +kernel
theorem big_4300 : big ≤ 10 ^ 4300 := by decide +kernel
theorem big_eq : (1 : Int) * 10 ^ 4000 = (big : Int) := by
  unfold big
  rw [Int.one_mul, Int.natCast_pow, Int.cast_ofNat_Int]

section
variable {fu k : Nat} {F L : Sto}
theorem bound_loop {x : Sl} {N : Nat} : ∀ (m : Nat) (b : Int) (y : Sl), ∃ y', MI.forM (rngSrc 0 N) (nameG 2) (augS 1 (intC mul64 fun i j => i * j) (cM (.int 10))) F m [x, .d (.int b), y] L = .nx [x, .d (.int (b * 10 ^ m)), y'] L
  | 0, b, y => ⟨y, by
    unfold MI.forM
    simp only [rngSrc, if_true, Int.pow_zero, Int.mul_one]⟩
  | m + 1, b, y => by
    obtain ⟨y', ih⟩ := bound_loop (N := N) m (b * 10) (.d (.int (0 + ((N - (m + 1) : Nat) : Int))))
    refine ⟨y', ?_⟩
    have hm : mul64 b 10 = true := by
      unfold mul64
      rw [Bool.or_eq_true]
      exact .inr rfl
    unfold MI.forM
    simp only [rngSrc, nameG, List.set_cons_succ, List.set_cons_zero, SR.next, augS, List.getElem?_cons_succ, List.getElem?_cons_zero, cM, R.bind, intC, hm, if_true, R.toS, turnK]
    simp only [rngSrc] at ih
    rw [ih]
    congr 4
    rw [Int.pow_succ, Int.mul_assoc, Int.mul_comm 10]
theorem t13 : (13287 : Int).toNat = 13287 := rfl
theorem has_low {i : Int} (hq : (i.natAbs : Int) / 2 ^ (13287 : Int).toNat = 0) : i.natAbs < big := by
  rw [t13] at hq
  have e : (2 : Int) ^ 13287 = ((2 ^ 13287 : Nat) : Int) := by
    rw [Int.natCast_pow, Int.cast_ofNat_Int]
  rw [e] at hq
  have h2 : i.natAbs / 2 ^ 13287 = 0 := by
    have := hq
    rw [← Int.natCast_ediv] at this
    exact Int.ofNat_eq_zero.mp this
  have h3 : 0 < 2 ^ 13287 := Nat.pow_pos (by decide)
  exact Nat.lt_of_lt_of_le ((Nat.div_eq_zero_iff_lt h3).mp h2) big_lo
theorem bound_all {x : Sl} {N m : Nat} {B : Int} (hm : 1 * 10 ^ m = B) : ∃ y, MI.forM (rngSrc 0 N) (nameG 2) (augS 1 (intC mul64 fun i j => i * j) (cM (.int 10))) F m [x, .d (.int 1), .no] L = .nx [x, .d (.int B), y] L := by
  subst hm
  exact bound_loop m 1 .no
theorem has_loopN {x : Sl} {N : Nat} {a : Int} (hN : N = 4000) (ha : a = (N : Int)) : ∃ y, forS (rng1I (consA (cM (.int a)) nilA)) (nameG 2) (augS 1 (intC mul64 fun i j => i * j) (cM (.int 10))) F [x, .d (.int 1), .no] L = .nx [x, .d (.int (big : Int)), y] L := by
  obtain ⟨y, lp⟩ := bound_all (F := F) (L := L) (x := x) (N := N) (m := N) (B := big) (by rw [hN]; exact big_eq)
  refine ⟨y, ?_⟩
  have hb : big62 a = true := by
    rw [ha, hN]
    rfl
  have ht : a.toNat = N := by rw [ha]; exact Int.toNat_natCast N
  have rg : ∀ en, rng1I (consA (cM (.int a)) nilA) F en L = .ok (rngSrc 0 N) L := by
    intro en
    simp only [rng1I, consA, cM, R.bind, nilA, hb, if_true, ht]
  unfold forS
  rw [rg]
  exact lp
theorem has_loop {x : Sl} : ∃ y, forS (rng1I (consA (cM (.int 4000)) nilA)) (nameG 2) (augS 1 (intC mul64 fun i j => i * j) (cM (.int 10))) F [x, .d (.int 1), .no] L = .nx [x, .d (.int (big : Int)), y] L := has_loopN rfl rfl
theorem next_nx {en : En} {L : Sto} {k : En → Sto → SR} : (SR.nx en L).next k = k en L := rfl
theorem l_has {i : Int} : run fu (k + 1) 0 [.int i] F L = .ok (.bl (decide (i.natAbs < big))) L := by
  show defM 3 (b_0 fu (run fu k)) [.int i] F L = _
  have ea : (if i < 0 then -i else i) = (i.natAbs : Int) := by split <;> omega
  have ab : ∀ a b : Sl, ∀ L : Sto, cbM absG (consA (getV 0) nilA) F [.d (.int i), a, b] L = .ok (.int (i.natAbs : Int)) L := by
    intro a b L
    simp only [cbM, consA, getV, List.getElem?_cons_zero, R.bind, nilA, absG, ea]
  have h0 : decide ((0 : Int) ≤ 13287) = true := rfl
  have sh : ∀ a b : Sl, op2 shrO (cbM absG (consA (getV 0) nilA)) (cM (.int 13287)) F [.d (.int i), a, b] L = .ok (.int ((i.natAbs : Int) / 2 ^ (13287 : Int).toNat)) L := by
    intro a b
    simp only [op2, ab, R.bind, cM, shrO, intC, h0, if_true]
  obtain ⟨y, lp'⟩ := has_loop (F := F) (L := L) (x := .d (.int i))
  have low : (i.natAbs : Int) / 2 ^ (13287 : Int).toNat = 0 → i.natAbs < big := has_low
  generalize (i.natAbs : Int) / 2 ^ (13287 : Int).toNat = Q at sh low
  by_cases hq : Q = 0
  · have hb : i.natAbs < big := low hq
    rw [decide_eq_true hb]
    have ne : (Q != 0) = false := by rw [hq]; rfl
    simp only [defM, b_0, startD, List.map, List.replicate, List.length_cons, List.length_nil, Nat.reduceSub, Nat.reduceAdd, List.cons_append, List.nil_append, seqS, ifS, MI.notM, truM, sh, R.bind, truD, ne, Bool.not_false, R.toS, if_true, retS, cM, SR.next, SR.fin]
  · have ne : (Q != 0) = true := bne_iff_ne.mpr hq
    have lt : decide ((i.natAbs : Int) < (big : Int)) = decide (i.natAbs < big) := by
      by_cases h : i.natAbs < big
      · rw [decide_eq_true h, decide_eq_true (Int.ofNat_lt.mpr h)]
      · rw [decide_eq_false h, decide_eq_false (fun z => h (Int.ofNat_lt.mp z))]
    have a1 : asgS (cM (.int 1)) (nameG 1) F [.d (.int i), .no, .no] L = .nx [.d (.int i), .d (.int 1), .no] L := rfl
    have s1 : ifS (MI.notM (truM (op2 shrO (cbM absG (consA (getV 0) nilA)) (cM (.int 13287))))) (retS (cM (.bl true))) nilS F [.d (.int i), .no, .no] L = .nx [.d (.int i), .no, .no] L := by
      simp only [ifS, MI.notM, truM, sh, R.bind, truD, ne, Bool.not_true, Bool.false_eq_true, if_false, nilS, R.toS]
    have st : startD 3 [.int i] = [.d (.int i), .no, .no] := rfl
    rw [defM, st]
    unfold b_0
    rw [seqS, s1, next_nx, seqS, a1, next_nx, seqS, lp', next_nx]
    simp only [retS, op2, ab, R.bind, getV, List.getElem?_cons_succ, List.getElem?_cons_zero, ltX, cmpO, lt, R.toS, SR.fin]
end
end K20
end SP19
section SP20
set_option Elab.async false
set_option linter.all false
set_option maxRecDepth 100000
set_option maxHeartbeats 4000000
namespace K20
open PySem L2 MI
def xNo : Exc := ⟨1, [], []⟩
section
variable {fu k : Nat} {F L : Sto}
/-- a comprehension whose parts touch nothing -/
theorem lc_pure {src : Src} {xs : List D} {i : Nat} {fe : EM} {en : En} {φ : D → Option D} {x0 : Exc} (hnum : src.num = xs.length) (hit : ∀ L' i, src.item i (F ++ L') = xs[i]?) (hfin : ∀ L', src.fin (F ++ L') = true)
    (hfe : ∀ x ∈ xs, ∀ L', fe F (en.set i (.d x)) L' = match φ x with | some y => .ok y L' | none => .err x0 L') (hl : xs.length ≤ 16777216) : ∀ (m : Nat) (acc : List D), acc.length + m = xs.length →
      match (xs.drop acc.length).mapM φ with
      | some ys => lcGo src (nameG i) yesM fe (F.length + 0) F en m [.lst acc] = .ok (.loc (F.length + 0)) [.lst (acc ++ ys)]
      | none => ∃ L', lcGo src (nameG i) yesM fe (F.length + 0) F en m [.lst acc] = .err x0 L'
  | 0, acc, h => by
    have e : xs.drop acc.length = [] := List.drop_eq_nil_of_le (by omega)
    rw [e]
    simp only [List.mapM_nil]
    unfold lcGo
    rw [hfin, if_pos rfl]
    show (R.ok (D.loc (F.length + 0)) [MO.lst acc] : R D) = R.ok (D.loc (F.length + 0)) [MO.lst (acc ++ [])]
    rw [List.append_nil]
  | m + 1, acc, h => by
    have hlt : acc.length < xs.length := by omega
    have e : xs.drop acc.length = xs[acc.length] :: xs.drop (acc.length + 1) := List.drop_eq_getElem_cons hlt
    have hi : src.item (src.num - (m + 1)) (F ++ [.lst acc]) = some xs[acc.length] := by
      rw [hit, hnum, show xs.length - (m + 1) = acc.length by omega, List.getElem?_eq_getElem hlt]
    have hf := hfe xs[acc.length] (List.getElem_mem hlt)
    rw [e, List.mapM_cons]
    unfold lcGo
    simp only [hi, nameG, yesM, R.bind, if_true, hf]
    cases hφ : φ xs[acc.length] with
    | none =>
      simp only [hφ]
      exact ⟨_, rfl⟩
    | some y =>
      have ow : ownL F [.lst acc] (.loc (F.length + 0)) = some (F.length + 0, acc) := by
        unfold ownL
        have : lstAt F [.lst acc] (F.length + 0) = some acc := lst_mid (A := []) (J := [])
        simp only [Nat.le_add_right, if_true, this, Option.map]
      have hlt2 : decide (acc.length < 16777216) = true := decide_eq_true (by omega)
      have ih := lc_pure hnum hit hfin hfe hl m (acc ++ [y]) (by rw [List.length_append, List.length_singleton]; omega)
      rw [List.length_append, List.length_singleton] at ih
      have st : appendB F (.loc (F.length + 0)) [y] [.lst acc] = .ok .non [.lst (acc ++ [y])] := by
        simp only [appendB, ow, hlt2, if_true, setL, Nat.add_sub_cancel_left]
        rfl
      simp only [hφ, st]
      cases hm : (xs.drop (acc.length + 1)).mapM φ with
      | none => rw [hm] at ih; exact ih
      | some ys =>
        rw [hm] at ih
        show lcGo src (nameG i) yesM fe (F.length + 0) F en m [.lst (acc ++ [y])] = _
        rw [ih, List.append_assoc]
        rfl
end
mutual
/-- the text of a term; none: it has none -/
def tt : D → Option Cs
  | .non => some [110, 111, 110, 101]
  | .int i => if i.natAbs < big then some (numI i) else none
  | .str w => if w = Str.ofString "none" ∨ (w.cps.toList.all fun c => isIn SMA c) = false then none else some (if w.cps.toList.isEmpty then [46] else w.cps.toList)
  | .tup ds => (ttL ds).map fun ts => 40 :: (TL.joinL [32] ts ++ [41])
  | _ => none
def ttL : List D → Option (List Cs)
  | [] => some []
  | d :: ds => (tt d).bind fun t => (ttL ds).map fun ts => t :: ts
end
theorem ttL_eq : ∀ ds : List D, ttL ds = ds.mapM tt
  | [] => rfl
  | d :: ds => by
    rw [List.mapM_cons]
    show (tt d).bind (fun t => (ttL ds).map fun ts => t :: ts) = _
    rw [ttL_eq ds]
    cases tt d with
    | none => rfl
    | some t =>
      cases ds.mapM tt <;> rfl
/-- small data -/
inductive Dt : Nat → D → Prop where
  | non {j} : Dt j .non
  | int {j i} : Dt j (.int i)
  | str {j w} : w.length ≤ 10 → Dt j (.str w)
  | tup {j ds} : ds.length ≤ 3 → (∀ d ∈ ds, Dt j d) → Dt (j + 1) (.tup ds)
def Bd : Nat → Nat
  | 0 => 4001
  | j + 1 => 3 * Bd j + 5
theorem Bd_le : ∀ j, 4001 ≤ Bd j
  | 0 => Nat.le_refl _
  | j + 1 => by have := Bd_le j; unfold Bd; omega
theorem join_len {B : Nat} : ∀ {ts : List Cs}, (∀ t ∈ ts, t.length ≤ B) → (TL.joinL [32] ts).length ≤ ts.length * (B + 1)
  | [], _ => Nat.zero_le _
  | [t], h => by
    have := h t (List.mem_cons_self ..)
    show t.length ≤ 1 * (B + 1)
    omega
  | t :: u :: r, h => by
    have h1 := h t (List.mem_cons_self ..)
    have h2 := join_len fun x hx => h x (List.mem_cons_of_mem _ hx)
    show (t ++ ([32] ++ TL.joinL [32] (u :: r))).length ≤ _
    rw [List.length_append, List.length_append]
    have e : (t :: u :: r).length * (B + 1) = (B + 1) + (u :: r).length * (B + 1) := by
      rw [List.length_cons (a := t), Nat.succ_mul, Nat.add_comm]
    rw [e]
    simp only [List.length_singleton]
    omega
theorem mapM_mem {α β : Type} {f : α → Option β} : ∀ {xs : List α} {ys : List β}, xs.mapM f = some ys → ys.length = xs.length ∧ ∀ y ∈ ys, ∃ x ∈ xs, f x = some y
  | [], ys, h => by
    rw [List.mapM_nil] at h
    cases h
    exact ⟨rfl, fun _ h => nomatch h⟩
  | x :: xs, ys, h => by
    rw [List.mapM_cons] at h
    cases e : f x with
    | none => rw [e] at h; cases h
    | some y =>
      rw [e] at h
      cases e2 : xs.mapM f with
      | none => rw [e2] at h; cases h
      | some zs =>
        rw [e2] at h
        cases h
        obtain ⟨h1, h2⟩ := mapM_mem e2
        refine ⟨by rw [List.length_cons, List.length_cons, h1], fun w hw => ?_⟩
        rcases List.mem_cons.mp hw with rfl | hw
        · exact ⟨x, List.mem_cons_self .., e⟩
        · obtain ⟨v, hv, e3⟩ := h2 w hw
          exact ⟨v, List.mem_cons_of_mem _ hv, e3⟩
theorem big_pow : big = 10 ^ 4000 := by unfold big; rfl
theorem tt_len {j : Nat} {d : D} (h : Dt j d) : ∀ t, tt d = some t → t.length ≤ Bd j := by
  induction h with
  | @non j =>
    intro t e
    have e' : some [110, 111, 110, 101] = some t := e
    cases e'
    have := Bd_le j
    show 4 ≤ _
    omega
  | @int j i =>
    intro t e
    have e' : (if i.natAbs < big then some (numI i) else none) = some t := e
    split at e'
    · rename_i hb
      cases e'
      have := Bd_le j
      have h2 := numI_len (i := i) (k := 4000) (by decide) (by rw [← big_pow]; exact hb)
      omega
    · cases e'
  | @str j w hl =>
    intro t e
    have e' : (if w = Str.ofString "none" ∨ (w.cps.toList.all fun c => isIn SMA c) = false then none else some (if w.cps.toList.isEmpty then [46] else w.cps.toList)) = some t := e
    have := Bd_le j
    have wl : w.cps.toList.length = w.length := Array.length_toList
    split at e'
    · cases e'
    · cases e'
      split
      · show 1 ≤ _; omega
      · omega
  | @tup j ds hl _ ih =>
    intro t e
    have e' : (ttL ds).map (fun ts => 40 :: (TL.joinL [32] ts ++ [41])) = some t := by unfold tt at e; exact e
    rw [ttL_eq] at e'
    cases e2 : ds.mapM tt with
    | none => rw [e2] at e'; cases e'
    | some ts =>
      rw [e2] at e'
      cases e'
      obtain ⟨m1, m2⟩ := mapM_mem e2
      have jl := join_len (B := Bd j) (ts := ts) fun t ht => by
        obtain ⟨x, hx, e⟩ := m2 t ht
        exact ih x hx t e
      rw [m1] at jl
      have : ds.length * (Bd j + 1) ≤ 3 * (Bd j + 1) := Nat.mul_le_mul_right _ hl
      rw [List.length_cons, List.length_append, List.length_singleton]
      unfold Bd
      omega
end K20
end SP20
section SP21
set_option Elab.async false
set_option linter.all false
set_option maxRecDepth 100000
set_option maxHeartbeats 4000000
namespace K20
open PySem L2 MI
/-- the parts, joined -/
def seqE (i : Nat) (c : FM) : EM := op2 addO (op2 addO (cM (.str (Str.ofString "("))) (gcE (bmM "str" joinB (cM (.str (Str.ofString " "))) (consA (lcxM (anyI (getV 0)) (nameG i) (yesM) (callM .pure 1 c (moreA [] (consA (getV i) (nilA)))) [i]) (nilA))))) (cM (.str (Str.ofString ")")))
theorem mapM_φ {f : D → Option Cs} : ∀ ds : List D, ds.mapM (fun x => (f x).map fun t => D.str (mkS t)) = (ds.mapM f).map fun ts => ts.map fun t => D.str (mkS t)
  | [] => rfl
  | d :: ds => by
    rw [List.mapM_cons, List.mapM_cons, mapM_φ ds]
    cases f d with
    | none => rfl
    | some t => cases ds.mapM f <;> rfl
theorem strs_of : ∀ ts : List Cs, strsD (ts.map fun t => D.str (mkS t)) = some (ts.map mkS)
  | [] => rfl
  | t :: ts => by
    show (strsD (ts.map fun t => D.str (mkS t))).map (fun bs => mkS t :: bs) = _
    rw [strs_of ts]
    rfl
theorem tl_mks : ∀ ts : List Cs, (ts.map mkS).map TL.tl = ts
  | [] => rfl
  | t :: ts => by
    rw [List.map_cons, List.map_cons, tl_mks ts]
theorem join_sp (ts : List Cs) : Txt.join (Str.ofString " ") (ts.map mkS) = mkS (TL.joinL [32] ts) := by
  refine TL.ext_tl ?_
  rw [TL.join_eq, TL.tl_join, tl_mks]
  rfl
theorem sum_le {B : Nat} : ∀ {ts : List Cs}, (∀ t ∈ ts, t.length ≤ B) → ((ts.map mkS).map (·.length)).sum ≤ ts.length * B
  | [], _ => Nat.zero_le _
  | t :: ts, h => by
    have h1 := h t (List.mem_cons_self ..)
    have h2 := sum_le fun x hx => h x (List.mem_cons_of_mem _ hx)
    have e : (mkS t).length = t.length := mk_len t
    simp only [List.map_cons, List.sum_cons, List.length_cons, Nat.succ_mul] at h2 ⊢
    rw [e]
    omega
section
variable {fu k : Nat} {F L : Sto}
/-- (..) of parts whose texts f tells -/
theorem l_seq {i B : Nat} {d : D} {src : Src} {ds : List D} {f : D → Option Cs} {c : FM} {en : En} (e0 : en[0]? = some (.d d)) (wi : ∀ x, (wipeD en [i]).set i (.d x) = en.set i (.d x)) (hi : i < en.length) (hs : anySrc F [] d = some src) (hnum : src.num = ds.length) (hit : ∀ L' i, src.item i (F ++ L') = ds[i]?) (hfin : ∀ L', src.fin (F ++ L') = true)
    (hl : ds.length ≤ 3) (hB : B ≤ 5000000) (ih : ∀ x ∈ ds, ∀ F', match f x with | some t => t.length ≤ B ∧ c [x] F' [] = .ok (.str (mkS t)) [] | none => ∃ L', c [x] F' [] = .err xNo L') :
    match ds.mapM f with
    | some ts => seqE i c F en [] = .ok (.str (mkS (40 :: (TL.joinL [32] ts ++ [41])))) []
    | none => seqE i c F en [] = .err xNo [] := by
  have hfe : ∀ x ∈ ds, ∀ L', callM .pure 1 c (moreA [] (consA (getV i) nilA)) F ((wipeD en [i]).set i (.d x)) L' = match (f x).map (fun t => D.str (mkS t)) with | some y => .ok y L' | none => .err xNo L' := by
    intro x hx L'
    have z := ih x hx (F ++ L')
    have ei : (en.set i (.d x))[i]? = some (.d x) := List.getElem?_set_self hi
    rw [wi]
    simp only [callM, moreA, consA, getV, ei, R.bind, nilA, List.append_nil, callR, List.length_cons, List.length_nil, Nat.reduceAdd, if_true]
    cases e : f x with
    | some t =>
      rw [e] at z
      simp only [z.2, pureR, D.lt, if_true, Option.map]
    | none =>
      rw [e] at z
      obtain ⟨L2, h2⟩ := z
      have lt : D.ltE (F.length + L'.length) xNo = true := rfl
      simp only [h2, pureR, lt, if_true, Option.map]
  have lc := lc_pure (F := F) (i := i) (fe := callM .pure 1 c (moreA [] (consA (getV i) nilA))) (en := wipeD en [i]) (φ := fun x => (f x).map fun t => D.str (mkS t)) (x0 := xNo) hnum hit hfin hfe (by omega) ds.length [] (by rw [List.length_nil, Nat.zero_add])
  rw [List.length_nil, List.drop_zero, mapM_φ] at lc
  have mc : lcxM (anyI (getV 0)) (nameG i) yesM (callM .pure 1 c (moreA [] (consA (getV i) nilA))) [i] F en [] = lcGo src (nameG i) yesM (callM .pure 1 c (moreA [] (consA (getV i) nilA))) (F.length + 0) F (wipeD en [i]) ds.length [.lst []] := by
    simp only [lcxM, anyI, getV, e0, R.bind, hs, liftO, hnum]
    rfl
  have ty : tyOk "str" F [] (.str (Str.ofString " ")) = true := rfl
  cases em : ds.mapM f with
  | none =>
    rw [em] at lc
    obtain ⟨L', h⟩ := lc
    have lt : D.ltE (F.length + 0) xNo = true := rfl
    have al : (L'.take 0).all (MO.lt (F.length + 0)) = true := rfl
    simp only [seqE, op2, cM, R.bind, gcE, bmM, ty, if_true, consA, mc, h, List.length_nil, cutR, lt, Nat.zero_le, decide_true, Bool.and_self, al, List.take_zero, List.all_nil]
  | some ts =>
    rw [em] at lc
    obtain ⟨m1, m2⟩ := mapM_mem em
    have hts : ∀ t ∈ ts, t.length ≤ B := fun t ht => by
      obtain ⟨x, hx, e⟩ := m2 t ht
      have z := ih x hx F
      rw [e] at z
      exact z.1
    have lcc : lcGo src (nameG i) yesM (callM .pure 1 c (moreA [] (consA (getV i) nilA))) (F.length + 0) F (wipeD en [i]) ds.length [.lst []] = .ok (.loc (F.length + 0)) [.lst (ts.map fun t => D.str (mkS t))] := lc
    have it : itemsD F [.lst (ts.map fun t => D.str (mkS t))] (.loc (F.length + 0)) = some (ts.map fun t => D.str (mkS t)) := lst_mid (A := []) (J := [])
    have sb := sum_le hts
    have jl := join_len hts
    rw [m1] at sb jl
    have b1 : ds.length * B ≤ 3 * B := Nat.mul_le_mul_right _ hl
    have b2 : ds.length * (B + 1) ≤ 3 * (B + 1) := Nat.mul_le_mul_right _ hl
    have sp : (Str.ofString " ").length = 1 := rfl
    have c1 : decide (((ts.map mkS).map (·.length)).sum + (ts.map mkS).length * (Str.ofString " ").length ≤ 16777216) = true := by
      rw [sp, List.length_map, m1]
      exact decide_eq_true (by omega)
    have al : (([MO.lst (ts.map fun t => D.str (mkS t))] : Sto).take 0).all (MO.lt (F.length + 0)) = true := rfl
    have p1 : (Str.ofString "(").length = 1 := rfl
    have p2 : (Str.ofString ")").length = 1 := rfl
    have c2 : lenOk ((Str.ofString "(").length + (mkS (TL.joinL [32] ts)).length) = true := by
      rw [p1, mk_len]
      exact decide_eq_true (by omega)
    have ap : ∀ a b : Str, (a ++ b).length = a.length + b.length := fun a b => Array.size_append ..
    have c3 : lenOk ((Str.ofString "(" ++ mkS (TL.joinL [32] ts)).length + (Str.ofString ")").length) = true := by
      rw [ap, p1, p2, mk_len]
      exact decide_eq_true (by omega)
    simp only [seqE, op2, cM, R.bind, gcE, bmM, ty, if_true, consA, mc, lcc, nilA, joinB, it, Option.bind, strs_of, c1, join_sp, List.length_nil, cutR, D.lt, Nat.zero_le, decide_true, Bool.and_self, al, List.take_zero, List.all_nil, addO, c2, c3]
    have eS : Str.ofString "(" ++ mkS (TL.joinL [32] ts) ++ Str.ofString ")" = mkS (40 :: (TL.joinL [32] ts ++ [41])) := by
      refine TL.ext_tl ?_
      rw [TL.tl_append, TL.tl_append]
      rfl
    rw [eS]
end
end K20
end SP21
section SP22
set_option Elab.async false
set_option linter.all false
set_option maxRecDepth 100000
set_option maxHeartbeats 4000000
namespace K20
open PySem L2 MI
theorem s_none : Str.ofString "none" = mkS [110, 111, 110, 101] := TL.ext_tl rfl
section
variable {fu k : Nat} {F L : Sto}
def b1s (c : Nat → FM) : SM := seqS (ifS (MI.orM (tstM (op2 eqO (getV 0) (cM (.str (Str.ofString "none"))))) (MI.notM (truM (gcE (cbM (allG fun bs => bs.all id) (consA (lcxM (anyI (getV 0)) (nameG 1) (yesM) (op2 (inO false) (getV 1) (cM (.str (Str.ofString "abcdefghijklmnopqrstuvwxyz")))) [1]) (nilA))))))) (raiseS 1) (nilS))
    (retS (orV (getV 0) (cM (.str (Str.ofString ".")))))
theorem b1_eq (c : Nat → FM) : b_1 fu c = seqS (ifS (tstM (op2 isNO (getV 0) (cM .non))) (retS (cM (.str (Str.ofString "none")))) (nilS))
    (seqS (ifS (truM (cbM isiG (consA (getV 0) (consA (cM (.ty "int")) (nilA))))) (seqS (ifS (MI.notM (truM (callM .pure 1 (c 0) (moreA [] (consA (getV 0) (nilA)))))) (raiseS 1) (nilS))
    (retS (cbM strG (consA (getV 0) (nilA))))) (nilS))
    (seqS (ifS (truM (cbM isiG (consA (getV 0) (consA (cM (.ty "str")) (nilA))))) (b1s c) (nilS))
    (retS (seqE 2 (c 1))))) := rfl
def chD (c : Nat) : D := .str ⟨#[c]⟩
theorem bls_of : ∀ cs : Cs, (cs.map chD).mapM (fun x => (match x with | .str s => some (D.bl (hdP (isIn SMA) s.cps.toList)) | _ => none)) = some (cs.map fun c => D.bl (isIn SMA c))
  | [] => rfl
  | c :: cs => by
    rw [List.map_cons, List.mapM_cons, bls_of cs]
    rfl
theorem bls_all : ∀ cs : Cs, bls (cs.map fun c => D.bl (isIn SMA c)) = some (cs.map (isIn SMA))
  | [] => rfl
  | c :: cs => by
    show (bls (cs.map fun c => D.bl (isIn SMA c))).map (fun bs => isIn SMA c :: bs) = _
    rw [bls_all cs]
    rfl
/-- all of its signs -/
theorem l_all {w : Str} {en : En} (hw : w.length ≤ 16777216) (e0 : en[0]? = some (.d (.str w))) (wi : ∀ x, (wipeD en [1]).set 1 (.d x) = en.set 1 (.d x)) (hi : 1 < en.length) :
    gcE (cbM (allG fun bs => bs.all id) (consA (lcxM (anyI (getV 0)) (nameG 1) (yesM) (op2 (inO false) (getV 1) (cM (.str (Str.ofString "abcdefghijklmnopqrstuvwxyz")))) [1]) (nilA))) F en [] = .ok (.bl (w.cps.toList.all (isIn SMA))) [] := by
  have wl : w.cps.toList.length = w.length := Array.length_toList
  have hnum : (strSrc w).num = (w.cps.toList.map chD).length := by rw [List.length_map, wl]; rfl
  have hit : ∀ (L' : Sto) i, (strSrc w).item i (F ++ L') = (w.cps.toList.map chD)[i]? := by
    intro L' i
    show (w.cps[i]?).map (fun c => D.str ⟨#[c]⟩) = _
    rw [List.getElem?_map, Array.getElem?_toList]
    rfl
  have hfe : ∀ x ∈ w.cps.toList.map chD, ∀ L', op2 (inO false) (getV 1) (cM (.str (Str.ofString "abcdefghijklmnopqrstuvwxyz"))) F ((wipeD en [1]).set 1 (.d x)) L' = match (match x with | .str s => some (D.bl (hdP (isIn SMA) s.cps.toList)) | _ => none) with | some y => .ok y L' | none => .err xNo L' := by
    intro x hx L'
    obtain ⟨c, _, rfl⟩ := List.mem_map.mp hx
    have ei : (en.set 1 (.d (chD c)))[1]? = some (.d (chD c)) := List.getElem?_set_self hi
    rw [wi]
    simp only [op2, getV, ei, R.bind, cM]
    exact in_one
  have lc := lc_pure (F := F) (src := strSrc w) (i := 1) (en := wipeD en [1]) (x0 := xNo) hnum hit (fun _ => rfl) hfe (by rw [List.length_map, wl]; exact hw) (w.cps.toList.map chD).length [] (by rw [List.length_nil, Nat.zero_add])
  rw [List.length_nil, List.drop_zero, bls_of] at lc
  have lcc : lcGo (strSrc w) (nameG 1) yesM (op2 (inO false) (getV 1) (cM (.str (Str.ofString "abcdefghijklmnopqrstuvwxyz")))) (F.length + 0) F (wipeD en [1]) (w.cps.toList.map chD).length [.lst []] = .ok (.loc (F.length + 0)) [.lst (w.cps.toList.map fun c => D.bl (isIn SMA c))] := lc
  have mc : lcxM (anyI (getV 0)) (nameG 1) yesM (op2 (inO false) (getV 1) (cM (.str (Str.ofString "abcdefghijklmnopqrstuvwxyz")))) [1] F en [] = .ok (.loc (F.length + 0)) [.lst (w.cps.toList.map fun c => D.bl (isIn SMA c))] := by
    rw [← lcc]
    simp only [lcxM, anyI, getV, e0, R.bind, anySrc, liftO, ← hnum]
    rfl
  have ls : listD F [.lst (w.cps.toList.map fun c => D.bl (isIn SMA c))] (.loc (F.length + 0)) = some (w.cps.toList.map fun c => D.bl (isIn SMA c)) := lst_mid (A := []) (J := [])
  have ea : ((w.cps.toList.map (isIn SMA)).all id) = w.cps.toList.all (isIn SMA) := by rw [List.all_map]; rfl
  simp only [gcE, cbM, consA, mc, R.bind, nilA, allG, ls, Option.bind, bls_all, ea, cutR, D.lt, List.length_nil, Nat.zero_le, decide_true, Bool.and_self, List.take_zero, List.all_nil, if_true]
theorem l_tt (j : Nat) (hj : j ≤ 6) {d : D} (h : Dt j d) : ∀ (k : Nat) (F : Sto), match tt d with | some t => run fu (k + j + 2) 1 [d] F [] = .ok (.str (mkS t)) [] | none => ∃ L', run fu (k + j + 2) 1 [d] F [] = .err xNo L' := by
  induction h with
  | @non j =>
    intro k F
    show defM 3 (b_1 fu (run fu (k + j + 1))) [.non] F [] = .ok (.str (mkS [110, 111, 110, 101])) []
    rw [b1_eq, ← s_none]
    rfl
  | @int j i =>
    intro k F
    have hh := l_has (fu := fu) (k := k + j) (F := F) (L := []) (i := i)
    have st : startD 3 [.int i] = [.d (.int i), .no, .no] := rfl
    have s1 : ∀ a b, ifS (tstM (op2 isNO (getV 0) (cM .non))) (retS (cM (.str (Str.ofString "none")))) nilS F [.d (.int i), a, b] [] = .nx [.d (.int i), a, b] [] := fun _ _ => rfl
    have s2 : ∀ a b, truM (cbM isiG (consA (getV 0) (consA (cM (.ty "int")) nilA))) F [.d (.int i), a, b] [] = .ok true [] := fun _ _ => rfl
    have s3 : ∀ a b, callM .pure 1 (run fu (k + j + 1) 0) (moreA [] (consA (getV 0) nilA)) F [.d (.int i), a, b] [] = .ok (.bl (decide (i.natAbs < big))) [] := by
      intro a b
      rw [← List.append_nil F] at hh
      simp only [callM, moreA, consA, getV, List.getElem?_cons_zero, R.bind, nilA, List.append_nil, callR, List.length_cons, List.length_nil, Nat.reduceAdd, if_true]
      rw [List.append_nil] at hh
      rw [hh]
      simp only [pureR, D.lt, if_true]
    have s2' : ∀ B : SM, ifS (truM (cbM isiG (consA (getV 0) (consA (cM (.ty "int")) nilA)))) B nilS F [.d (.int i), .no, .no] [] = B F [.d (.int i), .no, .no] [] := fun _ => rfl
    have g : (defM 3 (b_1 fu (run fu (k + j + 1))) [.int i] F []) = ((seqS (ifS (MI.notM (truM (callM .pure 1 (run fu (k + j + 1) 0) (moreA [] (consA (getV 0) nilA))))) (raiseS 1) nilS) (retS (cbM strG (consA (getV 0) nilA))) F [.d (.int i), .no, .no] []).next (fun en L => seqS (ifS (truM (cbM isiG (consA (getV 0) (consA (cM (.ty "str")) nilA)))) (b1s (run fu (k + j + 1))) nilS) (retS (seqE 2 (run fu (k + j + 1) 1))) F en L)).fin := by
      rw [defM, st, b1_eq, seqS, s1, next_nx, seqS, s2']
    show match tt (.int i) with | some t => defM 3 (b_1 fu (run fu (k + j + 1))) [.int i] F [] = .ok (.str (mkS t)) [] | none => ∃ L', defM 3 (b_1 fu (run fu (k + j + 1))) [.int i] F [] = .err xNo L'
    rw [g]
    unfold tt
    by_cases hb : i.natAbs < big
    · rw [if_pos hb]
      have fg : fig4300 i = true := decide_eq_true (Nat.lt_of_lt_of_le hb big_4300)
      rw [decide_eq_true hb] at s3
      simp only [seqS, ifS, MI.notM, truM, s3, R.bind, truD, Bool.not_true, R.toS, Bool.false_eq_true, if_false, nilS, SR.next, retS, cbM, consA, getV, List.getElem?_cons_zero, nilA, strG, fg, if_true, SR.fin, str_int]
    · rw [if_neg hb]
      rw [decide_eq_false hb] at s3
      refine ⟨[], ?_⟩
      simp only [seqS, ifS, MI.notM, truM, s3, R.bind, truD, Bool.not_false, R.toS, if_true, raiseS, SR.next, SR.fin, xNo]
  | @str j w hw =>
    intro k F
    have wl : w.cps.toList.length = w.length := Array.length_toList
    have st : startD 3 [.str w] = [.d (.str w), .no, .no] := rfl
    have s1 : ∀ a b, ifS (tstM (op2 isNO (getV 0) (cM .non))) (retS (cM (.str (Str.ofString "none")))) nilS F [.d (.str w), a, b] [] = .nx [.d (.str w), a, b] [] := fun _ _ => rfl
    have s2 : ∀ B a b, ifS (truM (cbM isiG (consA (getV 0) (consA (cM (.ty "int")) nilA)))) B nilS F [.d (.str w), a, b] [] = .nx [.d (.str w), a, b] [] := fun _ _ _ => rfl
    have s3 : ∀ B, ifS (truM (cbM isiG (consA (getV 0) (consA (cM (.ty "str")) nilA)))) B nilS F [.d (.str w), .no, .no] [] = B F [.d (.str w), .no, .no] [] := fun _ => rfl
    have la := l_all (F := F) (w := w) (en := [.d (.str w), .no, .no]) (by omega) rfl (fun _ => rfl) (by show 1 < 3; decide)
    have g : defM 3 (b_1 fu (run fu (k + j + 1))) [.str w] F [] = ((b1s (run fu (k + j + 1)) F [.d (.str w), .no, .no] []).next (fun en L => retS (seqE 2 (run fu (k + j + 1) 1)) F en L)).fin := by
      rw [defM, st, b1_eq, seqS, s1, next_nx, seqS, s2, next_nx, seqS, s3]
    have e1 : tstM (op2 eqO (getV 0) (cM (.str (Str.ofString "none")))) F [.d (.str w), .no, .no] [] = .ok (decide (w = Str.ofString "none")) [] := rfl
    show match tt (.str w) with | some t => defM 3 (b_1 fu (run fu (k + j + 1))) [.str w] F [] = .ok (.str (mkS t)) [] | none => ∃ L', defM 3 (b_1 fu (run fu (k + j + 1))) [.str w] F [] = .err xNo L'
    rw [g]
    unfold tt b1s
    by_cases hn : w = Str.ofString "none"
    · rw [if_pos (Or.inl hn)]
      rw [decide_eq_true hn] at e1
      refine ⟨[], ?_⟩
      simp only [seqS, ifS, MI.orM, e1, R.bind, if_true, R.toS, raiseS, SR.next, SR.fin, xNo]
    · rw [decide_eq_false hn] at e1
      cases ha : w.cps.toList.all (isIn SMA) with
      | false =>
        rw [ha] at la
        rw [if_pos (Or.inr rfl)]
        refine ⟨[], ?_⟩
        simp only [seqS, ifS, MI.orM, e1, R.bind, Bool.false_eq_true, if_false, MI.notM, truM, la, truD, Bool.not_false, if_true, R.toS, raiseS, SR.next, SR.fin, xNo]
      | true =>
        rw [ha] at la
        rw [if_neg (fun z => z.elim hn fun z => by cases z)]
        have lk : lenOk w.length = true := decide_eq_true (by omega)
        cases hE : w.cps.toList with
        | nil =>
          have w0 : ((w.length : Int) != 0) = false := by
            rw [hE] at wl
            rw [← wl]
            rfl
          simp only [seqS, ifS, MI.orM, e1, R.bind, Bool.false_eq_true, if_false, MI.notM, truM, la, truD, Bool.not_true, R.toS, nilS, SR.next, retS, orV, getV, List.getElem?_cons_zero, lk, if_true, w0, cM, SR.fin, List.isEmpty_nil]
          rfl
        | cons c cs =>
          have w0 : ((w.length : Int) != 0) = true := by
            rw [hE] at wl
            rw [← wl]
            rfl
          simp only [seqS, ifS, MI.orM, e1, R.bind, Bool.false_eq_true, if_false, MI.notM, truM, la, truD, Bool.not_true, R.toS, nilS, SR.next, retS, orV, getV, List.getElem?_cons_zero, lk, if_true, w0, cM, SR.fin, List.isEmpty_cons]
          rw [← hE]
  | @tup j ds hl hd ih =>
    intro k F
    have st : startD 3 [.tup ds] = [.d (.tup ds), .no, .no] := rfl
    have s1 : ∀ a b, ifS (tstM (op2 isNO (getV 0) (cM .non))) (retS (cM (.str (Str.ofString "none")))) nilS F [.d (.tup ds), a, b] [] = .nx [.d (.tup ds), a, b] [] := fun _ _ => rfl
    have s2 : ∀ B a b, ifS (truM (cbM isiG (consA (getV 0) (consA (cM (.ty "int")) nilA)))) B nilS F [.d (.tup ds), a, b] [] = .nx [.d (.tup ds), a, b] [] := fun _ _ _ => rfl
    have s3 : ∀ B a b, ifS (truM (cbM isiG (consA (getV 0) (consA (cM (.ty "str")) nilA)))) B nilS F [.d (.tup ds), a, b] [] = .nx [.d (.tup ds), a, b] [] := fun _ _ _ => rfl
    have bj : Bd j ≤ 5000000 := by
      have : ∀ a b, a ≤ b → Bd a ≤ Bd b := by
        intro a b h
        induction h with
        | refl => exact Nat.le_refl _
        | step _ ih => refine Nat.le_trans ih ?_; show _ ≤ 3 * Bd _ + 5; omega
      exact Nat.le_trans (this j 6 (by omega)) (by decide +kernel)
    have sq := l_seq (F := F) (i := 2) (B := Bd j) (d := .tup ds) (src := valSrc ds) (ds := ds) (f := tt) (c := run fu (k + (j + 1) + 1) 1) (en := [.d (.tup ds), .no, .no]) rfl (fun _ => rfl) (by show 2 < 3; decide) rfl rfl (fun _ _ => rfl) (fun _ => rfl) hl bj (by
      intro x hx F'
      have z := ih x hx (by omega) k F'
      rw [show k + (j + 1) + 1 = k + j + 2 by omega]
      cases e : tt x with
      | some t => rw [e] at z; exact ⟨tt_len (hd x hx) t e, z⟩
      | none => rw [e] at z; exact z)
    have g : defM 3 (b_1 fu (run fu (k + (j + 1) + 1))) [.tup ds] F [] = (retS (seqE 2 (run fu (k + (j + 1) + 1) 1)) F [.d (.tup ds), .no, .no] []).fin := by
      rw [defM, st, b1_eq, seqS, s1, next_nx, seqS, s2, next_nx, seqS, s3, next_nx]
    show match tt (.tup ds) with | some t => defM 3 (b_1 fu (run fu (k + (j + 1) + 1))) [.tup ds] F [] = .ok (.str (mkS t)) [] | none => ∃ L', defM 3 (b_1 fu (run fu (k + (j + 1) + 1))) [.tup ds] F [] = .err xNo L'
    rw [g]
    unfold tt
    rw [ttL_eq]
    cases em : ds.mapM tt with
    | none =>
      rw [em] at sq
      refine ⟨[], ?_⟩
      simp only [retS]
      rw [show seqE 2 (run fu (k + (j + 1) + 1) 1) F [.d (.tup ds), .no, .no] [] = _ from sq]
      rfl
    | some ts =>
      rw [em] at sq
      simp only [retS, Option.map]
      rw [show seqE 2 (run fu (k + (j + 1) + 1) 1) F [.d (.tup ds), .no, .no] [] = _ from sq]
      rfl
end
end K20
end SP22
section SP23
set_option Elab.async false
set_option linter.all false
set_option maxRecDepth 100000
set_option maxHeartbeats 4000000
namespace K20
open PySem L2 MI
theorem mapM_all {f : D → Option Cs} : ∀ {xs : List D} {ys : List Cs}, xs.mapM f = some ys → ∀ x ∈ xs, ∃ y, f x = some y
  | [], ys, h, x, hx => nomatch hx
  | z :: xs, ys, h, x, hx => by
    rw [List.mapM_cons] at h
    cases e : f z with
    | none => rw [e] at h; cases h
    | some y =>
      rw [e] at h
      cases e2 : xs.mapM f with
      | none => rw [e2] at h; cases h
      | some zs =>
        rcases List.mem_cons.mp hx with rfl | hx
        · exact ⟨y, e⟩
        · exact mapM_all e2 x hx
theorem Bd_6 {j : Nat} (hj : j ≤ 6) : Bd j ≤ 5000000 := by
  have : ∀ a b, a ≤ b → Bd a ≤ Bd b := by
    intro a b h
    induction h with
    | refl => exact Nat.le_refl _
    | step _ ih => refine Nat.le_trans ih ?_; show _ ≤ 3 * Bd _ + 5; omega
  exact Nat.le_trans (this j 6 (by omega)) (by decide +kernel)
section
variable {fu k : Nat} {F L : Sto}
theorem b16_eq (c : Nat → FM) : b_16 fu c = seqS (ifS (tstM (op2 isNO (getV 0) (cM .non))) (retS (cM (.str (Str.ofString "none")))) (nilS))
    (seqS (ifS (truM (cbM isiG (consA (getV 0) (consA (cM (.ty "int")) (nilA))))) (retS (cbM strG (consA (getV 0) (nilA)))) (nilS))
    (seqS (ifS (truM (cbM isiG (consA (getV 0) (consA (cM (.ty "str")) (nilA))))) (retS (ifM (tstM (op2 neO (getV 0) (cM (.str (Str.ofString ""))))) (getV 0) (cM (.str (Str.ofString "."))))) (nilS))
    (retS (seqE 1 (c 16))))) := rfl
theorem l_ltext (j : Nat) (hj : j ≤ 6) {d : D} (h : Dt j d) : ∀ (k : Nat) (F : Sto) t, tt d = some t → run fu (k + j + 2) 16 [d] F [] = .ok (.str (mkS t)) [] := by
  induction h with
  | @non j =>
    intro k F t e
    have e' : some [110, 111, 110, 101] = some t := e
    cases e'
    show defM 2 (b_16 fu (run fu (k + j + 1))) [.non] F [] = .ok (.str (mkS [110, 111, 110, 101])) []
    rw [b16_eq, ← s_none]
    rfl
  | @int j i =>
    intro k F t e
    have e' : (if i.natAbs < big then some (numI i) else none) = some t := e
    split at e'
    · rename_i hb
      cases e'
      have fg : fig4300 i = true := decide_eq_true (Nat.lt_of_lt_of_le hb big_4300)
      have st : startD 2 [.int i] = [.d (.int i), .no] := rfl
      have s1 : ∀ a, ifS (tstM (op2 isNO (getV 0) (cM .non))) (retS (cM (.str (Str.ofString "none")))) nilS F [.d (.int i), a] [] = .nx [.d (.int i), a] [] := fun _ => rfl
      have s2 : ∀ B : SM, ifS (truM (cbM isiG (consA (getV 0) (consA (cM (.ty "int")) nilA)))) B nilS F [.d (.int i), .no] [] = B F [.d (.int i), .no] [] := fun _ => rfl
      show defM 2 (b_16 fu (run fu (k + j + 1))) [.int i] F [] = _
      rw [defM, st, b16_eq, seqS, s1, next_nx, seqS, s2]
      simp only [retS, cbM, consA, getV, List.getElem?_cons_zero, R.bind, nilA, strG, fg, if_true, R.toS, SR.next, SR.fin, str_int]
    · cases e'
  | @str j w hw =>
    intro k F t e
    have e' : (if w = Str.ofString "none" ∨ (w.cps.toList.all fun c => isIn SMA c) = false then none else some (if w.cps.toList.isEmpty then [46] else w.cps.toList)) = some t := e
    split at e'
    · cases e'
    · cases e'
      have st : startD 2 [.str w] = [.d (.str w), .no] := rfl
      have s1 : ∀ a, ifS (tstM (op2 isNO (getV 0) (cM .non))) (retS (cM (.str (Str.ofString "none")))) nilS F [.d (.str w), a] [] = .nx [.d (.str w), a] [] := fun _ => rfl
      have s2 : ∀ B a, ifS (truM (cbM isiG (consA (getV 0) (consA (cM (.ty "int")) nilA)))) B nilS F [.d (.str w), a] [] = .nx [.d (.str w), a] [] := fun _ _ => rfl
      have s3 : ∀ B : SM, ifS (truM (cbM isiG (consA (getV 0) (consA (cM (.ty "str")) nilA)))) B nilS F [.d (.str w), .no] [] = B F [.d (.str w), .no] [] := fun _ => rfl
      have e1 : tstM (op2 neO (getV 0) (cM (.str (Str.ofString "")))) F [.d (.str w), .no] [] = .ok (!decide (w = Str.ofString "")) [] := rfl
      show defM 2 (b_16 fu (run fu (k + j + 1))) [.str w] F [] = _
      rw [defM, st, b16_eq, seqS, s1, next_nx, seqS, s2, next_nx, seqS, s3]
      cases hE : w.cps.toList with
      | nil =>
        have hw0 : w = Str.ofString "" := TL.ext_tl hE
        rw [decide_eq_true hw0] at e1
        simp only [retS, ifM, e1, R.bind, Bool.not_true, Bool.false_eq_true, if_false, cM, R.toS, SR.next, SR.fin, List.isEmpty_nil, if_true]
        rfl
      | cons c cs =>
        have hw0 : ¬ w = Str.ofString "" := fun e => by
          rw [e] at hE
          cases hE
        rw [decide_eq_false hw0] at e1
        simp only [retS, ifM, e1, R.bind, Bool.not_false, if_true, getV, List.getElem?_cons_zero, R.toS, SR.next, SR.fin, List.isEmpty_cons, Bool.false_eq_true, if_false]
        rw [← hE]
  | @tup j ds hl hd ih =>
    intro k F t e
    have e' : (ttL ds).map (fun ts => 40 :: (TL.joinL [32] ts ++ [41])) = some t := by unfold tt at e; exact e
    rw [ttL_eq] at e'
    cases em : ds.mapM tt with
    | none => rw [em] at e'; cases e'
    | some ts =>
      rw [em] at e'
      cases e'
      have st : startD 2 [.tup ds] = [.d (.tup ds), .no] := rfl
      have s1 : ∀ a, ifS (tstM (op2 isNO (getV 0) (cM .non))) (retS (cM (.str (Str.ofString "none")))) nilS F [.d (.tup ds), a] [] = .nx [.d (.tup ds), a] [] := fun _ => rfl
      have s2 : ∀ B a, ifS (truM (cbM isiG (consA (getV 0) (consA (cM (.ty "int")) nilA)))) B nilS F [.d (.tup ds), a] [] = .nx [.d (.tup ds), a] [] := fun _ _ => rfl
      have s3 : ∀ B a, ifS (truM (cbM isiG (consA (getV 0) (consA (cM (.ty "str")) nilA)))) B nilS F [.d (.tup ds), a] [] = .nx [.d (.tup ds), a] [] := fun _ _ => rfl
      have sq := l_seq (F := F) (i := 1) (B := Bd j) (d := .tup ds) (src := valSrc ds) (ds := ds) (f := tt) (c := run fu (k + (j + 1) + 1) 16) (en := [.d (.tup ds), .no]) rfl (fun _ => rfl) (by show 1 < 2; decide) rfl rfl (fun _ _ => rfl) (fun _ => rfl) hl (Bd_6 (by omega)) (by
        intro x hx F'
        obtain ⟨y, hy⟩ := mapM_all em x hx
        rw [hy, show k + (j + 1) + 1 = k + j + 2 by omega]
        exact ⟨tt_len (hd x hx) y hy, ih x hx (by omega) k F' y hy⟩)
      rw [em] at sq
      show defM 2 (b_16 fu (run fu (k + (j + 1) + 1))) [.tup ds] F [] = _
      rw [defM, st, b16_eq, seqS, s1, next_nx, seqS, s2, next_nx, seqS, s3, next_nx]
      simp only [retS]
      rw [show seqE 1 (run fu (k + (j + 1) + 1) 16) F [.d (.tup ds), .no] [] = _ from sq]
      rfl
/-- the parts handed in as a list -/
theorem l_tt_list {j n : Nat} (hj : j ≤ 5) {ds : List D} {ts : List Cs} (hF : F[n]? = some (.lst ds)) (hl : ds.length ≤ 3) (hd : ∀ d ∈ ds, Dt j d) (em : ds.mapM tt = some ts) : run fu (k + (j + 1) + 2) 1 [.loc n] F [] = .ok (.str (mkS (40 :: (TL.joinL [32] ts ++ [41])))) [] := by
  have hFL : ∀ L' : Sto, (F ++ L')[n]? = some (.lst ds) := fun L' => by
    rw [List.getElem?_append_left (List.getElem?_eq_some_iff.mp hF).1]; exact hF
  have la : lstAt F [] n = some ds := by unfold lstAt; rw [hFL]
  have st : startD 3 [.loc n] = [.d (.loc n), .no, .no] := rfl
  have s1 : ∀ a b, ifS (tstM (op2 isNO (getV 0) (cM .non))) (retS (cM (.str (Str.ofString "none")))) nilS F [.d (.loc n), a, b] [] = .nx [.d (.loc n), a, b] [] := fun _ _ => rfl
  have ty : tyN F [] (.loc n) = some "list" := by
    show (lstAt F [] n).map (fun _ => "list") = _
    rw [la]; rfl
  have k1 : kitB "list" "int" = some false := rfl
  have k2 : kitB "list" "str" = some false := rfl
  have s2 : ∀ B a b, ifS (truM (cbM isiG (consA (getV 0) (consA (cM (.ty "int")) nilA)))) B nilS F [.d (.loc n), a, b] [] = .nx [.d (.loc n), a, b] [] := fun _ _ _ => by
    simp only [ifS, truM, cbM, consA, getV, List.getElem?_cons_zero, R.bind, cM, nilA, isiG, ty, Option.bind, k1, truD, R.toS, Bool.false_eq_true, if_false, nilS]
  have s3 : ∀ B a b, ifS (truM (cbM isiG (consA (getV 0) (consA (cM (.ty "str")) nilA)))) B nilS F [.d (.loc n), a, b] [] = .nx [.d (.loc n), a, b] [] := fun _ _ _ => by
    simp only [ifS, truM, cbM, consA, getV, List.getElem?_cons_zero, R.bind, cM, nilA, isiG, ty, Option.bind, k2, truD, R.toS, Bool.false_eq_true, if_false, nilS]
  have sq := l_seq (F := F) (i := 2) (B := Bd j) (d := .loc n) (src := lstSrc n ds.length) (ds := ds) (f := tt) (c := run fu (k + (j + 1) + 1) 1) (en := [.d (.loc n), .no, .no]) rfl (fun _ => rfl) (by show 2 < 3; decide) (by
      show (lstAt F [] n).map (fun xs => lstSrc n xs.length) = _
      rw [la]; rfl) rfl (fun L' i => by
      show (match (F ++ L')[n]? with | some (.lst xs) => if xs.length = ds.length then xs[i]? else none | _ => none) = _
      rw [hFL]
      simp only [if_true]) (fun L' => by
      show (match (F ++ L')[n]? with | some (.lst xs) => decide (xs.length = ds.length) | _ => false) = true
      rw [hFL]
      exact decide_eq_true rfl) hl (Bd_6 (by omega)) (by
      intro x hx F'
      obtain ⟨y, hy⟩ := mapM_all em x hx
      have z := l_tt (fu := fu) j (by omega) (hd x hx) k F'
      rw [hy] at z ⊢
      rw [show k + (j + 1) + 1 = k + j + 2 by omega]
      exact ⟨tt_len (hd x hx) y hy, z⟩)
  rw [em] at sq
  show defM 3 (b_1 fu (run fu (k + (j + 1) + 1))) [.loc n] F [] = _
  rw [defM, st, b1_eq, seqS, s1, next_nx, seqS, s2, next_nx, seqS, s3, next_nx]
  simp only [retS]
  rw [show seqE 2 (run fu (k + (j + 1) + 1) 1) F [.d (.loc n), .no, .no] [] = _ from sq]
  rfl
end
end K20
end SP23
section SP24
set_option Elab.async false
set_option linter.all false
set_option maxRecDepth 100000
set_option maxHeartbeats 4000000
namespace K20
open PySem L2 MI
/-- terms whose text is read back -/
inductive Gd : Nat → D → Prop where
  | non {j} : Gd j .non
  | int {j i} : i.natAbs < 10 ^ 20 → Gd j (.int i)
  | str {j w} : w.length ≤ 10 → (∀ c ∈ w.cps.toList, isIn SMA c = true) → w ≠ Str.ofString "none" → Gd j (.str w)
  | tup {j ds} : ds.length ≤ 3 → (∀ d ∈ ds, Gd j d) → Gd (j + 1) (.tup ds)
theorem Gd.dt {j : Nat} {d : D} (h : Gd j d) : Dt j d := by
  induction h with
  | non => exact .non
  | int _ => exact .int
  | str h _ _ => exact .str h
  | tup h _ ih => exact .tup h ih
theorem big_20 : 10 ^ 20 ≤ big := by decide +kernel
theorem all_some {f : D → Option Cs} : ∀ {xs : List D}, (∀ x ∈ xs, ∃ y, f x = some y) → ∃ ys, xs.mapM f = some ys
  | [], _ => ⟨[], rfl⟩
  | x :: xs, h => by
    obtain ⟨y, hy⟩ := h x (List.mem_cons_self ..)
    obtain ⟨ys, hys⟩ := all_some fun z hz => h z (List.mem_cons_of_mem _ hz)
    refine ⟨y :: ys, ?_⟩
    rw [List.mapM_cons, hy, hys]
    rfl
theorem Gd.tx {j : Nat} {d : D} (h : Gd j d) : ∃ t, tt d = some t := by
  induction h with
  | non => exact ⟨_, rfl⟩
  | @int j i h => exact ⟨numI i, by unfold tt; rw [if_pos (Nat.lt_of_lt_of_le h big_20)]⟩
  | @str j w h1 h2 h3 =>
    refine ⟨if w.cps.toList.isEmpty then [46] else w.cps.toList, ?_⟩
    unfold tt
    rw [if_neg fun z => z.elim h3 fun z => by rw [List.all_eq_true.mpr h2] at z; cases z]
  | @tup j ds h _ ih =>
    obtain ⟨ts, hts⟩ := all_some ih
    refine ⟨40 :: (TL.joinL [32] ts ++ [41]), ?_⟩
    unfold tt
    rw [ttL_eq, hts]
    rfl
/-- nothing of a term goes on there -/
def Stop (r : Cs) : Prop := hdP (isIn SMA) r = false ∧ hdP (isIn FIG) r = false
theorem tw_stop {p : Nat → Bool} : ∀ {w r : Cs}, (∀ c ∈ w, p c = true) → hdP p r = false → (w ++ r).takeWhile p = w ∧ (w ++ r).dropWhile p = r
  | [], [], _, _ => ⟨rfl, rfl⟩
  | [], c :: r, _, h => by
    have h' : p c = false := h
    rw [List.nil_append, List.takeWhile_cons, List.dropWhile_cons, if_neg (by rw [h']; exact Bool.false_ne_true), if_neg (by rw [h']; exact Bool.false_ne_true)]
    exact ⟨rfl, rfl⟩
  | c :: w, r, hw, h => by
    obtain ⟨h1, h2⟩ := tw_stop (fun x hx => hw x (List.mem_cons_of_mem _ hx)) h
    have hc := hw c (List.mem_cons_self ..)
    rw [List.cons_append, List.takeWhile_cons, List.dropWhile_cons, if_pos hc, if_pos hc, h1, h2]
    exact ⟨rfl, rfl⟩
theorem sma_iff (c : Nat) : isIn SMA c = true ↔ 97 ≤ c ∧ c < 123 := by
  have e : SMA.cps.toList = List.range' 97 26 := by rfl
  unfold isIn
  rw [decide_eq_true_iff, e, List.mem_range']
  constructor
  · rintro ⟨i, h1, h2⟩; omega
  · rintro ⟨h1, h2⟩; exact ⟨c - 97, by omega, by omega⟩
theorem fig_iff (c : Nat) : isIn FIG c = true ↔ 48 ≤ c ∧ c < 58 := by
  have e : FIG.cps.toList = List.range' 48 10 := by rfl
  unfold isIn
  rw [decide_eq_true_iff, e, List.mem_range']
  constructor
  · rintro ⟨i, h1, h2⟩; omega
  · rintro ⟨h1, h2⟩; exact ⟨c - 48, by omega, by omega⟩
theorem one_iff {s : Str} {x : Nat} (h : s.cps.toList = [x]) (c : Nat) : isIn s c = decide (c = x) := by
  unfold isIn
  rw [h]
  by_cases e : c = x
  · subst e; simp
  · simp [e]
theorem numL_hd : ∀ m, 0 < m → ∃ c r, TL.numL m = c :: r ∧ 49 ≤ c ∧ c < 58 := by
  intro m
  induction m using Nat.strongRecOn with
  | _ m ih =>
    intro hm
    by_cases h : m < 10
    · exact ⟨48 + m, [], TL.numL_lt h, by omega, by omega⟩
    · obtain ⟨c, r, e, h1, h2⟩ := ih (m / 10) (by omega) (by omega)
      exact ⟨c, r ++ [48 + m % 10], by rw [TL.numL_step (by omega), e]; rfl, h1, h2⟩
theorem fig_num (m : Nat) : ∀ c ∈ TL.numL m, isIn FIG c = true := fun c hc => by
  have := TL.numL_digits m c hc
  exact (fig_iff c).mpr ⟨this.1, by omega⟩
theorem pNum_num {neg : Bool} {n m : Nat} {rest : Cs} (hm : m < 10 ^ 20) (hs : Stop rest) (hn : neg = true → 0 < m) : pNum neg n (TL.numL m ++ rest) = .fine (.int (if neg then -(m : Int) else m)) (n + (TL.numL m).length) rest := by
  obtain ⟨t1, t2⟩ := tw_stop (fig_num m) hs.2
  have hl : (TL.numL m).length ≤ 20 := TL.numL_len (by decide) hm
  have hd : hdP (isIn FIG) (TL.numL m ++ rest) = true := by
    cases e : TL.numL m with
    | nil => exact absurd e (TL.numL_ne m)
    | cons c r => exact fig_num m c (by rw [e]; exact List.mem_cons_self ..)
  have hz : hdP (isIn (Str.ofString "0")) (TL.numL m ++ rest) = true → m = 0 := by
    intro h
    by_cases h0 : 0 < m
    · obtain ⟨c, r, e, h1, h2⟩ := numL_hd m h0
      rw [e] at h
      have h' : isIn (Str.ofString "0") c = true := h
      rw [one_iff cs0, decide_eq_true_iff] at h'
      omega
    · omega
  unfold pNum
  rw [t1, t2, hd, TL.numL_val]
  have c1 : (!true || neg && hdP (isIn (Str.ofString "0")) (TL.numL m ++ rest)) = false := by
    cases neg with
    | false => rfl
    | true =>
      cases e : hdP (isIn (Str.ofString "0")) (TL.numL m ++ rest) with
      | false => rfl
      | true => have := hz e; have := hn rfl; omega
  have c2 : (hdP (isIn (Str.ofString "0")) (TL.numL m ++ rest) && decide (1 < (TL.numL m).length)) = false := by
    cases e : hdP (isIn (Str.ofString "0")) (TL.numL m ++ rest) with
    | false => rfl
    | true =>
      have := hz e
      subst this
      rfl
  rw [c1, c2, if_neg Bool.false_ne_true, if_neg Bool.false_ne_true, if_neg (by omega)]
theorem pInt_num {n : Nat} {i : Int} {rest : Cs} (hi : i.natAbs < 10 ^ 20) (hs : Stop rest) : pInt n (numI i ++ rest) = .fine (.int i) (n + (numI i).length) rest := by
  unfold pInt numI
  by_cases h : i < 0
  · rw [if_pos h]
    have hd : hdP (isIn (Str.ofString "-")) (45 :: TL.numL i.natAbs ++ rest) = true := by
      show isIn (Str.ofString "-") 45 = true
      rw [one_iff csm]; rfl
    rw [hd, if_pos rfl]
    show pNum true (n + 1) (TL.numL i.natAbs ++ rest) = _
    rw [pNum_num hi hs (fun _ => by omega), if_pos rfl, List.length_cons]
    have g1 : (-(i.natAbs : Int)) = i := by omega
    have g2 : n + 1 + (TL.numL i.natAbs).length = n + ((TL.numL i.natAbs).length + 1) := by omega
    rw [g1, g2]
  · rw [if_neg h]
    have hd : hdP (isIn (Str.ofString "-")) (TL.numL i.natAbs ++ rest) = false := by
      cases e : TL.numL i.natAbs with
      | nil => exact absurd e (TL.numL_ne _)
      | cons c r =>
        have := TL.numL_digits i.natAbs c (by rw [e]; exact List.mem_cons_self ..)
        show isIn (Str.ofString "-") c = false
        rw [one_iff csm]
        exact decide_eq_false (by omega)
    rw [hd, if_neg Bool.false_ne_true, pNum_num hi hs (fun z => by cases z), if_neg Bool.false_ne_true]
    have g1 : (i.natAbs : Int) = i := by omega
    rw [g1]
/-- the first sign of a text -/
theorem numI_hd (i : Int) : ∃ c r, numI i = c :: r ∧ (c = 45 ∨ (48 ≤ c ∧ c < 58)) := by
  unfold numI
  split
  · exact ⟨45, _, rfl, .inl rfl⟩
  · cases e : TL.numL i.natAbs with
    | nil => exact absurd e (TL.numL_ne _)
    | cons c r =>
      have := TL.numL_digits i.natAbs c (by rw [e]; exact List.mem_cons_self ..)
      exact ⟨c, r, rfl, .inr ⟨this.1, by omega⟩⟩
def spL' (ts : List Cs) : Cs := ts.flatMap fun t => 32 :: t
theorem join_eq' : ∀ (t : Cs) (ts : List Cs), TL.joinL [32] (t :: ts) = t ++ spL' ts
  | t, [] => by show t = t ++ []; rw [List.append_nil]
  | t, u :: ts => by
    show t ++ ([32] ++ TL.joinL [32] (u :: ts)) = _
    rw [join_eq' u ts]
    rfl
theorem stop_sp (ts : List Cs) (rest : Cs) : Stop (spL' ts ++ 41 :: rest) := by
  have key : ∀ c r, c = 32 ∨ c = 41 → Stop (c :: r) := by
    intro c r h
    constructor
    · show isIn SMA c = false
      cases e : isIn SMA c with
      | false => rfl
      | true => have := (sma_iff c).mp e; omega
    · show isIn FIG c = false
      cases e : isIn FIG c with
      | false => rfl
      | true => have := (fig_iff c).mp e; omega
  cases ts with
  | nil => exact key 41 rest (.inr rfl)
  | cons t ts => exact key 32 _ (.inl rfl)
/-- how a text begins -/
theorem tt_hd {j : Nat} {d : D} (h : Gd j d) {t : Cs} (e : tt d = some t) : ∃ c r, t = c :: r ∧ c ≠ 41 ∧ c ≠ 32 := by
  cases h with
  | non =>
    have e' : some [110, 111, 110, 101] = some t := e
    cases e'
    exact ⟨110, _, rfl, by decide, by decide⟩
  | @int _ i h =>
    have e' : (if i.natAbs < big then some (numI i) else none) = some t := e
    rw [if_pos (Nat.lt_of_lt_of_le h big_20)] at e'
    cases e'
    obtain ⟨c, r, e, hc⟩ := numI_hd i
    exact ⟨c, r, e, by omega, by omega⟩
  | @str _ w h1 h2 h3 =>
    have e' : (if w = Str.ofString "none" ∨ (w.cps.toList.all fun c => isIn SMA c) = false then none else some (if w.cps.toList.isEmpty then [46] else w.cps.toList)) = some t := e
    rw [if_neg fun z => z.elim h3 fun z => by rw [List.all_eq_true.mpr h2] at z; cases z] at e'
    cases e'
    cases hE : w.cps.toList with
    | nil => exact ⟨46, [], rfl, by decide, by decide⟩
    | cons c r =>
      have := (sma_iff c).mp (h2 c (by rw [hE]; exact List.mem_cons_self ..))
      exact ⟨c, r, rfl, by omega, by omega⟩
  | @tup j ds h1 h2 =>
    have e' : (ttL ds).map (fun ts => 40 :: (TL.joinL [32] ts ++ [41])) = some t := by unfold tt at e; exact e
    cases em : ttL ds with
    | none => rw [em] at e'; cases e'
    | some ts => rw [em] at e'; cases e'; exact ⟨40, _, rfl, by decide, by decide⟩
theorem loop_sp {j F0 : Nat} {pt : Nat → Cs → PR} (hp : ∀ d t n rest, Gd j d → tt d = some t → Stop rest → (t ++ rest).length < F0 → pt n (t ++ rest) = .fine d (n + t.length) rest) : ∀ (ds : List D) (ts : List Cs) (f : Nat) (acc : List D) (n : Nat) (rest : Cs), acc ≠ [] → (∀ d ∈ ds, Gd j d) → ds.mapM tt = some ts → (spL' ts ++ 41 :: rest).length < f → (spL' ts ++ 41 :: rest).length < F0 →
    pLoop pt f acc n (spL' ts ++ 41 :: rest) = .fine (.tup (acc ++ ds)) (n + (spL' ts).length + 1) rest
  | _, _, 0, _, _, _, _, _, _, hf, _ => absurd hf (Nat.not_lt_zero _)
  | [], ts, f + 1, acc, n, rest, ha, _, em, hf, _ => by
    rw [List.mapM_nil] at em
    cases em
    unfold pLoop
    have h1 : hdP (isIn (Str.ofString ")")) (spL' [] ++ 41 :: rest) = true := by
      show isIn (Str.ofString ")") 41 = true
      rw [one_iff csq]; rfl
    rw [if_pos h1, List.append_nil]
    rfl
  | d :: ds, ts, f + 1, acc, n, rest, ha, hd, em, hf, hF => by
    rw [List.mapM_cons] at em
    cases e : tt d with
    | none => rw [e] at em; cases em
    | some t =>
      rw [e] at em
      cases e2 : ds.mapM tt with
      | none => rw [e2] at em; cases em
      | some us =>
        rw [e2] at em
        cases em
        have ee : spL' (t :: us) ++ 41 :: rest = 32 :: (t ++ (spL' us ++ 41 :: rest)) := by
          show (32 :: t ++ spL' us) ++ 41 :: rest = _
          simp
        have el : (spL' (t :: us)).length = 1 + t.length + (spL' us).length := by
          show ((32 :: t) ++ spL' us).length = _
          rw [List.length_append, List.length_cons]
          omega
        rw [ee] at hf hF ⊢
        unfold pLoop
        have h1 : hdP (isIn (Str.ofString ")")) (32 :: (t ++ (spL' us ++ 41 :: rest))) = false := by
          show isIn (Str.ofString ")") 32 = false
          rw [one_iff csq]; rfl
        have h2 : hdP (isIn (Str.ofString " ")) (32 :: (t ++ (spL' us ++ 41 :: rest))) = true := by
          show isIn (Str.ofString " ") 32 = true
          rw [one_iff css]; rfl
        have h3 : acc.isEmpty = false := by cases acc with | nil => exact absurd rfl ha | cons _ _ => rfl
        rw [h1, h2, h3, if_neg Bool.false_ne_true]
        show (match pt (n + 1) (t ++ (spL' us ++ 41 :: rest)) with | .bad m => PR.bad m | .fine d n2 r2 => pLoop pt f (acc ++ [d]) n2 r2) = _
        rw [hp d t (n + 1) _ (hd d (List.mem_cons_self ..)) e (stop_sp us rest) (by rw [List.length_cons] at hF; omega)]
        show pLoop pt f (acc ++ [d]) (n + 1 + t.length) (spL' us ++ 41 :: rest) = _
        rw [loop_sp hp ds us f (acc ++ [d]) (n + 1 + t.length) rest (by simp) (fun x hx => hd x (List.mem_cons_of_mem _ hx)) e2 (by
          rw [List.length_cons, List.length_append] at hf
          omega) (by
          rw [List.length_cons, List.length_append] at hF
          omega)]
        rw [el, List.append_assoc]
        congr 1
        omega
theorem atom_of {f i n : Nat} {r : Cs} (h : hdP (isIn (Str.ofString "(")) r = false) : pTerm f i n r = pAtom n r := by
  cases i with
  | zero => unfold pTerm; rw [h, if_neg Bool.false_ne_true]
  | succ i => unfold pTerm; rw [h, if_neg Bool.false_ne_true]
theorem read_atom {f i j n : Nat} {d : D} {t rest : Cs} (h : Gd j d) (e : tt d = some t) (hs : Stop rest) (ht : ∀ ds, d ≠ .tup ds) : pTerm f i n (t ++ rest) = .fine d (n + t.length) rest := by
  cases h with
  | non =>
    have e' : some [110, 111, 110, 101] = some t := e
    cases e'
    rw [atom_of (by show isIn (Str.ofString "(") 110 = false; rw [one_iff csp]; rfl)]
    obtain ⟨t1, t2⟩ := tw_stop (p := isIn SMA) (w := [110, 111, 110, 101]) (r := rest) (by decide +kernel) hs.1
    have h1 : hdP (isIn (Str.ofString ".")) ([110, 111, 110, 101] ++ rest) = false := by
      show isIn (Str.ofString ".") 110 = false
      rw [one_iff csd]; rfl
    have h2 : hdP (isIn SMA) ([110, 111, 110, 101] ++ rest) = true := (sma_iff 110).mpr ⟨by decide, by decide⟩
    unfold pAtom
    rw [h1, h2, if_neg Bool.false_ne_true, if_pos rfl, t1, t2, if_pos s_none.symm]
  | @int _ i h =>
    have e' : (if i.natAbs < big then some (numI i) else none) = some t := e
    rw [if_pos (Nat.lt_of_lt_of_le h big_20)] at e'
    cases e'
    obtain ⟨c, r, e3, hc⟩ := numI_hd i
    have nh : ∀ (s : Str) x, s.cps.toList = [x] → c ≠ x → hdP (isIn s) (numI i ++ rest) = false := by
      intro s x hs hx
      rw [e3]
      show isIn s c = false
      rw [one_iff hs]
      exact decide_eq_false hx
    rw [atom_of (nh _ _ csp (by omega))]
    have h2 : hdP (isIn SMA) (numI i ++ rest) = false := by
      rw [e3]
      show isIn SMA c = false
      cases e : isIn SMA c with
      | false => rfl
      | true => have := (sma_iff c).mp e; omega
    unfold pAtom
    rw [nh _ _ csd (by omega), h2, if_neg Bool.false_ne_true, if_neg Bool.false_ne_true, pInt_num h hs]
  | @str _ w h1 h2 h3 =>
    have e' : (if w = Str.ofString "none" ∨ (w.cps.toList.all fun c => isIn SMA c) = false then none else some (if w.cps.toList.isEmpty then [46] else w.cps.toList)) = some t := e
    rw [if_neg fun z => z.elim h3 fun z => by rw [List.all_eq_true.mpr h2] at z; cases z] at e'
    cases e'
    cases hE : w.cps.toList with
    | nil =>
      have hw0 : w = Str.ofString "" := TL.ext_tl hE
      show pTerm f i n ([46] ++ rest) = _
      rw [atom_of (by show isIn (Str.ofString "(") 46 = false; rw [one_iff csp]; rfl)]
      have k1 : hdP (isIn (Str.ofString ".")) ([46] ++ rest) = true := by
        show isIn (Str.ofString ".") 46 = true
        rw [one_iff csd]; rfl
      unfold pAtom
      rw [k1, if_pos rfl, hw0]
      rfl
    | cons c r =>
      show pTerm f i n ((c :: r) ++ rest) = .fine (.str w) (n + (c :: r).length) rest
      rw [← hE]
      have hc := (sma_iff c).mp (h2 c (by rw [hE]; exact List.mem_cons_self ..))
      obtain ⟨t1, t2⟩ := tw_stop (p := isIn SMA) (w := w.cps.toList) (r := rest) h2 hs.1
      have nh : ∀ (s : Str) x, s.cps.toList = [x] → c ≠ x → hdP (isIn s) (w.cps.toList ++ rest) = false := by
        intro s x hs hx
        rw [hE]
        show isIn s c = false
        rw [one_iff hs]
        exact decide_eq_false hx
      rw [atom_of (nh _ _ csp (by omega))]
      have k2 : hdP (isIn SMA) (w.cps.toList ++ rest) = true := by
        rw [hE]
        exact (sma_iff c).mpr hc
      have k3 : mkS w.cps.toList = w := TL.mk_tl w
      unfold pAtom
      rw [nh _ _ csd (by omega), k2, if_neg Bool.false_ne_true, if_pos rfl, t1, t2, k3, if_neg h3]
  | tup h1 h2 => exact absurd rfl (ht _)
theorem read_back {f : Nat} : ∀ (i j : Nat) (d : D) (t : Cs) (n : Nat) (rest : Cs), j ≤ i → Gd j d → tt d = some t → Stop rest → (t ++ rest).length < f → pTerm f i n (t ++ rest) = .fine d (n + t.length) rest := by
  intro i
  induction i with
  | zero =>
    intro j d t n rest hj h e hs hf
    exact read_atom h e hs (fun ds => by rintro rfl; cases h; omega)
  | succ i ih =>
    intro j d t n rest hj h e hs hf
    cases h with
    | @tup j ds hl hd =>
      have e' : (ttL ds).map (fun ts => 40 :: (TL.joinL [32] ts ++ [41])) = some t := by unfold tt at e; exact e
      rw [ttL_eq] at e'
      cases em : ds.mapM tt with
      | none => rw [em] at e'; cases e'
      | some ts =>
        rw [em] at e'
        cases e'
        have ee : (40 :: (TL.joinL [32] ts ++ [41])) ++ rest = 40 :: (TL.joinL [32] ts ++ 41 :: rest) := by simp
        rw [ee] at hf ⊢
        have h1 : hdP (isIn (Str.ofString "(")) (40 :: (TL.joinL [32] ts ++ 41 :: rest)) = true := by
          show isIn (Str.ofString "(") 40 = true
          rw [one_iff csp]; rfl
        have hp : ∀ d t n rest, Gd j d → tt d = some t → Stop rest → (t ++ rest).length < f → pTerm f i n (t ++ rest) = .fine d (n + t.length) rest := fun d t n rest => ih j d t n rest (by omega)
        unfold pTerm
        rw [h1, if_pos rfl]
        show pLoop (pTerm f i) f [] (n + 1) (TL.joinL [32] ts ++ 41 :: rest) = _
        obtain ⟨f', rfl⟩ : ∃ g, f = g + 1 := ⟨f - 1, by omega⟩
        cases ds with
        | nil =>
          rw [List.mapM_nil] at em
          cases em
          unfold pLoop
          have h2 : hdP (isIn (Str.ofString ")")) (TL.joinL [32] [] ++ 41 :: rest) = true := by
            show isIn (Str.ofString ")") 41 = true
            rw [one_iff csq]; rfl
          rw [if_pos h2]
          rfl
        | cons d ds =>
          rw [List.mapM_cons] at em
          cases e1 : tt d with
          | none => rw [e1] at em; cases em
          | some t =>
            rw [e1] at em
            cases e2 : ds.mapM tt with
            | none => rw [e2] at em; cases em
            | some us =>
              rw [e2] at em
              cases em
              have gd := hd d (List.mem_cons_self ..)
              obtain ⟨c, r, e3, c1, c2⟩ := tt_hd gd e1
              have h2 : hdP (isIn (Str.ofString ")")) (TL.joinL [32] (t :: us) ++ 41 :: rest) = false := by
                rw [join_eq', e3]
                show isIn (Str.ofString ")") c = false
                rw [one_iff csq]
                exact decide_eq_false c1
              rw [join_eq'] at hf
              rw [List.length_cons, List.append_assoc, List.length_append] at hf
              have r1 := hp d t (n + 1) (spL' us ++ 41 :: rest) gd e1 (stop_sp us rest) (by rw [List.length_append]; omega)
              unfold pLoop
              rw [h2, if_neg Bool.false_ne_true]
              show (match pTerm (f' + 1) i (n + 1) (TL.joinL [32] (t :: us) ++ 41 :: rest) with | .bad m => PR.bad m | .fine d n2 r2 => pLoop (pTerm (f' + 1) i) f' ([] ++ [d]) n2 r2) = _
              rw [join_eq', List.append_assoc, r1]
              show pLoop (pTerm (f' + 1) i) f' [d] (n + 1 + t.length) (spL' us ++ 41 :: rest) = _
              rw [loop_sp hp ds us f' [d] (n + 1 + t.length) rest (by simp) (fun x hx => hd x (List.mem_cons_of_mem _ hx)) e2 (by
                have : 0 < t.length := by rw [e3, List.length_cons]; omega
                omega) (by omega)]
              have el : (40 :: (TL.joinL [32] (t :: us) ++ [41])).length = t.length + (spL' us).length + 2 := by
                rw [join_eq', List.length_cons, List.length_append, List.length_append]
                rfl
              rw [el]
              show PR.fine (.tup ([d] ++ ds)) _ rest = _
              congr 1
              omega
    | non => exact read_atom (j := 0) .non e hs (fun ds => nofun)
    | int h => exact read_atom (j := 0) (.int h) e hs (fun ds => nofun)
    | str h1 h2 h3 => exact read_atom (j := 0) (.str h1 h2 h3) e hs (fun ds => nofun)
end K20
end SP24
section SP25
set_option Elab.async false
set_option linter.all false
set_option maxRecDepth 100000
set_option maxHeartbeats 4000000
namespace K20
open PySem L2 MI
def Dr (xs : List D) : Prop := ∀ d ∈ xs, ∃ i : Int, d = .int i ∧ 0 ≤ i ∧ i < 1000
theorem Dr.cl {xs : List D} (h : Dr xs) : ∀ n, MO.lt n (.lst xs) = true := fun n => ltL_all fun d hd => by
  obtain ⟨i, rfl, _⟩ := h d hd
  rfl
section
variable {fu k : Nat} {F L : Sto} {q : Nat} {xs : List D} {en : En}
theorem lst_q (hq : q < L.length) : lstAt F (L.set q (.lst xs)) (F.length + q) = some xs := by
  have : (F ++ L.set q (.lst xs))[F.length + q]? = some (.lst xs) := at_q (get_set hq)
  unfold lstAt
  rw [this]
theorem l_nextL (hq : q < L.length) (hx : Dr xs) : ∃ i xs', 0 ≤ i ∧ i < 1000 ∧ Dr xs' ∧ xs'.length ≤ xs.length ∧ run fu (k + 1) 12 [.loc (F.length + q)] F (L.set q (.lst xs)) = .ok (.int i) (L.set q (.lst xs')) := by
  have la := lst_q (F := F) (xs := xs) hq
  have st : startD 1 [.loc (F.length + q)] = [.d (.loc (F.length + q))] := rfl
  have tr : truM (getV 0) F [.d (.loc (F.length + q))] (L.set q (.lst xs)) = .ok (!xs.isEmpty) (L.set q (.lst xs)) := by
    simp only [truM, getV, List.getElem?_cons_zero, R.bind, truD, itemsD, la, Option.map]
  by_cases h : xs = []
  · subst h
    refine ⟨0, [], by decide, by decide, hx, Nat.le_refl _, ?_⟩
    show defM 1 (b_12 fu (run fu k)) [.loc (F.length + q)] F (L.set q (.lst [])) = _
    rw [defM, st]
    simp only [b_12, seqS, ifS, tr, R.toS, List.isEmpty_nil, Bool.not_true, Bool.false_eq_true, if_false, nilS, SR.next, retS, cM, SR.fin]
  · have hl : xs[xs.length - 1]? = some (xs.getLast h) := (List.getLast?_eq_getElem? (l := xs)).symm.trans (List.getLast?_eq_some_getLast h)
    obtain ⟨i, e, h0, h1⟩ := hx _ (List.getLast_mem h)
    refine ⟨i, xs.dropLast, h0, h1, fun d hd => hx d (List.dropLast_subset xs hd), by rw [List.length_dropLast]; omega, ?_⟩
    have hE : xs.isEmpty = false := by cases xs with | nil => exact absurd rfl h | cons _ _ => rfl
    have ty : tyOk "list" F (L.set q (.lst xs)) (.loc (F.length + q)) = true := by
      show (("list" == "list") && (lstAt F _ _).isSome) = true
      rw [la]; rfl
    have ow : ownL F (L.set q (.lst xs)) (.loc (F.length + q)) = some (F.length + q, xs) := by
      unfold ownL
      simp only [Nat.le_add_right, if_true, la, Option.map]
    show defM 1 (b_12 fu (run fu k)) [.loc (F.length + q)] F (L.set q (.lst xs)) = _
    rw [defM, st]
    simp only [b_12, seqS, ifS, tr, R.toS, hE, Bool.not_false, if_true, retS, bmM, getV, List.getElem?_cons_zero, R.bind, ty, nilA, popB, ow, hl, e, setL, Nat.add_sub_cancel_left, set_set', SR.next, SR.fin]
abbrev nextE (fu k v : Nat) : EM := callM .gc 1 (run fu (k + 1) 12) (moreA [] (consA (getV v) nilA))
theorem cl_set (hc : Cl L) (hx : Dr xs) : Cl (L.set q (.lst xs)) := hc.set hx.cl
theorem m_nextL {v : Nat} (hv : en[v]? = some (.d (.loc (F.length + q)))) (hq : q < L.length) (hc : Cl L) (hx : Dr xs) : ∃ i xs', 0 ≤ i ∧ i < 1000 ∧ Dr xs' ∧ xs'.length ≤ xs.length ∧ nextE fu k v F en (L.set q (.lst xs)) = .ok (.int i) (L.set q (.lst xs')) := by
  obtain ⟨i, xs', h0, h1, h2, hl0, h3⟩ := l_nextL (fu := fu) (k := k) (F := F) (L := L) hq hx
  refine ⟨i, xs', h0, h1, h2, hl0, ?_⟩
  have hl : (L.set q (.lst xs)).length ≤ (L.set q (.lst xs')).length := by rw [List.length_set, List.length_set]; exact Nat.le_refl _
  have ct := cut_ok (i := F.length + (L.set q (.lst xs)).length) (d := .int i) rfl hl (cl_set (q := q) hc h2)
  rw [List.take_of_length_le (by rw [List.length_set, List.length_set]; exact Nat.le_refl _)] at ct
  simp only [nextE, callM, moreA, consA, getV, hv, R.bind, nilA, List.append_nil, callR, List.length_cons, List.length_nil, Nat.reduceAdd, if_true, h3, ct]
theorem m_next {v : Nat} (hv : en[v]? = some (.d (.loc (F.length + q)))) (hq : q < L.length) (hc : Cl L) (hx : Dr xs) : ∃ i xs', 0 ≤ i ∧ i < 1000 ∧ Dr xs' ∧ nextE fu k v F en (L.set q (.lst xs)) = .ok (.int i) (L.set q (.lst xs')) := by
  obtain ⟨i, xs', h0, h1, h2, _, h3⟩ := m_nextL (fu := fu) (k := k) hv hq hc hx
  exact ⟨i, xs', h0, h1, h2, h3⟩
/-- int(next) % n -/
theorem m_mod {v : Nat} {n : Int} (hn : 0 < n) (hv : en[v]? = some (.d (.loc (F.length + q)))) (hq : q < L.length) (hc : Cl L) (hx : Dr xs) : ∃ i xs', 0 ≤ i ∧ i < n ∧ Dr xs' ∧ op2 modO (cbM intG (consA (nextE fu k v) nilA)) (cM (.int n)) F en (L.set q (.lst xs)) = .ok (.int i) (L.set q (.lst xs')) := by
  obtain ⟨i, xs', h0, h1, h2, h3⟩ := m_next (fu := fu) (k := k) hv hq hc hx
  refine ⟨i % n, xs', Int.emod_nonneg _ (by omega), Int.emod_lt_of_pos _ hn, h2, ?_⟩
  have hd : decide (0 < n) = true := decide_eq_true hn
  simp only [op2, cbM, consA, h3, R.bind, nilA, intG, cM, modO, intC, hd, if_true]
theorem at_int {α : Type} (ys : List α) {i : Int} (h0 : 0 ≤ i) (h1 : i < ys.length) : ∃ d ∈ ys, atI ys i = some d := by
  obtain ⟨n, rfl⟩ := Int.eq_ofNat_of_zero_le h0
  have hn : n < ys.length := by omega
  refine ⟨ys[n], List.getElem_mem hn, ?_⟩
  unfold atI ixN
  first
  | (rw [if_neg (by omega)]; simp [hn])
  | simp [hn]
/-- one of some -/
theorem l_pick {p : Nat} {ys : List D} (hq : q < L.length) (hc : Cl L) (hx : Dr xs) (hp : q ≠ p) (hL : L[p]? = some (.lst ys)) (hy : ys ≠ []) :
    ∃ d xs', d ∈ ys ∧ Dr xs' ∧ run fu (k + 2) 14 [.loc (F.length + q), .loc (F.length + p)] F (L.set q (.lst xs)) = .ok d (L.set q (.lst xs')) := by
  obtain ⟨i, xs', h0, h1, h2, h3⟩ := m_next (fu := fu) (k := k) (F := F) (L := L) (v := 0) (en := [.d (.loc (F.length + q)), .d (.loc (F.length + p))]) (q := q) (xs := xs) rfl hq hc hx
  have lp : ∀ zs, lstAt F (L.set q (.lst zs)) (F.length + p) = some ys := by
    intro zs
    have : (F ++ L.set q (.lst zs))[F.length + p]? = some (.lst ys) := at_q (by rw [List.getElem?_set_ne hp]; exact hL)
    unfold lstAt
    rw [this]
  have pos : (0 : Int) < ys.length := by
    have := List.length_pos_iff.mpr hy
    omega
  obtain ⟨d, hd, e⟩ := at_int ys (Int.emod_nonneg i (by omega : (ys.length : Int) ≠ 0)) (Int.emod_lt_of_pos i pos)
  refine ⟨d, xs', hd, h2, ?_⟩
  have dp : decide (0 < (ys.length : Int)) = true := decide_eq_true pos
  have ln : cbM lenG (consA (getV 1) nilA) F [.d (.loc (F.length + q)), .d (.loc (F.length + p))] (L.set q (.lst xs')) = .ok (.int ys.length) (L.set q (.lst xs')) := by
    simp only [cbM, consA, getV, List.getElem?_cons_succ, List.getElem?_cons_zero, R.bind, nilA, lenG, itemsD, lp]
  have st : startD 2 [.loc (F.length + q), .loc (F.length + p)] = [.d (.loc (F.length + q)), .d (.loc (F.length + p))] := rfl
  have nx : cbM intG (consA (callM .gc 1 (run fu (k + 1) 12) (moreA [] (consA (getV 0) nilA))) nilA) F [.d (.loc (F.length + q)), .d (.loc (F.length + p))] (L.set q (.lst xs)) = .ok (.int i) (L.set q (.lst xs')) := by
    simp only [cbM, consA]
    rw [show callM .gc 1 (run fu (k + 1) 12) (moreA [] (consA (getV 0) nilA)) F _ (L.set q (.lst xs)) = _ from h3]
    rfl
  show defM 2 (b_14 fu (run fu (k + 1))) [.loc (F.length + q), .loc (F.length + p)] F (L.set q (.lst xs)) = _
  rw [defM, st]
  unfold b_14
  have body : op2 ixO (getV 1) (op2 modO (cbM intG (consA (callM .gc 1 (run fu (k + 1) 12) (moreA [] (consA (getV 0) nilA))) nilA)) (cbM lenG (consA (getV 1) nilA))) F [.d (.loc (F.length + q)), .d (.loc (F.length + p))] (L.set q (.lst xs)) = .ok d (L.set q (.lst xs')) := by
    have hm : op2 modO (cbM intG (consA (callM .gc 1 (run fu (k + 1) 12) (moreA [] (consA (getV 0) nilA))) nilA)) (cbM lenG (consA (getV 1) nilA)) F [.d (.loc (F.length + q)), .d (.loc (F.length + p))] (L.set q (.lst xs)) = .ok (.int (i % ys.length)) (L.set q (.lst xs')) := by
      rw [op2, nx]
      simp only [R.bind, ln, modO, intC, dp, if_true]
    rw [op2]
    simp only [getV, List.getElem?_cons_succ, List.getElem?_cons_zero, R.bind, hm, ixO, itemsD, lp, e, liftO]
  rw [retS, body]
  rfl
end
end K20
end SP25
section SP26
set_option Elab.async false
set_option linter.all false
set_option maxRecDepth 100000
set_option maxHeartbeats 4000000
namespace K20
open PySem L2 MI
section
variable {fu k : Nat} {F L : Sto} {q : Nat} {xs : List D} {en : En}
/-- a comprehension over a range whose parts draw -/
theorem lc_eff {P : D → Prop} {N i : Nat} {fe : EM} (hfe : ∀ xs acc x, Dr xs → (∀ d ∈ acc, P d) → ∃ d xs', P d ∧ Dr xs' ∧ fe F (en.set i (.d x)) (L.set q (.lst xs) ++ [.lst acc]) = .ok d (L.set q (.lst xs') ++ [.lst acc])) :
    ∀ (m : Nat) (acc xs : List D), Dr xs → acc.length + m ≤ 1000 → (∀ d ∈ acc, P d) → ∃ ys xs', ys.length = acc.length + m ∧ (∀ d ∈ ys, P d) ∧ Dr xs' ∧
      lcGo (rngSrc 0 N) (nameG i) yesM fe (F.length + L.length) F en m (L.set q (.lst xs) ++ [.lst acc]) = .ok (.loc (F.length + L.length)) (L.set q (.lst xs') ++ [.lst ys])
  | 0, acc, xs, hx, _, ha => ⟨acc, xs, rfl, ha, hx, rfl⟩
  | m + 1, acc, xs, hx, hl, ha => by
    obtain ⟨d, xs1, hd, hx1, e⟩ := hfe xs acc (.int (0 + ((N - (m + 1) : Nat) : Int))) hx ha
    obtain ⟨ys, xs', h1, h2, h3, h4⟩ := lc_eff (N := N) (i := i) hfe m (acc ++ [d]) xs1 hx1 (by rw [List.length_append, List.length_singleton]; omega) (fun x hx => by
      rcases List.mem_append.mp hx with hx | hx
      · exact ha x hx
      · rw [List.mem_singleton.mp hx]; exact hd)
    refine ⟨ys, xs', by rw [h1, List.length_append, List.length_singleton]; omega, h2, h3, ?_⟩
    have len : (L.set q (.lst xs1)).length = L.length := List.length_set ..
    have la : lstAt F (L.set q (.lst xs1) ++ [.lst acc]) (F.length + L.length) = some acc := by
      have := lst_end (F := F) (A := L.set q (.lst xs1)) (acc := acc)
      rw [len] at this
      exact this
    have ow : ownL F (L.set q (.lst xs1) ++ [.lst acc]) (.loc (F.length + L.length)) = some (F.length + L.length, acc) := by
      unfold ownL
      simp only [Nat.le_add_right, if_true, la, Option.map]
    have hlt : decide (acc.length < 16777216) = true := decide_eq_true (by omega)
    have sm : (L.set q (.lst xs1) ++ [MO.lst acc]).set L.length (.lst (acc ++ [d])) = L.set q (.lst xs1) ++ [.lst (acc ++ [d])] := by
      rw [List.set_append_right _ _ (by rw [len]; exact Nat.le_refl _), len, Nat.sub_self]
      rfl
    have ap : appendB F (.loc (F.length + L.length)) [d] (L.set q (.lst xs1) ++ [.lst acc]) = .ok .non (L.set q (.lst xs1) ++ [.lst (acc ++ [d])]) := by
      simp only [appendB, ow, hlt, if_true, setL, Nat.add_sub_cancel_left, sm]
    have it : (rngSrc 0 N).item ((rngSrc 0 N).num - (m + 1)) (F ++ (L.set q (.lst xs) ++ [.lst acc])) = some (.int (0 + ((N - (m + 1) : Nat) : Int))) := rfl
    unfold lcGo
    simp only [it, nameG, yesM, R.bind, if_true, e, ap, h4]
theorem cl_gd {j : Nat} {acc : List D} (h : ∀ d ∈ acc, ∀ n, D.lt n d = true) : Cl [.lst acc] := fun o ho i => by
  rw [List.mem_singleton.mp ho]
  exact ltL_all fun d hd => h d hd i
theorem Gd.lt {j : Nat} {d : D} (h : Gd j d) (n : Nat) : D.lt n d = true := by
  induction h with
  | non => rfl
  | int _ => rfl
  | str _ _ _ => rfl
  | tup _ _ ih => exact ltL_all ih
theorem set_end {acc xs : List D} (hq : q < L.length) : (L ++ [MO.lst acc]).set q (.lst xs) = L.set q (.lst xs) ++ [.lst acc] := set_app hq
/-- one sign of a word -/
def Sg (d : D) : Prop := ∃ c, d = chD c ∧ isIn SMA c = true
theorem sg_strs : ∀ {ys : List D}, (∀ d ∈ ys, Sg d) → ∃ cs : Cs, strsD ys = some (cs.map fun c => (⟨#[c]⟩ : Str)) ∧ cs.length = ys.length ∧ ∀ c ∈ cs, isIn SMA c = true
  | [], _ => ⟨[], rfl, rfl, fun _ h => nomatch h⟩
  | y :: ys, h => by
    obtain ⟨c, rfl, hc⟩ := h y (List.mem_cons_self ..)
    obtain ⟨cs, h1, h2, h3⟩ := sg_strs fun d hd => h d (List.mem_cons_of_mem _ hd)
    refine ⟨c :: cs, ?_, by rw [List.length_cons, List.length_cons, h2], fun x hx => ?_⟩
    · show (strsD ys).map (fun bs => (⟨#[c]⟩ : Str) :: bs) = _
      rw [h1]; rfl
    · rcases List.mem_cons.mp hx with rfl | hx
      · exact hc
      · exact h3 x hx
theorem join0 : ∀ cs : Cs, TL.joinL [] (cs.map fun c => [c]) = cs
  | [] => rfl
  | [c] => rfl
  | c :: d :: cs => by
    show [c] ++ ([] ++ TL.joinL [] ((d :: cs).map fun c => [c])) = _
    rw [join0 (d :: cs)]
    rfl
theorem join_signs (cs : Cs) : Txt.join (Str.ofString "") (cs.map fun c => (⟨#[c]⟩ : Str)) = mkS cs := by
  refine TL.ext_tl ?_
  rw [TL.join_eq, TL.tl_join, List.map_map]
  exact join0 cs
theorem sum_signs : ∀ cs : Cs, ((cs.map fun c => (⟨#[c]⟩ : Str)).map (·.length)).sum = cs.length
  | [] => rfl
  | c :: cs => by
    rw [List.map_cons, List.map_cons, List.sum_cons, sum_signs cs, List.length_cons, Nat.add_comm]
    rfl
theorem mod_next {n : Int} (hn : 0 < n) (hv : en[0]? = some (.d (.loc (F.length + q)))) (hq : q < L.length) (hc : Cl L) (hx : Dr xs) : ∃ i xs', 0 ≤ i ∧ i < n ∧ Dr xs' ∧ op2 modO (cbM intG (consA (callM .gc 1 (run fu (k + 1) 12) (moreA [] (consA (getV 0) nilA))) nilA)) (cM (.int n)) F en (L.set q (.lst xs)) = .ok (.int i) (L.set q (.lst xs')) := m_mod (fu := fu) (k := k) hn hv hq hc hx
/-- a word -/
theorem l_word (h0 : en[0]? = some (.d (.loc (F.length + q)))) (wi : ∀ x, (wipeD en [4]).set 4 (.d x) = en.set 4 (.d x)) (w0 : ∀ x, (en.set 4 (.d x))[0]? = some (.d (.loc (F.length + q)))) (hq : q < L.length) (hc : Cl L) (hx : Dr xs) : ∃ w xs', w.length ≤ 5 ∧ (∀ c ∈ w.cps.toList, isIn SMA c = true) ∧ Dr xs' ∧
    gcE (bmM "str" joinB (cM (.str (Str.ofString ""))) (consA (lcxM (rng1I (consA (op2 modO (cbM intG (consA (callM .gc 1 (run fu (k + 1) 12) (moreA [] (consA (getV 0) (nilA)))) (nilA))) (cM (.int 6))) (nilA))) (nameG 4) (yesM) (op2 ixO (cM (.str (Str.ofString "abcnoze"))) (op2 modO (cbM intG (consA (callM .gc 1 (run fu (k + 1) 12) (moreA [] (consA (getV 0) (nilA)))) (nilA))) (cM (.int 7)))) [4]) (nilA))) F en (L.set q (.lst xs)) = .ok (.str w) (L.set q (.lst xs')) := by
  obtain ⟨n, xs1, n0, n1, hx1, en1⟩ := mod_next (fu := fu) (k := k) (n := 6) (by decide) h0 hq hc hx
  have hfe : ∀ xs acc x, Dr xs → (∀ d ∈ acc, Sg d) → ∃ d xs', Sg d ∧ Dr xs' ∧ op2 ixO (cM (.str (Str.ofString "abcnoze"))) (op2 modO (cbM intG (consA (callM .gc 1 (run fu (k + 1) 12) (moreA [] (consA (getV 0) (nilA)))) (nilA))) (cM (.int 7))) F ((wipeD en [4]).set 4 (.d x)) (L.set q (.lst xs) ++ [.lst acc]) = .ok d (L.set q (.lst xs') ++ [.lst acc]) := by
    intro xs acc x hx ha
    have hcl : Cl (L ++ [MO.lst acc]) := cl_app hc (cl_gd (j := 0) fun d hd n => by obtain ⟨c, rfl, _⟩ := ha d hd; rfl)
    obtain ⟨i, xs', i0, i1, hx', e⟩ := mod_next (fu := fu) (k := k) (F := F) (L := L ++ [.lst acc]) (q := q) (xs := xs) (n := 7) (by decide) (w0 x) (by rw [List.length_append]; omega) hcl hx
    rw [set_end hq, set_end hq] at e
    obtain ⟨c, hcm, hat⟩ := at_int (Str.ofString "abcnoze").cps.toList (i := i) i0 (by
      have : (Str.ofString "abcnoze").cps.toList.length = 7 := rfl
      rw [this]; exact i1)
    have ab : ∀ c ∈ (Str.ofString "abcnoze").cps.toList, isIn SMA c = true := by decide +kernel
    refine ⟨chD c, xs', ⟨c, rfl, ab c hcm⟩, hx', ?_⟩
    rw [wi, op2]
    simp only [cM, R.bind]
    rw [e]
    have l7 : lenOk (Str.ofString "abcnoze").length = true := rfl
    simp only [ixO, l7, if_true, hat]
    rfl
  have hN : n.toNat ≤ 5 := by omega
  obtain ⟨ys, xs2, y1, y2, hx2, go⟩ := lc_eff (F := F) (L := L) (q := q) (en := wipeD en [4]) (N := n.toNat) (i := 4) hfe n.toNat [] xs1 hx1 (by rw [List.length_nil]; omega) (fun d hd => nomatch hd)
  rw [List.length_nil, Nat.zero_add] at y1
  obtain ⟨cs, s1, s2, s3⟩ := sg_strs y2
  have len : ∀ zs, (L.set q (.lst zs)).length = L.length := fun zs => List.length_set ..
  refine ⟨mkS cs, xs2, by rw [mk_len]; omega, s3, hx2, ?_⟩
  have bn : big62 n = true := by
    unfold big62
    rw [Bool.and_eq_true]
    exact ⟨decide_eq_true (by omega), decide_eq_true (by omega)⟩
  have lcx : lcxM (rng1I (consA (op2 modO (cbM intG (consA (callM .gc 1 (run fu (k + 1) 12) (moreA [] (consA (getV 0) (nilA)))) (nilA))) (cM (.int 6))) (nilA))) (nameG 4) (yesM) (op2 ixO (cM (.str (Str.ofString "abcnoze"))) (op2 modO (cbM intG (consA (callM .gc 1 (run fu (k + 1) 12) (moreA [] (consA (getV 0) (nilA)))) (nilA))) (cM (.int 7)))) [4] F en (L.set q (.lst xs)) = .ok (.loc (F.length + L.length)) (L.set q (.lst xs2) ++ [.lst ys]) := by
    rw [lcxM, rng1I, consA, en1]
    simp only [R.bind, nilA, bn, if_true, len]
    exact go
  have ty : tyOk "str" F (L.set q (.lst xs)) (.str (Str.ofString "")) = true := rfl
  have it : itemsD F (L.set q (.lst xs2) ++ [.lst ys]) (.loc (F.length + L.length)) = some ys := by
    have := lst_end (F := F) (A := L.set q (.lst xs2)) (acc := ys)
    rw [len] at this
    exact this
  have c1 : decide (((cs.map fun c => (⟨#[c]⟩ : Str)).map (·.length)).sum + (cs.map fun c => (⟨#[c]⟩ : Str)).length * (Str.ofString "").length ≤ 16777216) = true := by
    rw [sum_signs]
    have : (Str.ofString "").length = 0 := rfl
    rw [this]
    exact decide_eq_true (by omega)
  have hcl2 : Cl (L.set q (.lst xs2) ++ [MO.lst ys]) := cl_app (cl_set hc hx2) (cl_gd (j := 0) fun d hd n => by obtain ⟨c, rfl, _⟩ := y2 d hd; rfl)
  have ct := cut_ok (i := F.length + (L.set q (.lst xs)).length) (j := (L.set q (.lst xs)).length) (d := .str (mkS cs)) rfl (by rw [List.length_append, len, len]; omega) hcl2
  rw [List.take_append_of_le_length (by rw [len, len]; exact Nat.le_refl _), List.take_of_length_le (by rw [len, len]; exact Nat.le_refl _)] at ct
  rw [gcE, bmM]
  simp only [cM, R.bind, ty, if_true]
  rw [consA]
  rw [lcx]
  simp only [R.bind, nilA, joinB, it, Option.bind, s1, c1, if_true, join_signs, ct]
end
end K20
end SP26
section SP27
set_option Elab.async false
set_option linter.all false
set_option maxRecDepth 100000
set_option maxHeartbeats 4000000
namespace K20
open PySem L2 MI
def tW (c : Nat → FM) : SM := (seqS (asgS (gcE (bmM "str" joinB (cM (.str (Str.ofString ""))) (consA (lcxM (rng1I (consA (op2 modO (cbM intG (consA (callM .gc 1 (c 12) (moreA [] (consA (getV 0) (nilA)))) (nilA))) (cM (.int 6))) (nilA))) (nameG 4) (yesM) (op2 ixO (cM (.str (Str.ofString "abcnoze"))) (op2 modO (cbM intG (consA (callM .gc 1 (c 12) (moreA [] (consA (getV 0) (nilA)))) (nilA))) (cM (.int 7)))) [4]) (nilA)))) (nameG 3))
    (retS (ifM (tstM (op2 eqO (getV 3) (cM (.str (Str.ofString "none"))))) (cM (.str (Str.ofString "zone"))) (getV 3))))
def tP (c : Nat → FM) : EM := (callM .gc 2 (c 14) (moreA [] (consA (getV 0) (consA (lstM (consA (cM .non) (consA (cM (.int 0)) (consA (negO (cM (.int 1))) (consA (op2 powO (cM (.int 10)) (cM (.int 19))) (consA (op2 addO (op2 (intO fun i j => i - j) (cM (.int 0)) (op2 powO (cM (.int 10)) (cM (.int 20)))) (cM (.int 1))) (nilA))))))) (nilA)))))
def tN (c : Nat → FM) : EM := (op2 (intO fun i j => i - j) (cbM intG (consA (callM .gc 1 (c 12) (moreA [] (consA (getV 0) (nilA)))) (nilA))) (op2 mulO (cM (.int 100)) (op2 modO (cbM intG (consA (callM .gc 1 (c 12) (moreA [] (consA (getV 0) (nilA)))) (nilA))) (cM (.int 7)))))
def tT (c : Nat → FM) : EM := (gcE (cbM tupG' (consA (lcxM (rng1I (consA (op2 modO (cbM intG (consA (callM .gc 1 (c 12) (moreA [] (consA (getV 0) (nilA)))) (nilA))) (cM (.int 4))) (nilA))) (nameG 4) (yesM) (callM .gc 2 (c 15) (moreA [] (consA (getV 0) (consA (op2 addO (getV 1) (cM (.int 1))) (nilA))))) [4]) (nilA))))
theorem b15_eq (fu : Nat) (c : Nat → FM) : b_15 fu c = seqS (asgS (op2 modO (cbM intG (consA (callM .gc 1 (c 12) (moreA [] (consA (getV 0) (nilA)))) (nilA))) (ifM (tstM (op2 ltX (getV 1) (cM (.int 4)))) (cM (.int 8)) (cM (.int 5)))) (nameG 2))
    (seqS (ifS (tstM (op2 eqO (getV 2) (cM (.int 0)))) (tW c) (nilS))
    (seqS (ifS (tstM (op2 eqO (getV 2) (cM (.int 1)))) (retS (tP c)) (nilS))
    (seqS (ifS (tstM (op2 ltX (getV 2) (cM (.int 5)))) (retS (tN c)) (nilS))
    (retS (tT c))))) := rfl
section
variable {fu k : Nat} {F L : Sto} {q : Nat} {xs : List D}
def five : List D := [.non, .int 0, .int (-1), .int (10 ^ (19 : Int).toNat), .int (0 - 10 ^ (20 : Int).toNat + 1)]
theorem five_gd : ∀ d ∈ five, Gd 0 d := by
  intro d hd
  simp only [five, List.mem_cons, List.not_mem_nil, or_false] at hd
  rcases hd with rfl | rfl | rfl | rfl | rfl
  · exact .non
  · exact .int (by decide +kernel)
  · exact .int (by decide +kernel)
  · exact .int (by decide +kernel)
  · exact .int (by decide +kernel)
theorem Gd.up {j : Nat} {d : D} (h : Gd j d) : ∀ {i : Nat}, j ≤ i → Gd i d := by
  induction h with
  | non => intro i _; exact .non
  | int h => intro i _; exact .int h
  | str h1 h2 h3 => intro i _; exact .str h1 h2 h3
  | @tup j ds hl _ ih =>
    intro i hi
    obtain ⟨i, rfl⟩ : ∃ m, i = m + 1 := ⟨i - 1, by omega⟩
    exact .tup hl fun d hd => ih d hd (by omega)
theorem tK_ok {dep : Nat} {a b c : Sl} (hq : q < L.length) (hc : Cl L) (hx : Dr xs) : ∃ (kd : Int) (xs1 : List D), 0 ≤ kd ∧ (kd < 5 ∨ (kd < 8 ∧ dep < 4)) ∧ Dr xs1 ∧ (asgS (op2 modO (cbM intG (consA (callM .gc 1 (run fu (k + 1) 12) (moreA [] (consA (getV 0) (nilA)))) (nilA))) (ifM (tstM (op2 ltX (getV 1) (cM (.int 4)))) (cM (.int 8)) (cM (.int 5)))) (nameG 2)) F [.d (.loc (F.length + q)), .d (.int dep), a, b, c] (L.set q (.lst xs)) =
    .nx [.d (.loc (F.length + q)), .d (.int dep), .d (.int kd), b, c] (L.set q (.lst xs1)) := by
  obtain ⟨i, xs1, h0, h1, h2, h3⟩ := m_next (fu := fu) (k := k) (F := F) (L := L) (v := 0) (q := q) (xs := xs) (en := [.d (.loc (F.length + q)), .d (.int dep), a, b, c]) rfl hq hc hx
  have nx : cbM intG (consA (callM .gc 1 (run fu (k + 1) 12) (moreA [] (consA (getV 0) (nilA)))) nilA) F [.d (.loc (F.length + q)), .d (.int dep), a, b, c] (L.set q (.lst xs)) = .ok (.int i) (L.set q (.lst xs1)) := by
    simp only [nextE] at h3
    rw [cbM, consA, h3]
    rfl
  have tl : tstM (op2 ltX (getV 1) (cM (.int 4))) F [.d (.loc (F.length + q)), .d (.int dep), a, b, c] (L.set q (.lst xs1)) = .ok (decide ((dep : Int) < 4)) (L.set q (.lst xs1)) := rfl
  by_cases hd : dep < 4
  · refine ⟨i % 8, xs1, Int.emod_nonneg _ (by decide), .inr ⟨Int.emod_lt_of_pos _ (by decide), hd⟩, h2, ?_⟩
    rw [decide_eq_true (show (dep : Int) < 4 by omega)] at tl
    have d8 : decide ((0 : Int) < 8) = true := rfl
    rw [asgS, op2, nx]
    simp only [R.bind, ifM, tl, if_true, cM, modO, intC, d8, R.toS, nameG, List.set_cons_succ, List.set_cons_zero]
  · refine ⟨i % 5, xs1, Int.emod_nonneg _ (by decide), .inl (Int.emod_lt_of_pos _ (by decide)), h2, ?_⟩
    rw [decide_eq_false (show ¬ (dep : Int) < 4 by omega)] at tl
    have d8 : decide ((0 : Int) < 5) = true := rfl
    rw [asgS, op2, nx]
    simp only [R.bind, ifM, tl, Bool.false_eq_true, if_false, if_true, cM, modO, intC, d8, R.toS, nameG, List.set_cons_succ, List.set_cons_zero]
theorem tW_ok {a b : Sl} (hq : q < L.length) (hc : Cl L) (hx : Dr xs) : ∃ d xs', Gd 0 d ∧ Dr xs' ∧ tW (run fu (k + 1)) F [.d (.loc (F.length + q)), a, b, .no, .no] (L.set q (.lst xs)) = .rt d (L.set q (.lst xs')) := by
  obtain ⟨w, xs', w1, w2, h2, h3⟩ := l_word (fu := fu) (k := k) (F := F) (L := L) (q := q) (xs := xs) (en := [.d (.loc (F.length + q)), a, b, .no, .no]) rfl (fun _ => rfl) (fun _ => rfl) hq hc hx
  by_cases hn : w = Str.ofString "none"
  · refine ⟨.str (Str.ofString "zone"), xs', .str (by decide +kernel) (by decide +kernel) (by decide +kernel), h2, ?_⟩
    rw [tW, seqS, asgS, h3]
    simp only [R.toS, nameG, List.set_cons_succ, List.set_cons_zero, SR.next, retS, ifM, tstM, op2, getV, List.getElem?_cons_succ, List.getElem?_cons_zero, R.bind, cM, eqO, asB, hn, decide_true, if_true]
  · refine ⟨.str w, xs', .str (by omega) w2 hn, h2, ?_⟩
    rw [tW, seqS, asgS, h3]
    simp only [R.toS, nameG, List.set_cons_succ, List.set_cons_zero, SR.next, retS, ifM, tstM, op2, getV, List.getElem?_cons_succ, List.getElem?_cons_zero, R.bind, cM, eqO, asB, hn, decide_false, Bool.false_eq_true, if_false]
theorem tP_ok {a b c d0 : Sl} (hq : q < L.length) (hc : Cl L) (hx : Dr xs) : ∃ d xs', Gd 0 d ∧ Dr xs' ∧ retS (tP (run fu (k + 2))) F [.d (.loc (F.length + q)), a, b, c, d0] (L.set q (.lst xs)) = .rt d (L.set q (.lst xs') ++ [.lst five]) := by
  have hcl : Cl (L ++ [MO.lst five]) := cl_app hc (cl_gd (j := 0) fun d hd n => (five_gd d hd).lt n)
  obtain ⟨d, xs', h1, h2, h3⟩ := l_pick (fu := fu) (k := k) (F := F) (L := L ++ [.lst five]) (q := q) (xs := xs) (p := L.length) (ys := five) (by rw [List.length_append]; omega) hcl hx (by omega) (by simp) (by decide)
  rw [set_end hq, set_end hq] at h3
  refine ⟨d, xs', five_gd d h1, h2, ?_⟩
  have len : ∀ zs, (L.set q (.lst zs)).length = L.length := fun zs => List.length_set ..
  have ll : lstM (consA (cM .non) (consA (cM (.int 0)) (consA (negO (cM (.int 1))) (consA (op2 powO (cM (.int 10)) (cM (.int 19))) (consA (op2 addO (op2 (intO fun i j => i - j) (cM (.int 0)) (op2 powO (cM (.int 10)) (cM (.int 20)))) (cM (.int 1))) (nilA)))))) F [.d (.loc (F.length + q)), a, b, c, d0] (L.set q (.lst xs)) = .ok (.loc (F.length + L.length)) (L.set q (.lst xs) ++ [.lst five]) := by
    have c1 : (bits2 19 && decide ((10 : Int).natAbs < 2 ^ 64)) = true := by decide +kernel
    have c2 : (bits2 20 && decide ((10 : Int).natAbs < 2 ^ 64)) = true := by decide +kernel
    have l5 : lenOk 5 = true := rfl
    simp only [lstM, consA, cM, R.bind, negO, op2, powO, intC, c1, c2, if_true, intO, addO, nilA, List.length_cons, List.length_nil, Nat.reduceAdd, l5, newO, len]
    rfl
  have hx2 : Cl (L.set q (.lst xs') ++ [MO.lst five]) := cl_app (cl_set hc h2) (cl_gd (j := 0) fun d hd n => (five_gd d hd).lt n)
  have ct := cut_ok (i := F.length + (L.set q (.lst xs) ++ [MO.lst five]).length) (j := (L.set q (.lst xs) ++ [MO.lst five]).length) (d := d) ((five_gd d h1).lt _) (by rw [List.length_append, List.length_append, len, len]; exact Nat.le_refl _) hx2
  rw [List.take_of_length_le (by rw [List.length_append, List.length_append, len, len]; exact Nat.le_refl _)] at ct
  rw [retS, tP, callM, moreA, consA]
  simp only [getV, List.getElem?_cons_zero, R.bind]
  rw [consA, ll]
  simp only [R.bind, nilA, List.append_nil, callR, List.length_cons, List.length_nil, Nat.reduceAdd, if_true, h3, ct, R.toS]
theorem tN_ok {a b c d0 : Sl} (hq : q < L.length) (hc : Cl L) (hx : Dr xs) : ∃ d xs', Gd 0 d ∧ Dr xs' ∧ retS (tN (run fu (k + 1))) F [.d (.loc (F.length + q)), a, b, c, d0] (L.set q (.lst xs)) = .rt d (L.set q (.lst xs')) := by
  obtain ⟨i, xs1, h0, h1, h2, h3⟩ := m_next (fu := fu) (k := k) (F := F) (L := L) (v := 0) (q := q) (xs := xs) (en := [.d (.loc (F.length + q)), a, b, c, d0]) rfl hq hc hx
  obtain ⟨m, xs2, g0, g1, g2, g3⟩ := mod_next (fu := fu) (k := k) (F := F) (L := L) (q := q) (xs := xs1) (en := [.d (.loc (F.length + q)), a, b, c, d0]) (n := 7) (by decide) rfl hq hc h2
  refine ⟨.int (i - 100 * m), xs2, .int (by
    have : (i - 100 * m).natAbs ≤ 2000 := by omega
    exact Nat.lt_of_le_of_lt this (by decide +kernel)), g2, ?_⟩
  have nx : cbM intG (consA (callM .gc 1 (run fu (k + 1) 12) (moreA [] (consA (getV 0) (nilA)))) nilA) F [.d (.loc (F.length + q)), a, b, c, d0] (L.set q (.lst xs)) = .ok (.int i) (L.set q (.lst xs1)) := by
    simp only [nextE] at h3
    rw [cbM, consA, h3]
    rfl
  have hm : mul64 100 m = true := by
    unfold mul64
    rw [Bool.or_eq_true]
    exact .inl rfl
  rw [retS, tN, op2, nx]
  simp only [R.bind]
  rw [op2]
  simp only [cM, R.bind]
  rw [g3]
  simp only [R.bind, mulO, hm, if_true, intO, R.toS]
theorem tT_ok {dep e : Nat} {b c d0 : Sl} (hq : q < L.length) (hc : Cl L) (hx : Dr xs)
    (ih : ∀ (L : Sto) (xs : List D), q < L.length → Cl L → Dr xs → ∃ d xs' T, Gd e d ∧ Dr xs' ∧ Cl T ∧ run fu (k + 1) 15 [.loc (F.length + q), .int ((dep : Int) + 1)] F (L.set q (.lst xs)) = .ok d (L.set q (.lst xs') ++ T)) :
    ∃ d xs', Gd (e + 1) d ∧ Dr xs' ∧ retS (tT (run fu (k + 1))) F [.d (.loc (F.length + q)), .d (.int dep), b, c, d0] (L.set q (.lst xs)) = .rt d (L.set q (.lst xs')) := by
  obtain ⟨n, xs1, n0, n1, hx1, en1⟩ := mod_next (fu := fu) (k := k) (F := F) (L := L) (q := q) (xs := xs) (en := [.d (.loc (F.length + q)), .d (.int dep), b, c, d0]) (n := 4) (by decide) rfl hq hc hx
  have len : ∀ zs, (L.set q (.lst zs)).length = L.length := fun zs => List.length_set ..
  have hfe : ∀ xs acc x, Dr xs → (∀ d ∈ acc, Gd e d) → ∃ d xs', Gd e d ∧ Dr xs' ∧ callM .gc 2 (run fu (k + 1) 15) (moreA [] (consA (getV 0) (consA (op2 addO (getV 1) (cM (.int 1))) (nilA)))) F ((wipeD [.d (.loc (F.length + q)), .d (.int dep), b, c, d0] [4]).set 4 (.d x)) (L.set q (.lst xs) ++ [.lst acc]) = .ok d (L.set q (.lst xs') ++ [.lst acc]) := by
    intro xs acc x hx ha
    have hcl : Cl (L ++ [MO.lst acc]) := cl_app hc (cl_gd (j := 0) fun d hd n => (ha d hd).lt n)
    obtain ⟨d, xs', T, h1, h2, h3, h4⟩ := ih (L ++ [.lst acc]) xs (by rw [List.length_append]; omega) hcl hx
    rw [set_end hq, set_end hq] at h4
    refine ⟨d, xs', h1, h2, ?_⟩
    have hcl2 : Cl (L.set q (.lst xs') ++ [MO.lst acc] ++ T) := cl_app (cl_app (cl_set hc h2) (cl_gd (j := 0) fun d hd n => (ha d hd).lt n)) h3
    have ct := cut_ok (i := F.length + (L.set q (.lst xs) ++ [MO.lst acc]).length) (j := (L.set q (.lst xs) ++ [MO.lst acc]).length) (d := d) (h1.lt _) (by rw [List.length_append, List.length_append, List.length_append, len, len]; omega) hcl2
    rw [List.take_append_of_le_length (by rw [List.length_append, List.length_append, len, len]; exact Nat.le_refl _), List.take_of_length_le (by rw [List.length_append, List.length_append, len, len]; exact Nat.le_refl _)] at ct
    have e0 : (wipeD [.d (.loc (F.length + q)), .d (.int dep), b, c, d0] [4]).set 4 (.d x) = [.d (.loc (F.length + q)), .d (.int dep), b, c, .d x] := rfl
    rw [e0]
    simp only [callM, moreA, consA, getV, List.getElem?_cons_succ, List.getElem?_cons_zero, R.bind, op2, cM, addO, nilA, List.append_nil, callR, List.length_cons, List.length_nil, Nat.reduceAdd, if_true, h4, ct]
  have hN : n.toNat ≤ 3 := by omega
  obtain ⟨ys, xs2, y1, y2, hx2, go⟩ := lc_eff (F := F) (L := L) (q := q) (en := wipeD [.d (.loc (F.length + q)), .d (.int dep), b, c, d0] [4]) (N := n.toNat) (i := 4) hfe n.toNat [] xs1 hx1 (by rw [List.length_nil]; omega) (fun d hd => nomatch hd)
  rw [List.length_nil, Nat.zero_add] at y1
  refine ⟨.tup ys, xs2, .tup (by omega) y2, hx2, ?_⟩
  have bn : big62 n = true := by
    unfold big62
    rw [Bool.and_eq_true]
    exact ⟨decide_eq_true (by omega), decide_eq_true (by omega)⟩
  have lcx : lcxM (rng1I (consA (op2 modO (cbM intG (consA (callM .gc 1 (run fu (k + 1) 12) (moreA [] (consA (getV 0) (nilA)))) (nilA))) (cM (.int 4))) (nilA))) (nameG 4) (yesM) (callM .gc 2 (run fu (k + 1) 15) (moreA [] (consA (getV 0) (consA (op2 addO (getV 1) (cM (.int 1))) (nilA))))) [4] F [.d (.loc (F.length + q)), .d (.int dep), b, c, d0] (L.set q (.lst xs)) = .ok (.loc (F.length + L.length)) (L.set q (.lst xs2) ++ [.lst ys]) := by
    rw [lcxM, rng1I, consA, en1]
    simp only [R.bind, nilA, bn, if_true, len]
    exact go
  have la : listD F (L.set q (.lst xs2) ++ [.lst ys]) (.loc (F.length + L.length)) = some ys := by
    have := lst_end (F := F) (A := L.set q (.lst xs2)) (acc := ys)
    rw [len] at this
    exact this
  have hcl2 : Cl (L.set q (.lst xs2) ++ [MO.lst ys]) := cl_app (cl_set hc hx2) (cl_gd (j := 0) fun d hd n => (y2 d hd).lt n)
  have gt : Gd (e + 1) (.tup ys) := .tup (by omega) y2
  have ct := cut_ok (i := F.length + (L.set q (.lst xs)).length) (j := (L.set q (.lst xs)).length) (d := .tup ys) (gt.lt _) (by rw [List.length_append, len, len]; omega) hcl2
  rw [List.take_append_of_le_length (by rw [len, len]; exact Nat.le_refl _), List.take_of_length_le (by rw [len, len]; exact Nat.le_refl _)] at ct
  rw [retS, tT, gcE, cbM, consA, lcx]
  simp only [R.bind, nilA, tupG', la, ct, R.toS]
theorem kd_eq {a b c d0 : Sl} {kd j : Int} {S : Sto} : tstM (op2 eqO (getV 2) (cM (.int j))) F [a, b, .d (.int kd), c, d0] S = .ok (decide (kd = j)) S := rfl
theorem kd_lt {a b c d0 : Sl} {kd j : Int} {S : Sto} : tstM (op2 ltX (getV 2) (cM (.int j))) F [a, b, .d (.int kd), c, d0] S = .ok (decide (kd < j)) S := rfl
theorem if_t {cc : TM} {A B : SM} {S : Sto} {en : En} (h : cc F en S = .ok true S) : ifS cc A B F en S = A F en S := by
  simp only [ifS, h, R.toS, if_true]
theorem if_f {cc : TM} {A : SM} {S : Sto} {en : En} (h : cc F en S = .ok false S) : ifS cc A nilS F en S = .nx en S := by
  simp only [ifS, h, R.toS, Bool.false_eq_true, if_false, nilS]
theorem next_rt {d : D} {S : Sto} {k : En → Sto → SR} : (SR.rt d S).next k = .rt d S := rfl
theorem term_case {e dep : Nat} (he : dep + e = 4) (hq : q < L.length) (hc : Cl L) (hx : Dr xs)
    (ih : ∀ e', e = e' + 1 → ∀ (L : Sto) (xs : List D), q < L.length → Cl L → Dr xs → ∃ d xs' T, Gd e' d ∧ Dr xs' ∧ Cl T ∧ run fu (k + 2) 15 [.loc (F.length + q), .int ((dep : Int) + 1)] F (L.set q (.lst xs)) = .ok d (L.set q (.lst xs') ++ T)) :
    ∃ d xs' T, Gd e d ∧ Dr xs' ∧ Cl T ∧ run fu (k + 3) 15 [.loc (F.length + q), .int dep] F (L.set q (.lst xs)) = .ok d (L.set q (.lst xs') ++ T) := by
  have st : startD 5 [.loc (F.length + q), .int (dep : Int)] = [.d (.loc (F.length + q)), .d (.int dep), .no, .no, .no] := rfl
  obtain ⟨kd, xs1, k0, k1, hx1, ek⟩ := tK_ok (fu := fu) (k := k + 1) (F := F) (L := L) (q := q) (xs := xs) (dep := dep) (a := .no) (b := .no) (c := .no) hq hc hx
  have base : ∀ x, defM 5 (b_15 fu (run fu (k + 2))) [.loc (F.length + q), .int dep] F (L.set q (.lst xs)) = x → x = (seqS (ifS (tstM (op2 eqO (getV 2) (cM (.int 0)))) (tW (run fu (k + 2))) (nilS))
    (seqS (ifS (tstM (op2 eqO (getV 2) (cM (.int 1)))) (retS (tP (run fu (k + 2)))) (nilS))
    (seqS (ifS (tstM (op2 ltX (getV 2) (cM (.int 5)))) (retS (tN (run fu (k + 2)))) (nilS))
    (retS (tT (run fu (k + 2)))))) F [.d (.loc (F.length + q)), .d (.int dep), .d (.int kd), .no, .no] (L.set q (.lst xs1))).fin := by
    rintro x rfl
    rw [defM, st, b15_eq, seqS, ek, next_nx]
  have base := base _ rfl
  show ∃ d xs' T, Gd e d ∧ Dr xs' ∧ Cl T ∧ defM 5 (b_15 fu (run fu (k + 2))) [.loc (F.length + q), .int dep] F (L.set q (.lst xs)) = .ok d (L.set q (.lst xs') ++ T)
  rw [base]
  by_cases c0 : kd = 0
  · obtain ⟨d, xs', h1, h2, h3⟩ := tW_ok (fu := fu) (k := k + 1) (F := F) (L := L) (q := q) (xs := xs1) (a := .d (.int dep)) (b := .d (.int kd)) hq hc hx1
    refine ⟨d, xs', [], h1.up (Nat.zero_le _), h2, cl_nil, ?_⟩
    rw [seqS, if_t (by rw [kd_eq, decide_eq_true c0]), h3, next_rt, List.append_nil]
    rfl
  · rw [seqS, if_f (by rw [kd_eq, decide_eq_false c0]), next_nx]
    by_cases c1 : kd = 1
    · obtain ⟨d, xs', h1, h2, h3⟩ := tP_ok (fu := fu) (k := k) (F := F) (L := L) (q := q) (xs := xs1) (a := .d (.int dep)) (b := .d (.int kd)) (c := .no) (d0 := .no) hq hc hx1
      refine ⟨d, xs', [.lst five], h1.up (Nat.zero_le _), h2, cl_gd (j := 0) fun d hd n => (five_gd d hd).lt n, ?_⟩
      rw [seqS, if_t (by rw [kd_eq, decide_eq_true c1]), h3, next_rt]
      rfl
    · rw [seqS, if_f (by rw [kd_eq, decide_eq_false c1]), next_nx]
      by_cases c5 : kd < 5
      · obtain ⟨d, xs', h1, h2, h3⟩ := tN_ok (fu := fu) (k := k + 1) (F := F) (L := L) (q := q) (xs := xs1) (a := .d (.int dep)) (b := .d (.int kd)) (c := .no) (d0 := .no) hq hc hx1
        refine ⟨d, xs', [], h1.up (Nat.zero_le _), h2, cl_nil, ?_⟩
        rw [seqS, if_t (by rw [kd_lt, decide_eq_true c5]), h3, next_rt, List.append_nil]
        rfl
      · rw [seqS, if_f (by rw [kd_lt, decide_eq_false c5]), next_nx]
        obtain ⟨e', rfl⟩ : ∃ e', e = e' + 1 := ⟨e - 1, by omega⟩
        obtain ⟨d, xs', h1, h2, h3⟩ := tT_ok (fu := fu) (k := k + 1) (F := F) (L := L) (q := q) (xs := xs1) (dep := dep) (e := e') (b := .d (.int kd)) (c := .no) (d0 := .no) hq hc hx1 (ih e' rfl)
        refine ⟨d, xs', [], h1, h2, cl_nil, ?_⟩
        rw [h3, List.append_nil]
        rfl
theorem l_term_draw : ∀ (e dep : Nat) (L : Sto) (xs : List D), dep + e = 4 → q < L.length → Cl L → Dr xs →
    ∃ d xs' T, Gd e d ∧ Dr xs' ∧ Cl T ∧ run fu (k + e + 3) 15 [.loc (F.length + q), .int dep] F (L.set q (.lst xs)) = .ok d (L.set q (.lst xs') ++ T) := by
  intro e
  induction e with
  | zero =>
    intro dep L xs he hq hc hx
    exact term_case (k := k) he hq hc hx fun e' h => by cases h
  | succ e ih =>
    intro dep L xs he hq hc hx
    refine term_case (k := k + (e + 1)) he hq hc hx fun e' h L xs hq hc hx => ?_
    cases h
    have := ih (dep + 1) L xs (by omega) hq hc hx
    rw [show k + (e + 1) + 2 = k + e + 3 by omega]
    exact this
end
end K20
end SP27
section SP28
set_option Elab.async false
set_option linter.all false
set_option maxRecDepth 100000
set_option maxHeartbeats 4000000
namespace K20
open PySem L2 MI
section
variable {fu k : Nat}
theorem l_number {F L : Sto} {i : Int} : ∃ j : Int, run fu (k + 1) 10 [.int i] F L = .ok (.int j) L := by
  by_cases h : i < 0
  · refine ⟨0 - i, ?_⟩
    have t : tstM (op2 ltX (getV 0) (cM (.int 0))) F [.d (.int i)] L = .ok true L := by
      have : decide (i < 0) = true := decide_eq_true h
      show asB (R.ok (D.bl (decide (i < 0))) L) = _
      rw [this]; rfl
    have st : startD 1 [.int i] = [.d (.int i)] := rfl
    show defM 1 (b_10 fu (run fu k)) [.int i] F L = _
    rw [defM, st, b_10, seqS, if_t t]
    rfl
  · refine ⟨i, ?_⟩
    have t : tstM (op2 ltX (getV 0) (cM (.int 0))) F [.d (.int i)] L = .ok false L := by
      have : decide (i < 0) = false := decide_eq_false h
      show asB (R.ok (D.bl (decide (i < 0))) L) = _
      rw [this]; rfl
    have st : startD 1 [.int i] = [.d (.int i)] := rfl
    show defM 1 (b_10 fu (run fu k)) [.int i] F L = _
    rw [defM, st, b_10, seqS, if_f t, next_nx]
    rfl
def inB : SM := seqS (ifS (tstM (op2 eqO (getV 3) (cM (.int 0)))) (bkS) (nilS))
    (seqS (dropS (bmM "list" appendB (getV 1) (consA (op2 modO (cbM intG (consA (getV 3) (nilA))) (cM (.int 1000))) (nilA))))
    (asgS (op2 fdivO (getV 3) (cM (.int 1000))) (nameG 3)))
theorem dr_one {xs : List D} {i : Int} (hx : Dr xs) : Dr (xs ++ [.int (i % 1000)]) := fun d hd => by
  rcases List.mem_append.mp hd with hd | hd
  · exact hx d hd
  · rw [List.mem_singleton.mp hd]
    exact ⟨i % 1000, rfl, Int.emod_nonneg _ (by decide), Int.emod_lt_of_pos _ (by decide)⟩
theorem in_loop {s c x5 x6 : Sl} {N : Nat} {T : Sto} : ∀ (m : Nat) (rest : Int) (x4 : Sl) (xs : List D), Dr xs → xs.length + m < 16777216 →
    ∃ rest' x4' xs', Dr xs' ∧ xs'.length ≤ xs.length + m ∧ MI.forM (rngSrc 0 N) (nameG 4) inB [] m [s, .d (.loc 0), c, .d (.int rest), x4, x5, x6] (.lst xs :: T) = .nx [s, .d (.loc 0), c, .d (.int rest'), x4', x5, x6] (.lst xs' :: T)
  | 0, rest, x4, xs, hx, _ => ⟨rest, x4, xs, hx, Nat.le_refl _, rfl⟩
  | m + 1, rest, x4, xs, hx, hl => by
    have t : ∀ x4, tstM (op2 eqO (getV 3) (cM (.int 0))) [] [s, .d (.loc 0), c, .d (.int rest), x4, x5, x6] (.lst xs :: T) = .ok (decide (rest = 0)) (.lst xs :: T) := fun _ => rfl
    by_cases h : rest = 0
    · refine ⟨rest, .d (.int (0 + ((N - (m + 1) : Nat) : Int))), xs, hx, by omega, ?_⟩
      unfold MI.forM
      simp only [rngSrc, nameG, List.set_cons_succ, List.set_cons_zero, SR.next, inB, seqS]
      rw [if_t (by rw [t, decide_eq_true h])]
      rfl
    · obtain ⟨r', x4', xs', h1, h2, h3⟩ := in_loop (N := N) m (rest / 1000) (.d (.int (0 + ((N - (m + 1) : Nat) : Int)))) (xs ++ [.int (rest % 1000)]) (dr_one hx) (by rw [List.length_append, List.length_singleton]; omega)
      refine ⟨r', x4', xs', h1, by rw [List.length_append, List.length_singleton] at h2; omega, ?_⟩
      have ap : ∀ x4, dropS (bmM "list" appendB (getV 1) (consA (op2 modO (cbM intG (consA (getV 3) (nilA))) (cM (.int 1000))) (nilA))) [] [s, .d (.loc 0), c, .d (.int rest), x4, x5, x6] (.lst xs :: T) = .nx [s, .d (.loc 0), c, .d (.int rest), x4, x5, x6] (.lst (xs ++ [.int (rest % 1000)]) :: T) := by
        intro x4
        have ow : ownL [] (.lst xs :: T) (.loc 0) = some (0, xs) := rfl
        have ty : tyOk "list" [] (.lst xs :: T) (.loc 0) = true := rfl
        have dk : decide ((0 : Int) < 1000) = true := rfl
        have lt : decide (xs.length < 16777216) = true := decide_eq_true (by omega)
        simp only [dropS, bmM, getV, List.getElem?_cons_succ, List.getElem?_cons_zero, R.bind, ty, if_true, consA, op2, cbM, nilA, intG, cM, modO, intC, dk, appendB, ow, lt, setL, R.toS]
        rfl
      have dv : ∀ x4 S, asgS (op2 fdivO (getV 3) (cM (.int 1000))) (nameG 3) [] [s, .d (.loc 0), c, .d (.int rest), x4, x5, x6] S = .nx [s, .d (.loc 0), c, .d (.int (rest / 1000)), x4, x5, x6] S := fun _ _ => rfl
      unfold MI.forM
      simp only [rngSrc, nameG, List.set_cons_succ, List.set_cons_zero, SR.next, inB, seqS]
      rw [if_f (by rw [t, decide_eq_false h])]
      simp only [ap, dv, turnK]
      exact h3
end
end K20
end SP28
section SP29
set_option Elab.async false
set_option linter.all false
set_option maxRecDepth 100000
set_option maxHeartbeats 4000000
namespace K20
open PySem L2 MI
section
variable {fu k : Nat}
def elB : SM := seqS (asgS (op2 modO (cbM intG (consA (op2 addO (op2 mulO (getV 3) (cM (.int 48271))) (cM (.int 11))) (nilA))) (cM (.int 2147483647))) (nameG 5))
    (seqS (asgS (op2 modO (cbM intG (consA (op2 addO (op2 mulO (getV 5) (cM (.int 69621))) (getV 3)) (nilA))) (cM (.int 2147483629))) (nameG 6))
    (dropS (bmM "list" extendB (getV 1) (consA (lstM (consA (op2 modO (cbM intG (consA (getV 3) (nilA))) (cM (.int 1000))) (consA (op2 modO (cbM intG (consA (getV 5) (nilA))) (cM (.int 1000))) (consA (op2 modO (cbM intG (consA (getV 6) (nilA))) (cM (.int 1000))) (nilA))))) (nilA)))))
def outB (c : Nat → FM) : SM := seqS (asgS (callM .pure 1 (c 10) (moreA [] (consA (getV 2) (nilA)))) (nameG 3))
    (ifS (tstM (op2 geX (getV 3) (cM (.int 1000000000000000000)))) (forS (rng1I (consA (cM (.int 60)) (nilA))) (nameG 4) inB) elB)
theorem b11_eq (c : Nat → FM) : b_11 fu c = seqS (asgS (lstM (nilA)) (nameG 1))
    (seqS (forS (anyI (getV 0)) (nameG 2) (outB c))
    (seqS (dropS (bmM "list" reverseB (getV 1) nilA))
    (retS (getV 1)))) := rfl
theorem mul_r {a b : Int} (h1 : -(2 ^ 64) < b) (h2 : b < 2 ^ 64) : mul64 a b = true := by
  unfold mul64
  rw [Bool.or_eq_true]
  right
  rw [Bool.and_eq_true]
  exact ⟨decide_eq_true h1, decide_eq_true h2⟩
def three (a b c : Int) : List D := [.int (a % 1000), .int (b % 1000), .int (c % 1000)]
theorem dr_three {xs : List D} {a b c : Int} (hx : Dr xs) : Dr (xs ++ three a b c) := fun d hd => by
  have key : ∀ i : Int, ∃ j : Int, D.int (i % 1000) = .int j ∧ 0 ≤ j ∧ j < 1000 := fun i => ⟨_, rfl, Int.emod_nonneg _ (by decide), Int.emod_lt_of_pos _ (by decide)⟩
  rcases List.mem_append.mp hd with hd | hd
  · exact hx d hd
  · simp only [three, List.mem_cons, List.not_mem_nil, or_false] at hd
    rcases hd with rfl | rfl | rfl
    · exact key a
    · exact key b
    · exact key c
theorem el_ok {s c x4 x5 x6 : Sl} {rest : Int} {xs : List D} {T : Sto} (hl : xs.length + 3 ≤ 16777216) : ∃ o t : Int, elB [] [s, .d (.loc 0), c, .d (.int rest), x4, x5, x6] (.lst xs :: T) = .nx [s, .d (.loc 0), c, .d (.int rest), x4, .d (.int o), .d (.int t)] (.lst (xs ++ three rest o t) :: (T ++ [.lst (three rest o t)])) := by
  refine ⟨(rest * 48271 + 11) % 2147483647, ((rest * 48271 + 11) % 2147483647 * 69621 + rest) % 2147483629, ?_⟩
  have m1 : mul64 rest 48271 = true := mul_r (by decide) (by decide)
  have m2 : mul64 ((rest * 48271 + 11) % 2147483647) 69621 = true := mul_r (by decide) (by decide)
  have d1 : decide ((0 : Int) < 2147483647) = true := rfl
  have d2 : decide ((0 : Int) < 2147483629) = true := rfl
  have d3 : decide ((0 : Int) < 1000) = true := rfl
  have a1 : ∀ S : Sto, asgS (op2 modO (cbM intG (consA (op2 addO (op2 mulO (getV 3) (cM (.int 48271))) (cM (.int 11))) (nilA))) (cM (.int 2147483647))) (nameG 5) [] [s, .d (.loc 0), c, .d (.int rest), x4, x5, x6] S = .nx [s, .d (.loc 0), c, .d (.int rest), x4, .d (.int ((rest * 48271 + 11) % 2147483647)), x6] S := by
    intro S
    simp only [asgS, op2, cbM, consA, getV, List.getElem?_cons_succ, List.getElem?_cons_zero, R.bind, cM, mulO, m1, if_true, addO, nilA, intG, modO, intC, d1, R.toS, nameG, List.set_cons_succ, List.set_cons_zero]
  have a2 : ∀ S : Sto, ∀ o : Int, mul64 o 69621 = true → asgS (op2 modO (cbM intG (consA (op2 addO (op2 mulO (getV 5) (cM (.int 69621))) (getV 3)) (nilA))) (cM (.int 2147483629))) (nameG 6) [] [s, .d (.loc 0), c, .d (.int rest), x4, .d (.int o), x6] S = .nx [s, .d (.loc 0), c, .d (.int rest), x4, .d (.int o), .d (.int ((o * 69621 + rest) % 2147483629))] S := by
    intro S o ho
    simp only [asgS, op2, cbM, consA, getV, List.getElem?_cons_succ, List.getElem?_cons_zero, R.bind, cM, mulO, ho, if_true, addO, nilA, intG, modO, intC, d2, R.toS, nameG, List.set_cons_succ, List.set_cons_zero]
  have a3 : ∀ o t : Int, dropS (bmM "list" extendB (getV 1) (consA (lstM (consA (op2 modO (cbM intG (consA (getV 3) (nilA))) (cM (.int 1000))) (consA (op2 modO (cbM intG (consA (getV 5) (nilA))) (cM (.int 1000))) (consA (op2 modO (cbM intG (consA (getV 6) (nilA))) (cM (.int 1000))) (nilA))))) (nilA))) [] [s, .d (.loc 0), c, .d (.int rest), x4, .d (.int o), .d (.int t)] (.lst xs :: T) =
      .nx [s, .d (.loc 0), c, .d (.int rest), x4, .d (.int o), .d (.int t)] (.lst (xs ++ three rest o t) :: (T ++ [.lst (three rest o t)])) := by
    intro o t
    have l3 : lenOk 3 = true := rfl
    have ty : tyOk "list" [] (.lst xs :: T) (.loc 0) = true := rfl
    have ow : ownL [] ((.lst xs :: T) ++ [.lst [.int (rest % 1000), .int (o % 1000), .int (t % 1000)]]) (.loc 0) = some (0, xs) := rfl
    have la : lstAt [] ((.lst xs :: T) ++ [.lst [.int (rest % 1000), .int (o % 1000), .int (t % 1000)]]) (([] : Sto).length + (MO.lst xs :: T).length) = some [.int (rest % 1000), .int (o % 1000), .int (t % 1000)] := lst_end (F := []) (A := .lst xs :: T)
    have lk : lenOk (xs.length + 3) = true := decide_eq_true hl
    simp only [dropS, bmM, getV, List.getElem?_cons_succ, List.getElem?_cons_zero, R.bind, ty, if_true, consA, lstM, op2, cbM, nilA, intG, cM, modO, intC, d3, List.length_cons, List.length_nil, Nat.reduceAdd, l3, newO]
    simp only [extendB]
    rw [show ownL [] (MO.lst xs :: T ++ [.lst [.int (rest % 1000), .int (o % 1000), .int (t % 1000)]]) (.loc 0) = some (0, xs) from rfl]
    simp only [List.length_cons, List.length_nil] at la
    simp only [la, List.length_cons, List.length_nil, Nat.reduceAdd, lk, if_true, setL, R.toS]
    rfl
  unfold elB
  rw [seqS, a1, next_nx, seqS, a2 _ _ m2, next_nx, a3]
theorem out_loop {s : Sl} {ns : List Int} : ∀ (m : Nat) (xs : List D) (T : Sto) (x2 x3 x4 x5 x6 : Sl), Dr xs → Cl T → m ≤ ns.length → xs.length + 60 * m < 16777000 →
    ∃ xs' T' y2 y3 y4 y5 y6, Dr xs' ∧ Cl T' ∧ xs'.length ≤ xs.length + 60 * m ∧ MI.forM (valSrc (ns.map D.int)) (nameG 2) (outB (run fu (k + 1))) [] m [s, .d (.loc 0), x2, x3, x4, x5, x6] (.lst xs :: T) = .nx [s, .d (.loc 0), y2, y3, y4, y5, y6] (.lst xs' :: T')
  | 0, xs, T, x2, x3, x4, x5, x6, hx, hT, _, _ => ⟨xs, T, x2, x3, x4, x5, x6, hx, hT, Nat.le_refl _, rfl⟩
  | m + 1, xs, T, x2, x3, x4, x5, x6, hx, hT, hm, hl => by
    have hlt : ns.length - (m + 1) < ns.length := by omega
    have it : (valSrc (ns.map D.int)).item ((valSrc (ns.map D.int)).num - (m + 1)) ([] ++ (.lst xs :: T)) = some (.int ns[ns.length - (m + 1)]) := by
      show (ns.map D.int)[(ns.map D.int).length - (m + 1)]? = _
      rw [List.length_map, List.getElem?_map, List.getElem?_eq_getElem hlt]
      rfl
    generalize ns[ns.length - (m + 1)] = cell at it
    obtain ⟨rest, hr⟩ := l_number (fu := fu) (k := k) (F := [] ++ (MO.lst xs :: T)) (L := []) (i := cell)
    have a1 : asgS (callM .pure 1 (run fu (k + 1) 10) (moreA [] (consA (getV 2) (nilA)))) (nameG 3) [] [s, .d (.loc 0), .d (.int cell), x3, x4, x5, x6] (.lst xs :: T) = .nx [s, .d (.loc 0), .d (.int cell), .d (.int rest), x4, x5, x6] (.lst xs :: T) := by
      simp only [asgS, callM, moreA, consA, getV, List.getElem?_cons_succ, List.getElem?_cons_zero, R.bind, nilA, List.append_nil, callR, List.length_cons, List.length_nil, Nat.reduceAdd, if_true, hr, pureR, D.lt, R.toS, nameG, List.set_cons_succ, List.set_cons_zero]
    have tg : tstM (op2 geX (getV 3) (cM (.int 1000000000000000000))) [] [s, .d (.loc 0), .d (.int cell), .d (.int rest), x4, x5, x6] (.lst xs :: T) = .ok (decide ((1000000000000000000 : Int) ≤ rest)) (.lst xs :: T) := rfl
    have step : ∃ xs1 T1 y3 y4 y5 y6, Dr xs1 ∧ Cl T1 ∧ xs1.length ≤ xs.length + 60 ∧ outB (run fu (k + 1)) [] [s, .d (.loc 0), .d (.int cell), x3, x4, x5, x6] (.lst xs :: T) = .nx [s, .d (.loc 0), .d (.int cell), y3, y4, y5, y6] (.lst xs1 :: T1) := by
      by_cases h : (1000000000000000000 : Int) ≤ rest
      · obtain ⟨r', y4, xs1, h1, h2, h3⟩ := in_loop (s := s) (c := .d (.int cell)) (x5 := x5) (x6 := x6) (N := 60) (T := T) 60 rest x4 xs hx (by omega)
        refine ⟨xs1, T, .d (.int r'), y4, x5, x6, h1, hT, h2, ?_⟩
        rw [outB, seqS, a1, next_nx, if_t (by rw [tg, decide_eq_true h])]
        exact h3
      · obtain ⟨o, t, e⟩ := el_ok (s := s) (c := .d (.int cell)) (x4 := x4) (x5 := x5) (x6 := x6) (rest := rest) (xs := xs) (T := T) (by omega)
        refine ⟨xs ++ three rest o t, T ++ [.lst (three rest o t)], .d (.int rest), x4, .d (.int o), .d (.int t), dr_three hx, cl_app hT (cl_gd (j := 0) fun d hd n => ?_), by rw [List.length_append]; show _ + 3 ≤ _; omega, ?_⟩
        · obtain ⟨i, rfl, _⟩ := dr_three (xs := []) (a := rest) (b := o) (c := t) (fun _ h => nomatch h) d hd
          rfl
        · rw [outB, seqS, a1, next_nx]
          simp only [ifS, tg, decide_eq_false h, R.toS, Bool.false_eq_true, if_false]
          exact e
    obtain ⟨xs1, T1, y3, y4, y5, y6, h1, h2, h3, h4⟩ := step
    obtain ⟨xs', T', z2, z3, z4, z5, z6, g1, g2, g3, g4⟩ := out_loop (ns := ns) m xs1 T1 (.d (.int cell)) y3 y4 y5 y6 h1 h2 (by omega) (by omega)
    refine ⟨xs', T', z2, z3, z4, z5, z6, g1, g2, by omega, ?_⟩
    unfold MI.forM
    rw [it]
    simp only [nameG, List.set_cons_succ, List.set_cons_zero, SR.next, h4, turnK]
    exact g4
theorem l_draws {ns : List Int} (hn : ns.length ≤ 63) : ∃ xs T, Dr xs ∧ Cl T ∧ xs.length ≤ 4000 ∧ run fu (k + 2) 11 [.fls (ns.map D.int)] [] [] = .ok (.loc 0) (.lst xs :: T) := by
  obtain ⟨xs, T, y2, y3, y4, y5, y6, h1, h2, h3, h4⟩ := out_loop (fu := fu) (k := k) (s := .d (.fls (ns.map D.int))) (ns := ns) ns.length [] [] .no .no .no .no .no (fun _ h => nomatch h) cl_nil (Nat.le_refl _) (by rw [List.length_nil]; omega)
  refine ⟨xs.reverse, T, fun d hd => h1 d (List.mem_reverse.mp hd), h2, by rw [List.length_reverse]; rw [List.length_nil] at h3; omega, ?_⟩
  have st : startD 7 [.fls (ns.map D.int)] = [.d (.fls (ns.map D.int)), .no, .no, .no, .no, .no, .no] := rfl
  have a1 : asgS (lstM nilA) (nameG 1) [] [.d (.fls (ns.map D.int)), .no, .no, .no, .no, .no, .no] [] = .nx [.d (.fls (ns.map D.int)), .d (.loc 0), .no, .no, .no, .no, .no] [.lst []] := rfl
  have f1 : forS (anyI (getV 0)) (nameG 2) (outB (run fu (k + 1))) [] [.d (.fls (ns.map D.int)), .d (.loc 0), .no, .no, .no, .no, .no] [.lst []] = .nx [.d (.fls (ns.map D.int)), .d (.loc 0), y2, y3, y4, y5, y6] (.lst xs :: T) := by
    rw [← h4]
    show MI.forM (valSrc (ns.map D.int)) (nameG 2) (outB (run fu (k + 1))) [] (ns.map D.int).length _ _ = _
    rw [List.length_map]
  show defM 7 (b_11 fu (run fu (k + 1))) [.fls (ns.map D.int)] [] [] = _
  rw [defM, st, b11_eq, seqS, a1, next_nx, seqS, f1, next_nx]
  rfl
end
end K20
end SP29
section SP30
set_option Elab.async false
set_option linter.all false
set_option maxRecDepth 100000
set_option maxHeartbeats 4000000
namespace K20
open PySem L2 MI
section
variable {fu k : Nat}
def moB : SM := seqS (asgS (op2 modO (cbM intG (consA (op2 addO (op2 mulO (getV 2) (cM (.int 48271))) (cM (.int 12345))) (nilA))) (cM (.int 2147483647))) (nameG 2))
    (dropS (bmM "list" appendB (getV 3) (consA (op2 modO (cbM intG (consA (op2 fdivO (getV 2) (cM (.int 7))) (nilA))) (cM (.int 1000))) (nilA))))
theorem b13_eq (c : Nat → FM) : b_13 fu c = seqS (asgS (op2 addO (op2 addO (op2 mulO (cM (.int 1000)) (callM .gc 1 (c 12) (moreA [] (consA (getV 0) (nilA))))) (callM .gc 1 (c 12) (moreA [] (consA (getV 0) (nilA))))) (cM (.int 1))) (nameG 2))
    (seqS (asgS (lstM (nilA)) (nameG 3))
    (seqS (forS (rng1I (consA (getV 1) (nilA))) (nameG 4) moB)
    (retS (op2 addO (getV 3) (getV 0))))) := rfl
theorem mo_loop {a b : Sl} {N : Nat} {A : Sto} : ∀ (m : Nat) (seed : Int) (more : List D) (x4 : Sl), Dr more → more.length + m < 16777216 →
    ∃ seed' more' y4, Dr more' ∧ more'.length = more.length + m ∧ MI.forM (rngSrc 0 N) (nameG 4) moB [] m [a, b, .d (.int seed), .d (.loc A.length), x4] (A ++ [.lst more]) = .nx [a, b, .d (.int seed'), .d (.loc A.length), y4] (A ++ [.lst more'])
  | 0, seed, more, x4, hx, _ => ⟨seed, more, x4, hx, rfl, rfl⟩
  | m + 1, seed, more, x4, hx, hl => by
    obtain ⟨seed', more', y4, h1, h2, h3⟩ := mo_loop (N := N) (A := A) m ((seed * 48271 + 12345) % 2147483647) (more ++ [.int ((seed * 48271 + 12345) % 2147483647 / 7 % 1000)]) (.d (.int (0 + ((N - (m + 1) : Nat) : Int)))) (dr_one hx) (by rw [List.length_append, List.length_singleton]; omega)
    refine ⟨seed', more', y4, h1, by rw [h2, List.length_append, List.length_singleton]; omega, ?_⟩
    have m1 : mul64 seed 48271 = true := mul_r (by decide) (by decide)
    have d1 : decide ((0 : Int) < 2147483647) = true := rfl
    have d3 : decide ((0 : Int) < 1000) = true := rfl
    have d7 : (decide ((0 : Int) < 7) && decide ((7 : Int) < 1073741824)) = true := rfl
    have a1 : ∀ x4, ∀ S : Sto, asgS (op2 modO (cbM intG (consA (op2 addO (op2 mulO (getV 2) (cM (.int 48271))) (cM (.int 12345))) (nilA))) (cM (.int 2147483647))) (nameG 2) [] [a, b, .d (.int seed), .d (.loc A.length), x4] S = .nx [a, b, .d (.int ((seed * 48271 + 12345) % 2147483647)), .d (.loc A.length), x4] S := by
      intro x4 S
      simp only [asgS, op2, cbM, consA, getV, List.getElem?_cons_succ, List.getElem?_cons_zero, R.bind, cM, mulO, m1, if_true, addO, nilA, intG, modO, intC, d1, R.toS, nameG, List.set_cons_succ, List.set_cons_zero]
    have la : lstAt [] (A ++ [.lst more]) A.length = some more := by
      have := lst_end (F := []) (A := A) (acc := more)
      simpa using this
    have ty : tyOk "list" [] (A ++ [.lst more]) (.loc A.length) = true := by
      show (("list" == "list") && (lstAt [] _ _).isSome) = true
      rw [la]; rfl
    have ow : ownL [] (A ++ [.lst more]) (.loc A.length) = some (A.length, more) := by
      unfold ownL
      simp only [List.length_nil, Nat.zero_le, if_true, la, Option.map]
    have lt : decide (more.length < 16777216) = true := decide_eq_true (by omega)
    have a2 : ∀ x4, ∀ s : Int, dropS (bmM "list" appendB (getV 3) (consA (op2 modO (cbM intG (consA (op2 fdivO (getV 2) (cM (.int 7))) (nilA))) (cM (.int 1000))) (nilA))) [] [a, b, .d (.int s), .d (.loc A.length), x4] (A ++ [.lst more]) = .nx [a, b, .d (.int s), .d (.loc A.length), x4] (A ++ [.lst (more ++ [.int (s / 7 % 1000)])]) := by
      intro x4 s
      simp only [dropS, bmM, getV, List.getElem?_cons_succ, List.getElem?_cons_zero, R.bind, ty, if_true, consA, op2, cbM, nilA, intG, cM, fdivO, d7, modO, intC, d3, appendB, ow, lt, setL, List.length_nil, Nat.sub_zero, set_mid, R.toS]
    unfold MI.forM
    simp only [rngSrc, nameG, List.set_cons_succ, List.set_cons_zero, SR.next, moB, seqS, a1, a2, turnK]
    exact h3
theorem l_more {xs : List D} {T : Sto} (hx : Dr xs) (hT : Cl T) (hl : xs.length ≤ 4000) : ∃ ys xs' more, Dr ys ∧ Dr xs' ∧ Dr more ∧ run fu (k + 2) 13 [.loc 0, .int 120] [] (.lst xs :: T) = .ok (.loc (T.length + 2)) ((.lst xs' :: T) ++ [.lst more] ++ [.lst ys]) := by
  have hc : Cl (.lst xs :: T) := cl_app (A := [.lst xs]) (fun o ho i => by rw [List.mem_singleton.mp ho]; exact hx.cl i) hT
  have st : startD 5 [.loc 0, .int 120] = [.d (.loc 0), .d (.int 120), .no, .no, .no] := rfl
  have nx : ∀ xs : List D, Dr xs → ∃ i xs', Dr xs' ∧ xs'.length ≤ xs.length ∧ callM .gc 1 (run fu (k + 1) 12) (moreA [] (consA (getV 0) nilA)) [] [.d (.loc 0), .d (.int 120), .no, .no, .no] (.lst xs :: T) = .ok (.int i) (.lst xs' :: T) := by
    intro xs hx
    have hc : Cl (.lst xs :: T) := cl_app (A := [.lst xs]) (fun o ho i => by rw [List.mem_singleton.mp ho]; exact hx.cl i) hT
    obtain ⟨i, xs', _, _, h2, h4, h3⟩ := m_nextL (fu := fu) (k := k) (F := []) (L := .lst xs :: T) (v := 0) (q := 0) (xs := xs) (en := [.d (.loc 0), .d (.int 120), .no, .no, .no]) rfl (Nat.succ_pos _) hc hx
    exact ⟨i, xs', h2, h4, h3⟩
  obtain ⟨i1, xs1, hx1, l1, e1⟩ := nx xs hx
  obtain ⟨i2, xs2, hx2, l2, e2⟩ := nx xs1 hx1
  have m1 : mul64 1000 i1 = true := by
    unfold mul64
    rw [Bool.or_eq_true]
    exact .inl rfl
  obtain ⟨seed', more', y4, g1, g2, g3⟩ := mo_loop (a := .d (.loc 0)) (b := .d (.int 120)) (N := 120) (A := .lst xs2 :: T) 120 (1000 * i1 + i2 + 1) [] .no (fun _ h => nomatch h) (by rw [List.length_nil]; omega)
  rw [List.length_nil] at g2
  refine ⟨more' ++ xs2, xs2, more', fun d hd => (List.mem_append.mp hd).elim (g1 d) (hx2 d), hx2, g1, ?_⟩
  have a1 : asgS (op2 addO (op2 addO (op2 mulO (cM (.int 1000)) (callM .gc 1 (run fu (k + 1) 12) (moreA [] (consA (getV 0) (nilA))))) (callM .gc 1 (run fu (k + 1) 12) (moreA [] (consA (getV 0) (nilA))))) (cM (.int 1))) (nameG 2) [] [.d (.loc 0), .d (.int 120), .no, .no, .no] (.lst xs :: T) = .nx [.d (.loc 0), .d (.int 120), .d (.int (1000 * i1 + i2 + 1)), .no, .no] (.lst xs2 :: T) := by
    rw [asgS, op2, op2, op2]
    simp only [cM, R.bind, e1, e2, mulO, m1, if_true, addO, R.toS, nameG, List.set_cons_succ, List.set_cons_zero]
  have a2 : asgS (lstM nilA) (nameG 3) [] [.d (.loc 0), .d (.int 120), .d (.int (1000 * i1 + i2 + 1)), .no, .no] (.lst xs2 :: T) = .nx [.d (.loc 0), .d (.int 120), .d (.int (1000 * i1 + i2 + 1)), .d (.loc (MO.lst xs2 :: T).length), .no] ((.lst xs2 :: T) ++ [.lst []]) := by
    have e : asgS (lstM nilA) (nameG 3) [] [.d (.loc 0), .d (.int 120), .d (.int (1000 * i1 + i2 + 1)), .no, .no] (.lst xs2 :: T) = .nx [.d (.loc 0), .d (.int 120), .d (.int (1000 * i1 + i2 + 1)), .d (.loc (([] : Sto).length + (MO.lst xs2 :: T).length)), .no] ((.lst xs2 :: T) ++ [.lst []]) := rfl
    rw [e, List.length_nil, Nat.zero_add]
  have a3 : forS (rng1I (consA (getV 1) (nilA))) (nameG 4) moB [] [.d (.loc 0), .d (.int 120), .d (.int (1000 * i1 + i2 + 1)), .d (.loc (MO.lst xs2 :: T).length), .no] ((.lst xs2 :: T) ++ [.lst []]) = .nx [.d (.loc 0), .d (.int 120), .d (.int seed'), .d (.loc (MO.lst xs2 :: T).length), y4] ((.lst xs2 :: T) ++ [.lst more']) := g3
  have la : lstAt [] ((MO.lst xs2 :: T) ++ [.lst more']) (MO.lst xs2 :: T).length = some more' := by
    have := lst_end (F := []) (A := MO.lst xs2 :: T) (acc := more')
    simpa using this
  have lb : lstAt [] ((MO.lst xs2 :: T) ++ [.lst more']) 0 = some xs2 := rfl
  have lk : lenOk (more'.length + xs2.length) = true := decide_eq_true (by omega)
  show defM 5 (b_13 fu (run fu (k + 1))) [.loc 0, .int 120] [] (.lst xs :: T) = _
  rw [defM, st, b13_eq, seqS, a1, next_nx, seqS, a2, next_nx, seqS, a3, next_nx]
  simp only [retS, op2, getV, List.getElem?_cons_succ, List.getElem?_cons_zero, R.bind, addO, la, lb, lk, if_true, newO, R.toS, SR.fin]
  congr 2
  simp only [List.length_nil, List.length_append, List.length_cons, Nat.zero_add]
end
end K20
end SP30
section SP31
set_option Elab.async false
set_option linter.all false
set_option maxRecDepth 100000
set_option maxHeartbeats 4000000
namespace K20
open PySem L2 MI
theorem bad_cs : (Str.ofString "bad").cps.toList = [98, 97, 100] := by rfl
theorem noBad_of {z : Str} (h : (Builtin.Str.occurrences z (Str.ofString "bad") 0 z.length 1).isEmpty = true) : NoBad z := by
  intro n e
  have hT : (z.cps.toList.drop n).takeWhile (isIn SMA) = [98, 97, 100] := by
    have := congrArg (fun s : Str => s.cps.toList) e
    rw [← bad_cs]
    exact this
  have ht : (z.cps.toList.drop n).take 3 = [98, 97, 100] := by
    have := take_tw (isIn SMA) (z.cps.toList.drop n)
    rw [hT] at this
    exact this
  have e1 : z.cps.toList.length = z.length := Array.length_toList
  have hl : n + 3 ≤ z.length := by
    have := congrArg List.length ht
    rw [List.length_take, List.length_drop, e1] at this
    have : min 3 (z.length - n) = 3 := this
    omega
  have f := (PySem.StrLaws.found_iff z (Str.ofString "bad")).mpr ⟨n, hl, by
    unfold Builtin.Str.subAt
    rw [beq_iff_eq]
    have e2 : (z.cps.extract n (n + (Str.ofString "bad").length)).toList = (Str.ofString "bad").cps.toList := by
      have e3 : (Str.ofString "bad").length = 3 := rfl
      rw [e3, Array.toList_extract, bad_cs]
      rw [← ht]
      simp [List.extract_eq_take_drop, List.drop_take]
    exact Array.toList_inj.mp e2⟩
  rw [h] at f
  cases f
def Bg : Nat → Nat
  | 0 => 21
  | j + 1 => 3 * Bg j + 5
theorem Bg_le : ∀ j, 21 ≤ Bg j
  | 0 => Nat.le_refl _
  | j + 1 => by have := Bg_le j; unfold Bg; omega
theorem gd_len {j : Nat} {d : D} (h : Gd j d) : ∀ t, tt d = some t → t.length ≤ Bg j := by
  induction h with
  | @non j =>
    intro t e
    have e' : some [110, 111, 110, 101] = some t := e
    cases e'
    have := Bg_le j
    show 4 ≤ _
    omega
  | @int j i hi =>
    intro t e
    have e' : (if i.natAbs < big then some (numI i) else none) = some t := e
    rw [if_pos (Nat.lt_of_lt_of_le hi big_20)] at e'
    cases e'
    have := Bg_le j
    have h2 := numI_len (i := i) (k := 20) (by decide) hi
    omega
  | @str j w hl h2 h3 =>
    intro t e
    have e' : (if w = Str.ofString "none" ∨ (w.cps.toList.all fun c => isIn SMA c) = false then none else some (if w.cps.toList.isEmpty then [46] else w.cps.toList)) = some t := e
    have := Bg_le j
    have wl : w.cps.toList.length = w.length := Array.length_toList
    split at e'
    · cases e'
    · cases e'
      split
      · show 1 ≤ _; omega
      · omega
  | @tup j ds hl _ ih =>
    intro t e
    have e' : (ttL ds).map (fun ts => 40 :: (TL.joinL [32] ts ++ [41])) = some t := by unfold tt at e; exact e
    rw [ttL_eq] at e'
    cases e2 : ds.mapM tt with
    | none => rw [e2] at e'; cases e'
    | some ts =>
      rw [e2] at e'
      cases e'
      obtain ⟨m1, m2⟩ := mapM_mem e2
      have jl := join_len (B := Bg j) (ts := ts) fun t ht => by
        obtain ⟨x, hx, e⟩ := m2 t ht
        exact ih x hx t e
      rw [m1] at jl
      have : ds.length * (Bg j + 1) ≤ 3 * (Bg j + 1) := Nat.mul_le_mul_right _ hl
      rw [List.length_cons, List.length_append, List.length_singleton]
      unfold Bg
      omega
theorem Gd.tm {j : Nat} {d : D} (h : Gd j d) : Tm j d := by
  induction h with
  | non => exact .non
  | int h => exact .int h
  | str _ h _ => exact .str h
  | tup _ _ ih => exact .tup ih
theorem Gd.sz {j : Nat} {d : D} (h : Gd j d) : Sz 3 d := by
  induction h with
  | non => exact .non
  | int h => exact .int
  | str _ h _ => exact .str
  | tup h _ ih => exact .tup h ih
/-- read back from the text of a term alone -/
theorem read_good {fu j : Nat} {d : D} {t : Cs} (hj : j ≤ 12) (h : Gd j d) (e : tt d = some t) (hf : t.length < fu) : readD fu (mkS t) = .inl d ∧ (PyData.shown (py d)).length ≤ 16 * t.length := by
  have r := read_back (f := fu) 12 j d t 0 [] hj h e ⟨rfl, rfl⟩ (by rw [List.append_nil]; exact hf)
  rw [List.append_nil, Nat.zero_add] at r
  have r' : pTerm fu 12 0 (mkS t).cps.toList = .fine d t.length [] := r
  obtain ⟨_, k2⟩ := pTerm_eat2 (s := t.length) fu 12 0 _ d _ _ r'
  refine ⟨?_, ?_⟩
  · unfold readD
    rw [r']
    show (if t.length < (mkS t).length then Sum.inr t.length else Sum.inl d) = Sum.inl d
    rw [mk_len, if_neg (Nat.lt_irrefl _)]
  · have e2 : (mkS t).cps.toList.length = t.length := rfl
    rw [e2, List.length_nil] at k2
    omega
/-- a tuple of a term, shown -/
theorem repr_tup {F L : Sto} {j : Nat} {ds : List D} (hj : j ≤ 12) (h : Gd j (.tup ds)) (hl : (PyData.shown (py (.tup ds))).length ≤ 1000000) : reprG F [.tup ds] L = .ok (.str (PyData.shown (py (.tup ds)))) L := by
  obtain ⟨t1, t2, t3, t4⟩ := h.tm.py
  have h1 : toPy (F ++ L) fuPy (.tup ds) = some (py (.tup ds)) := toPy_of h.tm h.sz fuPy (by
    show (j + 1) * (3 + 2) ≤ 1000000
    omega)
  show (match toPy (F ++ L) fuPy (.tup ds) with | some e => if e.showable && !e.hasDict && decide (e.depth ≤ 64) && lenOk e.shown.length then (R.ok (D.str e.shown) L : R D) else R.bad | none => R.bad) = _
  rw [h1]
  show (if (PyData.showable (py (.tup ds)) && !PyData.hasDict (py (.tup ds)) && decide (PyData.depth (py (.tup ds)) ≤ 64) && lenOk (PyData.shown (py (.tup ds))).length) = true then _ else _) = _
  rw [t3, t4, decide_eq_true (show PyData.depth (py (.tup ds)) ≤ 64 by omega), show lenOk (PyData.shown (py (.tup ds))).length = true from decide_eq_true (by omega)]
  rfl
end K20
end SP31
section SP32
set_option Elab.async false
set_option linter.all false
set_option maxRecDepth 100000
set_option maxHeartbeats 4000000
namespace K20
open PySem L2 MI
def kB (c : Nat → FM) : SM := seqS (asgS (op2 modO (cbM intG (consA (callM .gc 1 (c 12) (moreA [] (consA (getV 1) (nilA)))) (nilA))) (op2 addO (cbM lenG (consA (getV 5) (nilA))) (cM (.int 1)))) (nameG 7))
    (seqS (asgS (op2 modO (cbM intG (consA (callM .gc 1 (c 12) (moreA [] (consA (getV 1) (nilA)))) (nilA))) (cM (.int 2))) (nameG 8))
    (seqS (asgS (callM .gc 2 (c 14) (moreA [] (consA (getV 1) (consA (lstM (consA (cM (.str (Str.ofString ""))) (consA (cM (.str (Str.ofString " "))) (consA (cM (.str (Str.ofString "("))) (consA (cM (.str (Str.ofString ")"))) (consA (cM (.str (Str.ofString "-"))) (consA (cM (.str (Str.ofString "0"))) (consA (cM (.str (Str.ofString "7"))) (consA (cM (.str (Str.ofString "a"))) (consA (cM (.str (Str.ofString "."))) (consA (cM (.str (Str.ofString "A"))) (consA (cM (.str (Str.ofString "_"))) (consA (cM (.str (Str.ofString "\t"))) (nilA)))))))))))))) (nilA))))) (nameG 9))
    (seqS (asgS (op2 addO (op2 addO (slM (getV 5) (noP) (someP (getV 7))) (getV 9)) (slM (getV 5) (someP (op2 addO (getV 7) (getV 8))) (noP))) (nameG 10))
    (ifS (MI.andM (tstM (op2 (inO true) (cM (.str (Str.ofString "bad"))) (getV 10))) (tstM (op2 neO (gcE (cbM reprG (consA (callM .keep 1 (c 21) (moreA [] (consA (getV 10) (nilA)))) (nilA)))) (gcE (cbM reprG (consA (callM .keep 1 (c 20) (moreA [] (consA (getV 10) (nilA)))) (nilA))))))) (retS (cM (.bl false))) (nilS)))))
def tB (c : Nat → FM) : SM := seqS (asgS (callM .gc 2 (c 15) (moreA [] (consA (getV 1) (consA (cM (.int 0)) (nilA))))) (nameG 4))
    (seqS (asgS (callM .pure 1 (c 16) (moreA [] (consA (getV 4) (nilA)))) (nameG 5))
    (seqS (ifS (MI.orM (tstM (op2 neO (callM .pure 1 (c 1) (moreA [] (consA (getV 4) (nilA)))) (getV 5))) (tstM (op2 neO (gcE (cbM reprG (consA (callM .keep 1 (c 21) (moreA [] (consA (getV 5) (nilA)))) (nilA)))) (gcE (cbM reprG (consA (lstM (consA (cM (.str (Str.ofString "term"))) (consA (getV 4) (nilA)))) (nilA))))))) (retS (cM (.bl false))) (nilS))
    (seqS (ifS (MI.andM (truM (cbM isiG (consA (getV 4) (consA (cM (.ty "tuple")) (nilA))))) (tstM (op2 neO (callM .pure 1 (c 1) (moreA [] (consA (cbM listG (consA (getV 4) (nilA))) (nilA)))) (getV 5)))) (retS (cM (.bl false))) (nilS))
    (forS (rng1I (consA (cM (.int 5)) (nilA))) (nameG 6) (kB c)))))
section
variable {fu : Nat} {F L : Sto} {q : Nat} {xs : List D}
theorem cut_pre {n : Nat} {S J : Sto} {d : D} (hd : D.lt n d = true) (hc : Cl S) : cutR n S.length (.ok d (S ++ J)) = .ok d S := by
  unfold cutR
  have t : (S ++ J).take S.length = S := List.take_left
  have al : S.all (MO.lt n) = true := List.all_eq_true.mpr fun o ho => hc o ho n
  simp only [hd, t, al, List.length_append, Nat.le_add_right, decide_true, Bool.and_self, if_true]
theorem told_repr {en : En} {i : Nat} {z : Str} {S : Sto} (hc : Cl S) (hz : z.length ≤ 50000) (hf : z.length < fu) (ei : en[i]? = some (.d (.str z))) :
    gcE (cbM reprG (consA (callM .keep 1 (run fu 59 21) (moreA [] (consA (getV i) (nilA)))) (nilA))) F en S = .ok (.str (tellS (toldD fu z))) S := by
  have lk : lenOk z.length = true := decide_eq_true (by omega)
  have h : run fu 59 21 [.str z] F S = .ok (.loc (F.length + S.length)) (S ++ [.lst (toldD fu z)]) := l_told (k := 28) lk hf
  have r := repr_told (fu := fu) (F := F) (L := S ++ [.lst (toldD fu z)]) (m := F.length + S.length) hz lst_end
  simp only [gcE, cbM, consA, callM, moreA, getV, ei, R.bind, nilA, List.append_nil, callR, List.length_cons, List.length_nil, Nat.reduceAdd, if_true, h, r]
  exact cut_pre rfl hc
theorem due_repr {en : En} {i : Nat} {z : Str} {S : Sto} (hc : Cl S) (hz : z.length ≤ 50000) (hf : z.length < fu) (hb : NoBad z) (ei : en[i]? = some (.d (.str z))) :
    gcE (cbM reprG (consA (callM .keep 1 (run fu 59 20) (moreA [] (consA (getV i) (nilA)))) (nilA))) F en S = .ok (.str (tellS (toldD fu z))) S := by
  have lk : lenOk z.length = true := decide_eq_true (by omega)
  obtain ⟨J, h⟩ : Tl F S (toldD fu z) (run fu 59 20 [.str z] F S) := l_due (k := 32) lk hz hf hb
  have r := repr_told (fu := fu) (F := F) (L := S ++ J ++ [.lst (toldD fu z)]) (m := F.length + S.length + J.length) hz (by
    have := lst_end (F := F) (A := S ++ J) (acc := toldD fu z)
    rw [List.length_append, ← Nat.add_assoc] at this
    exact this)
  simp only [gcE, cbM, consA, callM, moreA, getV, ei, R.bind, nilA, List.append_nil, callR, List.length_cons, List.length_nil, Nat.reduceAdd, if_true, h, r]
  rw [List.append_assoc]
  exact cut_pre rfl hc
theorem cutS_le (z : Str) (lo hi : Option Int) : (cutS z lo hi).length ≤ z.length := by
  unfold cutS
  show (List.toArray _).size ≤ z.length
  rw [List.size_toArray, List.length_take, List.length_drop]
  have : z.cps.toList.length = z.length := Array.length_toList
  omega
def signs : List D := [.str (Str.ofString ""), .str (Str.ofString " "), .str (Str.ofString "("), .str (Str.ofString ")"), .str (Str.ofString "-"), .str (Str.ofString "0"), .str (Str.ofString "7"), .str (Str.ofString "a"), .str (Str.ofString "."), .str (Str.ofString "A"), .str (Str.ofString "_"), .str (Str.ofString "\t")]
theorem signs_one : ∀ d ∈ signs, ∃ w : Str, d = .str w ∧ w.length ≤ 1 := by
  intro d hd
  simp only [signs, List.mem_cons, List.not_mem_nil, or_false] at hd
  rcases hd with rfl | rfl | rfl | rfl | rfl | rfl | rfl | rfl | rfl | rfl | rfl | rfl
  all_goals exact ⟨_, rfl, by decide +kernel⟩
theorem k_body {s0 s2 s3 s4 s6 s7 s8 s9 s10 s11 s12 s13 : Sl} {z : Str} (hz : z.length ≤ 2000) (hf : 50000 < fu) (hq : q < L.length) (hc : Cl L) (hx : Dr xs) :
    ∃ xs' x7 x8 x9 x10, Dr xs' ∧ kB (run fu 59) F [s0, .d (.loc (F.length + q)), s2, s3, s4, .d (.str z), s6, s7, s8, s9, s10, s11, s12, s13] (L.set q (.lst xs)) = .nx [s0, .d (.loc (F.length + q)), s2, s3, s4, .d (.str z), s6, x7, x8, x9, x10, s11, s12, s13] ((L ++ [MO.lst signs]).set q (.lst xs')) := by
  have lz : lenOk z.length = true := decide_eq_true (by omega)
  -- at
  obtain ⟨i1, xs1, i10, i11, hx1, e1⟩ := m_next (fu := fu) (k := 58) (F := F) (L := L) (v := 1) (q := q) (xs := xs) (en := [s0, .d (.loc (F.length + q)), s2, s3, s4, .d (.str z), s6, s7, s8, s9, s10, s11, s12, s13]) rfl hq hc hx
  have a1 : asgS (op2 modO (cbM intG (consA (callM .gc 1 (run fu 59 12) (moreA [] (consA (getV 1) (nilA)))) (nilA))) (op2 addO (cbM lenG (consA (getV 5) (nilA))) (cM (.int 1)))) (nameG 7) F [s0, .d (.loc (F.length + q)), s2, s3, s4, .d (.str z), s6, s7, s8, s9, s10, s11, s12, s13] (L.set q (.lst xs)) = .nx [s0, .d (.loc (F.length + q)), s2, s3, s4, .d (.str z), s6, .d (.int (i1 % ((z.length : Int) + 1))), s8, s9, s10, s11, s12, s13] (L.set q (.lst xs1)) := by
    have nx : cbM intG (consA (callM .gc 1 (run fu 59 12) (moreA [] (consA (getV 1) (nilA)))) nilA) F [s0, .d (.loc (F.length + q)), s2, s3, s4, .d (.str z), s6, s7, s8, s9, s10, s11, s12, s13] (L.set q (.lst xs)) = .ok (.int i1) (L.set q (.lst xs1)) := by
      rw [cbM, consA]
      rw [show callM .gc 1 (run fu 59 12) (moreA [] (consA (getV 1) nilA)) F _ (L.set q (.lst xs)) = _ from e1]
      rfl
    have dp : decide ((0 : Int) < (z.length : Int) + 1) = true := decide_eq_true (by omega)
    have ln := len_str (F := F) (L := L.set q (.lst xs1)) lz (en := [s0, .d (.loc (F.length + q)), s2, s3, s4, .d (.str z), s6, s7, s8, s9, s10, s11, s12, s13]) (i := 5) rfl
    rw [asgS, op2, nx]
    simp only [R.bind, op2, ln, cM, addO, modO, intC, dp, if_true, R.toS, nameG, List.set_cons_succ, List.set_cons_zero]
  -- cut
  obtain ⟨i2, xs2, i20, i21, hx2, e2⟩ : ∃ i xs', 0 ≤ i ∧ i < 2 ∧ Dr xs' ∧ op2 modO (cbM intG (consA (callM .gc 1 (run fu 59 12) (moreA [] (consA (getV 1) (nilA)))) (nilA))) (cM (.int 2)) F [s0, .d (.loc (F.length + q)), s2, s3, s4, .d (.str z), s6, .d (.int (i1 % ((z.length : Int) + 1))), s8, s9, s10, s11, s12, s13] (L.set q (.lst xs1)) = .ok (.int i) (L.set q (.lst xs')) := m_mod (fu := fu) (k := 58) (v := 1) (by decide) rfl hq hc hx1
  have a2 : asgS (op2 modO (cbM intG (consA (callM .gc 1 (run fu 59 12) (moreA [] (consA (getV 1) (nilA)))) (nilA))) (cM (.int 2))) (nameG 8) F [s0, .d (.loc (F.length + q)), s2, s3, s4, .d (.str z), s6, .d (.int (i1 % ((z.length : Int) + 1))), s8, s9, s10, s11, s12, s13] (L.set q (.lst xs1)) = .nx [s0, .d (.loc (F.length + q)), s2, s3, s4, .d (.str z), s6, .d (.int (i1 % ((z.length : Int) + 1))), .d (.int i2), s9, s10, s11, s12, s13] (L.set q (.lst xs2)) := by
    rw [asgS, e2]
    rfl
  -- sign
  have hcl : Cl (L ++ [MO.lst signs]) := cl_app hc (cl_gd (j := 0) fun d hd n => by obtain ⟨w, rfl, _⟩ := signs_one d hd; rfl)
  obtain ⟨d, xs3, hd, hx3, e3⟩ : ∃ d xs', d ∈ signs ∧ Dr xs' ∧ run fu 59 14 [.loc (F.length + q), .loc (F.length + L.length)] F ((L ++ [MO.lst signs]).set q (.lst xs2)) = .ok d ((L ++ [MO.lst signs]).set q (.lst xs')) :=
    l_pick (fu := fu) (k := 57) (by rw [List.length_append]; omega) hcl hx2 (by omega) (by simp) (by decide)
  obtain ⟨w, rfl, hw⟩ := signs_one d hd
  have len : ∀ zs, (L.set q (.lst zs)).length = L.length := fun zs => List.length_set ..
  have ll : lstM (consA (cM (.str (Str.ofString ""))) (consA (cM (.str (Str.ofString " "))) (consA (cM (.str (Str.ofString "("))) (consA (cM (.str (Str.ofString ")"))) (consA (cM (.str (Str.ofString "-"))) (consA (cM (.str (Str.ofString "0"))) (consA (cM (.str (Str.ofString "7"))) (consA (cM (.str (Str.ofString "a"))) (consA (cM (.str (Str.ofString "."))) (consA (cM (.str (Str.ofString "A"))) (consA (cM (.str (Str.ofString "_"))) (consA (cM (.str (Str.ofString "\t"))) (nilA))))))))))))) F [s0, .d (.loc (F.length + q)), s2, s3, s4, .d (.str z), s6, .d (.int (i1 % ((z.length : Int) + 1))), .d (.int i2), s9, s10, s11, s12, s13] (L.set q (.lst xs2)) = .ok (.loc (F.length + L.length)) (L.set q (.lst xs2) ++ [.lst signs]) := by
    have l12 : lenOk 12 = true := rfl
    simp only [lstM, consA, cM, R.bind, nilA, List.length_cons, List.length_nil, Nat.reduceAdd, l12, if_true, newO, len]
    rfl
  have ct := cut_ok (i := F.length + ((L ++ [MO.lst signs]).set q (.lst xs2)).length) (j := ((L ++ [MO.lst signs]).set q (.lst xs2)).length) (d := .str w) rfl (by rw [List.length_set, List.length_set]; exact Nat.le_refl _) (cl_set (q := q) hcl hx3)
  rw [List.take_of_length_le (by rw [List.length_set, List.length_set]; exact Nat.le_refl _)] at ct
  have a3 : asgS (callM .gc 2 (run fu 59 14) (moreA [] (consA (getV 1) (consA (lstM (consA (cM (.str (Str.ofString ""))) (consA (cM (.str (Str.ofString " "))) (consA (cM (.str (Str.ofString "("))) (consA (cM (.str (Str.ofString ")"))) (consA (cM (.str (Str.ofString "-"))) (consA (cM (.str (Str.ofString "0"))) (consA (cM (.str (Str.ofString "7"))) (consA (cM (.str (Str.ofString "a"))) (consA (cM (.str (Str.ofString "."))) (consA (cM (.str (Str.ofString "A"))) (consA (cM (.str (Str.ofString "_"))) (consA (cM (.str (Str.ofString "\t"))) (nilA)))))))))))))) (nilA))))) (nameG 9) F [s0, .d (.loc (F.length + q)), s2, s3, s4, .d (.str z), s6, .d (.int (i1 % ((z.length : Int) + 1))), .d (.int i2), s9, s10, s11, s12, s13] (L.set q (.lst xs2)) = .nx [s0, .d (.loc (F.length + q)), s2, s3, s4, .d (.str z), s6, .d (.int (i1 % ((z.length : Int) + 1))), .d (.int i2), .d (.str w), s10, s11, s12, s13] ((L ++ [MO.lst signs]).set q (.lst xs3)) := by
    rw [asgS, callM, moreA, consA]
    simp only [getV, List.getElem?_cons_succ, List.getElem?_cons_zero, R.bind]
    rw [consA, ll]
    rw [← set_end hq]
    simp only [R.bind, nilA, List.append_nil, callR, List.length_cons, List.length_nil, Nat.reduceAdd, if_true, e3, ct, R.toS, nameG, List.set_cons_succ, List.set_cons_zero]
  generalize hS : (L ++ [MO.lst signs]).set q (.lst xs3) = S at a3
  have hcS : Cl S := by subst hS; exact cl_set hcl hx3
  -- spoilt
  have ap : ∀ a b : Str, (a ++ b).length = a.length + b.length := fun a b => Array.size_append ..
  generalize hA : cutS z none (some (i1 % ((z.length : Int) + 1))) = p1
  generalize hB : cutS z (some (i1 % ((z.length : Int) + 1) + i2)) none = p2
  have b1 : p1.length ≤ z.length := by subst hA; exact cutS_le _ _ _
  have b2 : p2.length ≤ z.length := by subst hB; exact cutS_le _ _ _
  have k1 : lenOk (p1.length + w.length) = true := decide_eq_true (by omega)
  have k2 : lenOk ((p1 ++ w).length + p2.length) = true := decide_eq_true (by rw [ap]; omega)
  have a4 : asgS (op2 addO (op2 addO (slM (getV 5) (noP) (someP (getV 7))) (getV 9)) (slM (getV 5) (someP (op2 addO (getV 7) (getV 8))) (noP))) (nameG 10) F [s0, .d (.loc (F.length + q)), s2, s3, s4, .d (.str z), s6, .d (.int (i1 % ((z.length : Int) + 1))), .d (.int i2), .d (.str w), s10, s11, s12, s13] S = .nx [s0, .d (.loc (F.length + q)), s2, s3, s4, .d (.str z), s6, .d (.int (i1 % ((z.length : Int) + 1))), .d (.int i2), .d (.str w), .d (.str (p1 ++ w ++ p2)), s11, s12, s13] S := by
    simp only [asgS, op2, slM, getV, List.getElem?_cons_succ, List.getElem?_cons_zero, R.bind, noP, someP, slO, lz, if_true, hA, addO, k1, hB, k2, R.toS, nameG, List.set_cons_succ, List.set_cons_zero]
  have b3 : (p1 ++ w ++ p2).length ≤ 5000 := by rw [ap, ap]; omega
  generalize p1 ++ w ++ p2 = y at a4 b3
  have t1 := told_repr (fu := fu) (F := F) (en := [s0, .d (.loc (F.length + q)), s2, s3, s4, .d (.str z), s6, .d (.int (i1 % ((z.length : Int) + 1))), .d (.int i2), .d (.str w), .d (.str y), s11, s12, s13]) (i := 10) (z := y) hcS (by omega) (by omega) rfl
  refine ⟨xs3, .d (.int (i1 % ((z.length : Int) + 1))), .d (.int i2), .d (.str w), .d (.str y), hx3, ?_⟩
  unfold kB
  rw [seqS, a1, next_nx, seqS, a2, next_nx, seqS, a3, next_nx, seqS, a4, next_nx]
  have nb : tstM (op2 (inO true) (cM (.str (Str.ofString "bad"))) (getV 10)) F [s0, .d (.loc (F.length + q)), s2, s3, s4, .d (.str z), s6, .d (.int (i1 % ((z.length : Int) + 1))), .d (.int i2), .d (.str w), .d (.str y), s11, s12, s13] S = .ok (Builtin.Str.occurrences y (Str.ofString "bad") 0 y.length 1).isEmpty S := by
    have e : inO true F (.str (Str.ofString "bad")) (.str y) S = .ok (.bl (Builtin.Str.occurrences y (Str.ofString "bad") 0 y.length 1).isEmpty) S := by
      show R.ok (D.bl (!(!(Builtin.Str.occurrences y (Str.ofString "bad") 0 y.length 1).isEmpty))) S = _
      rw [Bool.not_not]
    simp only [tstM, op2, cM, R.bind, getV, List.getElem?_cons_succ, List.getElem?_cons_zero, e, asB]
  have cond : MI.andM (tstM (op2 (inO true) (cM (.str (Str.ofString "bad"))) (getV 10))) (tstM (op2 neO (gcE (cbM reprG (consA (callM .keep 1 (run fu 59 21) (moreA [] (consA (getV 10) (nilA)))) (nilA)))) (gcE (cbM reprG (consA (callM .keep 1 (run fu 59 20) (moreA [] (consA (getV 10) (nilA)))) (nilA)))))) F [s0, .d (.loc (F.length + q)), s2, s3, s4, .d (.str z), s6, .d (.int (i1 % ((z.length : Int) + 1))), .d (.int i2), .d (.str w), .d (.str y), s11, s12, s13] S = .ok false S := by
    cases hO : (Builtin.Str.occurrences y (Str.ofString "bad") 0 y.length 1).isEmpty with
    | false =>
      rw [hO] at nb
      simp only [MI.andM, nb, R.bind, Bool.false_eq_true, if_false]
    | true =>
      rw [hO] at nb
      have t2 := due_repr (fu := fu) (F := F) (en := [s0, .d (.loc (F.length + q)), s2, s3, s4, .d (.str z), s6, .d (.int (i1 % ((z.length : Int) + 1))), .d (.int i2), .d (.str w), .d (.str y), s11, s12, s13]) (i := 10) (z := y) hcS (by omega) (by omega) (noBad_of hO) rfl
      simp only [MI.andM, nb, R.bind, if_true]
      rw [tstM, op2, t1]
      simp only [R.bind, t2, neO, decide_true, Bool.not_true, asB]
  rw [if_f cond, hS]
end
end K20
end SP32
section SP33
set_option Elab.async false
set_option linter.all false
set_option maxRecDepth 100000
set_option maxHeartbeats 4000000
namespace K20
open PySem L2 MI
section
variable {fu : Nat} {F : Sto} {q : Nat}
theorem if_g {cc : TM} {A : SM} {S S' : Sto} {en : En} (h : cc F en S = .ok false S') : ifS cc A nilS F en S = .nx en S' := by
  simp only [ifS, h, R.toS, Bool.false_eq_true, if_false, nilS]
theorem signs_cl : Cl [MO.lst signs] := cl_gd (j := 0) fun d hd n => by obtain ⟨w, rfl, _⟩ := signs_one d hd; rfl
theorem k_loop {s0 s2 s3 s4 s11 s12 s13 : Sl} {z : Str} {N : Nat} (hz : z.length ≤ 2000) (hf : 50000 < fu) : ∀ (m : Nat) (L : Sto) (xs : List D) (s6 s7 s8 s9 s10 : Sl), q < L.length → Cl L → Dr xs →
    ∃ xs' A x6 x7 x8 x9 x10, Dr xs' ∧ Cl A ∧ MI.forM (rngSrc 0 N) (nameG 6) (kB (run fu 59)) F m [s0, .d (.loc (F.length + q)), s2, s3, s4, .d (.str z), s6, s7, s8, s9, s10, s11, s12, s13] (L.set q (.lst xs)) = .nx [s0, .d (.loc (F.length + q)), s2, s3, s4, .d (.str z), x6, x7, x8, x9, x10, s11, s12, s13] ((L ++ A).set q (.lst xs'))
  | 0, L, xs, s6, s7, s8, s9, s10, hq, hc, hx => ⟨xs, [], s6, s7, s8, s9, s10, hx, cl_nil, by rw [List.append_nil]; rfl⟩
  | m + 1, L, xs, s6, s7, s8, s9, s10, hq, hc, hx => by
    obtain ⟨xs1, y7, y8, y9, y10, h1, h2⟩ := k_body (fu := fu) (F := F) (L := L) (q := q) (xs := xs) (s0 := s0) (s2 := s2) (s3 := s3) (s4 := s4) (s6 := .d (.int (0 + ((N - (m + 1) : Nat) : Int)))) (s7 := s7) (s8 := s8) (s9 := s9) (s10 := s10) (s11 := s11) (s12 := s12) (s13 := s13) hz hf hq hc hx
    obtain ⟨xs', A, x6, x7, x8, x9, x10, g1, g2, g3⟩ := k_loop (N := N) (s0 := s0) (s2 := s2) (s3 := s3) (s4 := s4) (s11 := s11) (s12 := s12) (s13 := s13) hz hf m (L ++ [.lst signs]) xs1 (.d (.int (0 + ((N - (m + 1) : Nat) : Int)))) y7 y8 y9 y10 (by rw [List.length_append]; omega) (cl_app hc signs_cl) h1
    refine ⟨xs', [.lst signs] ++ A, x6, x7, x8, x9, x10, g1, cl_app signs_cl g2, ?_⟩
    unfold MI.forM
    simp only [rngSrc, nameG, List.set_cons_succ, List.set_cons_zero, SR.next, h2, turnK]
    rw [← List.append_assoc]
    exact g3
theorem t_body {L : Sto} {xs : List D} {s0 s2 s3 s4 s5 s6 s7 s8 s9 s10 s11 s12 s13 : Sl} (hf : 50000 < fu) (hq : q < L.length) (hc : Cl L) (hx : Dr xs) :
    ∃ xs' A x4 x5 x6 x7 x8 x9 x10, Dr xs' ∧ Cl A ∧ tB (run fu 59) F [s0, .d (.loc (F.length + q)), s2, s3, s4, s5, s6, s7, s8, s9, s10, s11, s12, s13] (L.set q (.lst xs)) = .nx [s0, .d (.loc (F.length + q)), s2, s3, x4, x5, x6, x7, x8, x9, x10, s11, s12, s13] ((L ++ A).set q (.lst xs')) := by
  have len : ∀ zs, (L.set q (.lst zs)).length = L.length := fun zs => List.length_set ..
  -- the term
  obtain ⟨d, xs1, T, gd, hx1, hT, e1⟩ : ∃ d xs' T, Gd 4 d ∧ Dr xs' ∧ Cl T ∧ run fu 59 15 [.loc (F.length + q), .int 0] F (L.set q (.lst xs)) = .ok d (L.set q (.lst xs') ++ T) := l_term_draw (k := 52) 4 0 L xs rfl hq hc hx
  obtain ⟨t, ht⟩ := gd.tx
  have tl : t.length ≤ 2000 := Nat.le_trans (gd_len gd t ht) (by decide +kernel)
  generalize hS : L.set q (.lst xs1) = S at e1
  have hcS : Cl S := by subst hS; exact cl_set hc hx1
  have lenS : S.length = L.length := by subst hS; exact len _
  have a1 : asgS (callM .gc 2 (run fu 59 15) (moreA [] (consA (getV 1) (consA (cM (.int 0)) (nilA))))) (nameG 4) F [s0, .d (.loc (F.length + q)), s2, s3, s4, s5, s6, s7, s8, s9, s10, s11, s12, s13] (L.set q (.lst xs)) = .nx [s0, .d (.loc (F.length + q)), s2, s3, .d d, s5, s6, s7, s8, s9, s10, s11, s12, s13] S := by
    have ct := cut_pre (n := F.length + S.length) (S := S) (J := T) (d := d) (gd.lt _) hcS
    simp only [asgS, callM, moreA, consA, getV, List.getElem?_cons_succ, List.getElem?_cons_zero, R.bind, cM, nilA, List.append_nil, callR, List.length_cons, List.length_nil, Nat.reduceAdd, if_true, e1, len, ← lenS, ct, R.toS, nameG, List.set_cons_succ, List.set_cons_zero]
  -- its text
  have e2 : run fu 59 16 [d] (F ++ S) [] = .ok (.str (mkS t)) [] := l_ltext 4 (by decide) gd.dt 53 (F ++ S) t ht
  have a2 : asgS (callM .pure 1 (run fu 59 16) (moreA [] (consA (getV 4) (nilA)))) (nameG 5) F [s0, .d (.loc (F.length + q)), s2, s3, .d d, s5, s6, s7, s8, s9, s10, s11, s12, s13] S = .nx [s0, .d (.loc (F.length + q)), s2, s3, .d d, .d (.str (mkS t)), s6, s7, s8, s9, s10, s11, s12, s13] S := by
    simp only [asgS, callM, moreA, consA, getV, List.getElem?_cons_succ, List.getElem?_cons_zero, R.bind, nilA, List.append_nil, callR, List.length_cons, List.length_nil, Nat.reduceAdd, if_true, e2, pureR, D.lt, R.toS, nameG, List.set_cons_succ, List.set_cons_zero]
  -- term_text says the same
  have e3 : run fu 59 1 [d] (F ++ S) [] = .ok (.str (mkS t)) [] := by
    have := l_tt (fu := fu) 4 (by decide) gd.dt 53 (F ++ S)
    rw [ht] at this
    exact this
  have c1 : tstM (op2 neO (callM .pure 1 (run fu 59 1) (moreA [] (consA (getV 4) (nilA)))) (getV 5)) F [s0, .d (.loc (F.length + q)), s2, s3, .d d, .d (.str (mkS t)), s6, s7, s8, s9, s10, s11, s12, s13] S = .ok false S := by
    simp only [tstM, op2, callM, moreA, consA, getV, List.getElem?_cons_succ, List.getElem?_cons_zero, R.bind, nilA, List.append_nil, callR, List.length_cons, List.length_nil, Nat.reduceAdd, if_true, e3, pureR, D.lt, neO, decide_true, Bool.not_true, asB]
  -- what is told of the text
  obtain ⟨rg, sl⟩ := read_good (fu := fu) (j := 4) (by decide) gd ht (by omega)
  have zl : (mkS t).length = t.length := mk_len t
  have t1 := told_repr (fu := fu) (F := F) (en := [s0, .d (.loc (F.length + q)), s2, s3, .d d, .d (.str (mkS t)), s6, s7, s8, s9, s10, s11, s12, s13]) (i := 5) (z := mkS t) hcS (by omega) (by omega) rfl
  have td : toldD fu (mkS t) = [.str (Str.ofString "term"), d] := by unfold toldD; rw [rg]
  rw [td] at t1
  have t2 : gcE (cbM reprG (consA (lstM (consA (cM (.str (Str.ofString "term"))) (consA (getV 4) (nilA)))) (nilA))) F [s0, .d (.loc (F.length + q)), s2, s3, .d d, .d (.str (mkS t)), s6, s7, s8, s9, s10, s11, s12, s13] S = .ok (.str (tellS [.str (Str.ofString "term"), d])) S := by
    have r := repr_pair (F := F) (L := S ++ [.lst [.str (Str.ofString "term"), d]]) (m := F.length + S.length) (s := 3) (w := Str.ofString "term") (d := d) lst_end w_term (by decide +kernel) (gd.tm.up (by decide)) gd.sz (by decide) (by omega)
    have l2 : lenOk 2 = true := rfl
    simp only [gcE, cbM, consA, lstM, cM, R.bind, getV, List.getElem?_cons_succ, List.getElem?_cons_zero, nilA, List.length_cons, List.length_nil, Nat.reduceAdd, l2, if_true, newO, r]
    exact cut_pre rfl hcS
  have c2 : MI.orM (tstM (op2 neO (callM .pure 1 (run fu 59 1) (moreA [] (consA (getV 4) (nilA)))) (getV 5))) (tstM (op2 neO (gcE (cbM reprG (consA (callM .keep 1 (run fu 59 21) (moreA [] (consA (getV 5) (nilA)))) (nilA)))) (gcE (cbM reprG (consA (lstM (consA (cM (.str (Str.ofString "term"))) (consA (getV 4) (nilA)))) (nilA)))))) F [s0, .d (.loc (F.length + q)), s2, s3, .d d, .d (.str (mkS t)), s6, s7, s8, s9, s10, s11, s12, s13] S = .ok false S := by
    simp only [MI.orM, c1, R.bind, Bool.false_eq_true, if_false]
    rw [tstM, op2, t1]
    simp only [R.bind, t2, neO, decide_true, Bool.not_true, asB]
  -- the tuple's list
  have c3 : ∃ B, Cl B ∧ MI.andM (truM (cbM isiG (consA (getV 4) (consA (cM (.ty "tuple")) (nilA))))) (tstM (op2 neO (callM .pure 1 (run fu 59 1) (moreA [] (consA (cbM listG (consA (getV 4) (nilA))) (nilA)))) (getV 5))) F [s0, .d (.loc (F.length + q)), s2, s3, .d d, .d (.str (mkS t)), s6, s7, s8, s9, s10, s11, s12, s13] S = .ok false (S ++ B) := by
    cases gd with
    | non => exact ⟨[], cl_nil, by rw [List.append_nil]; rfl⟩
    | int _ => exact ⟨[], cl_nil, by rw [List.append_nil]; rfl⟩
    | str _ _ _ => exact ⟨[], cl_nil, by rw [List.append_nil]; rfl⟩
    | @tup _ ds hl hd =>
      have e' : (ttL ds).map (fun ts => 40 :: (TL.joinL [32] ts ++ [41])) = some t := by unfold tt at ht; exact ht
      rw [ttL_eq] at e'
      cases em : ds.mapM tt with
      | none => rw [em] at e'; cases e'
      | some ts =>
        rw [em] at e'
        cases e'
        refine ⟨[.lst ds], cl_gd (j := 0) fun d h n => (hd d h).lt n, ?_⟩
        have ti : truM (cbM isiG (consA (getV 4) (consA (cM (.ty "tuple")) (nilA)))) F [s0, .d (.loc (F.length + q)), s2, s3, .d (.tup ds), .d (.str (mkS (40 :: (TL.joinL [32] ts ++ [41])))), s6, s7, s8, s9, s10, s11, s12, s13] S = .ok true S := rfl
        have e4 : run fu 59 1 [.loc (F.length + S.length)] (F ++ (S ++ [.lst ds])) [] = .ok (.str (mkS (40 :: (TL.joinL [32] ts ++ [41])))) [] := l_tt_list (fu := fu) (k := 53) (j := 3) (by decide) (at_q (by simp)) hl (fun d h => (hd d h).dt) em
        simp only [MI.andM, ti, R.bind, if_true, tstM, op2, callM, moreA, consA, cbM, getV, List.getElem?_cons_succ, List.getElem?_cons_zero, nilA, listG, itemsD, newO, List.append_nil, callR, List.length_cons, List.length_nil, Nat.reduceAdd, e4, pureR, D.lt, neO, decide_true, Bool.not_true, asB]
  obtain ⟨B, hB, c3⟩ := c3
  -- the spoilt texts
  have rg5 : ∀ en S, rng1I (consA (cM (.int 5)) nilA) F en S = .ok (rngSrc 0 5) S := fun _ _ => rfl
  have eS : S ++ B = (L ++ B).set q (.lst xs1) := by rw [set_app hq, hS]
  obtain ⟨xs', A, x6, x7, x8, x9, x10, g1, g2, g3⟩ := k_loop (fu := fu) (F := F) (q := q) (N := 5) (s0 := s0) (s2 := s2) (s3 := s3) (s4 := .d d) (s11 := s11) (s12 := s12) (s13 := s13) (z := mkS t) (by omega) hf 5 (L ++ B) xs1 s6 s7 s8 s9 s10 (by rw [List.length_append]; omega) (cl_app hc hB) hx1
  refine ⟨xs', B ++ A, .d d, .d (.str (mkS t)), x6, x7, x8, x9, x10, g1, cl_app hB g2, ?_⟩
  unfold tB
  rw [seqS, a1, next_nx, seqS, a2, next_nx, seqS, if_f c2, next_nx, seqS, if_g c3, next_nx, eS, forS, rg5, ← List.append_assoc]
  exact g3
theorem t_loop {s0 s2 s11 s12 s13 : Sl} {N : Nat} (hf : 50000 < fu) : ∀ (m : Nat) (L : Sto) (xs : List D) (s3 s4 s5 s6 s7 s8 s9 s10 : Sl), q < L.length → Cl L → Dr xs →
    ∃ xs' A x3 x4 x5 x6 x7 x8 x9 x10, Dr xs' ∧ Cl A ∧ MI.forM (rngSrc 0 N) (nameG 3) (tB (run fu 59)) F m [s0, .d (.loc (F.length + q)), s2, s3, s4, s5, s6, s7, s8, s9, s10, s11, s12, s13] (L.set q (.lst xs)) = .nx [s0, .d (.loc (F.length + q)), s2, x3, x4, x5, x6, x7, x8, x9, x10, s11, s12, s13] ((L ++ A).set q (.lst xs'))
  | 0, L, xs, s3, s4, s5, s6, s7, s8, s9, s10, hq, hc, hx => ⟨xs, [], s3, s4, s5, s6, s7, s8, s9, s10, hx, cl_nil, by rw [List.append_nil]; rfl⟩
  | m + 1, L, xs, s3, s4, s5, s6, s7, s8, s9, s10, hq, hc, hx => by
    obtain ⟨xs1, B, y4, y5, y6, y7, y8, y9, y10, h1, h3, h2⟩ := t_body (fu := fu) (F := F) (L := L) (q := q) (xs := xs) (s0 := s0) (s2 := s2) (s3 := .d (.int (0 + ((N - (m + 1) : Nat) : Int)))) (s4 := s4) (s5 := s5) (s6 := s6) (s7 := s7) (s8 := s8) (s9 := s9) (s10 := s10) (s11 := s11) (s12 := s12) (s13 := s13) hf hq hc hx
    obtain ⟨xs', A, x3, x4, x5, x6, x7, x8, x9, x10, g1, g2, g3⟩ := t_loop (N := N) (s0 := s0) (s2 := s2) (s11 := s11) (s12 := s12) (s13 := s13) hf m (L ++ B) xs1 (.d (.int (0 + ((N - (m + 1) : Nat) : Int)))) y4 y5 y6 y7 y8 y9 y10 (by rw [List.length_append]; omega) (cl_app hc h3) h1
    refine ⟨xs', B ++ A, x3, x4, x5, x6, x7, x8, x9, x10, g1, cl_app h3 g2, ?_⟩
    unfold MI.forM
    simp only [rngSrc, nameG, List.set_cons_succ, List.set_cons_zero, SR.next, h2, turnK]
    rw [← List.append_assoc]
    exact g3
end
end K20
end SP33
section SP34
set_option Elab.async false
set_option linter.all false
set_option maxRecDepth 100000
set_option maxHeartbeats 4000000
namespace K20
open PySem L2 MI
theorem nines : ∀ n : Nat, TL.numL (10 ^ (n + 1) - 1) = List.replicate (n + 1) 57
  | 0 => TL.numL_lt (n := 9) (by decide)
  | n + 1 => by
    have hp : 1 ≤ 10 ^ (n + 1) := Nat.pow_pos (by decide)
    have e : 10 ^ (n + 1 + 1) = 10 ^ (n + 1) * 10 := Nat.pow_succ ..
    have h10 : 10 ≤ 10 ^ (n + 1 + 1) - 1 := by
      have : 10 ≤ 10 ^ (n + 1) := by
        rw [Nat.pow_succ]
        have : 1 ≤ 10 ^ n := Nat.pow_pos (by decide)
        omega
      omega
    rw [TL.numL_step h10, show (10 ^ (n + 1 + 1) - 1) / 10 = 10 ^ (n + 1) - 1 by omega, show (10 ^ (n + 1 + 1) - 1) % 10 = 9 by omega, nines n]
    show List.replicate (n + 1) 57 ++ [57] = _
    rw [← List.replicate_succ']
theorem fold_rep {c : Nat} : ∀ (n : Nat) (a : Array Nat), ((List.replicate n #[c]).foldl (fun x y => x ++ y) a).toList = a.toList ++ List.replicate n c
  | 0, a => by simp
  | n + 1, a => by
    rw [List.replicate_succ, List.foldl_cons, fold_rep n]
    simp [List.replicate_succ]
theorem mul_rep {s : Str} {c n : Nat} (hs : s = ⟨#[c]⟩) (hn : 2 ≤ n) : Txt.mul s (n : Int) = mkS (List.replicate n c) := by
  subst hs
  unfold Txt.mul
  have c1 : ¬ ((n : Int) < 1) := by omega
  have c2 : (((n : Int) == 1) || ((⟨#[c]⟩ : Str).length == 0)) = false := by
    rw [Bool.or_eq_false_iff]
    exact ⟨beq_eq_false_iff_ne.mpr (by omega), rfl⟩
  rw [if_neg c1, c2, if_neg Bool.false_ne_true]
  refine TL.ext_tl ?_
  show ((List.replicate ((n : Int).toNat) #[c]).foldl (fun x y => x ++ y) #[]).toList = List.replicate n c
  rw [Int.toNat_natCast, fold_rep]
  rfl
section
variable {fu : Nat} {F S : Sto}
theorem l_refused {j k : Nat} (hj : j ≤ 6) {d : D} (h : Dt j d) (F : Sto) : ∃ L', run fu (k + j + 3) 22 [d] F [] = .ok (.bl (tt d).isNone) L' := by
  have z := l_tt (fu := fu) j hj h k (F ++ [])
  have st : startD 1 [d] = [.d d] := rfl
  show ∃ L', defM 1 (b_22 fu (run fu (k + j + 2))) [d] F [] = _
  cases e : tt d with
  | some t =>
    rw [e] at z
    refine ⟨[], ?_⟩
    rw [defM, st, b_22]
    simp only [tryS, seqS, dropS, callM, moreA, consA, getV, List.getElem?_cons_zero, R.bind, nilA, List.append_nil, callR, List.length_cons, List.length_nil, Nat.reduceAdd, if_true]
    rw [List.append_nil] at z
    simp only [z, pureR, D.lt, if_true, R.toS, SR.next, retS, cM, SR.fin]
    rfl
  | none =>
    rw [e] at z
    obtain ⟨L', z⟩ := z
    refine ⟨[], ?_⟩
    have lt : D.ltE (F.length + 0) xNo = true := rfl
    rw [defM, st, b_22]
    rw [List.append_nil] at z
    simp only [tryS, seqS, dropS, callM, moreA, consA, getV, List.getElem?_cons_zero, R.bind, nilA, List.append_nil, callR, List.length_cons, List.length_nil, Nat.reduceAdd, if_true, z, pureR, lt, R.toS, SR.next]
    simp only [xNo, bel_BadNumber, retS, cM, R.toS, outS, SR.fin]
    rfl
/-- a comprehension over a list, its parts touching nothing -/
theorem lc_list {P : D → Prop} {src : Src} {ds : List D} {i : Nat} {fe : EM} {en : En} {φ : D → D} (hnum : src.num = ds.length) (hit : ∀ J i, src.item i (F ++ (S ++ J)) = ds[i]?) (hfin : ∀ J, src.fin (F ++ (S ++ J)) = true)
    (hP : ∀ x ∈ ds, P (φ x)) (hfe : ∀ x ∈ ds, ∀ acc, (∀ d ∈ acc, P d) → fe F (en.set i (.d x)) (S ++ [.lst acc]) = .ok (φ x) (S ++ [.lst acc])) (hl : ds.length ≤ 1000) : ∀ (m : Nat) (acc : List D), acc.length + m = ds.length → (∀ d ∈ acc, P d) →
      lcGo src (nameG i) yesM fe (F.length + S.length) F en m (S ++ [.lst acc]) = .ok (.loc (F.length + S.length)) (S ++ [.lst (acc ++ (ds.drop acc.length).map φ)])
  | 0, acc, h, _ => by
    have e : ds.drop acc.length = [] := List.drop_eq_nil_of_le (by omega)
    rw [e]
    unfold lcGo
    rw [hfin, if_pos rfl]
    show _ = R.ok (D.loc (F.length + S.length)) (S ++ [.lst (acc ++ [])])
    rw [List.append_nil]
  | m + 1, acc, h, ha => by
    have hlt : acc.length < ds.length := by omega
    have e : ds.drop acc.length = ds[acc.length] :: ds.drop (acc.length + 1) := List.drop_eq_getElem_cons hlt
    have hi : src.item (src.num - (m + 1)) (F ++ (S ++ [.lst acc])) = some ds[acc.length] := by
      rw [hit, hnum, show ds.length - (m + 1) = acc.length by omega, List.getElem?_eq_getElem hlt]
    have hm := List.getElem_mem hlt
    have hf := hfe _ hm acc ha
    have la := lst_end (F := F) (A := S) (acc := acc)
    have ow : ownL F (S ++ [.lst acc]) (.loc (F.length + S.length)) = some (F.length + S.length, acc) := by
      unfold ownL
      simp only [Nat.le_add_right, if_true, la, Option.map]
    have lt : decide (acc.length < 16777216) = true := decide_eq_true (by omega)
    have ap : appendB F (.loc (F.length + S.length)) [φ ds[acc.length]] (S ++ [.lst acc]) = .ok .non (S ++ [.lst (acc ++ [φ ds[acc.length]])]) := by
      simp only [appendB, ow, lt, if_true, setL, Nat.add_sub_cancel_left, set_mid]
    have ih := lc_list hnum hit hfin hP hfe hl m (acc ++ [φ ds[acc.length]]) (by rw [List.length_append, List.length_singleton]; omega) (fun x hx => by
      rcases List.mem_append.mp hx with hx | hx
      · exact ha x hx
      · rw [List.mem_singleton.mp hx]; exact hP _ hm)
    rw [List.length_append, List.length_singleton, List.append_assoc] at ih
    rw [e]
    unfold lcGo
    simp only [hi, nameG, yesM, R.bind, if_true, hf, ap]
    exact ih
end
end K20
end SP34
section SP35
set_option Elab.async false
set_option linter.all false
set_option maxRecDepth 100000
set_option maxHeartbeats 4000000
namespace K20
open PySem L2 MI
@[irreducible] def FU : Nat := 100000
theorem FU_eq : FU = 100000 := by unfold FU; rfl
def sm : D := .tup [.tup [.int 1, .int 2], .tup [.int 1, .int 1]]
def d5 : D := .tup [.str (Str.ofString ""), .non, .tup [.int (-5)]]
theorem gd_i {j : Nat} (i : Int) (h : decide (i.natAbs < 10 ^ 20) = true) : Gd j (.int i) := .int (of_decide_eq_true h)
theorem sm_gd : Gd 2 sm := .tup (by decide) fun d hd => by
  simp only [List.mem_cons, List.not_mem_nil, or_false] at hd
  rcases hd with rfl | rfl
  · refine .tup (by decide) fun d hd => ?_
    simp only [List.mem_cons, List.not_mem_nil, or_false] at hd
    rcases hd with rfl | rfl
    · exact gd_i _ (by decide +kernel)
    · exact gd_i _ (by decide +kernel)
  · refine .tup (by decide) fun d hd => ?_
    simp only [List.mem_cons, List.not_mem_nil, or_false, or_self] at hd
    subst hd
    exact gd_i _ (by decide +kernel)
theorem d5_gd : Gd 2 d5 := .tup (by decide) fun d hd => by
  simp only [List.mem_cons, List.not_mem_nil, or_false] at hd
  rcases hd with rfl | rfl | rfl
  · exact .str (by decide +kernel) (by decide +kernel) (by decide +kernel)
  · exact .non
  · refine .tup (by decide) fun d hd => ?_
    rw [List.mem_singleton.mp hd]
    exact gd_i _ (by decide +kernel)
theorem sm_tt : tt sm = some (Str.ofString "((1 2) (1 1))").cps.toList := by decide +kernel
theorem d5_tt : tt d5 = some (Str.ofString "(. none (-5))").cps.toList := by decide +kernel
section
variable {F S : Sto}
theorem first_if {en : En} (e2 : en[2]? = some (.d sm)) :
    MI.orM (tstM (op2 neO (callM .pure 1 (run FU 59 1) (moreA [] (consA (getV 2) (nilA)))) (cM (.str (Str.ofString "((1 2) (1 1))"))))) (tstM (op2 neO (cbM reprG (consA (callM .pure 1 (run FU 59 9) (moreA [] (consA (cM (.str (Str.ofString "(. none (-5))"))) (nilA)))) (nilA))) (cbM reprG (consA (tupM (consA (cM (.str (Str.ofString ""))) (consA (cM .non) (consA (tupM (consA (negO (cM (.int 5))) (nilA))) (nilA))))) (nilA))))) F en S = .ok false S := by
  have h1 : run FU 59 1 [sm] (F ++ S) [] = .ok (.str (Str.ofString "((1 2) (1 1))")) [] := by
    have := l_tt (fu := FU) 2 (by decide) sm_gd.dt 55 (F ++ S)
    rw [sm_tt] at this
    exact this
  have lk : lenOk (Str.ofString "(. none (-5))").length = true := by decide +kernel
  obtain ⟨r1, r2⟩ := read_good (fu := FU) (j := 2) (by decide) d5_gd d5_tt (by rw [FU_eq]; decide +kernel)
  have ez : mkS (Str.ofString "(. none (-5))").cps.toList = Str.ofString "(. none (-5))" := TL.mk_tl _
  rw [ez] at r1
  obtain ⟨q1, _⟩ := l_read (fu := FU) (k := 29) (F := F ++ S) (z := Str.ofString "(. none (-5))") lk (by rw [FU_eq]; decide +kernel)
  obtain ⟨L', h2, t2⟩ := q1 d5 r1
  have h2' : run FU 59 9 [.str (Str.ofString "(. none (-5))")] (F ++ S) [] = .ok d5 L' := h2
  have rp := repr_tup (F := F) (L := S) (j := 2) (ds := [.str (Str.ofString ""), .non, .tup [.int (-5)]]) (by decide) d5_gd (Nat.le_trans r2 (by decide +kernel))
  have c1 : tstM (op2 neO (callM .pure 1 (run FU 59 1) (moreA [] (consA (getV 2) (nilA)))) (cM (.str (Str.ofString "((1 2) (1 1))")))) F en S = .ok false S := by
    simp only [tstM, op2, callM, moreA, consA, getV, e2, R.bind, nilA, List.append_nil, callR, List.length_cons, List.length_nil, Nat.reduceAdd, if_true, h1, pureR, D.lt, cM, neO, decide_true, Bool.not_true, asB]
  have p1 : cbM reprG (consA (callM .pure 1 (run FU 59 9) (moreA [] (consA (cM (.str (Str.ofString "(. none (-5))"))) (nilA)))) (nilA)) F en S = .ok (.str (PyData.shown (py d5))) S := by
    simp only [cbM, consA, callM, moreA, cM, R.bind, nilA, List.append_nil, callR, List.length_cons, List.length_nil, Nat.reduceAdd, if_true, h2', pureR, d5_gd.lt]
    exact rp
  have l1 : lenOk 1 = true := rfl
  have l3 : lenOk 3 = true := rfl
  have p2 : cbM reprG (consA (tupM (consA (cM (.str (Str.ofString ""))) (consA (cM .non) (consA (tupM (consA (negO (cM (.int 5))) (nilA))) (nilA))))) (nilA)) F en S = .ok (.str (PyData.shown (py d5))) S := by
    simp only [cbM, consA, tupM, cM, R.bind, negO, nilA, List.length_cons, List.length_nil, Nat.reduceAdd, l1, l3, if_true]
    exact rp
  simp only [MI.orM, c1, R.bind, Bool.false_eq_true, if_false]
  rw [tstM, op2, p1]
  simp only [R.bind, p2, neO, decide_true, Bool.not_true, asB]
/-! the texts -/
def deepS : Str := Txt.mul (Str.ofString "(") 12 ++ Str.ofString "5" ++ Txt.mul (Str.ofString ")") 12
def tx21 : List Str := [Str.ofString "", Str.ofString "(", Str.ofString "()", Str.ofString "( )", Str.ofString "(1 )", Str.ofString "(1  2)", Str.ofString "(1 2", Str.ofString "1 2", Str.ofString "-0", Str.ofString "00", Str.ofString "01", Str.ofString "-", Txt.mul (Str.ofString "1") 20, Txt.mul (Str.ofString "1") 21,
  Str.ofString "-" ++ Txt.mul (Str.ofString "9") 21, deepS, Str.ofString "(" ++ deepS ++ Str.ofString ")", Str.ofString "()()", Str.ofString "(a.)", Str.ofString "5a", Str.ofString "a5"]
def tx24 : List Str := tx21 ++ [Str.ofString "none", Str.ofString "..", Str.ofString ")"]
theorem tx_ok : (tx24.all fun z => decide (z.length ≤ 1000) && (Builtin.Str.occurrences z (Str.ofString "bad") 0 z.length 1).isEmpty) = true := by decide +kernel
theorem tx_str : (tx24.all fun z => PyData.strOk (tellS (toldD FU z))) = true := by decide +kernel
end
end K20
end SP35
section SP36
set_option Elab.async false
set_option linter.all false
set_option maxRecDepth 100000
set_option maxHeartbeats 4000000
namespace K20
open PySem L2 MI
section
variable {F S : Sto}
def resS : List D := tx24.map fun z => D.str (tellS (toldD FU z))
def phi : D → D
  | .str z => .str (tellS (toldD FU z))
  | d => d
theorem phi_map (l : List Str) : (l.map D.str).map phi = l.map fun z => D.str (tellS (toldD FU z)) := by
  rw [List.map_map]; rfl
theorem tx_one {z : Str} (h : z ∈ tx24) : z.length ≤ 1000 ∧ NoBad z ∧ z.length < FU := by
  have := List.all_eq_true.mp tx_ok z h
  rw [Bool.and_eq_true] at this
  have h1 : z.length ≤ 1000 := of_decide_eq_true this.1
  exact ⟨h1, noBad_of this.2, by rw [FU_eq]; omega⟩
def StrD (d : D) : Prop := ∃ w, d = .str w
theorem strD_cl {acc : List D} (h : ∀ d ∈ acc, StrD d) : Cl [.lst acc] := cl_gd (j := 0) fun d hd n => by obtain ⟨w, rfl⟩ := h d hd; rfl
/-- a list of all answers -/
theorem lc_tx {i : Nat} {n : Nat} {en : En} {fe : EM} (ei : i < en.length) (h12 : en[12]? = some (.d (.loc n))) (wi : ∀ x, (wipeD en [i]).set i (.d x) = en.set i (.d x)) (hn : (F ++ S)[n]? = some (.lst (tx24.map D.str))) (hc : Cl S)
    (hfe : ∀ z ∈ tx24, ∀ S', Cl S' → fe F (en.set i (.d (.str z))) S' = .ok (.str (tellS (toldD FU z))) S') :
    lcxM (anyI (getV 12)) (nameG i) yesM fe [i] F en S = .ok (.loc (F.length + S.length)) (S ++ [.lst resS]) := by
  have hJ : ∀ J, (F ++ (S ++ J))[n]? = some (.lst (tx24.map D.str)) := fun J => by
    rw [← List.append_assoc, List.getElem?_append_left (List.getElem?_eq_some_iff.mp hn).1]; exact hn
  have la : lstAt F S n = some (tx24.map D.str) := by unfold lstAt; rw [hn]
  have go := lc_list (F := F) (S := S) (P := StrD) (src := lstSrc n (tx24.map D.str).length) (ds := tx24.map D.str) (i := i) (fe := fe) (en := wipeD en [i]) (φ := phi) rfl (fun J i => by
      show (match (F ++ (S ++ J))[n]? with | some (.lst xs) => if xs.length = (tx24.map D.str).length then xs[i]? else none | _ => none) = _
      rw [hJ]
      simp only [if_true]) (fun J => by
      show (match (F ++ (S ++ J))[n]? with | some (.lst xs) => decide (xs.length = (tx24.map D.str).length) | _ => false) = true
      rw [hJ]
      exact decide_eq_true rfl) (fun x hx => by
      obtain ⟨z, _, rfl⟩ := List.mem_map.mp hx
      exact ⟨_, rfl⟩) (fun x hx acc ha => by
      obtain ⟨z, hz, rfl⟩ := List.mem_map.mp hx
      rw [wi]
      exact hfe z hz _ (cl_app hc (strD_cl ha))) (by rw [List.length_map]; decide +kernel) (tx24.map D.str).length [] (by rw [List.length_nil, Nat.zero_add]) (fun d hd => nomatch hd)
  rw [List.length_nil, List.drop_zero, phi_map] at go
  have an : anyI (getV 12) F en S = .ok (lstSrc n (tx24.map D.str).length) S := by
    simp only [anyI, getV, h12, R.bind, anySrc, la, Option.map, liftO]
  rw [lcxM, an]
  exact go
theorem py_strs : ∀ l : List Str, pyL (l.map D.str) = l.map PyData.str
  | [] => rfl
  | z :: l => by
    show py (.str z) :: pyL (l.map D.str) = _
    rw [py_strs l]; rfl
theorem eqv_strs : ∀ l : List Str, PyData.eqvAll (l.map PyData.str) (l.map PyData.str) = true
  | [] => rfl
  | z :: l => by
    show (z == z && PyData.eqvAll (l.map PyData.str) (l.map PyData.str)) = true
    rw [eqv_strs l, beq_self_eq_true]
    rfl
def resT : List Str := tx24.map fun z => tellS (toldD FU z)
theorem resS_eq : resS = resT.map D.str := by
  unfold resS resT
  rw [List.map_map]; rfl
theorem toPy_res {S : Sto} {n : Nat} (h : S[n]? = some (.lst resS)) : toPy S fuPy (.loc n) = some (.list (resT.map PyData.str)) := by
  show toPy S (999999 + 1) (.loc n) = _
  unfold toPy
  rw [h]
  have hl : resS.length = 24 := by unfold resS; rw [List.length_map]; decide +kernel
  have e : toPyL S 999999 resS = some (pyL resS) := toPyL_of (N := 10) (fun d hd m hm => by
    unfold resS at hd
    obtain ⟨z, _, rfl⟩ := List.mem_map.mp hd
    obtain ⟨m, rfl⟩ : ∃ k, m = k + 1 := ⟨m - 1, by omega⟩
    rfl) (by rw [hl]; decide)
  show Option.map PyData.list (toPyL S 999999 resS) = _
  rw [e, resS_eq, py_strs]
  rfl
theorem res_shaped : SeqAt.shaped (.list (resT.map PyData.str)) = true := by
  have h1 : PyData.canLay0 (.list (resT.map PyData.str)) = true := canAll fun e he => by
    obtain ⟨w, hw, rfl⟩ := List.mem_map.mp he
    unfold resT at hw
    obtain ⟨z, hz, rfl⟩ := List.mem_map.mp hw
    exact List.all_eq_true.mp tx_str z hz
  have h2 : PyData.depth (.list (resT.map PyData.str)) ≤ 64 := by
    show PyData.depthAll (resT.map PyData.str) + 1 ≤ 64
    have := depAll (j := 0) (es := resT.map PyData.str) fun e he => by
      obtain ⟨w, hw, rfl⟩ := List.mem_map.mp he
      exact Nat.le_refl _
    omega
  unfold SeqAt.shaped
  rw [h1, decide_eq_true h2]
  rfl
theorem texts_if {n : Nat} {en : En} (h12 : en[12]? = some (.d (.loc n))) (ei : 5 < en.length) (wi : ∀ x, (wipeD en [5]).set 5 (.d x) = en.set 5 (.d x)) (hn : (F ++ S)[n]? = some (.lst (tx24.map D.str))) (hc : Cl S) :
    ∃ B, Cl B ∧ tstM (op2 neO (lcxM (anyI (getV 12)) (nameG 5) (yesM) (gcE (cbM reprG (consA (callM .keep 1 (run FU 59 21) (moreA [] (consA (getV 5) (nilA)))) (nilA)))) [5]) (lcxM (anyI (getV 12)) (nameG 5) (yesM) (gcE (cbM reprG (consA (callM .keep 1 (run FU 59 20) (moreA [] (consA (getV 5) (nilA)))) (nilA)))) [5])) F en S = .ok false (S ++ B) := by
  have rc : Cl [.lst resS] := strD_cl fun d hd => by
    unfold resS at hd
    obtain ⟨z, _, rfl⟩ := List.mem_map.mp hd
    exact ⟨_, rfl⟩
  have g1 := lc_tx (F := F) (S := S) (i := 5) (fe := gcE (cbM reprG (consA (callM .keep 1 (run FU 59 21) (moreA [] (consA (getV 5) (nilA)))) (nilA)))) ei h12 wi hn hc (fun z hz S' hS' => by
    obtain ⟨a, b, c⟩ := tx_one hz
    exact told_repr hS' (by omega) c (List.getElem?_set_self ei))
  have hn2 : (F ++ (S ++ [MO.lst resS]))[n]? = some (.lst (tx24.map D.str)) := by
    rw [← List.append_assoc, List.getElem?_append_left (List.getElem?_eq_some_iff.mp hn).1]; exact hn
  have g2 := lc_tx (F := F) (S := S ++ [.lst resS]) (i := 5) (fe := gcE (cbM reprG (consA (callM .keep 1 (run FU 59 20) (moreA [] (consA (getV 5) (nilA)))) (nilA)))) ei h12 wi hn2 (cl_app hc rc) (fun z hz S' hS' => by
    obtain ⟨a, b, c⟩ := tx_one hz
    exact due_repr hS' (by omega) c b (List.getElem?_set_self ei))
  refine ⟨[.lst resS] ++ [.lst resS], cl_app rc rc, ?_⟩
  rw [tstM, op2, g1]
  simp only [R.bind]
  rw [g2]
  have a1 : (F ++ (S ++ [MO.lst resS] ++ [MO.lst resS]))[F.length + S.length]? = some (.lst resS) := by
    rw [← List.append_assoc, List.getElem?_append_left (by simp)]
    exact at_q (by simp)
  have a2 : (F ++ (S ++ [MO.lst resS] ++ [MO.lst resS]))[F.length + (S ++ [MO.lst resS]).length]? = some (.lst resS) := at_q (by simp)
  have ne : neO F (.loc (F.length + S.length)) (.loc (F.length + (S ++ [MO.lst resS]).length)) (S ++ [MO.lst resS] ++ [MO.lst resS]) = .ok (.bl false) (S ++ [MO.lst resS] ++ [MO.lst resS]) := by
    show eqDeep true F _ _ _ = _
    unfold eqDeep
    rw [toPy_res a1, toPy_res a2]
    simp only [res_shaped, Bool.and_self, if_true]
    have : PyData.eqv (.list (resT.map PyData.str)) (.list (resT.map PyData.str)) = true := eqv_strs _
    rw [this]
    rfl
  simp only [ne, asB, R.bind]
  rw [List.append_assoc]
end
end K20
end SP36
section SP37
set_option Elab.async false
set_option linter.all false
set_option maxRecDepth 100000
set_option maxHeartbeats 4000000
namespace K20
open PySem L2 MI
theorem nines_big {N : Nat} (hN : N = 4000) : TL.numL (big - 1) = List.replicate N 57 := by
  obtain ⟨n, rfl⟩ : ∃ n, N = n + 1 := ⟨N - 1, by omega⟩
  have e : big = 10 ^ (n + 1) := by rw [hN]; exact big_pow
  rw [e]
  exact nines n
theorem big_pos : 1 ≤ big := Nat.le_trans (by decide +kernel) big_20
section
variable {F S : Sto} {s0 s1 s2 s4 s5 s6 s7 s8 s9 s10 s11 s12 : Sl}
theorem g_loop {N : Nat} : ∀ (m : Nat) (b : Int) (y : Sl), ∃ y', MI.forM (rngSrc 0 N) (nameG 3) (asgS (op2 mulO (cM (.int 10)) (getV 13)) (nameG 13)) F m [s0, s1, s2, y, s4, s5, s6, s7, s8, s9, s10, s11, s12, .d (.int b)] S = .nx [s0, s1, s2, y', s4, s5, s6, s7, s8, s9, s10, s11, s12, .d (.int (b * 10 ^ m))] S
  | 0, b, y => ⟨y, by
    unfold MI.forM
    simp only [rngSrc, if_true, Int.pow_zero, Int.mul_one]⟩
  | m + 1, b, y => by
    obtain ⟨y', ih⟩ := g_loop (N := N) m (10 * b) (.d (.int (0 + ((N - (m + 1) : Nat) : Int))))
    refine ⟨y', ?_⟩
    have hm : mul64 10 b = true := by
      unfold mul64
      rw [Bool.or_eq_true]
      exact .inl rfl
    unfold MI.forM
    simp only [rngSrc, nameG, List.set_cons_succ, List.set_cons_zero, SR.next, asgS, op2, cM, R.bind, getV, List.getElem?_cons_succ, List.getElem?_cons_zero, mulO, hm, if_true, R.toS, turnK]
    simp only [rngSrc] at ih
    have e : b * 10 ^ (m + 1) = 10 * b * 10 ^ m := by
      rw [Int.pow_succ, Int.mul_comm 10 b, Int.mul_assoc, Int.mul_comm 10]
    rw [e]
    exact ih
theorem g_all {N m : Nat} {B : Int} {y : Sl} (hm : 1 * 10 ^ m = B) : ∃ y', MI.forM (rngSrc 0 N) (nameG 3) (asgS (op2 mulO (cM (.int 10)) (getV 13)) (nameG 13)) F m [s0, s1, s2, y, s4, s5, s6, s7, s8, s9, s10, s11, s12, .d (.int 1)] S = .nx [s0, s1, s2, y', s4, s5, s6, s7, s8, s9, s10, s11, s12, .d (.int B)] S := by
  subst hm
  exact g_loop m 1 y
theorem g_for {N : Nat} {a : Int} {y : Sl} (hN : N = 4000) (ha : a = (N : Int)) : ∃ y', forS (rng1I (consA (cM (.int a)) nilA)) (nameG 3) (asgS (op2 mulO (cM (.int 10)) (getV 13)) (nameG 13)) F [s0, s1, s2, y, s4, s5, s6, s7, s8, s9, s10, s11, s12, .d (.int 1)] S = .nx [s0, s1, s2, y', s4, s5, s6, s7, s8, s9, s10, s11, s12, .d (.int (big : Int))] S := by
  obtain ⟨y', lp⟩ := g_all (F := F) (S := S) (s0 := s0) (s1 := s1) (s2 := s2) (s4 := s4) (s5 := s5) (s6 := s6) (s7 := s7) (s8 := s8) (s9 := s9) (s10 := s10) (s11 := s11) (s12 := s12) (y := y) (N := N) (m := N) (B := big) (by rw [hN]; exact big_eq)
  refine ⟨y', ?_⟩
  have hb : big62 a = true := by
    rw [ha, hN]
    rfl
  have ht : a.toNat = N := by rw [ha]; exact Int.toNat_natCast N
  have rg : ∀ en, rng1I (consA (cM (.int a)) nilA) F en S = .ok (rngSrc 0 N) S := by
    intro en
    simp only [rng1I, consA, cM, R.bind, nilA, hb, if_true, ht]
  unfold forS
  rw [rg]
  exact lp
/-- term_text, refused, asked in the law -/
theorem ask_tt {i : Int} {en : En} {fe : EM} {t : Cs} (hf : fe F en S = .ok (.int i) S) (ht : tt (.int i) = some t) : callM .pure 1 (run FU 59 1) (moreA [] (consA fe nilA)) F en S = .ok (.str (mkS t)) S := by
  have h : run FU 59 1 [.int i] (F ++ S) [] = .ok (.str (mkS t)) [] := by
    have := l_tt (fu := FU) 0 (by decide) (Dt.int (j := 0) (i := i)) 57 (F ++ S)
    rw [ht] at this
    exact this
  simp only [callM, moreA, consA, hf, R.bind, nilA, List.append_nil, callR, List.length_cons, List.length_nil, Nat.reduceAdd, if_true, h, pureR, D.lt]
theorem ask_ref {j k : Nat} {d : D} {en : En} {fe : EM} (hk : k + j + 3 = 59) (hj : j ≤ 6) (hd : Dt j d) (hf : fe F en S = .ok d S) : callM .pure 1 (run FU 59 22) (moreA [] (consA fe nilA)) F en S = .ok (.bl (tt d).isNone) S := by
  obtain ⟨L', h⟩ := l_refused (fu := FU) (k := k) hj hd (F ++ S)
  rw [hk] at h
  simp only [callM, moreA, consA, hf, R.bind, nilA, List.append_nil, callR, List.length_cons, List.length_nil, Nat.reduceAdd, if_true, h, pureR, D.lt]
theorem mul9 {N : Nat} {a : Int} (hN : N = 4000) (ha : a = (N : Int)) {en : En} : op2 mulO (cM (.str (Str.ofString "9"))) (cM (.int a)) F en S = .ok (.str (mkS (List.replicate N 57))) S := by
  have h1 : mulOkB (Str.ofString "9") a = true := by
    rw [ha, hN]
    decide +kernel
  have h2 : Txt.mul (Str.ofString "9") a = mkS (List.replicate N 57) := by
    rw [ha]
    exact mul_rep (TL.ext_tl rfl) (by omega)
  simp only [op2, cM, R.bind, mulO, h1, if_true, h2]
theorem great_if {N : Nat} {a : Int} {en : En} (hN : N = 4000) (ha : a = (N : Int)) (h13 : en[13]? = some (.d (.int (big : Int)))) :
    MI.orM (tstM (op2 neO (callM .pure 1 (run FU 59 1) (moreA [] (consA (op2 (intO fun i j => i - j) (getV 13) (cM (.int 1))) (nilA)))) (op2 mulO (cM (.str (Str.ofString "9"))) (cM (.int a))))) (MI.orM (tstM (op2 neO (callM .pure 1 (run FU 59 1) (moreA [] (consA (op2 (intO fun i j => i - j) (cM (.int 1)) (getV 13)) (nilA)))) (op2 addO (cM (.str (Str.ofString "-"))) (op2 mulO (cM (.str (Str.ofString "9"))) (cM (.int a)))))) (MI.notM (truM (callM .pure 1 (run FU 59 22) (moreA [] (consA (getV 13) (nilA))))))) F en S = .ok false S := by
  have bp := big_pos
  have f1 : op2 (intO fun i j => i - j) (getV 13) (cM (.int 1)) F en S = .ok (.int ((big : Int) - 1)) S := by
    simp only [op2, getV, h13, R.bind, cM, intO]
  have f2 : op2 (intO fun i j => i - j) (cM (.int 1)) (getV 13) F en S = .ok (.int (1 - (big : Int))) S := by
    simp only [op2, getV, h13, R.bind, cM, intO]
  have f3 : getV 13 F en S = .ok (.int (big : Int)) S := by simp only [getV, h13]
  have n1 : ((big : Int) - 1).natAbs = big - 1 := by omega
  have n2 : (1 - (big : Int)).natAbs = big - 1 := by omega
  have t1 : tt (.int ((big : Int) - 1)) = some (List.replicate N 57) := by
    unfold tt numI
    rw [n1, if_pos (by omega), if_neg (by omega), nines_big hN]
  have t2 : tt (.int (1 - (big : Int))) = some (45 :: List.replicate N 57) := by
    by_cases h1 : big = 1
    · exfalso
      have := big_20
      rw [h1] at this
      exact absurd this (by decide +kernel)
    · unfold tt numI
      rw [n2, if_pos (by omega), if_pos (by omega), nines_big hN]
  have t3 : tt (.int (big : Int)) = none := by
    unfold tt
    rw [if_neg (by rw [Int.natAbs_natCast]; exact Nat.lt_irrefl _)]
  have a1 := ask_tt f1 t1
  have a2 := ask_tt f2 t2
  have a3 := ask_ref (k := 56) (j := 0) rfl (by decide) (Dt.int (j := 0) (i := (big : Int))) f3
  rw [t3] at a3
  have m9 := mul9 (F := F) (S := S) (en := en) hN ha
  have c1 : tstM (op2 neO (callM .pure 1 (run FU 59 1) (moreA [] (consA (op2 (intO fun i j => i - j) (getV 13) (cM (.int 1))) (nilA)))) (op2 mulO (cM (.str (Str.ofString "9"))) (cM (.int a)))) F en S = .ok false S := by
    rw [tstM, op2, a1]
    simp only [R.bind]
    rw [m9]
    simp only [neO, decide_true, Bool.not_true, asB, R.bind]
  have lk : lenOk ((Str.ofString "-").length + (mkS (List.replicate N 57)).length) = true := by
    have e : (mkS (List.replicate N 57)).length = N := by rw [mk_len, List.length_replicate]
    have this : (Str.ofString "-").length = 1 := rfl
    rw [this, e]
    exact decide_eq_true (by omega)
  have ea : Str.ofString "-" ++ mkS (List.replicate N 57) = mkS (45 :: List.replicate N 57) := by
    refine TL.ext_tl ?_
    rw [TL.tl_append]
    rfl
  have c2 : tstM (op2 neO (callM .pure 1 (run FU 59 1) (moreA [] (consA (op2 (intO fun i j => i - j) (cM (.int 1)) (getV 13)) (nilA)))) (op2 addO (cM (.str (Str.ofString "-"))) (op2 mulO (cM (.str (Str.ofString "9"))) (cM (.int a))))) F en S = .ok false S := by
    rw [tstM, op2, a2]
    simp only [R.bind]
    rw [op2]
    simp only [cM, R.bind]
    rw [m9]
    simp only [R.bind, addO, lk, if_true, ea, neO, decide_true, Bool.not_true, asB]
  have c3 : MI.notM (truM (callM .pure 1 (run FU 59 22) (moreA [] (consA (getV 13) (nilA))))) F en S = .ok false S := by
    rw [MI.notM, truM, a3]
    rfl
  rw [MI.orM, c1]
  simp only [R.bind, Bool.false_eq_true, if_false]
  rw [MI.orM, c2]
  simp only [R.bind, Bool.false_eq_true, if_false]
  exact c3
end
end K20
end SP37
section SP38
set_option Elab.async false
set_option linter.all false
set_option maxRecDepth 100000
set_option maxHeartbeats 4000000
namespace K20
open PySem L2 MI
def t5 : List D := [.str (Str.ofString "none"), .str (Str.ofString "A"), .str (Str.ofString "a b"), .tup [.str (Str.ofString "ok"), .str (Str.ofString "x1")], .tup [.tup [.str (Str.ofString "none")]]]
theorem dt_s {j : Nat} (w : Str) (h : decide (w.length ≤ 10) = true) : Dt j (.str w) := .str (of_decide_eq_true h)
theorem t5_dt {d : D} (h : d ∈ t5) : Dt 2 d ∧ tt d = none := by
  simp only [t5, List.mem_cons, List.not_mem_nil, or_false] at h
  rcases h with rfl | rfl | rfl | rfl | rfl
  · exact ⟨dt_s _ rfl, by decide +kernel⟩
  · exact ⟨dt_s _ rfl, by decide +kernel⟩
  · exact ⟨dt_s _ rfl, by decide +kernel⟩
  · refine ⟨.tup (by decide) fun d hd => ?_, by decide +kernel⟩
    simp only [List.mem_cons, List.not_mem_nil, or_false] at hd
    rcases hd with rfl | rfl
    · exact dt_s _ rfl
    · exact dt_s _ rfl
  · refine ⟨.tup (by decide) fun d hd => ?_, by decide +kernel⟩
    rw [List.mem_singleton.mp hd]
    refine .tup (by decide) fun d hd => ?_
    rw [List.mem_singleton.mp hd]
    exact dt_s _ rfl
section
variable {F S : Sto}
theorem toPy_b {n : Nat} {L : Sto} (h : L[n]? = some (.lst (List.replicate 5 (D.bl true)))) : toPy L fuPy (.loc n) = some (.list (List.replicate 5 (.bool true))) := by
  show toPy L (999999 + 1) (.loc n) = _
  unfold toPy
  rw [h]
  rfl
theorem last {en : En} (ei : 4 < en.length) (wi : ∀ x, (wipeD en [4]).set 4 (.d x) = en.set 4 (.d x)) : ∃ S', op2 eqO (lcxM (anyI (lstM (consA (cM (.str (Str.ofString "none"))) (consA (cM (.str (Str.ofString "A"))) (consA (cM (.str (Str.ofString "a b"))) (consA (tupM (consA (cM (.str (Str.ofString "ok"))) (consA (cM (.str (Str.ofString "x1"))) (nilA)))) (consA (tupM (consA (tupM (consA (cM (.str (Str.ofString "none"))) (nilA))) (nilA))) (nilA)))))))) (nameG 4) (yesM) (callM .pure 1 (run FU 59 22) (moreA [] (consA (getV 4) (nilA)))) [4]) (op2 mulO (lstM (consA (cM (.bl true)) (nilA))) (cM (.int 5))) F en S = .ok (.bl true) S' := by
  have l1 : lenOk 1 = true := rfl
  have l2 : lenOk 2 = true := rfl
  have l5 : lenOk 5 = true := rfl
  have la : lstAt F (S ++ [.lst t5]) (F.length + S.length) = some t5 := lst_end
  have an : anyI (lstM (consA (cM (.str (Str.ofString "none"))) (consA (cM (.str (Str.ofString "A"))) (consA (cM (.str (Str.ofString "a b"))) (consA (tupM (consA (cM (.str (Str.ofString "ok"))) (consA (cM (.str (Str.ofString "x1"))) (nilA)))) (consA (tupM (consA (tupM (consA (cM (.str (Str.ofString "none"))) (nilA))) (nilA))) (nilA))))))) F en S = .ok (lstSrc (F.length + S.length) 5) (S ++ [.lst t5]) := by
    simp only [anyI, lstM, consA, tupM, cM, R.bind, nilA, List.length_cons, List.length_nil, Nat.reduceAdd, l1, l2, l5, if_true, newO, anySrc]
    show liftO (Option.map _ (lstAt F (S ++ [.lst t5]) (F.length + S.length))) _ = _
    rw [la]
    rfl
  have go := lc_list (F := F) (S := S ++ [.lst t5]) (P := fun _ => True) (src := lstSrc (F.length + S.length) 5) (ds := t5) (i := 4) (fe := callM .pure 1 (run FU 59 22) (moreA [] (consA (getV 4) (nilA)))) (en := wipeD en [4]) (φ := fun _ => .bl true) rfl (fun J i => by
      have h : (F ++ (S ++ [MO.lst t5] ++ J))[F.length + S.length]? = some (.lst t5) := by
        rw [← List.append_assoc, List.getElem?_append_left (by simp)]
        exact at_q (by simp)
      show (match (F ++ (S ++ [MO.lst t5] ++ J))[F.length + S.length]? with | some (.lst xs) => if xs.length = 5 then xs[i]? else none | _ => none) = _
      rw [h]
      rfl) (fun J => by
      have h : (F ++ (S ++ [MO.lst t5] ++ J))[F.length + S.length]? = some (.lst t5) := by
        rw [← List.append_assoc, List.getElem?_append_left (by simp)]
        exact at_q (by simp)
      show (match (F ++ (S ++ [MO.lst t5] ++ J))[F.length + S.length]? with | some (.lst xs) => decide (xs.length = 5) | _ => false) = true
      rw [h]
      rfl) (fun x hx => trivial) (fun x hx acc ha => by
      obtain ⟨a, b⟩ := t5_dt hx
      have f : getV 4 F ((wipeD en [4]).set 4 (.d x)) (S ++ [.lst t5] ++ [.lst acc]) = .ok x (S ++ [.lst t5] ++ [.lst acc]) := by
        rw [wi]
        simp only [getV, List.getElem?_set_self ei]
      have := ask_ref (F := F) (S := S ++ [.lst t5] ++ [.lst acc]) (k := 54) (j := 2) rfl (by decide) a f
      rw [b] at this
      exact this) (by decide) 5 [] rfl (fun d hd => nomatch hd)
  have e : lcxM (anyI (lstM (consA (cM (.str (Str.ofString "none"))) (consA (cM (.str (Str.ofString "A"))) (consA (cM (.str (Str.ofString "a b"))) (consA (tupM (consA (cM (.str (Str.ofString "ok"))) (consA (cM (.str (Str.ofString "x1"))) (nilA)))) (consA (tupM (consA (tupM (consA (cM (.str (Str.ofString "none"))) (nilA))) (nilA))) (nilA)))))))) (nameG 4) (yesM) (callM .pure 1 (run FU 59 22) (moreA [] (consA (getV 4) (nilA)))) [4] F en S = .ok (.loc (F.length + (S ++ [MO.lst t5]).length)) (S ++ [.lst t5] ++ [.lst (List.replicate 5 (D.bl true))]) := by
    rw [lcxM, an]
    exact go
  refine ⟨S ++ [.lst t5] ++ [.lst (List.replicate 5 (D.bl true))] ++ [.lst [.bl true]] ++ [.lst (List.replicate 5 (D.bl true))], ?_⟩
  rw [op2, e]
  simp only [R.bind]
  have m : op2 mulO (lstM (consA (cM (.bl true)) (nilA))) (cM (.int 5)) F en (S ++ [.lst t5] ++ [.lst (List.replicate 5 (D.bl true))]) = .ok (.loc (F.length + (S ++ [MO.lst t5] ++ [MO.lst (List.replicate 5 (D.bl true))] ++ [MO.lst [D.bl true]]).length)) (S ++ [.lst t5] ++ [.lst (List.replicate 5 (D.bl true))] ++ [.lst [.bl true]] ++ [.lst (List.replicate 5 (D.bl true))]) := by
    have la : lstAt F (S ++ [.lst t5] ++ [.lst (List.replicate 5 (D.bl true))] ++ [.lst [.bl true]]) (F.length + (S ++ [MO.lst t5] ++ [MO.lst (List.replicate 5 (D.bl true))]).length) = some [.bl true] := lst_end
    simp only [op2, lstM, consA, cM, R.bind, nilA, List.length_cons, List.length_nil, Nat.reduceAdd, l1, if_true, newO, mulO]
    simp only [List.append_assoc] at la ⊢
    simp only [la]
    rfl
  rw [m]
  simp only [R.bind]
  have a1 : (F ++ (S ++ [MO.lst t5] ++ [MO.lst (List.replicate 5 (D.bl true))] ++ [MO.lst [D.bl true]] ++ [MO.lst (List.replicate 5 (D.bl true))]))[F.length + (S ++ [MO.lst t5]).length]? = some (.lst (List.replicate 5 (D.bl true))) := by
    rw [List.append_assoc _ [MO.lst [D.bl true]], ← List.append_assoc F, List.getElem?_append_left (by simp)]
    exact at_q (by simp)
  have a2 : (F ++ (S ++ [MO.lst t5] ++ [MO.lst (List.replicate 5 (D.bl true))] ++ [MO.lst [D.bl true]] ++ [MO.lst (List.replicate 5 (D.bl true))]))[F.length + (S ++ [MO.lst t5] ++ [MO.lst (List.replicate 5 (D.bl true))] ++ [MO.lst [D.bl true]]).length]? = some (.lst (List.replicate 5 (D.bl true))) := at_q (by simp)
  show eqDeep false F _ _ _ = _
  unfold eqDeep
  rw [toPy_b a1, toPy_b a2]
  have sh : SeqAt.shaped (.list (List.replicate 5 (PyData.bool true))) = true := by decide +kernel
  simp only [sh, Bool.and_self, if_true]
  have : PyData.eqv (.list (List.replicate 5 (PyData.bool true))) (.list (List.replicate 5 (PyData.bool true))) = true := by decide +kernel
  rw [this]
  rfl
end
end K20
end SP38
section SP39
set_option Elab.async false
set_option linter.all false
set_option maxRecDepth 100000
set_option maxHeartbeats 4000000
namespace K20
open PySem L2 MI
def p1 (c : Nat → FM) : SM := asgS (callM .keep 1 (c 11) (moreA [] (consA (getV 0) (nilA)))) (nameG 1)
def p2 (c : Nat → FM) : SM := asgS (callM .keep 2 (c 13) (moreA [] (consA (getV 1) (consA (cM (.int 120)) (nilA))))) (nameG 1)
def p3 (c : Nat → FM) : SM := asgS (tupM (consA (tupM (consA (cM (.int 1)) (consA (cM (.int 2)) (nilA)))) (consA (tupM (consA (cM (.int 1)) (consA (cM (.int 1)) (nilA)))) (nilA)))) (nameG 2)
def p4 (c : Nat → FM) : SM := ifS (MI.orM (tstM (op2 neO (callM .pure 1 (c 1) (moreA [] (consA (getV 2) (nilA)))) (cM (.str (Str.ofString "((1 2) (1 1))"))))) (tstM (op2 neO (cbM reprG (consA (callM .pure 1 (c 9) (moreA [] (consA (cM (.str (Str.ofString "(. none (-5))"))) (nilA)))) (nilA))) (cbM reprG (consA (tupM (consA (cM (.str (Str.ofString ""))) (consA (cM .non) (consA (tupM (consA (negO (cM (.int 5))) (nilA))) (nilA))))) (nilA)))))) (retS (cM (.bl false))) (nilS)
def p5 (c : Nat → FM) : SM := forS (rng1I (consA (cM (.int 4)) (nilA))) (nameG 3) (tB c)
def p6 (c : Nat → FM) : SM := asgS (op2 addO (op2 addO (op2 mulO (cM (.str (Str.ofString "("))) (cM (.int 12))) (cM (.str (Str.ofString "5")))) (op2 mulO (cM (.str (Str.ofString ")"))) (cM (.int 12)))) (nameG 11)
def p7 (c : Nat → FM) : SM := asgS (lstM (consA (cM (.str (Str.ofString ""))) (consA (cM (.str (Str.ofString "("))) (consA (cM (.str (Str.ofString "()"))) (consA (cM (.str (Str.ofString "( )"))) (consA (cM (.str (Str.ofString "(1 )"))) (consA (cM (.str (Str.ofString "(1  2)"))) (consA (cM (.str (Str.ofString "(1 2"))) (consA (cM (.str (Str.ofString "1 2"))) (consA (cM (.str (Str.ofString "-0"))) (consA (cM (.str (Str.ofString "00"))) (consA (cM (.str (Str.ofString "01"))) (consA (cM (.str (Str.ofString "-"))) (consA (op2 mulO (cM (.str (Str.ofString "1"))) (cM (.int 20))) (consA (op2 mulO (cM (.str (Str.ofString "1"))) (cM (.int 21))) (consA (op2 addO (cM (.str (Str.ofString "-"))) (op2 mulO (cM (.str (Str.ofString "9"))) (cM (.int 21)))) (consA (getV 11) (consA (op2 addO (op2 addO (cM (.str (Str.ofString "("))) (getV 11)) (cM (.str (Str.ofString ")")))) (consA (cM (.str (Str.ofString "()()"))) (consA (cM (.str (Str.ofString "(a.)"))) (consA (cM (.str (Str.ofString "5a"))) (consA (cM (.str (Str.ofString "a5"))) (nilA))))))))))))))))))))))) (nameG 12)
def p8 (c : Nat → FM) : SM := asgS (op2 addO (getV 12) (lstM (consA (cM (.str (Str.ofString "none"))) (consA (cM (.str (Str.ofString ".."))) (consA (cM (.str (Str.ofString ")"))) (nilA)))))) (nameG 12)
def p9 (c : Nat → FM) : SM := ifS (tstM (op2 neO (lcxM (anyI (getV 12)) (nameG 5) (yesM) (gcE (cbM reprG (consA (callM .keep 1 (c 21) (moreA [] (consA (getV 5) (nilA)))) (nilA)))) [5]) (lcxM (anyI (getV 12)) (nameG 5) (yesM) (gcE (cbM reprG (consA (callM .keep 1 (c 20) (moreA [] (consA (getV 5) (nilA)))) (nilA)))) [5]))) (retS (cM (.bl false))) (nilS)
def p10 (c : Nat → FM) : SM := asgS (cM (.int 1)) (nameG 13)
def p11 (c : Nat → FM) : SM := forS (rng1I (consA (cM (.int 4000)) (nilA))) (nameG 3) (asgS (op2 mulO (cM (.int 10)) (getV 13)) (nameG 13))
def p12 (c : Nat → FM) : SM := ifS (MI.orM (tstM (op2 neO (callM .pure 1 (c 1) (moreA [] (consA (op2 (intO fun i j => i - j) (getV 13) (cM (.int 1))) (nilA)))) (op2 mulO (cM (.str (Str.ofString "9"))) (cM (.int 4000))))) (MI.orM (tstM (op2 neO (callM .pure 1 (c 1) (moreA [] (consA (op2 (intO fun i j => i - j) (cM (.int 1)) (getV 13)) (nilA)))) (op2 addO (cM (.str (Str.ofString "-"))) (op2 mulO (cM (.str (Str.ofString "9"))) (cM (.int 4000)))))) (MI.notM (truM (callM .pure 1 (c 22) (moreA [] (consA (getV 13) (nilA)))))))) (retS (cM (.bl false))) (nilS)
def p13 (c : Nat → FM) : SM := retS (op2 eqO (lcxM (anyI (lstM (consA (cM (.str (Str.ofString "none"))) (consA (cM (.str (Str.ofString "A"))) (consA (cM (.str (Str.ofString "a b"))) (consA (tupM (consA (cM (.str (Str.ofString "ok"))) (consA (cM (.str (Str.ofString "x1"))) (nilA)))) (consA (tupM (consA (tupM (consA (cM (.str (Str.ofString "none"))) (nilA))) (nilA))) (nilA)))))))) (nameG 4) (yesM) (callM .pure 1 (c 22) (moreA [] (consA (getV 4) (nilA)))) [4]) (op2 mulO (lstM (consA (cM (.bl true)) (nilA))) (cM (.int 5))))
theorem b23_eq (fu : Nat) (c : Nat → FM) : b_23 fu c = seqS (p1 c) (seqS (p2 c) (seqS (p3 c) (seqS (p4 c) (seqS (p5 c) (seqS (p6 c) (seqS (p7 c) (seqS (p8 c) (seqS (p9 c) (seqS (p10 c) (seqS (p11 c) (seqS (p12 c) (p13 c)))))))))))) := rfl
theorem set_same {S : Sto} {q : Nat} {o : MO} (h : S[q]? = some o) : S.set q o = S := by
  obtain ⟨hq, e⟩ := List.getElem?_eq_some_iff.mp h
  rw [← e, List.set_getElem_self]
section
variable {S : Sto} {s0 s1 s2 s3 s4 s5 s6 s7 s8 s9 s10 s11 s12 s13 : Sl}
theorem st3 : p3 (run FU 59) [] [s0, s1, s2, s3, s4, s5, s6, s7, s8, s9, s10, s11, s12, s13] S = .nx [s0, s1, .d sm, s3, s4, s5, s6, s7, s8, s9, s10, s11, s12, s13] S := by
  have l2 : lenOk 2 = true := rfl
  unfold p3
  simp only [asgS, tupM, consA, cM, R.bind, nilA, List.length_cons, List.length_nil, Nat.reduceAdd, l2, if_true, R.toS, nameG, List.set_cons_succ, List.set_cons_zero]
  rfl
theorem st4 : p4 (run FU 59) [] [s0, s1, .d sm, s3, s4, s5, s6, s7, s8, s9, s10, s11, s12, s13] S = .nx [s0, s1, .d sm, s3, s4, s5, s6, s7, s8, s9, s10, s11, s12, s13] S := if_f (first_if rfl)
theorem st6 : p6 (run FU 59) [] [s0, s1, s2, s3, s4, s5, s6, s7, s8, s9, s10, s11, s12, s13] S = .nx [s0, s1, s2, s3, s4, s5, s6, s7, s8, s9, s10, .d (.str deepS), s12, s13] S := by
  have m1 : mulOkB (Str.ofString "(") 12 = true := by decide +kernel
  have m2 : mulOkB (Str.ofString ")") 12 = true := by decide +kernel
  have k1 : lenOk ((Txt.mul (Str.ofString "(") 12).length + (Str.ofString "5").length) = true := by decide +kernel
  have k2 : lenOk ((Txt.mul (Str.ofString "(") 12 ++ Str.ofString "5").length + (Txt.mul (Str.ofString ")") 12).length) = true := by decide +kernel
  unfold p6
  simp only [asgS, op2, cM, R.bind, mulO, m1, m2, k1, k2, addO, if_true, R.toS, nameG, List.set_cons_succ, List.set_cons_zero]
  rfl
theorem st7 : p7 (run FU 59) [] [s0, s1, s2, s3, s4, s5, s6, s7, s8, s9, s10, .d (.str deepS), s12, s13] S = .nx [s0, s1, s2, s3, s4, s5, s6, s7, s8, s9, s10, .d (.str deepS), .d (.loc (([] : Sto).length + S.length)), s13] (S ++ [MO.lst (tx21.map D.str)]) := by
  have m1 : mulOkB (Str.ofString "1") 20 = true := by decide +kernel
  have m2 : mulOkB (Str.ofString "1") 21 = true := by decide +kernel
  have m3 : mulOkB (Str.ofString "9") 21 = true := by decide +kernel
  have k1 : lenOk ((Str.ofString "-").length + (Txt.mul (Str.ofString "9") 21).length) = true := by decide +kernel
  have k2 : lenOk ((Str.ofString "(").length + deepS.length) = true := by decide +kernel
  have k3 : lenOk ((Str.ofString "(" ++ deepS).length + (Str.ofString ")").length) = true := by decide +kernel
  have l21 : lenOk 21 = true := rfl
  unfold p7
  simp only [asgS, lstM, consA, op2, cM, getV, List.getElem?_cons_succ, List.getElem?_cons_zero, R.bind, mulO, m1, m2, m3, k1, k2, k3, addO, if_true, nilA, List.length_cons, List.length_nil, Nat.reduceAdd, l21, newO, R.toS, nameG, List.set_cons_succ, List.set_cons_zero]
  rfl
theorem st8 : p8 (run FU 59) [] [s0, s1, s2, s3, s4, s5, s6, s7, s8, s9, s10, s11, .d (.loc (([] : Sto).length + S.length)), s13] (S ++ [MO.lst (tx21.map D.str)]) = .nx [s0, s1, s2, s3, s4, s5, s6, s7, s8, s9, s10, s11, .d (.loc (([] : Sto).length + (S ++ [MO.lst (tx21.map D.str)] ++ [MO.lst [D.str (Str.ofString "none"), D.str (Str.ofString ".."), D.str (Str.ofString ")")]]).length)), s13] (S ++ [MO.lst (tx21.map D.str)] ++ [MO.lst [D.str (Str.ofString "none"), D.str (Str.ofString ".."), D.str (Str.ofString ")")]] ++ [MO.lst (tx24.map D.str)]) := by
  have l3 : lenOk 3 = true := rfl
  have e1 : lstM (consA (cM (.str (Str.ofString "none"))) (consA (cM (.str (Str.ofString ".."))) (consA (cM (.str (Str.ofString ")"))) (nilA)))) [] [s0, s1, s2, s3, s4, s5, s6, s7, s8, s9, s10, s11, .d (.loc (([] : Sto).length + S.length)), s13] (S ++ [MO.lst (tx21.map D.str)]) = .ok (.loc (([] : Sto).length + (S ++ [MO.lst (tx21.map D.str)]).length)) (S ++ [MO.lst (tx21.map D.str)] ++ [MO.lst [D.str (Str.ofString "none"), D.str (Str.ofString ".."), D.str (Str.ofString ")")]]) := by
    simp only [lstM, consA, cM, R.bind, nilA, List.length_cons, List.length_nil, Nat.reduceAdd, l3, if_true, newO]
  have a2 : lstAt [] (S ++ [MO.lst (tx21.map D.str)] ++ [MO.lst [D.str (Str.ofString "none"), D.str (Str.ofString ".."), D.str (Str.ofString ")")]]) (([] : Sto).length + (S ++ [MO.lst (tx21.map D.str)]).length) = some [D.str (Str.ofString "none"), D.str (Str.ofString ".."), D.str (Str.ofString ")")] := lst_end
  have a1 : lstAt [] (S ++ [MO.lst (tx21.map D.str)] ++ [MO.lst [D.str (Str.ofString "none"), D.str (Str.ofString ".."), D.str (Str.ofString ")")]]) (([] : Sto).length + S.length) = some (tx21.map D.str) := by
    have e : ([] ++ (S ++ [MO.lst (tx21.map D.str)] ++ [MO.lst [D.str (Str.ofString "none"), D.str (Str.ofString ".."), D.str (Str.ofString ")")]]))[([] : Sto).length + S.length]? = some (.lst (tx21.map D.str)) := at_q (by
      rw [List.getElem?_append_left (by simp)]
      simp)
    unfold lstAt
    rw [e]
  have lk : lenOk ((tx21.map D.str).length + [D.str (Str.ofString "none"), D.str (Str.ofString ".."), D.str (Str.ofString ")")].length) = true := rfl
  have ea : tx21.map D.str ++ [D.str (Str.ofString "none"), D.str (Str.ofString ".."), D.str (Str.ofString ")")] = tx24.map D.str := by
    unfold tx24
    rw [List.map_append]
    rfl
  unfold p8
  rw [asgS, op2]
  simp only [getV, List.getElem?_cons_succ, List.getElem?_cons_zero, R.bind]
  rw [e1]
  simp only [R.bind, addO, a1, a2, lk, if_true, ea, newO, R.toS, nameG, List.set_cons_succ, List.set_cons_zero]
theorem st9 {n : Nat} (hn : ([] ++ S)[n]? = some (.lst (tx24.map D.str))) (hc : Cl S) : ∃ B, Cl B ∧ p9 (run FU 59) [] [s0, s1, s2, s3, s4, s5, s6, s7, s8, s9, s10, s11, .d (.loc n), s13] S = .nx [s0, s1, s2, s3, s4, s5, s6, s7, s8, s9, s10, s11, .d (.loc n), s13] (S ++ B) := by
  obtain ⟨B, b1, b2⟩ := texts_if (F := []) (S := S) (n := n) (en := [s0, s1, s2, s3, s4, s5, s6, s7, s8, s9, s10, s11, .d (.loc n), s13]) rfl (by simp) (fun x => rfl) hn hc
  exact ⟨B, b1, if_g b2⟩
theorem st10 : p10 (run FU 59) [] [s0, s1, s2, s3, s4, s5, s6, s7, s8, s9, s10, s11, s12, s13] S = .nx [s0, s1, s2, s3, s4, s5, s6, s7, s8, s9, s10, s11, s12, .d (.int 1)] S := rfl
theorem st11 : ∃ y, p11 (run FU 59) [] [s0, s1, s2, s3, s4, s5, s6, s7, s8, s9, s10, s11, s12, .d (.int 1)] S = .nx [s0, s1, s2, y, s4, s5, s6, s7, s8, s9, s10, s11, s12, .d (.int (big : Int))] S := g_for (N := 4000) (a := 4000) rfl rfl
theorem st12 : p12 (run FU 59) [] [s0, s1, s2, s3, s4, s5, s6, s7, s8, s9, s10, s11, s12, .d (.int (big : Int))] S = .nx [s0, s1, s2, s3, s4, s5, s6, s7, s8, s9, s10, s11, s12, .d (.int (big : Int))] S := if_f (great_if (N := 4000) (a := 4000) rfl rfl rfl)
theorem st13 : ∃ L, p13 (run FU 59) [] [s0, s1, s2, s3, s4, s5, s6, s7, s8, s9, s10, s11, s12, s13] S = .rt (.bl true) L := by
  obtain ⟨L, h⟩ := last (F := []) (S := S) (en := [s0, s1, s2, s3, s4, s5, s6, s7, s8, s9, s10, s11, s12, s13]) (by simp) (fun x => rfl)
  refine ⟨L, ?_⟩
  unfold p13
  rw [retS, h]
  rfl
end
theorem law_true {ns : List Int} (hn : ns.length ≤ 63) : ∃ L, run FU 60 23 [.fls (ns.map D.int)] [] [] = .ok (.bl true) L := by
  obtain ⟨xs, T, dx, cT, lx, e1⟩ := l_draws (fu := FU) (k := 57) hn
  obtain ⟨ys, xs', more, dy, dx', dm, e2⟩ := l_more (fu := FU) (k := 57) dx cT lx
  have c1 : Cl ((MO.lst xs' :: T) ++ [MO.lst more] ++ [MO.lst ys]) := cl_app (cl_app (cl_app (A := [MO.lst xs']) (fun o ho i => by rw [List.mem_singleton.mp ho]; exact dx'.cl i) cT) (fun o ho i => by rw [List.mem_singleton.mp ho]; exact dm.cl i)) (fun o ho i => by rw [List.mem_singleton.mp ho]; exact dy.cl i)
  have hq : ((MO.lst xs' :: T) ++ [MO.lst more] ++ [MO.lst ys])[T.length + 2]? = some (.lst ys) := by
    have e : ((MO.lst xs' :: T) ++ [MO.lst more]).length = T.length + 2 := by simp
    rw [← e]
    simp
  have hl : T.length + 2 < ((MO.lst xs' :: T) ++ [MO.lst more] ++ [MO.lst ys]).length := by simp
  have hs := set_same hq
  generalize ((MO.lst xs' :: T) ++ [MO.lst more] ++ [MO.lst ys]) = S2 at *
  have st : startD 14 [.fls (ns.map D.int)] = [.d (.fls (ns.map D.int)), .no, .no, .no, .no, .no, .no, .no, .no, .no, .no, .no, .no, .no] := rfl
  have a1 : p1 (run FU 59) [] [.d (.fls (ns.map D.int)), .no, .no, .no, .no, .no, .no, .no, .no, .no, .no, .no, .no, .no] [] = .nx [.d (.fls (ns.map D.int)), .d (.loc 0), .no, .no, .no, .no, .no, .no, .no, .no, .no, .no, .no, .no] (.lst xs :: T) := by
    unfold p1
    simp only [asgS, callM, moreA, consA, getV, List.getElem?_cons_zero, R.bind, nilA, List.append_nil, callR, List.length_cons, List.length_nil, Nat.reduceAdd, if_true, e1, R.toS, nameG, List.set_cons_succ, List.set_cons_zero]
  have a2 : p2 (run FU 59) [] [.d (.fls (ns.map D.int)), .d (.loc 0), .no, .no, .no, .no, .no, .no, .no, .no, .no, .no, .no, .no] (.lst xs :: T) = .nx [.d (.fls (ns.map D.int)), .d (.loc (T.length + 2)), .no, .no, .no, .no, .no, .no, .no, .no, .no, .no, .no, .no] S2 := by
    unfold p2
    simp only [asgS, callM, moreA, consA, cM, getV, List.getElem?_cons_zero, List.getElem?_cons_succ, R.bind, nilA, List.append_nil, callR, List.length_cons, List.length_nil, Nat.reduceAdd, if_true, e2, R.toS, nameG, List.set_cons_succ, List.set_cons_zero]
  obtain ⟨ys', A, x3, x4, x5, x6, x7, x8, x9, x10, g1, g2, g3⟩ := t_loop (fu := FU) (F := []) (q := T.length + 2) (N := 4) (s0 := .d (.fls (ns.map D.int))) (s2 := .d sm) (s11 := .no) (s12 := .no) (s13 := .no) (by rw [FU_eq]; decide) 4 S2 ys .no .no .no .no .no .no .no .no hl c1 dy
  rw [hs] at g3
  simp only [List.length_nil, Nat.zero_add] at g3
  have a5 : p5 (run FU 59) [] [.d (.fls (ns.map D.int)), .d (.loc (T.length + 2)), .d sm, .no, .no, .no, .no, .no, .no, .no, .no, .no, .no, .no] S2 = .nx [.d (.fls (ns.map D.int)), .d (.loc (T.length + 2)), .d sm, x3, x4, x5, x6, x7, x8, x9, x10, .no, .no, .no] ((S2 ++ A).set (T.length + 2) (.lst ys')) := g3
  have c5 : Cl ((S2 ++ A).set (T.length + 2) (.lst ys')) := cl_set (cl_app c1 g2) g1
  generalize ((S2 ++ A).set (T.length + 2) (.lst ys')) = S5 at *
  have sc : ∀ l : List Str, Cl [MO.lst (l.map D.str)] := fun l => strD_cl fun d hd => by
    obtain ⟨w, _, rfl⟩ := List.mem_map.mp hd
    exact ⟨_, rfl⟩
  have c8 : Cl (S5 ++ [MO.lst (tx21.map D.str)] ++ [MO.lst [D.str (Str.ofString "none"), D.str (Str.ofString ".."), D.str (Str.ofString ")")]] ++ [MO.lst (tx24.map D.str)]) := cl_app (cl_app (cl_app c5 (sc _)) (sc [Str.ofString "none", Str.ofString "..", Str.ofString ")"])) (sc _)
  have h8 : ([] ++ (S5 ++ [MO.lst (tx21.map D.str)] ++ [MO.lst [D.str (Str.ofString "none"), D.str (Str.ofString ".."), D.str (Str.ofString ")")]] ++ [MO.lst (tx24.map D.str)]))[([] : Sto).length + (S5 ++ [MO.lst (tx21.map D.str)] ++ [MO.lst [D.str (Str.ofString "none"), D.str (Str.ofString ".."), D.str (Str.ofString ")")]]).length]? = some (.lst (tx24.map D.str)) := at_q (by rw [List.getElem?_append_right (Nat.le_refl _), Nat.sub_self]; rfl)
  obtain ⟨B, _, a9⟩ := st9 (s0 := .d (.fls (ns.map D.int))) (s1 := .d (.loc (T.length + 2))) (s2 := .d sm) (s3 := x3) (s4 := x4) (s5 := x5) (s6 := x6) (s7 := x7) (s8 := x8) (s9 := x9) (s10 := x10) (s11 := .d (.str deepS)) (s13 := .no) h8 c8
  show ∃ L, defM 14 (b_23 FU (run FU 59)) [.fls (ns.map D.int)] [] [] = .ok (.bl true) L
  rw [defM, st, b23_eq, seqS, a1, next_nx, seqS, a2, next_nx, seqS, st3, next_nx, seqS, st4, next_nx, seqS, a5, next_nx, seqS, st6, next_nx, seqS, st7, next_nx, seqS, st8, next_nx, seqS, a9, next_nx, seqS, st10, next_nx]
  obtain ⟨y, a11⟩ := st11 (S := _ ++ B) (s0 := .d (.fls (ns.map D.int))) (s1 := .d (.loc (T.length + 2))) (s2 := .d sm) (s3 := x3) (s4 := x4) (s5 := x5) (s6 := x6) (s7 := x7) (s8 := x8) (s9 := x9) (s10 := x10) (s11 := .d (.str deepS)) (s12 := _)
  rw [seqS, a11, next_nx, seqS, st12, next_nx]
  obtain ⟨L, a13⟩ := st13
  exact ⟨L, by rw [a13]; rfl⟩
end K20
end SP39
section SP40
set_option Elab.async false
set_option linter.all false
set_option maxRecDepth 100000
namespace K20
open PySem L2 MI
theorem repL_ints {k : Gk} {μ : List Addr} {H : Hp} : ∀ ns : List Int, RepL k μ H (ns.map D.int) (ns.map V.int)
  | [] => rfl
  | i :: ns => ⟨.int i, ns.map V.int, rfl, rfl, repL_ints ns⟩
theorem end_S : ∀ (K : PySem.W.Frag) (H : Hp) (a : Addr) (ns : List Int), ns.length ≤ 63 → L2.Only H → FzL K H a (ns.map V.int) → spL 60 FU K [.ref a] H (fun v _ => v = .bl true) fun _ _ _ => False := by
  intro K H a ns hn ho hf A
  obtain ⟨L, h⟩ := law_true hn
  refine ⟨[], [], [], [.fls (ns.map D.int)], ?_, ?_, rfl, ?_⟩
  · exact ⟨.ref a, [], rfl, ⟨a, ns.map V.int, rfl, hf, repL_ints ns⟩, rfl⟩
  · constructor <;> simp
  · rw [h]
    intro μ' H' b x r s
    exact r
end K20
end SP40
section SK20F
open PySem PySem.W PyProof.Rows
set_option maxRecDepth 100000 in
set_option maxHeartbeats 0 in
theorem PySem.Challenge.cw_runsproven_k20_texts_of_terms_holds : PySem.Challenge.rw_runsproven_k20_texts_of_terms.Holds := by
  w_on; o_law; k_head; (case hw => w_witness2)
  k_fill
  refine MI.walk_g (l := PySem.Challenge.rw_runsproven_k20_texts_of_terms) (n := 63) (j := 2 * 60 + 2) (sp := K20.spL 60 K20.FU) (x := (Str.ofString "script")) rfl (by decide) rfl ⟨rfl, by decide, by decide⟩ (fun w h Y => PySem.W.kIn_of Y) ?F ?S
  case F =>
    intro w mg fa h KX G hmg
    refine' K20.all_mk 60 K20.FU KX G hmg ?h0 ?h1 ?h9 ?h10 ?h11 ?h12 ?h13 ?h14 ?h15 ?h16 ?h17 ?h18 ?h19 ?h20 ?h21 ?h22 ?h23 ?cc_FIGURES ?cc_MOST_BITS ?cc_MOST_FIGURES ?cc_MOST_OPEN ?cc_MOST_TEXT ?cc_NOBODY ?cc_NOTHING ?cc_SMALL ?zz_abs ?zz_all ?zz_int ?zz_isinstance ?zz_len ?zz_list ?zz_range ?zz_repr ?zz_str ?zz_tuple ?hK
    (case h0 => (refine' K20.hf_0 ?g ?l ?c ?k; (case g => k_is); (case l => k_is); (case c => k_is); (case k => k_is)))
    (case h1 => (refine' K20.hf_1 ?g ?l ?c ?k; (case g => k_is); (case l => k_is); (case c => k_is); (case k => k_is)))
    (case h9 => (refine' K20.hf_9 ?g ?l ?c ?k; (case g => k_is); (case l => k_is); (case c => k_is); (case k => k_is)))
    (case h10 => (refine' K20.hf_10 ?g ?l ?c ?k; (case g => k_is); (case l => k_is); (case c => k_is); (case k => k_is)))
    (case h11 => (refine' K20.hf_11 ?g ?l ?c ?k; (case g => k_is); (case l => k_is); (case c => k_is); (case k => k_is)))
    (case h12 => (refine' K20.hf_12 ?g ?l ?c ?k; (case g => k_is); (case l => k_is); (case c => k_is); (case k => k_is)))
    (case h13 => (refine' K20.hf_13 ?g ?l ?c ?k; (case g => k_is); (case l => k_is); (case c => k_is); (case k => k_is)))
    (case h14 => (refine' K20.hf_14 ?g ?l ?c ?k; (case g => k_is); (case l => k_is); (case c => k_is); (case k => k_is)))
    (case h15 => (refine' K20.hf_15 ?g ?l ?c ?k; (case g => k_is); (case l => k_is); (case c => k_is); (case k => k_is)))
    (case h16 => (refine' K20.hf_16 ?g ?l ?c ?k; (case g => k_is); (case l => k_is); (case c => k_is); (case k => k_is)))
    (case h17 => (refine' K20.hf_17 ?g ?l ?c ?k; (case g => k_is); (case l => k_is); (case c => k_is); (case k => k_is)))
    (case h18 => (refine' K20.hf_18 ?g ?l ?c ?k; (case g => k_is); (case l => k_is); (case c => k_is); (case k => k_is)))
    (case h19 => (refine' K20.hf_19 ?g ?l ?c ?k; (case g => k_is); (case l => k_is); (case c => k_is); (case k => k_is)))
    (case h20 => (refine' K20.hf_20 ?g ?l ?c ?k; (case g => k_is); (case l => k_is); (case c => k_is); (case k => k_is)))
    (case h21 => (refine' K20.hf_21 ?g ?l ?c ?k; (case g => k_is); (case l => k_is); (case c => k_is); (case k => k_is)))
    (case h22 => (refine' K20.hf_22 ?g ?l ?c ?k; (case g => k_is); (case l => k_is); (case c => k_is); (case k => k_is)))
    (case h23 => (refine' K20.hf_23 ?g ?l ?c ?k; (case g => k_is); (case l => k_is); (case c => k_is); (case k => k_is)))
    (case cc_FIGURES => (refine' K20.hc_FIGURES ?g; (case g => k_is)))
    (case cc_MOST_BITS => (refine' K20.hc_MOST_BITS ?g; (case g => k_is)))
    (case cc_MOST_FIGURES => (refine' K20.hc_MOST_FIGURES ?g; (case g => k_is)))
    (case cc_MOST_OPEN => (refine' K20.hc_MOST_OPEN ?g; (case g => k_is)))
    (case cc_MOST_TEXT => (refine' K20.hc_MOST_TEXT ?g; (case g => k_is)))
    (case cc_NOBODY => (refine' K20.hc_NOBODY ?g; (case g => k_is)))
    (case cc_NOTHING => (refine' K20.hc_NOTHING ?g; (case g => k_is)))
    (case cc_SMALL => (refine' K20.hc_SMALL ?g; (case g => k_is)))
    (case zz_abs => k_is)
    (case zz_all => k_is)
    (case zz_int => k_is)
    (case zz_isinstance => k_is)
    (case zz_len => k_is)
    (case zz_list => k_is)
    (case zz_range => k_is)
    (case zz_repr => k_is)
    (case zz_str => k_is)
    (case zz_tuple => k_is)
    (case hK => (refine' K20.hcls ?g_Reading ?g_RunError ?g_BadNumber ?g_Malformed ?pg_Reading ?hd_Reading ?po_Reading ?sa_Reading ?ma_Reading ?kp_Reading ?no_Reading_at ?no_Reading_text ?at_2 ?fn_2 ?l_2 ?c_2 ?k_2 ?at_3 ?fn_3 ?l_3 ?c_3 ?k_3 ?at_4 ?fn_4 ?l_4 ?c_4 ?k_4 ?at_5 ?fn_5 ?l_5 ?c_5 ?k_5 ?at_6 ?fn_6 ?l_6 ?c_6 ?k_6 ?at_7 ?fn_7 ?l_7 ?c_7 ?k_7 ?at_8 ?fn_8 ?l_8 ?c_8 ?k_8 ?sb_RunError ?tc_RunError ?kc_RunError ?is_RunError ?ex_RunError ?sb_BadNumber ?tc_BadNumber ?kc_BadNumber ?is_BadNumber ?ex_BadNumber ?sb_Malformed ?tc_Malformed ?kc_Malformed ?is_Malformed ?xl_Malformed ?sa_Malformed ?ga_Malformed ?gg_Malformed ?nf_Malformed ?hd_Malformed ?ic_Malformed ?ti_Malformed ?l_Malformed ?c_Malformed ?k_Malformed ?rd_RunError ?sp_RunError ?fc_RunError ?b_RunError_BadNumber ?b_BadNumber_BadNumber ?b_Malformed_BadNumber ?b_RunError_Malformed ?b_BadNumber_Malformed ?b_Malformed_Malformed; (case g_Reading => k_is); (case g_RunError => k_is); (case g_BadNumber => k_is); (case g_Malformed => k_is); (case pg_Reading => k_is); (case hd_Reading => k_is); (case po_Reading => k_is); (case sa_Reading => k_is); (case ma_Reading => k_is); (case kp_Reading => k_is); (case no_Reading_at => k_is); (case no_Reading_text => k_is); (case at_2 => k_is); (case fn_2 => k_is); (case l_2 => k_is); (case c_2 => k_is); (case k_2 => k_is); (case at_3 => k_is); (case fn_3 => k_is); (case l_3 => k_is); (case c_3 => k_is); (case k_3 => k_is); (case at_4 => k_is); (case fn_4 => k_is); (case l_4 => k_is); (case c_4 => k_is); (case k_4 => k_is); (case at_5 => k_is); (case fn_5 => k_is); (case l_5 => k_is); (case c_5 => k_is); (case k_5 => k_is); (case at_6 => k_is); (case fn_6 => k_is); (case l_6 => k_is); (case c_6 => k_is); (case k_6 => k_is); (case at_7 => k_is); (case fn_7 => k_is); (case l_7 => k_is); (case c_7 => k_is); (case k_7 => k_is); (case at_8 => k_is); (case fn_8 => k_is); (case l_8 => k_is); (case c_8 => k_is); (case k_8 => k_is); (case sb_RunError => k_is); (case tc_RunError => k_is); (case kc_RunError => k_is); (case is_RunError => k_is); (case ex_RunError => k_exc); (case sb_BadNumber => k_is); (case tc_BadNumber => k_is); (case kc_BadNumber => k_is); (case is_BadNumber => k_is); (case ex_BadNumber => k_exc); (case sb_Malformed => k_is); (case tc_Malformed => k_is); (case kc_Malformed => k_is); (case is_Malformed => k_is); (case xl_Malformed => k_is); (case sa_Malformed => k_is); (case ga_Malformed => k_is); (case gg_Malformed => k_is); (case nf_Malformed => k_is); (case hd_Malformed => k_is); (case ic_Malformed => k_is); (case ti_Malformed => k_is); (case l_Malformed => k_is); (case c_Malformed => k_is); (case k_Malformed => k_is); (case rd_RunError => k_is); (case sp_RunError => k_is); (case fc_RunError => k_is); (case b_RunError_BadNumber => first | rfl | k_is); (case b_BadNumber_BadNumber => first | rfl | k_is); (case b_Malformed_BadNumber => first | rfl | k_is); (case b_RunError_Malformed => first | rfl | k_is); (case b_BadNumber_Malformed => first | rfl | k_is); (case b_Malformed_Malformed => first | rfl | k_is)))
  case S =>
    exact K20.end_S
end SK20F
