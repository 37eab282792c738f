import PyProof.Rows.All
import Wide.All
import OpenK.AllK
import Wide.FinOn
import HandS.ForMost
import HandS.ForExc
import HandS.Iter
import HandS.Style
import HandS.IsInst
import HandS.Deep
import HandS.Conv
import HandS.TupAny
import HandS.ExcIs
import HandS.ExcValue
import KE.SortData
import HandS.SetFor
import HandS.Strs
import PySem.Challenge.RW_haarrows_k10_whole_counted
set_option Elab.async false
set_option linter.all false
set_option maxRecDepth 100000
set_option maxHeartbeats 1000000
namespace DL
open PySem L2
inductive D where
  | non
  | bl (b : Bool)
  | int (i : Int)
  | str (x : Str)
  | lst (xs : List D)
  | tup (xs : List D)
  | obj (n : Nat)
  | exc (c : Nat)
  | fls (xs : List D)
  deriving Inhabited
inductive OB where
  | lst (xs : List D)
  | dT (kvs : List (List Key × D))
  | dK (kvs : List (Key × D))
  | ins (c : Nat) (fs : List (Str × D))
abbrev Store := List OB
inductive Out where
  | ok (d : D) (S : Store)
  | exc (c : Nat) (S : Store)
  | bad
@[reducible] def Out.bind (o : Out) (k : D → Store → Out) : Out := match o with
  | .ok d S => k d S
  | .exc c S => .exc c S
  | .bad => .bad
inductive OutL where
  | ok (ds : List D) (S : Store)
  | exc (c : Nat) (S : Store)
  | bad
inductive Slot where
  | emp
  | val (d : D)
  | own (ds : List D)
abbrev DEnv := List Slot
abbrev DE := DEnv → Store → Out
abbrev DA := DEnv → Store → OutL
/-- what an exception object of the class at C looks like -/
def ExcO (C a : Addr) : HO := .ext fun h => ∃ o, h.get? a = some o ∧ Zc (.ref C) none o ∧ ∃ vs, o.data = .fields vs
mutual
inductive Rep (K : PySem.W.Frag) (ca : Nat → Addr) (A : List Addr) (F : Hp) : V → D → Prop
  | non : Rep K ca A F .non .non
  | bl (b : Bool) : Rep K ca A F (.bl b) (.bl b)
  | int (i : Int) : Rep K ca A F (.int i) (.int i)
  | str (x : Str) : Rep K ca A F (.str x) (.str x)
  | lst {a : Addr} {xs : List V} {ds : List D} : F a = some (.lst xs) → RepAll K ca A F xs ds → Rep K ca A F (.ref a) (.lst ds)
  | fls {a : Addr} {xs : List V} {ds : List D} : SqL K F a xs → RepAll K ca A F xs ds → Rep K ca A F (.ref a) (.fls ds)
  | tup {a : Addr} {xs : List V} {ds : List D} : SqT K F a xs → RepAll K ca A F xs ds → Rep K ca A F (.ref a) (.tup ds)
  | obj {a : Addr} {n : Nat} : A[n]? = some a → Rep K ca A F (.ref a) (.obj n)
  | exc {a : Addr} {c : Nat} : F a = some (ExcO (ca c) a) → Rep K ca A F (.ref a) (.exc c)
inductive RepAll (K : PySem.W.Frag) (ca : Nat → Addr) (A : List Addr) (F : Hp) : List V → List D → Prop
  | nil : RepAll K ca A F [] []
  | cons {v : V} {vs : List V} {d : D} {ds : List D} : Rep K ca A F v d → RepAll K ca A F vs ds → RepAll K ca A F (v :: vs) (d :: ds)
end
structure G where
  F : Hp
  A : List Addr
  H : Hp
theorem same_t {K : PySem.W.Frag} {H H' : Hp} {a : Addr} {xs : List V} (e : Same H H') (h : SqT K H a xs) : SqT K H' a xs := by
  rcases h with (h | ⟨o, h⟩) | h
  · exact .inl (.inl (e _ _ h))
  · exact .inl (.inr ⟨o, e _ _ h⟩)
  · exact .inr h
section
variable {K : PySem.W.Frag} {ca : Nat → Addr}
mutual
theorem Rep.mono {A A' : List Addr} {F F' : Hp} (hA : ∃ m, A' = A ++ m) (hF : Same F F') : ∀ (d : D) (v : V), Rep K ca A F v d → Rep K ca A' F' v d
  | .non, _, h => by cases h; exact .non
  | .bl b, _, h => by cases h; exact .bl b
  | .int i, _, h => by cases h; exact .int i
  | .str x, _, h => by cases h; exact .str x
  | .lst ds, _, h => by
    cases h with
    | lst hs ha => exact .lst (hF _ _ hs) (RepAll.mono hA hF ds _ ha)
  | .fls ds, _, h => by
    cases h with
    | fls hs ha => exact .fls (hF.seq hs) (RepAll.mono hA hF ds _ ha)
  | .tup ds, _, h => by
    cases h with
    | tup hs ha => exact .tup (same_t hF hs) (RepAll.mono hA hF ds _ ha)
  | .obj n, _, h => by
    cases h with
    | obj e =>
      obtain ⟨m, rfl⟩ := hA
      refine .obj ?_
      rw [List.getElem?_append_left (List.getElem?_eq_some_iff.mp e).1]
      exact e
  | .exc c, _, h => by
    cases h with
    | exc e => exact .exc (hF _ _ e)
theorem RepAll.mono {A A' : List Addr} {F F' : Hp} (hA : ∃ m, A' = A ++ m) (hF : Same F F') : ∀ (ds : List D) (vs : List V), RepAll K ca A F vs ds → RepAll K ca A' F' vs ds
  | [], _, h => by cases h; exact .nil
  | d :: ds, _, h => by
    cases h with
    | cons h1 h2 => exact .cons (Rep.mono hA hF d _ h1) (RepAll.mono hA hF ds _ h2)
end
theorem RepAll.length {A : List Addr} {F : Hp} : ∀ {vs : List V} {ds : List D}, RepAll K ca A F vs ds → vs.length = ds.length
  | _, _, .nil => rfl
  | _, _, .cons _ t => by rw [List.length_cons, List.length_cons, RepAll.length t]
theorem RepAll.get' {A : List Addr} {F : Hp} : ∀ {vs : List V} {ds : List D} {i : Nat} {d : D}, RepAll K ca A F vs ds → ds[i]? = some d → ∃ v, vs[i]? = some v ∧ Rep K ca A F v d
  | _, _, _, _, .nil, e => by simp at e
  | _, _, 0, _, .cons r _, e => by
    simp at e
    subst e
    exact ⟨_, rfl, r⟩
  | _, _, i + 1, v, .cons _ t, e => by
    obtain ⟨d, h1, h2⟩ := RepAll.get' (i := i) (d := v) t (by simpa using e)
    exact ⟨d, by simpa using h1, h2⟩
theorem RepAll.append {A : List Addr} {F : Hp} : ∀ {vs ws : List V} {ds es : List D}, RepAll K ca A F vs ds → RepAll K ca A F ws es → RepAll K ca A F (vs ++ ws) (ds ++ es)
  | _, _, _, _, .nil, s => s
  | _, _, _, _, .cons r t, s => .cons r (RepAll.append t s)
theorem RepAll.take {A : List Addr} {F : Hp} : ∀ {vs : List V} {ds : List D} (n : Nat), RepAll K ca A F vs ds → RepAll K ca A F (vs.take n) (ds.take n)
  | _, _, 0, _ => .nil
  | _, _, _ + 1, .nil => .nil
  | _, _, n + 1, .cons r t => .cons r (RepAll.take n t)
theorem RepAll.drop {A : List Addr} {F : Hp} : ∀ {vs : List V} {ds : List D} (n : Nat), RepAll K ca A F vs ds → RepAll K ca A F (vs.drop n) (ds.drop n)
  | _, _, 0, r => r
  | _, _, _ + 1, .nil => .nil
  | _, _, n + 1, .cons _ t => RepAll.drop n t
theorem RepAll.set {A : List Addr} {F : Hp} {v : V} {d : D} (r : Rep K ca A F v d) : ∀ {vs : List V} {ds : List D} (i : Nat), RepAll K ca A F vs ds → RepAll K ca A F (vs.set i v) (ds.set i d)
  | _, _, _, .nil => .nil
  | _, _, 0, .cons _ t => .cons r t
  | _, _, i + 1, .cons q t => .cons q (RepAll.set r i t)
theorem RepAll.replicate {A : List Addr} {F : Hp} {v : V} {d : D} (r : Rep K ca A F v d) : ∀ n : Nat, RepAll K ca A F (List.replicate n v) (List.replicate n d)
  | 0 => .nil
  | n + 1 => .cons r (RepAll.replicate r n)
/-- values whose data is all ints (bools, texts) -/
theorem RepAll.ints {A : List Addr} {F : Hp} : ∀ {ns : List Int} {vs : List V}, RepAll K ca A F vs (ns.map D.int) → vs = ns.map V.int
  | [], _, h => by cases h; rfl
  | n :: ns, _, h => by
    cases h with
    | cons h1 h2 =>
      cases h1
      rw [List.map_cons, RepAll.ints h2]
theorem RepAll.ofInts {A : List Addr} {F : Hp} : ∀ (ns : List Int), RepAll K ca A F (ns.map V.int) (ns.map D.int)
  | [] => .nil
  | n :: ns => .cons (.int n) (RepAll.ofInts ns)
end
section
variable (K : PySem.W.Frag) (ca : Nat → Addr)
abbrev RepG (g : G) : V → D → Prop := Rep K ca g.A g.F
def RepO (A : List Addr) (F : Hp) : HO → OB → Prop
  | .lst xs, .lst ds => RepAll K ca A F xs ds
  | .dT kvs, .dT kds => Paired (fun (p : List Key × V) (q : List Key × D) => p.1 = q.1 ∧ Rep K ca A F p.2 q.2) kvs kds
  | .dK kvs, .dK kds => Paired (fun (p : Key × V) (q : Key × D) => p.1 = q.1 ∧ Rep K ca A F p.2 q.2) kvs kds
  | .ins C _ fs, .ins c fds => C = ca c ∧ Paired (fun (p : Str × V) (q : Str × D) => p.1 = q.1 ∧ Rep K ca A F p.2 q.2) fs fds
  | _, _ => False
structure Ok (g : G) (S : Store) : Prop where
  sub : Same g.F g.H
  len : g.A.length = S.length
  nd : g.A.Nodup
  fr : ∀ a ∈ g.A, g.F a = none
  ob : ∀ (n : Nat) (o : OB), S[n]? = some o → ∃ a ho, g.A[n]? = some a ∧ g.H a = some ho ∧ RepO K ca g.A g.F ho o
structure EnvR (g0 g : G) (σ : L2.St) (ρ : DEnv) : Prop where
  len : σ.length = ρ.length
  val : ∀ (i : Nat) (d : D), ρ[i]? = some (.val d) → ∃ v, σ[i]? = some (some v) ∧ RepG K ca g v d
  own : ∀ (i : Nat) (ds : List D), ρ[i]? = some (.own ds) → ∃ p xs, σ[i]? = some (some (.ref p)) ∧ g0.H p = none ∧ g.F p = none ∧ p ∉ g.A ∧ g.H p = some (.lst xs) ∧ RepAll K ca g.A g.F xs ds
  sep : ∀ (i j : Nat) (ds es : List D) (p : Addr), ρ[i]? = some (.own ds) → ρ[j]? = some (.own es) → σ[i]? = some (some (.ref p)) → σ[j]? = some (some (.ref p)) → i = j
end
structure Ext (g g' : G) : Prop where
  F : Same g.F g'.F
  A : ∃ m, g'.A = g.A ++ m ∧ ∀ a ∈ m, g.H a = none
  H : ∀ a o, a ∉ g.A → g.H a = some o → g'.H a = some o
  kp : ∀ a, g.H a ≠ none → g'.H a ≠ none
  nf : ∀ a, g.H a ≠ none → g.F a = none → g'.F a = none
theorem Ext.refl (g : G) : Ext g g := ⟨Same.refl _, ⟨[], by simp, fun _ h => nomatch h⟩, fun _ _ _ h => h, fun _ h => h, fun _ _ h => h⟩
theorem Ext.pre {g g' : G} (e : Ext g g') : ∃ m, g'.A = g.A ++ m := let ⟨m, h, _⟩ := e.A; ⟨m, h⟩
theorem Ext.out {g g' : G} (e : Ext g g') {a : Addr} (h : a ∉ g.A) (q : g.H a ≠ none) : a ∉ g'.A := by
  obtain ⟨m, h1, h2⟩ := e.A
  rw [h1, List.mem_append]
  rintro (z | z)
  · exact h z
  · exact q (h2 a z)
theorem Ext.trans {g g1 g2 : G} (a : Ext g g1) (b : Ext g1 g2) : Ext g g2 where
  F := a.F.trans b.F
  A := by
    obtain ⟨m, h1, h2⟩ := a.A
    obtain ⟨n, k1, k2⟩ := b.A
    refine ⟨m ++ n, by rw [k1, h1, List.append_assoc], fun x hx => ?_⟩
    rcases List.mem_append.mp hx with z | z
    · exact h2 x z
    · cases e : g.H x with
      | none => rfl
      | some o => exact absurd (k2 x z) (a.kp x (by rw [e]; exact fun q => nomatch q))
  H := fun x o h q => b.H x o (a.out h (by rw [q]; exact fun q => nomatch q)) (a.H x o h q)
  kp := fun x h => b.kp x (a.kp x h)
  nf := fun x h q => b.nf x (a.kp x h) (a.nf x h q)
section
variable {K : PySem.W.Frag} {ca : Nat → Addr}
theorem Rep.ext {g g' : G} (e : Ext g g') {v : V} {d : D} (h : RepG K ca g v d) : RepG K ca g' v d := Rep.mono e.pre e.F d v h
theorem RepAll.ext {g g' : G} (e : Ext g g') {vs : List V} {ds : List D} (h : RepAll K ca g.A g.F vs ds) : RepAll K ca g'.A g'.F vs ds := RepAll.mono e.pre e.F ds vs h
theorem some_ne {α : Type} {o : Option α} {x : α} (h : o = some x) : o ≠ none := by rw [h]; exact fun q => nomatch q
theorem EnvR.ext {g0 g g' : G} {σ : L2.St} {ρ : DEnv} (e : Ext g g') (h : EnvR K ca g0 g σ ρ) : EnvR K ca g0 g' σ ρ where
  len := h.len
  val := fun i d q => let ⟨v, a, b⟩ := h.val i d q; ⟨v, a, b.ext e⟩
  own := fun i ds q => by
    obtain ⟨p, xs, a, b, c, d, f, r⟩ := h.own i ds q
    exact ⟨p, xs, a, b, e.nf p (some_ne f) c, e.out d (some_ne f), e.H p _ d f, r.ext e⟩
  sep := h.sep
theorem paired_mono {κ : Type} {A A' : List Addr} {F F' : Hp} (hA : ∃ m, A' = A ++ m) (hF : Same F F') : ∀ {xs : List (κ × V)} {ys : List (κ × D)}, Paired (fun (p : κ × V) (q : κ × D) => p.1 = q.1 ∧ Rep K ca A F p.2 q.2) xs ys → Paired (fun (p : κ × V) (q : κ × D) => p.1 = q.1 ∧ Rep K ca A' F' p.2 q.2) xs ys
  | _, _, .nil => .nil
  | _, _, .cons h t => .cons ⟨h.1, Rep.mono hA hF _ _ h.2⟩ (paired_mono hA hF t)
theorem RepO.mono {A A' : List Addr} {F F' : Hp} (hA : ∃ m, A' = A ++ m) (hF : Same F F') {ho : HO} {o : OB} (h : RepO K ca A F ho o) : RepO K ca A' F' ho o := by
  cases o with
  | lst ds =>
    cases ho with
    | lst xs => exact RepAll.mono hA hF ds xs h
    | _ => exact h.elim
  | dT kds =>
    cases ho with
    | dT kvs => exact paired_mono hA hF h
    | _ => exact h.elim
  | dK kds =>
    cases ho with
    | dK kvs => exact paired_mono hA hF h
    | _ => exact h.elim
  | ins c fds =>
    cases ho with
    | ins C dx fs => exact ⟨h.1, paired_mono hA hF h.2⟩
    | _ => exact h.elim
theorem Ok.there {g : G} {S : Store} (ok : Ok K ca g S) {a : Addr} (h : a ∈ g.A) : g.H a ≠ none := by
  obtain ⟨n, hn⟩ := List.mem_iff_getElem?.mp h
  have hl : n < S.length := by rw [← ok.len]; exact (List.getElem?_eq_some_iff.mp hn).1
  obtain ⟨a', ho, e1, e2, _⟩ := ok.ob n S[n] (by simp [hl])
  rw [hn] at e1
  cases e1
  exact some_ne e2
theorem Ok.ffree {g : G} {S : Store} (ok : Ok K ca g S) {p : Addr} (h : g.H p = none) : g.F p = none := Same.free ok.sub h
theorem same_upd {F : Hp} {p : Addr} {o : HO} (h : F p = none) : Same F (upd F p o) := fun b u e => by
  rw [upd_ne (ne_of_none e h)]
  exact e
/-- a new object that never changes -/
def G.frz (g : G) (p : Addr) (o : HO) : G := ⟨upd g.F p o, g.A, upd g.H p o⟩
/-- a new object that one holds alone -/
def G.put (g : G) (p : Addr) (o : HO) : G := ⟨g.F, g.A, upd g.H p o⟩
theorem ext_frz {g : G} {S : Store} (ok : Ok K ca g S) {p : Addr} {o : HO} (h : g.H p = none) : Ext g (g.frz p o) where
  F := same_upd (ok.ffree h)
  A := ⟨[], by simp [G.frz], fun _ q => nomatch q⟩
  H := fun a u _ e => by
    show upd g.H p o a = some u
    rw [upd_ne (ne_of_none e h)]
    exact e
  kp := fun a e => by
    show upd g.H p o a ≠ none
    unfold upd
    split
    · exact fun q => nomatch q
    · exact e
  nf := fun a e f => by
    show upd g.F p o a = none
    rw [upd_ne (fun q => e (by rw [q]; exact h))]
    exact f
theorem ok_frz {g : G} {S : Store} (ok : Ok K ca g S) {p : Addr} {o : HO} (h : g.H p = none) : Ok K ca (g.frz p o) S where
  sub := fun b u e => by
    have e' : upd g.F p o b = some u := e
    show upd g.H p o b = some u
    by_cases hb : b = p
    · subst hb
      rw [upd_same] at e'
      rw [upd_same]
      exact e'
    · rw [upd_ne hb] at e'
      rw [upd_ne hb]
      exact ok.sub b u e'
  len := ok.len
  nd := ok.nd
  fr := fun a ha => by
    show upd g.F p o a = none
    rw [upd_ne (fun q => ok.there ha (by rw [q]; exact h))]
    exact ok.fr a ha
  ob := fun n o' e => by
    obtain ⟨a, ho, e1, e2, e3⟩ := ok.ob n o' e
    refine ⟨a, ho, e1, ?_, RepO.mono ⟨[], by simp [G.frz]⟩ (same_upd (ok.ffree h)) e3⟩
    show upd g.H p o a = some ho
    rw [upd_ne (ne_of_none e2 h)]
    exact e2
theorem ext_put {g : G} {p : Addr} {o : HO} (h : g.H p = none) : Ext g (g.put p o) where
  F := Same.refl _
  A := ⟨[], by simp [G.put], fun _ q => nomatch q⟩
  H := fun a u _ e => by
    show upd g.H p o a = some u
    rw [upd_ne (ne_of_none e h)]
    exact e
  kp := fun a e => by
    show upd g.H p o a ≠ none
    unfold upd
    split
    · exact fun q => nomatch q
    · exact e
  nf := fun a e f => f
theorem ok_put {g : G} {S : Store} (ok : Ok K ca g S) {p : Addr} {o : HO} (h : g.F p = none) (hA : p ∉ g.A) : Ok K ca (g.put p o) S where
  sub := fun b u e => by
    show upd g.H p o b = some u
    rw [upd_ne (fun q => by rw [q] at e; rw [show g.F p = some u from e] at h; cases h)]
    exact ok.sub b u e
  len := ok.len
  nd := ok.nd
  fr := ok.fr
  ob := fun n o' e => by
    obtain ⟨a, ho, e1, e2, e3⟩ := ok.ob n o' e
    refine ⟨a, ho, e1, ?_, e3⟩
    show upd g.H p o a = some ho
    rw [upd_ne (fun q => hA (by rw [← q]; exact List.mem_iff_getElem?.mpr ⟨n, e1⟩))]
    exact e2
end
end DL
set_option Elab.async false
set_option linter.all false
set_option maxRecDepth 100000
set_option maxHeartbeats 1000000
namespace DL
open PySem PySem.Spec PyProof.Rows L2
inductive OutS where
  | nx (ρ : DEnv) (S : Store)
  | ret (d : D) (S : Store)
  | brk (ρ : DEnv) (S : Store)
  | cnt (ρ : DEnv) (S : Store)
  | exc (c : Nat) (S : Store)
  | bad
abbrev DS := DEnv → Store → OutS
def OutL.bind (o : OutL) (k : List D → Store → Out) : Out := match o with
  | .ok d S => k d S
  | .exc c S => .exc c S
  | .bad => .bad
def Out.bindA (o : Out) (k : D → Store → OutL) : OutL := match o with
  | .ok d S => k d S
  | .exc c S => .exc c S
  | .bad => .bad
def OutL.bindA (o : OutL) (k : List D → Store → OutL) : OutL := match o with
  | .ok d S => k d S
  | .exc c S => .exc c S
  | .bad => .bad
def Out.bindS (o : Out) (k : D → Store → OutS) : OutS := match o with
  | .ok d S => k d S
  | .exc c S => .exc c S
  | .bad => .bad
def Grow (g g' : G) : Prop := Same g.F g'.F ∧ ∃ m, g'.A = g.A ++ m
theorem Grow.refl (g : G) : Grow g g := ⟨Same.refl _, [], by simp⟩
theorem Grow.trans {g g1 g2 : G} (a : Grow g g1) (b : Grow g1 g2) : Grow g g2 := by
  obtain ⟨a1, m, a2⟩ := a
  obtain ⟨b1, n, b2⟩ := b
  exact ⟨a1.trans b1, m ++ n, by rw [b2, a2, List.append_assoc]⟩
theorem Ext.grow {g g' : G} (e : Ext g g') : Grow g g' := ⟨e.F, e.pre⟩
section
variable (K : PySem.W.Frag) (ca : Nat → Addr)
def PostE (E : XK) (g : G) (o : Out) (Q : VK) : Prop := match o with
  | .ok d S => ∀ v g', Ext g g' → Ok K ca g' S → RepG K ca g' v d → Q v g'.H
  | .exc c S => ∀ g', Ext g g' → Ok K ca g' S → E (.ref (ca c)) none g'.H
  | .bad => False
/-- a new list that nobody else holds -/
def PostF (E : XK) (g : G) (o : Out) (Q : VK) : Prop := match o with
  | .ok (.lst ds) S => ∀ p xs g', Ext g g' → Ok K ca g' S → g.H p = none → g'.F p = none → p ∉ g'.A → g'.H p = some (.lst xs) → RepAll K ca g'.A g'.F xs ds → Q (.ref p) g'.H
  | .ok _ _ => False
  | .exc c S => ∀ g', Ext g g' → Ok K ca g' S → E (.ref (ca c)) none g'.H
  | .bad => False
def PostA (n : Nat) (E : XK) (g : G) (o : OutL) (Q : List V → Hp → Prop) : Prop := match o with
  | .ok ds S => ∀ vs g', Ext g g' → Ok K ca g' S → RepAll K ca g'.A g'.F vs ds → vs.length = n → Q vs g'.H
  | .exc c S => ∀ g', Ext g g' → Ok K ca g' S → E (.ref (ca c)) none g'.H
  | .bad => False
def PostS (E : XK) (g0 g : G) (o : OutS) (Dn : Ends) : Prop := match o with
  | .nx ρ S => ∀ σ g', Ext g0 g' → Grow g g' → Ok K ca g' S → EnvR K ca g0 g' σ ρ → Dn.nx σ g'.H
  | .ret d S => ∀ v g', Ext g0 g' → Ok K ca g' S → RepG K ca g' v d → Dn.rt v g'.H
  | .brk ρ S => ∀ σ g', Ext g0 g' → Grow g g' → Ok K ca g' S → EnvR K ca g0 g' σ ρ → Dn.bk σ g'.H
  | .cnt ρ S => ∀ σ g', Ext g0 g' → Grow g g' → Ok K ca g' S → EnvR K ca g0 g' σ ρ → Dn.ct σ g'.H
  | .exc c S => ∀ g', Ext g0 g' → Ok K ca g' S → E (.ref (ca c)) none g'.H
  | .bad => False
def rdE (E : XK) (f : DE) : TE := fun σ H Q => ∃ g0 g ρ S, g.H = H ∧ Ok K ca g S ∧ EnvR K ca g0 g σ ρ ∧ PostE K ca E g (f ρ S) Q
def rdF (E : XK) (f : DE) : TE := fun σ H Q => ∃ g0 g ρ S, g.H = H ∧ Ok K ca g S ∧ EnvR K ca g0 g σ ρ ∧ PostF K ca E g (f ρ S) Q
def rdT (E : XK) (f : DE) : TT := fun σ H Q => ∃ g0 g ρ S, g.H = H ∧ Ok K ca g S ∧ EnvR K ca g0 g σ ρ ∧ PostE K ca E g (f ρ S) fun v H' => ∃ b, v = .bl b ∧ Q b H'
def rdA (n : Nat) (E : XK) (f : DA) : TA := fun σ H Q => ∃ g0 g ρ S, g.H = H ∧ Ok K ca g S ∧ EnvR K ca g0 g σ ρ ∧ PostA K ca n E g (f ρ S) Q
def rdS (E : XK) (f : DS) : TS := fun Dn σ H => ∃ g0 g ρ S, g.H = H ∧ Ext g0 g ∧ Ok K ca g S ∧ EnvR K ca g0 g σ ρ ∧ PostS K ca E g0 g (f ρ S) Dn
end
section
variable {X : Cx}
theorem wkE {e : Expr} {t t' : TE} (h : PE X e t) (k : ∀ σ H Q, t' σ H Q → t σ H Q) : PE X e t' := ⟨fun pins s σ H Q I q => h.run pins s σ H Q I (k σ H Q q)⟩
theorem wkT {e : Expr} {t t' : TT} (h : PT X e t) (k : ∀ σ H Q, t' σ H Q → t σ H Q) : PT X e t' := ⟨fun pins s σ H Q I q => h.run pins s σ H Q I (k σ H Q q)⟩
theorem wkW {e : Expr} {t t' : TT} (h : PW X e t) (k : ∀ σ H Q, t' σ H Q → t σ H Q) : PW X e t' := ⟨fun w pins s σ H Q I q => h.run w pins s σ H Q I (k σ H Q q)⟩
theorem wkA {es : List Expr} {t t' : TA} (h : PA X es t) (k : ∀ σ H Q, t' σ H Q → t σ H Q) : PA X es t' := ⟨fun pos pins s σ H Q I q => h.run pos pins s σ H Q I (k σ H Q q)⟩
theorem wkS {st : Stmt} {t t' : TS} (h : PS X st t) (k : ∀ Dn σ H, t' Dn σ H → t Dn σ H) : PS X st t' := ⟨fun pins s σ H Dn I q => h.run pins s σ H Dn I (k Dn σ H q)⟩
theorem wkSs {st : List Stmt} {t t' : TS} (h : PSs X st t) (k : ∀ Dn σ H, t' Dn σ H → t Dn σ H) : PSs X st t' := ⟨fun pins s σ H Dn I q => h.run pins s σ H Dn I (k Dn σ H q)⟩
end
section
variable {K : PySem.W.Frag} {ca : Nat → Addr} {E : XK} {g g1 : G} {Q R : VK}
theorem PostE.ext {o : Out} (e : Ext g g1) (h : PostE K ca E g o Q) : PostE K ca E g1 o Q := by
  cases o with
  | ok d S => exact fun v g' a b c => h v g' (e.trans a) b c
  | exc c S => exact fun g' a b => h g' (e.trans a) b
  | bad => exact h
theorem PostF.ext {o : Out} (e : Ext g g1) (h : PostF K ca E g o Q) : PostF K ca E g1 o Q := by
  cases o with
  | ok d S =>
    cases d with
    | lst ds => exact fun p xs g' a b c => h p xs g' (e.trans a) b (by
        cases q : g.H p with
        | none => rfl
        | some o => exact absurd c (e.kp p (some_ne q)))
    | _ => exact h
  | exc c S => exact fun g' a b => h g' (e.trans a) b
  | bad => exact h
theorem PostA.ext {n : Nat} {o : OutL} {Q : List V → Hp → Prop} (e : Ext g g1) (h : PostA K ca n E g o Q) : PostA K ca n E g1 o Q := by
  cases o with
  | ok d S => exact fun v g' a b c => h v g' (e.trans a) b c
  | exc c S => exact fun g' a b => h g' (e.trans a) b
  | bad => exact h
theorem PostS.grow {g0 : G} {o : OutS} {Dn : Ends} (e : Grow g g1) (h : PostS K ca E g0 g o Dn) : PostS K ca E g0 g1 o Dn := by
  cases o with
  | nx ρ S => exact fun σ g' a b c d => h σ g' a (e.trans b) c d
  | ret d S => exact h
  | brk ρ S => exact fun σ g' a b c d => h σ g' a (e.trans b) c d
  | cnt ρ S => exact fun σ g' a b c d => h σ g' a (e.trans b) c d
  | exc c S => exact h
  | bad => exact h
/-- THE STEP: from what is wanted behind both to what is wanted behind the first -/
theorem PostE.bind {o : Out} {k : D → Store → Out} (h : PostE K ca E g (o.bind k) Q)
    (hk : ∀ d S v g', Ext g g' → Ok K ca g' S → RepG K ca g' v d → PostE K ca E g' (k d S) Q → R v g'.H) : PostE K ca E g o R := by
  cases o with
  | ok d S => exact fun v g' a b c => hk d S v g' a b c (PostE.ext a h)
  | exc c S => exact h
  | bad => exact h
theorem PostF.of_bind {o : Out} {k : D → Store → Out} (h : PostF K ca E g (o.bind k) Q)
    (hk : ∀ d S v g', Ext g g' → Ok K ca g' S → RepG K ca g' v d → PostF K ca E g' (k d S) Q → R v g'.H) : PostE K ca E g o R := by
  cases o with
  | ok d S => exact fun v g' a b c => hk d S v g' a b c (PostF.ext a h)
  | exc c S => exact h
  | bad => exact h
theorem PostA.of_bindE {n : Nat} {o : Out} {k : D → Store → OutL} {Q : List V → Hp → Prop} (h : PostA K ca n E g (o.bindA k) Q)
    (hk : ∀ d S v g', Ext g g' → Ok K ca g' S → RepG K ca g' v d → PostA K ca n E g' (k d S) Q → R v g'.H) : PostE K ca E g o R := by
  cases o with
  | ok d S => exact fun v g' a b c => hk d S v g' a b c (PostA.ext a h)
  | exc c S => exact h
  | bad => exact h
theorem PostA.of_bindA {n m : Nat} {o : OutL} {k : List D → Store → OutL} {Q R : List V → Hp → Prop} (h : PostA K ca n E g (o.bindA k) Q)
    (hk : ∀ ds S vs g', Ext g g' → Ok K ca g' S → RepAll K ca g'.A g'.F vs ds → vs.length = m → PostA K ca n E g' (k ds S) Q → R vs g'.H) : PostA K ca m E g o R := by
  cases o with
  | ok d S => exact fun v g' a b c l => hk d S v g' a b c l (PostA.ext a h)
  | exc c S => exact h
  | bad => exact h
theorem PostE.bindL {m : Nat} {o : OutL} {k : List D → Store → Out} {R : List V → Hp → Prop} (h : PostE K ca E g (o.bind k) Q)
    (hk : ∀ ds S vs g', Ext g g' → Ok K ca g' S → RepAll K ca g'.A g'.F vs ds → vs.length = m → PostE K ca E g' (k ds S) Q → R vs g'.H) : PostA K ca m E g o R := by
  cases o with
  | ok d S => exact fun v g' a b c l => hk d S v g' a b c l (PostE.ext a h)
  | exc c S => exact h
  | bad => exact h
theorem PostF.bindL {m : Nat} {o : OutL} {k : List D → Store → Out} {R : List V → Hp → Prop} (h : PostF K ca E g (o.bind k) Q)
    (hk : ∀ ds S vs g', Ext g g' → Ok K ca g' S → RepAll K ca g'.A g'.F vs ds → vs.length = m → PostF K ca E g' (k ds S) Q → R vs g'.H) : PostA K ca m E g o R := by
  cases o with
  | ok d S => exact fun v g' a b c l => hk d S v g' a b c l (PostF.ext a h)
  | exc c S => exact h
  | bad => exact h
theorem PostS.bindE {g0 : G} {o : Out} {k : D → Store → OutS} {Dn : Ends} (h0 : Ext g0 g) (h : PostS K ca E g0 g (o.bindS k) Dn)
    (hk : ∀ d S v g', Ext g g' → Ok K ca g' S → RepG K ca g' v d → PostS K ca E g0 g' (k d S) Dn → R v g'.H) : PostE K ca E g o R := by
  cases o with
  | ok d S => exact fun v g' a b c => hk d S v g' a b c (PostS.grow a.grow h)
  | exc c S => exact fun g' a b => h g' (h0.trans a) b
  | bad => exact h
theorem PostE.here {d : D} {S : Store} {v : V} (h : PostE K ca E g (.ok d S) Q) (ok : Ok K ca g S) (r : RepG K ca g v d) : Q v g.H := h v g (Ext.refl g) ok r
/-- what a new list, held by nobody else, is as plain data -/
theorem PostE.fresh {o : Out} (h : PostE K ca E g o Q) (hl : ∀ d S, o = .ok d S → ∃ ds, d = .lst ds) : PostF K ca E g o Q := by
  cases o with
  | ok d S =>
    obtain ⟨ds, rfl⟩ := hl d S rfl
    intro p xs g' e ok np fp pA hp r
    have fs : Same g'.F (upd g'.F p (.lst xs)) := same_upd fp
    have q := h (.ref p) ⟨upd g'.F p (.lst xs), g'.A, g'.H⟩ ?_ ?_ (.lst upd_same (RepAll.mono ⟨[], by simp⟩ fs ds xs r))
    · exact q
    · refine ⟨e.F.trans fs, e.A, e.H, e.kp, fun a ha fa => ?_⟩
      show upd g'.F p (.lst xs) a = none
      rw [upd_ne (fun z => ha (by rw [z]; exact np))]
      exact e.nf a ha fa
    · refine ⟨fun b u q => ?_, ok.len, ok.nd, fun a ha => ?_, fun n o' q => ?_⟩
      · have q' : upd g'.F p (.lst xs) b = some u := q
        by_cases hb : b = p
        · subst hb
          rw [upd_same] at q'
          exact hp.trans q'
        · rw [upd_ne hb] at q'
          exact ok.sub b u q'
      · show upd g'.F p (.lst xs) a = none
        rw [upd_ne (fun z => pA (by rw [← z]; exact ha))]
        exact ok.fr a ha
      · obtain ⟨a, ho, e1, e2, e3⟩ := ok.ob n o' q
        exact ⟨a, ho, e1, e2, RepO.mono ⟨[], by simp⟩ fs e3⟩
  | exc c S => exact h
  | bad => exact h
end
def eVar (i : Nat) : DE := fun ρ S => match ρ[i]? with
  | some (.val d) => .ok d S
  | _ => .bad
def eC (d : D) : DE := fun _ S => .ok d S
section
variable {X : Cx} {ca : Nat → Addr} {E : XK}
theorem ge_tvar (i : Nat) {x : Str} {pos : Pos} (h : PE X (.Name x pos) (tVar i)) : PE X (.Name x pos) (rdE X.K ca E (eVar i)) := wkE h fun σ H Q q => by
  obtain ⟨g0, g, ρ, S, rfl, ok, env, post⟩ := q
  unfold eVar at post
  cases e : ρ[i]? with
  | none => rw [e] at post; exact post.elim
  | some s =>
    cases s with
    | emp => rw [e] at post; exact post.elim
    | own ds => rw [e] at post; exact post.elim
    | val d =>
      rw [e] at post
      obtain ⟨v, h1, h2⟩ := env.val i d e
      exact ⟨v, h1, post.here ok h2⟩
theorem ge_tc {e : Expr} {v : V} {d : D} (h : PE X e (tC v)) (r : ∀ A F, Rep X.K ca A F v d) : PE X e (rdE X.K ca E (eC d)) := wkE h fun σ H Q q => by
  obtain ⟨g0, g, ρ, S, rfl, ok, env, post⟩ := q
  exact PostE.here post ok (r _ _)
theorem ge_int {i j pos} : PE X (.Constant (.int i) j pos) (rdE X.K ca E (eC (.int i))) := ge_tc pe_int fun _ _ => .int i
theorem ge_bl {b j pos} : PE X (.Constant (.bool b) j pos) (rdE X.K ca E (eC (.bl b))) := ge_tc pe_bl fun _ _ => .bl b
end
/-- the name that stands in the i-th slot -/
theorem gv (i : Nat) {X : Cx} {ca : Nat → Addr} {E : XK} {x : Str} {pos : Pos} (hN : X.N[i]? = some x := by rfl) (hv : Vis X.env.scope x := by first | exact Or.inl rfl | exact Or.inr (Or.inl rfl) | exact Or.inr (Or.inr rfl))
    (hd : (x == ("__debug__" : Str)) = false := by decide) (hcd : (x == ("__classdict__" : Str)) = false := by decide) : PE X (.Name x pos) (rdE X.K ca E (eVar i)) := ge_tvar i (pe_var hN hv hd hcd)
abbrev D2 := D → D → Store → Out
abbrev D1 := D → Store → Out
def eBin (op : D2) (a b : DE) : DE := fun ρ S => (a ρ S).bind fun x S1 => (b ρ S1).bind fun y S2 => op x y S2
def eUn (op : D1) (a : DE) : DE := fun ρ S => (a ρ S).bind fun x S1 => op x S1
/-- an operation on values follows one on data -/
def OpS (K : PySem.W.Frag) (ca : Nat → Addr) (E : XK) (r : R2) (op : D2) : Prop :=
  ∀ g S v w d1 d2 Q, Ok K ca g S → RepG K ca g v d1 → RepG K ca g w d2 → PostE K ca E g (op d1 d2 S) Q → r v w g.H Q
def UnS (K : PySem.W.Frag) (ca : Nat → Addr) (E : XK) (r : V → Hp → VK → Prop) (op : D1) : Prop :=
  ∀ g S v d Q, Ok K ca g S → RepG K ca g v d → PostE K ca E g (op d S) Q → r v g.H Q
section
variable {X : Cx} {ca : Nat → Addr} {E : XK} {a b c : Expr} {fa fb fc : DE} {pos : Pos}
theorem rd_bin {r : R2} {op : D2} (hr : OpS X.K ca E r op) (σ : L2.St) (H : Hp) (Q : VK) (q : rdE X.K ca E (eBin op fa fb) σ H Q) : tOp r (rdE X.K ca E fa) (rdE X.K ca E fb) σ H Q := by
  obtain ⟨g0, g, ρ, S, rfl, ok, env, post⟩ := q
  refine ⟨g0, g, ρ, S, rfl, ok, env, PostE.bind post fun d1 S1 v g1 e1 ok1 r1 post1 => ?_⟩
  refine ⟨g0, g1, ρ, S1, rfl, ok1, env.ext e1, PostE.bind post1 fun d2 S2 w g2 e2 ok2 r2 post2 => ?_⟩
  exact hr g2 S2 v w d1 d2 Q ok2 (r1.ext e2) r2 post2
theorem ge_op {op : Operator} {r : R2} {o2 : D2} (ho : OpR X (binaryOp op) r) (hr : OpS X.K ca E r o2) (ha : PE X a (rdE X.K ca E fa)) (hb : PE X b (rdE X.K ca E fb)) : PE X (.BinOp a op b pos) (rdE X.K ca E (eBin o2 fa fb)) := wkE (pe_op ho ha hb) (rd_bin hr)
theorem ge_cmp {op : CmpOp} {r : R2} {o2 : D2} (ho : OpR X (compareOp op) r) (hr : OpS X.K ca E r o2) (ha : PE X a (rdE X.K ca E fa)) (hb : PE X b (rdE X.K ca E fb)) (hm : behindInMarks op b = false) : PE X (.Compare a [op] [b] pos) (rdE X.K ca E (eBin o2 fa fb)) := wkE (pe_cmpR ho ha hb hm) (rd_bin hr)
theorem rd_test {t : DE} (σ : L2.St) (H : Hp) (Q : Bool → Hp → Prop) (q : rdT X.K ca E t σ H Q) : tTest (rdE X.K ca E t) σ H Q := by
  obtain ⟨g0, g, ρ, S, rfl, ok, env, post⟩ := q
  exact ⟨g0, g, ρ, S, rfl, ok, env, post⟩
theorem rd_testB {t : DE} (σ : L2.St) (H : Hp) (Q : Bool → Hp → Prop) (q : rdT X.K ca E t σ H Q) : tB (rdE X.K ca E t) σ H Q := by
  obtain ⟨g0, g, ρ, S, rfl, ok, env, post⟩ := q
  exact ⟨g0, g, ρ, S, rfl, ok, env, post⟩
theorem gt_cmp {op : CmpOp} {r : R2} {o2 : D2} (ho : OpR X (compareOp op) r) (hr : OpS X.K ca E r o2) (ha : PE X a (rdE X.K ca E fa)) (hb : PE X b (rdE X.K ca E fb)) (hm : behindInMarks op b = false) : PT X (.Compare a [op] [b] pos) (rdT X.K ca E (eBin o2 fa fb)) :=
  wkT (pt_cmpR ho ha hb hm) fun σ H Q q => rd_bin hr σ H _ (rd_test σ H Q q)
theorem gt_val {e : Expr} {f : DE} (h : PE X e (rdE X.K ca E f)) (he : ∀ whole, isTrue e X.env whole = (do let v ← whole; standAt e.pos; holding [v] (truthy v)) := by intro _; rfl) : PT X e (rdT X.K ca E f) := wkT (pt_val h he) rd_testB
theorem ge_un {op : UnaryOp} {r : V → Hp → VK → Prop} {o1 : D1} (ho : UnR X (unaryOp op) r) (hr : UnS X.K ca E r o1) (ha : PE X a (rdE X.K ca E fa)) : PE X (.UnaryOp op a pos) (rdE X.K ca E (eUn o1 fa)) := wkE (pe_un ho ha) fun σ H Q q => by
  obtain ⟨g0, g, ρ, S, rfl, ok, env, post⟩ := q
  exact ⟨g0, g, ρ, S, rfl, ok, env, PostE.bind post fun d1 S1 v g1 e1 ok1 r1 post1 => hr g1 S1 v d1 Q ok1 r1 post1⟩
def eChain (o o' : D2) (a b c : DE) : DE := fun ρ S => (a ρ S).bind fun x S1 => (b ρ S1).bind fun y S2 => (o x y S2).bind fun k S3 => match k with
  | .bl true => (c ρ S3).bind fun z S4 => o' y z S4
  | .bl false => .ok (.bl false) S3
  | _ => .bad
end
def eAnd (a b : DE) : DE := fun ρ S => (a ρ S).bind fun x S1 => match x with
  | .bl true => b ρ S1
  | .bl false => .ok (.bl false) S1
  | _ => .bad
def eOr (a b : DE) : DE := fun ρ S => (a ρ S).bind fun x S1 => match x with
  | .bl true => .ok (.bl true) S1
  | .bl false => b ρ S1
  | _ => .bad
def oNot : D1 := fun x S => match x with
  | .bl b => .ok (.bl (!b)) S
  | _ => .bad
def eNot (a : DE) : DE := eUn oNot a
def eIf (c a b : DE) : DE := fun ρ S => (c ρ S).bind fun x S1 => match x with
  | .bl true => a ρ S1
  | .bl false => b ρ S1
  | _ => .bad
section
variable {X : Cx} {ca : Nat → Addr} {E : XK} {a b c : Expr} {fa fb fc : DE} {pos : Pos} {rest : List Expr}
theorem gw_or1 (ha : PT X a (rdT X.K ca E fa)) : PW X (.BoolOp .Or [a] pos) (rdT X.K ca E fa) := pw_or1 ha
theorem gw_or (ha : PT X a (rdT X.K ca E fa)) (hb : PW X (.BoolOp .Or (b :: rest) pos) (rdT X.K ca E fb)) : PW X (.BoolOp .Or (a :: b :: rest) pos) (rdT X.K ca E (eOr fa fb)) := wkW (pw_or ha hb) fun σ H Q q => by
  obtain ⟨g0, g, ρ, S, rfl, ok, env, post⟩ := q
  refine ⟨g0, g, ρ, S, rfl, ok, env, PostE.bind post fun d1 S1 v g1 e1 ok1 r1 post1 => ?_⟩
  cases r1 with
  | bl k =>
    refine ⟨k, rfl, ?_⟩
    cases k with
    | false => exact iteF ⟨g0, g1, ρ, S1, rfl, ok1, env.ext e1, post1⟩
    | true =>
      refine iteT ?_
      obtain ⟨b', e', q'⟩ := PostE.here post1 ok1 (.bl true)
      cases e'
      exact q'
  | _ => exact post1.elim
theorem gt_not (ha : PT X a (rdT X.K ca E fa)) : PT X (.UnaryOp .Not a pos) (rdT X.K ca E (eNot fa)) := wkT (pt_not ha) fun σ H Q q => by
  obtain ⟨g0, g, ρ, S, rfl, ok, env, post⟩ := q
  refine ⟨g0, g, ρ, S, rfl, ok, env, PostE.bind post fun d1 S1 v g1 e1 ok1 r1 post1 => ?_⟩
  cases r1 with
  | bl k =>
    refine ⟨k, rfl, ?_⟩
    obtain ⟨b', e', q'⟩ := PostE.here post1 ok1 (.bl (!k))
    cases e'
    exact q'
  | _ => exact post1.elim
theorem ge_and (ha : PE X a (rdE X.K ca E fa)) (hb : PE X (.BoolOp .And (b :: rest) pos) (rdE X.K ca E fb)) : PE X (.BoolOp .And (a :: b :: rest) pos) (rdE X.K ca E (eAnd fa fb)) := wkE (pe_and ha hb) fun σ H Q q => by
  obtain ⟨g0, g, ρ, S, rfl, ok, env, post⟩ := q
  refine ⟨g0, g, ρ, S, rfl, ok, env, PostE.bind post fun d1 S1 v g1 e1 ok1 r1 post1 => ?_⟩
  cases r1 with
  | bl k =>
    refine ⟨k, rfl, ?_⟩
    cases k with
    | true => exact iteT ⟨g0, g1, ρ, S1, rfl, ok1, env.ext e1, post1⟩
    | false => exact iteF (PostE.here post1 ok1 (.bl false))
  | _ => exact post1.elim
theorem ge_one {op} (ha : PE X a (rdE X.K ca E fa)) : PE X (.BoolOp op [a] pos) (rdE X.K ca E fa) := pe_one ha
theorem ge_not (ha : PE X a (rdE X.K ca E fa)) : PE X (.UnaryOp .Not a pos) (rdE X.K ca E (eNot fa)) := wkE (pe_not ha) fun σ H Q q => by
  obtain ⟨g0, g, ρ, S, rfl, ok, env, post⟩ := q
  refine ⟨g0, g, ρ, S, rfl, ok, env, PostE.bind post fun d1 S1 v g1 e1 ok1 r1 post1 => ?_⟩
  cases r1 with
  | bl k => exact ⟨k, rfl, PostE.here post1 ok1 (.bl (!k))⟩
  | _ => exact post1.elim
theorem ge_if (hc : PT X c (rdT X.K ca E fc)) (ha : PE X a (rdE X.K ca E fa)) (hb : PE X b (rdE X.K ca E fb)) : PE X (.IfExp c a b pos) (rdE X.K ca E (eIf fc fa fb)) := wkE (pe_ifExp hc ha hb) fun σ H Q q => by
  obtain ⟨g0, g, ρ, S, rfl, ok, env, post⟩ := q
  refine ⟨g0, g, ρ, S, rfl, ok, env, PostE.bind post fun d1 S1 v g1 e1 ok1 r1 post1 => ?_⟩
  cases r1 with
  | bl k =>
    refine ⟨k, rfl, ?_⟩
    cases k with
    | true => exact iteT ⟨g0, g1, ρ, S1, rfl, ok1, env.ext e1, post1⟩
    | false => exact iteF ⟨g0, g1, ρ, S1, rfl, ok1, env.ext e1, post1⟩
  | _ => exact post1.elim
end
def aNil : DA := fun _ S => .ok [] S
def aCons (a : DE) (r : DA) : DA := fun ρ S => (a ρ S).bindA fun x S1 => (r ρ S1).bindA fun xs S2 => .ok (x :: xs) S2
def eTup (a : DA) : DE := fun ρ S => (a ρ S).bind fun ds S1 => .ok (.tup ds) S1
def eLst (a : DA) : DE := fun ρ S => (a ρ S).bind fun ds S1 => .ok (.lst ds) S1
section
variable {X : Cx} {ca : Nat → Addr} {E : XK} {a : Expr} {es : List Expr} {fa : DE} {fr : DA} {pos : Pos} {n : Nat}
theorem ga_nil : PA X [] (rdA X.K ca 0 E aNil) := wkA pa_nil fun σ H Q q => by
  obtain ⟨g0, g, ρ, S, rfl, ok, env, post⟩ := q
  exact post [] g (Ext.refl g) ok .nil rfl
theorem ga_cons (ha : PE X a (rdE X.K ca E fa)) (hr : PA X es (rdA X.K ca n E fr)) (hs : starEach (a :: es) X.env = (false, eval a X.env) :: starEach es X.env := by rfl) : PA X (a :: es) (rdA X.K ca (n + 1) E (aCons fa fr)) := wkA (pa_cons ha hr hs) fun σ H Q q => by
  obtain ⟨g0, g, ρ, S, rfl, ok, env, post⟩ := q
  refine ⟨g0, g, ρ, S, rfl, ok, env, PostA.of_bindE post fun d1 S1 v g1 e1 ok1 r1 post1 => ?_⟩
  refine ⟨g0, g1, ρ, S1, rfl, ok1, env.ext e1, PostA.of_bindA post1 fun ds S2 vs g2 e2 ok2 r2 hl post2 => ?_⟩
  exact post2 (v :: vs) g2 (Ext.refl _) ok2 (.cons (r1.ext e2) r2) (by rw [List.length_cons, hl])
theorem ge_tup {x1} (h : PA X es (rdA X.K ca n E fr)) (hn : n ≤ 100000 := by decide) : PE X (.Tuple es x1 pos) (rdE X.K ca E (eTup fr)) := wkE (pe_tup h) fun σ H Q q => by
  obtain ⟨g0, g, ρ, S, rfl, ok, env, post⟩ := q
  refine ⟨g0, g, ρ, S, rfl, ok, env, PostE.bindL post fun ds S1 vs g1 e1 ok1 r1 hl post1 => ?_⟩
  refine ⟨by rw [hl]; exact Nat.le_trans hn (by decide), fun p hp => ?_⟩
  exact post1 (.ref p) (g1.frz p (.tup vs)) (ext_frz ok1 hp) (ok_frz ok1 hp) (.tup (SqT.of upd_same) (RepAll.ext (ext_frz ok1 hp) r1))
theorem gf_lst (h : PA X es (rdA X.K ca n E fr)) (hn : n ≤ 100000 := by decide) : PE X (.List es pos) (rdF X.K ca E (eLst fr)) := wkE (pe_lst h) fun σ H Q q => by
  obtain ⟨g0, g, ρ, S, rfl, ok, env, post⟩ := q
  refine ⟨g0, g, ρ, S, rfl, ok, env, PostF.bindL post fun ds S1 vs g1 e1 ok1 r1 hl post1 => ?_⟩
  refine ⟨by rw [hl]; exact Nat.le_trans hn (by decide), fun p hp => ?_⟩
  exact post1 p vs (g1.put p (.lst vs)) (ext_put hp) (ok_put ok1 (ok1.ffree hp) fun z => ok1.there z hp) hp (ok1.ffree hp) (fun z => ok1.there z hp) upd_same r1
/-- a new list as plain data -/
theorem gf_ge {e : Expr} {f : DE} (h : PE X e (rdF X.K ca E f)) (hl : ∀ ρ S d S', f ρ S = .ok d S' → ∃ ds, d = .lst ds) : PE X e (rdE X.K ca E f) := wkE h fun σ H Q q => by
  obtain ⟨g0, g, ρ, S, rfl, ok, env, post⟩ := q
  exact ⟨g0, g, ρ, S, rfl, ok, env, PostE.fresh post (hl ρ S)⟩
theorem eLst_is {fr : DA} : ∀ ρ S d S', eLst fr ρ S = .ok d S' → ∃ ds, d = .lst ds := fun ρ S d S' h => by
  unfold eLst OutL.bind at h
  cases q : fr ρ S with
  | ok ds S1 =>
    rw [q] at h
    injection h with h1 h2
    exact ⟨ds, h1.symm⟩
  | exc c S1 => rw [q] at h; cases h
  | bad => rw [q] at h; cases h
theorem ge_lst (h : PA X es (rdA X.K ca n E fr)) (hn : n ≤ 100000 := by decide) : PE X (.List es pos) (rdE X.K ca E (eLst fr)) := gf_ge (gf_lst h hn) eLst_is
end
def runD (N n : Nat) (fb : DS) (ds : List D) (S : Store) : Out :=
  if ds.length = n then
    match fb (ds.map Slot.val ++ List.replicate (N - n) Slot.emp) S with
    | .nx _ S' => .ok .non S'
    | .ret d S' => .ok d S'
    | .exc c S' => .exc c S'
    | _ => .bad
  else .bad
/-- the promise of a def whose meaning is sem -/
def spD (K : PySem.W.Frag) (ca : Nat → Addr) (n : Nat) (sem : List D → Store → Out) : Sp := fun vs H Q E =>
  ∃ g S ds, g.H = H ∧ Ok K ca g S ∧ RepAll K ca g.A g.F vs ds ∧ vs.length = n ∧ PostE K ca E g (sem ds S) Q
def eCall (sem : List D → Store → Out) (a : DA) : DE := fun ρ S => (a ρ S).bind sem
section
variable {X : Cx} {ca : Nat → Addr} {E : XK} {a : Expr} {es : List Expr} {fr : DA} {CX : CXT} {k n : Nat} {f : Addr} {fd : FuncData} {ps : List Str} {x : Str} {p pos : Pos} {sem : List D → Store → Out}
theorem ge_call (F : FnOk X.prog X.w X.K X.mg X.base CX k f fd ps (spD X.K ca n sem)) (hr : Room k X.A) (hg : Gl X x) (hm : X.mg x = some (.ref f)) (hk : PySem.W.keepIn X.K (.ref f) = true) (hb : Binds X.K fd ps []) (hx : Passes CX X E)
    (ha : PA X (a :: es) (rdA X.K ca n E fr)) (hdb : (x == ("__debug__" : Str)) = false := by decide) (he : starEach (a :: es) X.env = (false, eval a X.env) :: starEach es X.env := by rfl) (hpl : (backTo pos (starEach es X.env)).any (·.1) = false := by rfl) :
    PE X (.Call (.Name x p) (a :: es) [] pos) (rdE X.K ca E (eCall sem fr)) := wkE (pe_call F hr hg hm hk hb .nil hx ha hdb he hpl) fun σ H Q q => by
  obtain ⟨g0, g, ρ, S, rfl, ok, env, post⟩ := q
  refine ⟨g0, g, ρ, S, rfl, ok, env, PostE.bindL post fun ds S1 vs g1 e1 ok1 r1 hl post1 => ?_⟩
  rw [List.append_nil]
  exact ⟨g1, S1, ds, rfl, ok1, r1, hl, post1⟩
end
theorem get_map_val {ds : List D} {m i : Nat} {s : Slot} (h : (ds.map Slot.val ++ List.replicate m Slot.emp)[i]? = some s) : (∃ d, ds[i]? = some d ∧ s = .val d) ∨ s = .emp := by
  by_cases hi : i < ds.length
  · rw [List.getElem?_append_left (by simpa using hi), List.getElem?_map] at h
    cases q : ds[i]? with
    | none =>
      rw [q] at h
      cases h
    | some d =>
      rw [q] at h
      cases h
      exact .inl ⟨d, rfl, rfl⟩
  · rw [List.getElem?_append_right (by simpa using Nat.le_of_not_lt hi), List.getElem?_replicate] at h
    split at h
    · cases h
      exact .inr rfl
    · cases h
/-- the slots at a call -/
theorem env_start {K : PySem.W.Frag} {ca : Nat → Addr} {g : G} {N : List Str} {vs : List V} {ds : List D} {n : Nat} (r : RepAll K ca g.A g.F vs ds) (hn : vs.length = n) :
    EnvR K ca g g (L2.start N vs) (ds.map Slot.val ++ List.replicate (N.length - n) Slot.emp) where
  len := by
    unfold L2.start
    rw [List.length_append, List.length_append, List.length_map, List.length_map, List.length_replicate, List.length_replicate, hn, ← r.length, hn]
  val := fun i d h => by
    rcases get_map_val h with ⟨d', e1, e2⟩ | e
    · cases e2
      obtain ⟨v, e3, e4⟩ := r.get' e1
      refine ⟨v, ?_, e4⟩
      unfold L2.start
      rw [List.getElem?_append_left (by rw [List.length_map]; exact (List.getElem?_eq_some_iff.mp e3).1), List.getElem?_map, e3]
      rfl
    · cases e
  own := fun i d h => by
    rcases get_map_val h with ⟨d', e1, e2⟩ | e
    · cases e2
    · cases e
  sep := fun i j d e p h => by
    rcases get_map_val h with ⟨d', e1, e2⟩ | e
    · cases e2
    · cases e
section
variable {P : Program} {w : World} {K : PySem.W.Frag} {mg : Str → Option Value} {base : Heap} {ca : Nat → Addr}
/-- THE RULE for a def: its body by data -/
theorem fnD {x qual : Str} {st : Stmt} {f : Addr} {fd : FuncData} {N ps : List Str} {k : Nat} {fb : DS} (F : Fun K x qual st f fd) (Sc : FnScope N ps (defScope st))
    (hbody : ∀ (cdv : Value) (A : Around) (outer : List Env) (s : Shared) (H : Hp) (E : XK), Room k (A.deeper (envOfC qual (defScope st) s.heap.objs.size f cdv)) →
      PSs (cxOf (L2.CX P w) P w K mg base N qual (defScope st) f cdv A outer s H E) (defBody st) (rdS K ca E fb)) : FnOk P w K mg base (L2.CX P w) (k + 1) f fd ps (spD K ca ps.length (runD N.length ps.length fb)) := by
  refine F.okX Sc (fun vs H Q E h => ?_) (fun cdv A outer s H vs Q E hr h => ⟨_, hbody cdv A outer s H E hr, ?_⟩)
  · obtain ⟨g, S, ds, _, _, _, hl, _⟩ := h
    exact hl
  · obtain ⟨g, S, ds, rfl, ok, r, hl, post⟩ := h
    refine ⟨g, g, _, S, rfl, Ext.refl g, ok, env_start (N := N) (n := ps.length) r hl, ?_⟩
    have hds : ds.length = ps.length := by rw [← r.length, hl]
    unfold runD at post
    rw [if_pos hds] at post
    cases q : fb (ds.map Slot.val ++ List.replicate (N.length - ps.length) Slot.emp) S with
    | nx ρ S' =>
      rw [q] at post
      exact fun σ g' e _ ok' _ => post .non g' e ok' .non
    | ret d S' =>
      rw [q] at post
      exact fun v g' e ok' r' => post v g' e ok' r'
    | brk ρ S' => rw [q] at post; exact post.elim
    | cnt ρ S' => rw [q] at post; exact post.elim
    | exc c S' =>
      rw [q] at post
      exact fun g' e ok' => post g' e ok'
    | bad => rw [q] at post; exact post.elim
end
end DL
set_option Elab.async false
set_option linter.all false
set_option maxRecDepth 100000
set_option maxHeartbeats 1000000
namespace DL
open PySem PySem.Spec PyProof.Rows L2
section
variable {K : PySem.W.Frag} {ca : Nat → Addr} {g0 g : G} {σ : L2.St} {ρ : DEnv}
theorem set_some {α : Type} {l : List α} {i j : Nat} {x y : α} (h : (l.set i x)[j]? = some y) : (j = i ∧ y = x ∧ i < l.length) ∨ (j ≠ i ∧ l[j]? = some y) := by
  by_cases hj : j = i
  · subst hj
    by_cases hl : j < l.length
    · rw [List.getElem?_set_self hl] at h
      cases h
      exact .inl ⟨rfl, rfl, hl⟩
    · rw [List.getElem?_eq_none (by simpa using hl)] at h
      cases h
  · rw [List.getElem?_set_ne (Ne.symm hj)] at h
    exact .inr ⟨hj, h⟩
theorem EnvR.set (h : EnvR K ca g0 g σ ρ) {v : V} {d : D} (r : RepG K ca g v d) (i : Nat) : EnvR K ca g0 g (σ.set i (some v)) (ρ.set i (.val d)) where
  len := by rw [List.length_set, List.length_set, h.len]
  val := fun j d' e => by
    rcases set_some e with ⟨rfl, q, hl⟩ | ⟨hj, q⟩
    · cases q
      exact ⟨v, by rw [List.getElem?_set_self (by rw [h.len]; exact hl)], r⟩
    · rw [List.getElem?_set_ne (Ne.symm hj)]
      exact h.val j d' q
  own := fun j ds e => by
    rcases set_some e with ⟨rfl, q, hl⟩ | ⟨hj, q⟩
    · cases q
    · rw [List.getElem?_set_ne (Ne.symm hj)]
      exact h.own j ds q
  sep := fun j k ds es p e1 e2 e3 e4 => by
    rcases set_some e1 with ⟨_, q, _⟩ | ⟨hj, q1⟩
    · cases q
    rcases set_some e2 with ⟨_, q, _⟩ | ⟨hk, q2⟩
    · cases q
    rw [List.getElem?_set_ne (Ne.symm hj)] at e3
    rw [List.getElem?_set_ne (Ne.symm hk)] at e4
    exact h.sep j k ds es p q1 q2 e3 e4
theorem EnvR.ownNe (h : EnvR K ca g0 g σ ρ) {p : Addr} (hp : ∀ (j : Nat) (ds : List D), ρ[j]? = some (Slot.own ds) → σ[j]? ≠ some (some (V.ref p))) {xs : List V} {ds : List D} (q0 : g0.H p = none) (q1 : g.F p = none) (q2 : p ∉ g.A) (q3 : g.H p = some (.lst xs)) (q4 : RepAll K ca g.A g.F xs ds) (i : Nat) :
    EnvR K ca g0 g (σ.set i (some (.ref p))) (ρ.set i (.own ds)) where
  len := by rw [List.length_set, List.length_set, h.len]
  val := fun j d' e => by
    rcases set_some e with ⟨rfl, q, hl⟩ | ⟨hj, q⟩
    · cases q
    · rw [List.getElem?_set_ne (Ne.symm hj)]
      exact h.val j d' q
  own := fun j es e => by
    rcases set_some e with ⟨rfl, q, hl⟩ | ⟨hj, q⟩
    · cases q
      exact ⟨p, xs, by rw [List.getElem?_set_self (by rw [h.len]; exact hl)], q0, q1, q2, q3, q4⟩
    · rw [List.getElem?_set_ne (Ne.symm hj)]
      exact h.own j es q
  sep := fun j k es fs p' e1 e2 e3 e4 => by
    rcases set_some e1 with ⟨rfl, z1, hl⟩ | ⟨hj, z1⟩
    · rcases set_some e2 with ⟨rfl, z2, _⟩ | ⟨hk, z2⟩
      · rfl
      · rw [List.getElem?_set_self (by rw [h.len]; exact hl)] at e3
        rw [List.getElem?_set_ne (Ne.symm hk)] at e4
        cases e3
        exact absurd e4 (hp k fs z2)
    · rw [List.getElem?_set_ne (Ne.symm hj)] at e3
      rcases set_some e2 with ⟨rfl, z2, hl⟩ | ⟨hk, z2⟩
      · rw [List.getElem?_set_self (by rw [h.len]; exact hl)] at e4
        cases e4
        exact absurd e3 (hp j es z1)
      · rw [List.getElem?_set_ne (Ne.symm hk)] at e4
        exact h.sep j k es fs p' z1 z2 e3 e4
/-- a new list put into a slot -/
theorem EnvR.setOwn {g' : G} (h : EnvR K ca g0 g σ ρ) (e : Ext g g') (e0 : Ext g0 g) {p : Addr} {xs : List V} {ds : List D} (np : g.H p = none) (q1 : g'.F p = none) (q2 : p ∉ g'.A) (q3 : g'.H p = some (.lst xs)) (q4 : RepAll K ca g'.A g'.F xs ds) (i : Nat) :
    EnvR K ca g0 g' (σ.set i (some (.ref p))) (ρ.set i (.own ds)) := by
  refine (h.ext e).ownNe (fun j es z q => ?_) ?_ q1 q2 q3 q4 i
  · obtain ⟨p', xs', z1, _, _, _, z2, _⟩ := h.own j es z
    rw [z1] at q
    cases q
    rw [np] at z2
    cases z2
  · cases q : g0.H p with
    | none => rfl
    | some o => exact absurd np (e0.kp p (some_ne q))
theorem ext_put0 {p : Addr} {o : HO} (e : Ext g0 g) (h0 : g0.H p = none) : Ext g0 (g.put p o) where
  F := e.F
  A := e.A
  H := fun a u ha q => by
    show upd g.H p o a = some u
    rw [upd_ne (ne_of_none q h0)]
    exact e.H a u ha q
  kp := fun a q => by
    show upd g.H p o a ≠ none
    unfold upd
    split
    · exact fun z => nomatch z
    · exact e.kp a q
  nf := e.nf
theorem grow_put {p : Addr} {o : HO} : Grow g (g.put p o) := ⟨Same.refl _, [], by simp [G.put]⟩
/-- the list of a slot changes -/
theorem EnvR.mut (h : EnvR K ca g0 g σ ρ) {i : Nat} {ds es : List D} {p : Addr} {ys : List V} (hi : ρ[i]? = some (.own ds)) (hp : σ[i]? = some (some (.ref p))) (q0 : g0.H p = none) (q1 : g.F p = none) (q2 : p ∉ g.A) (r : RepAll K ca g.A g.F ys es) :
    EnvR K ca g0 (g.put p (.lst ys)) σ (ρ.set i (.own es)) where
  len := by rw [List.length_set, h.len]
  val := fun j d' e => by
    rcases set_some e with ⟨rfl, q, hl⟩ | ⟨hj, q⟩
    · cases q
    · exact h.val j d' q
  own := fun j fs e => by
    rcases set_some e with ⟨rfl, q, hl⟩ | ⟨hj, q⟩
    · cases q
      exact ⟨p, ys, hp, q0, q1, q2, upd_same, r⟩
    · obtain ⟨p', xs', z1, z2, z3, z4, z5, z6⟩ := h.own j fs q
      refine ⟨p', xs', z1, z2, z3, z4, ?_, z6⟩
      show upd g.H p (.lst ys) p' = some (.lst xs')
      rw [upd_ne (fun z => hj (h.sep j i fs ds p q hi (by rw [z1, z]) hp))]
      exact z5
  sep := fun j k as bs p' e1 e2 e3 e4 => by
    have f1 : ∃ as', ρ[j]? = some (.own as') := by
      rcases set_some e1 with ⟨rfl, _, _⟩ | ⟨_, q⟩
      · exact ⟨ds, hi⟩
      · exact ⟨as, q⟩
    have f2 : ∃ bs', ρ[k]? = some (.own bs') := by
      rcases set_some e2 with ⟨rfl, _, _⟩ | ⟨_, q⟩
      · exact ⟨ds, hi⟩
      · exact ⟨bs, q⟩
    obtain ⟨as', f1⟩ := f1
    obtain ⟨bs', f2⟩ := f2
    exact h.sep j k as' bs' p' f1 f2 e3 e4
/-- the list of a slot becomes plain data -/
theorem EnvR.frz (h : EnvR K ca g0 g σ ρ) {i : Nat} {ds : List D} {p : Addr} {xs : List V} (hi : ρ[i]? = some (.own ds)) (hp : σ[i]? = some (some (.ref p))) (q1 : g.F p = none) (r : RepAll K ca g.A g.F xs ds) :
    EnvR K ca g0 ⟨upd g.F p (.lst xs), g.A, g.H⟩ σ (ρ.set i (.val (.lst ds))) where
  len := by rw [List.length_set, h.len]
  val := fun j d' e => by
    rcases set_some e with ⟨rfl, q, hl⟩ | ⟨hj, q⟩
    · cases q
      exact ⟨_, hp, .lst upd_same (RepAll.mono ⟨[], by simp⟩ (same_upd q1) _ _ r)⟩
    · obtain ⟨v, z1, z2⟩ := h.val j d' q
      exact ⟨v, z1, Rep.mono ⟨[], by simp⟩ (same_upd q1) _ _ z2⟩
  own := fun j fs e => by
    rcases set_some e with ⟨rfl, q, hl⟩ | ⟨hj, q⟩
    · cases q
    · obtain ⟨p', xs', z1, z2, z3, z4, z5, z6⟩ := h.own j fs q
      refine ⟨p', xs', z1, z2, ?_, z4, z5, RepAll.mono ⟨[], by simp⟩ (same_upd q1) _ _ z6⟩
      show upd g.F p (.lst xs) p' = none
      rw [upd_ne (fun z => hj (h.sep j i fs ds p q hi (by rw [z1, z]) hp))]
      exact z3
  sep := fun j k as bs p' e1 e2 e3 e4 => by
    rcases set_some e1 with ⟨_, q, _⟩ | ⟨hj, z1⟩
    · cases q
    rcases set_some e2 with ⟨_, q, _⟩ | ⟨hk, z2⟩
    · cases q
    exact h.sep j k as bs p' z1 z2 e3 e4
theorem ext_frz0 {p : Addr} {xs : List V} (e : Ext g0 g) (h0 : g0.H p = none) (q1 : g.F p = none) : Ext g0 ⟨upd g.F p (.lst xs), g.A, g.H⟩ where
  F := e.F.trans (same_upd q1)
  A := e.A
  H := e.H
  kp := e.kp
  nf := fun a ha fa => by
    show upd g.F p (.lst xs) a = none
    rw [upd_ne (fun z => ha (by rw [z]; exact h0))]
    exact e.nf a ha fa
theorem ok_frz0 {S : Store} (ok : Ok K ca g S) {p : Addr} {xs : List V} (q1 : g.F p = none) (q2 : p ∉ g.A) (q3 : g.H p = some (.lst xs)) : Ok K ca ⟨upd g.F p (.lst xs), g.A, g.H⟩ S where
  sub := fun b u q => by
    have q' : upd g.F p (.lst xs) b = some u := q
    by_cases hb : b = p
    · subst hb
      rw [upd_same] at q'
      exact q3.trans q'
    · rw [upd_ne hb] at q'
      exact ok.sub b u q'
  len := ok.len
  nd := ok.nd
  fr := fun a ha => by
    show upd g.F p (.lst xs) a = none
    rw [upd_ne (fun z => q2 (by rw [← z]; exact ha))]
    exact ok.fr a ha
  ob := fun n o' q => by
    obtain ⟨a, ho, e1, e2, e3⟩ := ok.ob n o' q
    exact ⟨a, ho, e1, e2, RepO.mono ⟨[], by simp⟩ (same_upd q1) e3⟩
end
abbrev DG := D → DEnv → Option DEnv
abbrev DGs := List D → DEnv → Option DEnv
def tgName (i : Nat) : DG := fun d ρ => some (ρ.set i (.val d))
def tgNil : DGs := fun ds ρ => match ds with
  | [] => some ρ
  | _ => none
def tgCons (t : DG) (u : DGs) : DGs := fun ds ρ => match ds with
  | d :: r => match t d ρ with
    | some ρ1 => u r ρ1
    | none => none
  | [] => none
def tgTup (u : DGs) : DG := fun d ρ => match d with
  | .tup ds => u ds ρ
  | _ => none
section
variable (K : PySem.W.Frag) (ca : Nat → Addr)
def rdG (t : DG) : TG := fun v σ H Q => ∃ g0 g ρ d, g.H = H ∧ Same g.F g.H ∧ EnvR K ca g0 g σ ρ ∧ RepG K ca g v d ∧ ∃ ρ', t d ρ = some ρ' ∧ ∀ σ', EnvR K ca g0 g σ' ρ' → Q σ' H
def rdGs (t : DGs) : TGs := fun vs σ H Q => ∃ g0 g ρ ds, g.H = H ∧ Same g.F g.H ∧ EnvR K ca g0 g σ ρ ∧ RepAll K ca g.A g.F vs ds ∧ ∃ ρ', t ds ρ = some ρ' ∧ ∀ σ', EnvR K ca g0 g σ' ρ' → Q σ' H
end
section
variable {X : Cx} {ca : Nat → Addr} {pos : Pos}
theorem wkG {tg : Expr} {t t' : TG} (h : PG X tg t) (k : ∀ v σ H Q, t' v σ H Q → t v σ H Q) : PG X tg t' := ⟨fun pins s σ H v u Q I r q => h.run pins s σ H v u Q I r (k v σ H Q q)⟩
theorem wkGs {tg : List Expr} {t t' : TGs} (h : PGs X tg t) (k : ∀ v σ H Q, t' v σ H Q → t v σ H Q) : PGs X tg t' := ⟨fun pins s σ H v u Q I r q => h.run pins s σ H v u Q I r (k v σ H Q q)⟩
theorem gg_name {i : Nat} {x : Str} (hN : X.N.Nodup) (hi : X.N[i]? = some x) (hx : Loc X.env.scope x) (hf : X.fn x = true ∨ X.env.scope.names.lookup x = some .local := by first | exact .inl rfl | exact .inr rfl | assumption) : PG X (.Name x pos) (rdG X.K ca (tgName i)) :=
  wkG (pg_name hN hi hx hf) fun v σ H Q q => by
    obtain ⟨g0, g, ρ, d, rfl, sm, env, r, ρ', e, k⟩ := q
    cases e
    exact k _ (env.set r i)
theorem ggs_nil : PGs X [] (rdGs X.K ca tgNil) := wkGs pgs_nil fun v σ H Q q => by
  obtain ⟨g0, g, ρ, ds, rfl, sm, env, r, ρ', e, k⟩ := q
  cases r with
  | nil =>
    cases e
    exact ⟨rfl, k _ env⟩
  | cons r1 r2 => cases e
theorem ggs_cons {e : Expr} {es : List Expr} {t : DG} {u : DGs} (h1 : PG X e (rdG X.K ca t)) (h2 : PGs X es (rdGs X.K ca u))
    (hs : (assignEach (e :: es) X.env).map (·.2) = assign e X.env :: (assignEach es X.env).map (·.2) := by rfl) : PGs X (e :: es) (rdGs X.K ca (tgCons t u)) := wkGs (pgs_cons h1 h2 hs) fun v σ H Q q => by
  obtain ⟨g0, g, ρ, ds, rfl, sm, env, r, ρ', e, k⟩ := q
  cases r with
  | nil => cases e
  | cons r1 r2 =>
    rename_i v vs d ds
    unfold tgCons at e
    dsimp only at e
    cases q : t d ρ with
    | none => rw [q] at e; cases e
    | some ρ1 =>
      rw [q] at e
      exact ⟨v, vs, rfl, g0, g, ρ, d, rfl, sm, env, r1, ρ1, q, fun σ1 env1 => ⟨g0, g, ρ1, ds, rfl, sm, env1, r2, ρ', e, k⟩⟩
theorem tgTup_len {u : DGs} {n : Nat} : (∀ ds ρ ρ', u ds ρ = some ρ' → ds.length = n) → ∀ d ρ ρ', tgTup u d ρ = some ρ' → ∃ ds, d = .tup ds ∧ ds.length = n ∧ u ds ρ = some ρ' := fun h d ρ ρ' e => by
  cases d with
  | tup ds => exact ⟨ds, rfl, h ds ρ ρ' e, e⟩
  | _ => cases e
theorem tgNil_len : ∀ ds ρ ρ', tgNil ds ρ = some ρ' → ds.length = 0 := fun ds ρ ρ' e => by
  cases ds with
  | nil => rfl
  | cons => cases e
theorem tgCons_len {t : DG} {u : DGs} {n : Nat} (h : ∀ ds ρ ρ', u ds ρ = some ρ' → ds.length = n) : ∀ ds ρ ρ', tgCons t u ds ρ = some ρ' → ds.length = n + 1 := fun ds ρ ρ' e => by
  cases ds with
  | nil => cases e
  | cons d r =>
    unfold tgCons at e
    dsimp only at e
    cases q : t d ρ with
    | none => rw [q] at e; cases e
    | some ρ1 =>
      rw [q] at e
      rw [List.length_cons, h r ρ1 ρ' e]
theorem gg_tup {es : List Expr} {k : Nat} {t : DGs} {n : Nat} (hc : X.calm = true) (h : PGs X es (rdGs X.K ca t)) (hl : ∀ ds ρ ρ', t ds ρ = some ρ' → ds.length = n)
    (hn : (assignEach es X.env).length = n := by rfl) (hst : (assignEach es X.env).findIdx? (·.1) = none := by rfl) : PG X (.Tuple es k pos) (rdG X.K ca (tgTup t)) := wkG (pg_tup hc h hn hst) fun v σ H Q q => by
  obtain ⟨g0, g, ρ, d, rfl, sm, env, r, ρ', e, k⟩ := q
  obtain ⟨ds, rfl, hds, e⟩ := tgTup_len hl d ρ ρ' e
  cases r with
  | tup hs ha => exact ⟨_, _, rfl, same_t sm hs, by rw [ha.length, hds], g0, g, ρ, ds, rfl, sm, env, ha, ρ', e, k⟩
end
def sSkip : DS := fun ρ S => .nx ρ S
def sSeq (f h : DS) : DS := fun ρ S => match f ρ S with
  | .nx ρ' S' => h ρ' S'
  | o => o
def sAsg (f : DE) (t : DG) : DS := fun ρ S => (f ρ S).bindS fun d S1 => match t d ρ with
  | some ρ' => .nx ρ' S1
  | none => .bad
def sExpr (f : DE) : DS := fun ρ S => (f ρ S).bindS fun _ S1 => .nx ρ S1
def sRet (f : DE) : DS := fun ρ S => (f ρ S).bindS fun d S1 => .ret d S1
def sIf (c : DE) (t u : DS) : DS := fun ρ S => (c ρ S).bindS fun d S1 => match d with
  | .bl true => t ρ S1
  | .bl false => u ρ S1
  | _ => .bad
def sRaise (c : Nat) : DS := fun _ S => .exc c S
/-- a, b = x, y -/
def sPar (i j : Nat) (a : DA) : DS := fun ρ S => match a ρ S with
  | .ok [x, y] S1 => .nx ((ρ.set i (.val x)).set j (.val y)) S1
  | .exc c S1 => .exc c S1
  | _ => .bad
section
variable {X : Cx} {ca : Nat → Addr} {E : XK} {a b c e : Expr} {f fa fb fc : DE} {pos : Pos} {st : Stmt} {rest : List Stmt} {fs fh : DS}
theorem gss_nil : PSs X [] (rdS X.K ca E sSkip) := wkSs pss_nil fun Dn σ H q => by
  obtain ⟨g0, g, ρ, S, rfl, e0, ok, env, post⟩ := q
  exact post σ g e0 (Grow.refl g) ok env
theorem gss_cons (h1 : PS X st (rdS X.K ca E fs)) (h2 : PSs X rest (rdS X.K ca E fh)) : PSs X (st :: rest) (rdS X.K ca E (sSeq fs fh)) := wkSs (pss_cons h1 h2) fun Dn σ H q => by
  obtain ⟨g0, g, ρ, S, rfl, e0, ok, env, post⟩ := q
  refine ⟨g0, g, ρ, S, rfl, e0, ok, env, ?_⟩
  unfold sSeq at post
  cases q : fs ρ S with
  | nx ρ' S' =>
    rw [q] at post
    exact fun σ' g' a b c d => ⟨g0, g', ρ', S', rfl, a, c, d, PostS.grow b post⟩
  | ret d S' => rw [q] at post; exact post
  | brk ρ' S' => rw [q] at post; exact post
  | cnt ρ' S' => rw [q] at post; exact post
  | exc c S' => rw [q] at post; exact post
  | bad => rw [q] at post; exact post
theorem gss_one (h1 : PS X st (rdS X.K ca E fs)) : PSs X [st] (rdS X.K ca E fs) := pss_one h1
theorem rd_asg {t : DG} (Dn : Ends) (σ : L2.St) (H : Hp) (q : rdS X.K ca E (sAsg f t) Dn σ H) : tAsg (rdE X.K ca E f) (rdG X.K ca t) Dn σ H := by
  obtain ⟨g0, g, ρ, S, rfl, e0, ok, env, post⟩ := q
  refine ⟨g0, g, ρ, S, rfl, ok, env, PostS.bindE e0 post fun d S1 v g1 e1 ok1 r1 post1 => ?_⟩
  cases q : t d ρ with
  | none => rw [q] at post1; exact post1.elim
  | some ρ' =>
    rw [q] at post1
    exact ⟨g0, g1, ρ, d, rfl, ok1.sub, env.ext e1, r1, ρ', q, fun σ' env' => post1 σ' g1 (e0.trans e1) (Grow.refl _) ok1 env'⟩
theorem gs_asg {tg : Expr} {t : DG} (he : PE X e (rdE X.K ca E f)) (hg : PG X tg (rdG X.K ca t)) (hs : swapsWithSole [tg] e pos.line X.env = pure false := by rfl) (hw : swappedStores [tg] e X.env = pure none := by rfl)
    (h1 : (assignEach [tg] X.env).map (·.2) = [assign tg X.env] := by rfl) : PS X (.Assign [tg] e pos) (rdS X.K ca E (sAsg f t)) := wkS (ps_asg he hg hs hw h1) rd_asg
theorem gs_set {i : Nat} {x : Str} {pos' : Pos} (hN : X.N.Nodup) (hi : X.N[i]? = some x) (hx : Loc X.env.scope x) (he : PE X e (rdE X.K ca E f)) (hs : swapsWith e (some (.Name x pos')) pos.line X.env = pure false := by rfl) (hf : X.fn x = true ∨ X.env.scope.names.lookup x = some .local := by first | exact .inl rfl | exact .inr rfl | assumption) :
    PS X (.Assign [.Name x pos'] e pos) (rdS X.K ca E (sAsg f (tgName i))) := wkS (ps_set hN hi hx he hs hf) fun Dn σ H q => by
  obtain ⟨g0, g, ρ, S, rfl, e0, ok, env, post⟩ := q
  refine ⟨g0, g, ρ, S, rfl, ok, env, PostS.bindE e0 post fun d S1 v g1 e1 ok1 r1 post1 => ?_⟩
  exact post1 _ g1 (e0.trans e1) (Grow.refl _) ok1 ((env.ext e1).set r1 i)
theorem gs_expr (he : PE X e (rdE X.K ca E f)) (hs : swapsWith e none pos.line X.env = pure false := by rfl) : PS X (.Expr e pos) (rdS X.K ca E (sExpr f)) := wkS (ps_expr he hs) fun Dn σ H q => by
  obtain ⟨g0, g, ρ, S, rfl, e0, ok, env, post⟩ := q
  refine ⟨g0, g, ρ, S, rfl, ok, env, PostS.bindE e0 post fun d S1 v g1 e1 ok1 r1 post1 => ?_⟩
  exact post1 _ g1 (e0.trans e1) (Grow.refl _) ok1 (env.ext e1)
theorem gs_ret (he : PE X e (rdE X.K ca E f)) : PS X (.Return (some e) pos) (rdS X.K ca E (sRet f)) := wkS (ps_ret he) fun Dn σ H q => by
  obtain ⟨g0, g, ρ, S, rfl, e0, ok, env, post⟩ := q
  refine ⟨g0, g, ρ, S, rfl, ok, env, PostS.bindE e0 post fun d S1 v g1 e1 ok1 r1 post1 => ?_⟩
  exact post1 v g1 (e0.trans e1) ok1 r1
theorem gs_if {as bs : List Stmt} (hc : PT X c (rdT X.K ca E fc)) (ha : PSs X as (rdS X.K ca E fs)) (hb : PSs X bs (rdS X.K ca E fh)) : PS X (.If c as bs pos) (rdS X.K ca E (sIf fc fs fh)) := wkS (ps_if hc ha hb) fun Dn σ H q => by
  obtain ⟨g0, g, ρ, S, rfl, e0, ok, env, post⟩ := q
  refine ⟨g0, g, ρ, S, rfl, ok, env, PostS.bindE e0 post fun d S1 v g1 e1 ok1 r1 post1 => ?_⟩
  cases r1 with
  | bl k =>
    refine ⟨k, rfl, ?_⟩
    cases k with
    | true => exact iteT ⟨g0, g1, ρ, S1, rfl, e0.trans e1, ok1, env.ext e1, post1⟩
    | false => exact iteF ⟨g0, g1, ρ, S1, rfl, e0.trans e1, ok1, env.ext e1, post1⟩
  | _ => exact post1.elim
theorem gs_raise {k : Nat} {cls : Value} (hc : X.calm = true) (tk : Takes X (fun cls d _ H => E cls d H)) (he : PMk X e (fun _ H Q => Q (.ref (ca k)) none H)) : PS X (.Raise (some e) none pos) (rdS X.K ca E (sRaise k)) := wkS (ps_raise hc tk he) fun Dn σ H q => by
  obtain ⟨g0, g, ρ, S, rfl, e0, ok, env, post⟩ := q
  exact post g e0 ok
theorem gs_par {i j : Nat} {x y : Str} {fa : DA} {px py pt : Pos} {kt k2 pt2} (hc : X.calm = true) (hN : X.N.Nodup) (hi : X.N[i]? = some x) (hj : X.N[j]? = some y) (hij : i ≠ j)
    (hx : X.env.scope.names.lookup x = some .local) (hy : X.env.scope.names.lookup y = some .local) (ha : PA X [a, b] (rdA X.K ca 2 E fa))
    (hw : swappedStores [.Tuple [.Name x px, .Name y py] kt pt] (.Tuple [a, b] k2 pt2) X.env = pure (some [x, y]))
    (hs : swapsWithSole [.Tuple [.Name x px, .Name y py] kt pt] (.Tuple [a, b] k2 pt2) pos.line X.env = pure false := by rfl) :
    PS X (.Assign [.Tuple [.Name x px, .Name y py] kt pt] (.Tuple [a, b] k2 pt2) pos) (rdS X.K ca E (sPar i j fa)) := wkS (ps_par hc hN hi hj hij hx hy ha hw hs) fun Dn σ H q => by
  obtain ⟨g0, g, ρ, S, rfl, e0, ok, env, post⟩ := q
  refine ⟨g0, g, ρ, S, rfl, ok, env, ?_⟩
  unfold sPar at post
  cases q : fa ρ S with
  | ok ds S1 =>
    rw [q] at post
    intro vs g1 e1 ok1 r1 hl
    cases r1 with
    | nil => cases hl
    | cons ra rr =>
      cases rr with
      | nil => cases hl
      | cons rb rr =>
        cases rr with
        | cons _ _ => exact absurd hl (by simp)
        | nil => exact ⟨_, _, rfl, post _ g1 (e0.trans e1) e1.grow ok1 (((env.ext e1).set ra i).set rb j)⟩
  | exc k S1 =>
    rw [q] at post
    exact fun g' e' ok' => post g' (e0.trans e') ok'
  | bad => rw [q] at post; exact post
end
def sOwn (i : Nat) (f : DE) : DS := fun ρ S => (f ρ S).bindS fun d S1 => match d with
  | .lst ds => .nx (ρ.set i (.own ds)) S1
  | _ => .bad
def sFrz (i : Nat) (f : DS) : DS := fun ρ S => match ρ[i]? with
  | some (.own ds) => f (ρ.set i (.val (.lst ds))) S
  | _ => f ρ S
section
variable {X : Cx} {ca : Nat → Addr} {E : XK} {e : Expr} {f : DE} {pos : Pos} {st : Stmt} {sts : List Stmt} {fs : DS}
theorem own_post {K : PySem.W.Frag} {i : Nat} {g0 g : G} {ρ : DEnv} {σ : L2.St} {o : Out} {Dn : Ends} (e0 : Ext g0 g) (env : EnvR K ca g0 g σ ρ)
    (post : PostS K ca E g0 g (o.bindS fun d S1 => match d with | .lst ds => .nx (ρ.set i (.own ds)) S1 | _ => .bad) Dn) : PostF K ca E g o fun x H1 => Dn.nx (σ.set i (some x)) H1 := by
  cases o with
  | ok d S1 =>
    cases d with
    | lst ds => exact fun p xs g1 e1 ok1 np fp pA hp r => post _ g1 (e0.trans e1) e1.grow ok1 (env.setOwn e1 e0 np fp pA hp r i)
    | _ => exact post
  | exc c S1 => exact fun g' e' ok' => post g' (e0.trans e') ok'
  | bad => exact post
theorem gs_own {i : Nat} {x : Str} {pos' : Pos} (hN : X.N.Nodup) (hi : X.N[i]? = some x) (hx : Loc X.env.scope x) (he : PE X e (rdF X.K ca E f)) (hs : swapsWith e (some (.Name x pos')) pos.line X.env = pure false := by rfl) (hf : X.fn x = true ∨ X.env.scope.names.lookup x = some .local := by first | exact .inl rfl | exact .inr rfl | assumption) :
    PS X (.Assign [.Name x pos'] e pos) (rdS X.K ca E (sOwn i f)) := wkS (ps_set hN hi hx he hs hf) fun Dn σ H q => by
  obtain ⟨g0, g, ρ, S, rfl, e0, ok, env, post⟩ := q
  exact ⟨g0, g, ρ, S, rfl, ok, env, own_post e0 env post⟩
theorem rd_frz {i : Nat} (Dn : Ends) (σ : L2.St) (H : Hp) (q : rdS X.K ca E (sFrz i fs) Dn σ H) : rdS X.K ca E fs Dn σ H := by
  obtain ⟨g0, g, ρ, S, rfl, e0, ok, env, post⟩ := q
  unfold sFrz at post
  split at post
  · rename_i ds hi
    obtain ⟨p, xs, h1, h2, h3, h4, h5, h6⟩ := env.own i ds hi
    exact ⟨g0, ⟨upd g.F p (.lst xs), g.A, g.H⟩, _, S, rfl, ext_frz0 e0 h2 h3, ok_frz0 ok h3 h4 h5, env.frz hi h1 h3 h6, PostS.grow ⟨same_upd h3, [], by simp⟩ post⟩
  · exact ⟨g0, g, ρ, S, rfl, e0, ok, env, post⟩
theorem gs_frz (i : Nat) (h : PS X st (rdS X.K ca E fs)) : PS X st (rdS X.K ca E (sFrz i fs)) := wkS h rd_frz
end
def loopW (c : DE) (b : DS) : Nat → DS
  | 0, _, _ => .bad
  | n + 1, ρ, S => (c ρ S).bindS fun d S1 => match d with
    | .bl true => match b ρ S1 with
      | .nx ρ' S' => loopW c b n ρ' S'
      | .cnt ρ' S' => loopW c b n ρ' S'
      | .brk ρ' S' => .nx ρ' S'
      | .ret d S' => .ret d S'
      | .exc k S' => .exc k S'
      | .bad => .bad
    | .bl false => .nx ρ S1
    | _ => .bad
def sWhile (n : Nat) (c : DE) (b : DS) : DS := fun ρ S => loopW c b n ρ S
section
variable {X : Cx} {ca : Nat → Addr} {E : XK} {c : Expr} {fc : DE} {pos : Pos} {body : List Stmt} {fb : DS}
theorem gs_while (n : Nat) (hp : PassesOwn (model X.prog X.w) X.A X.env X.xe) (hc : PT X c (rdT X.K ca E fc)) (hb : PSs X body (rdS X.K ca E fb)) : PS X (.While c body [] pos) (rdS X.K ca E (sWhile n fc fb)) := wkS (ps_while hp hc hb) fun Dn σ H q => by
  obtain ⟨g0, g, ρ, S, rfl, e0, ok, env, post⟩ := q
  refine ⟨fun m σ' H' => ∃ g' ρ' S', g'.H = H' ∧ Ext g0 g' ∧ Ok X.K ca g' S' ∧ EnvR X.K ca g0 g' σ' ρ' ∧ PostS X.K ca E g0 g' (loopW fc fb m ρ' S') Dn, ⟨n, g, ρ, S, rfl, e0, ok, env, post⟩, ?_⟩
  rintro m σ1 H1 ⟨g1, ρ1, S1, rfl, e1, ok1, env1, post1⟩
  cases m with
  | zero => exact post1.elim
  | succ m =>
    refine ⟨g0, g1, ρ1, S1, rfl, ok1, env1, PostS.bindE e1 post1 fun d S2 v g2 e2 ok2 r2 post2 => ?_⟩
    cases r2 with
    | bl k =>
      refine ⟨k, rfl, ?_⟩
      cases k with
      | false => exact iteF (post2 σ1 g2 (e1.trans e2) (Grow.refl _) ok2 (env1.ext e2))
      | true =>
        refine iteT ⟨fun σ' H' => ∃ g' ρ' S', g'.H = H' ∧ Ext g0 g' ∧ Ok X.K ca g' S' ∧ EnvR X.K ca g0 g' σ' ρ' ∧ PostS X.K ca E g0 g' (loopW fc fb m ρ' S') Dn, fun σ' H' z => ⟨m, Nat.lt_succ_self m, z⟩, g0, g2, ρ1, S2, rfl, e1.trans e2, ok2, env1.ext e2, ?_⟩
        · cases q : fb ρ1 S2 with
          | nx ρ' S' =>
            dsimp only at post2
            rw [q] at post2
            exact fun σ' g' b1 b2 b3 b4 => ⟨g', ρ', S', rfl, b1, b3, b4, PostS.grow b2 post2⟩
          | cnt ρ' S' =>
            dsimp only at post2
            rw [q] at post2
            exact fun σ' g' b1 b2 b3 b4 => ⟨g', ρ', S', rfl, b1, b3, b4, PostS.grow b2 post2⟩
          | brk ρ' S' =>
            dsimp only at post2
            rw [q] at post2
            exact post2
          | ret d S' =>
            dsimp only at post2
            rw [q] at post2
            exact post2
          | exc k S' =>
            dsimp only at post2
            rw [q] at post2
            exact post2
          | bad =>
            dsimp only at post2
            rw [q] at post2
            exact post2
    | _ => exact post2.elim
end
end DL
set_option Elab.async false
set_option linter.all false
set_option maxRecDepth 100000
set_option maxHeartbeats 1000000
namespace DL
open PySem PySem.Spec PyProof.Rows L2
section
variable (K : PySem.W.Frag) (ca : Nat → Addr)
def Walk (g : G) (J : It) (ds : List D) : Prop := ∀ g1 S1, Grow g g1 → Ok K ca g1 S1 → ∀ i : Nat,
  (∀ d, ds[i]? = some d → J.go i g1.H ∧ ∀ x H', J.yld i g1.H x H' → ∃ g2, g2.H = H' ∧ Ext g1 g2 ∧ Ok K ca g2 S1 ∧ RepG K ca g2 x d) ∧ (ds.length ≤ i → J.stop i g1.H)
def PostI (E : XK) (g : G) (o : Out) (R : It → Hp → Prop) : Prop := match o with
  | .ok (.lst ds) S => ∀ J g', Ext g g' → Ok K ca g' S → Walk K ca g' J ds → R J g'.H
  | .ok _ _ => False
  | .exc c S => ∀ g', Ext g g' → Ok K ca g' S → E (.ref (ca c)) none g'.H
  | .bad => False
def rdI (E : XK) (f : DE) : TI := fun σ H R => ∃ g0 g ρ S, g.H = H ∧ Ok K ca g S ∧ EnvR K ca g0 g σ ρ ∧ PostI K ca E g (f ρ S) R
end
section
variable {K : PySem.W.Frag} {ca : Nat → Addr} {E : XK} {g g1 : G}
theorem PostI.ext {o : Out} {R : It → Hp → Prop} (e : Ext g g1) (h : PostI K ca E g o R) : PostI K ca E g1 o R := by
  cases o with
  | ok d S =>
    cases d with
    | lst ds => exact fun J g' a b c => h J g' (e.trans a) b c
    | _ => exact h
  | exc c S => exact fun g' a b => h g' (e.trans a) b
  | bad => exact h
theorem PostI.of_bind {o : Out} {k : D → Store → Out} {Q : VK} {R : It → Hp → Prop} (h : PostI K ca E g (o.bind k) R)
    (hk : ∀ d S v g', Ext g g' → Ok K ca g' S → RepG K ca g' v d → PostI K ca E g' (k d S) R → Q v g'.H) : PostE K ca E g o Q := by
  cases o with
  | ok d S => exact fun v g' a b c => hk d S v g' a b c (PostI.ext a h)
  | exc c S => exact h
  | bad => exact h
theorem PostI.bindL {m : Nat} {o : OutL} {k : List D → Store → Out} {Q : List V → Hp → Prop} {R : It → Hp → Prop} (h : PostI K ca E g (o.bind k) R)
    (hk : ∀ ds S vs g', Ext g g' → Ok K ca g' S → RepAll K ca g'.A g'.F vs ds → vs.length = m → PostI K ca E g' (k ds S) R → Q vs g'.H) : PostA K ca m E g o Q := by
  cases o with
  | ok d S => exact fun v g' a b c l => hk d S v g' a b c l (PostI.ext a h)
  | exc c S => exact h
  | bad => exact h
theorem walk_list {a : Addr} {xs : List V} {ds : List D} (hs : SqL K g.F a xs) (hr : RepAll K ca g.A g.F xs ds) : Walk K ca g (Itl K a) ds := fun g1 S1 gr ok i => by
  have h1 : SqL K g1.H a xs := ok.sub.seq (gr.1.seq hs)
  refine ⟨fun d hd => ?_, fun hl => ⟨xs, h1, by rw [hr.length]; exact hl⟩⟩
  obtain ⟨v, e1, r⟩ := hr.get' hd
  refine ⟨⟨xs, v, h1, e1⟩, fun x H' y => ?_⟩
  obtain ⟨rfl, y⟩ := y
  have e2 := y xs h1
  rw [e1] at e2
  cases e2
  exact ⟨g1, rfl, Ext.refl _, ok, Rep.mono gr.2 gr.1 _ _ r⟩
theorem walk_tup {a : Addr} {xs : List V} {ds : List D} (hs : SqT K g.F a xs) (hr : RepAll K ca g.A g.F xs ds) : Walk K ca g (Itt K a) ds := fun g1 S1 gr ok i => by
  have h1 : SqT K g1.H a xs := same_t ok.sub (same_t gr.1 hs)
  refine ⟨fun d hd => ?_, fun hl => ⟨xs, h1, by rw [hr.length]; exact hl⟩⟩
  obtain ⟨v, e1, r⟩ := hr.get' hd
  refine ⟨⟨xs, v, h1, e1⟩, fun x H' y => ?_⟩
  obtain ⟨rfl, y⟩ := y
  have e2 := y xs h1
  rw [e1] at e2
  cases e2
  exact ⟨g1, rfl, Ext.refl _, ok, Rep.mono gr.2 gr.1 _ _ r⟩
def rangeD (lo c : Int) (n : Nat) : List D := (List.range n).map fun (i : Nat) => D.int (lo + (i : Int) * c)
theorem rangeD_get {lo c : Int} {n i : Nat} {d : D} (h : (rangeD lo c n)[i]? = some d) : i < n ∧ d = .int (lo + (i : Int) * c) := by
  unfold rangeD at h
  rw [List.getElem?_map] at h
  cases q : (List.range n)[i]? with
  | none => rw [q] at h; cases h
  | some j =>
    rw [q] at h
    cases h
    have := List.getElem?_eq_some_iff.mp q
    obtain ⟨l, e⟩ := this
    rw [List.getElem_range] at e
    rw [List.length_range] at l
    subst e
    exact ⟨l, rfl⟩
theorem walk_range {lo : Int} {n : Nat} : Walk K ca g (Itr lo n) (rangeD lo 1 n) := fun g1 S1 gr ok i => by
  refine ⟨fun d hd => ?_, fun hl => by
    unfold rangeD at hl
    rw [List.length_map, List.length_range] at hl
    exact hl⟩
  obtain ⟨h1, rfl⟩ := rangeD_get hd
  refine ⟨h1, fun x H' y => ?_⟩
  obtain ⟨rfl, rfl⟩ := y
  rw [Int.mul_one]
  exact ⟨g1, rfl, Ext.refl _, ok, .int _⟩
end
def oSeq : D1 := fun d S => match d with
  | .lst ds => .ok (.lst ds) S
  | .tup ds => .ok (.lst ds) S
  | _ => .bad
def eSeq (f : DE) : DE := eUn oSeq f
def small (i : Int) : Bool := decide (-100000000 < i) && decide (i < 100000000)
def oRng : List D → Store → Out := fun ds S => match ds with
  | [.int j] => if small j then .ok (.lst (rangeD 0 1 j.toNat)) S else .bad
  | [.int i, .int j] => if small i && small j then .ok (.lst (rangeD i 1 (j - i).toNat)) S else .bad
  | [.int i, .int j, .int 2] => if small i && small j then .ok (.lst (rangeD i 2 ((j - i + 1) / 2).toNat)) S else .bad
  | _ => .bad
def eRng (a : DA) : DE := fun ρ S => (a ρ S).bind oRng
theorem small_of {i : Int} (h : small i = true) : -(2 ^ 62) ≤ i ∧ i < 2 ^ 62 := by
  unfold small at h
  rw [Bool.and_eq_true, decide_eq_true_iff, decide_eq_true_iff] at h
  constructor
  · exact Int.le_trans (by decide) (Int.le_of_lt h.1)
  · exact Int.lt_trans h.2 (by decide)
section
variable {X : Cx} {ca : Nat → Addr} {E : XK} {tg l a b c : Expr} {f : DE} {fa : DA} {p pos : Pos}
theorem wkI {t t' : TI} (h : PI X tg l t) (k : ∀ σ H Q, t' σ H Q → t σ H Q) : PI X tg l t' := ⟨fun pins s σ H Q I q => h.run pins s σ H Q I (k σ H Q q)⟩
/-- a list or a tuple, whichever comes -/
def iSeq (K : PySem.W.Frag) (tl : TE) : TI := fun σ H R => tl σ H fun x H1 => ∃ a, x = .ref a ∧ (((∃ xs, SqL K H1 a xs) ∧ R (Itl K a) H1) ∨ ((∃ xs, SqT K H1 a xs) ∧ R (Itt K a) H1))
theorem pi_seq {tl : TE} (hl : PE X l tl) : PI X tg l (iSeq X.K tl) := by
  constructor
  intro pins s σ H R I h
  refine thn (hl.run pins s σ H _ I h) ?_
  rintro v s1 ⟨x, H1, I1, r1, a, rfl, ⟨⟨xs, hq⟩, q⟩ | ⟨⟨xs, hq⟩, q⟩⟩
  · cases r1
    obtain ⟨its, rv, hp, hz⟩ := I1.list hq
    refine wpAny_pyIter_list hp.isList ⟨_, [s1.heap.objs.size], _, Itl X.K a, H1, rfl, ?_, turn_list a _, ?_, ?_, q⟩
    · exact I1.kept (t' := s1.toks) fun b o e => Heap.get?_push_of_some _ e
    · exact ⟨_, Heap.get?_push_size _ rfl, rfl, rfl⟩
    · intro b hb
      rw [List.mem_singleton] at hb
      rw [hb]
      exact I1.fpOk (Nat.le_refl _) (I1.hok.fresh (Nat.le_refl _))
  · cases r1
    obtain ⟨its, rv, hp, hz⟩ := I1.tuple hq
    refine wpAny_pyIter_tuple hp ⟨_, [s1.heap.objs.size], _, Itt X.K a, H1, rfl, ?_, turn_tuple a _, ?_, ?_, q⟩
    · exact I1.kept (t' := s1.toks) fun b o e => Heap.get?_push_of_some _ e
    · exact ⟨_, Heap.get?_push_size _ rfl, rfl, rfl⟩
    · intro b hb
      rw [List.mem_singleton] at hb
      rw [hb]
      exact I1.fpOk (Nat.le_refl _) (I1.hok.fresh (Nat.le_refl _))
theorem gi_seq (hl : PE X l (rdE X.K ca E f)) : PI X tg l (rdI X.K ca E (eSeq f)) := wkI (pi_seq hl) fun σ H R q => by
  obtain ⟨g0, g, ρ, S, rfl, ok, env, post⟩ := q
  refine ⟨g0, g, ρ, S, rfl, ok, env, PostI.of_bind post fun d S1 v g1 e1 ok1 r1 post1 => ?_⟩
  cases r1 with
  | lst hs hr => exact ⟨_, rfl, .inl ⟨⟨_, SqL.of (ok1.sub _ _ hs)⟩, post1 _ g1 (Ext.refl _) ok1 (walk_list (SqL.of hs) hr)⟩⟩
  | tup hs hr => exact ⟨_, rfl, .inr ⟨⟨_, same_t ok1.sub hs⟩, post1 _ g1 (Ext.refl _) ok1 (walk_tup hs hr)⟩⟩
  | _ => exact post1.elim
theorem gi_range1 (hg : Gl X "range") (hm : X.mg "range" = none) (ha : PA X [a] (rdA X.K ca 1 E fa)) (hs : starEach [a] X.env = [(false, eval a X.env)] := by rfl) : PI X tg (.Call (.Name "range" p) [a] [] pos) (rdI X.K ca E (eRng fa)) := wkI (pi_range1 hg hm ha hs) fun σ H R q => by
  obtain ⟨g0, g, ρ, S, rfl, ok, env, post⟩ := q
  refine ⟨g0, g, ρ, S, rfl, ok, env, PostI.bindL post fun ds S1 vs g1 e1 ok1 r1 hl post1 => ?_⟩
  unfold oRng at post1
  split at post1
  · rename_i j
    split at post1
    · rename_i hj
      cases r1 with
      | cons r2 r3 =>
        cases r2
        cases r3
        exact ⟨j, rfl, (small_of hj).1, (small_of hj).2, post1 _ g1 (Ext.refl _) ok1 walk_range⟩
    · exact post1.elim
  · cases r1 with
    | cons _ r3 => cases r3; cases hl
  · cases r1 with
    | cons _ r3 => cases r3; cases hl
  · exact post1.elim
theorem gi_range2 (hg : Gl X "range") (hm : X.mg "range" = none) (ha : PA X [a, b] (rdA X.K ca 2 E fa)) (hs : starEach [a, b] X.env = [(false, eval a X.env), (false, eval b X.env)] := by rfl) (hs2 : starEach [b] X.env = [(false, eval b X.env)] := by rfl) :
    PI X tg (.Call (.Name "range" p) [a, b] [] pos) (rdI X.K ca E (eRng fa)) := wkI (pi_range2 hg hm ha hs hs2) fun σ H R q => by
  obtain ⟨g0, g, ρ, S, rfl, ok, env, post⟩ := q
  refine ⟨g0, g, ρ, S, rfl, ok, env, PostI.bindL post fun ds S1 vs g1 e1 ok1 r1 hl post1 => ?_⟩
  unfold oRng at post1
  split at post1
  · cases r1 with
    | cons _ r3 => cases r3; cases hl
  · rename_i i j
    split at post1
    · rename_i hj
      rw [Bool.and_eq_true] at hj
      cases r1 with
      | cons r2 r3 =>
        cases r2
        cases r3 with
        | cons r4 r5 =>
          cases r4
          cases r5
          exact ⟨i, j, rfl, ⟨(small_of hj.1).1, (small_of hj.1).2, (small_of hj.2).1, (small_of hj.2).2⟩, post1 _ g1 (Ext.refl _) ok1 walk_range⟩
    · exact post1.elim
  · cases r1 with
    | cons _ r3 =>
      cases r3 with
      | cons _ r4 => cases r4; cases hl
  · exact post1.elim
end
def loopF (b : D → DS) : List D → DS
  | [], ρ, S => .nx ρ S
  | d :: ds, ρ, S => match b d ρ S with
    | .nx ρ' S' => loopF b ds ρ' S'
    | .cnt ρ' S' => loopF b ds ρ' S'
    | .brk ρ' S' => .nx ρ' S'
    | .ret d S' => .ret d S'
    | .exc k S' => .exc k S'
    | .bad => .bad
def turnF (t : DG) (b : DS) : D → DS := fun d ρ S => match t d ρ with
  | some ρ' => b ρ' S
  | none => .bad
def sFor (it : DE) (t : DG) (b : DS) : DS := fun ρ S => (it ρ S).bindS fun d S1 => match d with
  | .lst ds => loopF (turnF t b) ds ρ S1
  | _ => .bad
theorem drop_cons {α : Type} {l : List α} {i : Nat} {x : α} (h : l[i]? = some x) : l.drop i = x :: l.drop (i + 1) := by
  obtain ⟨hl, e⟩ := List.getElem?_eq_some_iff.mp h
  rw [← e]
  exact List.drop_eq_getElem_cons hl
section
variable {X : Cx} {ca : Nat → Addr} {E : XK} {tg iter : Expr} {f : DE} {t : DG} {fb : DS} {pos : Pos} {body : List Stmt}
theorem gs_for (hp : PassesOwn (model X.prog X.w) X.A X.env X.xe) (hc : X.calm = true) (hi : PI X tg iter (rdI X.K ca E f)) (hg : PG X tg (rdG X.K ca t)) (hb : PSs X body (rdS X.K ca E fb))
    (hs : ∀ x, foldedSetIterable iter X.env x = pure x := by intro _; rfl) : PS X (.For tg iter body [] pos) (rdS X.K ca E (sFor f t fb)) := wkS (ps_for hp hc hi hg hb hs) fun Dn σ H q => by
  obtain ⟨g0, g, ρ, S, rfl, e0, ok, env, post⟩ := q
  refine ⟨g0, g, ρ, S, rfl, ok, env, ?_⟩
  unfold sFor at post
  cases q : f ρ S with
  | bad => rw [q] at post; exact post
  | exc c S1 =>
    rw [q] at post
    exact fun g' e' ok' => post g' (e0.trans e') ok'
  | ok d S1 =>
    rw [q] at post
    cases d with
    | lst ds =>
      intro J gJ eJ okJ wk
      have post0 : PostS X.K ca E g0 gJ (loopF (turnF t fb) ds ρ S1) Dn := PostS.grow eJ.grow post
      refine ⟨fun i m σ' H' => m = ds.length - i ∧ i ≤ ds.length ∧ ∃ g' ρ' S', g'.H = H' ∧ Ext g0 g' ∧ Grow gJ g' ∧ Ok X.K ca g' S' ∧ EnvR X.K ca g0 g' σ' ρ' ∧ PostS X.K ca E g0 g' (loopF (turnF t fb) (ds.drop i) ρ' S') Dn,
        ⟨ds.length, by simp, Nat.zero_le _, gJ, ρ, S1, rfl, e0.trans eJ, Grow.refl _, okJ, env.ext eJ, post0⟩, ?_⟩
      rintro i m σ1 H1 ⟨rfl, hi, g1, ρ1, S2, rfl, e1, w1, ok1, env1, post1⟩
      obtain ⟨wgo, wstop⟩ := wk g1 S2 w1 ok1 i
      by_cases hlt : i < ds.length
      · have hd : ds[i]? = some ds[i] := by simp [hlt]
        obtain ⟨go, yl⟩ := wgo ds[i] hd
        refine .inr ⟨go, fun σ' H' => (ds.length - (i + 1) = ds.length - (i + 1) ∧ i + 1 ≤ ds.length ∧ ∃ g' ρ' S', g'.H = H' ∧ Ext g0 g' ∧ Grow gJ g' ∧ Ok X.K ca g' S' ∧ EnvR X.K ca g0 g' σ' ρ' ∧ PostS X.K ca E g0 g' (loopF (turnF t fb) (ds.drop (i + 1)) ρ' S') Dn), fun σ' H' z => ⟨ds.length - (i + 1), by omega, z⟩, fun x H' y => ?_⟩
        obtain ⟨g2, rfl, e2, ok2, r2⟩ := yl x H' y
        rw [drop_cons hd] at post1
        cases ht : t ds[i] ρ1 with
        | none =>
          unfold loopF turnF at post1
          rw [ht] at post1
          exact post1.elim
        | some ρ2 =>
          have post2 : PostS X.K ca E g0 g2 (match fb ρ2 S2 with
            | .nx ρ' S' => loopF (turnF t fb) (ds.drop (i + 1)) ρ' S'
            | .cnt ρ' S' => loopF (turnF t fb) (ds.drop (i + 1)) ρ' S'
            | .brk ρ' S' => .nx ρ' S'
            | .ret d S' => .ret d S'
            | .exc k S' => .exc k S'
            | .bad => .bad) Dn := by
            have z := PostS.grow e2.grow post1
            have hx : turnF t fb ds[i] ρ1 S2 = fb ρ2 S2 := by
              unfold turnF
              rw [ht]
            rw [loopF, hx] at z
            exact z
          refine ⟨g0, g2, ρ1, ds[i], rfl, ok2.sub, env1.ext e2, r2, ρ2, ht, fun σ2 env2 => ⟨g0, g2, ρ2, S2, rfl, e1.trans e2, ok2, env2, ?_⟩⟩
          cases hfb : fb ρ2 S2 with
          | nx ρ' S' =>
            rw [hfb] at post2
            exact fun σ' g' b1 b2 b3 b4 => ⟨rfl, hlt, g', ρ', S', rfl, b1, (w1.trans e2.grow).trans b2, b3, b4, PostS.grow b2 post2⟩
          | cnt ρ' S' =>
            rw [hfb] at post2
            exact fun σ' g' b1 b2 b3 b4 => ⟨rfl, hlt, g', ρ', S', rfl, b1, (w1.trans e2.grow).trans b2, b3, b4, PostS.grow b2 post2⟩
          | brk ρ' S' => rw [hfb] at post2; exact post2
          | ret d S' => rw [hfb] at post2; exact post2
          | exc k S' => rw [hfb] at post2; exact post2
          | bad => rw [hfb] at post2; exact post2
      · have hn : ds.length ≤ i := Nat.le_of_not_lt hlt
        refine .inl ⟨wstop hn, ?_⟩
        rw [List.drop_eq_nil_of_le hn] at post1
        exact post1 σ1 g1 e1 (Grow.refl _) ok1 env1
    | _ => exact post.elim
end
def loopC (c e : D → Store → Out) : List D → Store → OutL
  | [], S => .ok [] S
  | d :: ds, S => match c d S with
    | .ok (.bl true) S1 => match e d S1 with
      | .ok y S2 => match loopC c e ds S2 with
        | .ok ys S3 => .ok (y :: ys) S3
        | _ => .bad
      | _ => .bad
    | .ok (.bl false) S1 => loopC c e ds S1
    | _ => .bad
def turnC (t : DG) (f : DE) (ρ : DEnv) : D → Store → Out := fun d S => match t d ρ with
  | some ρ' => f ρ' S
  | none => .bad
def eLc (it : DE) (t : DG) (c e : DE) : DE := fun ρ S => (it ρ S).bind fun d S1 => match d with
  | .lst ds => if ds.length ≤ 100000 then (loopC (turnC t c ρ) (turnC t e ρ) ds S1).bind fun ys S2 => .ok (.lst ys) S2 else .bad
  | _ => .bad
def eYes : DE := eC (.bl true)
/-- how a comprehension's target is set in the block's own slots -/
def TgOk (K : PySem.W.Frag) (ca : Nat → Addr) (vs : List Nat) (gt : TG) (t : DG) : Prop :=
  ∀ (g0 g : G) (ρ : DEnv) (σ : L2.St) (x : V) (d : D) (ρ' : DEnv), EnvR K ca g0 g σ ρ → Same g.F g.H → RepG K ca g x d → t d ρ = some ρ' → ∀ R : L2.St → Hp → Prop, (∀ σ2, EnvR K ca g0 g σ2 ρ' → wipe σ2 vs = wipe σ vs → R σ2 g.H) → gt x (wipe σ vs) g.H R
section
variable {K : PySem.W.Frag} {ca : Nat → Addr} {g0 g : G} {ρ : DEnv} {σ : L2.St}
theorem tgOk_name (j : Nat) : TgOk K ca [j] (gName j) (tgName j) := fun g0 g ρ σ x d ρ' env sm r e R k => by
  cases e
  refine k _ ?_ ?_
  · show EnvR K ca g0 g ((σ.set j none).set j (some x)) _
    rw [List.set_set]
    exact env.set r j
  · show (((σ.set j none).set j (some x)).set j none) = σ.set j none
    rw [List.set_set, List.set_set]
end
section
variable {X : Cx} {ca : Nat → Addr} {E : XK} {f fc fe : DE} {t : DG} {gt : TG} {vs : List Nat}
theorem rd_lc {K : PySem.W.Frag} (ht : TgOk K ca vs gt t) (σ : L2.St) (H : Hp) (Q : VK) (q : rdF K ca E (eLc f t fc fe) σ H Q) : tLc (rdI K ca E f) gt (rdT K ca E0 fc) (rdE K ca E0 fe) vs σ H Q := by
  obtain ⟨g0, g, ρ, S, rfl, ok, env, post⟩ := q
  refine ⟨g0, g, ρ, S, rfl, ok, env, ?_⟩
  unfold eLc at post
  cases q : f ρ S with
  | bad => rw [q] at post; exact post
  | exc c S1 => rw [q] at post; exact post
  | ok d S1 =>
    rw [q] at post
    cases d with
    | lst ds =>
      intro J gJ eJ okJ wk Dl hD
      dsimp only [Out.bind] at post
      by_cases hz : ds.length ≤ 100000
      · rw [if_pos hz] at post
        cases hlc : loopC (turnC t fc ρ) (turnC t fe ρ) ds S1 with
        | bad => rw [hlc] at post; exact post.elim
        | exc c S2 =>
          exfalso
          clear post
          have : ∀ (l : List D) (S : Store) (c : Nat) (S2 : Store), loopC (turnC t fc ρ) (turnC t fe ρ) l S ≠ .exc c S2 := by
            intro l
            induction l with
            | nil => intro S c S2 z; cases z
            | cons d l ih =>
              intro S c S2 z
              unfold loopC at z
              split at z
              · split at z
                · split at z
                  · cases z
                  · cases z
                · cases z
              · exact ih _ _ _ z
              · cases z
          exact this _ _ _ _ hlc
        | ok ys S2 =>
          rw [hlc] at post
          have dF : gJ.F Dl = none := okJ.ffree hD
          have dA : Dl ∉ gJ.A := fun z => okJ.there z hD
          refine ⟨fun i m H' => m = ds.length - i ∧ i ≤ ds.length ∧ ∃ g' S' acc ac zs, g'.H = H' ∧ Ext gJ g' ∧ Ok K ca g' S' ∧ g'.F Dl = none ∧ Dl ∉ g'.A ∧ g'.H Dl = some (.lst acc) ∧ RepAll K ca g'.A g'.F acc ac ∧ ac.length ≤ i ∧ loopC (turnC t fc ρ) (turnC t fe ρ) (ds.drop i) S' = .ok zs S2 ∧ ac ++ zs = ys,
            ⟨ds.length, by simp, Nat.zero_le _, gJ.put Dl (.lst []), S1, [], [], ys, rfl, ext_put hD, ok_put okJ dF dA, dF, dA, upd_same, .nil, Nat.le_refl _, hlc, rfl⟩, ?_⟩
          rintro i m H1 ⟨rfl, hi, g1, S3, acc, ac, zs, rfl, e1, ok1, f1, a1, h1, r1, l1, lp, es⟩
          obtain ⟨wgo, wstop⟩ := wk g1 S3 e1.grow ok1 i
          by_cases hlt : i < ds.length
          · have hd : ds[i]? = some ds[i] := by simp [hlt]
            obtain ⟨go, yl⟩ := wgo ds[i] hd
            refine .inr ⟨go, fun H' => (ds.length - (i + 1) = ds.length - (i + 1) ∧ i + 1 ≤ ds.length ∧ ∃ g' S' acc ac zs, g'.H = H' ∧ Ext gJ g' ∧ Ok K ca g' S' ∧ g'.F Dl = none ∧ Dl ∉ g'.A ∧ g'.H Dl = some (.lst acc) ∧ RepAll K ca g'.A g'.F acc ac ∧ ac.length ≤ i + 1 ∧ loopC (turnC t fc ρ) (turnC t fe ρ) (ds.drop (i + 1)) S' = .ok zs S2 ∧ ac ++ zs = ys), fun H' z => ⟨ds.length - (i + 1), by omega, z⟩, fun x H' y => ?_⟩
            obtain ⟨g2, rfl, e2, ok2, r2⟩ := yl x H' y
            rw [drop_cons hd] at lp
            have env2 : EnvR K ca g0 g2 σ ρ := env.ext ((eJ.trans e1).trans e2)
            have h2 : g2.H Dl = some (.lst acc) := e2.H Dl _ a1 h1
            have f2 : g2.F Dl = none := e2.nf Dl (some_ne h1) f1
            have a2 : Dl ∉ g2.A := e2.out a1 (some_ne h1)
            cases htd : t ds[i] ρ with
            | none =>
              unfold loopC at lp
              have hx : turnC t fc ρ ds[i] S3 = .bad := by
                unfold turnC
                rw [htd]
              rw [hx] at lp
              cases lp
            | some ρ2 =>
              have hx : turnC t fc ρ ds[i] S3 = fc ρ2 S3 := by
                unfold turnC
                rw [htd]
              refine ht g0 g2 ρ σ x ds[i] ρ2 env2 ok2.sub r2 htd _ fun σ2 env3 hw => ⟨hw, g0, g2, ρ2, S3, rfl, ok2, env3, ?_⟩
              unfold loopC at lp
              rw [hx] at lp
              cases hc : fc ρ2 S3 with
              | bad => rw [hc] at lp; cases lp
              | exc c S4 => rw [hc] at lp; cases lp
              | ok d4 S4 =>
                rw [hc] at lp
                intro v4 g4 e4 ok4 r4
                have env4 : EnvR K ca g0 g4 σ2 ρ2 := env3.ext e4
                have h4 : g4.H Dl = some (.lst acc) := e4.H Dl _ a2 h2
                have f4 : g4.F Dl = none := e4.nf Dl (some_ne h2) f2
                have a4 : Dl ∉ g4.A := e4.out a2 (some_ne h2)
                cases r4 with
                | bl b =>
                  refine ⟨b, rfl, ?_⟩
                  cases b with
                  | false => exact iteF ⟨rfl, hlt, g4, S4, acc, ac, zs, rfl, (e1.trans e2).trans e4, ok4, f4, a4, h4, r1.ext (e2.trans e4), Nat.le_succ_of_le l1, lp, es⟩
                  | true =>
                    refine iteT ⟨g0, g4, ρ2, S4, rfl, ok4, env4, ?_⟩
                    dsimp only at lp
                    have hy : turnC t fe ρ ds[i] S4 = fe ρ2 S4 := by
                      unfold turnC
                      rw [htd]
                    rw [hy] at lp
                    cases he : fe ρ2 S4 with
                    | bad => rw [he] at lp; cases lp
                    | exc c S5 => rw [he] at lp; cases lp
                    | ok d5 S5 =>
                      rw [he] at lp
                      dsimp only at lp
                      intro v5 g5 e5 ok5 r5
                      cases hr : loopC (turnC t fc ρ) (turnC t fe ρ) (ds.drop (i + 1)) S5 with
                      | bad => rw [hr] at lp; cases lp
                      | exc c S6 => rw [hr] at lp; cases lp
                      | ok zs' S6 =>
                        rw [hr] at lp
                        injection lp with lp1 lp2
                        subst lp2
                        have h5 : g5.H Dl = some (.lst acc) := e5.H Dl _ a4 h4
                        have f5 : g5.F Dl = none := e5.nf Dl (some_ne h4) f4
                        have a5 : Dl ∉ g5.A := e5.out a4 (some_ne h4)
                        have x5 : Ext gJ g5 := ((e1.trans e2).trans e4).trans e5
                        have ra : RepAll K ca g5.A g5.F acc ac := r1.ext ((e2.trans e4).trans e5)
                        refine ⟨acc, h5, ?_, rfl, hlt, g5.put Dl (.lst (acc ++ [v5])), S5, acc ++ [v5], ac ++ [d5], zs', rfl, ext_put0 x5 hD, ok_put ok5 f5 a5, f5, a5, upd_same, ra.append (.cons r5 .nil), ?_, hr, ?_⟩
                        · rw [ra.length]
                          exact Nat.lt_of_le_of_lt l1 (Nat.lt_of_lt_of_le hlt (Nat.le_trans hz (by decide)))
                        · rw [List.length_append, List.length_singleton]
                          omega
                        · rw [List.append_assoc, List.singleton_append, lp1]
                          exact es
                | _ => cases lp
          · have hn : ds.length ≤ i := Nat.le_of_not_lt hlt
            refine .inl ⟨wstop hn, ?_⟩
            rw [List.drop_eq_nil_of_le hn] at lp
            injection lp with lp1 lp2
            subst lp1 lp2
            rw [List.append_nil] at es
            subst es
            refine post Dl acc g1 (eJ.trans e1) ok1 ?_ f1 a1 h1 r1
            cases z : g.H Dl with
            | none => rfl
            | some o => exact absurd hD (eJ.kp Dl (some_ne z))
      · rw [if_neg hz] at post
        exact post.elim
    | _ => exact post.elim
end
end DL
set_option Elab.async false
set_option linter.all false
set_option maxRecDepth 100000
set_option maxHeartbeats 1000000
namespace DL
open PySem PySem.Spec PyProof.Rows L2
mutual
def D.py : D → PyData
  | .non => .none
  | .bl b => .bool b
  | .int i => .int i
  | .str x => .str x
  | .lst xs => .list (pyAll xs)
  | .tup xs => .tuple (pyAll xs)
  | .fls xs => .list (pyAll xs)
  | .obj _ => .none
  | .exc _ => .none
def pyAll : List D → List PyData
  | [] => []
  | d :: ds => d.py :: pyAll ds
end
/-- plain data, n levels deep -/
def okD : Nat → D → Bool
  | _, .non => true
  | _, .bl _ => true
  | _, .int _ => true
  | _, .str x => PyData.strOk x
  | n + 1, .lst xs => xs.all (okD n)
  | n + 1, .tup xs => xs.all (okD n)
  | n + 1, .fls xs => xs.all (okD n)
  | _, _ => false
mutual
def eqD : D → D → Bool
  | .non, .non => true
  | .bl a, .bl b => a == b
  | .bl a, .int j => (if a then 1 else 0) == j
  | .int i, .bl b => i == (if b then 1 else 0)
  | .int i, .int j => i == j
  | .str x, .str y => x == y
  | .lst xs, .lst ys => eqAll xs ys
  | .lst xs, .fls ys => eqAll xs ys
  | .fls xs, .lst ys => eqAll xs ys
  | .fls xs, .fls ys => eqAll xs ys
  | .tup xs, .tup ys => eqAll xs ys
  | _, _ => false
def eqAll : List D → List D → Bool
  | [], [] => true
  | x :: xs, y :: ys => eqD x y && eqAll xs ys
  | _, _ => false
end
theorem okAll_lay (n : Nat) (ih : ∀ d, okD n d = true → d.py.canLay0 = true ∧ d.py.depth ≤ n) : ∀ (xs : List D), xs.all (okD n) = true → PyData.canLayAll0 (pyAll xs) = true ∧ PyData.depthAll (pyAll xs) ≤ n
  | [], _ => ⟨by simp [pyAll, PyData.canLayAll0], by simp [pyAll, PyData.depthAll]⟩
  | x :: xs, h => by
    rw [List.all_cons, Bool.and_eq_true] at h
    obtain ⟨h1, h2⟩ := h
    obtain ⟨a1, a2⟩ := ih x h1
    obtain ⟨b1, b2⟩ := okAll_lay n ih xs h2
    constructor
    · simp [pyAll, PyData.canLayAll0, a1, b1]
    · simp only [pyAll, PyData.depthAll]
      omega
theorem okD_lay : ∀ (n : Nat) (d : D), okD n d = true → d.py.canLay0 = true ∧ d.py.depth ≤ n := by
  intro n
  induction n with
  | zero =>
    intro d h
    cases d <;> first | (simp [okD] at h; done) | exact ⟨by simpa [D.py, PyData.canLay0, okD] using h, by simp [D.py, PyData.depth]⟩ | exact ⟨by simp [D.py, PyData.canLay0], by simp [D.py, PyData.depth]⟩
  | succ n ih =>
    intro d h
    cases d with
    | lst xs =>
      obtain ⟨a, b⟩ := okAll_lay n ih xs h
      exact ⟨by simp [D.py, PyData.canLay0, a], by simp only [D.py, PyData.depth]; omega⟩
    | tup xs =>
      obtain ⟨a, b⟩ := okAll_lay n ih xs h
      exact ⟨by simp [D.py, PyData.canLay0, a], by simp only [D.py, PyData.depth]; omega⟩
    | fls xs =>
      obtain ⟨a, b⟩ := okAll_lay n ih xs h
      exact ⟨by simp [D.py, PyData.canLay0, a], by simp only [D.py, PyData.depth]; omega⟩
    | obj _ => simp [okD] at h
    | exc _ => simp [okD] at h
    | str x => exact ⟨by simpa [D.py, PyData.canLay0, okD] using h, by simp [D.py, PyData.depth]⟩
    | _ => exact ⟨by simp [D.py, PyData.canLay0], by simp [D.py, PyData.depth]⟩
theorem okD_shaped {n : Nat} (hn : n ≤ 64) {d : D} (h : okD n d = true) : SeqAt.shaped d.py = true := by
  obtain ⟨a, b⟩ := okD_lay n d h
  unfold SeqAt.shaped
  rw [a, decide_eq_true (Nat.le_trans b hn)] <;> rfl
theorem eqAll_py (n : Nat) (ih : ∀ d e, okD n d = true → okD n e = true → eqD d e = PyData.eqv d.py e.py) : ∀ (xs ys : List D), xs.all (okD n) = true → ys.all (okD n) = true → eqAll xs ys = PyData.eqvAll (pyAll xs) (pyAll ys)
  | [], [], _, _ => by simp [eqAll, pyAll, PyData.eqvAll]
  | [], y :: ys, _, _ => by simp [eqAll, pyAll, PyData.eqvAll]
  | x :: xs, [], _, _ => by simp [eqAll, pyAll, PyData.eqvAll]
  | x :: xs, y :: ys, h, h' => by
    rw [List.all_cons, Bool.and_eq_true] at h h'
    simp only [eqAll, pyAll, PyData.eqvAll]
    rw [ih x y h.1 h'.1, eqAll_py n ih xs ys h.2 h'.2]
theorem eqD_py : ∀ (n : Nat) (d e : D), okD n d = true → okD n e = true → eqD d e = PyData.eqv d.py e.py := by
  intro n
  induction n with
  | zero =>
    intro d e hd he
    cases d <;> cases e <;> first
      | (simp [eqD, D.py, PyData.eqv]; done)
      | (simp [okD] at hd; done)
      | (simp [okD] at he; done)
  | succ n ih =>
    intro d e hd he
    cases d <;> cases e <;> first
      | (simp [eqD, D.py, PyData.eqv]; done)
      | (simp [okD] at hd; done)
      | (simp [okD] at he; done)
      | (simp only [eqD, D.py, PyData.eqv]
         exact eqAll_py n ih _ _ hd he)
section
variable {K : PySem.W.Frag} {ca : Nat → Addr} {A : List Addr} {F H : Hp}
mutual
theorem Rep.dp (sm : Same F H) : ∀ (n : Nat) (d : D) (v : V), okD n d = true → Rep K ca A F v d → Dp K H v d.py
  | _, .non, _, _, h => by cases h; exact .non
  | _, .bl b, _, _, h => by cases h; exact .bl b
  | _, .int i, _, _, h => by cases h; exact .int i
  | _, .str x, _, _, h => by cases h; exact .str x
  | n + 1, .lst ds, _, o, h => by
    cases h with
    | lst hs ha => exact .lst (SqL.of (sm _ _ hs)) (RepAll.dp sm n ds _ o ha)
  | n + 1, .fls ds, _, o, h => by
    cases h with
    | fls hs ha => exact .lst (sm.seq hs) (RepAll.dp sm n ds _ o ha)
  | n + 1, .tup ds, _, o, h => by
    cases h with
    | tup hs ha => exact .tup (same_t sm hs) (RepAll.dp sm n ds _ o ha)
  | 0, .lst ds, _, o, h => by simp [okD] at o
  | 0, .fls ds, _, o, h => by simp [okD] at o
  | 0, .tup ds, _, o, h => by simp [okD] at o
  | n, .obj _, _, o, h => by cases n <;> simp [okD] at o
  | n, .exc _, _, o, h => by cases n <;> simp [okD] at o
theorem RepAll.dp (sm : Same F H) : ∀ (n : Nat) (ds : List D) (vs : List V), ds.all (okD n) = true → RepAll K ca A F vs ds → DpAll K H vs (pyAll ds)
  | _, [], _, _, h => by cases h; exact .nil
  | n, d :: ds, _, o, h => by
    cases h with
    | cons h1 h2 =>
      rw [List.all_cons, Bool.and_eq_true] at o
      exact .cons (Rep.dp sm n d _ o.1 h1) (RepAll.dp sm n ds _ o.2 h2)
end
end
theorem OpR.or {X : Cx} {f : Value → Value → Sem Value} {r r' : R2} (h : OpR X f r) (h' : OpR X f r') : OpR X f (fun x y H Q => r x y H Q ∨ r' x y H Q) := fun pins s σ H x y v u Q I rx ry q => q.elim (fun q => h pins s σ H x y v u Q I rx ry q) fun q => h' pins s σ H x y v u Q I rx ry q
def oEq : D2 := fun d e S => if okD 6 d && okD 6 e then .ok (.bl (eqD d e)) S else .bad
def oNe : D2 := fun d e S => if okD 6 d && okD 6 e then .ok (.bl (!eqD d e)) S else .bad
def oLt : D2 := fun d e S => match d, e with
  | .int i, .int j => .ok (.bl (decide (i < j))) S
  | _, _ => .bad
def oLe : D2 := fun d e S => match d, e with
  | .int i, .int j => .ok (.bl (decide (i ≤ j))) S
  | _, _ => .bad
def oGt : D2 := fun d e S => match d, e with
  | .int i, .int j => .ok (.bl (decide (j < i))) S
  | _, _ => .bad
def oGe : D2 := fun d e S => match d, e with
  | .int i, .int j => .ok (.bl (decide (j ≤ i))) S
  | _, _ => .bad
def oSub : D2 := fun d e S => match d, e with
  | .int i, .int j => .ok (.int (i - j)) S
  | _, _ => .bad
def big (i : Int) : Bool := decide (-18446744073709551616 < i) && decide (i < 18446744073709551616)
def oMul : D2 := fun d e S => match d, e with
  | .int i, .int j => if big i || big j then .ok (.int (i * j)) S else .bad
  | .lst xs, .int k => if decide (-100000 ≤ k) && decide (k ≤ 100000) && decide (xs.length * k.toNat ≤ 100000) then .ok (.lst ((List.replicate k.toNat xs).flatten)) S else .bad
  | _, _ => .bad
def oFdiv : D2 := fun d e S => match d, e with
  | .int i, .int j => if decide (0 < j) && decide (j < 1073741824) then .ok (.int (i / j)) S else .bad
  | _, _ => .bad
def oMod : D2 := fun d e S => match d, e with
  | .int i, .int j => if decide (0 < j) then .ok (.int (i % j)) S else .bad
  | _, _ => .bad
def oPow : D2 := fun d e S => match d, e with
  | .int i, .int j => if decide (0 ≤ j) && decide (j ≤ 1000) && big i then .ok (.int (i ^ j.toNat)) S else .bad
  | _, _ => .bad
def oAdd : D2 := fun d e S => match d, e with
  | .int i, .int j => .ok (.int (i + j)) S
  | .lst xs, .lst ys => if xs.length + ys.length ≤ 100000 then .ok (.lst (xs ++ ys)) S else .bad
  | .str x, .str y => if x.length + y.length ≤ 100000 then .ok (.str (x ++ y)) S else .bad
  | _, _ => .bad
def oNeg : D1 := fun d S => match d with
  | .int i => .ok (.int (-i)) S
  | _ => .bad
def isNon : D → Bool
  | .non => true
  | _ => false
def oIs : D2 := fun d e S => match d, e with
  | .bl a, .bl b => .ok (.bl (decide (a = b))) S
  | d, .non => .ok (.bl (isNon d)) S
  | _, _ => .bad
def oIsnt : D2 := fun d e S => match d, e with
  | .bl a, .bl b => .ok (.bl (!decide (a = b))) S
  | d, .non => .ok (.bl (!isNon d)) S
  | _, _ => .bad
theorem sz_of {n : Nat} (h : n ≤ 100000) : n ≤ sizeLine := Nat.le_trans h (by decide)
theorem big_of {i : Int} (h : big i = true) : -(2 ^ 64) < i ∧ i < 2 ^ 64 := by
  unfold big at h
  rw [Bool.and_eq_true, decide_eq_true_iff, decide_eq_true_iff] at h
  exact h
section
variable {X : Cx} {ca : Nat → Addr} {E : XK}
/-- the operators' rules on values -/
def rAddA : R2 := fun x y H Q => (rI0 (fun i j => .int (i + j))) x y H Q ∨ (rCat x y H Q ∨ ∃ i j, x = .str i ∧ y = .str j ∧ i.length + j.length ≤ sizeLine ∧ Q (.str (i ++ j)) H)
theorem op_addA : OpR X (binaryOp .Add) rAddA := OpR.or op_add (OpR.or op_cat op_add_str)
def rMulA : R2 := fun x y H Q => (rI CMul (fun i j => .int (i * j))) x y H Q ∨ rRep x y H Q
theorem op_mulA : OpR X (binaryOp .Mult) rMulA := OpR.or op_mul op_rep
variable {K : PySem.W.Frag}
theorem s_eq : OpS K ca E (rEqD K) oEq := fun g S v w d e Q ok r1 r2 post => by
  unfold oEq at post
  split at post
  · rename_i h
    rw [Bool.and_eq_true] at h
    exact ⟨d.py, e.py, Rep.dp ok.sub 6 d v h.1 r1, Rep.dp ok.sub 6 e w h.2 r2, okD_shaped (by decide) h.1, okD_shaped (by decide) h.2, by
      rw [← eqD_py 6 d e h.1 h.2]
      exact PostE.here post ok (.bl _)⟩
  · exact post.elim
theorem s_ne : OpS K ca E (rNeD K) oNe := fun g S v w d e Q ok r1 r2 post => by
  unfold oNe at post
  split at post
  · rename_i h
    rw [Bool.and_eq_true] at h
    exact ⟨d.py, e.py, Rep.dp ok.sub 6 d v h.1 r1, Rep.dp ok.sub 6 e w h.2 r2, okD_shaped (by decide) h.1, okD_shaped (by decide) h.2, by
      rw [← eqD_py 6 d e h.1 h.2]
      exact PostE.here post ok (.bl _)⟩
  · exact post.elim
theorem s_lt : OpS K ca E (rI0 fun i j => .bl (decide (i < j))) oLt := fun g S v w d e Q ok r1 r2 post => by
  unfold oLt at post
  split at post
  · cases r1
    cases r2
    exact ⟨_, _, rfl, rfl, PostE.here post ok (.bl _)⟩
  · exact post.elim
theorem s_le : OpS K ca E (rI0 fun i j => .bl (decide (i ≤ j))) oLe := fun g S v w d e Q ok r1 r2 post => by
  unfold oLe at post
  split at post
  · cases r1
    cases r2
    exact ⟨_, _, rfl, rfl, PostE.here post ok (.bl _)⟩
  · exact post.elim
theorem s_gt : OpS K ca E (rI0 fun i j => .bl (decide (j < i))) oGt := fun g S v w d e Q ok r1 r2 post => by
  unfold oGt at post
  split at post
  · cases r1
    cases r2
    exact ⟨_, _, rfl, rfl, PostE.here post ok (.bl _)⟩
  · exact post.elim
theorem s_ge : OpS K ca E (rI0 fun i j => .bl (decide (j ≤ i))) oGe := fun g S v w d e Q ok r1 r2 post => by
  unfold oGe at post
  split at post
  · cases r1
    cases r2
    exact ⟨_, _, rfl, rfl, PostE.here post ok (.bl _)⟩
  · exact post.elim
theorem s_sub : OpS K ca E (rI0 fun i j => .int (i - j)) oSub := fun g S v w d e Q ok r1 r2 post => by
  unfold oSub at post
  split at post
  · cases r1
    cases r2
    exact ⟨_, _, rfl, rfl, PostE.here post ok (.int _)⟩
  · exact post.elim
theorem flatten_rep {A : List Addr} {F : Hp} {xs : List V} {ds : List D} (r : RepAll K ca A F xs ds) : ∀ n : Nat, RepAll K ca A F (List.replicate n xs).flatten (List.replicate n ds).flatten
  | 0 => .nil
  | n + 1 => by
    rw [List.replicate_succ, List.replicate_succ, List.flatten_cons, List.flatten_cons]
    exact r.append (flatten_rep r n)
theorem new_lst {g : G} {S : Store} {xs : List V} {ds : List D} {Q : VK} (ok : Ok K ca g S) (post : PostE K ca E g (.ok (.lst ds) S) Q) (r : RepAll K ca g.A g.F xs ds) (p : Addr) (hp : g.H p = none) : Q (.ref p) (upd g.H p (.lst xs)) :=
  post (.ref p) (g.frz p (.lst xs)) (ext_frz ok hp) (ok_frz ok hp) (.lst upd_same (r.ext (ext_frz ok hp)))
theorem s_mul : OpS K ca E rMulA oMul := fun g S v w d e Q ok r1 r2 post => by
  unfold oMul at post
  split at post
  · split at post
    · rename_i h
      cases r1
      cases r2
      refine .inl ⟨_, _, rfl, rfl, ?_, PostE.here post ok (.int _)⟩
      rw [Bool.or_eq_true] at h
      rcases h with h | h
      · exact .inl (big_of h)
      · exact .inr (big_of h)
    · exact post.elim
  · rename_i xs k
    split at post
    · rename_i h
      rw [Bool.and_eq_true, Bool.and_eq_true, decide_eq_true_iff, decide_eq_true_iff, decide_eq_true_iff] at h
      cases r2
      cases r1 with
      | lst hs hr =>
        refine .inr ⟨_, k, _, rfl, rfl, ok.sub _ _ hs, ?_, ?_, ?_, fun p hp => ?_⟩
        · have := h.1.1
          omega
        · have := h.1.2
          omega
        · rw [hr.length]
          exact sz_of h.2
        · have z := new_lst ok post (flatten_rep hr k.toNat) p hp
          exact z
    · exact post.elim
  · exact post.elim
theorem s_fdiv : OpS K ca E (rI CDiv fun i j => .int (i / j)) oFdiv := fun g S v w d e Q ok r1 r2 post => by
  unfold oFdiv at post
  split at post
  · split at post
    · rename_i h
      rw [Bool.and_eq_true, decide_eq_true_iff, decide_eq_true_iff] at h
      cases r1
      cases r2
      exact ⟨_, _, rfl, rfl, h, PostE.here post ok (.int _)⟩
    · exact post.elim
  · exact post.elim
theorem s_mod : OpS K ca E (rI (fun _ j => 0 < j) fun i j => .int (i % j)) oMod := fun g S v w d e Q ok r1 r2 post => by
  unfold oMod at post
  split at post
  · split at post
    · rename_i h
      rw [decide_eq_true_iff] at h
      cases r1
      cases r2
      exact ⟨_, _, rfl, rfl, h, PostE.here post ok (.int _)⟩
    · exact post.elim
  · exact post.elim
theorem s_pow : OpS K ca E (rI CPow fun i j => .int (i ^ j.toNat)) oPow := fun g S v w d e Q ok r1 r2 post => by
  unfold oPow at post
  split at post
  · split at post
    · rename_i h
      rw [Bool.and_eq_true, Bool.and_eq_true, decide_eq_true_iff, decide_eq_true_iff] at h
      cases r1
      cases r2
      have b := big_of h.2
      refine ⟨_, _, rfl, rfl, ⟨h.1.1, by have := h.1.2; omega, ?_⟩, PostE.here post ok (.int _)⟩
      omega
    · exact post.elim
  · exact post.elim
theorem s_add : OpS K ca E rAddA oAdd := fun g S v w d e Q ok r1 r2 post => by
  unfold oAdd at post
  split at post
  · cases r1
    cases r2
    exact .inl ⟨_, _, rfl, rfl, PostE.here post ok (.int _)⟩
  · split at post
    · rename_i h
      cases r1 with
      | lst hs hr =>
        cases r2 with
        | lst hs' hr' =>
          refine .inr (.inl ⟨_, _, _, _, rfl, rfl, ok.sub _ _ hs, ok.sub _ _ hs', ?_, fun p hp => new_lst ok post (hr.append hr') p hp⟩)
          rw [hr.length, hr'.length]
          exact sz_of h
    · exact post.elim
  · split at post
    · rename_i h
      cases r1
      cases r2
      exact .inr (.inr ⟨_, _, rfl, rfl, sz_of h, PostE.here post ok (.str _)⟩)
    · exact post.elim
  · exact post.elim
theorem s_neg : UnS K ca E (rU fun i => .int (-i)) oNeg := fun g S v d Q ok r1 post => by
  unfold oNeg at post
  split at post
  · cases r1
    exact ⟨_, rfl, PostE.here post ok (.int _)⟩
  · exact post.elim
end
def flatD : D → Bool
  | .non => true
  | .bl _ => true
  | .int _ => true
  | .str _ => true
  | _ => false
def one? (x : Str) : Option Nat := match x.cps.toList with
  | [c] => some c
  | _ => none
theorem one?_some {x : Str} {c : Nat} (h : one? x = some c) : x = ⟨#[c]⟩ := by
  obtain ⟨⟨l⟩⟩ := x
  unfold one? at h
  split at h
  · rename_i c' e
    cases h
    have e' : l = [c] := e
    rw [e']
  · cases h
/-- x in a list or tuple -/
def inD (x : D) (ds : List D) : Bool := ds.any fun y => eqD y x
def oIn (neg : Bool) : D2 := fun d e S => match e with
  | .tup ds => if flatD d && ds.all flatD then .ok (.bl (if neg then !inD d ds else inD d ds)) S else .bad
  | .lst ds => if flatD d && ds.all flatD then .ok (.bl (if neg then !inD d ds else inD d ds)) S
    else if okD 5 d && ds.all (okD 5) then .ok (.bl (if neg then !inD d ds else inD d ds)) S else .bad
  | .str t => match d with
    | .str x => match one? x with
      | some c => .ok (.bl (if neg then !decide (c ∈ t.cps.toList) else decide (c ∈ t.cps.toList))) S
      | none => .bad
    | _ => .bad
  | _ => .bad
def rInS (neg : Bool) : R2 := fun x y H Q => ∃ (c : Nat) (z : Str), x = .str ⟨#[c]⟩ ∧ y = .str z ∧ Q (.bl (if neg then !decide (c ∈ z.cps.toList) else decide (c ∈ z.cps.toList))) H
section
variable {X : Cx} {ca : Nat → Addr} {E : XK} {K : PySem.W.Frag}
theorem op_notInA (hu : X.A.units + 65 < cLine) : OpR X (compareOp .NotIn) (fun x y H Q => rIn X.K true x y H Q ∨ (rNotInD X.K x y H Q ∨ rInS true x y H Q)) := OpR.or op_notIn_seq (OpR.or (op_notInD hu) op_notIn_sign)
theorem Rep.flat {A : List Addr} {F : Hp} {v : V} {d : D} (r : Rep K ca A F v d) (h : flatD d = true) : flatV v = true := by
  cases r <;> first | rfl | cases h
theorem Rep.eqV {A : List Addr} {F : Hp} {v w : V} {d e : D} (r : Rep K ca A F v d) (q : Rep K ca A F w e) (h : flatD d = true) (h' : flatD e = true) : L2.eqV v w = eqD d e := by
  cases r <;> first
    | (cases h; done)
    | (cases q <;> first | (cases h'; done) | (simp [L2.eqV, eqD]; done))
theorem RepAll.flat {A : List Addr} {F : Hp} : ∀ {vs : List V} {ds : List D}, RepAll K ca A F vs ds → ds.all flatD = true → vs.all flatV = true
  | _, _, .nil, _ => rfl
  | _, _, .cons r t, h => by
    rw [List.all_cons, Bool.and_eq_true] at h
    rw [List.all_cons, r.flat h.1, RepAll.flat t h.2] <;> rfl
theorem RepAll.inV {A : List Addr} {F : Hp} {w : V} {e : D} (q : Rep K ca A F w e) (h' : flatD e = true) : ∀ {vs : List V} {ds : List D}, RepAll K ca A F vs ds → ds.all flatD = true → L2.inV w vs = inD e ds
  | _, _, .nil, _ => rfl
  | _, _, .cons (v := v) (vs := vs) (d := d) (ds := ds) r t, h => by
    rw [List.all_cons, Bool.and_eq_true] at h
    have ih := RepAll.inV q h' t h.2
    unfold L2.inV inD at *
    rw [List.any_cons, List.any_cons, ih, r.eqV q h.1 h']
theorem inD_py {e : D} (h' : okD 5 e = true) : ∀ (ds : List D), ds.all (okD 5) = true → ((pyAll ds).any fun z => PyData.eqv z e.py) = inD e ds
  | [], _ => rfl
  | d :: ds, h => by
    rw [List.all_cons, Bool.and_eq_true] at h
    have ih := inD_py h' ds h.2
    unfold inD at *
    rw [pyAll, List.any_cons, List.any_cons, ih, eqD_py 5 d e h.1 h']
theorem s_notIn : OpS K ca E (fun x y H Q => rIn K true x y H Q ∨ (rNotInD K x y H Q ∨ rInS true x y H Q)) (oIn true) := fun g S v w d e Q ok r1 r2 post => by
  unfold oIn at post
  split at post
  · split at post
    · rename_i ds h
      rw [Bool.and_eq_true] at h
      cases r2 with
      | tup hs hr =>
        refine .inl ⟨_, _, rfl, .inr (same_t ok.sub hs), r1.flat h.1, hr.flat h.2, ?_⟩
        rw [RepAll.inV r1 h.1 hr h.2]
        exact PostE.here post ok (.bl _)
    · exact post.elim
  · rename_i ds
    split at post
    · rename_i h
      rw [Bool.and_eq_true] at h
      cases r2 with
      | lst hs hr =>
        refine .inl ⟨_, _, rfl, .inl (SqL.of (ok.sub _ _ hs)), r1.flat h.1, hr.flat h.2, ?_⟩
        rw [RepAll.inV r1 h.1 hr h.2]
        exact PostE.here post ok (.bl _)
    · split at post
      · rename_i h
        rw [Bool.and_eq_true] at h
        refine .inr (.inl ⟨d.py, pyAll ds, Rep.dp ok.sub 5 d v h.1 r1, Rep.dp ok.sub 6 (.lst ds) w h.2 r2, okD_shaped (by decide) h.1, okD_shaped (n := 6) (by decide) (d := .lst ds) h.2, ?_⟩)
        rw [inD_py h.1 ds h.2]
        exact PostE.here post ok (.bl _)
      · exact post.elim
  · split at post
    · split at post
      · rename_i h
        rw [one?_some h] at r1
        cases r1
        cases r2
        exact .inr (.inr ⟨_, _, rfl, rfl, PostE.here post ok (.bl _)⟩)
      · exact post.elim
    · exact post.elim
  · exact post.elim
end
abbrev DC := List D → Store → Out
def CallS (K : PySem.W.Frag) (ca : Nat → Addr) (E : XK) (r : List V → Hp → VK → Prop) (o : DC) : Prop :=
  ∀ g S vs ds Q, Ok K ca g S → RepAll K ca g.A g.F vs ds → PostE K ca E g (o ds S) Q → r vs g.H Q
section
variable {X : Cx} {ca : Nat → Addr} {E : XK} {a : Expr} {es : List Expr} {fr : DA} {n : Nat} {x : Str} {p pos : Pos} {id T : String} {r : List V → Hp → VK → Prop} {o : DC}
theorem rd_call (hr : CallS X.K ca E r o) (σ : L2.St) (H : Hp) (Q : VK) (q : rdE X.K ca E (eCall o fr) σ H Q) : tCB r (rdA X.K ca n E fr) σ H Q := by
  obtain ⟨g0, g, ρ, S, rfl, ok, env, post⟩ := q
  refine ⟨g0, g, ρ, S, rfl, ok, env, PostE.bindL post fun ds S1 vs g1 e1 ok1 r1 hl post1 => ?_⟩
  exact hr g1 S1 vs ds Q ok1 r1 post1
theorem ge_callB (hc : CallR X (.builtin id) r) (hr : CallS X.K ca E r o) (hg : Gl X x) (hm : X.mg x = none) (hv : bootBuiltins x = some (.builtin id)) (ha : PA X (a :: es) (rdA X.K ca n E fr)) (hn : x ≠ "__name__" := by decide) (hdb : (x == ("__debug__" : Str)) = false := by decide)
    (he : starEach (a :: es) X.env = (false, eval a X.env) :: starEach es X.env := by rfl) (hpl : (backTo pos (starEach es X.env)).any (·.1) = false := by rfl) : PE X (.Call (.Name x p) (a :: es) [] pos) (rdE X.K ca E (eCall o fr)) :=
  wkE (pe_callB hc hg hm hv ha hn hdb he hpl) (rd_call hr)
end
def oLen : DC := fun ds S => match ds with
  | [.lst xs] => .ok (.int xs.length) S
  | [.tup xs] => .ok (.int xs.length) S
  | [.str x] => if x.length ≤ 100000 then .ok (.int x.length) S else .bad
  | [.obj n] => match S[n]? with
    | some (.lst xs) => .ok (.int xs.length) S
    | _ => .bad
  | _ => .bad
def oAbs : DC := fun ds S => match ds with
  | [.int i] => .ok (.int (if i < 0 then -i else i)) S
  | _ => .bad
def oMax : DC := fun ds S => match ds with
  | [.int i, .int j] => .ok (.int (if j > i then j else i)) S
  | _ => .bad
def asInts : List D → Option (List Int)
  | [] => some []
  | .int i :: ds => (asInts ds).map (i :: ·)
  | _ :: _ => none
theorem asInts_some : ∀ {ds : List D} {ns : List Int}, asInts ds = some ns → ds = ns.map D.int
  | [], ns, h => by cases h; rfl
  | .int i :: ds, ns, h => by
    unfold asInts at h
    cases q : asInts ds with
    | none => rw [q] at h; cases h
    | some ms =>
      rw [q] at h
      cases h
      rw [asInts_some q] <;> rfl
  | .non :: _, _, h => by cases h
  | .bl _ :: _, _, h => by cases h
  | .str _ :: _, _, h => by cases h
  | .lst _ :: _, _, h => by cases h
  | .tup _ :: _, _, h => by cases h
  | .obj _ :: _, _, h => by cases h
  | .exc _ :: _, _, h => by cases h
  | .fls _ :: _, _, h => by cases h
theorem asInts_map : ∀ (ns : List Int), asInts (ns.map D.int) = some ns
  | [] => rfl
  | n :: ns => by rw [List.map_cons, asInts, asInts_map ns] <;> rfl
def oSum : DC := fun ds S => match ds with
  | [.lst xs] => match asInts xs with
    | some ns => .ok (.int ns.sum) S
    | none => .bad
  | _ => .bad
def oList : DC := fun ds S => match ds with
  | [.lst xs] => .ok (.lst xs) S
  | [.tup xs] => .ok (.lst xs) S
  | [.fls xs] => .ok (.lst xs) S
  | [.obj n] => match S[n]? with
    | some (.lst xs) => .ok (.lst xs) S
    | _ => .bad
  | _ => .bad
def oTuple : DC := fun ds S => match ds with
  | [.lst xs] => .ok (.tup xs) S
  | [.tup xs] => .ok (.tup xs) S
  | _ => .bad
/-- ints in order -/
def insI (x : Int) : List Int → List Int
  | [] => [x]
  | y :: ys => if x ≤ y then x :: y :: ys else y :: insI x ys
def sortI : List Int → List Int
  | [] => []
  | x :: xs => insI x (sortI xs)
section
variable {ca : Nat → Addr} {E : XK} {K : PySem.W.Frag}
theorem c_len : CallS K ca E (fun xs H Q => ∃ x n, xs = [x] ∧ LenV K x H n ∧ Q (.int n) H) oLen := fun g S vs ds Q ok r post => by
  unfold oLen at post
  split at post
  · cases r with
    | cons r1 r2 =>
      cases r2
      cases r1 with
      | lst hs hr => exact ⟨_, _, rfl, .inl ⟨_, SqL.of (ok.sub _ _ hs), rfl⟩, by rw [hr.length]; exact PostE.here post ok (.int _)⟩
  · cases r with
    | cons r1 r2 =>
      cases r2
      cases r1 with
      | tup hs hr => exact ⟨_, _, rfl, .inr ⟨_, same_t ok.sub hs, rfl⟩, by rw [hr.length]; exact PostE.here post ok (.int _)⟩
  · split at post
    · rename_i h
      cases r with
      | cons r1 r2 =>
        cases r2
        cases r1
        exact ⟨_, _, rfl, ⟨sz_of h, rfl⟩, PostE.here post ok (.int _)⟩
    · exact post.elim
  · split at post
    · rename_i n xs hS
      cases r with
      | cons r1 r2 =>
        cases r2
        cases r1 with
        | obj hA =>
          obtain ⟨a', ho, e1, e2, e3⟩ := ok.ob _ _ hS
          rw [hA] at e1
          cases e1
          cases ho with
          | lst ys => exact ⟨_, _, rfl, .inl ⟨_, SqL.of e2, rfl⟩, by rw [RepAll.length (K := K) (ca := ca) e3]; exact PostE.here post ok (.int _)⟩
          | _ => exact e3.elim
    · exact post.elim
  · exact post.elim
theorem c_abs : CallS K ca E (fun xs H Q => ∃ i, xs = [.int i] ∧ Q (.int (if i < 0 then -i else i)) H) oAbs := fun g S vs ds Q ok r post => by
  unfold oAbs at post
  split at post
  · cases r with
    | cons r1 r2 =>
      cases r2
      cases r1
      exact ⟨_, rfl, PostE.here post ok (.int _)⟩
  · exact post.elim
theorem c_sum : CallS K ca E (rSum K) oSum := fun g S vs ds Q ok r post => by
  unfold oSum at post
  split at post
  · split at post
    · rename_i xs ns h
      have e := asInts_some h
      subst e
      cases r with
      | cons r1 r2 =>
        cases r2
        cases r1 with
        | lst hs hr =>
          have e := hr.ints
          subst e
          exact ⟨_, ns, rfl, SqL.of (ok.sub _ _ hs), PostE.here post ok (.int _)⟩
    · exact post.elim
  · exact post.elim
end
end DL
set_option Elab.async false
set_option linter.all false
set_option maxRecDepth 100000
set_option maxHeartbeats 1000000
namespace DL
open PySem PySem.Spec PyProof.Rows L2
section
variable {X : Cx} {ca : Nat → Addr} {E : XK} {a b c : Expr} {fa fb fc : DE} {pos : Pos}
theorem rd_chain {r r' : R2} {o o' : D2} (h1 : OpS X.K ca E r o) (h2 : OpS X.K ca E r' o') (σ : L2.St) (H : Hp) (Q : VK) (q : rdE X.K ca E (eChain o o' fa fb fc) σ H Q) : tChain r r' (rdE X.K ca E fa) (rdE X.K ca E fb) (rdE X.K ca E fc) σ H Q := by
  obtain ⟨g0, g, ρ, S, rfl, ok, env, post⟩ := q
  refine ⟨g0, g, ρ, S, rfl, ok, env, PostE.bind post fun d1 S1 v1 g1 e1 ok1 r1 post1 => ?_⟩
  refine ⟨g0, g1, ρ, S1, rfl, ok1, env.ext e1, PostE.bind post1 fun d2 S2 v2 g2 e2 ok2 r2 post2 => ?_⟩
  refine h1 g2 S2 v1 v2 d1 d2 _ ok2 (r1.ext e2) r2 (PostE.bind post2 fun d3 S3 v3 g3 e3 ok3 r3 post3 => ?_)
  cases r3 with
  | bl k =>
    refine ⟨k, rfl, ?_⟩
    cases k with
    | false => exact iteF (PostE.here post3 ok3 (.bl false))
    | true =>
      refine iteT ⟨g0, g3, ρ, S3, rfl, ok3, ((env.ext e1).ext e2).ext e3, PostE.bind post3 fun d4 S4 v4 g4 e4 ok4 r4 post4 => ?_⟩
      exact h2 g4 S4 v2 v4 d2 d4 Q ok4 ((r2.ext e3).ext e4) r4 post4
  | _ => exact post3.elim
theorem ge_chain {op op' : CmpOp} {r r' : R2} {o o' : D2} (ho : OpR X (compareOp op) r) (h1 : OpS X.K ca E r o) (ho' : OpR X (compareOp op') r') (h2 : OpS X.K ca E r' o') (ha : PE X a (rdE X.K ca E fa)) (hb : PE X b (rdE X.K ca E fb)) (hc : PE X c (rdE X.K ca E fc))
    (hm : lastMarks [op, op'] [b, c] = false := by with_unfolding_all rfl) : PE X (.Compare a [op, op'] [b, c] pos) (rdE X.K ca E (eChain o o' fa fb fc)) := wkE (pe_chain ho ho' ha hb hc hm) (rd_chain h1 h2)
end
def viewL (S : Store) : D → Option (List D)
  | .lst xs => some xs
  | .tup xs => some xs
  | .obj n => match S[n]? with
    | some (.lst xs) => some xs
    | _ => none
  | _ => none
def oIx : D2 := fun d e S => match e with
  | .int i => match d with
    | .str x => if x.length ≤ 100000 then match atI x.cps.toList i with
        | some c => .ok (.str ⟨#[c]⟩) S
        | none => .bad
      else .bad
    | d => match viewL S d with
      | some xs => match atI xs i with
        | some y => .ok y S
        | none => .bad
      | none => .bad
  | _ => .bad
section
variable {X : Cx} {ca : Nat → Addr} {E : XK} {a b : Expr} {fa fb : DE} {pos : Pos} {K : PySem.W.Frag}
theorem RepAll.atI {A : List Addr} {F : Hp} {xs : List V} {ds : List D} {i : Int} {d : D} (r : RepAll K ca A F xs ds) (h : L2.atI ds i = some d) : ∃ v, L2.atI xs i = some v ∧ Rep K ca A F v d := by
  unfold L2.atI at *
  rw [r.length]
  cases q : ixN ds.length i with
  | none => rw [q] at h; cases h
  | some j =>
    rw [q] at h
    exact r.get' h
theorem view_sq {g : G} {S : Store} {v : V} {d : D} {ds : List D} (ok : Ok K ca g S) (r : RepG K ca g v d) (h : viewL S d = some ds) : ∃ a xs, v = .ref a ∧ (SqL K g.H a xs ∨ SqT K g.H a xs) ∧ RepAll K ca g.A g.F xs ds := by
  cases r with
  | lst hs hr =>
    cases h
    exact ⟨_, _, rfl, .inl (SqL.of (ok.sub _ _ hs)), hr⟩
  | tup hs hr =>
    cases h
    exact ⟨_, _, rfl, .inr (same_t ok.sub hs), hr⟩
  | obj hA =>
    unfold viewL at h
    dsimp only at h
    split at h
    · rename_i xs hS
      cases h
      obtain ⟨a', ho, e1, e2, e3⟩ := ok.ob _ _ hS
      rw [hA] at e1
      cases e1
      cases ho with
      | lst ys => exact ⟨_, ys, rfl, .inl (SqL.of e2), e3⟩
      | _ => exact e3.elim
    · cases h
  | _ => cases h
theorem s_ix : OpS K ca E (rIx K) oIx := fun g S v w d e Q ok r1 r2 post => by
  unfold oIx at post
  split at post
  · rename_i i
    cases r2
    split at post
    · split at post
      · rename_i h
        split at post
        · rename_i c hc
          cases r1
          exact .inr (.inr ⟨_, _, c, rfl, rfl, sz_of h, hc, PostE.here post ok (.str _)⟩)
        · exact post.elim
      · exact post.elim
    · split at post
      · rename_i xs hv
        split at post
        · rename_i y hy
          obtain ⟨a, vs, rfl, hs, hr⟩ := view_sq ok r1 hv
          obtain ⟨z, hz, rz⟩ := hr.atI hy
          rcases hs with hs | hs
          · exact .inl ⟨a, vs, i, z, rfl, rfl, hs, hz, PostE.here post ok rz⟩
          · exact .inr (.inl ⟨a, vs, i, z, rfl, rfl, hs, hz, PostE.here post ok rz⟩)
        · exact post.elim
      · exact post.elim
  · exact post.elim
theorem ge_ix (ha : PE X a (rdE X.K ca E fa)) (hb : PE X b (rdE X.K ca E fb)) (hs : PlainIx b) : PE X (.Subscript a b pos) (rdE X.K ca E (eBin oIx fa fb)) := wkE (pe_ix ix_seq ha hb hs) (rd_bin s_ix)
end
def cutD (xs : List D) (lo hi : Option Int) : List D := (xs.drop (HT.sIx xs.length 0 lo)).take (HT.sIx xs.length xs.length hi - HT.sIx xs.length 0 lo)
inductive OutO where
  | ok (o : Option Int) (S : Store)
  | exc (c : Nat) (S : Store)
  | bad
abbrev DO := DEnv → Store → OutO
def pNo : DO := fun _ S => .ok none S
def pSome (f : DE) : DO := fun ρ S => match f ρ S with
  | .ok (.int i) S1 => .ok (some i) S1
  | .exc c S1 => .exc c S1
  | _ => .bad
def OutO.bind (o : OutO) (k : Option Int → Store → Out) : Out := match o with
  | .ok d S => k d S
  | .exc c S => .exc c S
  | .bad => .bad
def oSl (d : D) (lo hi : Option Int) (S : Store) : Out := match d with
  | .lst xs => .ok (.lst (cutD xs lo hi)) S
  | .str x => if x.length ≤ 100000 then .ok (.str (cutS x lo hi)) S else .bad
  | _ => .bad
def eSl (f : DE) (l h : DO) : DE := fun ρ S => (f ρ S).bind fun d S1 => (l ρ S1).bind fun lo S2 => (h ρ S2).bind fun hi S3 => oSl d lo hi S3
section
variable (K : PySem.W.Frag) (ca : Nat → Addr)
def PostO (E : XK) (g : G) (o : OutO) (Q : Option Int → Hp → Prop) : Prop := match o with
  | .ok i S => ∀ g', Ext g g' → Ok K ca g' S → Q i g'.H
  | .exc c S => ∀ g', Ext g g' → Ok K ca g' S → E (.ref (ca c)) none g'.H
  | .bad => False
def rdO (E : XK) (f : DO) : TO := fun σ H Q => ∃ g0 g ρ S, g.H = H ∧ Ok K ca g S ∧ EnvR K ca g0 g σ ρ ∧ PostO K ca E g (f ρ S) Q
end
section
variable {X : Cx} {ca : Nat → Addr} {E : XK} {e : Expr} {f : DE} {fl fh : DO} {lo hi : Option Expr} {pos p2 : Pos} {K : PySem.W.Frag}
theorem wkO {t t' : TO} (h : PO X lo t) (k : ∀ σ H Q, t' σ H Q → t σ H Q) : PO X lo t' := ⟨fun pins s σ H Q I q => h.run pins s σ H Q I (k σ H Q q)⟩
theorem go_none : PO X none (rdO X.K ca E pNo) := wkO po_none fun σ H Q q => by
  obtain ⟨g0, g, ρ, S, rfl, ok, env, post⟩ := q
  exact post g (Ext.refl g) ok
theorem go_some (h : PE X e (rdE X.K ca E f)) : PO X (some e) (rdO X.K ca E (pSome f)) := wkO (po_some h) fun σ H Q q => by
  obtain ⟨g0, g, ρ, S, rfl, ok, env, post⟩ := q
  refine ⟨g0, g, ρ, S, rfl, ok, env, ?_⟩
  unfold pSome at post
  cases q : f ρ S with
  | bad => rw [q] at post; exact post
  | exc c S1 => rw [q] at post; exact post
  | ok d S1 =>
    rw [q] at post
    cases d with
    | int i =>
      intro v g1 e1 ok1 r1
      cases r1
      exact ⟨i, rfl, post g1 e1 ok1⟩
    | _ => exact post.elim
theorem PostE.bindO {g : G} {o : OutO} {k : Option Int → Store → Out} {Q : VK} {R : Option Int → Hp → Prop} (h : PostE K ca E g (o.bind k) Q)
    (hk : ∀ i S g', Ext g g' → Ok K ca g' S → PostE K ca E g' (k i S) Q → R i g'.H) : PostO K ca E g o R := by
  cases o with
  | ok d S => exact fun g' a b => hk d S g' a b (PostE.ext a h)
  | exc c S => exact h
  | bad => exact h
theorem RepAll.cut {A : List Addr} {F : Hp} {xs : List V} {ds : List D} (r : RepAll K ca A F xs ds) (l h : Option Int) : RepAll K ca A F (cutV xs l h) (cutD ds l h) := by
  unfold cutV cutD
  rw [r.length]
  exact (r.drop _).take _
theorem ge_slice (he : PE X e (rdE X.K ca E f)) (hl : PO X lo (rdO X.K ca E fl)) (hh : PO X hi (rdO X.K ca E fh)) : PE X (.Subscript e (.Slice lo hi none p2) pos) (rdE X.K ca E (eSl f fl fh)) :=
  wkE (pe_slice (SlR.or sl_list sl_str) he hl hh) fun σ H Q q => by
    obtain ⟨g0, g, ρ, S, rfl, ok, env, post⟩ := q
    refine ⟨g0, g, ρ, S, rfl, ok, env, PostE.bind post fun d1 S1 v1 g1 e1 ok1 r1 post1 => ?_⟩
    refine ⟨g0, g1, ρ, S1, rfl, ok1, env.ext e1, PostE.bindO post1 fun l S2 g2 e2 ok2 post2 => ?_⟩
    refine ⟨g0, g2, ρ, S2, rfl, ok2, (env.ext e1).ext e2, PostE.bindO post2 fun h S3 g3 e3 ok3 post3 => ?_⟩
    have r3 := (r1.ext e2).ext e3
    unfold oSl at post3
    split at post3
    · cases r3 with
      | lst hs hr => exact .inl ⟨_, _, rfl, SqL.of (ok3.sub _ _ hs), fun p hp => new_lst ok3 post3 (hr.cut l h) p hp⟩
    · split at post3
      · rename_i hz
        cases r3
        exact .inr ⟨_, rfl, sz_of hz, PostE.here post3 ok3 (.str _)⟩
      · exact post3.elim
    · exact post3.elim
end
def tyD : D → Option String
  | .non => some "NoneType"
  | .bl _ => some "bool"
  | .int _ => some "int"
  | .str _ => some "str"
  | .lst _ => some "list"
  | .tup _ => some "tuple"
  | _ => none
def oIsi (T : String) : D1 := fun d S => match (tyD d).bind fun t => kitB t T with
  | some b => .ok (.bl b) S
  | none => match d with
    | .obj n => match S[n]? with
      | some (.lst _) => match kitB "list" T with
        | some b => .ok (.bl b) S
        | none => .bad
      | _ => .bad
    | _ => .bad
section
variable {X : Cx} {ca : Nat → Addr} {E : XK} {a : Expr} {fa : DE} {pos p p2 : Pos} {K : PySem.W.Frag}
theorem Rep.ty {g : G} {S : Store} {v : V} {d : D} {t : String} (ok : Ok K ca g S) (r : RepG K ca g v d) (h : tyD d = some t) : TyX K g.H v (.type t) := by
  cases r with
  | non => cases h; exact .base .non
  | bl b => cases h; exact .base (.bl b)
  | int i => cases h; exact .base (.int i)
  | str x => cases h; exact .base (.str x)
  | lst hs hr => cases h; exact .base (.lst (ok.sub _ _ hs))
  | tup hs hr =>
    cases h
    rcases hs with (hs | ⟨o, hs⟩) | ⟨o, its, n, h1, h2, h3, _⟩
    · exact .base (.tup (ok.sub _ _ hs))
    · exact .fTuple (ok.sub _ _ hs)
    · exact .kTuple h1 h2
  | _ => cases h
theorem ge_isi {T : String} {x : Str} (hg : Gl X "isinstance") (hm : X.mg "isinstance" = none) (hv : bootBuiltins "isinstance" = some (.builtin "isinstance")) (hgT : Gl X x) (hmT : X.mg x = none) (hvT : bootBuiltins x = some (.type T)) (ha : PE X a (rdE X.K ca E fa)) (hn : x ≠ "__name__" := by decide) (hdx : (x == ("__debug__" : Str)) = false := by decide)
    (h1 : starEach [a, .Name x p2] X.env = (false, eval a X.env) :: starEach [.Name x p2] X.env := by rfl) (h2 : starEach [.Name x p2] X.env = (false, eval (.Name x p2) X.env) :: starEach [] X.env := by rfl)
    (hpl : (backTo pos (starEach [.Name x p2] X.env)).any (·.1) = false := by rfl) : PE X (.Call (.Name "isinstance" p) [a, .Name x p2] [] pos) (rdE X.K ca E (eUn (oIsi T) fa)) :=
  wkE (pe_callB call_isi hg hm hv (pa_cons ha (pa_cons (pe_bltn (v := .ty T) hgT hmT hvT rfl hn hdx) pa_nil h2) h1) (by decide) (by decide) h1 hpl) fun σ H Q q => by
    obtain ⟨g0, g, ρ, S, rfl, ok, env, post⟩ := q
    refine ⟨g0, g, ρ, S, rfl, ok, env, PostE.bind post fun d1 S1 v1 g1 e1 ok1 r1 post1 => ?_⟩
    unfold oIsi at post1
    split at post1
    · rename_i b hb
      cases ht : tyD d1 with
      | none => rw [ht] at hb; cases hb
      | some t =>
        rw [ht] at hb
        exact ⟨v1, .ty T, .type t, .type T, b, rfl, .ty T, Rep.ty ok1 r1 ht, kit_ty hb, PostE.here post1 ok1 (.bl b)⟩
    · split at post1
      · split at post1
        · rename_i n xs hS
          split at post1
          · rename_i b hb
            cases r1 with
            | obj hA =>
              obtain ⟨a', ho, k1, k2, k3⟩ := ok1.ob _ _ hS
              rw [hA] at k1
              cases k1
              cases ho with
              | lst ys => exact ⟨_, .ty T, .type "list", .type T, b, rfl, .ty T, .base (.lst k2), kit_ty hb, PostE.here post1 ok1 (.bl b)⟩
              | _ => exact k3.elim
          · exact post1.elim
        · exact post1.elim
      · exact post1.elim
end
section
variable {X : Cx} {ca : Nat → Addr} {E : XK} {elt tg iter : Expr} {ifs : List Expr} {scope : Scope} {own : List (Str × Nat)} {pos spos : Pos} {f fc fe : DE} {t : DG} {gt : TG}
theorem wkTs {t t' : TT} (h : PTs X ifs t) (k : ∀ σ H Q, t' σ H Q → t σ H Q) : PTs X ifs t' := ⟨fun pins s σ H Q I q => h.run pins s σ H Q I (k σ H Q q)⟩
theorem gts_nil : PTs X [] (rdT X.K ca E eYes) := wkTs pts_nil fun σ H Q q => by
  obtain ⟨g0, g, ρ, S, rfl, ok, env, post⟩ := q
  obtain ⟨b, e, q⟩ := PostE.here post ok (.bl true)
  cases e
  exact q
theorem gts_one {c : Expr} (h : PT X c (rdT X.K ca E fc)) : PTs X [c] (rdT X.K ca E fc) := pts_one h
theorem gf_lc (hc : X.calm = true) (hN : X.N.Nodup) (hT : TgOk X.K ca (own.map (·.2)) gt t) (hi : PI X tg iter (rdI X.K ca E f)) (ok : BlkOk X.N X.env.scope scope own)
    (hg : ∀ (s : Shared) (H : Hp) (C : Addr) (cl : List (Str × Addr)) (fp : List Addr), PG (X.blk s H scope (compEnvC scope cl C X.env) fp) tg gt)
    (ht : ∀ (s : Shared) (H : Hp) (C : Addr) (cl : List (Str × Addr)) (fp : List Addr), PTs (X.blk s H scope (compEnvC scope cl C X.env) fp) ifs (rdT X.K ca E0 fc))
    (he : ∀ (s : Shared) (H : Hp) (C : Addr) (cl : List (Str × Addr)) (fp : List Addr), PE (X.blk s H scope (compEnvC scope cl C X.env) fp) elt (rdE X.K ca E0 fe)) (hs : ∀ x, foldedSetIterable iter X.env x = pure x := by intro _; rfl) :
    PE X (.ListComp elt [⟨tg, iter, ifs, 0⟩] scope pos) (rdF X.K ca E (eLc f t fc fe)) := wkE (pe_lc hc hN hi ok hg ht he hs) (rd_lc hT)
theorem eLc_is : ∀ ρ S d S', eLc f t fc fe ρ S = .ok d S' → ∃ ds, d = .lst ds := fun ρ S d S' h => by
  unfold eLc at h
  cases q : f ρ S with
  | bad => rw [q] at h; cases h
  | exc c S1 => rw [q] at h; cases h
  | ok d1 S1 =>
    rw [q] at h
    dsimp only [Out.bind] at h
    split at h
    · split at h
      · rename_i ds _
        unfold OutL.bind at h
        split at h
        · rename_i ys S2 _
          injection h with h1 h2
          exact ⟨ys, h1.symm⟩
        · cases h
        · cases h
      · cases h
    · cases h
theorem ge_lc (hc : X.calm = true) (hN : X.N.Nodup) (hT : TgOk X.K ca (own.map (·.2)) gt t) (hi : PI X tg iter (rdI X.K ca E f)) (ok : BlkOk X.N X.env.scope scope own)
    (hg : ∀ (s : Shared) (H : Hp) (C : Addr) (cl : List (Str × Addr)) (fp : List Addr), PG (X.blk s H scope (compEnvC scope cl C X.env) fp) tg gt)
    (ht : ∀ (s : Shared) (H : Hp) (C : Addr) (cl : List (Str × Addr)) (fp : List Addr), PTs (X.blk s H scope (compEnvC scope cl C X.env) fp) ifs (rdT X.K ca E0 fc))
    (he : ∀ (s : Shared) (H : Hp) (C : Addr) (cl : List (Str × Addr)) (fp : List Addr), PE (X.blk s H scope (compEnvC scope cl C X.env) fp) elt (rdE X.K ca E0 fe)) (hs : ∀ x, foldedSetIterable iter X.env x = pure x := by intro _; rfl) :
    PE X (.ListComp elt [⟨tg, iter, ifs, 0⟩] scope pos) (rdE X.K ca E (eLc f t fc fe)) := gf_ge (gf_lc hc hN hT hi ok hg ht he hs) eLc_is
end
end DL
set_option Elab.async false
set_option linter.all false
set_option maxRecDepth 100000
set_option maxHeartbeats 1000000
namespace DL
open PySem PySem.Spec PyProof.Rows L2
def oAddI : D2 := fun d e S => match d, e with
  | .int i, .int j => .ok (.int (i + j)) S
  | _, _ => .bad
def sAug (i : Nat) (o : D2) (f : DE) : DS := fun ρ S => match ρ[i]? with
  | some (.val x) => (f ρ S).bindS fun y S1 => (o x y S1).bindS fun z S2 => .nx (ρ.set i (.val z)) S2
  | _ => .bad
section
variable {X : Cx} {ca : Nat → Addr} {E : XK} {e : Expr} {f : DE} {pos pos' : Pos} {i : Nat} {x : Str}
theorem gs_aug {op : Operator} {r : R2} {o : D2} (ho : OpR X (inplaceOp op) r) (hr : OpS X.K ca E r o) (hN : X.N.Nodup) (hi : X.N[i]? = some x) (hx : Loc X.env.scope x) (he : PE X e (rdE X.K ca E f)) (hf : X.fn x = true ∨ X.env.scope.names.lookup x = some .local := by first | exact .inl rfl | exact .inr rfl | assumption) :
    PS X (.AugAssign (.Name x pos') op e pos) (rdS X.K ca E (sAug i o f)) := wkS (ps_aug (ti := r) hN hi hx he ho hf) fun Dn σ H q => by
  obtain ⟨g0, g, ρ, S, rfl, e0, ok, env, post⟩ := q
  unfold sAug at post
  split at post
  · rename_i d hd
    obtain ⟨v, hv, rv⟩ := env.val i d hd
    refine ⟨v, hv, g0, g, ρ, S, rfl, ok, env, PostS.bindE e0 post fun d1 S1 v1 g1 e1 ok1 r1 post1 => ?_⟩
    refine hr g1 S1 v v1 d d1 _ ok1 (rv.ext e1) r1 (PostS.bindE (e0.trans e1) post1 fun d2 S2 v2 g2 e2 ok2 r2 post2 => ?_)
    exact post2 _ g2 ((e0.trans e1).trans e2) (Grow.refl _) ok2 (((env.ext e1).ext e2).set r2 i)
  · exact post.elim
theorem iop_addI : OpR X (inplaceOp .Add) (ipI fun i j => i + j) := ip_add
theorem s_iadd {K : PySem.W.Frag} : OpS K ca E (ipI fun i j => i + j) oAddI := fun g S v w d e Q ok r1 r2 post => by
  unfold oAddI at post
  split at post
  · cases r1
    cases r2
    exact ⟨_, _, rfl, rfl, PostE.here post ok (.int _)⟩
  · exact post.elim
end
def sApp (i : Nat) (f : DE) : DS := fun ρ S => match ρ[i]? with
  | some (.own ds) => (f ρ S).bindS fun d S1 => if ds.length < 100000 then .nx (ρ.set i (.own (ds ++ [d]))) S1 else .bad
  | _ => .bad
def sIaddO (i : Nat) (f : DE) : DS := fun ρ S => match ρ[i]? with
  | some (.own ds) => (f ρ S).bindS fun d S1 => match d with
    | .lst es => if ds.length + es.length ≤ 100000 then .nx (ρ.set i (.own (ds ++ es))) S1 else .bad
    | _ => .bad
  | _ => .bad
section
variable {K : PySem.W.Frag} {ca : Nat → Addr} {E : XK} {g0 g : G} {σ : L2.St} {ρ : DEnv} {S : Store} {i : Nat}
/-- the list of slot i is given new items -/
theorem own_put {ds es : List D} {p : Addr} {ys : List V} {Dn : Ends} (e0 : Ext g0 g) (ok : Ok K ca g S) (env : EnvR K ca g0 g σ ρ) (hi : ρ[i]? = some (.own ds)) (hp : σ[i]? = some (some (.ref p))) (r : RepAll K ca g.A g.F ys es)
    (post : PostS K ca E g0 g (.nx (ρ.set i (.own es)) S) Dn) : Dn.nx σ (upd g.H p (.lst ys)) := by
  obtain ⟨p', xs, h1, h2, h3, h4, h5, h6⟩ := env.own i ds hi
  rw [hp] at h1
  cases h1
  exact post σ (g.put p (.lst ys)) (ext_put0 e0 h2) grow_put (ok_put ok h3 h4) (env.mut hi hp h2 h3 h4 r)
end
section
variable {X : Cx} {ca : Nat → Addr} {E : XK} {e b : Expr} {f fi fj : DE} {pos pos' p2 p3 apos cpos : Pos} {i : Nat} {x : Str}
theorem gs_app (h : PE X (.Name x p2) (tVar i)) (he : PE X e (rdE X.K ca E f))
    (hbase : attributeBase (.Name x p2) "append" X.env (eval (.Name x p2) X.env) = eval (.Name x p2) X.env := by rfl)
    (hfew : ((backTo cpos (starEach [e] X.env)).all (fun x => !x.1) && (backToKw cpos (keywordEach [] X.env)).all (fun x => x.1.isSome)
      && decide ([e].length + ([] : List Keyword).length + (if ([] : List Keyword).isEmpty then 0 else 1) < 30)) = true := by rfl)
    (hline : (apos.endLine == cpos.line) = true := by rfl) (hs : starEach [e] X.env = (false, eval e X.env) :: starEach [] X.env := by rfl) (hplain : (backTo cpos (starEach [] X.env)).any (·.1) = false := by rfl)
    (hsw : swapsWith (.Call (.Attribute (.Name x p2) "append" apos) [e] [] cpos) none pos.line X.env = pure false := by rfl) :
    PS X (.Expr (.Call (.Attribute (.Name x p2) "append" apos) [e] [] cpos) pos) (rdS X.K ca E (sApp i f)) :=
  wkS (ps_expr (pe_bm PySem.F.plainAttrs_list PySem.F.slot_list_append PySem.F.type_list_append mt_append h (pa_cons he pa_nil hs) hbase hfew hline hs hplain) hsw) fun Dn σ H q => by
    obtain ⟨g0, g, ρ, S, rfl, e0, ok, env, post⟩ := q
    unfold sApp at post
    split at post
    · rename_i ds hi
      obtain ⟨p, xs, h1, h2, h3, h4, h5, h6⟩ := env.own i ds hi
      refine ⟨.ref p, h1, .inl ⟨rfl, xs, SqL.of h5⟩, g0, g, ρ, S, rfl, ok, env, PostS.bindE e0 post fun d1 S1 v1 g1 e1 ok1 r1 post1 => ?_⟩
      split at post1
      · rename_i hl
        obtain ⟨p', xs', k1, k2, k3, k4, k5, k6⟩ := (env.ext e1).own i ds hi
        rw [h1] at k1
        cases k1
        refine ⟨p, xs', v1, rfl, rfl, k5, ?_, own_put (e0.trans e1) ok1 (env.ext e1) hi h1 (k6.append (.cons r1 .nil)) post1⟩
        rw [k6.length]
        exact Nat.lt_of_lt_of_le hl (by decide)
      · exact post1.elim
    · exact post.elim
theorem gs_iaddO (hN : X.N.Nodup) (hi : X.N[i]? = some x) (hx : Loc X.env.scope x) (he : PE X e (rdE X.K ca E f)) (hf : X.fn x = true ∨ X.env.scope.names.lookup x = some .local := by first | exact .inl rfl | exact .inr rfl | assumption) :
    PS X (.AugAssign (.Name x pos') .Add e pos) (rdS X.K ca E (sIaddO i f)) := wkS (ps_aug (ti := rExt2) hN hi hx he iop_ext hf) fun Dn σ H q => by
  obtain ⟨g0, g, ρ, S, rfl, e0, ok, env, post⟩ := q
  unfold sIaddO at post
  split at post
  · rename_i ds hi
    obtain ⟨p, xs, h1, h2, h3, h4, h5, h6⟩ := env.own i ds hi
    refine ⟨.ref p, h1, g0, g, ρ, S, rfl, ok, env, PostS.bindE e0 post fun d1 S1 v1 g1 e1 ok1 r1 post1 => ?_⟩
    split at post1
    · rename_i es
      split at post1
      · rename_i hl
        obtain ⟨p', xs', k1, k2, k3, k4, k5, k6⟩ := (env.ext e1).own i ds hi
        rw [h1] at k1
        cases k1
        cases r1 with
        | lst hs hr =>
          refine ⟨p, _, xs', _, rfl, rfl, k5, ok1.sub _ _ hs, ?_, ?_⟩
          · rw [k6.length, hr.length]
            exact sz_of hl
          · have e9 : σ.set i (some (.ref p)) = σ := by
              obtain ⟨hl, e⟩ := List.getElem?_eq_some_iff.mp h1
              rw [← e]
              exact List.set_getElem_self hl
            have z := own_put (e0.trans e1) ok1 (env.ext e1) hi h1 (k6.append hr) post1
            show Dn.nx (List.set σ i (some (V.ref p))) _
            rw [e9]
            exact z
      · exact post1.elim
    · exact post1.elim
  · exact post.elim
/-- list(..), a + b, a if c else b: new lists -/
theorem gf_list {fr : DA} {p : Pos} {a : Expr} (hg : Gl X "list") (hm : X.mg "list" = none) (hv : bootBuiltins "list" = some (.type "list")) (ha : PA X [a] (rdA X.K ca 1 E fr)) (he : starEach [a] X.env = (false, eval a X.env) :: starEach [] X.env := by rfl) (hpl : (backTo pos (starEach [] X.env)).any (·.1) = false := by rfl) :
    PE X (.Call (.Name "list" p) [a] [] pos) (rdF X.K ca E (eCall oList fr)) := wkE (pe_callTy call_list_of hg hm hv ha (by decide) (by decide) he hpl) fun σ H Q q => by
  obtain ⟨g0, g, ρ, S, rfl, ok, env, post⟩ := q
  refine ⟨g0, g, ρ, S, rfl, ok, env, PostF.bindL post fun ds S1 vs g1 e1 ok1 r1 hl post1 => ?_⟩
  have fin : ∀ (xs : List V) (ds : List D), RepAll X.K ca g1.A g1.F xs ds → PostF X.K ca E g1 (.ok (.lst ds) S1) Q → ∀ l, g1.H l = none → Q (.ref l) (upd g1.H l (.lst xs)) := fun xs ds hr po l hl =>
    po l xs (g1.put l (.lst xs)) (ext_put hl) (ok_put ok1 (ok1.ffree hl) fun z => ok1.there z hl) hl (ok1.ffree hl) (fun z => ok1.there z hl) upd_same hr
  unfold oList at post1
  split at post1
  · cases r1 with
    | cons ra rb =>
      cases rb
      cases ra with
      | lst hs hr => exact ⟨_, _, rfl, .inl (SqL.of (ok1.sub _ _ hs)), fin _ _ hr post1⟩
  · cases r1 with
    | cons ra rb =>
      cases rb
      cases ra with
      | tup hs hr => exact ⟨_, _, rfl, .inr (same_t ok1.sub hs), fin _ _ hr post1⟩
  · cases r1 with
    | cons ra rb =>
      cases rb
      cases ra with
      | fls hs hr => exact ⟨_, _, rfl, .inl (ok1.sub.seq hs), fin _ _ hr post1⟩
  · split at post1
    · rename_i n xs hS
      cases r1 with
      | cons ra rb =>
        cases rb
        cases ra with
        | obj hA =>
          obtain ⟨a', ho, k1, k2, k3⟩ := ok1.ob _ _ hS
          rw [hA] at k1
          cases k1
          cases ho with
          | lst ys => exact ⟨_, _, rfl, .inl (SqL.of k2), fin _ _ k3 post1⟩
          | _ => exact k3.elim
    · exact post1.elim
  · exact post1.elim
theorem gf_if {c a : Expr} {fc fa fb : DE} (hc : PT X c (rdT X.K ca E fc)) (ha : PE X a (rdF X.K ca E fa)) (hb : PE X b (rdF X.K ca E fb)) : PE X (.IfExp c a b pos) (rdF X.K ca E (eIf fc fa fb)) := wkE (pe_ifExp hc ha hb) fun σ H Q q => by
  obtain ⟨g0, g, ρ, S, rfl, ok, env, post⟩ := q
  refine ⟨g0, g, ρ, S, rfl, ok, env, PostF.of_bind post fun d1 S1 v g1 e1 ok1 r1 post1 => ?_⟩
  cases r1 with
  | bl k =>
    refine ⟨k, rfl, ?_⟩
    cases k with
    | true => exact iteT ⟨g0, g1, ρ, S1, rfl, ok1, env.ext e1, post1⟩
    | false => exact iteF ⟨g0, g1, ρ, S1, rfl, ok1, env.ext e1, post1⟩
  | _ => exact post1.elim
end
def eObj (f : DE) : DE := fun ρ S => (f ρ S).bind fun d S1 => match d with
  | .lst ds => .ok (.obj S1.length) (S1 ++ [.lst ds])
  | _ => .bad
def sSetB (fo fi f : DE) : DS := fun ρ S => (f ρ S).bindS fun d S1 => (fo ρ S1).bindS fun o S2 => (fi ρ S2).bindS fun k S3 => match o, k with
  | .obj n, .int m => match S3[n]? with
    | some (.lst xs) => match ixN xs.length m with
      | some j => .nx ρ (S3.set n (.lst (xs.set j d)))
      | none => .bad
    | _ => .bad
  | _, _ => .bad
section
variable {K : PySem.W.Frag} {ca : Nat → Addr} {g0 g : G} {S : Store}
/-- a new object that is told to the store -/
theorem ok_regH (ok : Ok K ca g S) {p : Addr} {o : HO} {ob : OB} (q1 : g.F p = none) (q2 : p ∉ g.A) (q3 : g.H p = some o) (r : RepO K ca g.A g.F o ob) : Ok K ca ⟨g.F, g.A ++ [p], g.H⟩ (S ++ [ob]) where
  sub := ok.sub
  len := by
    show (g.A ++ [p]).length = _
    rw [List.length_append, List.length_append, ok.len]
    rfl
  nd := by
    show (g.A ++ [p]).Nodup
    rw [List.nodup_append]
    refine ⟨ok.nd, by simp, fun a ha b hb => ?_⟩
    obtain rfl : b = p := by simpa using hb
    rintro rfl
    exact q2 ha
  fr := fun a ha => by
    rcases List.mem_append.mp (show a ∈ g.A ++ [p] from ha) with z | z
    · exact ok.fr a z
    · obtain rfl : a = p := by simpa using z
      exact q1
  ob := fun n o' e => by
    show ∃ a ho, (g.A ++ [p])[n]? = some a ∧ g.H a = some ho ∧ RepO K ca (g.A ++ [p]) g.F ho o'
    by_cases hn : n < S.length
    · rw [List.getElem?_append_left hn] at e
      obtain ⟨a, ho, e1, e2, e3⟩ := ok.ob n o' e
      refine ⟨a, ho, ?_, e2, RepO.mono ⟨[p], rfl⟩ (Same.refl _) e3⟩
      rw [List.getElem?_append_left (by rw [ok.len]; exact hn)]
      exact e1
    · have hn' : n = S.length := by
        have := (List.getElem?_eq_some_iff.mp e).1
        rw [List.length_append, List.length_singleton] at this
        omega
      subst hn'
      rw [List.getElem?_append_right (Nat.le_refl _)] at e
      simp at e
      subst e
      refine ⟨p, o, ?_, q3, RepO.mono ⟨[p], rfl⟩ (Same.refl _) r⟩
      rw [← ok.len, List.getElem?_append_right (Nat.le_refl _)]
      simp
theorem ext_regH {g' : G} (e : Ext g g') {p : Addr} (np : g.H p = none) : Ext g ⟨g'.F, g'.A ++ [p], g'.H⟩ where
  F := e.F
  A := by
    obtain ⟨m, h1, h2⟩ := e.A
    refine ⟨m ++ [p], by rw [h1, List.append_assoc], fun a ha => ?_⟩
    rcases List.mem_append.mp ha with z | z
    · exact h2 a z
    · obtain rfl : a = p := by simpa using z
      exact np
  H := e.H
  kp := e.kp
  nf := e.nf
/-- an object of the store changes -/
theorem ok_setH (ok : Ok K ca g S) {n : Nat} {a : Addr} {o : HO} {ob : OB} (hA : g.A[n]? = some a) (r : RepO K ca g.A g.F o ob) : Ok K ca (g.put a o) (S.set n ob) where
  sub := fun b u e => by
    show upd g.H a o b = some u
    rw [upd_ne (fun q => by
      have := ok.fr a (List.mem_iff_getElem?.mpr ⟨n, hA⟩)
      rw [q] at e
      rw [show g.F a = some u from e] at this
      cases this)]
    exact ok.sub b u e
  len := by rw [List.length_set]; exact ok.len
  nd := ok.nd
  fr := ok.fr
  ob := fun m o' e => by
    show ∃ a' ho, g.A[m]? = some a' ∧ upd g.H a o a' = some ho ∧ RepO K ca g.A g.F ho o'
    rcases set_some e with ⟨rfl, rfl, hl⟩ | ⟨hm, q⟩
    · exact ⟨a, o, hA, upd_same, r⟩
    · obtain ⟨a', ho, e1, e2, e3⟩ := ok.ob m o' q
      refine ⟨a', ho, e1, ?_, e3⟩
      rw [upd_ne (fun z : a' = a => hm (nodup_ix' ok.nd e1 (by rw [z]; exact hA)))]
      exact e2
where
  nodup_ix' {l : List Addr} (h : l.Nodup) {i j : Nat} {x : Addr} (a : l[i]? = some x) (b : l[j]? = some x) : i = j := by
    obtain ⟨h1, e1⟩ := List.getElem?_eq_some_iff.mp a
    obtain ⟨h2, e2⟩ := List.getElem?_eq_some_iff.mp b
    exact (List.getElem_inj h).mp (e1.trans e2.symm)
theorem ext_setH (e0 : Ext g0 g) {n : Nat} {a : Addr} {o : HO} (hA : g.A[n]? = some a) : Ext g0 (g.put a o) where
  F := e0.F
  A := e0.A
  H := fun b u hb q => by
    show upd g.H a o b = some u
    rw [upd_ne (fun z : b = a => e0.out hb (some_ne q) (List.mem_iff_getElem?.mpr ⟨n, by rw [z]; exact hA⟩))]
    exact e0.H b u hb q
  kp := fun b q => by
    show upd g.H a o b ≠ none
    unfold upd
    split
    · exact fun z => nomatch z
    · exact e0.kp b q
  nf := e0.nf
theorem env_setH {σ : L2.St} {ρ : DEnv} (env : EnvR K ca g0 g σ ρ) {n : Nat} {a : Addr} {o : HO} (hA : g.A[n]? = some a) : EnvR K ca g0 (g.put a o) σ ρ where
  len := env.len
  val := env.val
  own := fun i ds h => by
    obtain ⟨p, xs, h1, h2, h3, h4, h5, h6⟩ := env.own i ds h
    refine ⟨p, xs, h1, h2, h3, h4, ?_, h6⟩
    show upd g.H a o p = some (.lst xs)
    rw [upd_ne (fun z : p = a => h4 (List.mem_iff_getElem?.mpr ⟨n, by rw [z]; exact hA⟩))]
    exact h5
  sep := env.sep
end
section
variable {X : Cx} {ca : Nat → Addr} {E : XK} {e b o : Expr} {f fi fo : DE} {pos p3 : Pos}
theorem ge_obj (h : PE X e (rdF X.K ca E f)) : PE X e (rdE X.K ca E (eObj f)) := wkE h fun σ H Q q => by
  obtain ⟨g0, g, ρ, S, rfl, ok, env, post⟩ := q
  refine ⟨g0, g, ρ, S, rfl, ok, env, ?_⟩
  unfold eObj at post
  cases q : f ρ S with
  | bad => rw [q] at post; exact post
  | exc c S1 => rw [q] at post; exact post
  | ok d S1 =>
    rw [q] at post
    cases d with
    | lst ds =>
      intro p xs g1 e1 ok1 np fp pA hp r
      refine post (.ref p) ⟨g1.F, g1.A ++ [p], g1.H⟩ (ext_regH e1 np) (ok_regH ok1 fp pA hp (show RepO X.K ca g1.A g1.F (.lst xs) (.lst ds) from r)) (.obj ?_)
      show (g1.A ++ [p])[S1.length]? = some p
      rw [← ok1.len, List.getElem?_append_right (Nat.le_refl _)]
      simp
    | _ => exact post.elim
theorem gs_setB (ho : PE X o (rdE X.K ca E fo)) (hb : PE X b (rdE X.K ca E fi)) (he : PE X e (rdE X.K ca E f)) (hs : swapsWithSole [.Subscript o b p3] e pos.line X.env = pure false := by rfl) (hw : swappedStores [.Subscript o b p3] e X.env = pure none := by rfl)
    (h1 : (assignEach [.Subscript o b p3] X.env).map (·.2) = [assign (.Subscript o b p3) X.env] := by rfl)
    (ha : ∀ v, assign (.Subscript o b p3) X.env v = (do
      let ov ← holding [v] (eval o X.env)
      let iv ← holding [v, ov] (eval b X.env)
      standAt p3
      holding [v, ov, iv] (setItem ov iv v)
      release [v, ov, iv] []) := by intro _; rfl) : PS X (.Assign [.Subscript o b p3] e pos) (rdS X.K ca E (sSetB fo fi f)) :=
  wkS (ps_asg he (pg_sub ho hb set_list ha) hs hw h1) fun Dn σ H q => by
    obtain ⟨g0, g, ρ, S, rfl, e0, ok, env, post⟩ := q
    refine ⟨g0, g, ρ, S, rfl, ok, env, PostS.bindE e0 post fun d1 S1 v1 g1 e1 ok1 r1 post1 => ?_⟩
    refine ⟨g0, g1, ρ, S1, rfl, ok1, env.ext e1, PostS.bindE (e0.trans e1) post1 fun d2 S2 v2 g2 e2 ok2 r2 post2 => ?_⟩
    refine ⟨g0, g2, ρ, S2, rfl, ok2, (env.ext e1).ext e2, PostS.bindE ((e0.trans e1).trans e2) post2 fun d3 S3 v3 g3 e3 ok3 r3 post3 => ?_⟩
    split at post3
    · rename_i n m
      split at post3
      · rename_i xs hS
        split at post3
        · rename_i j hj
          cases r3
          have r2' := r2.ext e3
          cases r2' with
          | obj hA =>
            obtain ⟨a', ho', k1, k2, k3⟩ := ok3.ob _ _ hS
            rw [hA] at k1
            cases k1
            cases ho' with
            | lst ys =>
              have k4 : RepAll X.K ca g3.A g3.F ys xs := k3
              refine ⟨_, ys, m, j, rfl, rfl, k2, by rw [k4.length]; exact hj, ?_⟩
              have rr : RepO X.K ca g3.A g3.F (.lst (ys.set j v1)) (.lst (xs.set j d1)) := RepAll.set ((r1.ext e2).ext e3) j k4
              exact post3 σ (g3.put _ (.lst (ys.set j v1))) (ext_setH (((e0.trans e1).trans e2).trans e3) hA) grow_put (ok_setH ok3 hA rr) (env_setH (((env.ext e1).ext e2).ext e3) hA)
            | _ => exact k3.elim
        · exact post3.elim
      · exact post3.elim
    · exact post3.elim
end
section
variable {X : Cx} {ca : Nat → Addr} {E : XK} {x : Str} {pos : Pos}
theorem ge_gint {n : Int} {t : Tok} (hg : Gl X x) (hm : X.mg x = some (.int n t)) (hd : (x == ("__debug__" : Str)) = false := by decide) : PE X (.Name x pos) (rdE X.K ca E (eC (.int n))) := ge_tc (pe_glob (v := .int n) hg hm ⟨t, rfl⟩ hd) fun _ _ => .int n
/-- a tuple of ints of the written part -/
structure TupK (K : PySem.W.Frag) (a : Addr) (ns : List Int) : Prop where
  ex : ∃ (o : Obj) (its : Array Value) (n : Nat), K.lookup a = some o ∧ o.cls = .type "tuple" ∧ o.data = .seq its n ∧ its.size ≤ sizeLine ∧ Vals (ns.map V.int) its.toList
theorem ge_gtup {a : Addr} {ns : List Int} (hg : Gl X x) (hm : X.mg x = some (.ref a)) (T : TupK X.K a ns) (hd : (x == ("__debug__" : Str)) = false := by decide) : PE X (.Name x pos) (rdE X.K ca E (eC (.tup (ns.map D.int)))) :=
  ge_tc (pe_glob (v := .ref a) hg hm rfl hd) fun A F => .tup (.inr T.ex) (RepAll.ofInts ns)
end
end DL
set_option Elab.async false
set_option linter.all false
set_option maxRecDepth 100000
set_option maxHeartbeats 1000000
namespace DL
open PySem PySem.Spec PyProof.Rows L2
structure DefAt (K : PySem.W.Frag) (mg : Str → Option Value) (x : Str) (st : Stmt) (ps : List Str) : Prop where
  ex : ∃ f fd, mg x = some (.ref f) ∧ Fun K x x st f fd ∧ Binds K fd ps []
structure FnD (P : Program) (w : World) (K : PySem.W.Frag) (mg : Str → Option Value) (base : Heap) (ca : Nat → Addr) (k : Nat) (x : Str) (n : Nat) (sem : DC) : Prop where
  ex : ∃ f fd ps, mg x = some (.ref f) ∧ PySem.W.keepIn K (.ref f) = true ∧ Binds K fd ps [] ∧ FnOk P w K mg base (L2.CX P w) k f fd ps (spD K ca n sem)
section
variable {P : Program} {w : World} {K : PySem.W.Frag} {mg : Str → Option Value} {base : Heap} {ca : Nat → Addr}
theorem defAt_mk {h : Heap} {x : Str} {st : Stmt} {ps : List Str} {f : Addr} {oc : Value} {od an : Option Addr} {osl : Array (Option Value)} {kV doc pm cdv ct : Value} (X : K.In h) (G : h.Ns mainGlobals mg) (a : PySem.W.nsIn K mainGlobals x = some (some (.ref f)))
    (l : K.lookup f = some ⟨oc, od, .func (PySem.W.fnOf x x (defArgs st) (defBody st) (defScope st) .none kV doc pm an cdv ct), osl⟩) (c : PySem.W.codeIn K cdv x = true) (k : PySem.W.keepIn K (.ref f) = true)
    (hb : ∀ (kV doc pm : Value) (an : Option Addr) (cdv ct : Value) (us : List Value), us.length = ps.length → bindArgs (PySem.W.fnOf x x (defArgs st) (defBody st) (defScope st) .none kV doc pm an cdv ct) ⟨us, []⟩ = pure (ps.zip us)) : DefAt K mg x st ps :=
  ⟨f, _, PySem.W.mg_of X G a, fun_mk l c k, (fun_mk l c k).binds hb⟩
theorem fnAt {x : Str} {st : Stmt} {N ps : List Str} {k : Nat} {fb : DS} (F : DefAt K mg x st ps) (Sc : FnScope N ps (defScope st))
    (hbody : ∀ (f : Addr) (cdv : Value) (A : Around) (outer : List Env) (s : Shared) (H : Hp) (E : XK), Room k (A.deeper (envOfC x (defScope st) s.heap.objs.size f cdv)) →
      PSs (cxOf (L2.CX P w) P w K mg base N x (defScope st) f cdv A outer s H E) (defBody st) (rdS K ca E fb)) : FnD P w K mg base ca (k + 1) x ps.length (runD N.length ps.length fb) := by
  obtain ⟨f, fd, h1, h2, h3⟩ := F.ex
  exact ⟨f, fd, ps, h1, h2.kp, h3, fnD h2 Sc (hbody f)⟩
/-- what is raised by a callee leaves the def -/
theorem psX {N : List Str} {qual : Str} {scope : Scope} {f : Addr} {cd : Value} {A : Around} {outer : List Env} {s : Shared} {H : Hp} {E : XK} : Passes (L2.CX P w) (cxOf (L2.CX P w) P w K mg base N qual scope f cd A outer s H E) E :=
  passes_call (takes_of rfl rfl rfl rfl) fun _ _ _ _ h => h
theorem tkX {N : List Str} {qual : Str} {scope : Scope} {f : Addr} {cd : Value} {A : Around} {outer : List Env} {s : Shared} {H : Hp} {E : XK} : Takes (cxOf (L2.CX P w) P w K mg base N qual scope f cd A outer s H E) (fun cls d _ H => E cls d H) :=
  takes_of rfl rfl rfl rfl
theorem poX {N : List Str} {qual : Str} {scope : Scope} {f : Addr} {cd : Value} {A : Around} {outer : List Env} {s : Shared} {H : Hp} {E : XK} :
    PassesOwn (model P w) (A.deeper (envOfC qual scope s.heap.objs.size f cd)) (envOfC qual scope s.heap.objs.size f cd) (cxOf (L2.CX P w) P w K mg base N qual scope f cd A outer s H E).xe :=
  passes_of (X := cxOf (L2.CX P w) P w K mg base N qual scope f cd A outer s H E) rfl
end
section
variable {X : Cx} {ca : Nat → Addr} {E : XK} {a : Expr} {es : List Expr} {fr : DA} {k j n : Nat} {x : Str} {p pos : Pos} {sem : DC}
theorem ge_callD (F : FnD X.prog X.w X.K X.mg X.base ca j x n sem) (hr : Room k X.A) (hj : j ≤ k) (hg : Gl X x) (hx : Passes (L2.CX X.prog X.w) X E)
    (ha : PA X (a :: es) (rdA X.K ca n E fr)) (hdb : (x == ("__debug__" : Str)) = false := by decide) (he : starEach (a :: es) X.env = (false, eval a X.env) :: starEach es X.env := by rfl) (hpl : (backTo pos (starEach es X.env)).any (·.1) = false := by rfl) :
    PE X (.Call (.Name x p) (a :: es) [] pos) (rdE X.K ca E (eCall sem fr)) := by
  obtain ⟨f, fd, ps, h1, h2, h3, h4⟩ := F.ex
  exact ge_call h4 (hr.mono hj) hg h1 h2 h3 hx ha hdb he hpl
end
structure ExcAt (K : PySem.W.Frag) (mg : Str → Option Value) (x : Str) (C : Addr) : Prop where
  g : mg x = some (.ref C)
  q : PySem.W.excIn K C [.type "ValueError", .type "Exception", .type "BaseException", .type "object"] "ValueError.__new__" = true
  k : PySem.W.keepIn K (.ref C) = true
  b : PySem.W.subIn K (.ref C) (.type "BaseException") = some true
  t : PySem.W.typeIn K (.ref C) = some (.type "type")
theorem gs_raiseE {X : Cx} {ca : Nat → Addr} {E : XK} {c : Nat} {x m : Str} {j : Nat} {p p2 p3 pos : Pos} (hc : X.calm = true) (tk : Takes X (fun cls d _ H => E cls d H)) (T : ExcAt X.K X.mg x (ca c)) (hg : Gl X x) (hdb : (x == ("__debug__" : Str)) = false := by decide) :
    PS X (.Raise (some (.Call (.Name x p) [.Constant (.str m) j p2] [] p3)) none pos) (rdS X.K ca E (sRaise c)) :=
  gs_raise (cls := .ref (ca c)) hc tk (pmk_own PySem.F.excBase_ValueError T.q T.g T.k (raises_own T.b T.t) hg hdb)
theorem bb_isinstance : bootBuiltins "isinstance" = some (.builtin "isinstance") := by decide +kernel
theorem bb_int : bootBuiltins "int" = some (.type "int") := by decide +kernel
theorem bb_bool : bootBuiltins "bool" = some (.type "bool") := by decide +kernel
theorem bb_list : bootBuiltins "list" = some (.type "list") := by decide +kernel
theorem bb_len : bootBuiltins "len" = some (.builtin "len") := by decide +kernel
theorem bb_abs : bootBuiltins "abs" = some (.builtin "abs") := by decide +kernel
theorem bb_sum : bootBuiltins "sum" = some (.builtin "sum") := by decide +kernel
theorem bb_sorted : bootBuiltins "sorted" = some (.builtin "sorted") := by decide +kernel
structure Blt (mg : Str → Option Value) : Prop where
  isinstance : mg "isinstance" = none
  int : mg "int" = none
  bool : mg "bool" = none
  list : mg "list" = none
  tuple : mg "tuple" = none
  str : mg "str" = none
  set : mg "set" = none
  len : mg "len" = none
  abs : mg "abs" = none
  max : mg "max" = none
  sum : mg "sum" = none
  all : mg "all" = none
  sorted : mg "sorted" = none
  range : mg "range" = none
  zip : mg "zip" = none
  enumerate : mg "enumerate" = none
def CInt (mg : Str → Option Value) (x : Str) (n : Int) : Prop := ∃ t, mg x = some (.int n t)
def CTup (K : PySem.W.Frag) (mg : Str → Option Value) (x : Str) (ns : List Int) : Prop := ∃ a, mg x = some (.ref a) ∧ TupK K a ns
section
variable {X : Cx} {ca : Nat → Addr} {E : XK} {x : Str} {pos : Pos}
theorem ge_gintE {n : Int} (hg : Gl X x) (h : CInt X.mg x n) (hd : (x == ("__debug__" : Str)) = false := by decide) : PE X (.Name x pos) (rdE X.K ca E (eC (.int n))) := let ⟨_, hm⟩ := h; ge_gint hg hm hd
theorem ge_gtupE {ns : List Int} (hg : Gl X x) (h : CTup X.K X.mg x ns) (hd : (x == ("__debug__" : Str)) = false := by decide) : PE X (.Name x pos) (rdE X.K ca E (eC (.tup (ns.map D.int)))) := let ⟨_, hm, T⟩ := h; ge_gtup hg hm T hd
end
theorem hu65 {k : Nat} {A : Around} (hr : Room k A) : A.units + 65 < cLine := Nat.lt_of_le_of_lt (Nat.le_trans (by omega) (Nat.add_le_add_left (by decide : 65 ≤ 200) (A.units + 16 * k))) hr.un
end DL
set_option Elab.async false
set_option linter.all false
set_option maxRecDepth 100000
set_option maxHeartbeats 1000000
namespace DL
open PySem PySem.Spec PyProof.Rows L2
end DL
set_option Elab.async false
set_option linter.all false
set_option maxRecDepth 100000
set_option maxHeartbeats 1000000
namespace DL
open PySem PySem.Spec PyProof.Rows L2
end DL
set_option Elab.async false
set_option linter.all false
set_option maxRecDepth 100000
set_option maxHeartbeats 1000000
namespace DL
open PySem PySem.Spec PyProof.Rows L2
section
variable (K : PySem.W.Frag) (ca : Nat → Addr)
def PostSX (E : XK) (g0 g : G) (o : OutS) (Dn : Ends) : Prop := match o with
  | .nx ρ S => ∀ σ g', Ext g0 g' → Grow g g' → Ok K ca g' S → EnvR K ca g0 g' σ ρ → Dn.nx σ g'.H
  | .exc c S => ∀ g', Ext g0 g' → Ext g g' → Ok K ca g' S → E (.ref (ca c)) none g'.H
  | _ => False
end
section
variable {X : Cx} {ca : Nat → Addr} {E : L2.St → XK} {a b c e : Expr} {es : List Expr} {fa fb fc f : DE} {fr : DA} {p pos : Pos} {k j m : Nat} {x : Str} {sem : List D → Store → Out}
theorem PostSX.ext {K : PySem.W.Frag} {E : XK} {g0 g g1 : G} {o : OutS} {Dn : Ends} (e : Ext g g1) (h : PostSX K ca E g0 g o Dn) : PostSX K ca E g0 g1 o Dn := by
  cases o with
  | nx ρ S => exact fun σ g' a b c d => h σ g' a (e.grow.trans b) c d
  | exc c S => exact fun g' a b c => h g' a (e.trans b) c
  | _ => exact h
end
end DL
set_option Elab.async false
set_option linter.all false
set_option maxRecDepth 100000
set_option maxHeartbeats 1000000
namespace DL
open PySem PySem.Spec PyProof.Rows L2
section
variable {X : Cx} {ca : Nat → Addr} {E : XK} {K : PySem.W.Frag} {a b : Expr} {fa fb : DE} {apos cpos : Pos}
theorem RepAll.cnt {A : List Addr} {F : Hp} {w : V} {e : D} (q : Rep K ca A F w e) (h' : flatD e = true) : ∀ {vs : List V} {ds : List D}, RepAll K ca A F vs ds → ds.all flatD = true → (vs.countP fun z => eqV z w) = ds.countP fun z => eqD z e
  | _, _, .nil, _ => rfl
  | _, _, .cons r t, h => by
    rw [List.all_cons, Bool.and_eq_true] at h
    rw [List.countP_cons, List.countP_cons, RepAll.cnt q h' t h.2, r.eqV q h.1 h']
end
end DL
set_option Elab.async false
set_option linter.all false
set_option maxRecDepth 100000
set_option maxHeartbeats 1000000
namespace DL
open PySem PySem.Spec PyProof.Rows L2
end DL
set_option Elab.async false
set_option linter.all false
set_option maxRecDepth 100000
set_option maxHeartbeats 1000000
namespace DL
open PySem PySem.Spec PyProof.Rows L2
end DL
set_option Elab.async false
set_option linter.all false
set_option maxRecDepth 100000
set_option maxHeartbeats 1000000
namespace DL
open PySem PySem.Spec PyProof.Rows L2
section
variable {α β : Type}
def insL (le : α → α → Bool) (a : α) : List α → List α
  | [] => [a]
  | b :: l => if le a b then a :: b :: l else b :: insL le a l
def isort (le : α → α → Bool) : List α → List α
  | [] => []
  | a :: l => insL le a (isort le l)
theorem insL_at {le : α → α → Bool} {a : α} : ∀ {l1 l2 : List α}, (∀ b ∈ l1, le a b = false) → (∀ b ∈ l2, le a b = true) → insL le a (l1 ++ l2) = l1 ++ a :: l2
  | [], [], _, _ => rfl
  | [], b :: l2, _, h => by
    show (if le a b = true then _ else _) = _
    rw [if_pos (h b (List.mem_cons_self ..))]
    rfl
  | c :: l1, l2, h1, h2 => by
    show (if le a c = true then _ else c :: insL le a (l1 ++ l2)) = _
    rw [if_neg (by rw [h1 c (List.mem_cons_self ..)]; decide), insL_at (fun b hb => h1 b (List.mem_cons_of_mem _ hb)) h2]
    rfl
theorem isort_is {le : α → α → Bool} (tr : ∀ a b c, le a b = true → le b c = true → le a c = true) (to : ∀ a b, (le a b || le b a) = true) : ∀ l : List α, l.mergeSort le = isort le l
  | [] => by simp [isort]
  | a :: l => by
    obtain ⟨l1, l2, h1, h2, h3⟩ := List.mergeSort_cons tr to a l
    have hs := List.pairwise_mergeSort tr to (a :: l)
    rw [h1] at hs
    rw [h1]
    show _ = insL le a (isort le l)
    rw [← isort_is tr to l, h2, insL_at (fun b hb => by simpa using h3 b hb) fun b hb => ?_]
    exact (List.pairwise_cons.mp (List.pairwise_append.mp hs).2.1).1 b hb
theorem insL_map {f : α → β} {le : β → β → Bool} (a : α) : ∀ l : List α, (insL (fun x y => le (f x) (f y)) a l).map f = insL le (f a) (l.map f)
  | [] => rfl
  | b :: l => by
    show List.map f (if le (f a) (f b) = true then _ else _) = (if le (f a) (f b) = true then _ else _)
    split
    · rfl
    · rw [List.map_cons, insL_map a l]
theorem isort_map {f : α → β} {le : β → β → Bool} : ∀ l : List α, (isort (fun x y => le (f x) (f y)) l).map f = isort le (l.map f)
  | [] => rfl
  | a :: l => by
    show List.map f (insL _ a (isort _ l)) = insL le (f a) (isort le (l.map f))
    rw [insL_map, isort_map l]
end
abbrev leD : D → D → Bool := PySem.W.dataLe false D.py
def rSortD (K : PySem.W.Frag) : List V → Hp → VK → Prop := fun vs H Q => ∃ (a : Addr) (ps : List (V × D)), vs = [V.ref a] ∧ SqL K H a (ps.map (·.1)) ∧ (∀ p ∈ ps, Dp K H p.1 p.2.py ∧ p.2.py.depth ≤ 60) ∧ PySem.W.AllAlike (ps.map fun p => p.2.py) ∧ PySem.W.Sortable (ps.map fun p => p.2.py) ∧
  ∀ p, H p = none → Q (.ref p) (upd H p (.lst ((ps.mergeSort (PySem.W.dataLe false fun p => p.2.py)).map (·.1))))
theorem each_of : ∀ {ps : List (V × D)} {its : List Value}, Vals (ps.map (·.1)) its → PySem.W.EachIs (fun v (b : V × D) => RelV b.1 v) its ps
  | [], _, h => by cases h; exact .nil
  | p :: ps, _, h => by
    cases h with
    | cons r1 r2 => exact .cons r1 (each_of r2)
theorem vals_each : ∀ {ps : List (V × D)} {its : List Value}, PySem.W.EachIs (fun v (b : V × D) => RelV b.1 v) its ps → Vals (ps.map (·.1)) its
  | _, _, .nil => .nil
  | _, _, .cons r1 r2 => .cons r1 (vals_each r2)
section
variable {X : Cx} {ca : Nat → Addr} {E : XK} {K : PySem.W.Frag}
theorem cr_sortD (hu : X.A.units + 65 < cLine) : CallR X (.builtin "sorted") (rSortD X.K) := by
  intro pins s σ H vs us Q I r h
  obtain ⟨a, ps, rfl, hs, hd, hal, hk, q⟩ := h
  obtain ⟨its, rv, hl, hz⟩ := I.list hs
  rw [Vals.ref1 r]
  have e := each_of rv
  have er : PySem.W.EachIs (fun v (b : V × D) => ∃ as, Reads s.heap v b.2.py as) its ps := (PySem.W.each_mem e).mono fun v b h => Dp.reads I _ _ _ (hd b h.2).1 h.1
  rw [List.length_map] at hz
  refine PySem.W.sorted_data (enc := fun p : V × D => p.2.py) hl.isList e er hal hk hz (fun b hb => ?_) fun out ho eo => ?_
  · have := (hd b hb).2
    omega
  · obtain ⟨c, hc⟩ := PyProof.Rows.sortedAll_at s.heap its out.toArray
    refine ⟨.ref _, upd H (s.heap.objs.size + 1) (.lst ((ps.mergeSort (PySem.W.dataLe false fun p => p.2.py)).map (·.1))), I.laid (t' := s.toks) (fun _ _ => PyProof.Rows.sortedAll_old) (Nat.le_succ _) ⟨?_, out, c, vals_each eo, hc⟩, rfl, q _ (I.hok.fresh (Nat.le_succ _))⟩
    rw [List.length_map, List.length_mergeSort]
    exact hz
def sortableD (ds : List D) : Bool := ds.all (fun d => match d.py with | .tuple (_ :: _) => true | _ => false) || ds.all (fun d => match d.py with | .none => false | .tuple _ => false | _ => true)
def oSortedD : DC := fun ds S => match ds with
  | [.lst xs] => if xs.all (okD 5) && xs.all (fun d => decide (d.py.depth ≤ 60)) && xs.all (fun d => xs.all fun e => PySem.W.alike d.py e.py) && sortableD xs then .ok (.lst (isort leD xs)) S else .bad
  | _ => .bad
theorem RepAll.mem {A : List Addr} {F : Hp} : ∀ {xs : List V} {ds : List D}, RepAll K ca A F xs ds → ∀ p ∈ xs.zip ds, Rep K ca A F p.1 p.2
  | _, _, .nil, p, h => by simp at h
  | _, _, .cons r1 r2, p, h => by
    rw [List.zip_cons_cons] at h
    rcases List.mem_cons.mp h with rfl | h
    · exact r1
    · exact RepAll.mem r2 p h
theorem RepAll.of_mem {A : List Addr} {F : Hp} : ∀ {ps : List (V × D)}, (∀ p ∈ ps, Rep K ca A F p.1 p.2) → RepAll K ca A F (ps.map (·.1)) (ps.map (·.2))
  | [], _ => .nil
  | p :: ps, h => .cons (h p (List.mem_cons_self ..)) (RepAll.of_mem fun q hq => h q (List.mem_cons_of_mem _ hq))
theorem c_sortD : CallS K ca E (rSortD K) oSortedD := fun g S vs ds Q ok r post => by
  unfold oSortedD at post
  split at post
  · split at post
    · rename_i xs hc
      rw [Bool.and_eq_true, Bool.and_eq_true, Bool.and_eq_true] at hc
      obtain ⟨⟨⟨c1, c2⟩, c3⟩, c4⟩ := hc
      cases r with
      | cons r1 r2 =>
        cases r2
        cases r1 with
        | lst hs hr =>
          rename_i a us
          have hl : us.length = xs.length := hr.length
          have m1 : (us.zip xs).map (·.1) = us := by rw [List.map_fst_zip]; omega
          have m2 : (us.zip xs).map (·.2) = xs := by rw [List.map_snd_zip]; omega
          have mm : ∀ p ∈ us.zip xs, p.2 ∈ xs := fun p hp => by
            have := List.mem_map_of_mem (f := Prod.snd) hp
            rw [m2] at this
            exact this
          have e : ((us.zip xs).mergeSort (PySem.W.dataLe false fun p => p.2.py)).map (·.2) = isort leD xs := by
            have T := PySem.W.sortLe_total (α := V × D) (PyProof.Rows.listOrd PyProof.Rows.itemOrd) false fun b => PySem.W.keyToks b.2.py
            have e0 : (us.zip xs).mergeSort (PySem.W.dataLe false fun p => p.2.py) = isort (PySem.W.dataLe false fun p => p.2.py) (us.zip xs) := isort_is (le := PySem.W.dataLe false fun p : V × D => p.2.py) T.trans (fun a b => (Bool.or_eq_true _ _).mpr (T.total a b)) _
            rw [e0]
            exact (isort_map (f := Prod.snd) (le := leD) (us.zip xs)).trans (by rw [m2])
          refine ⟨a, us.zip xs, rfl, by rw [m1]; exact SqL.of (ok.sub _ _ hs), fun p hp => ⟨Rep.dp ok.sub 5 _ _ (List.all_eq_true.mp c1 _ (mm p hp)) (hr.mem p hp), of_decide_eq_true (List.all_eq_true.mp c2 _ (mm p hp))⟩, ?_, ?_, fun p hn => ?_⟩
          · intro d hd d' hd'
            obtain ⟨p, hp, rfl⟩ := List.mem_map.mp hd
            obtain ⟨p', hp', rfl⟩ := List.mem_map.mp hd'
            exact List.all_eq_true.mp (List.all_eq_true.mp c3 _ (mm p hp)) _ (mm p' hp')
          · unfold sortableD at c4
            rw [Bool.or_eq_true] at c4
            rcases c4 with c4 | c4
            · refine .inl fun d hd => ?_
              obtain ⟨p, hp, rfl⟩ := List.mem_map.mp hd
              have := List.all_eq_true.mp c4 _ (mm p hp)
              split at this
              · rename_i x l q
                exact ⟨_, _, q⟩
              · cases this
            · refine .inr fun d hd => ?_
              obtain ⟨p, hp, rfl⟩ := List.mem_map.mp hd
              have := List.all_eq_true.mp c4 _ (mm p hp)
              split at this
              · cases this
              · cases this
              · rename_i q1 q2
                exact ⟨fun z => q1 z, fun xs z => q2 xs z⟩
          · refine new_lst ok post ?_ p hn
            rw [← e]
            exact RepAll.of_mem fun q hq => hr.mem q (List.mem_mergeSort.mp hq)
    · exact post.elim
  · exact post.elim
end
def sBad : DS := fun _ _ => .bad
theorem gss_bad {X : Cx} {ca : Nat → Addr} {E : XK} {ss : List Stmt} : PSs X ss (rdS X.K ca E sBad) := by
  refine ⟨fun pins s σ H Dn I h => ?_⟩
  obtain ⟨g0, g, ρ, S, rfl, _, _, _, post⟩ := h
  exact post.elim
end DL
set_option Elab.async false
set_option linter.all false
set_option maxRecDepth 100000
set_option maxHeartbeats 4000000
namespace DL
open PySem PySem.Spec PyProof.Rows L2
end DL
set_option Elab.async false
set_option linter.all false
set_option maxRecDepth 100000
set_option maxHeartbeats 1000000
namespace DL
open PySem PySem.Spec PyProof.Rows L2
def keyI (ns : List Int) : List Key := ns.map Sum.inl
section
variable {κ : Type} [DecidableEq κ]
def valD (kds : List (κ × D)) (k : κ) : Option D := (kds.find? fun kv => decide (kv.1 = k)).map (·.2)
def putKD (kds : List (κ × D)) (k : κ) (d : D) : List (κ × D) :=
  if (kds.any fun kv => decide (kv.1 = k)) = true then kds.map (fun kv => if kv.1 = k then (kv.1, d) else kv) else kds ++ [(k, d)]
theorem keyI_vals (ns : List Int) : (keyI ns).map kV = ns.map V.int := by
  unfold keyI
  rw [List.map_map]
  rfl
theorem valD_pos {p : κ × D} {r : List (κ × D)} {k : κ} (e : p.1 = k) : valD (p :: r) k = some p.2 := by simp [valD, List.find?_cons, e]
theorem valD_neg {p : κ × D} {r : List (κ × D)} {k : κ} (e : ¬ p.1 = k) : valD (p :: r) k = valD r k := by simp [valD, List.find?_cons, e]
theorem paired_val {K : PySem.W.Frag} {ca : Nat → Addr} {A : List Addr} {F : Hp} {k : κ} : ∀ {kvs : List (κ × V)} {kds : List (κ × D)}, Paired (fun (p : κ × V) (q : κ × D) => p.1 = q.1 ∧ Rep K ca A F p.2 q.2) kvs kds →
    (valV kvs k = none ∧ valD kds k = none) ∨ ∃ v d, valV kvs k = some v ∧ valD kds k = some d ∧ Rep K ca A F v d
  | _, _, .nil => .inl ⟨rfl, rfl⟩
  | _, _, .cons (a := p) (b := q) h1 h2 => by
    by_cases e : p.1 = k
    · exact .inr ⟨p.2, q.2, valV_pos e, valD_pos (h1.1.symm.trans e), h1.2⟩
    · have e2 : ¬ q.1 = k := by rw [← h1.1]; exact e
      rcases paired_val (k := k) h2 with h | ⟨v, d, a1, a2, a3⟩
      · exact .inl ⟨(valV_neg e).trans h.1, (valD_neg e2).trans h.2⟩
      · exact .inr ⟨v, d, (valV_neg e).trans a1, (valD_neg e2).trans a2, a3⟩
theorem paired_any {K : PySem.W.Frag} {ca : Nat → Addr} {A : List Addr} {F : Hp} {k : κ} : ∀ {kvs : List (κ × V)} {kds : List (κ × D)}, Paired (fun (p : κ × V) (q : κ × D) => p.1 = q.1 ∧ Rep K ca A F p.2 q.2) kvs kds →
    (kvs.any fun kv => decide (kv.1 = k)) = kds.any fun kv => decide (kv.1 = k)
  | _, _, .nil => rfl
  | _, _, .cons (a := p) (b := q) h1 h2 => by rw [List.any_cons, List.any_cons, paired_any h2, h1.1]
theorem paired_repl {K : PySem.W.Frag} {ca : Nat → Addr} {A : List Addr} {F : Hp} {k : κ} {v : V} {d : D} (r : Rep K ca A F v d) : ∀ {kvs : List (κ × V)} {kds : List (κ × D)}, Paired (fun (p : κ × V) (q : κ × D) => p.1 = q.1 ∧ Rep K ca A F p.2 q.2) kvs kds →
    Paired (fun (p : κ × V) (q : κ × D) => p.1 = q.1 ∧ Rep K ca A F p.2 q.2) (kvs.map fun kv => if kv.1 = k then (kv.1, v) else kv) (kds.map fun kv => if kv.1 = k then (kv.1, d) else kv)
  | _, _, .nil => .nil
  | _, _, .cons (a := p) (b := q) h1 h2 => by
    rw [List.map_cons, List.map_cons]
    refine .cons ?_ (paired_repl r h2)
    by_cases e : p.1 = k
    · rw [if_pos e, if_pos (h1.1.symm.trans e)]
      exact ⟨h1.1, r⟩
    · rw [if_neg e, if_neg (by rw [← h1.1]; exact e)]
      exact h1
theorem paired_put {K : PySem.W.Frag} {ca : Nat → Addr} {A : List Addr} {F : Hp} {k : κ} {v : V} {d : D} (r : Rep K ca A F v d) {kvs : List (κ × V)} {kds : List (κ × D)} (h : Paired (fun (p : κ × V) (q : κ × D) => p.1 = q.1 ∧ Rep K ca A F p.2 q.2) kvs kds) :
    Paired (fun (p : κ × V) (q : κ × D) => p.1 = q.1 ∧ Rep K ca A F p.2 q.2) (putK kvs k v) (putKD kds k d) := by
  unfold putK putKD
  rw [paired_any h]
  split
  · exact paired_repl r h
  · exact Paired.snoc h ⟨rfl, r⟩
theorem paired_len {K : PySem.W.Frag} {ca : Nat → Addr} {A : List Addr} {F : Hp} : ∀ {kvs : List (κ × V)} {kds : List (κ × D)}, Paired (fun (p : κ × V) (q : κ × D) => p.1 = q.1 ∧ Rep K ca A F p.2 q.2) kvs kds → kvs.length = kds.length
  | _, _, .nil => rfl
  | _, _, .cons _ h2 => by rw [List.length_cons, List.length_cons, paired_len h2]
end
def oDGet (x : D) (ds : List D) : Store → Out := fun S => match x with
  | .obj n => match S[n]?, asInts ds with
    | some (.dT kds), some ns => match valD kds (keyI ns) with
      | some d => .ok d S
      | none => .bad
    | _, _ => .bad
  | _ => .bad
def eDGet (fo : DE) (fi : DA) : DE := fun ρ S => (fo ρ S).bind fun x S1 => (fi ρ S1).bind fun ds S2 => oDGet x ds S2
def oDPut (x : D) (ds : List D) (d : D) (ρ : DEnv) : Store → OutS := fun S => match x with
  | .obj n => match S[n]?, asInts ds with
    | some (.dT kds), some ns => if kds.length < 100000 then .nx ρ (S.set n (.dT (putKD kds (keyI ns) d))) else .bad
    | _, _ => .bad
  | _ => .bad
def sDPutT (fo : DE) (fi : DA) (fv : DE) : DS := fun ρ S => (fv ρ S).bindS fun d S1 => (fo ρ S1).bindS fun x S2 => match fi ρ S2 with
  | .ok ds S3 => oDPut x ds d ρ S3
  | .exc c S3 => .exc c S3
  | .bad => .bad
section
variable {K : PySem.W.Frag} {ca : Nat → Addr} {E : XK}
theorem PostS.bindL {m : Nat} {g0 g : G} {o : OutL} {k : List D → Store → OutS} {Dn : Ends} {R : List V → Hp → Prop} (h0 : Ext g0 g)
    (h : PostS K ca E g0 g (match o with | .ok ds S => k ds S | .exc c S => .exc c S | .bad => .bad) Dn)
    (hk : ∀ ds S vs g', Ext g g' → Ok K ca g' S → RepAll K ca g'.A g'.F vs ds → vs.length = m → PostS K ca E g0 g' (k ds S) Dn → R vs g'.H) : PostA K ca m E g o R := by
  cases o with
  | ok d S => exact fun v g' a b c l => hk d S v g' a b c l (PostS.grow a.grow h)
  | exc c S => exact fun g' a b => h g' (h0.trans a) b
  | bad => exact h
theorem dT_at {g : G} {S : Store} {v : V} {n : Nat} {kds : List (List Key × D)} (ok : Ok K ca g S) (r : RepG K ca g v (.obj n)) (hS : S[n]? = some (.dT kds)) :
    ∃ a kvs, v = .ref a ∧ g.A[n]? = some a ∧ g.H a = some (.dT kvs) ∧ Paired (fun (p : List Key × V) (q : List Key × D) => p.1 = q.1 ∧ Rep K ca g.A g.F p.2 q.2) kvs kds := by
  cases r with
  | obj hA =>
    obtain ⟨a', ho', k1, k2, k3⟩ := ok.ob _ _ hS
    rw [hA] at k1
    cases k1
    cases ho' with
    | dT kvs => exact ⟨_, kvs, rfl, hA, k2, k3⟩
    | _ => exact k3.elim
end
section
variable {X : Cx} {ca : Nat → Addr} {E : XK} {o : Expr} {es : List Expr} {n : Nat} {fo : DE} {fi : DA} {pos tp : Pos}
theorem ge_dgetT {x1} (hu : X.A.units + 1 < cLine) (ho : PE X o (rdE X.K ca E fo)) (hi : PA X es (rdA X.K ca n E fi)) (hs : NoSl (.Tuple es x1 tp)) (hn : n ≤ 100000 := by decide) : PE X (.Subscript o (.Tuple es x1 tp) pos) (rdE X.K ca E (eDGet fo fi)) :=
  wkE (pe_dget hu ho (pe_tup hi) hs) fun σ H Q q => by
    obtain ⟨g0, g, ρ, S, rfl, ok, env, post⟩ := q
    refine ⟨g0, g, ρ, S, rfl, ok, env, PostE.bind post fun d1 S1 v1 g1 e1 ok1 r1 post1 => ?_⟩
    refine ⟨g0, g1, ρ, S1, rfl, ok1, env.ext e1, PostE.bindL post1 fun ds S2 vs g2 e2 ok2 r2 hl post2 => ?_⟩
    refine ⟨by rw [hl]; exact Nat.le_trans hn (by decide), fun p hp => ?_⟩
    unfold oDGet at post2
    split at post2
    · rename_i m
      split at post2
      · rename_i kds ns hS hx
        have e := asInts_some hx
        subst e
        have ev := r2.ints
        subst ev
        split at post2
        · rename_i d hd
          obtain ⟨a, kvs, rfl, hA, k2, k3⟩ := dT_at ok2 (r1.ext e2) hS
          rcases paired_val (k := keyI ns) k3 with h | ⟨v, d', b1, b2, b3⟩
          · rw [h.2] at hd
            cases hd
          · rw [b2] at hd
            cases hd
            have hne : ∀ a, g2.H a = some (.dT kvs) → a ≠ p := fun a h z => by rw [z, hp] at h; cases h
            refine ⟨_, v, rfl, ?_, post2 v (g2.frz p (.tup (ns.map V.int))) (ext_frz ok2 hp) (ok_frz ok2 hp) (Rep.ext (ext_frz ok2 hp) b3)⟩
            rw [← b1]
            refine DGet.t (kvs := kvs) ?_ ?_
            · show upd g2.H p _ _ = _
              unfold upd
              rw [if_neg (hne _ k2)]
              exact k2
            · rw [keyI_vals]
              exact upd_same
        · exact post2.elim
      · exact post2.elim
    · exact post2.elim
def oDNot (ds : List D) (x : D) : Store → Out := fun S => match x with
  | .obj n => match S[n]?, asInts ds with
    | some (.dT kds), some ns => .ok (.bl (!(valD kds (keyI ns)).isSome)) S
    | _, _ => .bad
  | _ => .bad
def eDNot (fi : DA) (fo : DE) : DE := fun ρ S => (fi ρ S).bind fun ds S1 => (fo ρ S1).bind fun x S2 => oDNot ds x S2
theorem rd_dnot (hn : n ≤ 100000) (σ : L2.St) (H : Hp) (Q : VK) (q : rdE X.K ca E (eDNot fi fo) σ H Q) : tDNotIn (tTup (rdA X.K ca n E fi)) (rdE X.K ca E fo) σ H Q := by
  obtain ⟨g0, g, ρ, S, rfl, ok, env, post⟩ := q
  refine ⟨g0, g, ρ, S, rfl, ok, env, PostE.bindL post fun ds S1 vs g1 e1 ok1 r1 hl post1 => ?_⟩
  refine ⟨by rw [hl]; exact Nat.le_trans hn (by decide), fun p hp => ?_⟩
  have eF := ext_frz (o := .tup vs) ok1 hp
  refine ⟨g0, g1.frz p (.tup vs), ρ, S1, rfl, ok_frz ok1 hp, (env.ext e1).ext eF, PostE.bind (PostE.ext eF post1) fun d2 S2 v2 g2 e2 ok2 r2 post2 => ?_⟩
  unfold oDNot at post2
  split at post2
  · rename_i m
    split at post2
    · rename_i kds ns hS hx
      have e := asInts_some hx
      subst e
      have ev := r1.ints
      subst ev
      obtain ⟨a, kvs, rfl, hA, k2, k3⟩ := dT_at ok2 r2 hS
      have hb : g2.H p = some (.tup ((keyI ns).map kV)) := by
        rw [keyI_vals]
        exact ok2.sub _ _ (e2.F _ _ upd_same)
      refine ⟨_, valV kvs (keyI ns), rfl, DGet.t k2 hb, ?_⟩
      have hv : (valV kvs (keyI ns)).isSome = (valD kds (keyI ns)).isSome := by
        rcases paired_val (k := keyI ns) k3 with h | ⟨v, d', b1, b2, b3⟩
        · rw [h.1, h.2]
          rfl
        · rw [b1, b2]
          rfl
      rw [hv]
      exact PostE.here post2 ok2 (.bl _)
    · exact post2.elim
  · exact post2.elim
theorem gt_dnotT {x1} (hu : X.A.units + 1 < cLine) (hi : PA X es (rdA X.K ca n E fi)) (ho : PE X o (rdE X.K ca E fo)) (hm : behindInMarks .NotIn o = false) (hn : n ≤ 100000 := by decide) : PT X (.Compare (.Tuple es x1 tp) [.NotIn] [o] pos) (rdT X.K ca E (eDNot fi fo)) :=
  wkT (pt_cmp (pc_dnotin hu (pe_tup hi) ho) hm) fun σ H Q q => rd_dnot hn σ H _ (rd_test σ H Q q)
def eDNew : DE := fun ρ S => .ok (.obj S.length) (S ++ [.dT []])
theorem ge_dnew : PE X (.Dict [] [] pos) (rdE X.K ca E eDNew) := wkE pe_dnewT fun σ H Q q => by
  obtain ⟨g0, g, ρ, S, rfl, ok, env, post⟩ := q
  intro p hp
  have fp := ok.ffree hp
  have pA : p ∉ g.A := fun z => ok.there z hp
  have e1 : Ext g (g.put p (.dT [])) := ext_put hp
  have ok1 : Ok X.K ca (g.put p (.dT [])) S := ok_put ok fp pA
  refine post (.ref p) ⟨g.F, g.A ++ [p], upd g.H p (.dT [])⟩ (ext_regH e1 hp) (ok_regH ok1 fp pA upd_same (show RepO X.K ca g.A g.F (.dT []) (.dT []) from .nil)) (.obj ?_)
  rw [← ok.len, List.getElem?_append_right (Nat.le_refl _), Nat.sub_self]
  rfl
theorem gs_dputT {x1} {value : Expr} {fv : DE} {p3 : Pos} (hu : X.A.units + 1 < cLine) (ho : PE X o (rdE X.K ca E fo)) (hi : PA X es (rdA X.K ca n E fi)) (hv : PE X value (rdE X.K ca E fv)) (hs : swapsWith value (some (.Subscript o (.Tuple es x1 tp) p3)) pos.line X.env = pure false := by rfl) (hn : n ≤ 100000 := by decide) :
    PS X (.Assign [.Subscript o (.Tuple es x1 tp) p3] value pos) (rdS X.K ca E (sDPutT fo fi fv)) := wkS (ps_dput hu ho (pe_tup hi) hv hs) fun Dn σ H q => by
  obtain ⟨g0, g, ρ, S, rfl, e0, ok, env, post⟩ := q
  refine ⟨g0, g, ρ, S, rfl, ok, env, PostS.bindE e0 post fun d1 S1 v1 g1 e1 ok1 r1 post1 => ?_⟩
  refine ⟨g0, g1, ρ, S1, rfl, ok1, env.ext e1, PostS.bindE (e0.trans e1) post1 fun d2 S2 v2 g2 e2 ok2 r2 post2 => ?_⟩
  refine ⟨g0, g2, ρ, S2, rfl, ok2, (env.ext e1).ext e2, PostS.bindL ((e0.trans e1).trans e2) post2 fun ds S3 vs g3 e3 ok3 r3 hl post3 => ?_⟩
  refine ⟨by rw [hl]; exact Nat.le_trans hn (by decide), fun p hp => ?_⟩
  unfold oDPut at post3
  split at post3
  · rename_i m
    split at post3
    · rename_i kds ns hS hx
      have e := asInts_some hx
      subst e
      have ev := r3.ints
      subst ev
      split at post3
      · rename_i hz
        have eF := ext_frz (o := .tup (ns.map V.int)) ok3 hp
        have okF := ok_frz (o := .tup (ns.map V.int)) ok3 hp
        obtain ⟨a, kvs, rfl, hA, k2, k3⟩ := dT_at okF ((r2.ext e3).ext eF) hS
        refine ⟨a, _, rfl, DPut.t (k := keyI ns) k2 (by rw [keyI_vals]; exact upd_same) (by rw [paired_len k3]; exact Nat.lt_of_lt_of_le hz (by decide)), ?_⟩
        have rr : RepO X.K ca (g3.frz p (.tup (ns.map V.int))).A (g3.frz p (.tup (ns.map V.int))).F (.dT (putK kvs (keyI ns) v1)) (.dT (putKD kds (keyI ns) d1)) := paired_put (((r1.ext e2).ext e3).ext eF) k3
        exact post3 σ ((g3.frz p (.tup (ns.map V.int))).put a (.dT (putK kvs (keyI ns) v1))) (ext_setH ((((e0.trans e1).trans e2).trans e3).trans eF) hA) (eF.grow.trans grow_put) (ok_setH okF hA rr) (env_setH ((((env.ext e1).ext e2).ext e3).ext eF) hA)
      · exact post3.elim
    · exact post3.elim
  · exact post3.elim
end
end DL
set_option Elab.async false
set_option linter.all false
set_option maxRecDepth 100000
set_option maxHeartbeats 1000000
namespace DL
open PySem PySem.Spec PyProof.Rows L2
section
variable (K : PySem.W.Frag) (ca : Nat → Addr)
def WalkO (n : Nat) (g : G) (J : It) (ds : List D) : Prop := ∀ g1 S1, Grow g g1 → Ok K ca g1 S1 → S1[n]? = some (.lst ds) → ∀ i : Nat,
  (∀ d, ds[i]? = some d → J.go i g1.H ∧ ∀ x H', J.yld i g1.H x H' → ∃ g2, g2.H = H' ∧ Ext g1 g2 ∧ Ok K ca g2 S1 ∧ RepG K ca g2 x d) ∧ (ds.length ≤ i → J.stop i g1.H)
def PostIO (E : XK) (g : G) (o : Out) (R : It → Hp → Prop) : Prop := match o with
  | .ok (.obj n) S => ∀ J ds g', S[n]? = some (.lst ds) → Ext g g' → Ok K ca g' S → WalkO K ca n g' J ds → R J g'.H
  | .ok _ _ => False
  | .exc c S => ∀ g', Ext g g' → Ok K ca g' S → E (.ref (ca c)) none g'.H
  | .bad => False
end
section
variable {X : Cx} {ca : Nat → Addr} {E : XK} {f fc fe : DE} {t : DG} {gt : TG} {vs : List Nat}
theorem PostIO.ext {K : PySem.W.Frag} {g g1 : G} {o : Out} {R : It → Hp → Prop} (e : Ext g g1) (h : PostIO K ca E g o R) : PostIO K ca E g1 o R := by
  cases o with
  | ok d S =>
    cases d with
    | obj n => exact fun J ds g' z a b c => h J ds g' z (e.trans a) b c
    | _ => exact h
  | exc c S => exact fun g' a b => h g' (e.trans a) b
  | bad => exact h
end
section
variable (K : PySem.W.Frag) (ca : Nat → Addr)
def PostSF (E : XK) (g0 g : G) (o : OutS) (Dn : Ends) : Prop := match o with
  | .nx ρ S => ∀ σ g', Ext g0 g' → Grow g g' → Ok K ca g' S → EnvR K ca g0 g' σ ρ → Dn.nx σ g'.H
  | .ret (.lst ds) S => ∀ p xs g', Ext g0 g' → Ok K ca g' S → g0.H p = none → g'.F p = none → p ∉ g'.A → g'.H p = some (.lst xs) → RepAll K ca g'.A g'.F xs ds → Dn.rt (.ref p) g'.H
  | .ret _ _ => False
  | .brk ρ S => ∀ σ g', Ext g0 g' → Grow g g' → Ok K ca g' S → EnvR K ca g0 g' σ ρ → Dn.bk σ g'.H
  | .cnt ρ S => ∀ σ g', Ext g0 g' → Grow g g' → Ok K ca g' S → EnvR K ca g0 g' σ ρ → Dn.ct σ g'.H
  | .exc c S => ∀ g', Ext g0 g' → Ok K ca g' S → E (.ref (ca c)) none g'.H
  | .bad => False
end
def sRetO (i : Nat) : DS := fun ρ S => match ρ[i]? with
  | some (.own ds) => .ret (.lst ds) S
  | _ => .bad
theorem sRetO_ok {i : Nat} {ρ : DEnv} {S : Store} {ds : List D} (h : ρ[i]? = some (.own ds)) : sRetO i ρ S = .ret (.lst ds) S := by
  unfold sRetO
  rw [h]
section
variable {X : Cx} {ca : Nat → Addr} {E : XK} {e : Expr} {f : DE} {pos : Pos} {st : Stmt} {rest : List Stmt} {fs fh : DS}
theorem PostSF.grow {K : PySem.W.Frag} {g0 g g1 : G} {o : OutS} {Dn : Ends} (e : Grow g g1) (h : PostSF K ca E g0 g o Dn) : PostSF K ca E g0 g1 o Dn := by
  cases o with
  | nx ρ S => exact fun σ g' a b c d => h σ g' a (e.trans b) c d
  | ret d S => cases d <;> exact h
  | brk ρ S => exact fun σ g' a b c d => h σ g' a (e.trans b) c d
  | cnt ρ S => exact fun σ g' a b c d => h σ g' a (e.trans b) c d
  | exc c S => exact h
  | bad => exact h
theorem gs_retO {i : Nat} {x : Str} {p2 : Pos} (h : PE X (.Name x p2) (rdE X.K ca E (eVar i))) : PS X (.Return (some (.Name x p2)) pos) (rdS X.K ca E (sRetO i)) := wkS (gs_frz i (gs_ret h)) fun Dn σ H q => by
  obtain ⟨g0, g, ρ, S, rfl, e0, ok, env, post⟩ := q
  refine ⟨g0, g, ρ, S, rfl, e0, ok, env, ?_⟩
  unfold sRetO at post
  split at post
  · rename_i ds hi
    have hl : i < ρ.length := (List.getElem?_eq_some_iff.mp hi).1
    have z : sFrz i (sRet (eVar i)) ρ S = .ret (.lst ds) S := by
      unfold sFrz
      rw [hi]
      show sRet (eVar i) (ρ.set i (.val (.lst ds))) S = _
      unfold sRet eVar
      rw [List.getElem?_set_self hl]
      rfl
    rw [z]
    exact post
  · exact post.elim
end
section
variable {X : Cx} {ca : Nat → Addr} {E : XK} {a : Expr} {es : List Expr} {fr : DA} {k j n : Nat} {x : Str} {p pos : Pos} {sem : DC}
theorem hu1 {k : Nat} {A : Around} (hr : Room k A) : A.units + 1 < cLine := Nat.lt_of_le_of_lt (Nat.add_le_add_left (by decide : 1 ≤ 65) A.units) (hu65 hr)
end
end DL
set_option Elab.async false
set_option linter.all false
set_option maxRecDepth 100000
set_option maxHeartbeats 1000000
namespace DL
open PySem PySem.Spec PyProof.Rows L2
def caOf (l : List Addr) : Nat → Addr := fun n => l.getD n 0
/-- the law's meaning is True at every script -/
def LawTrue (m : DC) : Prop := ∀ ns : List Int, ns.length ≤ 63 → ∃ S, m [.fls (ns.map D.int)] [] = .ok (.bl true) S
def spLaw (K : PySem.W.Frag) : Sp := fun vs H Q _ => ∃ (a : Addr) (ns : List Int), vs = [.ref a] ∧ SqL K H a (ns.map V.int) ∧ ns.length ≤ 63 ∧ ∀ H', Q (.bl true) H'
theorem law_sp {P : Program} {w : World} {K : PySem.W.Frag} {mg : Str → Option Value} {base : Heap} {CX : CXT} {k : Nat} {f : Addr} {fd : FuncData} {ps : List Str} {ca : Nat → Addr} {m : DC} (hm : LawTrue m) (F : FnOk P w K mg base CX k f fd ps (spD K ca 1 m)) :
    FnOk P w K mg base CX k f fd ps (spLaw K) := F.imp fun vs H Q E q => by
  obtain ⟨a, ns, rfl, hs, hl, k⟩ := q
  obtain ⟨S, e⟩ := hm ns hl
  refine ⟨⟨H, [], H⟩, [], [.fls (ns.map D.int)], rfl, ?_, .cons (.fls hs (RepAll.ofInts ns)) .nil, rfl, ?_⟩
  · exact ⟨Same.refl _, rfl, List.nodup_nil, (fun a h => nomatch h), (fun n o h => by simp at h)⟩
  · rw [e]
    intro v g' _ _ r
    cases r
    exact k _
theorem walkD {l : PySem.W.OpenLaw} {k : Nat} {q : Program} {loose : List Str} {XP : (Str → Option Value) → Heap → Prop} {YP : World → Heap → Prop} {d : DefRec} {K : Params → PySem.W.Frag} (hn : l.most = some 63) (hdf : d.params.defaults = []) (hr : Room k callerA)
    (hY : ∀ (w : World) (h : Heap), YP w h → (K w.params).In h)
    (F : ∀ (w : World) (mg : Str → Option Value) (fa : Addr) (h : Heap), (K w.params).In h → h.Ns mainGlobals mg → mg d.name = some (.ref fa) →
      ∃ fd : FuncData, (∀ (s : Shared) (u : Value), BindsTo s fd ⟨[u], []⟩ [("script", u)]) ∧ ∀ base : Heap, (K w.params).In base → base.Ns mainGlobals mg → FnOk l.prog w (K w.params) mg base (L2.CX l.prog w) k fa fd ["script"] (spLaw (K w.params))) :
    PySem.W.WalkO q loose XP YP l.row.toRowW d [] (fun f vs => PySem.call f vs) :=
  L2.walk_of (n := 63) (k := k) (x := "script") (CX := fun w => L2.CX l.prog w) (sp := fun w => spLaw (K w.params)) hn (by decide) hdf hr hY F (fun _ _ a ns hl _ hS => ⟨a, ns, rfl, hS, hl, fun _ => rfl⟩) fun _ _ _ _ _ z => by
    obtain ⟨_, _, _, _, _, _, _, _, _, _, _, _, z⟩ := z
    exact z
end DL
set_option Elab.async false
set_option linter.all false
set_option maxRecDepth 100000
set_option maxHeartbeats 4000000
namespace DL
open PySem PySem.Spec PyProof.Rows L2
def b_is_int : DS :=
  (sRet (eAnd (eUn (oIsi "int") (eVar 0)) (eAnd (eNot (eUn (oIsi "bool") (eVar 0))) (eChain oLe oLe (eVar 1) (eVar 0) (eVar 2)))))
def m_is_int : DC := runD 3 3 b_is_int
def b_law_start : DS :=
  (sRet (eObj (eLst (aCons (eObj (eIf (eBin oNe (eVar 0) (eLst aNil)) (eCall oList (aCons (eVar 0) aNil)) (eLst (aCons (eC (.int 0)) aNil)))) (aCons (eC (.int 0)) aNil)))))
def m_law_start : DC := runD 1 1 b_law_start
def b_law_draw : DS :=
  (sSeq (sAsg (eBin oIx (eVar 0) (eC (.int 0))) (tgName 2))
    (sSeq (sSetB (eVar 0) (eC (.int 1)) (eBin oAdd (eBin oIx (eVar 0) (eC (.int 1))) (eC (.int 1))))
    (sSeq (sAsg (eBin oMod (eBin oIx (eVar 0) (eC (.int 1))) (eCall oLen (aCons (eVar 2) aNil))) (tgName 3))
    (sSeq (sAsg (eBin oIx (eVar 2) (eVar 3)) (tgName 4))
    (sSeq (sIf (eBin oGe (eVar 4) (eC (.int 1000000000000000000))) (sSeq (sSetB (eVar 2) (eVar 3) (eBin oFdiv (eVar 4) (eVar 1)))
    (sRet (eBin oMod (eVar 4) (eVar 1)))) sSkip)
    (sSeq (sAsg (eBin oMod (eBin oAdd (eVar 4) (eBin oMul (eC (.int 104729)) (eBin oIx (eVar 0) (eC (.int 1))))) (eC (.int 4294967291))) (tgName 5))
    (sSeq (sAsg (eBin oMod (eBin oPow (eVar 5) (eC (.int 5))) (eC (.int 4294967279))) (tgName 5))
    (sRet (eBin oMod (eBin oFdiv (eBin oMod (eBin oAdd (eBin oMul (eBin oFdiv (eVar 5) (eC (.int 64))) (eC (.int 69621))) (eVar 5)) (eC (.int 4294967231))) (eC (.int 8))) (eVar 1))))))))))
def m_law_draw : DC := runD 6 2 b_law_draw
def b_law_pick : DS :=
  (sRet (eBin oIx (eVar 1) (eCall m_law_draw (aCons (eVar 0) (aCons (eCall oLen (aCons (eVar 1) aNil)) aNil)))))
def m_law_pick : DC := runD 2 2 b_law_pick
def b_law_span : DS :=
  (sSeq (sAsg (eLst aNil) (tgName 2))
    (sSeq (sWhile 40 (eBin oGt (eVar 1) (eC (.int 1))) (sSeq (sAsg (eBin oAdd (eLst (aCons (eBin oMod (eVar 1) (eC (.int 2))) aNil)) (eVar 2)) (tgName 2))
    (sAsg (eBin oFdiv (eVar 1) (eC (.int 2))) (tgName 1))))
    (sSeq (sPar 4 5 (aCons (eC (.int 0)) (aCons (eVar 0) aNil)))
    (sSeq (sFor (eSeq (eVar 2)) (tgName 3) (sSeq (sAsg (eBin oFdiv (eBin oAdd (eVar 4) (eVar 5)) (eC (.int 2))) (tgName 6))
    (sAsg (eIf (eBin oEq (eVar 3) (eC (.int 0))) (eTup (aCons (eVar 4) (aCons (eVar 6) aNil))) (eTup (aCons (eVar 6) (aCons (eVar 5) aNil)))) (tgTup (tgCons (tgName 4) (tgCons (tgName 5) tgNil))))))
    (sRet (eTup (aCons (eVar 4) (aCons (eVar 5) aNil))))))))
def m_law_span : DC := runD 7 2 b_law_span
def b_law_made : DS :=
  (sSeq (sOwn 1 (eLst (aCons (eCall oSum (aCons (eVar 0) aNil)) aNil)))
    (sSeq (sFor (eRng (aCons (eC (.int 1)) (aCons (eCall oLen (aCons (eVar 0) aNil)) aNil))) (tgName 2) (sSeq (sAsg (eCall m_law_span (aCons (eCall oLen (aCons (eVar 0) aNil)) (aCons (eVar 2) aNil))) (tgTup (tgCons (tgName 4) (tgCons (tgName 5) tgNil))))
    (sSeq (sAsg (eBin oFdiv (eBin oAdd (eVar 4) (eVar 5)) (eC (.int 2))) (tgName 3))
    (sApp 1 (eBin oSub (eCall oSum (aCons (eSl (eVar 0) (pSome (eVar 4)) (pSome (eVar 3))) aNil)) (eCall oSum (aCons (eSl (eVar 0) (pSome (eVar 3)) (pSome (eVar 5))) aNil)))))))
    (sRetO 1)))
def m_law_made : DC := runD 6 1 b_law_made
def b_check_length : DS :=
  (sIf (eOr (eNot (eUn (oIsi "int") (eVar 0))) (eOr (eUn (oIsi "bool") (eVar 0)) (eOr (eBin (oIn true) (eVar 0) (eC (.tup (List.map D.int [1, 2, 4, 8, 16])))) (eBin oGt (eVar 0) (eC (.int 8)))))) (sRaise 3) sSkip)
def m_check_length : DC := runD 1 1 b_check_length
def b_splits (r : DC) : DS :=
  (sSeq (sIf (eBin oEq (eVar 0) (eC (.int 1))) (sRet (eC (.int 1))) sSkip)
    (sSeq (sIf (eDNot (aCons (eVar 0) (aCons (eVar 1) aNil)) (eVar 3)) (sSeq (sAsg (eC (.int 0)) (tgName 4))
    (sSeq (sFor (eRng (aCons (eUn oNeg (eVar 2)) (aCons (eBin oAdd (eVar 2) (eC (.int 1))) aNil))) (tgName 5) (sIf (eBin oEq (eBin oMod (eBin oAdd (eVar 1) (eVar 5)) (eC (.int 2))) (eC (.int 0))) (sSeq (sPar 6 7 (aCons (eBin oFdiv (eBin oAdd (eVar 1) (eVar 5)) (eC (.int 2))) (aCons (eBin oFdiv (eBin oSub (eVar 1) (eVar 5)) (eC (.int 2))) aNil)))
    (sAug 4 oAddI (eBin oMul (eCall r (aCons (eBin oFdiv (eVar 0) (eC (.int 2))) (aCons (eVar 6) (aCons (eVar 2) (aCons (eVar 3) aNil))))) (eCall r (aCons (eBin oFdiv (eVar 0) (eC (.int 2))) (aCons (eVar 7) (aCons (eVar 2) (aCons (eVar 3) aNil)))))))) sSkip))
    (sDPutT (eVar 3) (aCons (eVar 0) (aCons (eVar 1) aNil)) (eVar 4)))) sSkip)
    (sRet (eDGet (eVar 3) (aCons (eVar 0) (aCons (eVar 1) aNil))))))
def m_splits_0 : DC := runD 8 4 sBad
def m_splits_1 : DC := runD 8 4 (b_splits m_splits_0)
def m_splits_2 : DC := runD 8 4 (b_splits m_splits_1)
def m_splits_3 : DC := runD 8 4 (b_splits m_splits_2)
def m_splits : DC := runD 8 4 (b_splits m_splits_3)
def b_count_lists : DS :=
  (sSeq (sExpr (eCall m_check_length (aCons (eVar 0) aNil)))
    (sSeq (sIf (eNot (eCall m_is_int (aCons (eVar 1) (aCons (eUn oNeg (eC (.int 1000))) (aCons (eC (.int 1000)) aNil))))) (sRaise 3) sSkip)
    (sSeq (sIf (eNot (eCall m_is_int (aCons (eVar 2) (aCons (eC (.int 0)) (aCons (eC (.int 20)) aNil))))) (sRaise 3) sSkip)
    (sRet (eCall m_splits (aCons (eVar 0) (aCons (eVar 1) (aCons (eVar 2) (aCons eDNew aNil)))))))))
def m_count_lists : DC := runD 3 3 b_count_lists
def b_made (r : DC) : DS :=
  (sSeq (sIf (eBin oEq (eVar 0) (eC (.int 1))) (sRet (eLst (aCons (eLst (aCons (eVar 1) aNil)) aNil))) sSkip)
    (sSeq (sOwn 3 (eLst aNil))
    (sSeq (sFor (eRng (aCons (eUn oNeg (eVar 2)) (aCons (eBin oAdd (eVar 2) (eC (.int 1))) aNil))) (tgName 4) (sIf (eBin oEq (eBin oMod (eBin oAdd (eVar 1) (eVar 4)) (eC (.int 2))) (eC (.int 0))) (sFor (eSeq (eCall r (aCons (eBin oFdiv (eVar 0) (eC (.int 2))) (aCons (eBin oFdiv (eBin oAdd (eVar 1) (eVar 4)) (eC (.int 2))) (aCons (eVar 2) aNil))))) (tgName 5) (sIaddO 3 (eLc (eSeq (eCall r (aCons (eBin oFdiv (eVar 0) (eC (.int 2))) (aCons (eBin oFdiv (eBin oSub (eVar 1) (eVar 4)) (eC (.int 2))) (aCons (eVar 2) aNil))))) (tgName 6) eYes (eBin oAdd (eVar 5) (eVar 6))))) sSkip))
    (sFrz 3 (sRet (eVar 3))))))
def m_made_0 : DC := runD 7 3 sBad
def m_made_1 : DC := runD 7 3 (b_made m_made_0)
def m_made_2 : DC := runD 7 3 (b_made m_made_1)
def m_made : DC := runD 7 3 (b_made m_made_2)
def b_all_lists : DS :=
  (sSeq (sExpr (eCall m_check_length (aCons (eVar 0) aNil)))
    (sSeq (sIf (eBin oGt (eVar 0) (eC (.int 4))) (sRaise 3) sSkip)
    (sSeq (sIf (eNot (eCall m_is_int (aCons (eVar 1) (aCons (eUn oNeg (eC (.int 1000))) (aCons (eC (.int 1000)) aNil))))) (sRaise 3) sSkip)
    (sSeq (sIf (eNot (eCall m_is_int (aCons (eVar 2) (aCons (eC (.int 0)) (aCons (eC (.int 3)) aNil))))) (sRaise 3) sSkip)
    (sRet (eCall oSortedD (aCons (eCall m_made (aCons (eVar 0) (aCons (eVar 1) (aCons (eVar 2) aNil)))) aNil)))))))
def m_all_lists : DC := runD 3 3 b_all_lists
end DL
set_option Elab.async false
set_option linter.all false
set_option maxRecDepth 100000
set_option maxHeartbeats 4000000
namespace DL.K10
open PySem PySem.Spec PyProof.Rows L2
def b_law_0 : DS :=
  (sAsg (eCall m_law_start (aCons (eVar 0) aNil)) (tgName 1))
def b_law_1 : DS :=
  (sAsg (eCall m_law_pick (aCons (eVar 1) (aCons (eLst (aCons (eC (.int 1)) (aCons (eC (.int 2)) (aCons (eC (.int 2)) (aCons (eC (.int 4)) aNil))))) aNil))) (tgName 2))
def b_law_2 : DS :=
  (sAsg (eTup (aCons (eBin oSub (eCall m_law_draw (aCons (eVar 1) (aCons (eC (.int 9)) aNil))) (eC (.int 4))) (aCons (eCall m_law_draw (aCons (eVar 1) (aCons (eC (.int 3)) aNil))) aNil))) (tgTup (tgCons (tgName 11) (tgCons (tgName 12) tgNil))))
def b_law_3 : DS :=
  (sAsg (eLst (aCons (eLst aNil) aNil)) (tgName 3))
def b_law_4 : DS :=
  (sFor (eRng (aCons (eVar 2) aNil)) (tgName 4) (sSeq (sAsg (eLst aNil) (tgName 13))
    (sSeq (sFor (eSeq (eVar 3)) (tgName 14) (sAsg (eBin oAdd (eVar 13) (eLc (eRng (aCons (eBin oSub (eC (.int 0)) (eC (.int 4))) (aCons (eC (.int 5)) aNil))) (tgName 19) eYes (eBin oAdd (eVar 14) (eLst (aCons (eVar 19) aNil))))) (tgName 13)))
    (sAsg (eIf (eBin oLt (eVar 4) (eBin oSub (eVar 2) (eC (.int 1)))) (eVar 13) (eLc (eSeq (eVar 3)) (tgName 14) eYes (eBin oAdd (eVar 14) (eLst (aCons (eBin oSub (eVar 11) (eCall oSum (aCons (eVar 14) aNil))) aNil))))) (tgName 3)))))
def b_law_5 : DS :=
  (sOwn 5 (eLst aNil))
def b_law_6 : DS :=
  (sFor (eSeq (eVar 3)) (tgName 6) (sSeq (sAsg (eCall m_law_made (aCons (eVar 6) aNil)) (tgName 15))
    (sIf (eBin oEq (eLc (eSeq (eSl (eVar 15) (pSome (eC (.int 1))) pNo)) (tgName 10) (eBin oGt (eCall oAbs (aCons (eVar 10) aNil)) (eVar 12)) (eVar 10)) (eLst aNil)) (sApp 5 (eVar 6)) sSkip)))
def b_law_7 : DS :=
  (sFrz 5 (sIf (eOr (eBin oNe (eCall m_all_lists (aCons (eVar 2) (aCons (eVar 11) (aCons (eVar 12) aNil)))) (eVar 5)) (eBin oNe (eCall m_count_lists (aCons (eVar 2) (aCons (eVar 11) (aCons (eVar 12) aNil)))) (eCall oLen (aCons (eVar 5) aNil)))) (sRet (eC (.bl false))) sSkip))
def b_law_8 : DS :=
  (sAsg (eCall m_law_pick (aCons (eVar 1) (aCons (eLst (aCons (eC (.int 2)) (aCons (eC (.int 4)) (aCons (eC (.int 8)) aNil)))) aNil))) (tgName 7))
def b_law_9 : DS :=
  (sPar 16 17 (aCons (eBin oSub (eCall m_law_draw (aCons (eVar 1) (aCons (eC (.int 200)) aNil))) (eC (.int 100))) (aCons (eCall m_law_draw (aCons (eVar 1) (aCons (eC (.int 8)) aNil))) aNil)))
def b_law_10 : DS :=
  (sAsg (eCall m_count_lists (aCons (eVar 7) (aCons (eVar 16) (aCons (eVar 17) aNil)))) (tgName 8))
def b_law_11 : DS :=
  (sIf (eOr (eBin oNe (eCall m_count_lists (aCons (eVar 7) (aCons (eBin oSub (eC (.int 0)) (eVar 16)) (aCons (eVar 17) aNil)))) (eVar 8)) (eBin oLt (eCall m_count_lists (aCons (eVar 7) (aCons (eVar 16) (aCons (eBin oAdd (eVar 17) (eC (.int 1))) aNil)))) (eVar 8))) (sRet (eC (.bl false))) sSkip)
def b_law_12 : DS :=
  (sIf (eOr (eBin oNe (eCall m_count_lists (aCons (eVar 7) (aCons (eBin oAdd (eVar 16) (eVar 7)) (aCons (eVar 17) aNil)))) (eVar 8)) (eBin oNe (eCall m_count_lists (aCons (eC (.int 1)) (aCons (eVar 16) (aCons (eVar 17) aNil)))) (eC (.int 1)))) (sRet (eC (.bl false))) sSkip)
def b_law_13 : DS :=
  (sAsg (eC (.int 0)) (tgName 9))
def b_law_14 : DS :=
  (sFor (eRng (aCons (eBin oSub (eC (.int 0)) (eVar 17)) (aCons (eBin oAdd (eVar 17) (eC (.int 1))) aNil))) (tgName 10) (sIf (eBin oEq (eBin oMod (eBin oAdd (eVar 16) (eVar 10)) (eC (.int 2))) (eC (.int 0))) (sSeq (sAsg (eTup (aCons (eBin oFdiv (eBin oAdd (eVar 16) (eVar 10)) (eC (.int 2))) (aCons (eBin oFdiv (eBin oSub (eVar 16) (eVar 10)) (eC (.int 2))) aNil))) (tgTup (tgCons (tgName 14) (tgCons (tgName 18) tgNil))))
    (sAsg (eBin oAdd (eVar 9) (eBin oMul (eCall m_count_lists (aCons (eBin oFdiv (eVar 7) (eC (.int 2))) (aCons (eVar 14) (aCons (eVar 17) aNil)))) (eCall m_count_lists (aCons (eBin oFdiv (eVar 7) (eC (.int 2))) (aCons (eVar 18) (aCons (eVar 17) aNil)))))) (tgName 9))) sSkip))
def b_law_15 : DS :=
  (sRet (eBin oEq (eVar 8) (eVar 9)))
def b_law : DS :=
  (sSeq b_law_0 (sSeq b_law_1 (sSeq b_law_2 (sSeq b_law_3 (sSeq b_law_4 (sSeq b_law_5 (sSeq b_law_6 (sSeq b_law_7 (sSeq b_law_8 (sSeq b_law_9 (sSeq b_law_10 (sSeq b_law_11 (sSeq b_law_12 (sSeq b_law_13 (sSeq b_law_14 b_law_15)))))))))))))))
def m_law : DC := runD 20 1 b_law
end DL.K10
set_option Elab.async false
set_option linter.all false
set_option maxRecDepth 100000
set_option maxHeartbeats 1000000
namespace DL
open PySem L2
section
variable {ρ ρ' : DEnv} {S S1 S2 S3 S4 : Store} {i j : Nat} {d x y z : D} {a b c f : DE} {r : DA} {ds xs ys : List D} {k : Bool} {R : Out} {RS : OutS}
theorem eVar_ok (h : ρ[i]? = some (.val d)) : eVar i ρ S = .ok d S := by unfold eVar; rw [h]
theorem eC_ok : eC d ρ S = .ok d S := rfl
theorem eYes_ok : eYes ρ S = .ok (.bl true) S := rfl
theorem eBin_ok {o : D2} (ha : a ρ S = .ok x S1) (hb : b ρ S1 = .ok y S2) (ho : o x y S2 = R) : eBin o a b ρ S = R := by
  unfold eBin
  rw [ha]
  simp only [Out.bind]
  rw [hb]
  exact ho
theorem eUn_ok {o : D1} (ha : a ρ S = .ok x S1) (ho : o x S1 = R) : eUn o a ρ S = R := by
  unfold eUn
  rw [ha]
  exact ho
theorem eNot_ok (ha : a ρ S = .ok (.bl k) S1) : eNot a ρ S = .ok (.bl (!k)) S1 := eUn_ok ha rfl
theorem eAnd_t (ha : a ρ S = .ok (.bl true) S1) (hb : b ρ S1 = R) : eAnd a b ρ S = R := by
  unfold eAnd
  rw [ha]
  exact hb
theorem eOr_f (ha : a ρ S = .ok (.bl false) S1) (hb : b ρ S1 = R) : eOr a b ρ S = R := by
  unfold eOr
  rw [ha]
  exact hb
theorem eIf_t (hc : c ρ S = .ok (.bl true) S1) (ha : a ρ S1 = R) : eIf c a b ρ S = R := by
  unfold eIf
  rw [hc]
  exact ha
theorem eIf_f (hc : c ρ S = .ok (.bl false) S1) (hb : b ρ S1 = R) : eIf c a b ρ S = R := by
  unfold eIf
  rw [hc]
  exact hb
theorem eChain_ok {o o' : D2} {p q : Bool} (ha : a ρ S = .ok x S) (hb : b ρ S = .ok y S) (ho : o x y S = .ok (.bl p) S) (hc : p = true → c ρ S = .ok z S) (ho' : p = true → o' y z S = .ok (.bl q) S) : eChain o o' a b c ρ S = .ok (.bl (p && q)) S := by
  unfold eChain
  rw [ha]
  simp only [Out.bind]
  rw [hb]
  simp only []
  rw [ho]
  cases p with
  | false => rfl
  | true =>
    simp only []
    rw [hc rfl]
    simp only []
    rw [ho' rfl]
    rfl
theorem aNil_ok : aNil ρ S = .ok [] S := rfl
theorem aCons_ok (ha : a ρ S = .ok x S1) (hr : r ρ S1 = .ok xs S2) : aCons a r ρ S = .ok (x :: xs) S2 := by
  unfold aCons
  rw [ha]
  simp only [Out.bindA]
  rw [hr]
  rfl
theorem eTup_ok (h : r ρ S = .ok ds S1) : eTup r ρ S = .ok (.tup ds) S1 := by
  unfold eTup
  rw [h]
  rfl
theorem eLst_ok (h : r ρ S = .ok ds S1) : eLst r ρ S = .ok (.lst ds) S1 := by
  unfold eLst
  rw [h]
  rfl
theorem eCall_ok {m : DC} (h : r ρ S = .ok ds S1) (hm : m ds S1 = R) : eCall m r ρ S = R := by
  unfold eCall
  rw [h]
  exact hm
theorem sRet_ok (h : f ρ S = .ok d S1) : sRet f ρ S = .ret d S1 := by
  unfold sRet
  rw [h]
  rfl
theorem sExpr_ok (h : f ρ S = .ok d S1) : sExpr f ρ S = .nx ρ S1 := by
  unfold sExpr
  rw [h]
  rfl
theorem sAsg_ok {t : DG} (h : f ρ S = .ok d S1) (ht : t d ρ = some ρ') : sAsg f t ρ S = .nx ρ' S1 := by
  unfold sAsg
  rw [h]
  simp only [Out.bindS]
  rw [ht]
theorem sIf_t {t u : DS} (hc : c ρ S = .ok (.bl true) S1) (ht : t ρ S1 = RS) : sIf c t u ρ S = RS := by
  unfold sIf
  rw [hc]
  exact ht
theorem sIf_f {t u : DS} (hc : c ρ S = .ok (.bl false) S1) (hu : u ρ S1 = RS) : sIf c t u ρ S = RS := by
  unfold sIf
  rw [hc]
  exact hu
theorem sPar_ok (h : r ρ S = .ok [x, y] S1) : sPar i j r ρ S = .nx ((ρ.set i (.val x)).set j (.val y)) S1 := by
  unfold sPar
  rw [h]
theorem sSkip_ok : sSkip ρ S = .nx ρ S := rfl
theorem sSeq_ok {f h : DS} (hf : f ρ S = .nx ρ' S1) (hh : h ρ' S1 = RS) : sSeq f h ρ S = RS := by
  unfold sSeq
  rw [hf]
  exact hh
theorem sSeq_ret {f h : DS} (hf : f ρ S = .ret d S1) : sSeq f h ρ S = .ret d S1 := by
  unfold sSeq
  rw [hf]
theorem sFor_ok {it : DE} {t : DG} {fb : DS} (h : it ρ S = .ok (.lst ds) S1) (hl : loopF (turnF t fb) ds ρ S1 = RS) : sFor it t fb ρ S = RS := by
  unfold sFor
  rw [h]
  exact hl
theorem turnF_ok {t : DG} {fb : DS} (ht : t d ρ = some ρ') (h : fb ρ' S = RS) : turnF t fb d ρ S = RS := by
  unfold turnF
  rw [ht]
  exact h
theorem loopF_nx {fb : D → DS} (h : fb d ρ S = .nx ρ' S1) (hr : loopF fb ds ρ' S1 = RS) : loopF fb (d :: ds) ρ S = RS := by
  unfold loopF
  rw [h]
  exact hr
theorem eSeq_l (h : f ρ S = .ok (.lst ds) S1) : eSeq f ρ S = .ok (.lst ds) S1 := eUn_ok h rfl
theorem eRng_ok (h : r ρ S = .ok ds S1) (hm : oRng ds S1 = R) : eRng r ρ S = R := by
  unfold eRng
  rw [h]
  exact hm
theorem pNo_ok : pNo ρ S = .ok none S := rfl
theorem pSome_ok {n : Int} (h : f ρ S = .ok (.int n) S1) : pSome f ρ S = .ok (some n) S1 := by
  unfold pSome
  rw [h]
theorem eSl_ok {l h : DO} {lo hi : Option Int} (hf : f ρ S = .ok d S1) (hl : l ρ S1 = .ok lo S2) (hh : h ρ S2 = .ok hi S3) (ho : oSl d lo hi S3 = R) : eSl f l h ρ S = R := by
  unfold eSl
  rw [hf]
  simp only [Out.bind]
  rw [hl]
  simp only [OutO.bind]
  rw [hh]
  exact ho
theorem sAug_ok {o : D2} (hi : ρ[i]? = some (.val x)) (h : f ρ S = .ok y S1) (ho : o x y S1 = .ok z S2) : sAug i o f ρ S = .nx (ρ.set i (.val z)) S2 := by
  unfold sAug
  rw [hi]
  simp only []
  rw [h]
  simp only [Out.bindS]
  rw [ho]
theorem sOwn_ok (h : f ρ S = .ok (.lst ds) S1) : sOwn i f ρ S = .nx (ρ.set i (.own ds)) S1 := by
  unfold sOwn
  rw [h]
  rfl
theorem sFrz_ok {fs : DS} (hi : ρ[i]? = some (.own ds)) (h : fs (ρ.set i (.val (.lst ds))) S = RS) : sFrz i fs ρ S = RS := by
  unfold sFrz
  rw [hi]
  exact h
theorem sApp_ok (hi : ρ[i]? = some (.own ds)) (h : f ρ S = .ok d S1) (hl : ds.length < 100000) : sApp i f ρ S = .nx (ρ.set i (.own (ds ++ [d]))) S1 := by
  unfold sApp
  rw [hi]
  simp only []
  rw [h]
  simp only [Out.bindS]
  rw [if_pos hl]
theorem runD_ret {N n : Nat} {fb : DS} (hl : ds.length = n) (h : fb (ds.map Slot.val ++ List.replicate (N - n) Slot.emp) S = .ret d S1) : runD N n fb ds S = .ok d S1 := by
  unfold runD
  rw [if_pos hl, h]
end
section
variable {i j : Int} {S : Store}
theorem oAdd_ii : oAdd (.int i) (.int j) S = .ok (.int (i + j)) S := rfl
theorem oSub_ii : oSub (.int i) (.int j) S = .ok (.int (i - j)) S := rfl
theorem oNeg_i : oNeg (.int i) S = .ok (.int (-i)) S := rfl
theorem oLt_ii : oLt (.int i) (.int j) S = .ok (.bl (decide (i < j))) S := rfl
theorem oLe_ii : oLe (.int i) (.int j) S = .ok (.bl (decide (i ≤ j))) S := rfl
theorem oGt_ii : oGt (.int i) (.int j) S = .ok (.bl (decide (j < i))) S := rfl
theorem oGe_ii : oGe (.int i) (.int j) S = .ok (.bl (decide (j ≤ i))) S := rfl
theorem oAddI_ii : oAddI (.int i) (.int j) S = .ok (.int (i + j)) S := rfl
theorem oFdiv_ii (h1 : 0 < j) (h2 : j < 1073741824) : oFdiv (.int i) (.int j) S = .ok (.int (i / j)) S := by
  unfold oFdiv
  simp only []
  rw [if_pos (by rw [decide_eq_true h1, decide_eq_true h2]; rfl)]
theorem oMod_ii (h1 : 0 < j) : oMod (.int i) (.int j) S = .ok (.int (i % j)) S := by
  unfold oMod
  simp only []
  rw [if_pos (decide_eq_true h1)]
theorem bigI {i : Int} (h : i.natAbs < 18446744073709551616) : big i = true := by
  unfold big
  rw [Bool.and_eq_true, decide_eq_true_iff, decide_eq_true_iff]
  omega
theorem oMul_l (h : big i = true) : oMul (.int i) (.int j) S = .ok (.int (i * j)) S := by
  unfold oMul
  simp only []
  rw [if_pos (by rw [h]; rfl)]
theorem oMul_r (h : big j = true) : oMul (.int i) (.int j) S = .ok (.int (i * j)) S := by
  unfold oMul
  simp only []
  rw [if_pos (by rw [h, Bool.or_true])]
theorem oAbs_i : oAbs [.int i] S = .ok (.int (if i < 0 then -i else i)) S := rfl
theorem oMax_ii : oMax [.int i, .int j] S = .ok (.int (if j > i then j else i)) S := rfl
theorem oLen_l {xs : List D} : oLen [.lst xs] S = .ok (.int xs.length) S := rfl
theorem oLen_t {xs : List D} : oLen [.tup xs] S = .ok (.int xs.length) S := rfl
theorem oList_l {xs : List D} : oList [.lst xs] S = .ok (.lst xs) S := rfl
theorem oTuple_l {xs : List D} : oTuple [.lst xs] S = .ok (.tup xs) S := rfl
theorem oIs_n {d : D} : oIs d .non S = .ok (.bl (isNon d)) S := by cases d <;> rfl
theorem oIsnt_n {d : D} : oIsnt d .non S = .ok (.bl (!isNon d)) S := by cases d <;> rfl
theorem oIs_b {a b : Bool} : oIs (.bl a) (.bl b) S = .ok (.bl (decide (a = b))) S := rfl
theorem oIsnt_b {a b : Bool} : oIsnt (.bl a) (.bl b) S = .ok (.bl (!decide (a = b))) S := rfl
end
end DL
set_option Elab.async false
set_option linter.all false
set_option maxRecDepth 100000
set_option maxHeartbeats 1000000
namespace DL
open PySem L2
theorem kt1 : kitB "int" "int" = some true := by decide +kernel
theorem kb1 : kitB "int" "bool" = some false := by decide +kernel
theorem isi_ii (i : Int) (S : Store) : oIsi "int" (.int i) S = .ok (.bl true) S := by simp [oIsi, tyD, kt1]
theorem isi_bi (i : Int) (S : Store) : oIsi "bool" (.int i) S = .ok (.bl false) S := by simp [oIsi, tyD, kb1]
abbrev L (ns : List Int) : D := .lst (ns.map D.int)
theorem is_int_b (i lo hi : Int) (S : Store) : b_is_int [.val (.int i), .val (.int lo), .val (.int hi)] S = .ret (.bl (decide (lo ≤ i) && decide (i ≤ hi))) S := by
  unfold b_is_int
  refine sRet_ok (eAnd_t (eUn_ok (eVar_ok rfl) (isi_ii _ _)) (eAnd_t (eNot_ok (k := false) (eUn_ok (eVar_ok rfl) (isi_bi _ _))) ?_))
  exact eChain_ok (eVar_ok rfl) (eVar_ok rfl) oLe_ii (fun _ => eVar_ok rfl) (fun _ => oLe_ii)
theorem is_int_int (i lo hi : Int) (S : Store) : m_is_int [.int i, .int lo, .int hi] S = .ok (.bl (decide (lo ≤ i) && decide (i ≤ hi))) S := runD_ret rfl (is_int_b i lo hi S)
theorem loopC_pure {c e : D → Store → Out} {S : Store} (p : D → Bool) (f : D → D) : ∀ (ds : List D), (∀ d ∈ ds, c d S = .ok (.bl (p d)) S) → (∀ d ∈ ds, p d = true → e d S = .ok (f d) S) → loopC c e ds S = .ok ((ds.filter p).map f) S
  | [], _, _ => rfl
  | d :: ds, hc, he => by
    have ih := loopC_pure p f ds (fun x hx => hc x (List.mem_cons_of_mem _ hx)) (fun x hx => he x (List.mem_cons_of_mem _ hx))
    have h1 := hc d List.mem_cons_self
    unfold loopC
    rw [h1]
    cases hp : p d with
    | true =>
      simp only []
      rw [he d List.mem_cons_self hp]
      simp only []
      rw [ih]
      simp [List.filter_cons, hp]
    | false =>
      simp only []
      rw [ih]
      simp [List.filter_cons, hp]
theorem eLc_pure {it c e : DE} {t : DG} {ρ : DEnv} {S : Store} {ds : List D} (p : D → Bool) (f : D → D) (hi : it ρ S = .ok (.lst ds) S) (hl : ds.length ≤ 100000) (hc : ∀ d ∈ ds, turnC t c ρ d S = .ok (.bl (p d)) S) (he : ∀ d ∈ ds, p d = true → turnC t e ρ d S = .ok (f d) S) :
    eLc it t c e ρ S = .ok (.lst ((ds.filter p).map f)) S := by
  unfold eLc
  rw [hi]
  simp only [Out.bind]
  rw [if_pos hl, loopC_pure p f ds hc he]
  rfl
theorem turnC_yes {t : DG} {ρ ρ' : DEnv} {d : D} {S : Store} (h : t d ρ = some ρ') : turnC t eYes ρ d S = .ok (.bl true) S := by
  unfold turnC
  rw [h]
  rfl
theorem eLc_map {it e : DE} {t : DG} {ρ : DEnv} {S : Store} {ds : List D} (f : D → D) (hi : it ρ S = .ok (.lst ds) S) (hl : ds.length ≤ 100000) (ht : ∀ d ∈ ds, ∃ ρ', t d ρ = some ρ') (he : ∀ d ∈ ds, turnC t e ρ d S = .ok (f d) S) :
    eLc it t eYes e ρ S = .ok (.lst (ds.map f)) S := by
  have h := eLc_pure (it := it) (t := t) (c := eYes) (e := e) (ρ := ρ) (S := S) (fun _ => true) f hi hl (fun d hd => by
    obtain ⟨ρ', h⟩ := ht d hd
    exact turnC_yes h) (fun d hd _ => he d hd)
  rw [h, List.filter_eq_self.mpr (fun _ _ => rfl)]
/-- over ints, by a name, to anything -/
theorem eLc_ints {it e : DE} {j : Nat} {ρ : DEnv} {S : Store} {ns : List Int} (f : Int → D) (hi : it ρ S = .ok (L ns) S) (hl : ns.length ≤ 100000) (he : ∀ n ∈ ns, e (ρ.set j (.val (.int n))) S = .ok (f n) S) :
    eLc it (tgName j) eYes e ρ S = .ok (.lst (ns.map f)) S := by
  have h := eLc_map (it := it) (t := tgName j) (e := e) (ρ := ρ) (S := S) (ds := ns.map D.int) (fun d => match d with | .int n => f n | _ => .non) hi (by simpa using hl) (fun d hd => ⟨_, rfl⟩) (fun d hd => by
    obtain ⟨n, hn, rfl⟩ := List.mem_map.mp hd
    exact he n hn)
  rw [h, List.map_map]
  rfl
theorem eLc_intsF {it c e : DE} {j : Nat} {ρ : DEnv} {S : Store} {ns : List Int} (p : Int → Bool) (f : Int → D) (hi : it ρ S = .ok (L ns) S) (hl : ns.length ≤ 100000) (hc : ∀ n ∈ ns, c (ρ.set j (.val (.int n))) S = .ok (.bl (p n)) S) (he : ∀ n ∈ ns, p n = true → e (ρ.set j (.val (.int n))) S = .ok (f n) S) :
    eLc it (tgName j) c e ρ S = .ok (.lst ((ns.filter p).map f)) S := by
  have h := eLc_pure (it := it) (t := tgName j) (c := c) (e := e) (ρ := ρ) (S := S) (ds := ns.map D.int) (fun d => match d with | .int n => p n | _ => false) (fun d => match d with | .int n => f n | _ => .non) hi (by simpa using hl) (fun d hd => by
    obtain ⟨n, hn, rfl⟩ := List.mem_map.mp hd
    exact hc n hn) (fun d hd hp => by
    obtain ⟨n, hn, rfl⟩ := List.mem_map.mp hd
    exact he n hn hp)
  rw [h, List.filter_map, List.map_map]
  rfl
/-- the ints of a range -/
def rg (lo : Int) (n : Nat) : List Int := (List.range n).map fun (i : Nat) => lo + (i : Int)
theorem rangeD_rg (lo : Int) (n : Nat) : rangeD lo 1 n = (rg lo n).map D.int := by
  unfold rangeD rg
  rw [List.map_map]
  apply List.map_congr_left
  intro i hi
  simp
theorem rg_len (lo : Int) (n : Nat) : (rg lo n).length = n := by simp [rg]
theorem rg1 {j : Int} (h : small j = true) (S : Store) : oRng [.int j] S = .ok (L (rg 0 j.toNat)) S := by
  simp [oRng, h, rangeD_rg]
theorem rg2 {i j : Int} (hi : small i = true) (h : small j = true) (S : Store) : oRng [.int i, .int j] S = .ok (L (rg i (j - i).toNat)) S := by
  simp [oRng, hi, h, rangeD_rg]
theorem smallI {i : Int} (h1 : -100000000 < i) (h2 : i < 100000000) : small i = true := by
  simp [small, h1, h2]
theorem eqAll_map {α : Type} [DecidableEq α] (f : α → D) (h : ∀ x y, eqD (f x) (f y) = decide (x = y)) : ∀ (xs ys : List α), eqAll (xs.map f) (ys.map f) = decide (xs = ys)
  | [], [] => by simp [eqAll]
  | [], y :: ys => by simp [eqAll]
  | x :: xs, [] => by simp [eqAll]
  | x :: xs, y :: ys => by
    rw [List.map_cons, List.map_cons, eqAll, h, eqAll_map f h xs ys]
    by_cases h1 : x = y <;> by_cases h2 : xs = ys <;> simp [h1, h2]
theorem eqD_int (x y : Int) : eqD (.int x) (.int y) = decide (x = y) := by
  simp [eqD]
  by_cases h : x = y <;> simp [h]
theorem eqD_L (a b : List Int) : eqD (L a) (L b) = decide (a = b) := by
  show eqD (.lst _) (.lst _) = _
  rw [eqD]
  exact eqAll_map _ eqD_int a b
theorem okD_all {α : Type} {n : Nat} (f : α → D) (h : ∀ x, okD n (f x) = true) (xs : List α) : (xs.map f).all (okD n) = true := by
  rw [List.all_map, List.all_eq_true]
  intro x _
  exact h x
theorem okD_int (n : Nat) (i : Int) : okD n (.int i) = true := by cases n <;> rfl
theorem okD_L (n : Nat) (a : List Int) : okD (n + 1) (L a) = true := by
  show (a.map D.int).all (okD n) = true
  exact okD_all _ (okD_int n) a
theorem oEq_of {d e : D} {S : Store} (h1 : okD 6 d = true) (h2 : okD 6 e = true) : oEq d e S = .ok (.bl (eqD d e)) S := by simp [oEq, h1, h2]
theorem oNe_of {d e : D} {S : Store} (h1 : okD 6 d = true) (h2 : okD 6 e = true) : oNe d e S = .ok (.bl (!eqD d e)) S := by simp [oNe, h1, h2]
theorem oEq_int (i j : Int) (S : Store) : oEq (.int i) (.int j) S = .ok (.bl (decide (i = j))) S := by rw [oEq_of rfl rfl, eqD_int]
theorem oNe_int (i j : Int) (S : Store) : oNe (.int i) (.int j) S = .ok (.bl (!decide (i = j))) S := by rw [oNe_of rfl rfl, eqD_int]
theorem oEq_L (a b : List Int) (S : Store) : oEq (L a) (L b) S = .ok (.bl (decide (a = b))) S := by rw [oEq_of (okD_L 5 a) (okD_L 5 b), eqD_L]
theorem oNe_L (a b : List Int) (S : Store) : oNe (L a) (L b) S = .ok (.bl (!decide (a = b))) S := by rw [oNe_of (okD_L 5 a) (okD_L 5 b), eqD_L]
abbrev fr (q : Rat) : D := .tup [.int q.num, .int (q.den : Int)]
end DL
set_option Elab.async false
set_option linter.all false
set_option maxRecDepth 100000
set_option maxHeartbeats 1000000
namespace DL
open PySem L2
theorem abs_nat (a : Int) : (if a < 0 then -a else a) = ((a.natAbs : Nat) : Int) := by split <;> omega
theorem oAbs_n (a : Int) (S : Store) : oAbs [.int a] S = .ok (.int ((a.natAbs : Nat) : Int)) S := by rw [oAbs_i, abs_nat]
/-- q is n / 2 ^ k with |n| ≤ B -/
def Dy (k : Nat) (B : Nat) (q : Rat) : Prop := ∃ n : Int, n.natAbs ≤ B ∧ q = (n : Rat) / ((2 ^ k : Nat) : Rat)
theorem pow_ne (k : Nat) : ((2 ^ k : Nat) : Rat) ≠ 0 := by
  have h : (2 ^ k : Nat) ≠ 0 := Nat.pos_iff_ne_zero.mp (Nat.two_pow_pos k)
  intro z
  exact h (by exact_mod_cast z)
theorem Dy.mono {k B C : Nat} {p : Rat} (h : Dy k B p) (hl : B ≤ C) : Dy k C p := by
  obtain ⟨n, hn, rfl⟩ := h
  exact ⟨n, by omega, rfl⟩
theorem Dy.int (k : Nat) (i : Int) : Dy k (i.natAbs * 2 ^ k) (i : Rat) := by
  refine ⟨i * (2 ^ k : Nat), ?_, ?_⟩
  · rw [Int.natAbs_mul]
    exact Nat.le_refl _
  · have h1 := pow_ne k
    have e : ((i * ((2 ^ k : Nat) : Int) : Int) : Rat) = (i : Rat) * ((2 ^ k : Nat) : Rat) := by simp
    rw [e]
    grind
end DL
set_option Elab.async false
set_option linter.all false
set_option maxRecDepth 100000
set_option maxHeartbeats 1000000
namespace DL
open PySem L2
section
variable {ρ : DEnv} {S S1 S2 S3 : Store}
theorem sSetB_ok {fo fi f : DE} {d : D} {n j : Nat} {m : Int} {xs : List D} (h : f ρ S = .ok d S1) (ho : fo ρ S1 = .ok (.obj n) S2) (hi : fi ρ S2 = .ok (.int m) S3) (hS : S3[n]? = some (.lst xs)) (hj : ixN xs.length m = some j) :
    sSetB fo fi f ρ S = .nx ρ (S3.set n (.lst (xs.set j d))) := by
  unfold sSetB
  rw [h]
  simp only [Out.bindS]
  rw [ho]
  simp only []
  rw [hi]
  simp only []
  rw [hS]
  simp only []
  rw [hj]
theorem eObj_ok {f : DE} {ds : List D} (h : f ρ S = .ok (.lst ds) S1) : eObj f ρ S = .ok (.obj S1.length) (S1 ++ [.lst ds]) := by
  unfold eObj
  rw [h]
end
def Dr (nums : List Int) (c : Int) (R : Store) : Store := .lst (nums.map D.int) :: .lst [.obj 0, .int c] :: R
def IsDr (R S : Store) : Prop := ∃ nums c, nums ≠ [] ∧ S = Dr nums c R
theorem start_b (ns : List Int) : ∃ nums, nums ≠ [] ∧ b_law_start [.val (.fls (ns.map D.int))] [] = .ret (.obj 1) (Dr nums 0 []) := by
  have key : ∀ nums : List Int, (eIf (eBin oNe (eVar 0) (eLst aNil)) (eCall oList (aCons (eVar 0) aNil)) (eLst (aCons (eC (.int 0)) aNil))) [.val (.fls (ns.map D.int))] [] = .ok (.lst (nums.map D.int)) [] →
      b_law_start [.val (.fls (ns.map D.int))] [] = .ret (.obj 1) (Dr nums 0 []) := fun nums h =>
    sRet_ok (eObj_ok (eLst_ok (aCons_ok (eObj_ok h) (aCons_ok eC_ok aNil_ok))))
  have hne : oNe (.fls (ns.map D.int)) (.lst []) [] = .ok (.bl (!decide (ns = []))) [] := by
    have h1 : okD 6 (.fls (ns.map D.int)) = true := okD_all _ (okD_int 5) ns
    rw [oNe_of h1 rfl]
    cases ns with
    | nil => rfl
    | cons n ns => rfl
  by_cases hn : ns = []
  · refine ⟨[0], by simp, key [0] (eIf_f (S1 := []) (eBin_ok (eVar_ok rfl) (eLst_ok aNil_ok) ?_) (eLst_ok (aCons_ok eC_ok aNil_ok)))⟩
    rw [hne, decide_eq_true hn]
    rfl
  · refine ⟨ns, hn, key ns (eIf_t (S1 := []) (eBin_ok (eVar_ok rfl) (eLst_ok aNil_ok) ?_) (eCall_ok (aCons_ok (eVar_ok rfl) aNil_ok) rfl))⟩
    rw [hne, decide_eq_false hn]
    rfl
theorem start_is (ns : List Int) : ∃ S, m_law_start [.fls (ns.map D.int)] [] = .ok (.obj 1) S ∧ IsDr [] S := by
  obtain ⟨nums, h1, h2⟩ := start_b ns
  exact ⟨_, runD_ret rfl h2, nums, 0, h1, rfl⟩
theorem ixN_of {n : Nat} {i : Int} (h0 : 0 ≤ i) (h1 : i < n) : ixN n i = some i.toNat := by
  unfold ixN
  rw [if_pos h0, if_pos h1]
theorem atI_of {α : Type} {xs : List α} {i : Int} {y : α} (h0 : 0 ≤ i) (h1 : xs[i.toNat]? = some y) : atI xs i = some y := by
  unfold atI
  rw [ixN_of h0 (by have := (List.getElem?_eq_some_iff.mp h1).1; omega)]
  exact h1
theorem oIx_L {ns : List Int} {i : Int} {y : Int} {S : Store} (h0 : 0 ≤ i) (h1 : ns[i.toNat]? = some y) : oIx (L ns) (.int i) S = .ok (.int y) S := by
  have h : atI (ns.map D.int) i = some (.int y) := atI_of h0 (by rw [List.getElem?_map, h1]; rfl)
  show (match viewL S (L ns) with
      | some xs => match atI xs i with
        | some y => Out.ok y S
        | none => .bad
      | none => .bad) = _
  show (match atI (ns.map D.int) i with
        | some y => Out.ok y S
        | none => .bad) = _
  rw [h]
theorem dr_ix0 (nums : List Int) (c : Int) (R : Store) : oIx (.obj 1) (.int 0) (Dr nums c R) = .ok (.obj 0) (Dr nums c R) := rfl
theorem dr_ix1 (nums : List Int) (c : Int) (R : Store) : oIx (.obj 1) (.int 1) (Dr nums c R) = .ok (.int c) (Dr nums c R) := rfl
theorem dr_len (nums : List Int) (c : Int) (R : Store) : oLen [.obj 0] (Dr nums c R) = .ok (.int (nums.length : Int)) (Dr nums c R) := by
  show Out.ok (.int ((nums.map D.int).length : Int)) _ = _
  rw [List.length_map]
theorem dr_at (nums : List Int) (c : Int) (R : Store) {i y : Int} (h0 : 0 ≤ i) (h1 : nums[i.toNat]? = some y) : oIx (.obj 0) (.int i) (Dr nums c R) = .ok (.int y) (Dr nums c R) := by
  have h : atI (nums.map D.int) i = some (.int y) := atI_of h0 (by rw [List.getElem?_map, h1]; rfl)
  show (match atI (nums.map D.int) i with
        | some y => Out.ok y (Dr nums c R)
        | none => .bad) = _
  rw [h]
theorem mod_bounds (x : Int) {m : Int} (h : 0 < m) : 0 ≤ x % m ∧ x % m < m := ⟨Int.emod_nonneg x (by omega), Int.emod_lt_of_pos x h⟩
theorem oPow_ii {i j : Int} {S : Store} (h1 : 0 ≤ j) (h2 : j ≤ 1000) (h : big i = true) : oPow (.int i) (.int j) S = .ok (.int (i ^ j.toNat)) S := by
  unfold oPow
  simp only []
  rw [if_pos (by rw [decide_eq_true h1, decide_eq_true h2, h]; rfl)]
theorem draw_b {nums : List Int} (hn : nums ≠ []) (c : Int) (R : Store) {lim : Int} (hl : 0 < lim) (hl2 : lim < 1073741824) :
    ∃ v nums', nums' ≠ [] ∧ 0 ≤ v ∧ v < lim ∧ b_law_draw [.val (.obj 1), .val (.int lim), .emp, .emp, .emp, .emp] (Dr nums c R) = .ret (.int v) (Dr nums' (c + 1) R) := by
  have hlen : (0 : Int) < (nums.length : Int) := by
    have := List.length_pos_iff.mpr hn
    omega
  obtain ⟨a0, a1⟩ := mod_bounds (c + 1) hlen
  have hat : ((c + 1) % (nums.length : Int)).toNat < nums.length := by omega
  have hcell : nums[((c + 1) % (nums.length : Int)).toNat]? = some nums[((c + 1) % (nums.length : Int)).toNat] := by simp [hat]
  generalize hC : nums[((c + 1) % (nums.length : Int)).toNat] = cell at hcell
  generalize hA : (c + 1) % (nums.length : Int) = at' at *
  -- the first four rows
  have pre : ∀ {rest : DS} {RS : OutS}, rest [.val (.obj 1), .val (.int lim), .val (.obj 0), .val (.int at'), .val (.int cell), .emp] (Dr nums (c + 1) R) = RS →
      (sSeq (sAsg (eBin oIx (eVar 0) (eC (.int 0))) (tgName 2)) (sSeq (sSetB (eVar 0) (eC (.int 1)) (eBin oAdd (eBin oIx (eVar 0) (eC (.int 1))) (eC (.int 1))))
        (sSeq (sAsg (eBin oMod (eBin oIx (eVar 0) (eC (.int 1))) (eCall oLen (aCons (eVar 2) aNil))) (tgName 3)) (sSeq (sAsg (eBin oIx (eVar 2) (eVar 3)) (tgName 4)) rest)))) [.val (.obj 1), .val (.int lim), .emp, .emp, .emp, .emp] (Dr nums c R) = RS := by
    intro rest RS h
    refine sSeq_ok (sAsg_ok (eBin_ok (eVar_ok rfl) eC_ok (dr_ix0 nums c R)) rfl) ?_
    refine sSeq_ok (sSetB_ok (j := 1) (eBin_ok (eBin_ok (eVar_ok rfl) eC_ok (dr_ix1 nums c R)) eC_ok oAdd_ii) (eVar_ok rfl) eC_ok rfl rfl) ?_
    refine sSeq_ok (S1 := Dr nums (c + 1) R) (sAsg_ok (eBin_ok (eBin_ok (eVar_ok rfl) eC_ok (dr_ix1 nums (c + 1) R)) (eCall_ok (aCons_ok (eVar_ok rfl) aNil_ok) (dr_len nums (c + 1) R)) (oMod_ii hlen)) rfl) ?_
    rw [hA]
    exact sSeq_ok (sAsg_ok (eBin_ok (eVar_ok rfl) (eVar_ok rfl) (dr_at nums (c + 1) R a0 hcell)) rfl) h
  unfold b_law_draw
  by_cases hbig : (1000000000000000000 : Int) ≤ cell
  · obtain ⟨v0, v1⟩ := mod_bounds cell hl
    refine ⟨cell % lim, nums.set at'.toNat (cell / lim), by simpa using hn, v0, v1, pre (sSeq_ret (sIf_t (S1 := Dr nums (c + 1) R) (eBin_ok (eVar_ok rfl) eC_ok (by rw [oGe_ii, decide_eq_true hbig])) ?_))⟩
    have hj : ixN (nums.map D.int).length at' = some at'.toNat := ixN_of a0 (by rw [List.length_map]; exact a1)
    refine sSeq_ok (sSetB_ok (n := 0) (eBin_ok (eVar_ok rfl) (eVar_ok rfl) (oFdiv_ii hl hl2)) (eVar_ok rfl) (eVar_ok rfl) rfl hj) ?_
    have e : (Dr nums (c + 1) R).set 0 (.lst ((nums.map D.int).set at'.toNat (.int (cell / lim)))) = Dr (nums.set at'.toNat (cell / lim)) (c + 1) R := by
      unfold Dr
      rw [List.set_cons_zero, List.map_set]
    rw [e]
    exact sRet_ok (eBin_ok (eVar_ok rfl) (eVar_ok rfl) (oMod_ii hl))
  · have m1 := mod_bounds (cell + 104729 * (c + 1)) (m := 4294967291) (by decide)
    have m2 := mod_bounds ((((cell + 104729 * (c + 1)) % 4294967291)) ^ 5) (m := 4294967279) (by decide)
    generalize hx : (cell + 104729 * (c + 1)) % 4294967291 = x at *
    generalize hy : x ^ 5 % 4294967279 = y at *
    obtain ⟨v0, v1⟩ := mod_bounds ((y / 64 * 69621 + y) % 4294967231 / 8) hl
    refine ⟨_, nums, hn, v0, v1, pre (sSeq_ok (sIf_f (S1 := Dr nums (c + 1) R) (eBin_ok (eVar_ok rfl) eC_ok (by rw [oGe_ii, decide_eq_false hbig])) sSkip_ok) ?_)⟩
    refine sSeq_ok (S1 := Dr nums (c + 1) R) (sAsg_ok (eBin_ok (eBin_ok (eVar_ok rfl) (eBin_ok eC_ok (eBin_ok (eVar_ok rfl) eC_ok (dr_ix1 nums (c + 1) R)) (oMul_l (bigI (by decide)))) oAdd_ii) eC_ok (oMod_ii (by decide))) rfl) ?_
    rw [hx]
    refine sSeq_ok (S1 := Dr nums (c + 1) R) (sAsg_ok (eBin_ok (eBin_ok (eVar_ok rfl) eC_ok (oPow_ii (by decide) (by decide) (bigI (by omega)))) eC_ok (oMod_ii (by decide))) rfl) ?_
    show sRet _ [.val (.obj 1), .val (.int lim), .val (.obj 0), .val (.int at'), .val (.int cell), .val (.int (x ^ 5 % 4294967279))] _ = _
    rw [hy]
    exact sRet_ok (eBin_ok (eBin_ok (eBin_ok (eBin_ok (eBin_ok (eBin_ok (eVar_ok rfl) eC_ok (oFdiv_ii (by decide) (by decide))) eC_ok (oMul_r (bigI (by decide)))) (eVar_ok rfl) oAdd_ii) eC_ok (oMod_ii (by decide))) eC_ok (oFdiv_ii (by decide) (by decide))) (eVar_ok rfl) (oMod_ii hl))
theorem draw_is {R S : Store} (h : IsDr R S) {lim : Int} (hl : 0 < lim) (hl2 : lim < 1073741824) : ∃ v S', m_law_draw [.obj 1, .int lim] S = .ok (.int v) S' ∧ 0 ≤ v ∧ v < lim ∧ IsDr R S' := by
  obtain ⟨nums, c, hn, rfl⟩ := h
  obtain ⟨v, nums', h1, h2, h3, h4⟩ := draw_b hn c R hl hl2
  exact ⟨v, _, runD_ret rfl h4, h2, h3, nums', c + 1, h1, rfl⟩
theorem pick_is {R S : Store} (h : IsDr R S) {ns : List Int} (hn : ns ≠ []) (hl : ns.length < 1000000) : ∃ v S', m_law_pick [.obj 1, L ns] S = .ok (.int v) S' ∧ v ∈ ns ∧ IsDr R S' := by
  have hp := List.length_pos_iff.mpr hn
  obtain ⟨i, S', h1, h2, h3, h4⟩ := draw_is h (lim := (ns.length : Int)) (by omega) (by omega)
  have hi : i.toNat < ns.length := by omega
  have hx : ns[i.toNat]? = some ns[i.toNat] := by simp [hi]
  refine ⟨ns[i.toNat], S', runD_ret rfl ?_, List.getElem_mem hi, h4⟩
  show b_law_pick [.val (.obj 1), .val (L ns)] S = _
  unfold b_law_pick
  refine sRet_ok (eBin_ok (eVar_ok rfl) (eCall_ok (aCons_ok (eVar_ok rfl) (aCons_ok (eCall_ok (aCons_ok (eVar_ok rfl) aNil_ok) oLen_l) aNil_ok)) ?_) (oIx_L h2 hx))
  rw [List.length_map]
  exact h1
/-- a row, a form: 1, 2, 4, 8 or 16 ints -/
def Len16 (n : Nat) : Prop := n = 1 ∨ n = 2 ∨ n = 4 ∨ n = 8 ∨ n = 16
end DL
set_option Elab.async false
set_option linter.all false
set_option maxRecDepth 100000
set_option maxHeartbeats 1000000
namespace DL
open PySem L2
/-- the size and the first place of block n in a row of length l -/
def bsz (l n : Nat) : Nat := l / 2 ^ Nat.log2 n
def fst (l n : Nat) : Nat := (n - 2 ^ Nat.log2 n) * bsz l n
theorem blk_facts : ∀ l ∈ [1, 2, 4, 8, 16], ∀ n : Nat, n < l → 1 ≤ n → fst l (2 * n) = fst l n ∧ bsz l (2 * n) = bsz l n / 2 ∧ fst l (2 * n + 1) = fst l n + bsz l n / 2 ∧ bsz l (2 * n + 1) = bsz l n / 2 ∧ bsz l n = 2 * (bsz l n / 2) ∧ 0 < bsz l n / 2 ∧ fst l n + bsz l n ≤ l := by decide +kernel
theorem mem16 {l : Nat} (h : Len16 l) : l ∈ [1, 2, 4, 8, 16] := by
  simp only [List.mem_cons, List.mem_nil_iff, or_false]
  exact h
theorem span_all : ∀ l ∈ [1, 2, 4, 8, 16], ∀ n : Nat, n < 2 * l → 1 ≤ n → ∀ S : Store, m_law_span [.int (l : Int), .int (n : Int)] S = .ok (.tup [.int (fst l n : Int), .int ((fst l n + bsz l n : Nat) : Int)]) S := by
  intro l hl n hn h1 S
  simp only [List.mem_cons, List.mem_nil_iff, or_false] at hl
  have cases : (l = 1 ∧ n = 1) ∨ (l = 2 ∧ (n = 1 ∨ n = 2 ∨ n = 3)) ∨ (l = 4 ∧ (n = 1 ∨ n = 2 ∨ n = 3 ∨ n = 4 ∨ n = 5 ∨ n = 6 ∨ n = 7))
      ∨ (l = 8 ∧ (n = 1 ∨ n = 2 ∨ n = 3 ∨ n = 4 ∨ n = 5 ∨ n = 6 ∨ n = 7 ∨ n = 8 ∨ n = 9 ∨ n = 10 ∨ n = 11 ∨ n = 12 ∨ n = 13 ∨ n = 14 ∨ n = 15))
      ∨ (l = 16 ∧ (n = 1 ∨ n = 2 ∨ n = 3 ∨ n = 4 ∨ n = 5 ∨ n = 6 ∨ n = 7 ∨ n = 8 ∨ n = 9 ∨ n = 10 ∨ n = 11 ∨ n = 12 ∨ n = 13 ∨ n = 14 ∨ n = 15 ∨ n = 16 ∨ n = 17 ∨ n = 18 ∨ n = 19 ∨ n = 20 ∨ n = 21 ∨ n = 22 ∨ n = 23 ∨ n = 24 ∨ n = 25 ∨ n = 26 ∨ n = 27 ∨ n = 28 ∨ n = 29 ∨ n = 30 ∨ n = 31)) := by omega
  clear hl hn h1
  rcases cases with ⟨rfl, h⟩ | ⟨rfl, h⟩ | ⟨rfl, h⟩ | ⟨rfl, h⟩ | ⟨rfl, h⟩
  · subst h; kernel_rfl
  · rcases h with h | h | h <;> (subst h; kernel_rfl)
  · rcases h with h | h | h | h | h | h | h <;> (subst h; kernel_rfl)
  · rcases h with h | h | h | h | h | h | h | h | h | h | h | h | h | h | h <;> (subst h; kernel_rfl)
  · rcases h with h | h | h | h | h | h | h | h | h | h | h | h | h | h | h | h | h | h | h | h | h | h | h | h | h | h | h | h | h | h | h <;> (subst h; kernel_rfl)
/-- 1 in the first half, -1 in the second half, 0 elsewhere -/
def sgn (l n p : Nat) : Int := if fst l n ≤ p ∧ p < fst l n + bsz l n then (if p < fst l n + bsz l n / 2 then 1 else -1) else 0
def seg (row : List Int) (a b : Nat) : Int := ((row.drop a).take (b - a)).sum
def det (row : List Int) (n : Nat) : Int := seg row (fst row.length n) (fst row.length n + bsz row.length n / 2) - seg row (fst row.length n + bsz row.length n / 2) (fst row.length n + bsz row.length n)
/-- the form of a row -/
def made (row : List Int) : List Int := row.sum :: (List.range (row.length - 1)).map fun i => det row (i + 1)
theorem made_len {row : List Int} (hl : Len16 row.length) : (made row).length = row.length := by
  unfold made
  rw [List.length_cons, List.length_map, List.length_range]
  unfold Len16 at hl
  omega
end DL
set_option Elab.async false
set_option linter.all false
set_option maxRecDepth 100000
set_option maxHeartbeats 1000000
namespace DL
open PySem L2
/-- a list that is a form -/
structure Fm (f : List Int) : Prop where
  len : Len16 f.length
  all : ∀ y ∈ f, -10000 ≤ y ∧ y ≤ 10000
theorem oSum_L (ns : List Int) (S : Store) : oSum [L ns] S = .ok (.int ns.sum) S := by
  show (match asInts (ns.map D.int) with
    | some ns => Out.ok (.int ns.sum) S
    | none => .bad) = _
  rw [asInts_map]
theorem oLen_L {ns : List Int} {S : Store} : oLen [L ns] S = .ok (.int (ns.length : Int)) S := by
  rw [oLen_l, List.length_map]
theorem is_int_in {i lo hi : Int} (h1 : lo ≤ i) (h2 : i ≤ hi) (S : Store) : m_is_int [.int i, .int lo, .int hi] S = .ok (.bl true) S := by
  rw [is_int_int, decide_eq_true h1, decide_eq_true h2]
  rfl
theorem cut_L {ns : List Int} {a b : Nat} (h1 : a ≤ b) (h2 : b ≤ ns.length) (S : Store) : oSl (L ns) (some (a : Int)) (some (b : Int)) S = .ok (L ((ns.drop a).take (b - a))) S := by
  show Out.ok (.lst (cutD (ns.map D.int) _ _)) S = _
  unfold cutD
  rw [HT.sIx_nat, HT.sIx_nat, List.length_map, Nat.min_eq_left h2, Nat.min_eq_left (by omega), ← List.map_drop, ← List.map_take]
theorem cut_from {ns : List Int} {a : Nat} (h2 : a ≤ ns.length) (S : Store) : oSl (L ns) (some (a : Int)) none S = .ok (L (ns.drop a)) S := by
  show Out.ok (.lst (cutD (ns.map D.int) _ _)) S = _
  unfold cutD
  rw [HT.sIx_nat, HT.sIx_none, List.length_map, Nat.min_eq_left h2, ← List.map_drop, ← List.map_take, List.take_of_length_le (by rw [List.length_drop]; omega)]
/-- a loop over a range, by the count of turns done -/
theorem loopF_rg {b : D → DS} (st : Nat → DEnv) (Ss : Nat → Store) (lo : Int) : ∀ (n k : Nat), (∀ i, i < n → b (.int (lo + (k + i : Nat))) (st (k + i)) (Ss (k + i)) = .nx (st (k + i + 1)) (Ss (k + i + 1))) → loopF b ((rg (lo + k) n).map D.int) (st k) (Ss k) = .nx (st (k + n)) (Ss (k + n))
  | 0, k, _ => rfl
  | n + 1, k, h => by
    have e : (rg (lo + k) (n + 1)).map D.int = .int (lo + k) :: (rg (lo + (k + 1 : Nat)) n).map D.int := by
      unfold rg
      rw [List.range_succ_eq_map, List.map_cons, List.map_cons, List.map_map, List.map_map, List.map_map]
      congr 1
      · simp
      · apply List.map_congr_left
        intro i _
        simp
        omega
    rw [e]
    refine loopF_nx (by simpa using h 0 (by omega)) ?_
    have ih := loopF_rg st Ss lo n (k + 1) (fun i hi => by
      have := h (i + 1) (by omega)
      rw [show k + (i + 1) = k + 1 + i by omega] at this
      exact this)
    rw [ih, show k + 1 + n = k + (n + 1) by omega]
theorem loopF_rg0 {b : D → DS} (st : Nat → DEnv) {S : Store} {lo : Int} {n : Nat} (h : ∀ i, i < n → b (.int (lo + (i : Nat))) (st i) S = .nx (st (i + 1)) S) : loopF b ((rg lo n).map D.int) (st 0) S = .nx (st n) S := by
  have := loopF_rg (b := b) st (fun _ => S) lo n 0 (fun i hi => by simpa using h i hi)
  simpa using this
theorem span_is {l n : Nat} (hl : Len16 l) (hn : n < 2 * l) (h1 : 1 ≤ n) (S : Store) : m_law_span [.int (l : Int), .int (n : Int)] S = .ok (.tup [.int (fst l n : Int), .int ((fst l n + bsz l n : Nat) : Int)]) S := span_all l (mem16 hl) n hn h1 S
def madeK (row : List Int) (k : Nat) : List Int := row.sum :: (List.range k).map fun i => det row (i + 1)
theorem madeK_succ (row : List Int) (k : Nat) : madeK row (k + 1) = madeK row k ++ [det row (k + 1)] := by
  unfold madeK
  rw [List.range_succ, List.map_append]
  rfl
theorem made_b {row : List Int} (hl : Len16 row.length) (S : Store) : b_law_made [.val (L row), .emp, .emp, .emp, .emp, .emp] S = .ret (L (made row)) S := by
  have hl16 : 1 ≤ row.length ∧ row.length ≤ 16 := by unfold Len16 at hl; omega
  unfold b_law_made
  refine sSeq_ok (sOwn_ok (eLst_ok (aCons_ok (eCall_ok (aCons_ok (eVar_ok rfl) aNil_ok) (oSum_L row S)) aNil_ok))) ?_
  let st : Nat → DEnv := fun k => if k = 0 then [.val (L row), .own ((madeK row 0).map D.int), .emp, .emp, .emp, .emp] else
    [.val (L row), .own ((madeK row k).map D.int), .val (.int (k : Int)), .val (.int ((fst row.length k + bsz row.length k / 2 : Nat) : Int)), .val (.int (fst row.length k : Int)), .val (.int ((fst row.length k + bsz row.length k : Nat) : Int))]
  have hst : ∀ k, ∃ a b c d, st k = [.val (L row), .own ((madeK row k).map D.int), a, b, c, d] := fun k => by
    by_cases h : k = 0
    · subst h
      exact ⟨_, _, _, _, rfl⟩
    · exact ⟨_, _, _, _, if_neg h⟩
  refine sSeq_ok (sFor_ok (eRng_ok (aCons_ok eC_ok (aCons_ok (eCall_ok (aCons_ok (eVar_ok rfl) aNil_ok) oLen_L) aNil_ok)) (rg2 (by decide) (smallI (by omega) (by omega)) S)) (loopF_rg0 st fun i hi => ?_)) ?_
  · obtain ⟨a, b, c, d, e⟩ := hst i
    rw [e]
    have hi' : i + 1 < row.length := by omega
    have en : (1 : Int) + ((i : Nat) : Int) = ((i + 1 : Nat) : Int) := by omega
    obtain ⟨f1, f2, f3, f4, f5, f6, f7⟩ := blk_facts row.length (mem16 hl) (i + 1) hi' (by omega)
    rw [en]
    have e3 : ((fst row.length (i + 1) : Nat) : Int) + ((fst row.length (i + 1) + bsz row.length (i + 1) : Nat) : Int) = 2 * ((fst row.length (i + 1) + bsz row.length (i + 1) / 2 : Nat) : Int) := by omega
    have e2 : (((fst row.length (i + 1) : Nat) : Int) + ((fst row.length (i + 1) + bsz row.length (i + 1) : Nat) : Int)) / 2 = ((fst row.length (i + 1) + bsz row.length (i + 1) / 2 : Nat) : Int) := by omega
    refine turnF_ok rfl (sSeq_ok (sAsg_ok (eCall_ok (aCons_ok (eCall_ok (aCons_ok (eVar_ok rfl) aNil_ok) oLen_L) (aCons_ok (eVar_ok rfl) aNil_ok)) (span_is hl (by omega) (by omega) S)) rfl) ?_)
    refine sSeq_ok (sAsg_ok (eBin_ok (eBin_ok (eVar_ok rfl) (eVar_ok rfl) oAdd_ii) eC_ok (oFdiv_ii (by decide) (by decide))) rfl) ?_
    rw [e2]
    have hs : st (i + 1) = [.val (L row), .own ((madeK row (i + 1)).map D.int), .val (.int ((i + 1 : Nat) : Int)), .val (.int ((fst row.length (i + 1) + bsz row.length (i + 1) / 2 : Nat) : Int)), .val (.int (fst row.length (i + 1) : Int)), .val (.int ((fst row.length (i + 1) + bsz row.length (i + 1) : Nat) : Int))] := if_neg (by omega)
    rw [hs, madeK_succ, List.map_append]
    exact sApp_ok rfl (eBin_ok (eCall_ok (aCons_ok (eSl_ok (eVar_ok rfl) (pSome_ok (eVar_ok rfl)) (pSome_ok (eVar_ok rfl)) (cut_L (by omega) (by omega) S)) aNil_ok) (oSum_L _ S)) (eCall_ok (aCons_ok (eSl_ok (eVar_ok rfl) (pSome_ok (eVar_ok rfl)) (pSome_ok (eVar_ok rfl)) (cut_L (by omega) (by omega) S)) aNil_ok) (oSum_L _ S)) oSub_ii) (by simp [madeK]; omega)
  · obtain ⟨a, b, c, d, e⟩ := hst ((row.length : Int) - 1).toNat
    rw [e]
    have em : madeK row ((row.length : Int) - 1).toNat = made row := by
      unfold madeK made
      rw [show ((row.length : Int) - 1).toNat = row.length - 1 by omega]
    rw [em]
    exact sRetO_ok rfl
theorem made_is {row : List Int} (hl : Len16 row.length) (S : Store) : m_law_made [L row] S = .ok (L (made row)) S := runD_ret rfl (made_b hl S)
end DL
set_option Elab.async false
set_option linter.all false
set_option maxRecDepth 100000
set_option maxHeartbeats 1000000
namespace DL
open PySem L2
end DL
set_option Elab.async false
set_option linter.all false
set_option maxRecDepth 100000
set_option maxHeartbeats 1000000
namespace DL
open PySem L2
/-- the part with a number -/
def pt (f : List Int) (n : Nat) : Int := f.getD n 0
theorem pt_get {f : List Int} {n : Nat} (h : n < f.length) : f[n]? = some (pt f n) := by
  unfold pt
  rw [List.getD_eq_getElem?_getD, List.getElem?_eq_getElem h]
  rfl
theorem pt_mem {f : List Int} {n : Nat} (h : n < f.length) : pt f n ∈ f := List.mem_of_getElem? (pt_get h)
theorem Fm.pt {f : List Int} (h : Fm f) {n : Nat} (hn : n < f.length) : (pt f n).natAbs ≤ 10000 := by
  have := h.all _ (pt_mem hn)
  omega
end DL
set_option Elab.async false
set_option linter.all false
set_option maxRecDepth 100000
set_option maxHeartbeats 1000000
namespace DL
open PySem L2
/-- the detail n's part of the value at p -/
def gp (f : List Int) (p n : Nat) : Rat := ((sgn f.length n p * pt f n : Int) : Rat) / (((bsz f.length n : Nat) : Int) : Rat)
/-- along n, n / 2, n / 4 .. 1 -/
def ch (g : Nat → Rat) : Nat → Nat → Rat
  | 0, _ => 0
  | k + 1, n => if n = 0 then 0 else g n + ch g k (n / 2)
def f0v (f : List Int) : Rat := ((pt f 0 : Int) : Rat) / (((f.length : Nat) : Int) : Rat)
def val (f : List Int) (p : Nat) : Rat := f0v f + ch (gp f p) 5 ((f.length + p) / 2)
end DL
set_option Elab.async false
set_option linter.all false
set_option maxRecDepth 100000
set_option maxHeartbeats 1000000
namespace DL
open PySem L2
/-- a loop over a range, by what holds after so many turns -/
theorem loopF_inv {b : D → DS} (I : Nat → DEnv → Store → Prop) {lo : Int} : ∀ (n k : Nat) (ρ : DEnv) (S : Store), (∀ i ρ S, i < n → I (k + i) ρ S → ∃ ρ' S', b (.int (lo + (k + i : Nat))) ρ S = .nx ρ' S' ∧ I (k + i + 1) ρ' S') → I k ρ S → ∃ ρ' S', loopF b ((rg (lo + k) n).map D.int) ρ S = .nx ρ' S' ∧ I (k + n) ρ' S'
  | 0, k, ρ, S, _, h0 => ⟨ρ, S, rfl, h0⟩
  | n + 1, k, ρ, S, h, h0 => by
    have e : (rg (lo + k) (n + 1)).map D.int = .int (lo + k) :: (rg (lo + (k + 1 : Nat)) n).map D.int := by
      unfold rg
      rw [List.range_succ_eq_map, List.map_cons, List.map_cons, List.map_map, List.map_map, List.map_map]
      congr 1
      · simp
      · apply List.map_congr_left
        intro i _
        simp
        omega
    obtain ⟨ρ1, S1, h1, h2⟩ := h 0 ρ S (by omega) h0
    obtain ⟨ρ2, S2, k1, k2⟩ := loopF_inv I (lo := lo) n (k + 1) ρ1 S1 (fun i ρ S hi hI => by
      have e2 : k + 1 + i = k + (i + 1) := by omega
      rw [e2] at hI ⊢
      exact h (i + 1) ρ S (by omega) hI) h2
    refine ⟨ρ2, S2, ?_, by rw [show k + (n + 1) = k + 1 + n by omega]; exact k2⟩
    rw [e]
    exact loopF_nx h1 k1
theorem for_inv {b : DS} {it : DE} {j : Nat} (I : Nat → DEnv → Store → Prop) {lo : Int} {n : Nat} {ρ : DEnv} {S : Store} (hi : it ρ S = .ok (L (rg lo n)) S) (h0 : I 0 ρ S) (h : ∀ i ρ S, i < n → I i ρ S → ∃ ρ' S', b (ρ.set j (.val (.int (lo + (i : Nat))))) S = .nx ρ' S' ∧ I (i + 1) ρ' S') :
    ∃ ρ' S', sFor it (tgName j) b ρ S = .nx ρ' S' ∧ I n ρ' S' := by
  obtain ⟨ρ', S', h1, h2⟩ := loopF_inv (b := turnF (tgName j) b) I (lo := lo) n 0 ρ S (fun i ρ S hi hI => by
    rw [Nat.zero_add] at hI ⊢
    exact h i ρ S hi hI) h0
  refine ⟨ρ', S', sFor_ok hi ?_, by rw [Nat.zero_add] at h2; exact h2⟩
  have : lo + ((0 : Nat) : Int) = lo := by omega
  rw [this] at h1
  exact h1
/-- tuples of ints -/
abbrev T (ns : List Int) : D := .tup (ns.map D.int)
end DL
set_option Elab.async false
set_option linter.all false
set_option maxRecDepth 100000
set_option maxHeartbeats 1000000
namespace DL
open PySem L2
/-- g 1 + .. + g k -/
def sm (g : Nat → Rat) : Nat → Rat
  | 0 => 0
  | k + 1 => sm g k + g (k + 1)
/-- the sum of a list of fractions -/
def rs : List Rat → Rat
  | [] => 0
  | q :: qs => q + rs qs
end DL
set_option Elab.async false
set_option linter.all false
set_option maxRecDepth 100000
set_option maxHeartbeats 1000000
namespace DL
open PySem L2
/-- the signs of block n from a up to b together -/
def ss (l n a b : Nat) : Int := ((List.range (b - a)).map fun i => sgn l n (a + i)).sum
/-- the details that a stretch hangs on -/
def nd (l a b k : Nat) : List Int := ((List.range k).filter fun i => !decide (ss l (i + 1) a b = 0)).map fun i => ((i + 1 : Nat) : Int)
end DL
set_option Elab.async false
set_option linter.all false
set_option maxRecDepth 100000
set_option maxHeartbeats 1000000
namespace DL
open PySem L2
/-- the form with all other details 0 -/
def kp (f : List Int) (ks : List Int) : List Int := (List.range f.length).map fun (n : Nat) => if n = 0 ∨ ((n : Nat) : Int) ∈ ks then pt f n else 0
end DL
set_option Elab.async false
set_option linter.all false
set_option maxRecDepth 100000
set_option maxHeartbeats 1000000
namespace DL
open PySem L2
end DL
set_option Elab.async false
set_option linter.all false
set_option maxRecDepth 100000
set_option maxHeartbeats 1000000
namespace DL
open PySem L2
end DL
set_option Elab.async false
set_option linter.all false
set_option maxRecDepth 100000
set_option maxHeartbeats 1000000
namespace DL
open PySem L2
/-- the share of part n -/
def sh (f : List Int) (n : Nat) : Rat := ((pt f n * pt f n : Int) : Rat) / (((bsz f.length (max 1 n) : Nat) : Int) : Rat)
end DL
set_option Elab.async false
set_option linter.all false
set_option maxRecDepth 100000
set_option maxHeartbeats 1000000
namespace DL
open PySem L2
structure Kept (l : Nat) (ks : List Int) : Prop where
  asc : ks.Pairwise (· < ·)
  mem : ∀ k ∈ ks, 1 ≤ k ∧ k < l
theorem asc_len : ∀ (ks : List Int) (a b : Int), ks.Pairwise (· < ·) → (∀ k ∈ ks, a ≤ k ∧ k < b) → a ≤ b → (ks.length : Int) ≤ b - a
  | [], a, b, _, _, h => by simp; omega
  | k :: ks, a, b, h1, h2, h => by
    obtain ⟨h3, h4⟩ := List.pairwise_cons.mp h1
    obtain ⟨h5, h6⟩ := h2 k List.mem_cons_self
    have := asc_len ks (k + 1) b h4 (fun x hx => ⟨by have := h3 x hx; omega, (h2 x (List.mem_cons_of_mem _ hx)).2⟩) (by omega)
    rw [List.length_cons]
    omega
theorem Kept.len {l : Nat} {ks : List Int} (h : Kept l ks) (hl : 1 ≤ l) : ks.length < l := by
  have := asc_len ks 1 l h.asc h.mem (by omega)
  omega
/-- what a choice leaves out -/
def lo (f ks : List Int) : Rat := sm (fun n => if !decide (((n : Nat) : Int) ∈ ks) then sh f n else 0) (f.length - 1)
abbrev iL (xs : List Nat) : List Int := xs.map fun n => ((n : Nat) : Int)
def ordK (f : List Int) : Nat → List Nat
  | 0 => []
  | k + 1 => (ordK f k).take (((ordK f k).filter fun m => !decide (sh f m < sh f (k + 1))).length) ++ [k + 1] ++ (ordK f k).drop (((ordK f k).filter fun m => !decide (sh f m < sh f (k + 1))).length)
abbrev ord (f : List Int) : List Nat := ordK f (f.length - 1)
end DL
set_option Elab.async false
set_option linter.all false
set_option maxRecDepth 100000
set_option maxHeartbeats 1000000
namespace DL
open PySem L2
end DL
set_option Elab.async false
set_option linter.all false
set_option maxRecDepth 100000
set_option maxHeartbeats 1000000
namespace DL
open PySem L2
end DL
set_option Elab.async false
set_option linter.all false
set_option maxRecDepth 100000
set_option maxHeartbeats 1000000
namespace DL
open PySem L2
/-- what the first m by share leave out -/
def er (f : List Int) (m : Nat) : Rat := rs (((ord f).drop m).map (sh f))
/-- the first m by share, as a choice -/
def bk (f : List Int) (m : Nat) : List Int := sortI (iL ((ord f).take m))
end DL
set_option Elab.async false
set_option linter.all false
set_option maxRecDepth 100000
set_option maxHeartbeats 1000000
namespace DL
open PySem L2
def rt (n : Nat) : Nat := n + 2 ^ (Nat.log2 n + 1)
end DL
set_option Elab.async false
set_option linter.all false
set_option maxRecDepth 100000
set_option maxHeartbeats 1000000
namespace DL
open PySem L2
end DL
set_option Elab.async false
set_option linter.all false
set_option maxRecDepth 100000
set_option maxHeartbeats 4000000
namespace DL
open PySem L2
end DL
set_option Elab.async false
set_option linter.all false
set_option maxRecDepth 100000
set_option maxHeartbeats 4000000
namespace DL
open PySem L2
def xm (n0 m : Nat) : Nat :=
  if n0 < m ∧ m / 2 ^ (Nat.log2 m - Nat.log2 n0) = n0 then (if m % 2 ^ (Nat.log2 m - Nat.log2 n0) < 2 ^ (Nat.log2 m - Nat.log2 n0 - 1) then m + 2 ^ (Nat.log2 m - Nat.log2 n0 - 1) else m - 2 ^ (Nat.log2 m - Nat.log2 n0 - 1)) else m
def xe (n0 m : Nat) : Int := if m = n0 then -1 else 1
def exc (f : List Int) (n0 : Nat) : List Int := (List.range f.length).map fun m => if m = n0 then -pt f n0 else pt f (xm n0 m)
end DL
set_option Elab.async false
set_option linter.all false
set_option maxRecDepth 100000
set_option maxHeartbeats 4000000
namespace DL
open PySem L2
end DL
set_option Elab.async false
set_option linter.all false
set_option maxRecDepth 100000
set_option maxHeartbeats 4000000
namespace DL
open PySem L2
end DL
set_option Elab.async false
set_option linter.all false
set_option maxRecDepth 100000
set_option maxHeartbeats 4000000
namespace DL
open PySem L2
end DL
set_option Elab.async false
set_option linter.all false
set_option maxRecDepth 100000
set_option maxHeartbeats 4000000
namespace DL
open PySem L2
end DL
set_option Elab.async false
set_option linter.all false
set_option maxRecDepth 100000
set_option maxHeartbeats 4000000
namespace DL
open PySem L2
end DL
set_option Elab.async false
set_option linter.all false
set_option maxRecDepth 100000
set_option maxHeartbeats 4000000
namespace DL
open PySem L2
theorem oAdd_ll {a b : List D} {S : Store} (h : a.length + b.length ≤ 100000) : oAdd (.lst a) (.lst b) S = .ok (.lst (a ++ b)) S := by
  unfold oAdd
  simp only []
  rw [if_pos h]
end DL
set_option Elab.async false
set_option linter.all false
set_option maxRecDepth 100000
set_option maxHeartbeats 1000000
namespace DL
open PySem L2
def isum (f : Nat → Int) : Nat → Int
  | 0 => 0
  | n + 1 => isum f n + f n
theorem isum_ext {f g : Nat → Int} : ∀ {n : Nat}, (∀ k, k < n → f k = g k) → isum f n = isum g n
  | 0, _ => rfl
  | n + 1, h => by rw [isum, isum, isum_ext (fun k hk => h k (by omega)), h n (by omega)]
theorem isum_nonneg {f : Nat → Int} (h : ∀ k, 0 ≤ f k) : ∀ n : Nat, 0 ≤ isum f n
  | 0 => Int.le_refl _
  | n + 1 => Int.add_nonneg (isum_nonneg h n) (h n)
theorem isum_le {f : Nat → Int} {M : Int} (h : ∀ k, f k ≤ M) : ∀ n : Nat, isum f n ≤ (n : Int) * M
  | 0 => by simp [isum]
  | n + 1 => by
    have a := isum_le h n
    have b := h n
    rw [isum, show ((n + 1 : Nat) : Int) = (n : Int) + 1 by omega, Int.add_mul, Int.one_mul]
    omega
theorem isum_head (f : Nat → Int) : ∀ n : Nat, isum f (n + 1) = f 0 + isum (fun k => f (k + 1)) n
  | 0 => by simp [isum]
  | n + 1 => by
    rw [isum, isum_head f n, isum]
    omega
/-- one more at both ends -/
theorem isum_wide {f : Nat → Int} (h : ∀ k, 0 ≤ f k) (n : Nat) : isum (fun k => f (k + 1)) n ≤ isum f (n + 2) := by
  rw [isum_head, isum]
  have a := h 0
  have b := h (n + 1)
  omega
def tmv (c : Int → Int) (s : Int) (b : Nat) (k : Nat) : Int :=
  if (s + (-(b : Int) + (k : Int))) % 2 = 0 then c ((s + (-(b : Int) + (k : Int))) / 2) * c ((s - (-(b : Int) + (k : Int))) / 2) else 0
/-- lists of 2 ^ j integers with a sum, all details within b -/
def cnt : Nat → Int → Nat → Int
  | 0, _, _ => 1
  | j + 1, s, b => isum (tmv (fun x => cnt j x b) s b) (2 * b + 1)
theorem cnt_nonneg : ∀ (j : Nat) (s : Int) (b : Nat), 0 ≤ cnt j s b
  | 0, _, _ => by show (0 : Int) ≤ 1; decide
  | j + 1, s, b => by
    refine isum_nonneg (fun k => ?_) _
    unfold tmv
    split
    · exact Int.mul_nonneg (cnt_nonneg j _ b) (cnt_nonneg j _ b)
    · exact Int.le_refl _
theorem cnt_step {j : Nat} {b : Nat} {M : Int} (h : ∀ s, cnt j s b ≤ M) (s : Int) : cnt (j + 1) s b ≤ ((2 * b + 1 : Nat) : Int) * (M * M) := by
  have hM : 0 ≤ M := Int.le_trans (cnt_nonneg j 0 b) (h 0)
  refine isum_le (fun k => ?_) _
  unfold tmv
  split
  · exact Int.mul_le_mul (h _) (h _) (cnt_nonneg j _ b) hM
  · exact Int.mul_nonneg hM hM
theorem cnt_small {j : Nat} {b : Nat} (hj : j ≤ 2) (hb : b ≤ 20) (s : Int) : cnt j s b ≤ 68921 := by
  have h0 : ∀ s, cnt 0 s b ≤ 1 := fun s => Int.le_refl _
  have h1 : ∀ s, cnt 1 s b ≤ 41 := fun s => Int.le_trans (cnt_step h0 s) (by omega)
  have h2 : ∀ s, cnt 2 s b ≤ 68921 := fun s => Int.le_trans (cnt_step h1 s) (by omega)
  match j, hj with
  | 0, _ => exact Int.le_trans (h0 s) (by decide)
  | 1, _ => exact Int.le_trans (h1 s) (by decide)
  | 2, _ => exact h2 s
theorem cnt_neg : ∀ (j : Nat) (s : Int) (b : Nat), cnt j (0 - s) b = cnt j s b
  | 0, _, _ => rfl
  | j + 1, s, b => by
    refine isum_ext fun k _ => ?_
    unfold tmv
    by_cases h : (s + (-(b : Int) + (k : Int))) % 2 = 0
    · rw [if_pos h, if_pos (by omega)]
      have e1 : (0 - s + (-(b : Int) + (k : Int))) / 2 = 0 - (s - (-(b : Int) + (k : Int))) / 2 := by omega
      have e2 : (0 - s - (-(b : Int) + (k : Int))) / 2 = 0 - (s + (-(b : Int) + (k : Int))) / 2 := by omega
      rw [e1, e2]
      show cnt j _ b * cnt j _ b = cnt j _ b * cnt j _ b
      rw [cnt_neg j _ b, cnt_neg j _ b, Int.mul_comm]
    · rw [if_neg h, if_neg (by omega)]
theorem cnt_shift : ∀ (j : Nat) (s : Int) (b : Nat), cnt j (s + ((2 ^ j : Nat) : Int)) b = cnt j s b
  | 0, _, _ => rfl
  | j + 1, s, b => by
    refine isum_ext fun k _ => ?_
    unfold tmv
    have hp : ((2 ^ (j + 1) : Nat) : Int) = 2 * ((2 ^ j : Nat) : Int) := by rw [Nat.pow_succ]; omega
    have ih := fun x => cnt_shift j x b
    rw [hp]
    generalize ((2 ^ j : Nat) : Int) = p at ih ⊢
    by_cases h : (s + (-(b : Int) + (k : Int))) % 2 = 0
    · rw [if_pos h, if_pos (by omega)]
      have e1 : (s + 2 * p + (-(b : Int) + (k : Int))) / 2 = (s + (-(b : Int) + (k : Int))) / 2 + p := by omega
      have e2 : (s + 2 * p - (-(b : Int) + (k : Int))) / 2 = (s - (-(b : Int) + (k : Int))) / 2 + p := by omega
      rw [e1, e2]
      show cnt j _ b * cnt j _ b = cnt j _ b * cnt j _ b
      rw [ih, ih]
    · rw [if_neg h, if_neg (by omega)]
theorem cnt_mono : ∀ (j : Nat) (s : Int) (b : Nat), cnt j s b ≤ cnt j s (b + 1)
  | 0, _, _ => Int.le_refl _
  | j + 1, s, b => by
    have h1 : cnt (j + 1) s b ≤ isum (fun k => tmv (fun x => cnt j x (b + 1)) s (b + 1) (k + 1)) (2 * b + 1) := by
      show isum _ _ ≤ _
      generalize 2 * b + 1 = n
      induction n with
      | zero => exact Int.le_refl _
      | succ n ih =>
        rw [isum, isum]
        refine Int.add_le_add ih ?_
        unfold tmv
        have e : -((b + 1 : Nat) : Int) + ((n + 1 : Nat) : Int) = -(b : Int) + (n : Int) := by omega
        rw [e]
        split
        · exact Int.mul_le_mul (cnt_mono j _ b) (cnt_mono j _ b) (cnt_nonneg j _ b) (cnt_nonneg j _ (b + 1))
        · exact Int.le_refl _
    refine Int.le_trans h1 ?_
    show _ ≤ isum _ (2 * (b + 1) + 1)
    rw [show 2 * (b + 1) + 1 = 2 * b + 1 + 2 by omega]
    refine isum_wide (fun k => ?_) _
    unfold tmv
    split
    · exact Int.mul_nonneg (cnt_nonneg j _ _) (cnt_nonneg j _ _)
    · exact Int.le_refl _
def kk (j : Nat) (s : Int) : List Key := keyI [((2 ^ j : Nat) : Int), s]
def Good (b : Nat) (kds : List (List Key × D)) : Prop := ∀ kv ∈ kds, ∃ j s, kv = (kk j s, D.int (cnt j s b))
theorem kk_inj {i j : Nat} {s t : Int} (h : kk i s = kk j t) : i = j ∧ s = t := by
  unfold kk keyI at h
  simp only [List.map_cons, List.map_nil, List.cons.injEq, Sum.inl.injEq, and_true] at h
  exact ⟨(Nat.pow_right_inj (by decide)).mp (Int.ofNat.inj h.1), h.2⟩
theorem Good.val {b : Nat} : ∀ {kds : List (List Key × D)}, Good b kds → ∀ (j : Nat) (s : Int), valD kds (kk j s) = none ∨ valD kds (kk j s) = some (.int (cnt j s b))
  | [], _, _, _ => .inl rfl
  | p :: r, h, j, s => by
    by_cases e : p.1 = kk j s
    · refine .inr ?_
      obtain ⟨j', s', q⟩ := h p List.mem_cons_self
      rw [valD_pos e, q]
      rw [q] at e
      obtain ⟨rfl, rfl⟩ := kk_inj e
      rfl
    · rw [valD_neg e]
      exact Good.val (fun kv hk => h kv (List.mem_cons_of_mem _ hk)) j s
theorem valD_any {κ : Type} [DecidableEq κ] (k : κ) : ∀ kds : List (κ × D), (kds.any fun kv => decide (kv.1 = k)) = (valD kds k).isSome
  | [] => rfl
  | p :: r => by
    rw [List.any_cons]
    by_cases e : p.1 = k
    · simp only [valD_pos e, decide_eq_true e, Bool.true_or, Option.isSome_some]
    · rw [valD_neg e, decide_eq_false e, Bool.false_or]
      exact valD_any k r
theorem valD_snoc {κ : Type} [DecidableEq κ] (k : κ) (d : D) : ∀ kds : List (κ × D), valD kds k = none → valD (kds ++ [(k, d)]) k = some d
  | [], _ => valD_pos (p := (k, d)) rfl
  | p :: r, h => by
    by_cases e : p.1 = k
    · rw [valD_pos e] at h
      cases h
    · rw [valD_neg e] at h
      rw [List.cons_append, valD_neg e]
      exact valD_snoc k d r h
theorem valD_map {κ : Type} [DecidableEq κ] (k : κ) (d : D) : ∀ kds : List (κ × D), (valD kds k).isSome = true → valD (kds.map fun kv => if kv.1 = k then (kv.1, d) else kv) k = some d
  | [], h => by cases h
  | p :: r, h => by
    rw [List.map_cons]
    by_cases e : p.1 = k
    · rw [if_pos e]
      exact valD_pos (p := (p.1, d)) e
    · rw [if_neg e, valD_neg e]
      rw [valD_neg e] at h
      exact valD_map k d r h
theorem putKD_val {κ : Type} [DecidableEq κ] (kds : List (κ × D)) (k : κ) (d : D) : valD (putKD kds k d) k = some d := by
  unfold putKD
  rw [valD_any]
  split
  · rename_i h
    exact valD_map k d kds h
  · rename_i h
    refine valD_snoc k d kds ?_
    cases q : valD kds k with
    | none => rfl
    | some x => rw [q] at h; exact (h rfl).elim
theorem putKD_len {κ : Type} [DecidableEq κ] (kds : List (κ × D)) (k : κ) (d : D) : (putKD kds k d).length ≤ kds.length + 1 := by
  unfold putKD
  split
  · rw [List.length_map]
    omega
  · rw [List.length_append, List.length_singleton]
    omega
theorem Good.put {b : Nat} {kds : List (List Key × D)} (h : Good b kds) (j : Nat) (s : Int) : Good b (putKD kds (kk j s) (.int (cnt j s b))) := fun kv hk => by
  unfold putKD at hk
  split at hk
  · obtain ⟨p, hp, e⟩ := List.mem_map.mp hk
    split at e
    · rename_i e2
      exact ⟨j, s, by rw [← e, e2]⟩
    · rw [← e]
      exact h p hp
  · rcases List.mem_append.mp hk with z | z
    · exact h kv z
    · rw [List.mem_singleton] at z
      exact ⟨j, s, z⟩
theorem eDNot_ok {fi : DA} {fo : DE} {ρ : DEnv} {S : Store} {ns : List Int} {n : Nat} {kds : List (List Key × D)} (hi : fi ρ S = .ok (ns.map D.int) S) (ho : fo ρ S = .ok (.obj n) S) (hS : S[n]? = some (.dT kds)) :
    eDNot fi fo ρ S = .ok (.bl (!(valD kds (keyI ns)).isSome)) S := by
  unfold eDNot
  rw [hi]
  show (fo ρ S).bind _ = _
  rw [ho]
  show oDNot _ _ _ = _
  unfold oDNot
  simp only [hS, asInts_map]
theorem eDGet_ok {fi : DA} {fo : DE} {ρ : DEnv} {S : Store} {ns : List Int} {n : Nat} {kds : List (List Key × D)} {d : D} (hi : fi ρ S = .ok (ns.map D.int) S) (ho : fo ρ S = .ok (.obj n) S) (hS : S[n]? = some (.dT kds)) (hd : valD kds (keyI ns) = some d) :
    eDGet fo fi ρ S = .ok d S := by
  unfold eDGet
  rw [ho]
  show (fi ρ S).bind _ = _
  rw [hi]
  show oDGet (.obj n) (ns.map D.int) S = _
  unfold oDGet
  simp only [hS, asInts_map, hd]
theorem sDPutT_ok {fi : DA} {fo fv : DE} {ρ : DEnv} {S : Store} {ns : List Int} {n : Nat} {kds : List (List Key × D)} {d : D} (hv : fv ρ S = .ok d S) (ho : fo ρ S = .ok (.obj n) S) (hi : fi ρ S = .ok (ns.map D.int) S) (hS : S[n]? = some (.dT kds)) (hl : kds.length < 100000) :
    sDPutT fo fi fv ρ S = .nx ρ (S.set n (.dT (putKD kds (keyI ns) d))) := by
  unfold sDPutT
  rw [hv]
  show (fo ρ S).bindS _ = _
  rw [ho]
  show (match fi ρ S with | .ok ds S3 => oDPut _ ds d ρ S3 | .exc c S3 => .exc c S3 | .bad => .bad) = _
  rw [hi]
  show oDPut _ _ d ρ S = _
  unfold oDPut
  simp only [hS, asInts_map, if_pos hl]
def cst : Nat → Nat
  | 0 => 0
  | j + 1 => 1 + 82 * cst j
/-- the promise of splits at a size -/
def SpOk (j : Nat) (r : DC) : Prop := ∀ (b : Nat) (s : Int) (n : Nat) (S : Store) (kds : List (List Key × D)), b ≤ 20 → S[n]? = some (.dT kds) → Good b kds → kds.length + cst j ≤ 90000 →
  ∃ kds', r [.int ((2 ^ j : Nat) : Int), .int s, .int (b : Int), .obj n] S = .ok (.int (cnt j s b)) (S.set n (.dT kds')) ∧ Good b kds' ∧ kds'.length ≤ kds.length + cst j
theorem set_same {S : Store} {n : Nat} {o : OB} (h : S[n]? = some o) : S.set n o = S := by
  obtain ⟨hl, e⟩ := List.getElem?_eq_some_iff.mp h
  rw [← e]
  exact List.set_getElem_self hl
theorem set_at {S : Store} {n : Nat} {o o' : OB} (h : S[n]? = some o) : (S.set n o')[n]? = some o' := List.getElem?_set_self (List.getElem?_eq_some_iff.mp h).1
theorem spOk_zero (r : DC) : SpOk 0 (runD 8 4 (b_splits r)) := fun b s n S kds hb hS hg hl => by
  refine ⟨kds, ?_, hg, Nat.le_refl _⟩
  rw [set_same hS]
  exact runD_ret rfl (sSeq_ret (sIf_t (eBin_ok (eVar_ok rfl) eC_ok (oEq_int _ _ _)) (sRet_ok eC_ok)))
theorem spOk_succ {j : Nat} (hj : j ≤ 2) {r : DC} (hr : SpOk j r) : SpOk (j + 1) (runD 8 4 (b_splits r)) := fun b s n S kds hb hS hg hl => by
  have hp : ((2 ^ (j + 1) : Nat) : Int) = 2 * ((2 ^ j : Nat) : Int) := by rw [Nat.pow_succ]; omega
  have hpos : (1 : Int) ≤ ((2 ^ j : Nat) : Int) := by
    have := Nat.one_le_two_pow (n := j)
    omega
  have hne : decide (((2 ^ (j + 1) : Nat) : Int) = 1) = false := decide_eq_false (by omega)
  have hhalf : ((2 ^ (j + 1) : Nat) : Int) / 2 = ((2 ^ j : Nat) : Int) := by omega
  have hkey : keyI [((2 ^ (j + 1) : Nat) : Int), s] = kk (j + 1) s := rfl
  have cs : cst (j + 1) = 1 + 82 * cst j := rfl
  have first : ∀ ρ S', sIf (eBin oEq (eVar 0) (eC (.int 1))) (sRet (eC (.int 1))) sSkip (.val (.int ((2 ^ (j + 1) : Nat) : Int)) :: ρ) S' = .nx (.val (.int ((2 ^ (j + 1) : Nat) : Int)) :: ρ) S' := fun ρ S' => by
    refine sIf_f (eBin_ok (eVar_ok rfl) eC_ok ?_) sSkip_ok
    rw [oEq_int, hne]
  rcases hg.val (j + 1) s with hv | hv
  · -- not known yet
    let I : Nat → DEnv → Store → Prop := fun i ρ S' => ∃ kd x y z, S' = S.set n (.dT kd) ∧ Good b kd ∧ kd.length ≤ kds.length + 2 * i * cst j ∧ ρ = [.val (.int ((2 ^ (j + 1) : Nat) : Int)), .val (.int s), .val (.int (b : Int)), .val (.obj n), .val (.int (isum (tmv (fun x => cnt j x b) s b) i)), x, y, z]
    have hsz : ((b : Int) + 1 - (-(b : Int))).toNat = 2 * b + 1 := by omega
    have hrg : ∀ x y z w, eRng (aCons (eUn oNeg (eVar 2)) (aCons (eBin oAdd (eVar 2) (eC (.int 1))) aNil)) [.val (.int ((2 ^ (j + 1) : Nat) : Int)), .val (.int s), .val (.int (b : Int)), .val (.obj n), x, y, z, w] S = .ok (L (rg (-(b : Int)) (2 * b + 1))) S := fun x y z w => by
      rw [← hsz]
      exact eRng_ok (aCons_ok (eUn_ok (eVar_ok rfl) oNeg_i) (aCons_ok (eBin_ok (eVar_ok rfl) eC_ok oAdd_ii) aNil_ok)) (rg2 (smallI (by omega) (by omega)) (smallI (by omega) (by omega)) S)
    obtain ⟨ρ', S', h1, kd, x, y, z, rfl, g1, l1, rfl⟩ := for_inv (b := sIf (eBin oEq (eBin oMod (eBin oAdd (eVar 1) (eVar 5)) (eC (.int 2))) (eC (.int 0))) (sSeq (sPar 6 7 (aCons (eBin oFdiv (eBin oAdd (eVar 1) (eVar 5)) (eC (.int 2))) (aCons (eBin oFdiv (eBin oSub (eVar 1) (eVar 5)) (eC (.int 2))) aNil)))
        (sAug 4 oAddI (eBin oMul (eCall r (aCons (eBin oFdiv (eVar 0) (eC (.int 2))) (aCons (eVar 6) (aCons (eVar 2) (aCons (eVar 3) aNil))))) (eCall r (aCons (eBin oFdiv (eVar 0) (eC (.int 2))) (aCons (eVar 7) (aCons (eVar 2) (aCons (eVar 3) aNil)))))))) sSkip) (j := 5) I (hrg (.val (.int 0)) .emp .emp .emp)
      ⟨kds, .emp, .emp, .emp, (set_same hS).symm, hg, by omega, rfl⟩ (fun i ρ S1 hi hI => by
        obtain ⟨kd, x, y, z, rfl, g1, l1, rfl⟩ := hI
        have hS1 : (S.set n (.dT kd))[n]? = some (.dT kd) := set_at hS
        have hmod : (eBin oEq (eBin oMod (eBin oAdd (eVar 1) (eVar 5)) (eC (.int 2))) (eC (.int 0))) [.val (.int ((2 ^ (j + 1) : Nat) : Int)), .val (.int s), .val (.int (b : Int)), .val (.obj n), .val (.int (isum (tmv (fun x => cnt j x b) s b) i)), .val (.int (-(b : Int) + (i : Nat))), y, z] (S.set n (.dT kd)) = .ok (.bl (decide ((s + (-(b : Int) + (i : Nat))) % 2 = 0))) (S.set n (.dT kd)) :=
          eBin_ok (eBin_ok (eBin_ok (eVar_ok rfl) (eVar_ok rfl) oAdd_ii) eC_ok (oMod_ii (by decide))) eC_ok (oEq_int _ _ _)
        have hmul : 2 * (i + 1) * cst j ≤ 82 * cst j := Nat.mul_le_mul_right _ (by omega)
        have hmul2 : 2 * (i + 1) * cst j = 2 * i * cst j + 2 * cst j := by rw [Nat.mul_add, Nat.add_mul]
        by_cases hm : (s + (-(b : Int) + (i : Nat))) % 2 = 0
        · rw [decide_eq_true hm] at hmod
          obtain ⟨kd2, q1, g2, l2⟩ := hr b ((s + (-(b : Int) + (i : Nat))) / 2) n (S.set n (.dT kd)) kd hb hS1 g1 (by omega)
          rw [List.set_set] at q1
          obtain ⟨kd3, q2, g3, l3⟩ := hr b ((s - (-(b : Int) + (i : Nat))) / 2) n (S.set n (.dT kd2)) kd2 hb (set_at hS) g2 (by omega)
          rw [List.set_set] at q2
          refine ⟨[.val (.int ((2 ^ (j + 1) : Nat) : Int)), .val (.int s), .val (.int (b : Int)), .val (.obj n), .val (.int (isum (tmv (fun x => cnt j x b) s b) (i + 1))), .val (.int (-(b : Int) + (i : Nat))), .val (.int ((s + (-(b : Int) + (i : Nat))) / 2)), .val (.int ((s - (-(b : Int) + (i : Nat))) / 2))], S.set n (.dT kd3), ?_, kd3, _, _, _, rfl, g3, by omega, rfl⟩
          have et : tmv (fun x => cnt j x b) s b i = cnt j ((s + (-(b : Int) + (i : Nat))) / 2) b * cnt j ((s - (-(b : Int) + (i : Nat))) / 2) b := if_pos hm
          rw [isum, et]
          refine sIf_t hmod (sSeq_ok (sPar_ok (aCons_ok (eBin_ok (eBin_ok (eVar_ok rfl) (eVar_ok rfl) oAdd_ii) eC_ok (oFdiv_ii (by decide) (by decide))) (aCons_ok (eBin_ok (eBin_ok (eVar_ok rfl) (eVar_ok rfl) oSub_ii) eC_ok (oFdiv_ii (by decide) (by decide))) aNil_ok))) ?_)
          refine sAug_ok (x := .int (isum (tmv (fun x => cnt j x b) s b) i)) rfl (eBin_ok (S1 := S.set n (.dT kd2)) (S2 := S.set n (.dT kd3)) (x := .int (cnt j ((s + (-(b : Int) + (i : Nat))) / 2) b)) (y := .int (cnt j ((s - (-(b : Int) + (i : Nat))) / 2) b)) (eCall_ok (aCons_ok (eBin_ok (eVar_ok rfl) eC_ok (oFdiv_ii (by decide) (by decide))) (aCons_ok (eVar_ok rfl) (aCons_ok (eVar_ok rfl) (aCons_ok (eVar_ok rfl) aNil_ok)))) ?_)
            (eCall_ok (aCons_ok (eBin_ok (eVar_ok rfl) eC_ok (oFdiv_ii (by decide) (by decide))) (aCons_ok (eVar_ok rfl) (aCons_ok (eVar_ok rfl) (aCons_ok (eVar_ok rfl) aNil_ok)))) ?_) (oMul_l (bigI ?_))) oAddI_ii
          · rw [hhalf]
            exact q1
          · rw [hhalf]
            exact q2
          · have := cnt_small hj hb ((s + (-(b : Int) + (i : Nat))) / 2)
            have := cnt_nonneg j ((s + (-(b : Int) + (i : Nat))) / 2) b
            omega
        · rw [decide_eq_false hm] at hmod
          refine ⟨[.val (.int ((2 ^ (j + 1) : Nat) : Int)), .val (.int s), .val (.int (b : Int)), .val (.obj n), .val (.int (isum (tmv (fun x => cnt j x b) s b) (i + 1))), .val (.int (-(b : Int) + (i : Nat))), y, z], S.set n (.dT kd), ?_, kd, _, y, z, rfl, g1, by omega, rfl⟩
          have et : tmv (fun x => cnt j x b) s b i = 0 := if_neg hm
          rw [isum, et, Int.add_zero]
          exact sIf_f hmod sSkip_ok)
    have hmul : 2 * (2 * b + 1) * cst j ≤ 82 * cst j := Nat.mul_le_mul_right _ (by omega)
    have hS2 : (S.set n (.dT kd))[n]? = some (.dT kd) := set_at hS
    have hput : Good b (putKD kd (kk (j + 1) s) (.int (cnt (j + 1) s b))) ∧ valD (putKD kd (kk (j + 1) s) (.int (cnt (j + 1) s b))) (kk (j + 1) s) = some (.int (cnt (j + 1) s b)) ∧ (putKD kd (kk (j + 1) s) (.int (cnt (j + 1) s b))).length ≤ kd.length + 1 := by
      exact ⟨g1.put _ _, putKD_val _ _ _, putKD_len _ _ _⟩
    obtain ⟨p1, p2, p3⟩ := hput
    refine ⟨putKD kd (kk (j + 1) s) (.int (cnt (j + 1) s b)), runD_ret rfl (sSeq_ok (first _ _) (sSeq_ok (sIf_t (S1 := S) ?_ (sSeq_ok (sAsg_ok eC_ok rfl) (sSeq_ok h1 (sDPutT_ok (ns := [((2 ^ (j + 1) : Nat) : Int), s]) (eVar_ok rfl) (eVar_ok rfl) (aCons_ok (eVar_ok rfl) (aCons_ok (eVar_ok rfl) aNil_ok)) hS2 (by omega))))) ?_)), p1, by omega⟩
    · rw [eDNot_ok (ns := [((2 ^ (j + 1) : Nat) : Int), s]) (aCons_ok (eVar_ok rfl) (aCons_ok (eVar_ok rfl) aNil_ok)) (eVar_ok rfl) hS, hkey, hv]
      rfl
    · rw [List.set_set, hkey]
      exact sRet_ok (eDGet_ok (ns := [((2 ^ (j + 1) : Nat) : Int), s]) (aCons_ok (eVar_ok rfl) (aCons_ok (eVar_ok rfl) aNil_ok)) (eVar_ok rfl) (set_at hS) p2)
  · refine ⟨kds, ?_, hg, by omega⟩
    rw [set_same hS]
    refine runD_ret rfl (sSeq_ok (first _ _) (sSeq_ok (sIf_f ?_ sSkip_ok) (sRet_ok (eDGet_ok (ns := [((2 ^ (j + 1) : Nat) : Int), s]) (aCons_ok (eVar_ok rfl) (aCons_ok (eVar_ok rfl) aNil_ok)) (eVar_ok rfl) hS (by rw [hkey]; exact hv)))))
    rw [eDNot_ok (ns := [((2 ^ (j + 1) : Nat) : Int), s]) (aCons_ok (eVar_ok rfl) (aCons_ok (eVar_ok rfl) aNil_ok)) (eVar_ok rfl) hS, hkey, hv]
    rfl
end DL
set_option Elab.async false
set_option linter.all false
set_option maxRecDepth 100000
set_option maxHeartbeats 1000000
namespace DL
open PySem L2
theorem splits_is {j : Nat} (hj : j ≤ 3) : SpOk j m_splits := by
  match j, hj with
  | 0, _ => exact spOk_zero m_splits_3
  | 1, _ => exact spOk_succ (by decide) (spOk_zero m_splits_2)
  | 2, _ => exact spOk_succ (by decide) (spOk_succ (r := m_splits_2) (by decide) (spOk_zero m_splits_1))
  | 3, _ => exact spOk_succ (by decide) (spOk_succ (r := m_splits_2) (by decide) (spOk_succ (r := m_splits_1) (by decide) (spOk_zero m_splits_0)))
theorem check_len_is {j : Nat} (hj : j ≤ 3) (S : Store) : m_check_length [.int ((2 ^ j : Nat) : Int)] S = .ok .non S := by
  match j, hj with
  | 0, _ => kernel_rfl
  | 1, _ => kernel_rfl
  | 2, _ => kernel_rfl
  | 3, _ => kernel_rfl
theorem count_is {j b : Nat} {s : Int} (hj : j ≤ 3) (hb : b ≤ 20) (h1 : -1000 ≤ s) (h2 : s ≤ 1000) (S : Store) : ∃ kds, m_count_lists [.int ((2 ^ j : Nat) : Int), .int s, .int (b : Int)] S = .ok (.int (cnt j s b)) (S ++ [.dT kds]) := by
  have hc : cst j ≤ 90000 := by
    match j, hj with
    | 0, _ => decide
    | 1, _ => decide
    | 2, _ => decide
    | 3, _ => decide
  obtain ⟨kds, q, _, _⟩ := splits_is hj b s S.length (S ++ [.dT []]) [] hb (by simp) (fun kv h => nomatch h) (by simpa using hc)
  rw [show (S ++ [OB.dT []]).set S.length (.dT kds) = S ++ [.dT kds] by simp] at q
  refine ⟨kds, runD_ret rfl (sSeq_ok (sExpr_ok (eCall_ok (aCons_ok (eVar_ok rfl) aNil_ok) (check_len_is hj S))) (sSeq_ok (sIf_f (eNot_ok (k := true) (eCall_ok (aCons_ok (eVar_ok rfl) (aCons_ok (eUn_ok eC_ok oNeg_i) (aCons_ok eC_ok aNil_ok))) (is_int_in (by omega) h2 S))) sSkip_ok)
    (sSeq_ok (sIf_f (eNot_ok (k := true) (eCall_ok (aCons_ok (eVar_ok rfl) (aCons_ok eC_ok (aCons_ok eC_ok aNil_ok))) (is_int_in (by omega) (by omega) S))) sSkip_ok) (sRet_ok (eCall_ok (aCons_ok (eVar_ok rfl) (aCons_ok (eVar_ok rfl) (aCons_ok (eVar_ok rfl) (aCons_ok rfl aNil_ok)))) q)))))⟩
end DL
set_option Elab.async false
set_option linter.all false
set_option maxRecDepth 100000
set_option maxHeartbeats 1000000
namespace DL.K10
open PySem L2
theorem turnC_okk {t : DG} {f : DE} {ρ ρ' : DEnv} {d : D} {S : Store} {R : Out} (ht : t d ρ = some ρ') (h : f ρ' S = R) : turnC t f ρ d S = R := by
  unfold turnC
  rw [ht]
  exact h
abbrev LL (rs : List (List Int)) : D := .lst (rs.map L)
theorem eqD_LL (a b : List (List Int)) : eqD (LL a) (LL b) = decide (a = b) := by
  show eqD (.lst _) (.lst _) = _
  rw [eqD]
  exact eqAll_map _ eqD_L a b
theorem ne_LL {a b : List (List Int)} (h : a = b) (S : Store) : oNe (LL a) (LL b) S = .ok (.bl false) S := by
  rw [oNe_of (show okD 6 (LL a) = true from okD_all _ (okD_L 4) a) (show okD 6 (LL b) = true from okD_all _ (okD_L 4) b), eqD_LL, decide_eq_true h]
  rfl
def ext1 (one : List Int) : List (List Int) := (rg (-4) 9).map fun v => one ++ [v]
def ext (rows : List (List Int)) : List (List Int) := rows.flatMap ext1
def RR : Nat → List (List Int)
  | 0 => [[]]
  | k + 1 => ext (RR k)
def fin (n : Nat) (s : Int) : List (List Int) := (RR (n - 1)).map fun one => one ++ [s - one.sum]
def okr (b : Nat) (row : List Int) : Bool := ((made row).drop 1).all fun p => decide (p.natAbs ≤ b)
def due (n : Nat) (s : Int) (b : Nat) : List (List Int) := (fin n s).filter (okr b)
theorem oAdd_ll {a b : List D} {S : Store} (h : a.length + b.length ≤ 100000) : oAdd (.lst a) (.lst b) S = .ok (.lst (a ++ b)) S := by
  show (if a.length + b.length ≤ 100000 then _ else _) = _
  rw [if_pos h]
theorem comp9 {ρ : DEnv} {S : Store} {one : List Int} (hl : 19 < ρ.length) (h : ρ[14]? = some (.val (L one))) (ho : one.length ≤ 100) : (eLc (eRng (aCons (eBin oSub (eC (.int 0)) (eC (.int 4))) (aCons (eC (.int 5)) aNil))) (tgName 19) eYes (eBin oAdd (eVar 14) (eLst (aCons (eVar 19) aNil)))) ρ S = .ok (LL (ext1 one)) S := by
  have q := eLc_ints (it := eRng (aCons (eBin oSub (eC (.int 0)) (eC (.int 4))) (aCons (eC (.int 5)) aNil))) (e := eBin oAdd (eVar 14) (eLst (aCons (eVar 19) aNil))) (j := 19) (ρ := ρ) (S := S) (ns := rg (-4) 9) (fun v => L (one ++ [v])) (eRng_ok (aCons_ok (eBin_ok eC_ok eC_ok oSub_ii) (aCons_ok eC_ok aNil_ok)) (rg2 (by decide) (by decide) S)) (by rw [rg_len]; decide) (fun v _ => by
    refine eBin_ok (eVar_ok (by rw [List.getElem?_set_ne (by decide)]; exact h)) (eLst_ok (aCons_ok (eVar_ok (List.getElem?_set_self hl)) aNil_ok)) ?_
    rw [oAdd_ll (by simp; omega)]
    show _ = Out.ok (.lst ((one ++ [v]).map D.int)) S
    rw [List.map_append]
    rfl)
  rw [q]
  show _ = Out.ok (.lst ((ext1 one).map L)) S
  unfold ext1
  rw [List.map_map]
  rfl
theorem ext1_len (one : List Int) : (ext1 one).length = 9 := by simp [ext1, rg_len]
theorem ext_len : ∀ rows : List (List Int), (ext rows).length = 9 * rows.length
  | [] => rfl
  | r :: rs => by
    show (ext1 r ++ ext rs).length = _
    rw [List.length_append, ext1_len, ext_len rs, List.length_cons]
    omega
theorem inner (d : D) (n : Nat) (s : Int) (b : Nat) (rows : List (List Int)) (x4 : Slot) (S : Store) : ∀ (rest acc : List (List Int)) (x14 : Slot), acc.length + 9 * rest.length ≤ 90000 → (∀ r ∈ rest, r.length ≤ 100) →
    ∃ y14, loopF (turnF (tgName 14) (sAsg (eBin oAdd (eVar 13) (eLc (eRng (aCons (eBin oSub (eC (.int 0)) (eC (.int 4))) (aCons (eC (.int 5)) aNil))) (tgName 19) eYes (eBin oAdd (eVar 14) (eLst (aCons (eVar 19) aNil))))) (tgName 13))) (rest.map L) [.val d, .val (.obj 1), .val (.int (n : Int)), .val (LL rows), x4, .emp, .emp, .emp, .emp, .emp, .emp, .val (.int s), .val (.int (b : Int)), .val (LL acc), x14, .emp, .emp, .emp, .emp, .emp] S = .nx [.val d, .val (.obj 1), .val (.int (n : Int)), .val (LL rows), x4, .emp, .emp, .emp, .emp, .emp, .emp, .val (.int s), .val (.int (b : Int)), .val (LL (acc ++ ext rest)), y14, .emp, .emp, .emp, .emp, .emp] S
  | [], acc, x14, _, _ => ⟨x14, by
    show OutS.nx _ S = _
    rw [show acc ++ ext [] = acc from List.append_nil _]⟩
  | r :: rest, acc, x14, h, hr => by
    obtain ⟨y14, q⟩ := inner d n s b rows x4 S rest (acc ++ ext1 r) (.val (L r)) (by rw [List.length_append, ext1_len]; rw [List.length_cons] at h; omega) (fun z hz => hr z (List.mem_cons_of_mem _ hz))
    refine ⟨y14, ?_⟩
    rw [List.map_cons]
    refine loopF_nx (ρ' := [.val d, .val (.obj 1), .val (.int (n : Int)), .val (LL rows), x4, .emp, .emp, .emp, .emp, .emp, .emp, .val (.int s), .val (.int (b : Int)), .val (LL (acc ++ ext1 r)), .val (L r), .emp, .emp, .emp, .emp, .emp]) (S1 := S) (turnF_ok rfl (sAsg_ok (eBin_ok (eVar_ok rfl) (comp9 (one := r) (show 19 < 20 by decide) rfl (hr r List.mem_cons_self)) (oAdd_ll ?_)) ?_)) ?_
    · rw [List.length_map, List.length_map, ext1_len]
      rw [List.length_cons] at h
      omega
    · rw [← List.map_append]
      rfl
    · rw [q, List.append_assoc]
      rfl
theorem RR_len : ∀ k : Nat, (RR k).length = 9 ^ k
  | 0 => rfl
  | k + 1 => by rw [RR, ext_len, RR_len k, Nat.pow_succ, Nat.mul_comm]
theorem RR_mem : ∀ (k : Nat), ∀ r ∈ RR k, r.length = k
  | 0, r, h => by
    rw [RR, List.mem_singleton] at h
    rw [h]
    rfl
  | k + 1, r, h => by
    obtain ⟨one, h1, h2⟩ := List.mem_flatMap.mp h
    obtain ⟨v, _, rfl⟩ := List.mem_map.mp h2
    rw [List.length_append, RR_mem k one h1]
    rfl
theorem fin_mem {n : Nat} (hn : 1 ≤ n) {s : Int} : ∀ r ∈ fin n s, r.length = n := fun r h => by
  obtain ⟨one, h1, rfl⟩ := List.mem_map.mp h
  rw [List.length_append, RR_mem (n - 1) one h1]
  simp
  omega
theorem lastc {ρ : DEnv} {S : Store} {rows : List (List Int)} {s : Int} (hl : 14 < ρ.length) (h : ρ[3]? = some (.val (LL rows))) (h11 : ρ[11]? = some (.val (.int s))) (hr : rows.length ≤ 100000) (hm : ∀ r ∈ rows, r.length ≤ 100) :
    (eLc (eSeq (eVar 3)) (tgName 14) eYes (eBin oAdd (eVar 14) (eLst (aCons (eBin oSub (eVar 11) (eCall oSum (aCons (eVar 14) aNil))) aNil)))) ρ S = .ok (LL (rows.map fun one => one ++ [s - one.sum])) S := by
  have q := eLc_map (it := eSeq (eVar 3)) (t := tgName 14) (e := eBin oAdd (eVar 14) (eLst (aCons (eBin oSub (eVar 11) (eCall oSum (aCons (eVar 14) aNil))) aNil))) (ρ := ρ) (S := S) (ds := rows.map L) (fun d => match d with
      | .lst xs => .lst (xs ++ [.int (s - ((asInts xs).getD []).sum)])
      | _ => .non) (eSeq_l (eVar_ok h)) (by rw [List.length_map]; exact hr) (fun d _ => ⟨_, rfl⟩) (fun d hd => by
    obtain ⟨r, hr', rfl⟩ := List.mem_map.mp hd
    have hv : (ρ.set 14 (.val (L r)))[14]? = some (.val (L r)) := List.getElem?_set_self hl
    have h2 : (ρ.set 14 (.val (L r)))[11]? = some (.val (.int s)) := by rw [List.getElem?_set_ne (by decide)]; exact h11
    refine turnC_okk rfl (eBin_ok (eVar_ok hv) (eLst_ok (aCons_ok (eBin_ok (eVar_ok h2) (eCall_ok (aCons_ok (eVar_ok hv) aNil_ok) (oSum_L r S)) oSub_ii) aNil_ok)) ?_)
    rw [oAdd_ll (by have := hm r hr'; simp; omega)]
    show _ = Out.ok (.lst (r.map D.int ++ [.int (s - ((asInts (r.map D.int)).getD []).sum)])) S
    rw [asInts_map]
    rfl)
  rw [q, List.map_map]
  show _ = Out.ok (.lst (List.map L (List.map _ rows))) S
  rw [List.map_map]
  congr 2
  apply List.map_congr_left
  intro r _
  show D.lst (r.map D.int ++ [.int (s - ((asInts (r.map D.int)).getD []).sum)]) = L (r ++ [s - r.sum])
  rw [asInts_map]
  show _ = D.lst ((r ++ [s - r.sum]).map D.int)
  rw [List.map_append]
  rfl
theorem st4 (d : D) {n : Nat} (h1 : 1 ≤ n) (h2 : n ≤ 4) (s : Int) (b : Nat) (S : Store) : ∃ x4 x13 x14, b_law_4 [.val d, .val (.obj 1), .val (.int (n : Int)), .val (LL [[]]), .emp, .emp, .emp, .emp, .emp, .emp, .emp, .val (.int s), .val (.int (b : Int)), .emp, .emp, .emp, .emp, .emp, .emp, .emp] S = .nx [.val d, .val (.obj 1), .val (.int (n : Int)), .val (LL (fin n s)), x4, .emp, .emp, .emp, .emp, .emp, .emp, .val (.int s), .val (.int (b : Int)), x13, x14, .emp, .emp, .emp, .emp, .emp] S := by
  unfold b_law_4
  let I : Nat → DEnv → Store → Prop := fun i ρ S' => S' = S ∧ ∃ x4 x13 x14, ρ = [.val d, .val (.obj 1), .val (.int (n : Int)), .val (LL (if i < n then RR i else fin n s)), x4, .emp, .emp, .emp, .emp, .emp, .emp, .val (.int s), .val (.int (b : Int)), x13, x14, .emp, .emp, .emp, .emp, .emp]
  have h9 : ∀ i, i < n → (RR i).length ≤ 729 := fun i hi => by
    rw [RR_len]
    exact Nat.le_trans (Nat.pow_le_pow_right (by decide) (by omega : i ≤ 3)) (by decide)
  obtain ⟨ρ', S', q1, rfl, x4, x13, x14, rfl⟩ := for_inv (j := 4) (b := (sSeq (sAsg (eLst aNil) (tgName 13)) (sSeq (sFor (eSeq (eVar 3)) (tgName 14) (sAsg (eBin oAdd (eVar 13) (eLc (eRng (aCons (eBin oSub (eC (.int 0)) (eC (.int 4))) (aCons (eC (.int 5)) aNil))) (tgName 19) eYes (eBin oAdd (eVar 14) (eLst (aCons (eVar 19) aNil))))) (tgName 13))) (sAsg (eIf (eBin oLt (eVar 4) (eBin oSub (eVar 2) (eC (.int 1)))) (eVar 13) (eLc (eSeq (eVar 3)) (tgName 14) eYes (eBin oAdd (eVar 14) (eLst (aCons (eBin oSub (eVar 11) (eCall oSum (aCons (eVar 14) aNil))) aNil))))) (tgName 3))))) (it := eRng (aCons (eVar 2) aNil)) I (lo := 0) (n := n) (ρ := [.val d, .val (.obj 1), .val (.int (n : Int)), .val (LL [[]]), .emp, .emp, .emp, .emp, .emp, .emp, .emp, .val (.int s), .val (.int (b : Int)), .emp, .emp, .emp, .emp, .emp, .emp, .emp]) (S := S)
    (eRng_ok (aCons_ok (eVar_ok rfl) aNil_ok) (by
      have := rg1 (j := (n : Int)) (smallI (by omega) (by omega)) S
      rw [Int.toNat_natCast] at this
      exact this)) ⟨rfl, .emp, .emp, .emp, by rw [if_pos (by omega)]; rfl⟩ (fun i ρ S' hi hI => by
      obtain ⟨rfl, x4, x13, x14, rfl⟩ := hI
      rw [if_pos hi]
      obtain ⟨y14, q⟩ := inner d n s b (RR i) (.val (.int (0 + (i : Nat)))) S' (RR i) [] x14 (by have := h9 i hi; simp; omega) (fun r hr => by rw [RR_mem i r hr]; omega)
      rw [List.nil_append] at q
      refine ⟨[.val d, .val (.obj 1), .val (.int (n : Int)), .val (LL (if i + 1 < n then RR (i + 1) else fin n s)), .val (.int (0 + (i : Nat))), .emp, .emp, .emp, .emp, .emp, .emp, .val (.int s), .val (.int (b : Int)), .val (LL (ext (RR i))), y14, .emp, .emp, .emp, .emp, .emp], S', ?_, rfl, .val (.int (0 + (i : Nat))), .val (LL (ext (RR i))), y14, rfl⟩
      refine sSeq_ok (sAsg_ok (eLst_ok aNil_ok) rfl) (sSeq_ok (sFor_ok (eSeq_l (eVar_ok rfl)) q) (sAsg_ok (S1 := S') (d := LL (if i + 1 < n then RR (i + 1) else fin n s)) ?_ rfl))
      have ht : (eBin oLt (eVar 4) (eBin oSub (eVar 2) (eC (.int 1)))) [.val d, .val (.obj 1), .val (.int (n : Int)), .val (LL (RR i)), .val (.int (0 + (i : Nat))), .emp, .emp, .emp, .emp, .emp, .emp, .val (.int s), .val (.int (b : Int)), .val (LL (ext (RR i))), y14, .emp, .emp, .emp, .emp, .emp] S' = .ok (.bl (decide ((0 : Int) + (i : Nat) < (n : Int) - 1))) S' := eBin_ok (eVar_ok rfl) (eBin_ok (eVar_ok rfl) eC_ok oSub_ii) oLt_ii
      by_cases hl : i + 1 < n
      · rw [decide_eq_true (by omega)] at ht
        rw [if_pos hl]
        exact eIf_t ht (eVar_ok rfl)
      · rw [decide_eq_false (by omega)] at ht
        rw [if_neg hl]
        refine eIf_f ht ?_
        have hi' : i = n - 1 := by omega
        rw [hi']
        exact lastc (show 14 < 20 by decide) rfl rfl (by have := h9 (n - 1) (by omega); omega) (fun r hr => by rw [RR_mem _ r hr]; omega))
  rw [if_neg (by omega)] at q1
  exact ⟨x4, x13, x14, q1⟩
theorem test6 {ρ : DEnv} {S : Store} {f : List Int} {b : Nat} (hl : 10 < ρ.length) (h15 : ρ[15]? = some (.val (L f))) (h12 : ρ[12]? = some (.val (.int (b : Int)))) (hf : 1 ≤ f.length) (hf2 : f.length ≤ 100) :
    (eBin oEq (eLc (eSeq (eSl (eVar 15) (pSome (eC (.int 1))) pNo)) (tgName 10) (eBin oGt (eCall oAbs (aCons (eVar 10) aNil)) (eVar 12)) (eVar 10)) (eLst aNil)) ρ S = .ok (.bl ((f.drop 1).all fun p => decide (p.natAbs ≤ b))) S := by
  have q := eLc_intsF (it := eSeq (eSl (eVar 15) (pSome (eC (.int 1))) pNo)) (c := eBin oGt (eCall oAbs (aCons (eVar 10) aNil)) (eVar 12)) (e := eVar 10) (j := 10) (ρ := ρ) (S := S) (ns := f.drop 1) (fun p => decide ((b : Int) < ((p.natAbs : Nat) : Int))) D.int (eSeq_l (eSl_ok (eVar_ok h15) (pSome_ok eC_ok) pNo_ok (cut_from (a := 1) hf S))) (by rw [List.length_drop]; omega)
    (fun p _ => eBin_ok (eCall_ok (aCons_ok (eVar_ok (List.getElem?_set_self hl)) aNil_ok) (oAbs_n p S)) (eVar_ok (by rw [List.getElem?_set_ne (by decide)]; exact h12)) oGt_ii) (fun p _ _ => eVar_ok (List.getElem?_set_self hl))
  refine eBin_ok q (eLst_ok aNil_ok) ?_
  show oEq (L _) (L []) S = _
  rw [oEq_L]
  congr 2
  generalize f.drop 1 = g
  induction g with
  | nil => rfl
  | cons p g ih =>
    rw [List.filter_cons, List.all_cons]
    by_cases hp : p.natAbs ≤ b
    · rw [if_neg (by simp; omega), decide_eq_true hp, Bool.true_and]
      exact ih
    · rw [if_pos (by simp; omega), decide_eq_false hp]
      rfl
theorem loop6 (d : D) {n : Nat} (hn : Len16 n) (s : Int) (b : Nat) (x4 x13 x14 : Slot) (rows : List (List Int)) (S : Store) : ∀ (rest acc : List (List Int)) (x6 x15 : Slot), acc.length + rest.length ≤ 90000 → (∀ r ∈ rest, r.length = n) →
    ∃ y6 y15, loopF (turnF (tgName 6) (sSeq (sAsg (eCall m_law_made (aCons (eVar 6) aNil)) (tgName 15)) (sIf (eBin oEq (eLc (eSeq (eSl (eVar 15) (pSome (eC (.int 1))) pNo)) (tgName 10) (eBin oGt (eCall oAbs (aCons (eVar 10) aNil)) (eVar 12)) (eVar 10)) (eLst aNil)) (sApp 5 (eVar 6)) sSkip))) (rest.map L) [.val d, .val (.obj 1), .val (.int (n : Int)), .val (LL rows), x4, .own (acc.map L), x6, .emp, .emp, .emp, .emp, .val (.int s), .val (.int (b : Int)), x13, x14, x15, .emp, .emp, .emp, .emp] S = .nx [.val d, .val (.obj 1), .val (.int (n : Int)), .val (LL rows), x4, .own ((acc ++ rest.filter (okr b)).map L), y6, .emp, .emp, .emp, .emp, .val (.int s), .val (.int (b : Int)), x13, x14, y15, .emp, .emp, .emp, .emp] S
  | [], acc, x6, x15, _, _ => ⟨x6, x15, by
    show OutS.nx _ S = _
    rw [show acc ++ List.filter (okr b) [] = acc from List.append_nil _]⟩
  | r :: rest, acc, x6, x15, h, hr => by
    have hrn := hr r List.mem_cons_self
    have hl : Len16 r.length := by rw [hrn]; exact hn
    have hm := made_len hl
    have h16 : 1 ≤ r.length ∧ r.length ≤ 16 := by unfold Len16 at hl; omega
    rw [List.length_cons] at h
    have ht := test6 (ρ := [.val d, .val (.obj 1), .val (.int (n : Int)), .val (LL rows), x4, .own (acc.map L), .val (L r), .emp, .emp, .emp, .emp, .val (.int s), .val (.int (b : Int)), x13, x14, .val (L (made r)), .emp, .emp, .emp, .emp]) (S := S) (f := made r) (b := b) (show 10 < 20 by decide) rfl rfl (by rw [hm]; omega) (by rw [hm]; omega)
    have hok : okr b r = ((made r).drop 1).all fun p => decide (p.natAbs ≤ b) := rfl
    rw [← hok] at ht
    rw [List.map_cons]
    cases hq : okr b r with
    | true =>
      rw [hq] at ht
      obtain ⟨y6, y15, q⟩ := loop6 d hn s b x4 x13 x14 rows S rest (acc ++ [r]) (.val (L r)) (.val (L (made r))) (by rw [List.length_append, List.length_singleton]; omega) (fun z hz => hr z (List.mem_cons_of_mem _ hz))
      refine ⟨y6, y15, loopF_nx (ρ' := [.val d, .val (.obj 1), .val (.int (n : Int)), .val (LL rows), x4, .own ((acc ++ [r]).map L), .val (L r), .emp, .emp, .emp, .emp, .val (.int s), .val (.int (b : Int)), x13, x14, .val (L (made r)), .emp, .emp, .emp, .emp]) (S1 := S) (turnF_ok rfl (sSeq_ok (sAsg_ok (eCall_ok (aCons_ok (eVar_ok rfl) aNil_ok) (made_is hl S)) rfl) (sIf_t ht ?_))) ?_⟩
      · rw [List.map_append]
        exact sApp_ok rfl (eVar_ok rfl) (by rw [List.length_map]; omega)
      · rw [q, List.filter_cons, if_pos hq, List.append_assoc]
        rfl
    | false =>
      rw [hq] at ht
      obtain ⟨y6, y15, q⟩ := loop6 d hn s b x4 x13 x14 rows S rest acc (.val (L r)) (.val (L (made r))) (by omega) (fun z hz => hr z (List.mem_cons_of_mem _ hz))
      refine ⟨y6, y15, loopF_nx (ρ' := [.val d, .val (.obj 1), .val (.int (n : Int)), .val (LL rows), x4, .own (acc.map L), .val (L r), .emp, .emp, .emp, .emp, .val (.int s), .val (.int (b : Int)), x13, x14, .val (L (made r)), .emp, .emp, .emp, .emp]) (S1 := S) (turnF_ok rfl (sSeq_ok (sAsg_ok (eCall_ok (aCons_ok (eVar_ok rfl) aNil_ok) (made_is hl S)) rfl) (sIf_f ht sSkip_ok))) ?_⟩
      rw [q, List.filter_cons, if_neg (by rw [hq]; decide)]
abbrev lv (n : Nat) : Nat := if n = 1 then 0 else if n = 2 then 1 else 2
theorem al_1_0_0 (S : Store) : m_all_lists [.int 1, .int (-4), .int 0] S = .ok (LL (due 1 (-4) 0)) S := by kernel_rfl
theorem al_1_0_1 (S : Store) : m_all_lists [.int 1, .int (-4), .int 1] S = .ok (LL (due 1 (-4) 1)) S := by kernel_rfl
theorem al_1_0_2 (S : Store) : m_all_lists [.int 1, .int (-4), .int 2] S = .ok (LL (due 1 (-4) 2)) S := by kernel_rfl
theorem al_1_1_0 (S : Store) : m_all_lists [.int 1, .int (-3), .int 0] S = .ok (LL (due 1 (-3) 0)) S := by kernel_rfl
theorem al_1_1_1 (S : Store) : m_all_lists [.int 1, .int (-3), .int 1] S = .ok (LL (due 1 (-3) 1)) S := by kernel_rfl
theorem al_1_1_2 (S : Store) : m_all_lists [.int 1, .int (-3), .int 2] S = .ok (LL (due 1 (-3) 2)) S := by kernel_rfl
theorem al_1_2_0 (S : Store) : m_all_lists [.int 1, .int (-2), .int 0] S = .ok (LL (due 1 (-2) 0)) S := by kernel_rfl
theorem al_1_2_1 (S : Store) : m_all_lists [.int 1, .int (-2), .int 1] S = .ok (LL (due 1 (-2) 1)) S := by kernel_rfl
theorem al_1_2_2 (S : Store) : m_all_lists [.int 1, .int (-2), .int 2] S = .ok (LL (due 1 (-2) 2)) S := by kernel_rfl
theorem al_1_3_0 (S : Store) : m_all_lists [.int 1, .int (-1), .int 0] S = .ok (LL (due 1 (-1) 0)) S := by kernel_rfl
theorem al_1_3_1 (S : Store) : m_all_lists [.int 1, .int (-1), .int 1] S = .ok (LL (due 1 (-1) 1)) S := by kernel_rfl
theorem al_1_3_2 (S : Store) : m_all_lists [.int 1, .int (-1), .int 2] S = .ok (LL (due 1 (-1) 2)) S := by kernel_rfl
theorem al_1_4_0 (S : Store) : m_all_lists [.int 1, .int (0), .int 0] S = .ok (LL (due 1 (0) 0)) S := by kernel_rfl
theorem al_1_4_1 (S : Store) : m_all_lists [.int 1, .int (0), .int 1] S = .ok (LL (due 1 (0) 1)) S := by kernel_rfl
theorem al_1_4_2 (S : Store) : m_all_lists [.int 1, .int (0), .int 2] S = .ok (LL (due 1 (0) 2)) S := by kernel_rfl
theorem al_1_5_0 (S : Store) : m_all_lists [.int 1, .int (1), .int 0] S = .ok (LL (due 1 (1) 0)) S := by kernel_rfl
theorem al_1_5_1 (S : Store) : m_all_lists [.int 1, .int (1), .int 1] S = .ok (LL (due 1 (1) 1)) S := by kernel_rfl
theorem al_1_5_2 (S : Store) : m_all_lists [.int 1, .int (1), .int 2] S = .ok (LL (due 1 (1) 2)) S := by kernel_rfl
theorem al_1_6_0 (S : Store) : m_all_lists [.int 1, .int (2), .int 0] S = .ok (LL (due 1 (2) 0)) S := by kernel_rfl
theorem al_1_6_1 (S : Store) : m_all_lists [.int 1, .int (2), .int 1] S = .ok (LL (due 1 (2) 1)) S := by kernel_rfl
theorem al_1_6_2 (S : Store) : m_all_lists [.int 1, .int (2), .int 2] S = .ok (LL (due 1 (2) 2)) S := by kernel_rfl
theorem al_1_7_0 (S : Store) : m_all_lists [.int 1, .int (3), .int 0] S = .ok (LL (due 1 (3) 0)) S := by kernel_rfl
theorem al_1_7_1 (S : Store) : m_all_lists [.int 1, .int (3), .int 1] S = .ok (LL (due 1 (3) 1)) S := by kernel_rfl
theorem al_1_7_2 (S : Store) : m_all_lists [.int 1, .int (3), .int 2] S = .ok (LL (due 1 (3) 2)) S := by kernel_rfl
theorem al_1_8_0 (S : Store) : m_all_lists [.int 1, .int (4), .int 0] S = .ok (LL (due 1 (4) 0)) S := by kernel_rfl
theorem al_1_8_1 (S : Store) : m_all_lists [.int 1, .int (4), .int 1] S = .ok (LL (due 1 (4) 1)) S := by kernel_rfl
theorem al_1_8_2 (S : Store) : m_all_lists [.int 1, .int (4), .int 2] S = .ok (LL (due 1 (4) 2)) S := by kernel_rfl
theorem al_2_0_0 (S : Store) : m_all_lists [.int 2, .int (-4), .int 0] S = .ok (LL (due 2 (-4) 0)) S := by kernel_rfl
theorem al_2_0_1 (S : Store) : m_all_lists [.int 2, .int (-4), .int 1] S = .ok (LL (due 2 (-4) 1)) S := by kernel_rfl
theorem al_2_0_2 (S : Store) : m_all_lists [.int 2, .int (-4), .int 2] S = .ok (LL (due 2 (-4) 2)) S := by kernel_rfl
theorem al_2_1_0 (S : Store) : m_all_lists [.int 2, .int (-3), .int 0] S = .ok (LL (due 2 (-3) 0)) S := by kernel_rfl
theorem al_2_1_1 (S : Store) : m_all_lists [.int 2, .int (-3), .int 1] S = .ok (LL (due 2 (-3) 1)) S := by kernel_rfl
theorem al_2_1_2 (S : Store) : m_all_lists [.int 2, .int (-3), .int 2] S = .ok (LL (due 2 (-3) 2)) S := by kernel_rfl
theorem al_2_2_0 (S : Store) : m_all_lists [.int 2, .int (-2), .int 0] S = .ok (LL (due 2 (-2) 0)) S := by kernel_rfl
theorem al_2_2_1 (S : Store) : m_all_lists [.int 2, .int (-2), .int 1] S = .ok (LL (due 2 (-2) 1)) S := by kernel_rfl
theorem al_2_2_2 (S : Store) : m_all_lists [.int 2, .int (-2), .int 2] S = .ok (LL (due 2 (-2) 2)) S := by kernel_rfl
theorem al_2_3_0 (S : Store) : m_all_lists [.int 2, .int (-1), .int 0] S = .ok (LL (due 2 (-1) 0)) S := by kernel_rfl
theorem al_2_3_1 (S : Store) : m_all_lists [.int 2, .int (-1), .int 1] S = .ok (LL (due 2 (-1) 1)) S := by kernel_rfl
theorem al_2_3_2 (S : Store) : m_all_lists [.int 2, .int (-1), .int 2] S = .ok (LL (due 2 (-1) 2)) S := by kernel_rfl
theorem al_2_4_0 (S : Store) : m_all_lists [.int 2, .int (0), .int 0] S = .ok (LL (due 2 (0) 0)) S := by kernel_rfl
theorem al_2_4_1 (S : Store) : m_all_lists [.int 2, .int (0), .int 1] S = .ok (LL (due 2 (0) 1)) S := by kernel_rfl
theorem al_2_4_2 (S : Store) : m_all_lists [.int 2, .int (0), .int 2] S = .ok (LL (due 2 (0) 2)) S := by kernel_rfl
theorem al_2_5_0 (S : Store) : m_all_lists [.int 2, .int (1), .int 0] S = .ok (LL (due 2 (1) 0)) S := by kernel_rfl
theorem al_2_5_1 (S : Store) : m_all_lists [.int 2, .int (1), .int 1] S = .ok (LL (due 2 (1) 1)) S := by kernel_rfl
theorem al_2_5_2 (S : Store) : m_all_lists [.int 2, .int (1), .int 2] S = .ok (LL (due 2 (1) 2)) S := by kernel_rfl
theorem al_2_6_0 (S : Store) : m_all_lists [.int 2, .int (2), .int 0] S = .ok (LL (due 2 (2) 0)) S := by kernel_rfl
theorem al_2_6_1 (S : Store) : m_all_lists [.int 2, .int (2), .int 1] S = .ok (LL (due 2 (2) 1)) S := by kernel_rfl
theorem al_2_6_2 (S : Store) : m_all_lists [.int 2, .int (2), .int 2] S = .ok (LL (due 2 (2) 2)) S := by kernel_rfl
theorem al_2_7_0 (S : Store) : m_all_lists [.int 2, .int (3), .int 0] S = .ok (LL (due 2 (3) 0)) S := by kernel_rfl
theorem al_2_7_1 (S : Store) : m_all_lists [.int 2, .int (3), .int 1] S = .ok (LL (due 2 (3) 1)) S := by kernel_rfl
theorem al_2_7_2 (S : Store) : m_all_lists [.int 2, .int (3), .int 2] S = .ok (LL (due 2 (3) 2)) S := by kernel_rfl
theorem al_2_8_0 (S : Store) : m_all_lists [.int 2, .int (4), .int 0] S = .ok (LL (due 2 (4) 0)) S := by kernel_rfl
theorem al_2_8_1 (S : Store) : m_all_lists [.int 2, .int (4), .int 1] S = .ok (LL (due 2 (4) 1)) S := by kernel_rfl
theorem al_2_8_2 (S : Store) : m_all_lists [.int 2, .int (4), .int 2] S = .ok (LL (due 2 (4) 2)) S := by kernel_rfl
theorem al_4_0_0 (S : Store) : m_all_lists [.int 4, .int (-4), .int 0] S = .ok (LL (due 4 (-4) 0)) S := by kernel_rfl
theorem al_4_0_1 (S : Store) : m_all_lists [.int 4, .int (-4), .int 1] S = .ok (LL (due 4 (-4) 1)) S := by kernel_rfl
theorem al_4_0_2 (S : Store) : m_all_lists [.int 4, .int (-4), .int 2] S = .ok (LL (due 4 (-4) 2)) S := by kernel_rfl
theorem al_4_1_0 (S : Store) : m_all_lists [.int 4, .int (-3), .int 0] S = .ok (LL (due 4 (-3) 0)) S := by kernel_rfl
theorem al_4_1_1 (S : Store) : m_all_lists [.int 4, .int (-3), .int 1] S = .ok (LL (due 4 (-3) 1)) S := by kernel_rfl
theorem al_4_1_2 (S : Store) : m_all_lists [.int 4, .int (-3), .int 2] S = .ok (LL (due 4 (-3) 2)) S := by kernel_rfl
theorem al_4_2_0 (S : Store) : m_all_lists [.int 4, .int (-2), .int 0] S = .ok (LL (due 4 (-2) 0)) S := by kernel_rfl
theorem al_4_2_1 (S : Store) : m_all_lists [.int 4, .int (-2), .int 1] S = .ok (LL (due 4 (-2) 1)) S := by kernel_rfl
theorem al_4_2_2 (S : Store) : m_all_lists [.int 4, .int (-2), .int 2] S = .ok (LL (due 4 (-2) 2)) S := by kernel_rfl
theorem al_4_3_0 (S : Store) : m_all_lists [.int 4, .int (-1), .int 0] S = .ok (LL (due 4 (-1) 0)) S := by kernel_rfl
theorem al_4_3_1 (S : Store) : m_all_lists [.int 4, .int (-1), .int 1] S = .ok (LL (due 4 (-1) 1)) S := by kernel_rfl
theorem al_4_3_2 (S : Store) : m_all_lists [.int 4, .int (-1), .int 2] S = .ok (LL (due 4 (-1) 2)) S := by kernel_rfl
theorem al_4_4_0 (S : Store) : m_all_lists [.int 4, .int (0), .int 0] S = .ok (LL (due 4 (0) 0)) S := by kernel_rfl
theorem al_4_4_1 (S : Store) : m_all_lists [.int 4, .int (0), .int 1] S = .ok (LL (due 4 (0) 1)) S := by kernel_rfl
theorem al_4_4_2 (S : Store) : m_all_lists [.int 4, .int (0), .int 2] S = .ok (LL (due 4 (0) 2)) S := by kernel_rfl
theorem al_4_5_0 (S : Store) : m_all_lists [.int 4, .int (1), .int 0] S = .ok (LL (due 4 (1) 0)) S := by kernel_rfl
theorem al_4_5_1 (S : Store) : m_all_lists [.int 4, .int (1), .int 1] S = .ok (LL (due 4 (1) 1)) S := by kernel_rfl
theorem al_4_5_2 (S : Store) : m_all_lists [.int 4, .int (1), .int 2] S = .ok (LL (due 4 (1) 2)) S := by kernel_rfl
theorem al_4_6_0 (S : Store) : m_all_lists [.int 4, .int (2), .int 0] S = .ok (LL (due 4 (2) 0)) S := by kernel_rfl
theorem al_4_6_1 (S : Store) : m_all_lists [.int 4, .int (2), .int 1] S = .ok (LL (due 4 (2) 1)) S := by kernel_rfl
theorem al_4_6_2 (S : Store) : m_all_lists [.int 4, .int (2), .int 2] S = .ok (LL (due 4 (2) 2)) S := by kernel_rfl
theorem al_4_7_0 (S : Store) : m_all_lists [.int 4, .int (3), .int 0] S = .ok (LL (due 4 (3) 0)) S := by kernel_rfl
theorem al_4_7_1 (S : Store) : m_all_lists [.int 4, .int (3), .int 1] S = .ok (LL (due 4 (3) 1)) S := by kernel_rfl
theorem al_4_7_2 (S : Store) : m_all_lists [.int 4, .int (3), .int 2] S = .ok (LL (due 4 (3) 2)) S := by kernel_rfl
theorem al_4_8_0 (S : Store) : m_all_lists [.int 4, .int (4), .int 0] S = .ok (LL (due 4 (4) 0)) S := by kernel_rfl
theorem al_4_8_1 (S : Store) : m_all_lists [.int 4, .int (4), .int 1] S = .ok (LL (due 4 (4) 1)) S := by kernel_rfl
theorem al_4_8_2 (S : Store) : m_all_lists [.int 4, .int (4), .int 2] S = .ok (LL (due 4 (4) 2)) S := by kernel_rfl
theorem dl_len : ∀ n ∈ [1, 2, 4], ∀ s ∈ [(-4 : Int), -3, -2, -1, 0, 1, 2, 3, 4], ∀ b ∈ [0, 1, 2], cnt (lv n) s b = ((due n s b).length : Int) := by decide +kernel
theorem al_is {n : Nat} (hn : n = 1 ∨ n = 2 ∨ n = 4) {s : Int} (h1 : -4 ≤ s) (h2 : s ≤ 4) {b : Nat} (hb : b ≤ 2) (S : Store) : m_all_lists [.int (n : Int), .int s, .int (b : Int)] S = .ok (LL (due n s b)) S := by
  have hs : s = -4 ∨ s = -3 ∨ s = -2 ∨ s = -1 ∨ s = 0 ∨ s = 1 ∨ s = 2 ∨ s = 3 ∨ s = 4 := by omega
  have hb' : b = 0 ∨ b = 1 ∨ b = 2 := by omega
  rcases hn with rfl | rfl | rfl
  · rcases hs with rfl | rfl | rfl | rfl | rfl | rfl | rfl | rfl | rfl
    · rcases hb' with rfl | rfl | rfl
      · exact al_1_0_0 S
      · exact al_1_0_1 S
      · exact al_1_0_2 S
    · rcases hb' with rfl | rfl | rfl
      · exact al_1_1_0 S
      · exact al_1_1_1 S
      · exact al_1_1_2 S
    · rcases hb' with rfl | rfl | rfl
      · exact al_1_2_0 S
      · exact al_1_2_1 S
      · exact al_1_2_2 S
    · rcases hb' with rfl | rfl | rfl
      · exact al_1_3_0 S
      · exact al_1_3_1 S
      · exact al_1_3_2 S
    · rcases hb' with rfl | rfl | rfl
      · exact al_1_4_0 S
      · exact al_1_4_1 S
      · exact al_1_4_2 S
    · rcases hb' with rfl | rfl | rfl
      · exact al_1_5_0 S
      · exact al_1_5_1 S
      · exact al_1_5_2 S
    · rcases hb' with rfl | rfl | rfl
      · exact al_1_6_0 S
      · exact al_1_6_1 S
      · exact al_1_6_2 S
    · rcases hb' with rfl | rfl | rfl
      · exact al_1_7_0 S
      · exact al_1_7_1 S
      · exact al_1_7_2 S
    · rcases hb' with rfl | rfl | rfl
      · exact al_1_8_0 S
      · exact al_1_8_1 S
      · exact al_1_8_2 S
  · rcases hs with rfl | rfl | rfl | rfl | rfl | rfl | rfl | rfl | rfl
    · rcases hb' with rfl | rfl | rfl
      · exact al_2_0_0 S
      · exact al_2_0_1 S
      · exact al_2_0_2 S
    · rcases hb' with rfl | rfl | rfl
      · exact al_2_1_0 S
      · exact al_2_1_1 S
      · exact al_2_1_2 S
    · rcases hb' with rfl | rfl | rfl
      · exact al_2_2_0 S
      · exact al_2_2_1 S
      · exact al_2_2_2 S
    · rcases hb' with rfl | rfl | rfl
      · exact al_2_3_0 S
      · exact al_2_3_1 S
      · exact al_2_3_2 S
    · rcases hb' with rfl | rfl | rfl
      · exact al_2_4_0 S
      · exact al_2_4_1 S
      · exact al_2_4_2 S
    · rcases hb' with rfl | rfl | rfl
      · exact al_2_5_0 S
      · exact al_2_5_1 S
      · exact al_2_5_2 S
    · rcases hb' with rfl | rfl | rfl
      · exact al_2_6_0 S
      · exact al_2_6_1 S
      · exact al_2_6_2 S
    · rcases hb' with rfl | rfl | rfl
      · exact al_2_7_0 S
      · exact al_2_7_1 S
      · exact al_2_7_2 S
    · rcases hb' with rfl | rfl | rfl
      · exact al_2_8_0 S
      · exact al_2_8_1 S
      · exact al_2_8_2 S
  · rcases hs with rfl | rfl | rfl | rfl | rfl | rfl | rfl | rfl | rfl
    · rcases hb' with rfl | rfl | rfl
      · exact al_4_0_0 S
      · exact al_4_0_1 S
      · exact al_4_0_2 S
    · rcases hb' with rfl | rfl | rfl
      · exact al_4_1_0 S
      · exact al_4_1_1 S
      · exact al_4_1_2 S
    · rcases hb' with rfl | rfl | rfl
      · exact al_4_2_0 S
      · exact al_4_2_1 S
      · exact al_4_2_2 S
    · rcases hb' with rfl | rfl | rfl
      · exact al_4_3_0 S
      · exact al_4_3_1 S
      · exact al_4_3_2 S
    · rcases hb' with rfl | rfl | rfl
      · exact al_4_4_0 S
      · exact al_4_4_1 S
      · exact al_4_4_2 S
    · rcases hb' with rfl | rfl | rfl
      · exact al_4_5_0 S
      · exact al_4_5_1 S
      · exact al_4_5_2 S
    · rcases hb' with rfl | rfl | rfl
      · exact al_4_6_0 S
      · exact al_4_6_1 S
      · exact al_4_6_2 S
    · rcases hb' with rfl | rfl | rfl
      · exact al_4_7_0 S
      · exact al_4_7_1 S
      · exact al_4_7_2 S
    · rcases hb' with rfl | rfl | rfl
      · exact al_4_8_0 S
      · exact al_4_8_1 S
      · exact al_4_8_2 S
end DL.K10
set_option Elab.async false
set_option linter.all false
set_option maxRecDepth 100000
set_option maxHeartbeats 1000000
namespace DL.K10
open PySem L2
theorem count_any {j b : Nat} {s l b' : Int} (hl : l = ((2 ^ j : Nat) : Int)) (hb' : b' = (b : Int)) (hj : j ≤ 3) (hb : b ≤ 20) (h1 : -1000 ≤ s) (h2 : s ≤ 1000) (S : Store) : ∃ kds, m_count_lists [.int l, .int s, .int b'] S = .ok (.int (cnt j s b)) (S ++ [.dT kds]) := by
  subst hl hb'
  exact count_is hj hb h1 h2 S
theorem isDr_snoc {R S : Store} {o : OB} (h : IsDr R S) : IsDr (R ++ [o]) (S ++ [o]) := by
  obtain ⟨nums, c, hn, rfl⟩ := h
  exact ⟨nums, c, hn, rfl⟩
theorem st14 (d : D) (n : Nat) (s : Int) (b : Nat) (x4 x13 x14 x6 x15 : Slot) {j : Nat} (hj : j ≤ 2) {far : Int} (f1 : -100 ≤ far) (f2 : far ≤ 99) {m : Nat} (hm : m ≤ 7) (S : Store) : ∃ y10 y14 y18 S', b_law_14 [.val d, .val (.obj 1), .val (.int (n : Int)), .val (LL (fin n s)), x4, .val (LL (due n s b)), x6, .val (.int ((2 ^ (j + 1) : Nat) : Int)), .val (.int (cnt (j + 1) far m)), .val (.int 0), .emp, .val (.int s), .val (.int (b : Int)), x13, x14, x15, .val (.int far), .val (.int (m : Int)), .emp, .emp] S = .nx [.val d, .val (.obj 1), .val (.int (n : Int)), .val (LL (fin n s)), x4, .val (LL (due n s b)), x6, .val (.int ((2 ^ (j + 1) : Nat) : Int)), .val (.int (cnt (j + 1) far m)), .val (.int (cnt (j + 1) far m)), y10, .val (.int s), .val (.int (b : Int)), x13, y14, x15, .val (.int far), .val (.int (m : Int)), y18, .emp] S' := by
  unfold b_law_14
  have hp : ((2 ^ (j + 1) : Nat) : Int) = 2 * ((2 ^ j : Nat) : Int) := by rw [Nat.pow_succ]; omega
  have hhalf : ((2 ^ (j + 1) : Nat) : Int) / 2 = ((2 ^ j : Nat) : Int) := by omega
  let I : Nat → DEnv → Store → Prop := fun i ρ _ => ∃ y10 y14 y18, ρ = [.val d, .val (.obj 1), .val (.int (n : Int)), .val (LL (fin n s)), x4, .val (LL (due n s b)), x6, .val (.int ((2 ^ (j + 1) : Nat) : Int)), .val (.int (cnt (j + 1) far m)), .val (.int (isum (tmv (fun x => cnt j x m) far m) i)), y10, .val (.int s), .val (.int (b : Int)), x13, y14, x15, .val (.int far), .val (.int (m : Int)), y18, .emp]
  obtain ⟨ρ', S', q1, y10, y14, y18, rfl⟩ := for_inv (j := 10) (b := (sIf (eBin oEq (eBin oMod (eBin oAdd (eVar 16) (eVar 10)) (eC (.int 2))) (eC (.int 0))) (sSeq (sAsg (eTup (aCons (eBin oFdiv (eBin oAdd (eVar 16) (eVar 10)) (eC (.int 2))) (aCons (eBin oFdiv (eBin oSub (eVar 16) (eVar 10)) (eC (.int 2))) aNil))) (tgTup (tgCons (tgName 14) (tgCons (tgName 18) tgNil)))) (sAsg (eBin oAdd (eVar 9) (eBin oMul (eCall m_count_lists (aCons (eBin oFdiv (eVar 7) (eC (.int 2))) (aCons (eVar 14) (aCons (eVar 17) aNil)))) (eCall m_count_lists (aCons (eBin oFdiv (eVar 7) (eC (.int 2))) (aCons (eVar 18) (aCons (eVar 17) aNil)))))) (tgName 9))) sSkip)) (it := eRng (aCons (eBin oSub (eC (.int 0)) (eVar 17)) (aCons (eBin oAdd (eVar 17) (eC (.int 1))) aNil))) I (lo := -(m : Int)) (n := 2 * m + 1) (ρ := [.val d, .val (.obj 1), .val (.int (n : Int)), .val (LL (fin n s)), x4, .val (LL (due n s b)), x6, .val (.int ((2 ^ (j + 1) : Nat) : Int)), .val (.int (cnt (j + 1) far m)), .val (.int 0), .emp, .val (.int s), .val (.int (b : Int)), x13, x14, x15, .val (.int far), .val (.int (m : Int)), .emp, .emp]) (S := S)
    (eRng_ok (aCons_ok (eBin_ok eC_ok (eVar_ok rfl) oSub_ii) (aCons_ok (eBin_ok (eVar_ok rfl) eC_ok oAdd_ii) aNil_ok)) (by
      have := rg2 (i := 0 - (m : Int)) (j := (m : Int) + 1) (smallI (by omega) (by omega)) (smallI (by omega) (by omega)) S
      rw [show ((m : Int) + 1 - (0 - (m : Int))).toNat = 2 * m + 1 by omega] at this
      rw [this, Int.zero_sub])) ⟨_, _, _, rfl⟩ (fun i ρ S1 hi hI => by
      obtain ⟨y10, y14, y18, rfl⟩ := hI
      have hmod : (eBin oEq (eBin oMod (eBin oAdd (eVar 16) (eVar 10)) (eC (.int 2))) (eC (.int 0))) [.val d, .val (.obj 1), .val (.int (n : Int)), .val (LL (fin n s)), x4, .val (LL (due n s b)), x6, .val (.int ((2 ^ (j + 1) : Nat) : Int)), .val (.int (cnt (j + 1) far m)), .val (.int (isum (tmv (fun x => cnt j x m) far m) i)), .val (.int (-(m : Int) + (i : Nat))), .val (.int s), .val (.int (b : Int)), x13, y14, x15, .val (.int far), .val (.int (m : Int)), y18, .emp] S1 = .ok (.bl (decide ((far + (-(m : Int) + (i : Nat))) % 2 = 0))) S1 :=
        eBin_ok (eBin_ok (eBin_ok (eVar_ok rfl) (eVar_ok rfl) oAdd_ii) eC_ok (oMod_ii (by decide))) eC_ok (oEq_int _ _ _)
      by_cases hmm : (far + (-(m : Int) + (i : Nat))) % 2 = 0
      · rw [decide_eq_true hmm] at hmod
        obtain ⟨k1, c1⟩ := count_any (j := j) (b := m) (s := (far + (-(m : Int) + (i : Nat))) / 2) (l := ((2 ^ (j + 1) : Nat) : Int) / 2) (b' := (m : Int)) hhalf rfl (by omega) (by omega) (by omega) (by omega) S1
        obtain ⟨k2, c2⟩ := count_any (j := j) (b := m) (s := (far - (-(m : Int) + (i : Nat))) / 2) (l := ((2 ^ (j + 1) : Nat) : Int) / 2) (b' := (m : Int)) hhalf rfl (by omega) (by omega) (by omega) (by omega) (S1 ++ [.dT k1])
        have et : tmv (fun x => cnt j x m) far m i = cnt j ((far + (-(m : Int) + (i : Nat))) / 2) m * cnt j ((far - (-(m : Int) + (i : Nat))) / 2) m := if_pos hmm
        refine ⟨[.val d, .val (.obj 1), .val (.int (n : Int)), .val (LL (fin n s)), x4, .val (LL (due n s b)), x6, .val (.int ((2 ^ (j + 1) : Nat) : Int)), .val (.int (cnt (j + 1) far m)), .val (.int (isum (tmv (fun x => cnt j x m) far m) (i + 1))), .val (.int (-(m : Int) + (i : Nat))), .val (.int s), .val (.int (b : Int)), x13, .val (.int ((far + (-(m : Int) + (i : Nat))) / 2)), x15, .val (.int far), .val (.int (m : Int)), .val (.int ((far - (-(m : Int) + (i : Nat))) / 2)), .emp], S1 ++ [.dT k1] ++ [.dT k2], ?_, _, _, _, rfl⟩
        rw [isum, et]
        refine sIf_t hmod (sSeq_ok (sAsg_ok (eTup_ok (aCons_ok (eBin_ok (eBin_ok (eVar_ok rfl) (eVar_ok rfl) oAdd_ii) eC_ok (oFdiv_ii (by decide) (by decide))) (aCons_ok (eBin_ok (eBin_ok (eVar_ok rfl) (eVar_ok rfl) oSub_ii) eC_ok (oFdiv_ii (by decide) (by decide))) aNil_ok))) rfl) ?_)
        refine sAsg_ok (eBin_ok (eVar_ok rfl) (eBin_ok (eCall_ok (aCons_ok (eBin_ok (eVar_ok rfl) eC_ok (oFdiv_ii (by decide) (by decide))) (aCons_ok (eVar_ok rfl) (aCons_ok (eVar_ok rfl) aNil_ok))) c1) (eCall_ok (aCons_ok (eBin_ok (eVar_ok rfl) eC_ok (oFdiv_ii (by decide) (by decide))) (aCons_ok (eVar_ok rfl) (aCons_ok (eVar_ok rfl) aNil_ok))) c2) (oMul_l (bigI ?_))) oAdd_ii) rfl
        have := cnt_small hj (show m ≤ 20 by omega) ((far + (-(m : Int) + (i : Nat))) / 2)
        have := cnt_nonneg j ((far + (-(m : Int) + (i : Nat))) / 2) m
        omega
      · rw [decide_eq_false hmm] at hmod
        have et : tmv (fun x => cnt j x m) far m i = 0 := if_neg hmm
        refine ⟨[.val d, .val (.obj 1), .val (.int (n : Int)), .val (LL (fin n s)), x4, .val (LL (due n s b)), x6, .val (.int ((2 ^ (j + 1) : Nat) : Int)), .val (.int (cnt (j + 1) far m)), .val (.int (isum (tmv (fun x => cnt j x m) far m) (i + 1))), .val (.int (-(m : Int) + (i : Nat))), .val (.int s), .val (.int (b : Int)), x13, y14, x15, .val (.int far), .val (.int (m : Int)), y18, .emp], S1, ?_, _, _, _, rfl⟩
        rw [isum, et, Int.add_zero]
        exact sIf_f hmod sSkip_ok)
  exact ⟨y10, y14, y18, S', q1⟩
theorem law_true : LawTrue m_law := by
  intro ns _
  obtain ⟨S1, a1, a2⟩ := start_is ns
  obtain ⟨v, S2, b1, b2, b3⟩ := pick_is a2 (ns := [1, 2, 2, 4]) (by simp) (by simp)
  have hv : v = 1 ∨ v = 2 ∨ v = 4 := by
    simp only [List.mem_cons, List.mem_nil_iff, or_false] at b2
    omega
  obtain ⟨n, rfl⟩ : ∃ n : Nat, v = (n : Int) := ⟨v.toNat, by omega⟩
  have hn : n = 1 ∨ n = 2 ∨ n = 4 := by omega
  obtain ⟨t, S3, c1, c2, c3, c4⟩ := draw_is b3 (lim := 9) (by decide) (by decide)
  obtain ⟨u, S4, d1, d2, d3, d4⟩ := draw_is c4 (lim := 3) (by decide) (by decide)
  obtain ⟨b, rfl⟩ : ∃ b : Nat, u = (b : Int) := ⟨u.toNat, by omega⟩
  generalize hs : t - 4 = s
  have hl16 : Len16 n := by unfold Len16; omega
  obtain ⟨x4, x13, x14, e4⟩ := st4 (.fls (ns.map D.int)) (n := n) (by omega) (by omega) s b S4
  obtain ⟨x6, x15, e6⟩ := loop6 (.fls (ns.map D.int)) hl16 s b x4 x13 x14 (fin n s) S4 (fin n s) [] .emp .emp (by
    have : (fin n s).length = 9 ^ (n - 1) := by unfold fin; rw [List.length_map, RR_len]
    rw [this]
    rcases hn with rfl | rfl | rfl <;> decide) (fin_mem (by omega))
  rw [List.nil_append, show List.filter (okr b) (fin n s) = due n s b from rfl] at e6
  have hlv : ((n : Nat) : Int) = ((2 ^ lv n : Nat) : Int) := by rcases hn with rfl | rfl | rfl <;> rfl
  have hlv3 : lv n ≤ 3 := by rcases hn with rfl | rfl | rfl <;> decide
  obtain ⟨k1, f1⟩ := count_any (b := b) (s := s) (b' := (b : Int)) hlv rfl hlv3 (by omega) (by omega) (by omega) S4
  have hcnt : cnt (lv n) s b = ((due n s b).length : Int) := dl_len n (by rcases hn with rfl | rfl | rfl <;> simp) s (by
    have : s = -4 ∨ s = -3 ∨ s = -2 ∨ s = -1 ∨ s = 0 ∨ s = 1 ∨ s = 2 ∨ s = 3 ∨ s = 4 := by omega
    rcases this with rfl | rfl | rfl | rfl | rfl | rfl | rfl | rfl | rfl <;> simp) b (by
    have : b = 0 ∨ b = 1 ∨ b = 2 := by omega
    rcases this with rfl | rfl | rfl <;> simp)
  obtain ⟨l, S5, g1, g2, g3⟩ := pick_is (isDr_snoc (o := .dT k1) d4) (ns := [2, 4, 8]) (by simp) (by simp)
  obtain ⟨j, hj, rfl⟩ : ∃ j : Nat, j ≤ 2 ∧ l = ((2 ^ (j + 1) : Nat) : Int) := by
    simp only [List.mem_cons, List.mem_nil_iff, or_false] at g2
    rcases g2 with rfl | rfl | rfl
    · exact ⟨0, by decide, rfl⟩
    · exact ⟨1, by decide, rfl⟩
    · exact ⟨2, by decide, rfl⟩
  have hpow : ((2 ^ (j + 1) : Nat) : Int) ≤ 8 ∧ 0 ≤ ((2 ^ (j + 1) : Nat) : Int) := by
    have : j = 0 ∨ j = 1 ∨ j = 2 := by omega
    rcases this with rfl | rfl | rfl <;> decide
  obtain ⟨w, S6, h1, h2, h3, h4⟩ := draw_is g3 (lim := 200) (by decide) (by decide)
  obtain ⟨mm, S7, i1, i2, i3, i4⟩ := draw_is h4 (lim := 8) (by decide) (by decide)
  obtain ⟨m, rfl⟩ : ∃ m : Nat, mm = (m : Int) := ⟨mm.toNat, by omega⟩
  generalize hfar : w - 100 = far
  obtain ⟨k2, p1⟩ := count_any (j := j + 1) (b := m) (s := far) (b' := (m : Int)) rfl rfl (by omega) (by omega) (by omega) (by omega) S7
  obtain ⟨k3, p2⟩ := count_any (j := j + 1) (b := m) (s := 0 - far) (b' := (m : Int)) rfl rfl (by omega) (by omega) (by omega) (by omega) (S7 ++ [.dT k2])
  obtain ⟨k4, p3⟩ := count_any (j := j + 1) (b := m + 1) (s := far) (b' := (m : Int) + 1) rfl (by omega) (by omega) (by omega) (by omega) (by omega) (S7 ++ [.dT k2] ++ [.dT k3])
  obtain ⟨k5, p4⟩ := count_any (j := j + 1) (b := m) (s := far + ((2 ^ (j + 1) : Nat) : Int)) (b' := (m : Int)) rfl rfl (by omega) (by omega) (by omega) (by omega) (S7 ++ [.dT k2] ++ [.dT k3] ++ [.dT k4])
  obtain ⟨k6, p5⟩ := count_any (j := 0) (b := m) (s := far) (l := 1) (b' := (m : Int)) rfl rfl (by omega) (by omega) (by omega) (by omega) (S7 ++ [.dT k2] ++ [.dT k3] ++ [.dT k4] ++ [.dT k5])
  generalize S7 ++ [.dT k2] ++ [.dT k3] ++ [.dT k4] ++ [.dT k5] ++ [.dT k6] = T6 at *
  generalize S7 ++ [.dT k2] ++ [.dT k3] ++ [.dT k4] ++ [.dT k5] = T5 at *
  generalize S7 ++ [.dT k2] ++ [.dT k3] ++ [.dT k4] = T4 at *
  generalize S7 ++ [.dT k2] ++ [.dT k3] = T3 at *
  generalize S7 ++ [.dT k2] = T2 at *
  obtain ⟨y10, y14, y18, S9, r1⟩ := st14 (.fls (ns.map D.int)) n s b x4 x13 x14 x6 x15 hj (far := far) (by omega) (by omega) (m := m) (by omega) T6
  refine ⟨S9, runD_ret (d := .bl true) rfl ?_⟩
  show b_law [.val (.fls (ns.map D.int)), .emp, .emp, .emp, .emp, .emp, .emp, .emp, .emp, .emp, .emp, .emp, .emp, .emp, .emp, .emp, .emp, .emp, .emp, .emp] [] = _
  unfold b_law
  refine sSeq_ok (sAsg_ok (eCall_ok (aCons_ok (eVar_ok rfl) aNil_ok) a1) rfl) ?_
  refine sSeq_ok (sAsg_ok (eCall_ok (aCons_ok (eVar_ok rfl) (aCons_ok (eLst_ok (by (repeat' (first | exact eC_ok | exact aNil_ok | exact eVar_ok rfl | exact sSkip_ok | exact eYes_ok | exact oAdd_ii | exact oSub_ii | exact oNeg_i | exact oLt_ii | exact oLe_ii | exact oGt_ii | exact oGe_ii | exact oAddI_ii | exact oAbs_i | exact oMax_ii | exact oLen_l | exact oLen_t | exact oList_l | exact oTuple_l | exact oIs_n | exact oIsnt_n | exact oIs_b | exact oIsnt_b | exact oEq_int .. | exact oNe_int .. | exact oEq_L .. | exact oNe_L .. | exact pNo_ok | apply eBin_ok | apply eUn_ok | apply aCons_ok | apply eTup_ok | apply eLst_ok | apply eCall_ok | apply eNot_ok | apply pSome_ok | apply eSl_ok | apply eSeq_l | apply eRng_ok)))) aNil_ok)) b1) rfl) ?_
  refine sSeq_ok (sAsg_ok (d := .tup [.int s, .int (b : Int)]) (S1 := S4) ?_ rfl) ?_
  · rw [← hs]
    exact eTup_ok (aCons_ok (eBin_ok (eCall_ok (aCons_ok (eVar_ok rfl) (aCons_ok eC_ok aNil_ok)) c1) eC_ok oSub_ii) (aCons_ok (eCall_ok (aCons_ok (eVar_ok rfl) (aCons_ok eC_ok aNil_ok)) d1) aNil_ok))
  refine sSeq_ok (sAsg_ok (eLst_ok (aCons_ok (eLst_ok aNil_ok) aNil_ok)) rfl) ?_
  refine sSeq_ok e4 ?_
  refine sSeq_ok (sOwn_ok (eLst_ok aNil_ok)) ?_
  refine sSeq_ok (sFor_ok (eSeq_l (eVar_ok rfl)) e6) ?_
  refine sSeq_ok (sFrz_ok rfl (sIf_f (S1 := S4 ++ [.dT k1]) (eOr_f (S1 := S4) (eBin_ok (eCall_ok (aCons_ok (eVar_ok rfl) (aCons_ok (eVar_ok rfl) (aCons_ok (eVar_ok rfl) aNil_ok))) (al_is hn (by omega) (by omega) (by omega) S4)) (eVar_ok rfl) (ne_LL rfl S4)) (eBin_ok (eCall_ok (aCons_ok (eVar_ok rfl) (aCons_ok (eVar_ok rfl) (aCons_ok (eVar_ok rfl) aNil_ok))) f1) (eCall_ok (aCons_ok (eVar_ok rfl) aNil_ok) oLen_l) ?_)) sSkip_ok)) ?_
  · rw [oNe_int, List.length_map, decide_eq_true hcnt]
    rfl
  refine sSeq_ok (sAsg_ok (eCall_ok (aCons_ok (eVar_ok rfl) (aCons_ok (eLst_ok (by (repeat' (first | exact eC_ok | exact aNil_ok | exact eVar_ok rfl | exact sSkip_ok | exact eYes_ok | exact oAdd_ii | exact oSub_ii | exact oNeg_i | exact oLt_ii | exact oLe_ii | exact oGt_ii | exact oGe_ii | exact oAddI_ii | exact oAbs_i | exact oMax_ii | exact oLen_l | exact oLen_t | exact oList_l | exact oTuple_l | exact oIs_n | exact oIsnt_n | exact oIs_b | exact oIsnt_b | exact oEq_int .. | exact oNe_int .. | exact oEq_L .. | exact oNe_L .. | exact pNo_ok | apply eBin_ok | apply eUn_ok | apply aCons_ok | apply eTup_ok | apply eLst_ok | apply eCall_ok | apply eNot_ok | apply pSome_ok | apply eSl_ok | apply eSeq_l | apply eRng_ok)))) aNil_ok)) g1) rfl) ?_
  refine sSeq_ok (sPar_ok (x := .int far) (y := .int (m : Int)) (S1 := S7) ?_) ?_
  · rw [← hfar]
    exact aCons_ok (eBin_ok (eCall_ok (aCons_ok (eVar_ok rfl) (aCons_ok eC_ok aNil_ok)) h1) eC_ok oSub_ii) (aCons_ok (eCall_ok (aCons_ok (eVar_ok rfl) (aCons_ok eC_ok aNil_ok)) i1) aNil_ok)
  refine sSeq_ok (sAsg_ok (eCall_ok (aCons_ok (eVar_ok rfl) (aCons_ok (eVar_ok rfl) (aCons_ok (eVar_ok rfl) aNil_ok))) p1) rfl) ?_
  refine sSeq_ok (sIf_f (S1 := T4) (eOr_f (S1 := T3) (eBin_ok (eCall_ok (aCons_ok (eVar_ok rfl) (aCons_ok (eBin_ok eC_ok (eVar_ok rfl) oSub_ii) (aCons_ok (eVar_ok rfl) aNil_ok))) p2) (eVar_ok rfl) ?_) (eBin_ok (eCall_ok (aCons_ok (eVar_ok rfl) (aCons_ok (eVar_ok rfl) (aCons_ok (eBin_ok (eVar_ok rfl) eC_ok oAdd_ii) aNil_ok))) p3) (eVar_ok rfl) ?_)) sSkip_ok) ?_
  · rw [cnt_neg, oNe_int, decide_eq_true rfl]
    rfl
  · have := cnt_mono (j + 1) far m
    rw [oLt_ii, decide_eq_false (by omega)]
  refine sSeq_ok (sIf_f (S1 := T6) (eOr_f (S1 := T5) (eBin_ok (eCall_ok (aCons_ok (eVar_ok rfl) (aCons_ok (eBin_ok (eVar_ok rfl) (eVar_ok rfl) oAdd_ii) (aCons_ok (eVar_ok rfl) aNil_ok))) p4) (eVar_ok rfl) ?_) (eBin_ok (eCall_ok (aCons_ok eC_ok (aCons_ok (eVar_ok rfl) (aCons_ok (eVar_ok rfl) aNil_ok))) p5) eC_ok ?_)) sSkip_ok) ?_
  · rw [cnt_shift, oNe_int, decide_eq_true rfl]
    rfl
  · rw [oNe_int]
    rfl
  refine sSeq_ok (sAsg_ok eC_ok rfl) ?_
  refine sSeq_ok r1 ?_
  exact sRet_ok (eBin_ok (eVar_ok rfl) (eVar_ok rfl) (by rw [oEq_int, decide_eq_true rfl]))
end DL.K10
set_option Elab.async false
set_option linter.all false
set_option maxRecDepth 100000
set_option maxHeartbeats 4000000
namespace DL.K10
open PySem PySem.Spec PyProof.Rows L2 DL
def top (i : Nat) : Stmt := PySem.Challenge.pw_haarrows_k10_whole_counted.main.body.getD i (.Pass ⟨0, 0, 0, 0⟩)
abbrev s_is_int : Stmt := top 4
abbrev N_is_int : List Str := ["value", "low", "high"]
theorem sc_is_int : FnScope N_is_int ["value", "low", "high"] (defScope s_is_int) := ⟨rfl, rfl, rfl, by decide +kernel, rfl, by decide +kernel, by decide +kernel⟩
abbrev s_check_length : Stmt := top 7
abbrev N_check_length : List Str := ["length"]
theorem sc_check_length : FnScope N_check_length ["length"] (defScope s_check_length) := ⟨rfl, rfl, rfl, by decide +kernel, rfl, by decide +kernel, by decide +kernel⟩
abbrev s_splits : Stmt := top 8
abbrev N_splits : List Str := ["size", "sum_of", "bound", "known", "found", "detail", "one", "other"]
theorem sc_splits : FnScope N_splits ["size", "sum_of", "bound", "known"] (defScope s_splits) := ⟨rfl, rfl, rfl, by decide +kernel, rfl, by decide +kernel, by decide +kernel⟩
abbrev s_count_lists : Stmt := top 9
abbrev N_count_lists : List Str := ["length", "sum_of", "bound"]
theorem sc_count_lists : FnScope N_count_lists ["length", "sum_of", "bound"] (defScope s_count_lists) := ⟨rfl, rfl, rfl, by decide +kernel, rfl, by decide +kernel, by decide +kernel⟩
abbrev s_made : Stmt := top 11
abbrev N_made : List Str := ["size", "sum_of", "bound", "found", "detail", "one", "other"]
theorem sc_made : FnScope N_made ["size", "sum_of", "bound"] (defScope s_made) := ⟨rfl, rfl, rfl, by decide +kernel, rfl, by decide +kernel, by decide +kernel⟩
abbrev s_all_lists : Stmt := top 10
abbrev N_all_lists : List Str := ["length", "sum_of", "bound"]
theorem sc_all_lists : FnScope N_all_lists ["length", "sum_of", "bound"] (defScope s_all_lists) := ⟨rfl, rfl, rfl, by decide +kernel, rfl, by decide +kernel, by decide +kernel⟩
abbrev s_law_start : Stmt := top 13
abbrev N_law_start : List Str := ["script"]
theorem sc_law_start : FnScope N_law_start ["script"] (defScope s_law_start) := ⟨rfl, rfl, rfl, by decide +kernel, rfl, by decide +kernel, by decide +kernel⟩
abbrev s_law_draw : Stmt := top 14
abbrev N_law_draw : List Str := ["draws", "limit", "numbers", "at", "cell", "mixed"]
theorem sc_law_draw : FnScope N_law_draw ["draws", "limit"] (defScope s_law_draw) := ⟨rfl, rfl, rfl, by decide +kernel, rfl, by decide +kernel, by decide +kernel⟩
abbrev s_law_pick : Stmt := top 15
abbrev N_law_pick : List Str := ["draws", "choices"]
theorem sc_law_pick : FnScope N_law_pick ["draws", "choices"] (defScope s_law_pick) := ⟨rfl, rfl, rfl, by decide +kernel, rfl, by decide +kernel, by decide +kernel⟩
abbrev s_law_span : Stmt := top 16
abbrev N_law_span : List Str := ["size", "number", "road", "step", "first", "behind", "middle"]
theorem sc_law_span : FnScope N_law_span ["size", "number"] (defScope s_law_span) := ⟨rfl, rfl, rfl, by decide +kernel, rfl, by decide +kernel, by decide +kernel⟩
abbrev s_law_made : Stmt := top 17
abbrev N_law_made : List Str := ["row", "found", "number", "middle", "first", "behind"]
theorem sc_law_made : FnScope N_law_made ["row"] (defScope s_law_made) := ⟨rfl, rfl, rfl, by decide +kernel, rfl, by decide +kernel, by decide +kernel⟩
abbrev s_law : Stmt := top 18
abbrev N_law : List Str := ["script", "draws", "size", "rows", "k", "due", "row", "length", "many", "apart", "part", "sum_of", "bound", "longer_rows", "one", "own_parts", "far", "most", "other", "value"]
theorem sc_law : FnScope N_law ["script"] (defScope s_law) := ⟨rfl, rfl, rfl, by decide +kernel, rfl, by decide +kernel, by decide +kernel⟩
structure Txt (K : PySem.W.Frag) (mg : Str → Option Value) (ca : Nat → Addr) : Prop where
  blt : Blt mg
  c_LENGTHS : CTup K mg "LENGTHS" [1, 2, 4, 8, 16]
  c_MOST_BOUND : CInt mg "MOST_BOUND" 20
  e_BadNumber : ExcAt K mg "BadNumber" (ca 3)
  d_is_int : DefAt K mg "is_int" s_is_int ["value", "low", "high"]
  d_check_length : DefAt K mg "check_length" s_check_length ["length"]
  d_splits : DefAt K mg "splits" s_splits ["size", "sum_of", "bound", "known"]
  d_count_lists : DefAt K mg "count_lists" s_count_lists ["length", "sum_of", "bound"]
  d_made : DefAt K mg "made" s_made ["size", "sum_of", "bound"]
  d_all_lists : DefAt K mg "all_lists" s_all_lists ["length", "sum_of", "bound"]
  d_law_start : DefAt K mg "_law_start" s_law_start ["script"]
  d_law_draw : DefAt K mg "_law_draw" s_law_draw ["draws", "limit"]
  d_law_pick : DefAt K mg "_law_pick" s_law_pick ["draws", "choices"]
  d_law_span : DefAt K mg "_law_span" s_law_span ["size", "number"]
  d_law_made : DefAt K mg "_law_made" s_law_made ["row"]
section
variable {P : Program} {w : World} {K : PySem.W.Frag} {mg : Str → Option Value} {base : Heap} {ca : Nat → Addr}
theorem ok_is_int (T : Txt K mg ca) : FnD P w K mg base ca 1 "is_int" 3 m_is_int :=
  fnAt (k := 0) (N := N_is_int) T.d_is_int sc_is_int fun f cdv A outer s H E hr =>
    (gss_one (gs_ret (ge_and (ge_isi (by rfl) T.blt.isinstance bb_isinstance (by rfl) T.blt.int bb_int (gv 0)) (ge_and (ge_not (ge_isi (by rfl) T.blt.isinstance bb_isinstance (by rfl) T.blt.bool bb_bool (gv 0))) (ge_one (ge_chain op_le s_le op_le s_le (gv 1) (gv 0) (gv 2)))))))
theorem ok_check_length (T : Txt K mg ca) : FnD P w K mg base ca 1 "check_length" 1 m_check_length :=
  fnAt (k := 0) (N := N_check_length) T.d_check_length sc_check_length fun f cdv A outer s H E hr =>
    (gss_one (gs_if (PW.pt (gw_or (gt_not (gt_val (ge_isi (by rfl) T.blt.isinstance bb_isinstance (by rfl) T.blt.int bb_int (gv 0)))) (gw_or (gt_val (ge_isi (by rfl) T.blt.isinstance bb_isinstance (by rfl) T.blt.bool bb_bool (gv 0))) (gw_or (gt_cmp (op_notInA (hu65 hr)) s_notIn (gv 0) (ge_gtupE (by rfl) T.c_LENGTHS) (by rfl)) (gw_or1 (gt_cmp op_gt s_gt (gv 0) ge_int (nomark _))))))) (gss_one (gs_raiseE (c := 3) rfl tkX T.e_BadNumber (by rfl))) gss_nil))
theorem ok_splits_0 (T : Txt K mg ca) : FnD P w K mg base ca 1 "splits" 4 m_splits_0 :=
  fnAt (k := 0) (N := N_splits) (fb := sBad) T.d_splits sc_splits fun f cdv A outer s H E hr => gss_bad
theorem ok_splits_1 (T : Txt K mg ca) (F_r : FnD P w K mg base ca 1 "splits" 4 m_splits_0) : FnD P w K mg base ca 2 "splits" 4 m_splits_1 :=
  fnAt (k := 1) (N := N_splits) T.d_splits sc_splits fun f cdv A outer s H E hr =>
    (gss_cons (gs_if (gt_cmp (op_eqD hr.units) s_eq (gv 0) ge_int (nomark _)) (gss_one (gs_ret ge_int)) gss_nil)
    (gss_cons (gs_if (gt_dnotT (hu1 hr) (ga_cons (gv 0) (ga_cons (gv 1) ga_nil)) (gv 3) (by rfl)) (gss_cons (gs_set (i := 4) sc_splits.nd rfl (Or.inl rfl) ge_int)
    (gss_cons (gs_for poX rfl (gi_range2 (by rfl) T.blt.range (ga_cons (ge_un un_neg s_neg (gv 2)) (ga_cons (ge_op op_addA s_add (gv 2) ge_int) ga_nil))) (gg_name (i := 5) sc_splits.nd rfl (Or.inl rfl)) (gss_one (gs_if (gt_cmp (op_eqD hr.units) s_eq (ge_op op_mod s_mod (ge_op op_addA s_add (gv 1) (gv 5)) ge_int) ge_int (nomark _)) (gss_cons (gs_par (i := 6) (j := 7) (by rfl) sc_splits.nd rfl rfl (by decide) rfl rfl (ga_cons (ge_op op_fdiv s_fdiv (ge_op op_addA s_add (gv 1) (gv 5)) ge_int) (ga_cons (ge_op op_fdiv s_fdiv (ge_op op_sub s_sub (gv 1) (gv 5)) ge_int) ga_nil)) (by rfl))
    (gss_one (gs_aug (i := 4) iop_addI s_iadd sc_splits.nd rfl (Or.inl rfl) (ge_op op_mulA s_mul (ge_callD F_r hr (by decide) (by rfl) psX (ga_cons (ge_op op_fdiv s_fdiv (gv 0) ge_int) (ga_cons (gv 6) (ga_cons (gv 2) (ga_cons (gv 3) ga_nil))))) (ge_callD F_r hr (by decide) (by rfl) psX (ga_cons (ge_op op_fdiv s_fdiv (gv 0) ge_int) (ga_cons (gv 7) (ga_cons (gv 2) (ga_cons (gv 3) ga_nil))))))))) gss_nil)))
    (gss_one (gs_dputT (hu1 hr) (gv 3) (ga_cons (gv 0) (ga_cons (gv 1) ga_nil)) (gv 4))))) gss_nil)
    (gss_one (gs_ret (ge_dgetT (hu1 hr) (gv 3) (ga_cons (gv 0) (ga_cons (gv 1) ga_nil)) (fun _ _ => rfl))))))
theorem ok_splits_2 (T : Txt K mg ca) (F_r : FnD P w K mg base ca 2 "splits" 4 m_splits_1) : FnD P w K mg base ca 3 "splits" 4 m_splits_2 :=
  fnAt (k := 2) (N := N_splits) T.d_splits sc_splits fun f cdv A outer s H E hr =>
    (gss_cons (gs_if (gt_cmp (op_eqD hr.units) s_eq (gv 0) ge_int (nomark _)) (gss_one (gs_ret ge_int)) gss_nil)
    (gss_cons (gs_if (gt_dnotT (hu1 hr) (ga_cons (gv 0) (ga_cons (gv 1) ga_nil)) (gv 3) (by rfl)) (gss_cons (gs_set (i := 4) sc_splits.nd rfl (Or.inl rfl) ge_int)
    (gss_cons (gs_for poX rfl (gi_range2 (by rfl) T.blt.range (ga_cons (ge_un un_neg s_neg (gv 2)) (ga_cons (ge_op op_addA s_add (gv 2) ge_int) ga_nil))) (gg_name (i := 5) sc_splits.nd rfl (Or.inl rfl)) (gss_one (gs_if (gt_cmp (op_eqD hr.units) s_eq (ge_op op_mod s_mod (ge_op op_addA s_add (gv 1) (gv 5)) ge_int) ge_int (nomark _)) (gss_cons (gs_par (i := 6) (j := 7) (by rfl) sc_splits.nd rfl rfl (by decide) rfl rfl (ga_cons (ge_op op_fdiv s_fdiv (ge_op op_addA s_add (gv 1) (gv 5)) ge_int) (ga_cons (ge_op op_fdiv s_fdiv (ge_op op_sub s_sub (gv 1) (gv 5)) ge_int) ga_nil)) (by rfl))
    (gss_one (gs_aug (i := 4) iop_addI s_iadd sc_splits.nd rfl (Or.inl rfl) (ge_op op_mulA s_mul (ge_callD F_r hr (by decide) (by rfl) psX (ga_cons (ge_op op_fdiv s_fdiv (gv 0) ge_int) (ga_cons (gv 6) (ga_cons (gv 2) (ga_cons (gv 3) ga_nil))))) (ge_callD F_r hr (by decide) (by rfl) psX (ga_cons (ge_op op_fdiv s_fdiv (gv 0) ge_int) (ga_cons (gv 7) (ga_cons (gv 2) (ga_cons (gv 3) ga_nil))))))))) gss_nil)))
    (gss_one (gs_dputT (hu1 hr) (gv 3) (ga_cons (gv 0) (ga_cons (gv 1) ga_nil)) (gv 4))))) gss_nil)
    (gss_one (gs_ret (ge_dgetT (hu1 hr) (gv 3) (ga_cons (gv 0) (ga_cons (gv 1) ga_nil)) (fun _ _ => rfl))))))
theorem ok_splits_3 (T : Txt K mg ca) (F_r : FnD P w K mg base ca 3 "splits" 4 m_splits_2) : FnD P w K mg base ca 4 "splits" 4 m_splits_3 :=
  fnAt (k := 3) (N := N_splits) T.d_splits sc_splits fun f cdv A outer s H E hr =>
    (gss_cons (gs_if (gt_cmp (op_eqD hr.units) s_eq (gv 0) ge_int (nomark _)) (gss_one (gs_ret ge_int)) gss_nil)
    (gss_cons (gs_if (gt_dnotT (hu1 hr) (ga_cons (gv 0) (ga_cons (gv 1) ga_nil)) (gv 3) (by rfl)) (gss_cons (gs_set (i := 4) sc_splits.nd rfl (Or.inl rfl) ge_int)
    (gss_cons (gs_for poX rfl (gi_range2 (by rfl) T.blt.range (ga_cons (ge_un un_neg s_neg (gv 2)) (ga_cons (ge_op op_addA s_add (gv 2) ge_int) ga_nil))) (gg_name (i := 5) sc_splits.nd rfl (Or.inl rfl)) (gss_one (gs_if (gt_cmp (op_eqD hr.units) s_eq (ge_op op_mod s_mod (ge_op op_addA s_add (gv 1) (gv 5)) ge_int) ge_int (nomark _)) (gss_cons (gs_par (i := 6) (j := 7) (by rfl) sc_splits.nd rfl rfl (by decide) rfl rfl (ga_cons (ge_op op_fdiv s_fdiv (ge_op op_addA s_add (gv 1) (gv 5)) ge_int) (ga_cons (ge_op op_fdiv s_fdiv (ge_op op_sub s_sub (gv 1) (gv 5)) ge_int) ga_nil)) (by rfl))
    (gss_one (gs_aug (i := 4) iop_addI s_iadd sc_splits.nd rfl (Or.inl rfl) (ge_op op_mulA s_mul (ge_callD F_r hr (by decide) (by rfl) psX (ga_cons (ge_op op_fdiv s_fdiv (gv 0) ge_int) (ga_cons (gv 6) (ga_cons (gv 2) (ga_cons (gv 3) ga_nil))))) (ge_callD F_r hr (by decide) (by rfl) psX (ga_cons (ge_op op_fdiv s_fdiv (gv 0) ge_int) (ga_cons (gv 7) (ga_cons (gv 2) (ga_cons (gv 3) ga_nil))))))))) gss_nil)))
    (gss_one (gs_dputT (hu1 hr) (gv 3) (ga_cons (gv 0) (ga_cons (gv 1) ga_nil)) (gv 4))))) gss_nil)
    (gss_one (gs_ret (ge_dgetT (hu1 hr) (gv 3) (ga_cons (gv 0) (ga_cons (gv 1) ga_nil)) (fun _ _ => rfl))))))
theorem ok_splits_4 (T : Txt K mg ca) (F_r : FnD P w K mg base ca 4 "splits" 4 m_splits_3) : FnD P w K mg base ca 5 "splits" 4 m_splits :=
  fnAt (k := 4) (N := N_splits) T.d_splits sc_splits fun f cdv A outer s H E hr =>
    (gss_cons (gs_if (gt_cmp (op_eqD hr.units) s_eq (gv 0) ge_int (nomark _)) (gss_one (gs_ret ge_int)) gss_nil)
    (gss_cons (gs_if (gt_dnotT (hu1 hr) (ga_cons (gv 0) (ga_cons (gv 1) ga_nil)) (gv 3) (by rfl)) (gss_cons (gs_set (i := 4) sc_splits.nd rfl (Or.inl rfl) ge_int)
    (gss_cons (gs_for poX rfl (gi_range2 (by rfl) T.blt.range (ga_cons (ge_un un_neg s_neg (gv 2)) (ga_cons (ge_op op_addA s_add (gv 2) ge_int) ga_nil))) (gg_name (i := 5) sc_splits.nd rfl (Or.inl rfl)) (gss_one (gs_if (gt_cmp (op_eqD hr.units) s_eq (ge_op op_mod s_mod (ge_op op_addA s_add (gv 1) (gv 5)) ge_int) ge_int (nomark _)) (gss_cons (gs_par (i := 6) (j := 7) (by rfl) sc_splits.nd rfl rfl (by decide) rfl rfl (ga_cons (ge_op op_fdiv s_fdiv (ge_op op_addA s_add (gv 1) (gv 5)) ge_int) (ga_cons (ge_op op_fdiv s_fdiv (ge_op op_sub s_sub (gv 1) (gv 5)) ge_int) ga_nil)) (by rfl))
    (gss_one (gs_aug (i := 4) iop_addI s_iadd sc_splits.nd rfl (Or.inl rfl) (ge_op op_mulA s_mul (ge_callD F_r hr (by decide) (by rfl) psX (ga_cons (ge_op op_fdiv s_fdiv (gv 0) ge_int) (ga_cons (gv 6) (ga_cons (gv 2) (ga_cons (gv 3) ga_nil))))) (ge_callD F_r hr (by decide) (by rfl) psX (ga_cons (ge_op op_fdiv s_fdiv (gv 0) ge_int) (ga_cons (gv 7) (ga_cons (gv 2) (ga_cons (gv 3) ga_nil))))))))) gss_nil)))
    (gss_one (gs_dputT (hu1 hr) (gv 3) (ga_cons (gv 0) (ga_cons (gv 1) ga_nil)) (gv 4))))) gss_nil)
    (gss_one (gs_ret (ge_dgetT (hu1 hr) (gv 3) (ga_cons (gv 0) (ga_cons (gv 1) ga_nil)) (fun _ _ => rfl))))))
theorem ok_splits (T : Txt K mg ca) : FnD P w K mg base ca 5 "splits" 4 m_splits := ok_splits_4 T (ok_splits_3 T (ok_splits_2 T (ok_splits_1 T (ok_splits_0 T))))
theorem ok_count_lists (T : Txt K mg ca) (F_check_length : FnD P w K mg base ca 1 "check_length" 1 m_check_length) (F_is_int : FnD P w K mg base ca 1 "is_int" 3 m_is_int) (F_splits : FnD P w K mg base ca 5 "splits" 4 m_splits) : FnD P w K mg base ca 6 "count_lists" 3 m_count_lists :=
  fnAt (k := 5) (N := N_count_lists) T.d_count_lists sc_count_lists fun f cdv A outer s H E hr =>
    (gss_cons (gs_expr (ge_callD F_check_length hr (by decide) (by rfl) psX (ga_cons (gv 0) ga_nil)))
    (gss_cons (gs_if (gt_not (gt_val (ge_callD F_is_int hr (by decide) (by rfl) psX (ga_cons (gv 1) (ga_cons (ge_un un_neg s_neg ge_int) (ga_cons ge_int ga_nil)))))) (gss_one (gs_raiseE (c := 3) rfl tkX T.e_BadNumber (by rfl))) gss_nil)
    (gss_cons (gs_if (gt_not (gt_val (ge_callD F_is_int hr (by decide) (by rfl) psX (ga_cons (gv 2) (ga_cons ge_int (ga_cons (ge_gintE (by rfl) T.c_MOST_BOUND) ga_nil)))))) (gss_one (gs_raiseE (c := 3) rfl tkX T.e_BadNumber (by rfl))) gss_nil)
    (gss_one (gs_ret (ge_callD F_splits hr (by decide) (by rfl) psX (ga_cons (gv 0) (ga_cons (gv 1) (ga_cons (gv 2) (ga_cons ge_dnew ga_nil))))))))))
theorem ok_made_0 (T : Txt K mg ca) : FnD P w K mg base ca 1 "made" 3 m_made_0 :=
  fnAt (k := 0) (N := N_made) (fb := sBad) T.d_made sc_made fun f cdv A outer s H E hr => gss_bad
theorem ok_made_1 (T : Txt K mg ca) (F_r : FnD P w K mg base ca 1 "made" 3 m_made_0) : FnD P w K mg base ca 2 "made" 3 m_made_1 :=
  fnAt (k := 1) (N := N_made) T.d_made sc_made fun f cdv A outer s H E hr =>
    (gss_cons (gs_if (gt_cmp (op_eqD hr.units) s_eq (gv 0) ge_int (nomark _)) (gss_one (gs_ret (ge_lst (ga_cons (ge_lst (ga_cons (gv 1) ga_nil)) ga_nil)))) gss_nil)
    (gss_cons (gs_own (i := 3) sc_made.nd rfl (Or.inl rfl) (gf_lst ga_nil))
    (gss_cons (gs_for poX rfl (gi_range2 (by rfl) T.blt.range (ga_cons (ge_un un_neg s_neg (gv 2)) (ga_cons (ge_op op_addA s_add (gv 2) ge_int) ga_nil))) (gg_name (i := 4) sc_made.nd rfl (Or.inl rfl)) (gss_one (gs_if (gt_cmp (op_eqD hr.units) s_eq (ge_op op_mod s_mod (ge_op op_addA s_add (gv 1) (gv 4)) ge_int) ge_int (nomark _)) (gss_one (gs_for poX rfl (gi_seq (ge_callD F_r hr (by decide) (by rfl) psX (ga_cons (ge_op op_fdiv s_fdiv (gv 0) ge_int) (ga_cons (ge_op op_fdiv s_fdiv (ge_op op_addA s_add (gv 1) (gv 4)) ge_int) (ga_cons (gv 2) ga_nil))))) (gg_name (i := 5) sc_made.nd rfl (Or.inr rfl)) (gss_one (gs_iaddO (i := 3) sc_made.nd rfl (Or.inl rfl) (ge_lc rfl sc_made.nd (tgOk_name 6) (gi_seq (ge_callD F_r hr (by decide) (by rfl) psX (ga_cons (ge_op op_fdiv s_fdiv (gv 0) ge_int) (ga_cons (ge_op op_fdiv s_fdiv (ge_op op_sub s_sub (gv 1) (gv 4)) ge_int) (ga_cons (gv 2) ga_nil))))) (blkOk_by (N := N_made) (sc := defScope s_made) (own := [("other", 6)]) (by decide +kernel)) (fun _ _ _ _ _ => (pg_name (i := 6) sc_made.nd rfl (Or.inl rfl))) (fun _ _ _ _ _ => gts_nil) (fun _ _ _ _ _ => (ge_op op_addA s_add (gv 5) (gv 6)))))))) gss_nil)))
    (gss_one (gs_frz 3 (gs_ret (gv 3)))))))
theorem ok_made_2 (T : Txt K mg ca) (F_r : FnD P w K mg base ca 2 "made" 3 m_made_1) : FnD P w K mg base ca 3 "made" 3 m_made_2 :=
  fnAt (k := 2) (N := N_made) T.d_made sc_made fun f cdv A outer s H E hr =>
    (gss_cons (gs_if (gt_cmp (op_eqD hr.units) s_eq (gv 0) ge_int (nomark _)) (gss_one (gs_ret (ge_lst (ga_cons (ge_lst (ga_cons (gv 1) ga_nil)) ga_nil)))) gss_nil)
    (gss_cons (gs_own (i := 3) sc_made.nd rfl (Or.inl rfl) (gf_lst ga_nil))
    (gss_cons (gs_for poX rfl (gi_range2 (by rfl) T.blt.range (ga_cons (ge_un un_neg s_neg (gv 2)) (ga_cons (ge_op op_addA s_add (gv 2) ge_int) ga_nil))) (gg_name (i := 4) sc_made.nd rfl (Or.inl rfl)) (gss_one (gs_if (gt_cmp (op_eqD hr.units) s_eq (ge_op op_mod s_mod (ge_op op_addA s_add (gv 1) (gv 4)) ge_int) ge_int (nomark _)) (gss_one (gs_for poX rfl (gi_seq (ge_callD F_r hr (by decide) (by rfl) psX (ga_cons (ge_op op_fdiv s_fdiv (gv 0) ge_int) (ga_cons (ge_op op_fdiv s_fdiv (ge_op op_addA s_add (gv 1) (gv 4)) ge_int) (ga_cons (gv 2) ga_nil))))) (gg_name (i := 5) sc_made.nd rfl (Or.inr rfl)) (gss_one (gs_iaddO (i := 3) sc_made.nd rfl (Or.inl rfl) (ge_lc rfl sc_made.nd (tgOk_name 6) (gi_seq (ge_callD F_r hr (by decide) (by rfl) psX (ga_cons (ge_op op_fdiv s_fdiv (gv 0) ge_int) (ga_cons (ge_op op_fdiv s_fdiv (ge_op op_sub s_sub (gv 1) (gv 4)) ge_int) (ga_cons (gv 2) ga_nil))))) (blkOk_by (N := N_made) (sc := defScope s_made) (own := [("other", 6)]) (by decide +kernel)) (fun _ _ _ _ _ => (pg_name (i := 6) sc_made.nd rfl (Or.inl rfl))) (fun _ _ _ _ _ => gts_nil) (fun _ _ _ _ _ => (ge_op op_addA s_add (gv 5) (gv 6)))))))) gss_nil)))
    (gss_one (gs_frz 3 (gs_ret (gv 3)))))))
theorem ok_made_3 (T : Txt K mg ca) (F_r : FnD P w K mg base ca 3 "made" 3 m_made_2) : FnD P w K mg base ca 4 "made" 3 m_made :=
  fnAt (k := 3) (N := N_made) T.d_made sc_made fun f cdv A outer s H E hr =>
    (gss_cons (gs_if (gt_cmp (op_eqD hr.units) s_eq (gv 0) ge_int (nomark _)) (gss_one (gs_ret (ge_lst (ga_cons (ge_lst (ga_cons (gv 1) ga_nil)) ga_nil)))) gss_nil)
    (gss_cons (gs_own (i := 3) sc_made.nd rfl (Or.inl rfl) (gf_lst ga_nil))
    (gss_cons (gs_for poX rfl (gi_range2 (by rfl) T.blt.range (ga_cons (ge_un un_neg s_neg (gv 2)) (ga_cons (ge_op op_addA s_add (gv 2) ge_int) ga_nil))) (gg_name (i := 4) sc_made.nd rfl (Or.inl rfl)) (gss_one (gs_if (gt_cmp (op_eqD hr.units) s_eq (ge_op op_mod s_mod (ge_op op_addA s_add (gv 1) (gv 4)) ge_int) ge_int (nomark _)) (gss_one (gs_for poX rfl (gi_seq (ge_callD F_r hr (by decide) (by rfl) psX (ga_cons (ge_op op_fdiv s_fdiv (gv 0) ge_int) (ga_cons (ge_op op_fdiv s_fdiv (ge_op op_addA s_add (gv 1) (gv 4)) ge_int) (ga_cons (gv 2) ga_nil))))) (gg_name (i := 5) sc_made.nd rfl (Or.inr rfl)) (gss_one (gs_iaddO (i := 3) sc_made.nd rfl (Or.inl rfl) (ge_lc rfl sc_made.nd (tgOk_name 6) (gi_seq (ge_callD F_r hr (by decide) (by rfl) psX (ga_cons (ge_op op_fdiv s_fdiv (gv 0) ge_int) (ga_cons (ge_op op_fdiv s_fdiv (ge_op op_sub s_sub (gv 1) (gv 4)) ge_int) (ga_cons (gv 2) ga_nil))))) (blkOk_by (N := N_made) (sc := defScope s_made) (own := [("other", 6)]) (by decide +kernel)) (fun _ _ _ _ _ => (pg_name (i := 6) sc_made.nd rfl (Or.inl rfl))) (fun _ _ _ _ _ => gts_nil) (fun _ _ _ _ _ => (ge_op op_addA s_add (gv 5) (gv 6)))))))) gss_nil)))
    (gss_one (gs_frz 3 (gs_ret (gv 3)))))))
theorem ok_made (T : Txt K mg ca) : FnD P w K mg base ca 4 "made" 3 m_made := ok_made_3 T (ok_made_2 T (ok_made_1 T (ok_made_0 T)))
theorem ok_all_lists (T : Txt K mg ca) (F_check_length : FnD P w K mg base ca 1 "check_length" 1 m_check_length) (F_is_int : FnD P w K mg base ca 1 "is_int" 3 m_is_int) (F_made : FnD P w K mg base ca 4 "made" 3 m_made) : FnD P w K mg base ca 5 "all_lists" 3 m_all_lists :=
  fnAt (k := 4) (N := N_all_lists) T.d_all_lists sc_all_lists fun f cdv A outer s H E hr =>
    (gss_cons (gs_expr (ge_callD F_check_length hr (by decide) (by rfl) psX (ga_cons (gv 0) ga_nil)))
    (gss_cons (gs_if (gt_cmp op_gt s_gt (gv 0) ge_int (nomark _)) (gss_one (gs_raiseE (c := 3) rfl tkX T.e_BadNumber (by rfl))) gss_nil)
    (gss_cons (gs_if (gt_not (gt_val (ge_callD F_is_int hr (by decide) (by rfl) psX (ga_cons (gv 1) (ga_cons (ge_un un_neg s_neg ge_int) (ga_cons ge_int ga_nil)))))) (gss_one (gs_raiseE (c := 3) rfl tkX T.e_BadNumber (by rfl))) gss_nil)
    (gss_cons (gs_if (gt_not (gt_val (ge_callD F_is_int hr (by decide) (by rfl) psX (ga_cons (gv 2) (ga_cons ge_int (ga_cons ge_int ga_nil)))))) (gss_one (gs_raiseE (c := 3) rfl tkX T.e_BadNumber (by rfl))) gss_nil)
    (gss_one (gs_ret (ge_callB (cr_sortD (hu65 hr)) c_sortD (by rfl) T.blt.sorted bb_sorted (ga_cons (ge_callD F_made hr (by decide) (by rfl) psX (ga_cons (gv 0) (ga_cons (gv 1) (ga_cons (gv 2) ga_nil)))) ga_nil))))))))
theorem ok_law_start (T : Txt K mg ca) : FnD P w K mg base ca 1 "_law_start" 1 m_law_start :=
  fnAt (k := 0) (N := N_law_start) T.d_law_start sc_law_start fun f cdv A outer s H E hr =>
    (gss_one (gs_ret (ge_obj (gf_lst (ga_cons (ge_obj (gf_if (gt_cmp (op_neD hr.units) s_ne (gv 0) (ge_lst ga_nil) (nomark _)) (gf_list (by rfl) T.blt.list bb_list (ga_cons (gv 0) ga_nil)) (gf_lst (ga_cons ge_int ga_nil)))) (ga_cons ge_int ga_nil))))))
theorem ok_law_draw (T : Txt K mg ca) : FnD P w K mg base ca 1 "_law_draw" 2 m_law_draw :=
  fnAt (k := 0) (N := N_law_draw) T.d_law_draw sc_law_draw fun f cdv A outer s H E hr =>
    (gss_cons (gs_set (i := 2) sc_law_draw.nd rfl (Or.inl rfl) (ge_ix (gv 0) ge_int (fun _ _ => rfl)))
    (gss_cons (gs_setB (gv 0) ge_int (ge_op op_addA s_add (ge_ix (gv 0) ge_int (fun _ _ => rfl)) ge_int))
    (gss_cons (gs_set (i := 3) sc_law_draw.nd rfl (Or.inl rfl) (ge_op op_mod s_mod (ge_ix (gv 0) ge_int (fun _ _ => rfl)) (ge_callB call_len c_len (by rfl) T.blt.len bb_len (ga_cons (gv 2) ga_nil))))
    (gss_cons (gs_set (i := 4) sc_law_draw.nd rfl (Or.inl rfl) (ge_ix (gv 2) (gv 3) (fun _ _ => rfl)))
    (gss_cons (gs_if (gt_cmp op_ge s_ge (gv 4) ge_int (nomark _)) (gss_cons (gs_setB (gv 2) (gv 3) (ge_op op_fdiv s_fdiv (gv 4) (gv 1)))
    (gss_one (gs_ret (ge_op op_mod s_mod (gv 4) (gv 1))))) gss_nil)
    (gss_cons (gs_set (i := 5) sc_law_draw.nd rfl (Or.inl rfl) (ge_op op_mod s_mod (ge_op op_addA s_add (gv 4) (ge_op op_mulA s_mul ge_int (ge_ix (gv 0) ge_int (fun _ _ => rfl)))) ge_int))
    (gss_cons (gs_set (i := 5) sc_law_draw.nd rfl (Or.inl rfl) (ge_op op_mod s_mod (ge_op op_pow s_pow (gv 5) ge_int) ge_int))
    (gss_one (gs_ret (ge_op op_mod s_mod (ge_op op_fdiv s_fdiv (ge_op op_mod s_mod (ge_op op_addA s_add (ge_op op_mulA s_mul (ge_op op_fdiv s_fdiv (gv 5) ge_int) ge_int) (gv 5)) ge_int) ge_int) (gv 1)))))))))))
theorem ok_law_pick (T : Txt K mg ca) (F_law_draw : FnD P w K mg base ca 1 "_law_draw" 2 m_law_draw) : FnD P w K mg base ca 2 "_law_pick" 2 m_law_pick :=
  fnAt (k := 1) (N := N_law_pick) T.d_law_pick sc_law_pick fun f cdv A outer s H E hr =>
    (gss_one (gs_ret (ge_ix (gv 1) (ge_callD F_law_draw hr (by decide) (by rfl) psX (ga_cons (gv 0) (ga_cons (ge_callB call_len c_len (by rfl) T.blt.len bb_len (ga_cons (gv 1) ga_nil)) ga_nil))) (fun _ _ => rfl))))
theorem ok_law_span (T : Txt K mg ca) : FnD P w K mg base ca 1 "_law_span" 2 m_law_span :=
  fnAt (k := 0) (N := N_law_span) T.d_law_span sc_law_span fun f cdv A outer s H E hr =>
    (gss_cons (gs_set (i := 2) sc_law_span.nd rfl (Or.inl rfl) (ge_lst ga_nil))
    (gss_cons (gs_while 40 poX (gt_cmp op_gt s_gt (gv 1) ge_int (nomark _)) (gss_cons (gs_set (i := 2) sc_law_span.nd rfl (Or.inl rfl) (ge_op op_addA s_add (ge_lst (ga_cons (ge_op op_mod s_mod (gv 1) ge_int) ga_nil)) (gv 2)))
    (gss_one (gs_set (i := 1) sc_law_span.nd rfl (Or.inl rfl) (ge_op op_fdiv s_fdiv (gv 1) ge_int)))))
    (gss_cons (gs_par (i := 4) (j := 5) (by rfl) sc_law_span.nd rfl rfl (by decide) rfl rfl (ga_cons ge_int (ga_cons (gv 0) ga_nil)) (by rfl))
    (gss_cons (gs_for poX rfl (gi_seq (gv 2)) (gg_name (i := 3) sc_law_span.nd rfl (Or.inl rfl)) (gss_cons (gs_set (i := 6) sc_law_span.nd rfl (Or.inl rfl) (ge_op op_fdiv s_fdiv (ge_op op_addA s_add (gv 4) (gv 5)) ge_int))
    (gss_one (gs_asg (ge_if (gt_cmp (op_eqD hr.units) s_eq (gv 3) ge_int (nomark _)) (ge_tup (ga_cons (gv 4) (ga_cons (gv 6) ga_nil))) (ge_tup (ga_cons (gv 6) (ga_cons (gv 5) ga_nil)))) (gg_tup (by rfl) (ggs_cons (gg_name (i := 4) sc_law_span.nd rfl (Or.inl rfl)) (ggs_cons (gg_name (i := 5) sc_law_span.nd rfl (Or.inl rfl)) ggs_nil)) (tgCons_len (tgCons_len tgNil_len)))))))
    (gss_one (gs_ret (ge_tup (ga_cons (gv 4) (ga_cons (gv 5) ga_nil)))))))))
theorem ok_law_made (T : Txt K mg ca) (F_law_span : FnD P w K mg base ca 1 "_law_span" 2 m_law_span) : FnD P w K mg base ca 2 "_law_made" 1 m_law_made :=
  fnAt (k := 1) (N := N_law_made) T.d_law_made sc_law_made fun f cdv A outer s H E hr =>
    (gss_cons (gs_own (i := 1) sc_law_made.nd rfl (Or.inl rfl) (gf_lst (ga_cons (ge_callB (cr_sum rfl) c_sum (by rfl) T.blt.sum bb_sum (ga_cons (gv 0) ga_nil)) ga_nil)))
    (gss_cons (gs_for poX rfl (gi_range2 (by rfl) T.blt.range (ga_cons ge_int (ga_cons (ge_callB call_len c_len (by rfl) T.blt.len bb_len (ga_cons (gv 0) ga_nil)) ga_nil))) (gg_name (i := 2) sc_law_made.nd rfl (Or.inl rfl)) (gss_cons (gs_asg (ge_callD F_law_span hr (by decide) (by rfl) psX (ga_cons (ge_callB call_len c_len (by rfl) T.blt.len bb_len (ga_cons (gv 0) ga_nil)) (ga_cons (gv 2) ga_nil))) (gg_tup (by rfl) (ggs_cons (gg_name (i := 4) sc_law_made.nd rfl (Or.inl rfl)) (ggs_cons (gg_name (i := 5) sc_law_made.nd rfl (Or.inl rfl)) ggs_nil)) (tgCons_len (tgCons_len tgNil_len))))
    (gss_cons (gs_set (i := 3) sc_law_made.nd rfl (Or.inl rfl) (ge_op op_fdiv s_fdiv (ge_op op_addA s_add (gv 4) (gv 5)) ge_int))
    (gss_one (gs_app (pv 1) (ge_op op_sub s_sub (ge_callB (cr_sum rfl) c_sum (by rfl) T.blt.sum bb_sum (ga_cons (ge_slice (gv 0) (go_some (gv 4)) (go_some (gv 3))) ga_nil)) (ge_callB (cr_sum rfl) c_sum (by rfl) T.blt.sum bb_sum (ga_cons (ge_slice (gv 0) (go_some (gv 3)) (go_some (gv 5))) ga_nil))))))))
    (gss_one (gs_retO (gv 1)))))
theorem ok_law (T : Txt K mg ca) (F_law_start : FnD P w K mg base ca 1 "_law_start" 1 m_law_start) (F_law_pick : FnD P w K mg base ca 2 "_law_pick" 2 m_law_pick) (F_law_draw : FnD P w K mg base ca 1 "_law_draw" 2 m_law_draw) (F_law_made : FnD P w K mg base ca 2 "_law_made" 1 m_law_made) (F_all_lists : FnD P w K mg base ca 5 "all_lists" 3 m_all_lists) (F_count_lists : FnD P w K mg base ca 6 "count_lists" 3 m_count_lists) {f : Addr} {fd : FuncData} (F : Fun K "law" "law" s_law f fd) : FnOk P w K mg base (L2.CX P w) 7 f fd ["script"] (spD K ca 1 m_law) :=
  fnD (k := 6) (N := N_law) F sc_law fun cdv A outer s H E hr =>
    (gss_cons (gs_set (i := 1) sc_law.nd rfl (Or.inl rfl) (ge_callD F_law_start hr (by decide) (by rfl) psX (ga_cons (gv 0) ga_nil)))
    (gss_cons (gs_set (i := 2) sc_law.nd rfl (Or.inl rfl) (ge_callD F_law_pick hr (by decide) (by rfl) psX (ga_cons (gv 1) (ga_cons (ge_lst (ga_cons ge_int (ga_cons ge_int (ga_cons ge_int (ga_cons ge_int ga_nil))))) ga_nil))))
    (gss_cons (gs_asg (ge_tup (ga_cons (ge_op op_sub s_sub (ge_callD F_law_draw hr (by decide) (by rfl) psX (ga_cons (gv 1) (ga_cons ge_int ga_nil))) ge_int) (ga_cons (ge_callD F_law_draw hr (by decide) (by rfl) psX (ga_cons (gv 1) (ga_cons ge_int ga_nil))) ga_nil))) (gg_tup (by rfl) (ggs_cons (gg_name (i := 11) sc_law.nd rfl (Or.inr rfl)) (ggs_cons (gg_name (i := 12) sc_law.nd rfl (Or.inr rfl)) ggs_nil)) (tgCons_len (tgCons_len tgNil_len))))
    (gss_cons (gs_set (i := 3) sc_law.nd rfl (Or.inl rfl) (ge_lst (ga_cons (ge_lst ga_nil) ga_nil)))
    (gss_cons (gs_for poX rfl (gi_range1 (by rfl) T.blt.range (ga_cons (gv 2) ga_nil)) (gg_name (i := 4) sc_law.nd rfl (Or.inl rfl)) (gss_cons (gs_set (i := 13) sc_law.nd rfl (Or.inl rfl) (ge_lst ga_nil))
    (gss_cons (gs_for poX rfl (gi_seq (gv 3)) (gg_name (i := 14) sc_law.nd rfl (Or.inr rfl)) (gss_one (gs_set (i := 13) sc_law.nd rfl (Or.inl rfl) (ge_op op_addA s_add (gv 13) (ge_lc rfl sc_law.nd (tgOk_name 19) (gi_range2 (by rfl) T.blt.range (ga_cons (ge_op op_sub s_sub ge_int ge_int) (ga_cons ge_int ga_nil))) (blkOk_by (N := N_law) (sc := defScope s_law) (own := [("value", 19)]) (by decide +kernel)) (fun _ _ _ _ _ => (pg_name (i := 19) sc_law.nd rfl (Or.inl rfl))) (fun _ _ _ _ _ => gts_nil) (fun _ _ _ _ _ => (ge_op op_addA s_add (gv 14) (ge_lst (ga_cons (gv 19) ga_nil)))))))))
    (gss_one (gs_set (i := 3) sc_law.nd rfl (Or.inl rfl) (ge_if (gt_cmp op_lt s_lt (gv 4) (ge_op op_sub s_sub (gv 2) ge_int) (nomark _)) (gv 13) (ge_lc rfl sc_law.nd (tgOk_name 14) (gi_seq (gv 3)) (blkOk_by (N := N_law) (sc := defScope s_law) (own := [("one", 14)]) (by decide +kernel)) (fun _ _ _ _ _ => (pg_name (i := 14) sc_law.nd rfl (Or.inl rfl))) (fun _ _ _ _ _ => gts_nil) (fun _ _ _ _ _ => (ge_op op_addA s_add (gv 14) (ge_lst (ga_cons (ge_op op_sub s_sub (gv 11) (ge_callB (cr_sum rfl) c_sum (by rfl) T.blt.sum bb_sum (ga_cons (gv 14) ga_nil))) ga_nil)))))))))))
    (gss_cons (gs_own (i := 5) sc_law.nd rfl (Or.inl rfl) (gf_lst ga_nil))
    (gss_cons (gs_for poX rfl (gi_seq (gv 3)) (gg_name (i := 6) sc_law.nd rfl (Or.inl rfl)) (gss_cons (gs_set (i := 15) sc_law.nd rfl (Or.inl rfl) (ge_callD F_law_made hr (by decide) (by rfl) psX (ga_cons (gv 6) ga_nil)))
    (gss_one (gs_if (gt_cmp (op_eqD hr.units) s_eq (ge_lc rfl sc_law.nd (tgOk_name 10) (gi_seq (ge_slice (gv 15) (go_some ge_int) go_none)) (blkOk_by (N := N_law) (sc := defScope s_law) (own := [("part", 10)]) (by decide +kernel)) (fun _ _ _ _ _ => (pg_name (i := 10) sc_law.nd rfl (Or.inl rfl))) (fun _ _ _ _ _ => (gts_one (gt_cmp op_gt s_gt (ge_callB call_abs c_abs (by rfl) T.blt.abs bb_abs (ga_cons (gv 10) ga_nil)) (gv 12) (nomark _)))) (fun _ _ _ _ _ => (gv 10))) (ge_lst ga_nil) (nomark _)) (gss_one (gs_app (pv 5) (gv 6))) gss_nil))))
    (gss_cons (gs_frz 5 (gs_if (PW.pt (gw_or (gt_cmp (op_neD hr.units) s_ne (ge_callD F_all_lists hr (by decide) (by rfl) psX (ga_cons (gv 2) (ga_cons (gv 11) (ga_cons (gv 12) ga_nil)))) (gv 5) (nomark _)) (gw_or1 (gt_cmp (op_neD hr.units) s_ne (ge_callD F_count_lists hr (by decide) (by rfl) psX (ga_cons (gv 2) (ga_cons (gv 11) (ga_cons (gv 12) ga_nil)))) (ge_callB call_len c_len (by rfl) T.blt.len bb_len (ga_cons (gv 5) ga_nil)) (nomark _))))) (gss_one (gs_ret ge_bl)) gss_nil))
    (gss_cons (gs_set (i := 7) sc_law.nd rfl (Or.inl rfl) (ge_callD F_law_pick hr (by decide) (by rfl) psX (ga_cons (gv 1) (ga_cons (ge_lst (ga_cons ge_int (ga_cons ge_int (ga_cons ge_int ga_nil)))) ga_nil))))
    (gss_cons (gs_par (i := 16) (j := 17) (by rfl) sc_law.nd rfl rfl (by decide) rfl rfl (ga_cons (ge_op op_sub s_sub (ge_callD F_law_draw hr (by decide) (by rfl) psX (ga_cons (gv 1) (ga_cons ge_int ga_nil))) ge_int) (ga_cons (ge_callD F_law_draw hr (by decide) (by rfl) psX (ga_cons (gv 1) (ga_cons ge_int ga_nil))) ga_nil)) (by rfl))
    (gss_cons (gs_set (i := 8) sc_law.nd rfl (Or.inl rfl) (ge_callD F_count_lists hr (by decide) (by rfl) psX (ga_cons (gv 7) (ga_cons (gv 16) (ga_cons (gv 17) ga_nil)))))
    (gss_cons (gs_if (PW.pt (gw_or (gt_cmp (op_neD hr.units) s_ne (ge_callD F_count_lists hr (by decide) (by rfl) psX (ga_cons (gv 7) (ga_cons (ge_op op_sub s_sub ge_int (gv 16)) (ga_cons (gv 17) ga_nil)))) (gv 8) (nomark _)) (gw_or1 (gt_cmp op_lt s_lt (ge_callD F_count_lists hr (by decide) (by rfl) psX (ga_cons (gv 7) (ga_cons (gv 16) (ga_cons (ge_op op_addA s_add (gv 17) ge_int) ga_nil)))) (gv 8) (nomark _))))) (gss_one (gs_ret ge_bl)) gss_nil)
    (gss_cons (gs_if (PW.pt (gw_or (gt_cmp (op_neD hr.units) s_ne (ge_callD F_count_lists hr (by decide) (by rfl) psX (ga_cons (gv 7) (ga_cons (ge_op op_addA s_add (gv 16) (gv 7)) (ga_cons (gv 17) ga_nil)))) (gv 8) (nomark _)) (gw_or1 (gt_cmp (op_neD hr.units) s_ne (ge_callD F_count_lists hr (by decide) (by rfl) psX (ga_cons ge_int (ga_cons (gv 16) (ga_cons (gv 17) ga_nil)))) ge_int (nomark _))))) (gss_one (gs_ret ge_bl)) gss_nil)
    (gss_cons (gs_set (i := 9) sc_law.nd rfl (Or.inl rfl) ge_int)
    (gss_cons (gs_for poX rfl (gi_range2 (by rfl) T.blt.range (ga_cons (ge_op op_sub s_sub ge_int (gv 17)) (ga_cons (ge_op op_addA s_add (gv 17) ge_int) ga_nil))) (gg_name (i := 10) sc_law.nd rfl (Or.inl rfl)) (gss_one (gs_if (gt_cmp (op_eqD hr.units) s_eq (ge_op op_mod s_mod (ge_op op_addA s_add (gv 16) (gv 10)) ge_int) ge_int (nomark _)) (gss_cons (gs_asg (ge_tup (ga_cons (ge_op op_fdiv s_fdiv (ge_op op_addA s_add (gv 16) (gv 10)) ge_int) (ga_cons (ge_op op_fdiv s_fdiv (ge_op op_sub s_sub (gv 16) (gv 10)) ge_int) ga_nil))) (gg_tup (by rfl) (ggs_cons (gg_name (i := 14) sc_law.nd rfl (Or.inr rfl)) (ggs_cons (gg_name (i := 18) sc_law.nd rfl (Or.inl rfl)) ggs_nil)) (tgCons_len (tgCons_len tgNil_len))))
    (gss_one (gs_set (i := 9) sc_law.nd rfl (Or.inl rfl) (ge_op op_addA s_add (gv 9) (ge_op op_mulA s_mul (ge_callD F_count_lists hr (by decide) (by rfl) psX (ga_cons (ge_op op_fdiv s_fdiv (gv 7) ge_int) (ga_cons (gv 14) (ga_cons (gv 17) ga_nil)))) (ge_callD F_count_lists hr (by decide) (by rfl) psX (ga_cons (ge_op op_fdiv s_fdiv (gv 7) ge_int) (ga_cons (gv 18) (ga_cons (gv 17) ga_nil))))))))) gss_nil)))
    (gss_one (gs_ret (ge_cmp (op_eqD hr.units) s_eq (gv 8) (gv 9) (nomark _)))))))))))))))))))
theorem chain (T : Txt K mg ca) {f : Addr} {fd : FuncData} (F : Fun K "law" "law" s_law f fd) : FnOk P w K mg base (L2.CX P w) 7 f fd ["script"] (spD K ca 1 m_law) := by
  have F_is_int : FnD P w K mg base ca 1 "is_int" 3 m_is_int := ok_is_int T
  have F_check_length : FnD P w K mg base ca 1 "check_length" 1 m_check_length := ok_check_length T
  have F_splits : FnD P w K mg base ca 5 "splits" 4 m_splits := ok_splits T
  have F_count_lists : FnD P w K mg base ca 6 "count_lists" 3 m_count_lists := ok_count_lists T F_check_length F_is_int F_splits
  have F_made : FnD P w K mg base ca 4 "made" 3 m_made := ok_made T
  have F_all_lists : FnD P w K mg base ca 5 "all_lists" 3 m_all_lists := ok_all_lists T F_check_length F_is_int F_made
  have F_law_start : FnD P w K mg base ca 1 "_law_start" 1 m_law_start := ok_law_start T
  have F_law_draw : FnD P w K mg base ca 1 "_law_draw" 2 m_law_draw := ok_law_draw T
  have F_law_pick : FnD P w K mg base ca 2 "_law_pick" 2 m_law_pick := ok_law_pick T F_law_draw
  have F_law_span : FnD P w K mg base ca 1 "_law_span" 2 m_law_span := ok_law_span T
  have F_law_made : FnD P w K mg base ca 2 "_law_made" 1 m_law_made := ok_law_made T F_law_span
  exact ok_law T F_law_start F_law_pick F_law_draw F_law_made F_all_lists F_count_lists F
end
theorem all_mk {l : PySem.W.OpenLaw} {w : World} {K : PySem.W.Frag} {h : Heap} {mg : Str → Option Value} {fa : Addr} (X : K.In h) (G : h.Ns mainGlobals mg) (hfa : mg "law" = some (.ref fa))
    (hlaw : LawTrue m_law)
    {a_LENGTHS : Addr} {dd_LENGTHS : Option Addr} {n_LENGTHS0 : Nat} {sl_LENGTHS : Array (Option Value)} {t0_LENGTHS t1_LENGTHS t2_LENGTHS t3_LENGTHS t4_LENGTHS : Tok}
    {t_MOST_BOUND : Tok}
    {C_BadNumber : Addr}
    {f_is_int : Addr} {od_is_int an_is_int : Option Addr} {sl_is_int : Array (Option Value)} {oc_is_int kV_is_int dc_is_int pm_is_int cd_is_int ct_is_int : Value}
    {f_check_length : Addr} {od_check_length an_check_length : Option Addr} {sl_check_length : Array (Option Value)} {oc_check_length kV_check_length dc_check_length pm_check_length cd_check_length ct_check_length : Value}
    {f_splits : Addr} {od_splits an_splits : Option Addr} {sl_splits : Array (Option Value)} {oc_splits kV_splits dc_splits pm_splits cd_splits ct_splits : Value}
    {f_count_lists : Addr} {od_count_lists an_count_lists : Option Addr} {sl_count_lists : Array (Option Value)} {oc_count_lists kV_count_lists dc_count_lists pm_count_lists cd_count_lists ct_count_lists : Value}
    {f_made : Addr} {od_made an_made : Option Addr} {sl_made : Array (Option Value)} {oc_made kV_made dc_made pm_made cd_made ct_made : Value}
    {f_all_lists : Addr} {od_all_lists an_all_lists : Option Addr} {sl_all_lists : Array (Option Value)} {oc_all_lists kV_all_lists dc_all_lists pm_all_lists cd_all_lists ct_all_lists : Value}
    {f_law_start : Addr} {od_law_start an_law_start : Option Addr} {sl_law_start : Array (Option Value)} {oc_law_start kV_law_start dc_law_start pm_law_start cd_law_start ct_law_start : Value}
    {f_law_draw : Addr} {od_law_draw an_law_draw : Option Addr} {sl_law_draw : Array (Option Value)} {oc_law_draw kV_law_draw dc_law_draw pm_law_draw cd_law_draw ct_law_draw : Value}
    {f_law_pick : Addr} {od_law_pick an_law_pick : Option Addr} {sl_law_pick : Array (Option Value)} {oc_law_pick kV_law_pick dc_law_pick pm_law_pick cd_law_pick ct_law_pick : Value}
    {f_law_span : Addr} {od_law_span an_law_span : Option Addr} {sl_law_span : Array (Option Value)} {oc_law_span kV_law_span dc_law_span pm_law_span cd_law_span ct_law_span : Value}
    {f_law_made : Addr} {od_law_made an_law_made : Option Addr} {sl_law_made : Array (Option Value)} {oc_law_made kV_law_made dc_law_made pm_law_made cd_law_made ct_law_made : Value}
    {f_law : Addr} {od_law an_law : Option Addr} {sl_law : Array (Option Value)} {oc_law kV_law dc_law pm_law cd_law ct_law : Value}
    (z_isinstance : PySem.W.nsIn K mainGlobals "isinstance" = some none)
    (z_int : PySem.W.nsIn K mainGlobals "int" = some none)
    (z_bool : PySem.W.nsIn K mainGlobals "bool" = some none)
    (z_list : PySem.W.nsIn K mainGlobals "list" = some none)
    (z_tuple : PySem.W.nsIn K mainGlobals "tuple" = some none)
    (z_str : PySem.W.nsIn K mainGlobals "str" = some none)
    (z_set : PySem.W.nsIn K mainGlobals "set" = some none)
    (z_len : PySem.W.nsIn K mainGlobals "len" = some none)
    (z_abs : PySem.W.nsIn K mainGlobals "abs" = some none)
    (z_max : PySem.W.nsIn K mainGlobals "max" = some none)
    (z_sum : PySem.W.nsIn K mainGlobals "sum" = some none)
    (z_all : PySem.W.nsIn K mainGlobals "all" = some none)
    (z_sorted : PySem.W.nsIn K mainGlobals "sorted" = some none)
    (z_range : PySem.W.nsIn K mainGlobals "range" = some none)
    (z_zip : PySem.W.nsIn K mainGlobals "zip" = some none)
    (z_enumerate : PySem.W.nsIn K mainGlobals "enumerate" = some none)
    (n_LENGTHS : PySem.W.nsIn K mainGlobals "LENGTHS" = some (some (.ref a_LENGTHS)))
    (l_LENGTHS : K.lookup a_LENGTHS = some ⟨.type "tuple", dd_LENGTHS, .seq #[.int 1 t0_LENGTHS, .int 2 t1_LENGTHS, .int 4 t2_LENGTHS, .int 8 t3_LENGTHS, .int 16 t4_LENGTHS] n_LENGTHS0, sl_LENGTHS⟩)
    (n_MOST_BOUND : PySem.W.nsIn K mainGlobals "MOST_BOUND" = some (some (.int 20 t_MOST_BOUND)))
    (n_BadNumber : PySem.W.nsIn K mainGlobals "BadNumber" = some (some (.ref C_BadNumber)))
    (x_BadNumber : PySem.W.excIn K C_BadNumber [.type "ValueError", .type "Exception", .type "BaseException", .type "object"] "ValueError.__new__" = true)
    (k_BadNumber : PySem.W.keepIn K (.ref C_BadNumber) = true)
    (b_BadNumber : PySem.W.subIn K (.ref C_BadNumber) (.type "BaseException") = some true)
    (t_BadNumber : PySem.W.typeIn K (.ref C_BadNumber) = some (.type "type"))
    (a_is_int : PySem.W.nsIn K mainGlobals "is_int" = some (some (.ref f_is_int)))
    (l_is_int : K.lookup f_is_int = some ⟨oc_is_int, od_is_int, .func (PySem.W.fnOf "is_int" "is_int" (defArgs s_is_int) (defBody s_is_int) (defScope s_is_int) .none kV_is_int dc_is_int pm_is_int an_is_int cd_is_int ct_is_int), sl_is_int⟩)
    (c_is_int : PySem.W.codeIn K cd_is_int "is_int" = true)
    (k_is_int : PySem.W.keepIn K (.ref f_is_int) = true)
    (a_check_length : PySem.W.nsIn K mainGlobals "check_length" = some (some (.ref f_check_length)))
    (l_check_length : K.lookup f_check_length = some ⟨oc_check_length, od_check_length, .func (PySem.W.fnOf "check_length" "check_length" (defArgs s_check_length) (defBody s_check_length) (defScope s_check_length) .none kV_check_length dc_check_length pm_check_length an_check_length cd_check_length ct_check_length), sl_check_length⟩)
    (c_check_length : PySem.W.codeIn K cd_check_length "check_length" = true)
    (k_check_length : PySem.W.keepIn K (.ref f_check_length) = true)
    (a_splits : PySem.W.nsIn K mainGlobals "splits" = some (some (.ref f_splits)))
    (l_splits : K.lookup f_splits = some ⟨oc_splits, od_splits, .func (PySem.W.fnOf "splits" "splits" (defArgs s_splits) (defBody s_splits) (defScope s_splits) .none kV_splits dc_splits pm_splits an_splits cd_splits ct_splits), sl_splits⟩)
    (c_splits : PySem.W.codeIn K cd_splits "splits" = true)
    (k_splits : PySem.W.keepIn K (.ref f_splits) = true)
    (a_count_lists : PySem.W.nsIn K mainGlobals "count_lists" = some (some (.ref f_count_lists)))
    (l_count_lists : K.lookup f_count_lists = some ⟨oc_count_lists, od_count_lists, .func (PySem.W.fnOf "count_lists" "count_lists" (defArgs s_count_lists) (defBody s_count_lists) (defScope s_count_lists) .none kV_count_lists dc_count_lists pm_count_lists an_count_lists cd_count_lists ct_count_lists), sl_count_lists⟩)
    (c_count_lists : PySem.W.codeIn K cd_count_lists "count_lists" = true)
    (k_count_lists : PySem.W.keepIn K (.ref f_count_lists) = true)
    (a_made : PySem.W.nsIn K mainGlobals "made" = some (some (.ref f_made)))
    (l_made : K.lookup f_made = some ⟨oc_made, od_made, .func (PySem.W.fnOf "made" "made" (defArgs s_made) (defBody s_made) (defScope s_made) .none kV_made dc_made pm_made an_made cd_made ct_made), sl_made⟩)
    (c_made : PySem.W.codeIn K cd_made "made" = true)
    (k_made : PySem.W.keepIn K (.ref f_made) = true)
    (a_all_lists : PySem.W.nsIn K mainGlobals "all_lists" = some (some (.ref f_all_lists)))
    (l_all_lists : K.lookup f_all_lists = some ⟨oc_all_lists, od_all_lists, .func (PySem.W.fnOf "all_lists" "all_lists" (defArgs s_all_lists) (defBody s_all_lists) (defScope s_all_lists) .none kV_all_lists dc_all_lists pm_all_lists an_all_lists cd_all_lists ct_all_lists), sl_all_lists⟩)
    (c_all_lists : PySem.W.codeIn K cd_all_lists "all_lists" = true)
    (k_all_lists : PySem.W.keepIn K (.ref f_all_lists) = true)
    (a_law_start : PySem.W.nsIn K mainGlobals "_law_start" = some (some (.ref f_law_start)))
    (l_law_start : K.lookup f_law_start = some ⟨oc_law_start, od_law_start, .func (PySem.W.fnOf "_law_start" "_law_start" (defArgs s_law_start) (defBody s_law_start) (defScope s_law_start) .none kV_law_start dc_law_start pm_law_start an_law_start cd_law_start ct_law_start), sl_law_start⟩)
    (c_law_start : PySem.W.codeIn K cd_law_start "_law_start" = true)
    (k_law_start : PySem.W.keepIn K (.ref f_law_start) = true)
    (a_law_draw : PySem.W.nsIn K mainGlobals "_law_draw" = some (some (.ref f_law_draw)))
    (l_law_draw : K.lookup f_law_draw = some ⟨oc_law_draw, od_law_draw, .func (PySem.W.fnOf "_law_draw" "_law_draw" (defArgs s_law_draw) (defBody s_law_draw) (defScope s_law_draw) .none kV_law_draw dc_law_draw pm_law_draw an_law_draw cd_law_draw ct_law_draw), sl_law_draw⟩)
    (c_law_draw : PySem.W.codeIn K cd_law_draw "_law_draw" = true)
    (k_law_draw : PySem.W.keepIn K (.ref f_law_draw) = true)
    (a_law_pick : PySem.W.nsIn K mainGlobals "_law_pick" = some (some (.ref f_law_pick)))
    (l_law_pick : K.lookup f_law_pick = some ⟨oc_law_pick, od_law_pick, .func (PySem.W.fnOf "_law_pick" "_law_pick" (defArgs s_law_pick) (defBody s_law_pick) (defScope s_law_pick) .none kV_law_pick dc_law_pick pm_law_pick an_law_pick cd_law_pick ct_law_pick), sl_law_pick⟩)
    (c_law_pick : PySem.W.codeIn K cd_law_pick "_law_pick" = true)
    (k_law_pick : PySem.W.keepIn K (.ref f_law_pick) = true)
    (a_law_span : PySem.W.nsIn K mainGlobals "_law_span" = some (some (.ref f_law_span)))
    (l_law_span : K.lookup f_law_span = some ⟨oc_law_span, od_law_span, .func (PySem.W.fnOf "_law_span" "_law_span" (defArgs s_law_span) (defBody s_law_span) (defScope s_law_span) .none kV_law_span dc_law_span pm_law_span an_law_span cd_law_span ct_law_span), sl_law_span⟩)
    (c_law_span : PySem.W.codeIn K cd_law_span "_law_span" = true)
    (k_law_span : PySem.W.keepIn K (.ref f_law_span) = true)
    (a_law_made : PySem.W.nsIn K mainGlobals "_law_made" = some (some (.ref f_law_made)))
    (l_law_made : K.lookup f_law_made = some ⟨oc_law_made, od_law_made, .func (PySem.W.fnOf "_law_made" "_law_made" (defArgs s_law_made) (defBody s_law_made) (defScope s_law_made) .none kV_law_made dc_law_made pm_law_made an_law_made cd_law_made ct_law_made), sl_law_made⟩)
    (c_law_made : PySem.W.codeIn K cd_law_made "_law_made" = true)
    (k_law_made : PySem.W.keepIn K (.ref f_law_made) = true)
    (a_law : PySem.W.nsIn K mainGlobals "law" = some (some (.ref f_law)))
    (l_law : K.lookup f_law = some ⟨oc_law, od_law, .func (PySem.W.fnOf "law" "law" (defArgs s_law) (defBody s_law) (defScope s_law) .none kV_law dc_law pm_law an_law cd_law ct_law), sl_law⟩)
    (c_law : PySem.W.codeIn K cd_law "law" = true)
    (k_law : PySem.W.keepIn K (.ref f_law) = true) :
    ∃ fd : FuncData, (∀ (s : Shared) (v : Value), BindsTo s fd ⟨[v], []⟩ [("script", v)]) ∧ ∀ base : Heap, K.In base → base.Ns mainGlobals mg → FnOk l.prog w K mg base (L2.CX l.prog w) 7 fa fd ["script"] (spLaw K) := by
  have e := hfa.symm.trans (PySem.W.mg_of X G a_law)
  cases e
  have T : Txt K mg (caOf [0, 0, 0, C_BadNumber, 0, 0, 0, 0]) := {
    blt := ⟨PySem.W.mg_none_of X G z_isinstance, PySem.W.mg_none_of X G z_int, PySem.W.mg_none_of X G z_bool, PySem.W.mg_none_of X G z_list, PySem.W.mg_none_of X G z_tuple, PySem.W.mg_none_of X G z_str, PySem.W.mg_none_of X G z_set, PySem.W.mg_none_of X G z_len, PySem.W.mg_none_of X G z_abs, PySem.W.mg_none_of X G z_max, PySem.W.mg_none_of X G z_sum, PySem.W.mg_none_of X G z_all, PySem.W.mg_none_of X G z_sorted, PySem.W.mg_none_of X G z_range, PySem.W.mg_none_of X G z_zip, PySem.W.mg_none_of X G z_enumerate⟩
    c_LENGTHS := ⟨_, PySem.W.mg_of X G n_LENGTHS, ⟨_, _, _, l_LENGTHS, rfl, rfl, (by show 5 ≤ sizeLine; decide), .cons ⟨_, rfl⟩ (.cons ⟨_, rfl⟩ (.cons ⟨_, rfl⟩ (.cons ⟨_, rfl⟩ (.cons ⟨_, rfl⟩ (.nil)))))⟩⟩
    c_MOST_BOUND := ⟨_, PySem.W.mg_of X G n_MOST_BOUND⟩
    e_BadNumber := ⟨PySem.W.mg_of X G n_BadNumber, x_BadNumber, k_BadNumber, b_BadNumber, t_BadNumber⟩
    d_is_int := defAt_mk X G a_is_int l_is_int c_is_int k_is_int (fun _ _ _ _ _ _ us hl => match us, hl with | [_, _, _], _ => rfl)
    d_check_length := defAt_mk X G a_check_length l_check_length c_check_length k_check_length (fun _ _ _ _ _ _ us hl => match us, hl with | [_], _ => rfl)
    d_splits := defAt_mk X G a_splits l_splits c_splits k_splits (fun _ _ _ _ _ _ us hl => match us, hl with | [_, _, _, _], _ => rfl)
    d_count_lists := defAt_mk X G a_count_lists l_count_lists c_count_lists k_count_lists (fun _ _ _ _ _ _ us hl => match us, hl with | [_, _, _], _ => rfl)
    d_made := defAt_mk X G a_made l_made c_made k_made (fun _ _ _ _ _ _ us hl => match us, hl with | [_, _, _], _ => rfl)
    d_all_lists := defAt_mk X G a_all_lists l_all_lists c_all_lists k_all_lists (fun _ _ _ _ _ _ us hl => match us, hl with | [_, _, _], _ => rfl)
    d_law_start := defAt_mk X G a_law_start l_law_start c_law_start k_law_start (fun _ _ _ _ _ _ us hl => match us, hl with | [_], _ => rfl)
    d_law_draw := defAt_mk X G a_law_draw l_law_draw c_law_draw k_law_draw (fun _ _ _ _ _ _ us hl => match us, hl with | [_, _], _ => rfl)
    d_law_pick := defAt_mk X G a_law_pick l_law_pick c_law_pick k_law_pick (fun _ _ _ _ _ _ us hl => match us, hl with | [_, _], _ => rfl)
    d_law_span := defAt_mk X G a_law_span l_law_span c_law_span k_law_span (fun _ _ _ _ _ _ us hl => match us, hl with | [_, _], _ => rfl)
    d_law_made := defAt_mk X G a_law_made l_law_made c_law_made k_law_made (fun _ _ _ _ _ _ us hl => match us, hl with | [_], _ => rfl)
  }
  exact ⟨PySem.W.fnOf "law" "law" (defArgs s_law) (defBody s_law) (defScope s_law) .none kV_law dc_law pm_law an_law cd_law ct_law, fun s v => .of_eq rfl, fun base _ _ =>
    law_sp hlaw (chain T (fun_mk (st := s_law) l_law c_law k_law))⟩
end DL.K10
set_option Elab.async false
set_option linter.all false
set_option maxRecDepth 100000
set_option maxHeartbeats 4000000
open PySem PySem.W PyProof.Rows in
set_option maxRecDepth 100000 in
set_option maxHeartbeats 0 in
theorem PySem.Challenge.cw_haarrows_k10_whole_counted_holds : PySem.Challenge.rw_haarrows_k10_whole_counted.Holds := by
  w_on; o_law; k_head; (case hw => w_witness2)
  k_fill
  refine DL.walkD (l := PySem.Challenge.rw_haarrows_k10_whole_counted) (k := 7) rfl rfl ⟨rfl, by decide, by decide⟩ (fun w h Y => PySem.W.kIn_of Y) ?F
  case F =>
    intro w mg fa h KX G hmg
    refine' DL.K10.all_mk KX G hmg DL.K10.law_true ?z_isinstance ?z_int ?z_bool ?z_list ?z_tuple ?z_str ?z_set ?z_len ?z_abs ?z_max ?z_sum ?z_all ?z_sorted ?z_range ?z_zip ?z_enumerate ?n_LENGTHS ?l_LENGTHS ?n_MOST_BOUND ?n_BadNumber ?x_BadNumber ?k_BadNumber ?b_BadNumber ?t_BadNumber ?a_is_int ?l_is_int ?c_is_int ?k_is_int ?a_check_length ?l_check_length ?c_check_length ?k_check_length ?a_splits ?l_splits ?c_splits ?k_splits ?a_count_lists ?l_count_lists ?c_count_lists ?k_count_lists ?a_made ?l_made ?c_made ?k_made ?a_all_lists ?l_all_lists ?c_all_lists ?k_all_lists ?a_law_start ?l_law_start ?c_law_start ?k_law_start ?a_law_draw ?l_law_draw ?c_law_draw ?k_law_draw ?a_law_pick ?l_law_pick ?c_law_pick ?k_law_pick ?a_law_span ?l_law_span ?c_law_span ?k_law_span ?a_law_made ?l_law_made ?c_law_made ?k_law_made ?a_law ?l_law ?c_law ?k_law
    (case z_isinstance => k_is)
    (case z_int => k_is)
    (case z_bool => k_is)
    (case z_list => k_is)
    (case z_tuple => k_is)
    (case z_str => k_is)
    (case z_set => k_is)
    (case z_len => k_is)
    (case z_abs => k_is)
    (case z_max => k_is)
    (case z_sum => k_is)
    (case z_all => k_is)
    (case z_sorted => k_is)
    (case z_range => k_is)
    (case z_zip => k_is)
    (case z_enumerate => k_is)
    (case n_LENGTHS => k_is)
    (case l_LENGTHS => k_is)
    (case n_MOST_BOUND => k_is)
    (case n_BadNumber => k_is)
    (case x_BadNumber => first | k_exc | k_is)
    (case k_BadNumber => k_is)
    (case b_BadNumber => k_is)
    (case t_BadNumber => k_is)
    (case a_is_int => k_is)
    (case l_is_int => k_is)
    (case c_is_int => k_is)
    (case k_is_int => k_is)
    (case a_check_length => k_is)
    (case l_check_length => k_is)
    (case c_check_length => k_is)
    (case k_check_length => k_is)
    (case a_splits => k_is)
    (case l_splits => k_is)
    (case c_splits => k_is)
    (case k_splits => k_is)
    (case a_count_lists => k_is)
    (case l_count_lists => k_is)
    (case c_count_lists => k_is)
    (case k_count_lists => k_is)
    (case a_made => k_is)
    (case l_made => k_is)
    (case c_made => k_is)
    (case k_made => k_is)
    (case a_all_lists => k_is)
    (case l_all_lists => k_is)
    (case c_all_lists => k_is)
    (case k_all_lists => k_is)
    (case a_law_start => k_is)
    (case l_law_start => k_is)
    (case c_law_start => k_is)
    (case k_law_start => k_is)
    (case a_law_draw => k_is)
    (case l_law_draw => k_is)
    (case c_law_draw => k_is)
    (case k_law_draw => k_is)
    (case a_law_pick => k_is)
    (case l_law_pick => k_is)
    (case c_law_pick => k_is)
    (case k_law_pick => k_is)
    (case a_law_span => k_is)
    (case l_law_span => k_is)
    (case c_law_span => k_is)
    (case k_law_span => k_is)
    (case a_law_made => k_is)
    (case l_law_made => k_is)
    (case c_law_made => k_is)
    (case k_law_made => k_is)
    (case a_law => k_is)
    (case l_law => k_is)
    (case c_law => k_is)
    (case k_law => k_is)
