import PyProof.Rows.All
import Wide.All
import OpenK.AllK
import Wide.FinOn
import HandS.ForMost
import HandS.ForExc
import HandS.Iter
import HandS.Style
import HandS.IsInst
import HandS.Deep
import HandS.Conv
import HandS.TupAny
import HandS.ExcIs
import HandS.ExcValue
import KE.SortData
import HandS.SetFor
import HandS.Strs
import PySem.Challenge.RW_haarrows_k06_whole_best
set_option Elab.async false
set_option linter.all false
set_option maxRecDepth 100000
set_option maxHeartbeats 1000000
namespace DL
open PySem L2
inductive D where
  | non
  | bl (b : Bool)
  | int (i : Int)
  | str (x : Str)
  | lst (xs : List D)
  | tup (xs : List D)
  | obj (n : Nat)
  | exc (c : Nat)
  | fls (xs : List D)
  deriving Inhabited
inductive OB where
  | lst (xs : List D)
  | dT (kvs : List (List Key × D))
  | dK (kvs : List (Key × D))
  | ins (c : Nat) (fs : List (Str × D))
abbrev Store := List OB
inductive Out where
  | ok (d : D) (S : Store)
  | exc (c : Nat) (S : Store)
  | bad
@[reducible] def Out.bind (o : Out) (k : D → Store → Out) : Out := match o with
  | .ok d S => k d S
  | .exc c S => .exc c S
  | .bad => .bad
inductive OutL where
  | ok (ds : List D) (S : Store)
  | exc (c : Nat) (S : Store)
  | bad
inductive Slot where
  | emp
  | val (d : D)
  | own (ds : List D)
abbrev DEnv := List Slot
abbrev DE := DEnv → Store → Out
abbrev DA := DEnv → Store → OutL
/-- what an exception object of the class at C looks like -/
def ExcO (C a : Addr) : HO := .ext fun h => ∃ o, h.get? a = some o ∧ Zc (.ref C) none o ∧ ∃ vs, o.data = .fields vs
mutual
inductive Rep (K : PySem.W.Frag) (ca : Nat → Addr) (A : List Addr) (F : Hp) : V → D → Prop
  | non : Rep K ca A F .non .non
  | bl (b : Bool) : Rep K ca A F (.bl b) (.bl b)
  | int (i : Int) : Rep K ca A F (.int i) (.int i)
  | str (x : Str) : Rep K ca A F (.str x) (.str x)
  | lst {a : Addr} {xs : List V} {ds : List D} : F a = some (.lst xs) → RepAll K ca A F xs ds → Rep K ca A F (.ref a) (.lst ds)
  | fls {a : Addr} {xs : List V} {ds : List D} : SqL K F a xs → RepAll K ca A F xs ds → Rep K ca A F (.ref a) (.fls ds)
  | tup {a : Addr} {xs : List V} {ds : List D} : SqT K F a xs → RepAll K ca A F xs ds → Rep K ca A F (.ref a) (.tup ds)
  | obj {a : Addr} {n : Nat} : A[n]? = some a → Rep K ca A F (.ref a) (.obj n)
  | exc {a : Addr} {c : Nat} : F a = some (ExcO (ca c) a) → Rep K ca A F (.ref a) (.exc c)
inductive RepAll (K : PySem.W.Frag) (ca : Nat → Addr) (A : List Addr) (F : Hp) : List V → List D → Prop
  | nil : RepAll K ca A F [] []
  | cons {v : V} {vs : List V} {d : D} {ds : List D} : Rep K ca A F v d → RepAll K ca A F vs ds → RepAll K ca A F (v :: vs) (d :: ds)
end
structure G where
  F : Hp
  A : List Addr
  H : Hp
theorem same_t {K : PySem.W.Frag} {H H' : Hp} {a : Addr} {xs : List V} (e : Same H H') (h : SqT K H a xs) : SqT K H' a xs := by
  rcases h with (h | ⟨o, h⟩) | h
  · exact .inl (.inl (e _ _ h))
  · exact .inl (.inr ⟨o, e _ _ h⟩)
  · exact .inr h
section
variable {K : PySem.W.Frag} {ca : Nat → Addr}
mutual
theorem Rep.mono {A A' : List Addr} {F F' : Hp} (hA : ∃ m, A' = A ++ m) (hF : Same F F') : ∀ (d : D) (v : V), Rep K ca A F v d → Rep K ca A' F' v d
  | .non, _, h => by cases h; exact .non
  | .bl b, _, h => by cases h; exact .bl b
  | .int i, _, h => by cases h; exact .int i
  | .str x, _, h => by cases h; exact .str x
  | .lst ds, _, h => by
    cases h with
    | lst hs ha => exact .lst (hF _ _ hs) (RepAll.mono hA hF ds _ ha)
  | .fls ds, _, h => by
    cases h with
    | fls hs ha => exact .fls (hF.seq hs) (RepAll.mono hA hF ds _ ha)
  | .tup ds, _, h => by
    cases h with
    | tup hs ha => exact .tup (same_t hF hs) (RepAll.mono hA hF ds _ ha)
  | .obj n, _, h => by
    cases h with
    | obj e =>
      obtain ⟨m, rfl⟩ := hA
      refine .obj ?_
      rw [List.getElem?_append_left (List.getElem?_eq_some_iff.mp e).1]
      exact e
  | .exc c, _, h => by
    cases h with
    | exc e => exact .exc (hF _ _ e)
theorem RepAll.mono {A A' : List Addr} {F F' : Hp} (hA : ∃ m, A' = A ++ m) (hF : Same F F') : ∀ (ds : List D) (vs : List V), RepAll K ca A F vs ds → RepAll K ca A' F' vs ds
  | [], _, h => by cases h; exact .nil
  | d :: ds, _, h => by
    cases h with
    | cons h1 h2 => exact .cons (Rep.mono hA hF d _ h1) (RepAll.mono hA hF ds _ h2)
end
theorem RepAll.length {A : List Addr} {F : Hp} : ∀ {vs : List V} {ds : List D}, RepAll K ca A F vs ds → vs.length = ds.length
  | _, _, .nil => rfl
  | _, _, .cons _ t => by rw [List.length_cons, List.length_cons, RepAll.length t]
theorem RepAll.get' {A : List Addr} {F : Hp} : ∀ {vs : List V} {ds : List D} {i : Nat} {d : D}, RepAll K ca A F vs ds → ds[i]? = some d → ∃ v, vs[i]? = some v ∧ Rep K ca A F v d
  | _, _, _, _, .nil, e => by simp at e
  | _, _, 0, _, .cons r _, e => by
    simp at e
    subst e
    exact ⟨_, rfl, r⟩
  | _, _, i + 1, v, .cons _ t, e => by
    obtain ⟨d, h1, h2⟩ := RepAll.get' (i := i) (d := v) t (by simpa using e)
    exact ⟨d, by simpa using h1, h2⟩
theorem RepAll.append {A : List Addr} {F : Hp} : ∀ {vs ws : List V} {ds es : List D}, RepAll K ca A F vs ds → RepAll K ca A F ws es → RepAll K ca A F (vs ++ ws) (ds ++ es)
  | _, _, _, _, .nil, s => s
  | _, _, _, _, .cons r t, s => .cons r (RepAll.append t s)
theorem RepAll.take {A : List Addr} {F : Hp} : ∀ {vs : List V} {ds : List D} (n : Nat), RepAll K ca A F vs ds → RepAll K ca A F (vs.take n) (ds.take n)
  | _, _, 0, _ => .nil
  | _, _, _ + 1, .nil => .nil
  | _, _, n + 1, .cons r t => .cons r (RepAll.take n t)
theorem RepAll.drop {A : List Addr} {F : Hp} : ∀ {vs : List V} {ds : List D} (n : Nat), RepAll K ca A F vs ds → RepAll K ca A F (vs.drop n) (ds.drop n)
  | _, _, 0, r => r
  | _, _, _ + 1, .nil => .nil
  | _, _, n + 1, .cons _ t => RepAll.drop n t
theorem RepAll.set {A : List Addr} {F : Hp} {v : V} {d : D} (r : Rep K ca A F v d) : ∀ {vs : List V} {ds : List D} (i : Nat), RepAll K ca A F vs ds → RepAll K ca A F (vs.set i v) (ds.set i d)
  | _, _, _, .nil => .nil
  | _, _, 0, .cons _ t => .cons r t
  | _, _, i + 1, .cons q t => .cons q (RepAll.set r i t)
theorem RepAll.replicate {A : List Addr} {F : Hp} {v : V} {d : D} (r : Rep K ca A F v d) : ∀ n : Nat, RepAll K ca A F (List.replicate n v) (List.replicate n d)
  | 0 => .nil
  | n + 1 => .cons r (RepAll.replicate r n)
/-- values whose data is all ints (bools, texts) -/
theorem RepAll.ints {A : List Addr} {F : Hp} : ∀ {ns : List Int} {vs : List V}, RepAll K ca A F vs (ns.map D.int) → vs = ns.map V.int
  | [], _, h => by cases h; rfl
  | n :: ns, _, h => by
    cases h with
    | cons h1 h2 =>
      cases h1
      rw [List.map_cons, RepAll.ints h2]
theorem RepAll.ofInts {A : List Addr} {F : Hp} : ∀ (ns : List Int), RepAll K ca A F (ns.map V.int) (ns.map D.int)
  | [] => .nil
  | n :: ns => .cons (.int n) (RepAll.ofInts ns)
theorem RepAll.bls {A : List Addr} {F : Hp} : ∀ {ns : List Bool} {vs : List V}, RepAll K ca A F vs (ns.map D.bl) → vs = ns.map V.bl
  | [], _, h => by cases h; rfl
  | n :: ns, _, h => by
    cases h with
    | cons h1 h2 =>
      cases h1
      rw [List.map_cons, RepAll.bls h2]
end
section
variable (K : PySem.W.Frag) (ca : Nat → Addr)
abbrev RepG (g : G) : V → D → Prop := Rep K ca g.A g.F
def RepO (A : List Addr) (F : Hp) : HO → OB → Prop
  | .lst xs, .lst ds => RepAll K ca A F xs ds
  | .dT kvs, .dT kds => Paired (fun (p : List Key × V) (q : List Key × D) => p.1 = q.1 ∧ Rep K ca A F p.2 q.2) kvs kds
  | .dK kvs, .dK kds => Paired (fun (p : Key × V) (q : Key × D) => p.1 = q.1 ∧ Rep K ca A F p.2 q.2) kvs kds
  | .ins C _ fs, .ins c fds => C = ca c ∧ Paired (fun (p : Str × V) (q : Str × D) => p.1 = q.1 ∧ Rep K ca A F p.2 q.2) fs fds
  | _, _ => False
structure Ok (g : G) (S : Store) : Prop where
  sub : Same g.F g.H
  len : g.A.length = S.length
  nd : g.A.Nodup
  fr : ∀ a ∈ g.A, g.F a = none
  ob : ∀ (n : Nat) (o : OB), S[n]? = some o → ∃ a ho, g.A[n]? = some a ∧ g.H a = some ho ∧ RepO K ca g.A g.F ho o
structure EnvR (g0 g : G) (σ : L2.St) (ρ : DEnv) : Prop where
  len : σ.length = ρ.length
  val : ∀ (i : Nat) (d : D), ρ[i]? = some (.val d) → ∃ v, σ[i]? = some (some v) ∧ RepG K ca g v d
  own : ∀ (i : Nat) (ds : List D), ρ[i]? = some (.own ds) → ∃ p xs, σ[i]? = some (some (.ref p)) ∧ g0.H p = none ∧ g.F p = none ∧ p ∉ g.A ∧ g.H p = some (.lst xs) ∧ RepAll K ca g.A g.F xs ds
  sep : ∀ (i j : Nat) (ds es : List D) (p : Addr), ρ[i]? = some (.own ds) → ρ[j]? = some (.own es) → σ[i]? = some (some (.ref p)) → σ[j]? = some (some (.ref p)) → i = j
end
structure Ext (g g' : G) : Prop where
  F : Same g.F g'.F
  A : ∃ m, g'.A = g.A ++ m ∧ ∀ a ∈ m, g.H a = none
  H : ∀ a o, a ∉ g.A → g.H a = some o → g'.H a = some o
  kp : ∀ a, g.H a ≠ none → g'.H a ≠ none
  nf : ∀ a, g.H a ≠ none → g.F a = none → g'.F a = none
theorem Ext.refl (g : G) : Ext g g := ⟨Same.refl _, ⟨[], by simp, fun _ h => nomatch h⟩, fun _ _ _ h => h, fun _ h => h, fun _ _ h => h⟩
theorem Ext.pre {g g' : G} (e : Ext g g') : ∃ m, g'.A = g.A ++ m := let ⟨m, h, _⟩ := e.A; ⟨m, h⟩
theorem Ext.out {g g' : G} (e : Ext g g') {a : Addr} (h : a ∉ g.A) (q : g.H a ≠ none) : a ∉ g'.A := by
  obtain ⟨m, h1, h2⟩ := e.A
  rw [h1, List.mem_append]
  rintro (z | z)
  · exact h z
  · exact q (h2 a z)
theorem Ext.trans {g g1 g2 : G} (a : Ext g g1) (b : Ext g1 g2) : Ext g g2 where
  F := a.F.trans b.F
  A := by
    obtain ⟨m, h1, h2⟩ := a.A
    obtain ⟨n, k1, k2⟩ := b.A
    refine ⟨m ++ n, by rw [k1, h1, List.append_assoc], fun x hx => ?_⟩
    rcases List.mem_append.mp hx with z | z
    · exact h2 x z
    · cases e : g.H x with
      | none => rfl
      | some o => exact absurd (k2 x z) (a.kp x (by rw [e]; exact fun q => nomatch q))
  H := fun x o h q => b.H x o (a.out h (by rw [q]; exact fun q => nomatch q)) (a.H x o h q)
  kp := fun x h => b.kp x (a.kp x h)
  nf := fun x h q => b.nf x (a.kp x h) (a.nf x h q)
section
variable {K : PySem.W.Frag} {ca : Nat → Addr}
theorem Rep.ext {g g' : G} (e : Ext g g') {v : V} {d : D} (h : RepG K ca g v d) : RepG K ca g' v d := Rep.mono e.pre e.F d v h
theorem RepAll.ext {g g' : G} (e : Ext g g') {vs : List V} {ds : List D} (h : RepAll K ca g.A g.F vs ds) : RepAll K ca g'.A g'.F vs ds := RepAll.mono e.pre e.F ds vs h
theorem some_ne {α : Type} {o : Option α} {x : α} (h : o = some x) : o ≠ none := by rw [h]; exact fun q => nomatch q
theorem EnvR.ext {g0 g g' : G} {σ : L2.St} {ρ : DEnv} (e : Ext g g') (h : EnvR K ca g0 g σ ρ) : EnvR K ca g0 g' σ ρ where
  len := h.len
  val := fun i d q => let ⟨v, a, b⟩ := h.val i d q; ⟨v, a, b.ext e⟩
  own := fun i ds q => by
    obtain ⟨p, xs, a, b, c, d, f, r⟩ := h.own i ds q
    exact ⟨p, xs, a, b, e.nf p (some_ne f) c, e.out d (some_ne f), e.H p _ d f, r.ext e⟩
  sep := h.sep
theorem paired_mono {κ : Type} {A A' : List Addr} {F F' : Hp} (hA : ∃ m, A' = A ++ m) (hF : Same F F') : ∀ {xs : List (κ × V)} {ys : List (κ × D)}, Paired (fun (p : κ × V) (q : κ × D) => p.1 = q.1 ∧ Rep K ca A F p.2 q.2) xs ys → Paired (fun (p : κ × V) (q : κ × D) => p.1 = q.1 ∧ Rep K ca A' F' p.2 q.2) xs ys
  | _, _, .nil => .nil
  | _, _, .cons h t => .cons ⟨h.1, Rep.mono hA hF _ _ h.2⟩ (paired_mono hA hF t)
theorem RepO.mono {A A' : List Addr} {F F' : Hp} (hA : ∃ m, A' = A ++ m) (hF : Same F F') {ho : HO} {o : OB} (h : RepO K ca A F ho o) : RepO K ca A' F' ho o := by
  cases o with
  | lst ds =>
    cases ho with
    | lst xs => exact RepAll.mono hA hF ds xs h
    | _ => exact h.elim
  | dT kds =>
    cases ho with
    | dT kvs => exact paired_mono hA hF h
    | _ => exact h.elim
  | dK kds =>
    cases ho with
    | dK kvs => exact paired_mono hA hF h
    | _ => exact h.elim
  | ins c fds =>
    cases ho with
    | ins C dx fs => exact ⟨h.1, paired_mono hA hF h.2⟩
    | _ => exact h.elim
theorem Ok.there {g : G} {S : Store} (ok : Ok K ca g S) {a : Addr} (h : a ∈ g.A) : g.H a ≠ none := by
  obtain ⟨n, hn⟩ := List.mem_iff_getElem?.mp h
  have hl : n < S.length := by rw [← ok.len]; exact (List.getElem?_eq_some_iff.mp hn).1
  obtain ⟨a', ho, e1, e2, _⟩ := ok.ob n S[n] (by simp [hl])
  rw [hn] at e1
  cases e1
  exact some_ne e2
theorem Ok.ffree {g : G} {S : Store} (ok : Ok K ca g S) {p : Addr} (h : g.H p = none) : g.F p = none := Same.free ok.sub h
theorem same_upd {F : Hp} {p : Addr} {o : HO} (h : F p = none) : Same F (upd F p o) := fun b u e => by
  rw [upd_ne (ne_of_none e h)]
  exact e
/-- a new object that never changes -/
def G.frz (g : G) (p : Addr) (o : HO) : G := ⟨upd g.F p o, g.A, upd g.H p o⟩
/-- a new object that one holds alone -/
def G.put (g : G) (p : Addr) (o : HO) : G := ⟨g.F, g.A, upd g.H p o⟩
theorem ext_frz {g : G} {S : Store} (ok : Ok K ca g S) {p : Addr} {o : HO} (h : g.H p = none) : Ext g (g.frz p o) where
  F := same_upd (ok.ffree h)
  A := ⟨[], by simp [G.frz], fun _ q => nomatch q⟩
  H := fun a u _ e => by
    show upd g.H p o a = some u
    rw [upd_ne (ne_of_none e h)]
    exact e
  kp := fun a e => by
    show upd g.H p o a ≠ none
    unfold upd
    split
    · exact fun q => nomatch q
    · exact e
  nf := fun a e f => by
    show upd g.F p o a = none
    rw [upd_ne (fun q => e (by rw [q]; exact h))]
    exact f
theorem ok_frz {g : G} {S : Store} (ok : Ok K ca g S) {p : Addr} {o : HO} (h : g.H p = none) : Ok K ca (g.frz p o) S where
  sub := fun b u e => by
    have e' : upd g.F p o b = some u := e
    show upd g.H p o b = some u
    by_cases hb : b = p
    · subst hb
      rw [upd_same] at e'
      rw [upd_same]
      exact e'
    · rw [upd_ne hb] at e'
      rw [upd_ne hb]
      exact ok.sub b u e'
  len := ok.len
  nd := ok.nd
  fr := fun a ha => by
    show upd g.F p o a = none
    rw [upd_ne (fun q => ok.there ha (by rw [q]; exact h))]
    exact ok.fr a ha
  ob := fun n o' e => by
    obtain ⟨a, ho, e1, e2, e3⟩ := ok.ob n o' e
    refine ⟨a, ho, e1, ?_, RepO.mono ⟨[], by simp [G.frz]⟩ (same_upd (ok.ffree h)) e3⟩
    show upd g.H p o a = some ho
    rw [upd_ne (ne_of_none e2 h)]
    exact e2
theorem ext_put {g : G} {p : Addr} {o : HO} (h : g.H p = none) : Ext g (g.put p o) where
  F := Same.refl _
  A := ⟨[], by simp [G.put], fun _ q => nomatch q⟩
  H := fun a u _ e => by
    show upd g.H p o a = some u
    rw [upd_ne (ne_of_none e h)]
    exact e
  kp := fun a e => by
    show upd g.H p o a ≠ none
    unfold upd
    split
    · exact fun q => nomatch q
    · exact e
  nf := fun a e f => f
theorem ok_put {g : G} {S : Store} (ok : Ok K ca g S) {p : Addr} {o : HO} (h : g.F p = none) (hA : p ∉ g.A) : Ok K ca (g.put p o) S where
  sub := fun b u e => by
    show upd g.H p o b = some u
    rw [upd_ne (fun q => by rw [q] at e; rw [show g.F p = some u from e] at h; cases h)]
    exact ok.sub b u e
  len := ok.len
  nd := ok.nd
  fr := ok.fr
  ob := fun n o' e => by
    obtain ⟨a, ho, e1, e2, e3⟩ := ok.ob n o' e
    refine ⟨a, ho, e1, ?_, e3⟩
    show upd g.H p o a = some ho
    rw [upd_ne (fun q => hA (by rw [← q]; exact List.mem_iff_getElem?.mpr ⟨n, e1⟩))]
    exact e2
end
end DL
set_option Elab.async false
set_option linter.all false
set_option maxRecDepth 100000
set_option maxHeartbeats 1000000
namespace DL
open PySem PySem.Spec PyProof.Rows L2
inductive OutS where
  | nx (ρ : DEnv) (S : Store)
  | ret (d : D) (S : Store)
  | brk (ρ : DEnv) (S : Store)
  | cnt (ρ : DEnv) (S : Store)
  | exc (c : Nat) (S : Store)
  | bad
abbrev DS := DEnv → Store → OutS
def OutL.bind (o : OutL) (k : List D → Store → Out) : Out := match o with
  | .ok d S => k d S
  | .exc c S => .exc c S
  | .bad => .bad
def Out.bindA (o : Out) (k : D → Store → OutL) : OutL := match o with
  | .ok d S => k d S
  | .exc c S => .exc c S
  | .bad => .bad
def OutL.bindA (o : OutL) (k : List D → Store → OutL) : OutL := match o with
  | .ok d S => k d S
  | .exc c S => .exc c S
  | .bad => .bad
def Out.bindS (o : Out) (k : D → Store → OutS) : OutS := match o with
  | .ok d S => k d S
  | .exc c S => .exc c S
  | .bad => .bad
def Grow (g g' : G) : Prop := Same g.F g'.F ∧ ∃ m, g'.A = g.A ++ m
theorem Grow.refl (g : G) : Grow g g := ⟨Same.refl _, [], by simp⟩
theorem Grow.trans {g g1 g2 : G} (a : Grow g g1) (b : Grow g1 g2) : Grow g g2 := by
  obtain ⟨a1, m, a2⟩ := a
  obtain ⟨b1, n, b2⟩ := b
  exact ⟨a1.trans b1, m ++ n, by rw [b2, a2, List.append_assoc]⟩
theorem Ext.grow {g g' : G} (e : Ext g g') : Grow g g' := ⟨e.F, e.pre⟩
section
variable (K : PySem.W.Frag) (ca : Nat → Addr)
def PostE (E : XK) (g : G) (o : Out) (Q : VK) : Prop := match o with
  | .ok d S => ∀ v g', Ext g g' → Ok K ca g' S → RepG K ca g' v d → Q v g'.H
  | .exc c S => ∀ g', Ext g g' → Ok K ca g' S → E (.ref (ca c)) none g'.H
  | .bad => False
/-- a new list that nobody else holds -/
def PostF (E : XK) (g : G) (o : Out) (Q : VK) : Prop := match o with
  | .ok (.lst ds) S => ∀ p xs g', Ext g g' → Ok K ca g' S → g.H p = none → g'.F p = none → p ∉ g'.A → g'.H p = some (.lst xs) → RepAll K ca g'.A g'.F xs ds → Q (.ref p) g'.H
  | .ok _ _ => False
  | .exc c S => ∀ g', Ext g g' → Ok K ca g' S → E (.ref (ca c)) none g'.H
  | .bad => False
def PostA (n : Nat) (E : XK) (g : G) (o : OutL) (Q : List V → Hp → Prop) : Prop := match o with
  | .ok ds S => ∀ vs g', Ext g g' → Ok K ca g' S → RepAll K ca g'.A g'.F vs ds → vs.length = n → Q vs g'.H
  | .exc c S => ∀ g', Ext g g' → Ok K ca g' S → E (.ref (ca c)) none g'.H
  | .bad => False
def PostS (E : XK) (g0 g : G) (o : OutS) (Dn : Ends) : Prop := match o with
  | .nx ρ S => ∀ σ g', Ext g0 g' → Grow g g' → Ok K ca g' S → EnvR K ca g0 g' σ ρ → Dn.nx σ g'.H
  | .ret d S => ∀ v g', Ext g0 g' → Ok K ca g' S → RepG K ca g' v d → Dn.rt v g'.H
  | .brk ρ S => ∀ σ g', Ext g0 g' → Grow g g' → Ok K ca g' S → EnvR K ca g0 g' σ ρ → Dn.bk σ g'.H
  | .cnt ρ S => ∀ σ g', Ext g0 g' → Grow g g' → Ok K ca g' S → EnvR K ca g0 g' σ ρ → Dn.ct σ g'.H
  | .exc c S => ∀ g', Ext g0 g' → Ok K ca g' S → E (.ref (ca c)) none g'.H
  | .bad => False
def rdE (E : XK) (f : DE) : TE := fun σ H Q => ∃ g0 g ρ S, g.H = H ∧ Ok K ca g S ∧ EnvR K ca g0 g σ ρ ∧ PostE K ca E g (f ρ S) Q
def rdF (E : XK) (f : DE) : TE := fun σ H Q => ∃ g0 g ρ S, g.H = H ∧ Ok K ca g S ∧ EnvR K ca g0 g σ ρ ∧ PostF K ca E g (f ρ S) Q
def rdT (E : XK) (f : DE) : TT := fun σ H Q => ∃ g0 g ρ S, g.H = H ∧ Ok K ca g S ∧ EnvR K ca g0 g σ ρ ∧ PostE K ca E g (f ρ S) fun v H' => ∃ b, v = .bl b ∧ Q b H'
def rdA (n : Nat) (E : XK) (f : DA) : TA := fun σ H Q => ∃ g0 g ρ S, g.H = H ∧ Ok K ca g S ∧ EnvR K ca g0 g σ ρ ∧ PostA K ca n E g (f ρ S) Q
def rdS (E : XK) (f : DS) : TS := fun Dn σ H => ∃ g0 g ρ S, g.H = H ∧ Ext g0 g ∧ Ok K ca g S ∧ EnvR K ca g0 g σ ρ ∧ PostS K ca E g0 g (f ρ S) Dn
end
section
variable {X : Cx}
theorem wkE {e : Expr} {t t' : TE} (h : PE X e t) (k : ∀ σ H Q, t' σ H Q → t σ H Q) : PE X e t' := ⟨fun pins s σ H Q I q => h.run pins s σ H Q I (k σ H Q q)⟩
theorem wkT {e : Expr} {t t' : TT} (h : PT X e t) (k : ∀ σ H Q, t' σ H Q → t σ H Q) : PT X e t' := ⟨fun pins s σ H Q I q => h.run pins s σ H Q I (k σ H Q q)⟩
theorem wkW {e : Expr} {t t' : TT} (h : PW X e t) (k : ∀ σ H Q, t' σ H Q → t σ H Q) : PW X e t' := ⟨fun w pins s σ H Q I q => h.run w pins s σ H Q I (k σ H Q q)⟩
theorem wkA {es : List Expr} {t t' : TA} (h : PA X es t) (k : ∀ σ H Q, t' σ H Q → t σ H Q) : PA X es t' := ⟨fun pos pins s σ H Q I q => h.run pos pins s σ H Q I (k σ H Q q)⟩
theorem wkS {st : Stmt} {t t' : TS} (h : PS X st t) (k : ∀ Dn σ H, t' Dn σ H → t Dn σ H) : PS X st t' := ⟨fun pins s σ H Dn I q => h.run pins s σ H Dn I (k Dn σ H q)⟩
theorem wkSs {st : List Stmt} {t t' : TS} (h : PSs X st t) (k : ∀ Dn σ H, t' Dn σ H → t Dn σ H) : PSs X st t' := ⟨fun pins s σ H Dn I q => h.run pins s σ H Dn I (k Dn σ H q)⟩
end
section
variable {K : PySem.W.Frag} {ca : Nat → Addr} {E : XK} {g g1 : G} {Q R : VK}
theorem PostE.ext {o : Out} (e : Ext g g1) (h : PostE K ca E g o Q) : PostE K ca E g1 o Q := by
  cases o with
  | ok d S => exact fun v g' a b c => h v g' (e.trans a) b c
  | exc c S => exact fun g' a b => h g' (e.trans a) b
  | bad => exact h
theorem PostF.ext {o : Out} (e : Ext g g1) (h : PostF K ca E g o Q) : PostF K ca E g1 o Q := by
  cases o with
  | ok d S =>
    cases d with
    | lst ds => exact fun p xs g' a b c => h p xs g' (e.trans a) b (by
        cases q : g.H p with
        | none => rfl
        | some o => exact absurd c (e.kp p (some_ne q)))
    | _ => exact h
  | exc c S => exact fun g' a b => h g' (e.trans a) b
  | bad => exact h
theorem PostA.ext {n : Nat} {o : OutL} {Q : List V → Hp → Prop} (e : Ext g g1) (h : PostA K ca n E g o Q) : PostA K ca n E g1 o Q := by
  cases o with
  | ok d S => exact fun v g' a b c => h v g' (e.trans a) b c
  | exc c S => exact fun g' a b => h g' (e.trans a) b
  | bad => exact h
theorem PostS.grow {g0 : G} {o : OutS} {Dn : Ends} (e : Grow g g1) (h : PostS K ca E g0 g o Dn) : PostS K ca E g0 g1 o Dn := by
  cases o with
  | nx ρ S => exact fun σ g' a b c d => h σ g' a (e.trans b) c d
  | ret d S => exact h
  | brk ρ S => exact fun σ g' a b c d => h σ g' a (e.trans b) c d
  | cnt ρ S => exact fun σ g' a b c d => h σ g' a (e.trans b) c d
  | exc c S => exact h
  | bad => exact h
/-- THE STEP: from what is wanted behind both to what is wanted behind the first -/
theorem PostE.bind {o : Out} {k : D → Store → Out} (h : PostE K ca E g (o.bind k) Q)
    (hk : ∀ d S v g', Ext g g' → Ok K ca g' S → RepG K ca g' v d → PostE K ca E g' (k d S) Q → R v g'.H) : PostE K ca E g o R := by
  cases o with
  | ok d S => exact fun v g' a b c => hk d S v g' a b c (PostE.ext a h)
  | exc c S => exact h
  | bad => exact h
theorem PostF.of_bind {o : Out} {k : D → Store → Out} (h : PostF K ca E g (o.bind k) Q)
    (hk : ∀ d S v g', Ext g g' → Ok K ca g' S → RepG K ca g' v d → PostF K ca E g' (k d S) Q → R v g'.H) : PostE K ca E g o R := by
  cases o with
  | ok d S => exact fun v g' a b c => hk d S v g' a b c (PostF.ext a h)
  | exc c S => exact h
  | bad => exact h
theorem PostA.of_bindE {n : Nat} {o : Out} {k : D → Store → OutL} {Q : List V → Hp → Prop} (h : PostA K ca n E g (o.bindA k) Q)
    (hk : ∀ d S v g', Ext g g' → Ok K ca g' S → RepG K ca g' v d → PostA K ca n E g' (k d S) Q → R v g'.H) : PostE K ca E g o R := by
  cases o with
  | ok d S => exact fun v g' a b c => hk d S v g' a b c (PostA.ext a h)
  | exc c S => exact h
  | bad => exact h
theorem PostA.of_bindA {n m : Nat} {o : OutL} {k : List D → Store → OutL} {Q R : List V → Hp → Prop} (h : PostA K ca n E g (o.bindA k) Q)
    (hk : ∀ ds S vs g', Ext g g' → Ok K ca g' S → RepAll K ca g'.A g'.F vs ds → vs.length = m → PostA K ca n E g' (k ds S) Q → R vs g'.H) : PostA K ca m E g o R := by
  cases o with
  | ok d S => exact fun v g' a b c l => hk d S v g' a b c l (PostA.ext a h)
  | exc c S => exact h
  | bad => exact h
theorem PostE.bindL {m : Nat} {o : OutL} {k : List D → Store → Out} {R : List V → Hp → Prop} (h : PostE K ca E g (o.bind k) Q)
    (hk : ∀ ds S vs g', Ext g g' → Ok K ca g' S → RepAll K ca g'.A g'.F vs ds → vs.length = m → PostE K ca E g' (k ds S) Q → R vs g'.H) : PostA K ca m E g o R := by
  cases o with
  | ok d S => exact fun v g' a b c l => hk d S v g' a b c l (PostE.ext a h)
  | exc c S => exact h
  | bad => exact h
theorem PostF.bindL {m : Nat} {o : OutL} {k : List D → Store → Out} {R : List V → Hp → Prop} (h : PostF K ca E g (o.bind k) Q)
    (hk : ∀ ds S vs g', Ext g g' → Ok K ca g' S → RepAll K ca g'.A g'.F vs ds → vs.length = m → PostF K ca E g' (k ds S) Q → R vs g'.H) : PostA K ca m E g o R := by
  cases o with
  | ok d S => exact fun v g' a b c l => hk d S v g' a b c l (PostF.ext a h)
  | exc c S => exact h
  | bad => exact h
theorem PostS.bindE {g0 : G} {o : Out} {k : D → Store → OutS} {Dn : Ends} (h0 : Ext g0 g) (h : PostS K ca E g0 g (o.bindS k) Dn)
    (hk : ∀ d S v g', Ext g g' → Ok K ca g' S → RepG K ca g' v d → PostS K ca E g0 g' (k d S) Dn → R v g'.H) : PostE K ca E g o R := by
  cases o with
  | ok d S => exact fun v g' a b c => hk d S v g' a b c (PostS.grow a.grow h)
  | exc c S => exact fun g' a b => h g' (h0.trans a) b
  | bad => exact h
theorem PostE.here {d : D} {S : Store} {v : V} (h : PostE K ca E g (.ok d S) Q) (ok : Ok K ca g S) (r : RepG K ca g v d) : Q v g.H := h v g (Ext.refl g) ok r
/-- what a new list, held by nobody else, is as plain data -/
theorem PostE.fresh {o : Out} (h : PostE K ca E g o Q) (hl : ∀ d S, o = .ok d S → ∃ ds, d = .lst ds) : PostF K ca E g o Q := by
  cases o with
  | ok d S =>
    obtain ⟨ds, rfl⟩ := hl d S rfl
    intro p xs g' e ok np fp pA hp r
    have fs : Same g'.F (upd g'.F p (.lst xs)) := same_upd fp
    have q := h (.ref p) ⟨upd g'.F p (.lst xs), g'.A, g'.H⟩ ?_ ?_ (.lst upd_same (RepAll.mono ⟨[], by simp⟩ fs ds xs r))
    · exact q
    · refine ⟨e.F.trans fs, e.A, e.H, e.kp, fun a ha fa => ?_⟩
      show upd g'.F p (.lst xs) a = none
      rw [upd_ne (fun z => ha (by rw [z]; exact np))]
      exact e.nf a ha fa
    · refine ⟨fun b u q => ?_, ok.len, ok.nd, fun a ha => ?_, fun n o' q => ?_⟩
      · have q' : upd g'.F p (.lst xs) b = some u := q
        by_cases hb : b = p
        · subst hb
          rw [upd_same] at q'
          exact hp.trans q'
        · rw [upd_ne hb] at q'
          exact ok.sub b u q'
      · show upd g'.F p (.lst xs) a = none
        rw [upd_ne (fun z => pA (by rw [← z]; exact ha))]
        exact ok.fr a ha
      · obtain ⟨a, ho, e1, e2, e3⟩ := ok.ob n o' q
        exact ⟨a, ho, e1, e2, RepO.mono ⟨[], by simp⟩ fs e3⟩
  | exc c S => exact h
  | bad => exact h
end
def eVar (i : Nat) : DE := fun ρ S => match ρ[i]? with
  | some (.val d) => .ok d S
  | _ => .bad
def eC (d : D) : DE := fun _ S => .ok d S
section
variable {X : Cx} {ca : Nat → Addr} {E : XK}
theorem ge_tvar (i : Nat) {x : Str} {pos : Pos} (h : PE X (.Name x pos) (tVar i)) : PE X (.Name x pos) (rdE X.K ca E (eVar i)) := wkE h fun σ H Q q => by
  obtain ⟨g0, g, ρ, S, rfl, ok, env, post⟩ := q
  unfold eVar at post
  cases e : ρ[i]? with
  | none => rw [e] at post; exact post.elim
  | some s =>
    cases s with
    | emp => rw [e] at post; exact post.elim
    | own ds => rw [e] at post; exact post.elim
    | val d =>
      rw [e] at post
      obtain ⟨v, h1, h2⟩ := env.val i d e
      exact ⟨v, h1, post.here ok h2⟩
theorem ge_tc {e : Expr} {v : V} {d : D} (h : PE X e (tC v)) (r : ∀ A F, Rep X.K ca A F v d) : PE X e (rdE X.K ca E (eC d)) := wkE h fun σ H Q q => by
  obtain ⟨g0, g, ρ, S, rfl, ok, env, post⟩ := q
  exact PostE.here post ok (r _ _)
theorem ge_int {i j pos} : PE X (.Constant (.int i) j pos) (rdE X.K ca E (eC (.int i))) := ge_tc pe_int fun _ _ => .int i
theorem ge_bl {b j pos} : PE X (.Constant (.bool b) j pos) (rdE X.K ca E (eC (.bl b))) := ge_tc pe_bl fun _ _ => .bl b
end
/-- the name that stands in the i-th slot -/
theorem gv (i : Nat) {X : Cx} {ca : Nat → Addr} {E : XK} {x : Str} {pos : Pos} (hN : X.N[i]? = some x := by rfl) (hv : Vis X.env.scope x := by first | exact Or.inl rfl | exact Or.inr (Or.inl rfl) | exact Or.inr (Or.inr rfl))
    (hd : (x == ("__debug__" : Str)) = false := by decide) (hcd : (x == ("__classdict__" : Str)) = false := by decide) : PE X (.Name x pos) (rdE X.K ca E (eVar i)) := ge_tvar i (pe_var hN hv hd hcd)
abbrev D2 := D → D → Store → Out
abbrev D1 := D → Store → Out
def eBin (op : D2) (a b : DE) : DE := fun ρ S => (a ρ S).bind fun x S1 => (b ρ S1).bind fun y S2 => op x y S2
def eUn (op : D1) (a : DE) : DE := fun ρ S => (a ρ S).bind fun x S1 => op x S1
/-- an operation on values follows one on data -/
def OpS (K : PySem.W.Frag) (ca : Nat → Addr) (E : XK) (r : R2) (op : D2) : Prop :=
  ∀ g S v w d1 d2 Q, Ok K ca g S → RepG K ca g v d1 → RepG K ca g w d2 → PostE K ca E g (op d1 d2 S) Q → r v w g.H Q
def UnS (K : PySem.W.Frag) (ca : Nat → Addr) (E : XK) (r : V → Hp → VK → Prop) (op : D1) : Prop :=
  ∀ g S v d Q, Ok K ca g S → RepG K ca g v d → PostE K ca E g (op d S) Q → r v g.H Q
section
variable {X : Cx} {ca : Nat → Addr} {E : XK} {a b c : Expr} {fa fb fc : DE} {pos : Pos}
theorem rd_bin {r : R2} {op : D2} (hr : OpS X.K ca E r op) (σ : L2.St) (H : Hp) (Q : VK) (q : rdE X.K ca E (eBin op fa fb) σ H Q) : tOp r (rdE X.K ca E fa) (rdE X.K ca E fb) σ H Q := by
  obtain ⟨g0, g, ρ, S, rfl, ok, env, post⟩ := q
  refine ⟨g0, g, ρ, S, rfl, ok, env, PostE.bind post fun d1 S1 v g1 e1 ok1 r1 post1 => ?_⟩
  refine ⟨g0, g1, ρ, S1, rfl, ok1, env.ext e1, PostE.bind post1 fun d2 S2 w g2 e2 ok2 r2 post2 => ?_⟩
  exact hr g2 S2 v w d1 d2 Q ok2 (r1.ext e2) r2 post2
theorem ge_op {op : Operator} {r : R2} {o2 : D2} (ho : OpR X (binaryOp op) r) (hr : OpS X.K ca E r o2) (ha : PE X a (rdE X.K ca E fa)) (hb : PE X b (rdE X.K ca E fb)) : PE X (.BinOp a op b pos) (rdE X.K ca E (eBin o2 fa fb)) := wkE (pe_op ho ha hb) (rd_bin hr)
theorem ge_cmp {op : CmpOp} {r : R2} {o2 : D2} (ho : OpR X (compareOp op) r) (hr : OpS X.K ca E r o2) (ha : PE X a (rdE X.K ca E fa)) (hb : PE X b (rdE X.K ca E fb)) (hm : behindInMarks op b = false) : PE X (.Compare a [op] [b] pos) (rdE X.K ca E (eBin o2 fa fb)) := wkE (pe_cmpR ho ha hb hm) (rd_bin hr)
theorem rd_test {t : DE} (σ : L2.St) (H : Hp) (Q : Bool → Hp → Prop) (q : rdT X.K ca E t σ H Q) : tTest (rdE X.K ca E t) σ H Q := by
  obtain ⟨g0, g, ρ, S, rfl, ok, env, post⟩ := q
  exact ⟨g0, g, ρ, S, rfl, ok, env, post⟩
theorem rd_testB {t : DE} (σ : L2.St) (H : Hp) (Q : Bool → Hp → Prop) (q : rdT X.K ca E t σ H Q) : tB (rdE X.K ca E t) σ H Q := by
  obtain ⟨g0, g, ρ, S, rfl, ok, env, post⟩ := q
  exact ⟨g0, g, ρ, S, rfl, ok, env, post⟩
theorem gt_cmp {op : CmpOp} {r : R2} {o2 : D2} (ho : OpR X (compareOp op) r) (hr : OpS X.K ca E r o2) (ha : PE X a (rdE X.K ca E fa)) (hb : PE X b (rdE X.K ca E fb)) (hm : behindInMarks op b = false) : PT X (.Compare a [op] [b] pos) (rdT X.K ca E (eBin o2 fa fb)) :=
  wkT (pt_cmpR ho ha hb hm) fun σ H Q q => rd_bin hr σ H _ (rd_test σ H Q q)
theorem gt_val {e : Expr} {f : DE} (h : PE X e (rdE X.K ca E f)) (he : ∀ whole, isTrue e X.env whole = (do let v ← whole; standAt e.pos; holding [v] (truthy v)) := by intro _; rfl) : PT X e (rdT X.K ca E f) := wkT (pt_val h he) rd_testB
theorem ge_un {op : UnaryOp} {r : V → Hp → VK → Prop} {o1 : D1} (ho : UnR X (unaryOp op) r) (hr : UnS X.K ca E r o1) (ha : PE X a (rdE X.K ca E fa)) : PE X (.UnaryOp op a pos) (rdE X.K ca E (eUn o1 fa)) := wkE (pe_un ho ha) fun σ H Q q => by
  obtain ⟨g0, g, ρ, S, rfl, ok, env, post⟩ := q
  exact ⟨g0, g, ρ, S, rfl, ok, env, PostE.bind post fun d1 S1 v g1 e1 ok1 r1 post1 => hr g1 S1 v d1 Q ok1 r1 post1⟩
def eChain (o o' : D2) (a b c : DE) : DE := fun ρ S => (a ρ S).bind fun x S1 => (b ρ S1).bind fun y S2 => (o x y S2).bind fun k S3 => match k with
  | .bl true => (c ρ S3).bind fun z S4 => o' y z S4
  | .bl false => .ok (.bl false) S3
  | _ => .bad
end
def eAnd (a b : DE) : DE := fun ρ S => (a ρ S).bind fun x S1 => match x with
  | .bl true => b ρ S1
  | .bl false => .ok (.bl false) S1
  | _ => .bad
def eOr (a b : DE) : DE := fun ρ S => (a ρ S).bind fun x S1 => match x with
  | .bl true => .ok (.bl true) S1
  | .bl false => b ρ S1
  | _ => .bad
def oNot : D1 := fun x S => match x with
  | .bl b => .ok (.bl (!b)) S
  | _ => .bad
def eNot (a : DE) : DE := eUn oNot a
def eIf (c a b : DE) : DE := fun ρ S => (c ρ S).bind fun x S1 => match x with
  | .bl true => a ρ S1
  | .bl false => b ρ S1
  | _ => .bad
section
variable {X : Cx} {ca : Nat → Addr} {E : XK} {a b c : Expr} {fa fb fc : DE} {pos : Pos} {rest : List Expr}
theorem gw_or1 (ha : PT X a (rdT X.K ca E fa)) : PW X (.BoolOp .Or [a] pos) (rdT X.K ca E fa) := pw_or1 ha
theorem gw_or (ha : PT X a (rdT X.K ca E fa)) (hb : PW X (.BoolOp .Or (b :: rest) pos) (rdT X.K ca E fb)) : PW X (.BoolOp .Or (a :: b :: rest) pos) (rdT X.K ca E (eOr fa fb)) := wkW (pw_or ha hb) fun σ H Q q => by
  obtain ⟨g0, g, ρ, S, rfl, ok, env, post⟩ := q
  refine ⟨g0, g, ρ, S, rfl, ok, env, PostE.bind post fun d1 S1 v g1 e1 ok1 r1 post1 => ?_⟩
  cases r1 with
  | bl k =>
    refine ⟨k, rfl, ?_⟩
    cases k with
    | false => exact iteF ⟨g0, g1, ρ, S1, rfl, ok1, env.ext e1, post1⟩
    | true =>
      refine iteT ?_
      obtain ⟨b', e', q'⟩ := PostE.here post1 ok1 (.bl true)
      cases e'
      exact q'
  | _ => exact post1.elim
theorem gt_not (ha : PT X a (rdT X.K ca E fa)) : PT X (.UnaryOp .Not a pos) (rdT X.K ca E (eNot fa)) := wkT (pt_not ha) fun σ H Q q => by
  obtain ⟨g0, g, ρ, S, rfl, ok, env, post⟩ := q
  refine ⟨g0, g, ρ, S, rfl, ok, env, PostE.bind post fun d1 S1 v g1 e1 ok1 r1 post1 => ?_⟩
  cases r1 with
  | bl k =>
    refine ⟨k, rfl, ?_⟩
    obtain ⟨b', e', q'⟩ := PostE.here post1 ok1 (.bl (!k))
    cases e'
    exact q'
  | _ => exact post1.elim
theorem ge_and (ha : PE X a (rdE X.K ca E fa)) (hb : PE X (.BoolOp .And (b :: rest) pos) (rdE X.K ca E fb)) : PE X (.BoolOp .And (a :: b :: rest) pos) (rdE X.K ca E (eAnd fa fb)) := wkE (pe_and ha hb) fun σ H Q q => by
  obtain ⟨g0, g, ρ, S, rfl, ok, env, post⟩ := q
  refine ⟨g0, g, ρ, S, rfl, ok, env, PostE.bind post fun d1 S1 v g1 e1 ok1 r1 post1 => ?_⟩
  cases r1 with
  | bl k =>
    refine ⟨k, rfl, ?_⟩
    cases k with
    | true => exact iteT ⟨g0, g1, ρ, S1, rfl, ok1, env.ext e1, post1⟩
    | false => exact iteF (PostE.here post1 ok1 (.bl false))
  | _ => exact post1.elim
theorem ge_one {op} (ha : PE X a (rdE X.K ca E fa)) : PE X (.BoolOp op [a] pos) (rdE X.K ca E fa) := pe_one ha
theorem ge_not (ha : PE X a (rdE X.K ca E fa)) : PE X (.UnaryOp .Not a pos) (rdE X.K ca E (eNot fa)) := wkE (pe_not ha) fun σ H Q q => by
  obtain ⟨g0, g, ρ, S, rfl, ok, env, post⟩ := q
  refine ⟨g0, g, ρ, S, rfl, ok, env, PostE.bind post fun d1 S1 v g1 e1 ok1 r1 post1 => ?_⟩
  cases r1 with
  | bl k => exact ⟨k, rfl, PostE.here post1 ok1 (.bl (!k))⟩
  | _ => exact post1.elim
theorem ge_if (hc : PT X c (rdT X.K ca E fc)) (ha : PE X a (rdE X.K ca E fa)) (hb : PE X b (rdE X.K ca E fb)) : PE X (.IfExp c a b pos) (rdE X.K ca E (eIf fc fa fb)) := wkE (pe_ifExp hc ha hb) fun σ H Q q => by
  obtain ⟨g0, g, ρ, S, rfl, ok, env, post⟩ := q
  refine ⟨g0, g, ρ, S, rfl, ok, env, PostE.bind post fun d1 S1 v g1 e1 ok1 r1 post1 => ?_⟩
  cases r1 with
  | bl k =>
    refine ⟨k, rfl, ?_⟩
    cases k with
    | true => exact iteT ⟨g0, g1, ρ, S1, rfl, ok1, env.ext e1, post1⟩
    | false => exact iteF ⟨g0, g1, ρ, S1, rfl, ok1, env.ext e1, post1⟩
  | _ => exact post1.elim
end
def aNil : DA := fun _ S => .ok [] S
def aCons (a : DE) (r : DA) : DA := fun ρ S => (a ρ S).bindA fun x S1 => (r ρ S1).bindA fun xs S2 => .ok (x :: xs) S2
def eTup (a : DA) : DE := fun ρ S => (a ρ S).bind fun ds S1 => .ok (.tup ds) S1
def eLst (a : DA) : DE := fun ρ S => (a ρ S).bind fun ds S1 => .ok (.lst ds) S1
section
variable {X : Cx} {ca : Nat → Addr} {E : XK} {a : Expr} {es : List Expr} {fa : DE} {fr : DA} {pos : Pos} {n : Nat}
theorem ga_nil : PA X [] (rdA X.K ca 0 E aNil) := wkA pa_nil fun σ H Q q => by
  obtain ⟨g0, g, ρ, S, rfl, ok, env, post⟩ := q
  exact post [] g (Ext.refl g) ok .nil rfl
theorem ga_cons (ha : PE X a (rdE X.K ca E fa)) (hr : PA X es (rdA X.K ca n E fr)) (hs : starEach (a :: es) X.env = (false, eval a X.env) :: starEach es X.env := by rfl) : PA X (a :: es) (rdA X.K ca (n + 1) E (aCons fa fr)) := wkA (pa_cons ha hr hs) fun σ H Q q => by
  obtain ⟨g0, g, ρ, S, rfl, ok, env, post⟩ := q
  refine ⟨g0, g, ρ, S, rfl, ok, env, PostA.of_bindE post fun d1 S1 v g1 e1 ok1 r1 post1 => ?_⟩
  refine ⟨g0, g1, ρ, S1, rfl, ok1, env.ext e1, PostA.of_bindA post1 fun ds S2 vs g2 e2 ok2 r2 hl post2 => ?_⟩
  exact post2 (v :: vs) g2 (Ext.refl _) ok2 (.cons (r1.ext e2) r2) (by rw [List.length_cons, hl])
theorem ge_tup {x1} (h : PA X es (rdA X.K ca n E fr)) (hn : n ≤ 100000 := by decide) : PE X (.Tuple es x1 pos) (rdE X.K ca E (eTup fr)) := wkE (pe_tup h) fun σ H Q q => by
  obtain ⟨g0, g, ρ, S, rfl, ok, env, post⟩ := q
  refine ⟨g0, g, ρ, S, rfl, ok, env, PostE.bindL post fun ds S1 vs g1 e1 ok1 r1 hl post1 => ?_⟩
  refine ⟨by rw [hl]; exact Nat.le_trans hn (by decide), fun p hp => ?_⟩
  exact post1 (.ref p) (g1.frz p (.tup vs)) (ext_frz ok1 hp) (ok_frz ok1 hp) (.tup (SqT.of upd_same) (RepAll.ext (ext_frz ok1 hp) r1))
theorem gf_lst (h : PA X es (rdA X.K ca n E fr)) (hn : n ≤ 100000 := by decide) : PE X (.List es pos) (rdF X.K ca E (eLst fr)) := wkE (pe_lst h) fun σ H Q q => by
  obtain ⟨g0, g, ρ, S, rfl, ok, env, post⟩ := q
  refine ⟨g0, g, ρ, S, rfl, ok, env, PostF.bindL post fun ds S1 vs g1 e1 ok1 r1 hl post1 => ?_⟩
  refine ⟨by rw [hl]; exact Nat.le_trans hn (by decide), fun p hp => ?_⟩
  exact post1 p vs (g1.put p (.lst vs)) (ext_put hp) (ok_put ok1 (ok1.ffree hp) fun z => ok1.there z hp) hp (ok1.ffree hp) (fun z => ok1.there z hp) upd_same r1
/-- a new list as plain data -/
theorem gf_ge {e : Expr} {f : DE} (h : PE X e (rdF X.K ca E f)) (hl : ∀ ρ S d S', f ρ S = .ok d S' → ∃ ds, d = .lst ds) : PE X e (rdE X.K ca E f) := wkE h fun σ H Q q => by
  obtain ⟨g0, g, ρ, S, rfl, ok, env, post⟩ := q
  exact ⟨g0, g, ρ, S, rfl, ok, env, PostE.fresh post (hl ρ S)⟩
theorem eLst_is {fr : DA} : ∀ ρ S d S', eLst fr ρ S = .ok d S' → ∃ ds, d = .lst ds := fun ρ S d S' h => by
  unfold eLst OutL.bind at h
  cases q : fr ρ S with
  | ok ds S1 =>
    rw [q] at h
    injection h with h1 h2
    exact ⟨ds, h1.symm⟩
  | exc c S1 => rw [q] at h; cases h
  | bad => rw [q] at h; cases h
theorem ge_lst (h : PA X es (rdA X.K ca n E fr)) (hn : n ≤ 100000 := by decide) : PE X (.List es pos) (rdE X.K ca E (eLst fr)) := gf_ge (gf_lst h hn) eLst_is
end
def runD (N n : Nat) (fb : DS) (ds : List D) (S : Store) : Out :=
  if ds.length = n then
    match fb (ds.map Slot.val ++ List.replicate (N - n) Slot.emp) S with
    | .nx _ S' => .ok .non S'
    | .ret d S' => .ok d S'
    | .exc c S' => .exc c S'
    | _ => .bad
  else .bad
/-- the promise of a def whose meaning is sem -/
def spD (K : PySem.W.Frag) (ca : Nat → Addr) (n : Nat) (sem : List D → Store → Out) : Sp := fun vs H Q E =>
  ∃ g S ds, g.H = H ∧ Ok K ca g S ∧ RepAll K ca g.A g.F vs ds ∧ vs.length = n ∧ PostE K ca E g (sem ds S) Q
def eCall (sem : List D → Store → Out) (a : DA) : DE := fun ρ S => (a ρ S).bind sem
section
variable {X : Cx} {ca : Nat → Addr} {E : XK} {a : Expr} {es : List Expr} {fr : DA} {CX : CXT} {k n : Nat} {f : Addr} {fd : FuncData} {ps : List Str} {x : Str} {p pos : Pos} {sem : List D → Store → Out}
theorem ge_call (F : FnOk X.prog X.w X.K X.mg X.base CX k f fd ps (spD X.K ca n sem)) (hr : Room k X.A) (hg : Gl X x) (hm : X.mg x = some (.ref f)) (hk : PySem.W.keepIn X.K (.ref f) = true) (hb : Binds X.K fd ps []) (hx : Passes CX X E)
    (ha : PA X (a :: es) (rdA X.K ca n E fr)) (hdb : (x == ("__debug__" : Str)) = false := by decide) (he : starEach (a :: es) X.env = (false, eval a X.env) :: starEach es X.env := by rfl) (hpl : (backTo pos (starEach es X.env)).any (·.1) = false := by rfl) :
    PE X (.Call (.Name x p) (a :: es) [] pos) (rdE X.K ca E (eCall sem fr)) := wkE (pe_call F hr hg hm hk hb .nil hx ha hdb he hpl) fun σ H Q q => by
  obtain ⟨g0, g, ρ, S, rfl, ok, env, post⟩ := q
  refine ⟨g0, g, ρ, S, rfl, ok, env, PostE.bindL post fun ds S1 vs g1 e1 ok1 r1 hl post1 => ?_⟩
  rw [List.append_nil]
  exact ⟨g1, S1, ds, rfl, ok1, r1, hl, post1⟩
end
theorem get_map_val {ds : List D} {m i : Nat} {s : Slot} (h : (ds.map Slot.val ++ List.replicate m Slot.emp)[i]? = some s) : (∃ d, ds[i]? = some d ∧ s = .val d) ∨ s = .emp := by
  by_cases hi : i < ds.length
  · rw [List.getElem?_append_left (by simpa using hi), List.getElem?_map] at h
    cases q : ds[i]? with
    | none =>
      rw [q] at h
      cases h
    | some d =>
      rw [q] at h
      cases h
      exact .inl ⟨d, rfl, rfl⟩
  · rw [List.getElem?_append_right (by simpa using Nat.le_of_not_lt hi), List.getElem?_replicate] at h
    split at h
    · cases h
      exact .inr rfl
    · cases h
/-- the slots at a call -/
theorem env_start {K : PySem.W.Frag} {ca : Nat → Addr} {g : G} {N : List Str} {vs : List V} {ds : List D} {n : Nat} (r : RepAll K ca g.A g.F vs ds) (hn : vs.length = n) :
    EnvR K ca g g (L2.start N vs) (ds.map Slot.val ++ List.replicate (N.length - n) Slot.emp) where
  len := by
    unfold L2.start
    rw [List.length_append, List.length_append, List.length_map, List.length_map, List.length_replicate, List.length_replicate, hn, ← r.length, hn]
  val := fun i d h => by
    rcases get_map_val h with ⟨d', e1, e2⟩ | e
    · cases e2
      obtain ⟨v, e3, e4⟩ := r.get' e1
      refine ⟨v, ?_, e4⟩
      unfold L2.start
      rw [List.getElem?_append_left (by rw [List.length_map]; exact (List.getElem?_eq_some_iff.mp e3).1), List.getElem?_map, e3]
      rfl
    · cases e
  own := fun i d h => by
    rcases get_map_val h with ⟨d', e1, e2⟩ | e
    · cases e2
    · cases e
  sep := fun i j d e p h => by
    rcases get_map_val h with ⟨d', e1, e2⟩ | e
    · cases e2
    · cases e
section
variable {P : Program} {w : World} {K : PySem.W.Frag} {mg : Str → Option Value} {base : Heap} {ca : Nat → Addr}
/-- THE RULE for a def: its body by data -/
theorem fnD {x qual : Str} {st : Stmt} {f : Addr} {fd : FuncData} {N ps : List Str} {k : Nat} {fb : DS} (F : Fun K x qual st f fd) (Sc : FnScope N ps (defScope st))
    (hbody : ∀ (cdv : Value) (A : Around) (outer : List Env) (s : Shared) (H : Hp) (E : XK), Room k (A.deeper (envOfC qual (defScope st) s.heap.objs.size f cdv)) →
      PSs (cxOf (L2.CX P w) P w K mg base N qual (defScope st) f cdv A outer s H E) (defBody st) (rdS K ca E fb)) : FnOk P w K mg base (L2.CX P w) (k + 1) f fd ps (spD K ca ps.length (runD N.length ps.length fb)) := by
  refine F.okX Sc (fun vs H Q E h => ?_) (fun cdv A outer s H vs Q E hr h => ⟨_, hbody cdv A outer s H E hr, ?_⟩)
  · obtain ⟨g, S, ds, _, _, _, hl, _⟩ := h
    exact hl
  · obtain ⟨g, S, ds, rfl, ok, r, hl, post⟩ := h
    refine ⟨g, g, _, S, rfl, Ext.refl g, ok, env_start (N := N) (n := ps.length) r hl, ?_⟩
    have hds : ds.length = ps.length := by rw [← r.length, hl]
    unfold runD at post
    rw [if_pos hds] at post
    cases q : fb (ds.map Slot.val ++ List.replicate (N.length - ps.length) Slot.emp) S with
    | nx ρ S' =>
      rw [q] at post
      exact fun σ g' e _ ok' _ => post .non g' e ok' .non
    | ret d S' =>
      rw [q] at post
      exact fun v g' e ok' r' => post v g' e ok' r'
    | brk ρ S' => rw [q] at post; exact post.elim
    | cnt ρ S' => rw [q] at post; exact post.elim
    | exc c S' =>
      rw [q] at post
      exact fun g' e ok' => post g' e ok'
    | bad => rw [q] at post; exact post.elim
end
end DL
set_option Elab.async false
set_option linter.all false
set_option maxRecDepth 100000
set_option maxHeartbeats 1000000
namespace DL
open PySem PySem.Spec PyProof.Rows L2
section
variable {K : PySem.W.Frag} {ca : Nat → Addr} {g0 g : G} {σ : L2.St} {ρ : DEnv}
theorem set_some {α : Type} {l : List α} {i j : Nat} {x y : α} (h : (l.set i x)[j]? = some y) : (j = i ∧ y = x ∧ i < l.length) ∨ (j ≠ i ∧ l[j]? = some y) := by
  by_cases hj : j = i
  · subst hj
    by_cases hl : j < l.length
    · rw [List.getElem?_set_self hl] at h
      cases h
      exact .inl ⟨rfl, rfl, hl⟩
    · rw [List.getElem?_eq_none (by simpa using hl)] at h
      cases h
  · rw [List.getElem?_set_ne (Ne.symm hj)] at h
    exact .inr ⟨hj, h⟩
theorem EnvR.set (h : EnvR K ca g0 g σ ρ) {v : V} {d : D} (r : RepG K ca g v d) (i : Nat) : EnvR K ca g0 g (σ.set i (some v)) (ρ.set i (.val d)) where
  len := by rw [List.length_set, List.length_set, h.len]
  val := fun j d' e => by
    rcases set_some e with ⟨rfl, q, hl⟩ | ⟨hj, q⟩
    · cases q
      exact ⟨v, by rw [List.getElem?_set_self (by rw [h.len]; exact hl)], r⟩
    · rw [List.getElem?_set_ne (Ne.symm hj)]
      exact h.val j d' q
  own := fun j ds e => by
    rcases set_some e with ⟨rfl, q, hl⟩ | ⟨hj, q⟩
    · cases q
    · rw [List.getElem?_set_ne (Ne.symm hj)]
      exact h.own j ds q
  sep := fun j k ds es p e1 e2 e3 e4 => by
    rcases set_some e1 with ⟨_, q, _⟩ | ⟨hj, q1⟩
    · cases q
    rcases set_some e2 with ⟨_, q, _⟩ | ⟨hk, q2⟩
    · cases q
    rw [List.getElem?_set_ne (Ne.symm hj)] at e3
    rw [List.getElem?_set_ne (Ne.symm hk)] at e4
    exact h.sep j k ds es p q1 q2 e3 e4
theorem EnvR.ownNe (h : EnvR K ca g0 g σ ρ) {p : Addr} (hp : ∀ (j : Nat) (ds : List D), ρ[j]? = some (Slot.own ds) → σ[j]? ≠ some (some (V.ref p))) {xs : List V} {ds : List D} (q0 : g0.H p = none) (q1 : g.F p = none) (q2 : p ∉ g.A) (q3 : g.H p = some (.lst xs)) (q4 : RepAll K ca g.A g.F xs ds) (i : Nat) :
    EnvR K ca g0 g (σ.set i (some (.ref p))) (ρ.set i (.own ds)) where
  len := by rw [List.length_set, List.length_set, h.len]
  val := fun j d' e => by
    rcases set_some e with ⟨rfl, q, hl⟩ | ⟨hj, q⟩
    · cases q
    · rw [List.getElem?_set_ne (Ne.symm hj)]
      exact h.val j d' q
  own := fun j es e => by
    rcases set_some e with ⟨rfl, q, hl⟩ | ⟨hj, q⟩
    · cases q
      exact ⟨p, xs, by rw [List.getElem?_set_self (by rw [h.len]; exact hl)], q0, q1, q2, q3, q4⟩
    · rw [List.getElem?_set_ne (Ne.symm hj)]
      exact h.own j es q
  sep := fun j k es fs p' e1 e2 e3 e4 => by
    rcases set_some e1 with ⟨rfl, z1, hl⟩ | ⟨hj, z1⟩
    · rcases set_some e2 with ⟨rfl, z2, _⟩ | ⟨hk, z2⟩
      · rfl
      · rw [List.getElem?_set_self (by rw [h.len]; exact hl)] at e3
        rw [List.getElem?_set_ne (Ne.symm hk)] at e4
        cases e3
        exact absurd e4 (hp k fs z2)
    · rw [List.getElem?_set_ne (Ne.symm hj)] at e3
      rcases set_some e2 with ⟨rfl, z2, hl⟩ | ⟨hk, z2⟩
      · rw [List.getElem?_set_self (by rw [h.len]; exact hl)] at e4
        cases e4
        exact absurd e3 (hp j es z1)
      · rw [List.getElem?_set_ne (Ne.symm hk)] at e4
        exact h.sep j k es fs p' z1 z2 e3 e4
/-- a new list put into a slot -/
theorem EnvR.setOwn {g' : G} (h : EnvR K ca g0 g σ ρ) (e : Ext g g') (e0 : Ext g0 g) {p : Addr} {xs : List V} {ds : List D} (np : g.H p = none) (q1 : g'.F p = none) (q2 : p ∉ g'.A) (q3 : g'.H p = some (.lst xs)) (q4 : RepAll K ca g'.A g'.F xs ds) (i : Nat) :
    EnvR K ca g0 g' (σ.set i (some (.ref p))) (ρ.set i (.own ds)) := by
  refine (h.ext e).ownNe (fun j es z q => ?_) ?_ q1 q2 q3 q4 i
  · obtain ⟨p', xs', z1, _, _, _, z2, _⟩ := h.own j es z
    rw [z1] at q
    cases q
    rw [np] at z2
    cases z2
  · cases q : g0.H p with
    | none => rfl
    | some o => exact absurd np (e0.kp p (some_ne q))
theorem ext_put0 {p : Addr} {o : HO} (e : Ext g0 g) (h0 : g0.H p = none) : Ext g0 (g.put p o) where
  F := e.F
  A := e.A
  H := fun a u ha q => by
    show upd g.H p o a = some u
    rw [upd_ne (ne_of_none q h0)]
    exact e.H a u ha q
  kp := fun a q => by
    show upd g.H p o a ≠ none
    unfold upd
    split
    · exact fun z => nomatch z
    · exact e.kp a q
  nf := e.nf
theorem grow_put {p : Addr} {o : HO} : Grow g (g.put p o) := ⟨Same.refl _, [], by simp [G.put]⟩
/-- the list of a slot changes -/
theorem EnvR.mut (h : EnvR K ca g0 g σ ρ) {i : Nat} {ds es : List D} {p : Addr} {ys : List V} (hi : ρ[i]? = some (.own ds)) (hp : σ[i]? = some (some (.ref p))) (q0 : g0.H p = none) (q1 : g.F p = none) (q2 : p ∉ g.A) (r : RepAll K ca g.A g.F ys es) :
    EnvR K ca g0 (g.put p (.lst ys)) σ (ρ.set i (.own es)) where
  len := by rw [List.length_set, h.len]
  val := fun j d' e => by
    rcases set_some e with ⟨rfl, q, hl⟩ | ⟨hj, q⟩
    · cases q
    · exact h.val j d' q
  own := fun j fs e => by
    rcases set_some e with ⟨rfl, q, hl⟩ | ⟨hj, q⟩
    · cases q
      exact ⟨p, ys, hp, q0, q1, q2, upd_same, r⟩
    · obtain ⟨p', xs', z1, z2, z3, z4, z5, z6⟩ := h.own j fs q
      refine ⟨p', xs', z1, z2, z3, z4, ?_, z6⟩
      show upd g.H p (.lst ys) p' = some (.lst xs')
      rw [upd_ne (fun z => hj (h.sep j i fs ds p q hi (by rw [z1, z]) hp))]
      exact z5
  sep := fun j k as bs p' e1 e2 e3 e4 => by
    have f1 : ∃ as', ρ[j]? = some (.own as') := by
      rcases set_some e1 with ⟨rfl, _, _⟩ | ⟨_, q⟩
      · exact ⟨ds, hi⟩
      · exact ⟨as, q⟩
    have f2 : ∃ bs', ρ[k]? = some (.own bs') := by
      rcases set_some e2 with ⟨rfl, _, _⟩ | ⟨_, q⟩
      · exact ⟨ds, hi⟩
      · exact ⟨bs, q⟩
    obtain ⟨as', f1⟩ := f1
    obtain ⟨bs', f2⟩ := f2
    exact h.sep j k as' bs' p' f1 f2 e3 e4
/-- the list of a slot becomes plain data -/
theorem EnvR.frz (h : EnvR K ca g0 g σ ρ) {i : Nat} {ds : List D} {p : Addr} {xs : List V} (hi : ρ[i]? = some (.own ds)) (hp : σ[i]? = some (some (.ref p))) (q1 : g.F p = none) (r : RepAll K ca g.A g.F xs ds) :
    EnvR K ca g0 ⟨upd g.F p (.lst xs), g.A, g.H⟩ σ (ρ.set i (.val (.lst ds))) where
  len := by rw [List.length_set, h.len]
  val := fun j d' e => by
    rcases set_some e with ⟨rfl, q, hl⟩ | ⟨hj, q⟩
    · cases q
      exact ⟨_, hp, .lst upd_same (RepAll.mono ⟨[], by simp⟩ (same_upd q1) _ _ r)⟩
    · obtain ⟨v, z1, z2⟩ := h.val j d' q
      exact ⟨v, z1, Rep.mono ⟨[], by simp⟩ (same_upd q1) _ _ z2⟩
  own := fun j fs e => by
    rcases set_some e with ⟨rfl, q, hl⟩ | ⟨hj, q⟩
    · cases q
    · obtain ⟨p', xs', z1, z2, z3, z4, z5, z6⟩ := h.own j fs q
      refine ⟨p', xs', z1, z2, ?_, z4, z5, RepAll.mono ⟨[], by simp⟩ (same_upd q1) _ _ z6⟩
      show upd g.F p (.lst xs) p' = none
      rw [upd_ne (fun z => hj (h.sep j i fs ds p q hi (by rw [z1, z]) hp))]
      exact z3
  sep := fun j k as bs p' e1 e2 e3 e4 => by
    rcases set_some e1 with ⟨_, q, _⟩ | ⟨hj, z1⟩
    · cases q
    rcases set_some e2 with ⟨_, q, _⟩ | ⟨hk, z2⟩
    · cases q
    exact h.sep j k as bs p' z1 z2 e3 e4
theorem ext_frz0 {p : Addr} {xs : List V} (e : Ext g0 g) (h0 : g0.H p = none) (q1 : g.F p = none) : Ext g0 ⟨upd g.F p (.lst xs), g.A, g.H⟩ where
  F := e.F.trans (same_upd q1)
  A := e.A
  H := e.H
  kp := e.kp
  nf := fun a ha fa => by
    show upd g.F p (.lst xs) a = none
    rw [upd_ne (fun z => ha (by rw [z]; exact h0))]
    exact e.nf a ha fa
theorem ok_frz0 {S : Store} (ok : Ok K ca g S) {p : Addr} {xs : List V} (q1 : g.F p = none) (q2 : p ∉ g.A) (q3 : g.H p = some (.lst xs)) : Ok K ca ⟨upd g.F p (.lst xs), g.A, g.H⟩ S where
  sub := fun b u q => by
    have q' : upd g.F p (.lst xs) b = some u := q
    by_cases hb : b = p
    · subst hb
      rw [upd_same] at q'
      exact q3.trans q'
    · rw [upd_ne hb] at q'
      exact ok.sub b u q'
  len := ok.len
  nd := ok.nd
  fr := fun a ha => by
    show upd g.F p (.lst xs) a = none
    rw [upd_ne (fun z => q2 (by rw [← z]; exact ha))]
    exact ok.fr a ha
  ob := fun n o' q => by
    obtain ⟨a, ho, e1, e2, e3⟩ := ok.ob n o' q
    exact ⟨a, ho, e1, e2, RepO.mono ⟨[], by simp⟩ (same_upd q1) e3⟩
end
abbrev DG := D → DEnv → Option DEnv
abbrev DGs := List D → DEnv → Option DEnv
def tgName (i : Nat) : DG := fun d ρ => some (ρ.set i (.val d))
def tgNil : DGs := fun ds ρ => match ds with
  | [] => some ρ
  | _ => none
def tgCons (t : DG) (u : DGs) : DGs := fun ds ρ => match ds with
  | d :: r => match t d ρ with
    | some ρ1 => u r ρ1
    | none => none
  | [] => none
def tgTup (u : DGs) : DG := fun d ρ => match d with
  | .tup ds => u ds ρ
  | _ => none
section
variable (K : PySem.W.Frag) (ca : Nat → Addr)
def rdG (t : DG) : TG := fun v σ H Q => ∃ g0 g ρ d, g.H = H ∧ Same g.F g.H ∧ EnvR K ca g0 g σ ρ ∧ RepG K ca g v d ∧ ∃ ρ', t d ρ = some ρ' ∧ ∀ σ', EnvR K ca g0 g σ' ρ' → Q σ' H
def rdGs (t : DGs) : TGs := fun vs σ H Q => ∃ g0 g ρ ds, g.H = H ∧ Same g.F g.H ∧ EnvR K ca g0 g σ ρ ∧ RepAll K ca g.A g.F vs ds ∧ ∃ ρ', t ds ρ = some ρ' ∧ ∀ σ', EnvR K ca g0 g σ' ρ' → Q σ' H
end
section
variable {X : Cx} {ca : Nat → Addr} {pos : Pos}
theorem wkG {tg : Expr} {t t' : TG} (h : PG X tg t) (k : ∀ v σ H Q, t' v σ H Q → t v σ H Q) : PG X tg t' := ⟨fun pins s σ H v u Q I r q => h.run pins s σ H v u Q I r (k v σ H Q q)⟩
theorem wkGs {tg : List Expr} {t t' : TGs} (h : PGs X tg t) (k : ∀ v σ H Q, t' v σ H Q → t v σ H Q) : PGs X tg t' := ⟨fun pins s σ H v u Q I r q => h.run pins s σ H v u Q I r (k v σ H Q q)⟩
theorem gg_name {i : Nat} {x : Str} (hN : X.N.Nodup) (hi : X.N[i]? = some x) (hx : Loc X.env.scope x) (hf : X.fn x = true ∨ X.env.scope.names.lookup x = some .local := by first | exact .inl rfl | exact .inr rfl | assumption) : PG X (.Name x pos) (rdG X.K ca (tgName i)) :=
  wkG (pg_name hN hi hx hf) fun v σ H Q q => by
    obtain ⟨g0, g, ρ, d, rfl, sm, env, r, ρ', e, k⟩ := q
    cases e
    exact k _ (env.set r i)
theorem ggs_nil : PGs X [] (rdGs X.K ca tgNil) := wkGs pgs_nil fun v σ H Q q => by
  obtain ⟨g0, g, ρ, ds, rfl, sm, env, r, ρ', e, k⟩ := q
  cases r with
  | nil =>
    cases e
    exact ⟨rfl, k _ env⟩
  | cons r1 r2 => cases e
theorem ggs_cons {e : Expr} {es : List Expr} {t : DG} {u : DGs} (h1 : PG X e (rdG X.K ca t)) (h2 : PGs X es (rdGs X.K ca u))
    (hs : (assignEach (e :: es) X.env).map (·.2) = assign e X.env :: (assignEach es X.env).map (·.2) := by rfl) : PGs X (e :: es) (rdGs X.K ca (tgCons t u)) := wkGs (pgs_cons h1 h2 hs) fun v σ H Q q => by
  obtain ⟨g0, g, ρ, ds, rfl, sm, env, r, ρ', e, k⟩ := q
  cases r with
  | nil => cases e
  | cons r1 r2 =>
    rename_i v vs d ds
    unfold tgCons at e
    dsimp only at e
    cases q : t d ρ with
    | none => rw [q] at e; cases e
    | some ρ1 =>
      rw [q] at e
      exact ⟨v, vs, rfl, g0, g, ρ, d, rfl, sm, env, r1, ρ1, q, fun σ1 env1 => ⟨g0, g, ρ1, ds, rfl, sm, env1, r2, ρ', e, k⟩⟩
theorem tgTup_len {u : DGs} {n : Nat} : (∀ ds ρ ρ', u ds ρ = some ρ' → ds.length = n) → ∀ d ρ ρ', tgTup u d ρ = some ρ' → ∃ ds, d = .tup ds ∧ ds.length = n ∧ u ds ρ = some ρ' := fun h d ρ ρ' e => by
  cases d with
  | tup ds => exact ⟨ds, rfl, h ds ρ ρ' e, e⟩
  | _ => cases e
theorem tgNil_len : ∀ ds ρ ρ', tgNil ds ρ = some ρ' → ds.length = 0 := fun ds ρ ρ' e => by
  cases ds with
  | nil => rfl
  | cons => cases e
theorem tgCons_len {t : DG} {u : DGs} {n : Nat} (h : ∀ ds ρ ρ', u ds ρ = some ρ' → ds.length = n) : ∀ ds ρ ρ', tgCons t u ds ρ = some ρ' → ds.length = n + 1 := fun ds ρ ρ' e => by
  cases ds with
  | nil => cases e
  | cons d r =>
    unfold tgCons at e
    dsimp only at e
    cases q : t d ρ with
    | none => rw [q] at e; cases e
    | some ρ1 =>
      rw [q] at e
      rw [List.length_cons, h r ρ1 ρ' e]
theorem gg_tup {es : List Expr} {k : Nat} {t : DGs} {n : Nat} (hc : X.calm = true) (h : PGs X es (rdGs X.K ca t)) (hl : ∀ ds ρ ρ', t ds ρ = some ρ' → ds.length = n)
    (hn : (assignEach es X.env).length = n := by rfl) (hst : (assignEach es X.env).findIdx? (·.1) = none := by rfl) : PG X (.Tuple es k pos) (rdG X.K ca (tgTup t)) := wkG (pg_tup hc h hn hst) fun v σ H Q q => by
  obtain ⟨g0, g, ρ, d, rfl, sm, env, r, ρ', e, k⟩ := q
  obtain ⟨ds, rfl, hds, e⟩ := tgTup_len hl d ρ ρ' e
  cases r with
  | tup hs ha => exact ⟨_, _, rfl, same_t sm hs, by rw [ha.length, hds], g0, g, ρ, ds, rfl, sm, env, ha, ρ', e, k⟩
end
def sSkip : DS := fun ρ S => .nx ρ S
def sSeq (f h : DS) : DS := fun ρ S => match f ρ S with
  | .nx ρ' S' => h ρ' S'
  | o => o
def sAsg (f : DE) (t : DG) : DS := fun ρ S => (f ρ S).bindS fun d S1 => match t d ρ with
  | some ρ' => .nx ρ' S1
  | none => .bad
def sExpr (f : DE) : DS := fun ρ S => (f ρ S).bindS fun _ S1 => .nx ρ S1
def sRet (f : DE) : DS := fun ρ S => (f ρ S).bindS fun d S1 => .ret d S1
def sIf (c : DE) (t u : DS) : DS := fun ρ S => (c ρ S).bindS fun d S1 => match d with
  | .bl true => t ρ S1
  | .bl false => u ρ S1
  | _ => .bad
def sRaise (c : Nat) : DS := fun _ S => .exc c S
/-- a, b = x, y -/
def sPar (i j : Nat) (a : DA) : DS := fun ρ S => match a ρ S with
  | .ok [x, y] S1 => .nx ((ρ.set i (.val x)).set j (.val y)) S1
  | .exc c S1 => .exc c S1
  | _ => .bad
section
variable {X : Cx} {ca : Nat → Addr} {E : XK} {a b c e : Expr} {f fa fb fc : DE} {pos : Pos} {st : Stmt} {rest : List Stmt} {fs fh : DS}
theorem gss_nil : PSs X [] (rdS X.K ca E sSkip) := wkSs pss_nil fun Dn σ H q => by
  obtain ⟨g0, g, ρ, S, rfl, e0, ok, env, post⟩ := q
  exact post σ g e0 (Grow.refl g) ok env
theorem gss_cons (h1 : PS X st (rdS X.K ca E fs)) (h2 : PSs X rest (rdS X.K ca E fh)) : PSs X (st :: rest) (rdS X.K ca E (sSeq fs fh)) := wkSs (pss_cons h1 h2) fun Dn σ H q => by
  obtain ⟨g0, g, ρ, S, rfl, e0, ok, env, post⟩ := q
  refine ⟨g0, g, ρ, S, rfl, e0, ok, env, ?_⟩
  unfold sSeq at post
  cases q : fs ρ S with
  | nx ρ' S' =>
    rw [q] at post
    exact fun σ' g' a b c d => ⟨g0, g', ρ', S', rfl, a, c, d, PostS.grow b post⟩
  | ret d S' => rw [q] at post; exact post
  | brk ρ' S' => rw [q] at post; exact post
  | cnt ρ' S' => rw [q] at post; exact post
  | exc c S' => rw [q] at post; exact post
  | bad => rw [q] at post; exact post
theorem gss_one (h1 : PS X st (rdS X.K ca E fs)) : PSs X [st] (rdS X.K ca E fs) := pss_one h1
theorem rd_asg {t : DG} (Dn : Ends) (σ : L2.St) (H : Hp) (q : rdS X.K ca E (sAsg f t) Dn σ H) : tAsg (rdE X.K ca E f) (rdG X.K ca t) Dn σ H := by
  obtain ⟨g0, g, ρ, S, rfl, e0, ok, env, post⟩ := q
  refine ⟨g0, g, ρ, S, rfl, ok, env, PostS.bindE e0 post fun d S1 v g1 e1 ok1 r1 post1 => ?_⟩
  cases q : t d ρ with
  | none => rw [q] at post1; exact post1.elim
  | some ρ' =>
    rw [q] at post1
    exact ⟨g0, g1, ρ, d, rfl, ok1.sub, env.ext e1, r1, ρ', q, fun σ' env' => post1 σ' g1 (e0.trans e1) (Grow.refl _) ok1 env'⟩
theorem gs_asg {tg : Expr} {t : DG} (he : PE X e (rdE X.K ca E f)) (hg : PG X tg (rdG X.K ca t)) (hs : swapsWithSole [tg] e pos.line X.env = pure false := by rfl) (hw : swappedStores [tg] e X.env = pure none := by rfl)
    (h1 : (assignEach [tg] X.env).map (·.2) = [assign tg X.env] := by rfl) : PS X (.Assign [tg] e pos) (rdS X.K ca E (sAsg f t)) := wkS (ps_asg he hg hs hw h1) rd_asg
theorem gs_set {i : Nat} {x : Str} {pos' : Pos} (hN : X.N.Nodup) (hi : X.N[i]? = some x) (hx : Loc X.env.scope x) (he : PE X e (rdE X.K ca E f)) (hs : swapsWith e (some (.Name x pos')) pos.line X.env = pure false := by rfl) (hf : X.fn x = true ∨ X.env.scope.names.lookup x = some .local := by first | exact .inl rfl | exact .inr rfl | assumption) :
    PS X (.Assign [.Name x pos'] e pos) (rdS X.K ca E (sAsg f (tgName i))) := wkS (ps_set hN hi hx he hs hf) fun Dn σ H q => by
  obtain ⟨g0, g, ρ, S, rfl, e0, ok, env, post⟩ := q
  refine ⟨g0, g, ρ, S, rfl, ok, env, PostS.bindE e0 post fun d S1 v g1 e1 ok1 r1 post1 => ?_⟩
  exact post1 _ g1 (e0.trans e1) (Grow.refl _) ok1 ((env.ext e1).set r1 i)
theorem gs_expr (he : PE X e (rdE X.K ca E f)) (hs : swapsWith e none pos.line X.env = pure false := by rfl) : PS X (.Expr e pos) (rdS X.K ca E (sExpr f)) := wkS (ps_expr he hs) fun Dn σ H q => by
  obtain ⟨g0, g, ρ, S, rfl, e0, ok, env, post⟩ := q
  refine ⟨g0, g, ρ, S, rfl, ok, env, PostS.bindE e0 post fun d S1 v g1 e1 ok1 r1 post1 => ?_⟩
  exact post1 _ g1 (e0.trans e1) (Grow.refl _) ok1 (env.ext e1)
theorem gs_ret (he : PE X e (rdE X.K ca E f)) : PS X (.Return (some e) pos) (rdS X.K ca E (sRet f)) := wkS (ps_ret he) fun Dn σ H q => by
  obtain ⟨g0, g, ρ, S, rfl, e0, ok, env, post⟩ := q
  refine ⟨g0, g, ρ, S, rfl, ok, env, PostS.bindE e0 post fun d S1 v g1 e1 ok1 r1 post1 => ?_⟩
  exact post1 v g1 (e0.trans e1) ok1 r1
theorem gs_if {as bs : List Stmt} (hc : PT X c (rdT X.K ca E fc)) (ha : PSs X as (rdS X.K ca E fs)) (hb : PSs X bs (rdS X.K ca E fh)) : PS X (.If c as bs pos) (rdS X.K ca E (sIf fc fs fh)) := wkS (ps_if hc ha hb) fun Dn σ H q => by
  obtain ⟨g0, g, ρ, S, rfl, e0, ok, env, post⟩ := q
  refine ⟨g0, g, ρ, S, rfl, ok, env, PostS.bindE e0 post fun d S1 v g1 e1 ok1 r1 post1 => ?_⟩
  cases r1 with
  | bl k =>
    refine ⟨k, rfl, ?_⟩
    cases k with
    | true => exact iteT ⟨g0, g1, ρ, S1, rfl, e0.trans e1, ok1, env.ext e1, post1⟩
    | false => exact iteF ⟨g0, g1, ρ, S1, rfl, e0.trans e1, ok1, env.ext e1, post1⟩
  | _ => exact post1.elim
theorem gs_raise {k : Nat} {cls : Value} (hc : X.calm = true) (tk : Takes X (fun cls d _ H => E cls d H)) (he : PMk X e (fun _ H Q => Q (.ref (ca k)) none H)) : PS X (.Raise (some e) none pos) (rdS X.K ca E (sRaise k)) := wkS (ps_raise hc tk he) fun Dn σ H q => by
  obtain ⟨g0, g, ρ, S, rfl, e0, ok, env, post⟩ := q
  exact post g e0 ok
theorem gs_par {i j : Nat} {x y : Str} {fa : DA} {px py pt : Pos} {kt k2 pt2} (hc : X.calm = true) (hN : X.N.Nodup) (hi : X.N[i]? = some x) (hj : X.N[j]? = some y) (hij : i ≠ j)
    (hx : X.env.scope.names.lookup x = some .local) (hy : X.env.scope.names.lookup y = some .local) (ha : PA X [a, b] (rdA X.K ca 2 E fa))
    (hw : swappedStores [.Tuple [.Name x px, .Name y py] kt pt] (.Tuple [a, b] k2 pt2) X.env = pure (some [x, y]))
    (hs : swapsWithSole [.Tuple [.Name x px, .Name y py] kt pt] (.Tuple [a, b] k2 pt2) pos.line X.env = pure false := by rfl) :
    PS X (.Assign [.Tuple [.Name x px, .Name y py] kt pt] (.Tuple [a, b] k2 pt2) pos) (rdS X.K ca E (sPar i j fa)) := wkS (ps_par hc hN hi hj hij hx hy ha hw hs) fun Dn σ H q => by
  obtain ⟨g0, g, ρ, S, rfl, e0, ok, env, post⟩ := q
  refine ⟨g0, g, ρ, S, rfl, ok, env, ?_⟩
  unfold sPar at post
  cases q : fa ρ S with
  | ok ds S1 =>
    rw [q] at post
    intro vs g1 e1 ok1 r1 hl
    cases r1 with
    | nil => cases hl
    | cons ra rr =>
      cases rr with
      | nil => cases hl
      | cons rb rr =>
        cases rr with
        | cons _ _ => exact absurd hl (by simp)
        | nil => exact ⟨_, _, rfl, post _ g1 (e0.trans e1) e1.grow ok1 (((env.ext e1).set ra i).set rb j)⟩
  | exc k S1 =>
    rw [q] at post
    exact fun g' e' ok' => post g' (e0.trans e') ok'
  | bad => rw [q] at post; exact post
end
def sOwn (i : Nat) (f : DE) : DS := fun ρ S => (f ρ S).bindS fun d S1 => match d with
  | .lst ds => .nx (ρ.set i (.own ds)) S1
  | _ => .bad
def sFrz (i : Nat) (f : DS) : DS := fun ρ S => match ρ[i]? with
  | some (.own ds) => f (ρ.set i (.val (.lst ds))) S
  | _ => f ρ S
section
variable {X : Cx} {ca : Nat → Addr} {E : XK} {e : Expr} {f : DE} {pos : Pos} {st : Stmt} {sts : List Stmt} {fs : DS}
theorem own_post {K : PySem.W.Frag} {i : Nat} {g0 g : G} {ρ : DEnv} {σ : L2.St} {o : Out} {Dn : Ends} (e0 : Ext g0 g) (env : EnvR K ca g0 g σ ρ)
    (post : PostS K ca E g0 g (o.bindS fun d S1 => match d with | .lst ds => .nx (ρ.set i (.own ds)) S1 | _ => .bad) Dn) : PostF K ca E g o fun x H1 => Dn.nx (σ.set i (some x)) H1 := by
  cases o with
  | ok d S1 =>
    cases d with
    | lst ds => exact fun p xs g1 e1 ok1 np fp pA hp r => post _ g1 (e0.trans e1) e1.grow ok1 (env.setOwn e1 e0 np fp pA hp r i)
    | _ => exact post
  | exc c S1 => exact fun g' e' ok' => post g' (e0.trans e') ok'
  | bad => exact post
theorem gs_own {i : Nat} {x : Str} {pos' : Pos} (hN : X.N.Nodup) (hi : X.N[i]? = some x) (hx : Loc X.env.scope x) (he : PE X e (rdF X.K ca E f)) (hs : swapsWith e (some (.Name x pos')) pos.line X.env = pure false := by rfl) (hf : X.fn x = true ∨ X.env.scope.names.lookup x = some .local := by first | exact .inl rfl | exact .inr rfl | assumption) :
    PS X (.Assign [.Name x pos'] e pos) (rdS X.K ca E (sOwn i f)) := wkS (ps_set hN hi hx he hs hf) fun Dn σ H q => by
  obtain ⟨g0, g, ρ, S, rfl, e0, ok, env, post⟩ := q
  exact ⟨g0, g, ρ, S, rfl, ok, env, own_post e0 env post⟩
theorem rd_frz {i : Nat} (Dn : Ends) (σ : L2.St) (H : Hp) (q : rdS X.K ca E (sFrz i fs) Dn σ H) : rdS X.K ca E fs Dn σ H := by
  obtain ⟨g0, g, ρ, S, rfl, e0, ok, env, post⟩ := q
  unfold sFrz at post
  split at post
  · rename_i ds hi
    obtain ⟨p, xs, h1, h2, h3, h4, h5, h6⟩ := env.own i ds hi
    exact ⟨g0, ⟨upd g.F p (.lst xs), g.A, g.H⟩, _, S, rfl, ext_frz0 e0 h2 h3, ok_frz0 ok h3 h4 h5, env.frz hi h1 h3 h6, PostS.grow ⟨same_upd h3, [], by simp⟩ post⟩
  · exact ⟨g0, g, ρ, S, rfl, e0, ok, env, post⟩
theorem gs_frz (i : Nat) (h : PS X st (rdS X.K ca E fs)) : PS X st (rdS X.K ca E (sFrz i fs)) := wkS h rd_frz
end
def loopW (c : DE) (b : DS) : Nat → DS
  | 0, _, _ => .bad
  | n + 1, ρ, S => (c ρ S).bindS fun d S1 => match d with
    | .bl true => match b ρ S1 with
      | .nx ρ' S' => loopW c b n ρ' S'
      | .cnt ρ' S' => loopW c b n ρ' S'
      | .brk ρ' S' => .nx ρ' S'
      | .ret d S' => .ret d S'
      | .exc k S' => .exc k S'
      | .bad => .bad
    | .bl false => .nx ρ S1
    | _ => .bad
def sWhile (n : Nat) (c : DE) (b : DS) : DS := fun ρ S => loopW c b n ρ S
section
variable {X : Cx} {ca : Nat → Addr} {E : XK} {c : Expr} {fc : DE} {pos : Pos} {body : List Stmt} {fb : DS}
theorem gs_while (n : Nat) (hp : PassesOwn (model X.prog X.w) X.A X.env X.xe) (hc : PT X c (rdT X.K ca E fc)) (hb : PSs X body (rdS X.K ca E fb)) : PS X (.While c body [] pos) (rdS X.K ca E (sWhile n fc fb)) := wkS (ps_while hp hc hb) fun Dn σ H q => by
  obtain ⟨g0, g, ρ, S, rfl, e0, ok, env, post⟩ := q
  refine ⟨fun m σ' H' => ∃ g' ρ' S', g'.H = H' ∧ Ext g0 g' ∧ Ok X.K ca g' S' ∧ EnvR X.K ca g0 g' σ' ρ' ∧ PostS X.K ca E g0 g' (loopW fc fb m ρ' S') Dn, ⟨n, g, ρ, S, rfl, e0, ok, env, post⟩, ?_⟩
  rintro m σ1 H1 ⟨g1, ρ1, S1, rfl, e1, ok1, env1, post1⟩
  cases m with
  | zero => exact post1.elim
  | succ m =>
    refine ⟨g0, g1, ρ1, S1, rfl, ok1, env1, PostS.bindE e1 post1 fun d S2 v g2 e2 ok2 r2 post2 => ?_⟩
    cases r2 with
    | bl k =>
      refine ⟨k, rfl, ?_⟩
      cases k with
      | false => exact iteF (post2 σ1 g2 (e1.trans e2) (Grow.refl _) ok2 (env1.ext e2))
      | true =>
        refine iteT ⟨fun σ' H' => ∃ g' ρ' S', g'.H = H' ∧ Ext g0 g' ∧ Ok X.K ca g' S' ∧ EnvR X.K ca g0 g' σ' ρ' ∧ PostS X.K ca E g0 g' (loopW fc fb m ρ' S') Dn, fun σ' H' z => ⟨m, Nat.lt_succ_self m, z⟩, g0, g2, ρ1, S2, rfl, e1.trans e2, ok2, env1.ext e2, ?_⟩
        · cases q : fb ρ1 S2 with
          | nx ρ' S' =>
            dsimp only at post2
            rw [q] at post2
            exact fun σ' g' b1 b2 b3 b4 => ⟨g', ρ', S', rfl, b1, b3, b4, PostS.grow b2 post2⟩
          | cnt ρ' S' =>
            dsimp only at post2
            rw [q] at post2
            exact fun σ' g' b1 b2 b3 b4 => ⟨g', ρ', S', rfl, b1, b3, b4, PostS.grow b2 post2⟩
          | brk ρ' S' =>
            dsimp only at post2
            rw [q] at post2
            exact post2
          | ret d S' =>
            dsimp only at post2
            rw [q] at post2
            exact post2
          | exc k S' =>
            dsimp only at post2
            rw [q] at post2
            exact post2
          | bad =>
            dsimp only at post2
            rw [q] at post2
            exact post2
    | _ => exact post2.elim
end
end DL
set_option Elab.async false
set_option linter.all false
set_option maxRecDepth 100000
set_option maxHeartbeats 1000000
namespace DL
open PySem PySem.Spec PyProof.Rows L2
section
variable (K : PySem.W.Frag) (ca : Nat → Addr)
def Walk (g : G) (J : It) (ds : List D) : Prop := ∀ g1 S1, Grow g g1 → Ok K ca g1 S1 → ∀ i : Nat,
  (∀ d, ds[i]? = some d → J.go i g1.H ∧ ∀ x H', J.yld i g1.H x H' → ∃ g2, g2.H = H' ∧ Ext g1 g2 ∧ Ok K ca g2 S1 ∧ RepG K ca g2 x d) ∧ (ds.length ≤ i → J.stop i g1.H)
def PostI (E : XK) (g : G) (o : Out) (R : It → Hp → Prop) : Prop := match o with
  | .ok (.lst ds) S => ∀ J g', Ext g g' → Ok K ca g' S → Walk K ca g' J ds → R J g'.H
  | .ok _ _ => False
  | .exc c S => ∀ g', Ext g g' → Ok K ca g' S → E (.ref (ca c)) none g'.H
  | .bad => False
def rdI (E : XK) (f : DE) : TI := fun σ H R => ∃ g0 g ρ S, g.H = H ∧ Ok K ca g S ∧ EnvR K ca g0 g σ ρ ∧ PostI K ca E g (f ρ S) R
end
section
variable {K : PySem.W.Frag} {ca : Nat → Addr} {E : XK} {g g1 : G}
theorem PostI.ext {o : Out} {R : It → Hp → Prop} (e : Ext g g1) (h : PostI K ca E g o R) : PostI K ca E g1 o R := by
  cases o with
  | ok d S =>
    cases d with
    | lst ds => exact fun J g' a b c => h J g' (e.trans a) b c
    | _ => exact h
  | exc c S => exact fun g' a b => h g' (e.trans a) b
  | bad => exact h
theorem PostI.of_bind {o : Out} {k : D → Store → Out} {Q : VK} {R : It → Hp → Prop} (h : PostI K ca E g (o.bind k) R)
    (hk : ∀ d S v g', Ext g g' → Ok K ca g' S → RepG K ca g' v d → PostI K ca E g' (k d S) R → Q v g'.H) : PostE K ca E g o Q := by
  cases o with
  | ok d S => exact fun v g' a b c => hk d S v g' a b c (PostI.ext a h)
  | exc c S => exact h
  | bad => exact h
theorem PostI.bindL {m : Nat} {o : OutL} {k : List D → Store → Out} {Q : List V → Hp → Prop} {R : It → Hp → Prop} (h : PostI K ca E g (o.bind k) R)
    (hk : ∀ ds S vs g', Ext g g' → Ok K ca g' S → RepAll K ca g'.A g'.F vs ds → vs.length = m → PostI K ca E g' (k ds S) R → Q vs g'.H) : PostA K ca m E g o Q := by
  cases o with
  | ok d S => exact fun v g' a b c l => hk d S v g' a b c l (PostI.ext a h)
  | exc c S => exact h
  | bad => exact h
theorem walk_list {a : Addr} {xs : List V} {ds : List D} (hs : SqL K g.F a xs) (hr : RepAll K ca g.A g.F xs ds) : Walk K ca g (Itl K a) ds := fun g1 S1 gr ok i => by
  have h1 : SqL K g1.H a xs := ok.sub.seq (gr.1.seq hs)
  refine ⟨fun d hd => ?_, fun hl => ⟨xs, h1, by rw [hr.length]; exact hl⟩⟩
  obtain ⟨v, e1, r⟩ := hr.get' hd
  refine ⟨⟨xs, v, h1, e1⟩, fun x H' y => ?_⟩
  obtain ⟨rfl, y⟩ := y
  have e2 := y xs h1
  rw [e1] at e2
  cases e2
  exact ⟨g1, rfl, Ext.refl _, ok, Rep.mono gr.2 gr.1 _ _ r⟩
theorem walk_tup {a : Addr} {xs : List V} {ds : List D} (hs : SqT K g.F a xs) (hr : RepAll K ca g.A g.F xs ds) : Walk K ca g (Itt K a) ds := fun g1 S1 gr ok i => by
  have h1 : SqT K g1.H a xs := same_t ok.sub (same_t gr.1 hs)
  refine ⟨fun d hd => ?_, fun hl => ⟨xs, h1, by rw [hr.length]; exact hl⟩⟩
  obtain ⟨v, e1, r⟩ := hr.get' hd
  refine ⟨⟨xs, v, h1, e1⟩, fun x H' y => ?_⟩
  obtain ⟨rfl, y⟩ := y
  have e2 := y xs h1
  rw [e1] at e2
  cases e2
  exact ⟨g1, rfl, Ext.refl _, ok, Rep.mono gr.2 gr.1 _ _ r⟩
def rangeD (lo c : Int) (n : Nat) : List D := (List.range n).map fun (i : Nat) => D.int (lo + (i : Int) * c)
theorem rangeD_get {lo c : Int} {n i : Nat} {d : D} (h : (rangeD lo c n)[i]? = some d) : i < n ∧ d = .int (lo + (i : Int) * c) := by
  unfold rangeD at h
  rw [List.getElem?_map] at h
  cases q : (List.range n)[i]? with
  | none => rw [q] at h; cases h
  | some j =>
    rw [q] at h
    cases h
    have := List.getElem?_eq_some_iff.mp q
    obtain ⟨l, e⟩ := this
    rw [List.getElem_range] at e
    rw [List.length_range] at l
    subst e
    exact ⟨l, rfl⟩
theorem walk_range {lo : Int} {n : Nat} : Walk K ca g (Itr lo n) (rangeD lo 1 n) := fun g1 S1 gr ok i => by
  refine ⟨fun d hd => ?_, fun hl => by
    unfold rangeD at hl
    rw [List.length_map, List.length_range] at hl
    exact hl⟩
  obtain ⟨h1, rfl⟩ := rangeD_get hd
  refine ⟨h1, fun x H' y => ?_⟩
  obtain ⟨rfl, rfl⟩ := y
  rw [Int.mul_one]
  exact ⟨g1, rfl, Ext.refl _, ok, .int _⟩
end
def oSeq : D1 := fun d S => match d with
  | .lst ds => .ok (.lst ds) S
  | .tup ds => .ok (.lst ds) S
  | _ => .bad
def eSeq (f : DE) : DE := eUn oSeq f
def small (i : Int) : Bool := decide (-100000000 < i) && decide (i < 100000000)
def oRng : List D → Store → Out := fun ds S => match ds with
  | [.int j] => if small j then .ok (.lst (rangeD 0 1 j.toNat)) S else .bad
  | [.int i, .int j] => if small i && small j then .ok (.lst (rangeD i 1 (j - i).toNat)) S else .bad
  | [.int i, .int j, .int 2] => if small i && small j then .ok (.lst (rangeD i 2 ((j - i + 1) / 2).toNat)) S else .bad
  | _ => .bad
def eRng (a : DA) : DE := fun ρ S => (a ρ S).bind oRng
theorem small_of {i : Int} (h : small i = true) : -(2 ^ 62) ≤ i ∧ i < 2 ^ 62 := by
  unfold small at h
  rw [Bool.and_eq_true, decide_eq_true_iff, decide_eq_true_iff] at h
  constructor
  · exact Int.le_trans (by decide) (Int.le_of_lt h.1)
  · exact Int.lt_trans h.2 (by decide)
section
variable {X : Cx} {ca : Nat → Addr} {E : XK} {tg l a b c : Expr} {f : DE} {fa : DA} {p pos : Pos}
theorem wkI {t t' : TI} (h : PI X tg l t) (k : ∀ σ H Q, t' σ H Q → t σ H Q) : PI X tg l t' := ⟨fun pins s σ H Q I q => h.run pins s σ H Q I (k σ H Q q)⟩
/-- a list or a tuple, whichever comes -/
def iSeq (K : PySem.W.Frag) (tl : TE) : TI := fun σ H R => tl σ H fun x H1 => ∃ a, x = .ref a ∧ (((∃ xs, SqL K H1 a xs) ∧ R (Itl K a) H1) ∨ ((∃ xs, SqT K H1 a xs) ∧ R (Itt K a) H1))
theorem pi_seq {tl : TE} (hl : PE X l tl) : PI X tg l (iSeq X.K tl) := by
  constructor
  intro pins s σ H R I h
  refine thn (hl.run pins s σ H _ I h) ?_
  rintro v s1 ⟨x, H1, I1, r1, a, rfl, ⟨⟨xs, hq⟩, q⟩ | ⟨⟨xs, hq⟩, q⟩⟩
  · cases r1
    obtain ⟨its, rv, hp, hz⟩ := I1.list hq
    refine wpAny_pyIter_list hp.isList ⟨_, [s1.heap.objs.size], _, Itl X.K a, H1, rfl, ?_, turn_list a _, ?_, ?_, q⟩
    · exact I1.kept (t' := s1.toks) fun b o e => Heap.get?_push_of_some _ e
    · exact ⟨_, Heap.get?_push_size _ rfl, rfl, rfl⟩
    · intro b hb
      rw [List.mem_singleton] at hb
      rw [hb]
      exact I1.fpOk (Nat.le_refl _) (I1.hok.fresh (Nat.le_refl _))
  · cases r1
    obtain ⟨its, rv, hp, hz⟩ := I1.tuple hq
    refine wpAny_pyIter_tuple hp ⟨_, [s1.heap.objs.size], _, Itt X.K a, H1, rfl, ?_, turn_tuple a _, ?_, ?_, q⟩
    · exact I1.kept (t' := s1.toks) fun b o e => Heap.get?_push_of_some _ e
    · exact ⟨_, Heap.get?_push_size _ rfl, rfl, rfl⟩
    · intro b hb
      rw [List.mem_singleton] at hb
      rw [hb]
      exact I1.fpOk (Nat.le_refl _) (I1.hok.fresh (Nat.le_refl _))
theorem gi_seq (hl : PE X l (rdE X.K ca E f)) : PI X tg l (rdI X.K ca E (eSeq f)) := wkI (pi_seq hl) fun σ H R q => by
  obtain ⟨g0, g, ρ, S, rfl, ok, env, post⟩ := q
  refine ⟨g0, g, ρ, S, rfl, ok, env, PostI.of_bind post fun d S1 v g1 e1 ok1 r1 post1 => ?_⟩
  cases r1 with
  | lst hs hr => exact ⟨_, rfl, .inl ⟨⟨_, SqL.of (ok1.sub _ _ hs)⟩, post1 _ g1 (Ext.refl _) ok1 (walk_list (SqL.of hs) hr)⟩⟩
  | tup hs hr => exact ⟨_, rfl, .inr ⟨⟨_, same_t ok1.sub hs⟩, post1 _ g1 (Ext.refl _) ok1 (walk_tup hs hr)⟩⟩
  | _ => exact post1.elim
theorem gi_range1 (hg : Gl X "range") (hm : X.mg "range" = none) (ha : PA X [a] (rdA X.K ca 1 E fa)) (hs : starEach [a] X.env = [(false, eval a X.env)] := by rfl) : PI X tg (.Call (.Name "range" p) [a] [] pos) (rdI X.K ca E (eRng fa)) := wkI (pi_range1 hg hm ha hs) fun σ H R q => by
  obtain ⟨g0, g, ρ, S, rfl, ok, env, post⟩ := q
  refine ⟨g0, g, ρ, S, rfl, ok, env, PostI.bindL post fun ds S1 vs g1 e1 ok1 r1 hl post1 => ?_⟩
  unfold oRng at post1
  split at post1
  · rename_i j
    split at post1
    · rename_i hj
      cases r1 with
      | cons r2 r3 =>
        cases r2
        cases r3
        exact ⟨j, rfl, (small_of hj).1, (small_of hj).2, post1 _ g1 (Ext.refl _) ok1 walk_range⟩
    · exact post1.elim
  · cases r1 with
    | cons _ r3 => cases r3; cases hl
  · cases r1 with
    | cons _ r3 => cases r3; cases hl
  · exact post1.elim
theorem gi_range2 (hg : Gl X "range") (hm : X.mg "range" = none) (ha : PA X [a, b] (rdA X.K ca 2 E fa)) (hs : starEach [a, b] X.env = [(false, eval a X.env), (false, eval b X.env)] := by rfl) (hs2 : starEach [b] X.env = [(false, eval b X.env)] := by rfl) :
    PI X tg (.Call (.Name "range" p) [a, b] [] pos) (rdI X.K ca E (eRng fa)) := wkI (pi_range2 hg hm ha hs hs2) fun σ H R q => by
  obtain ⟨g0, g, ρ, S, rfl, ok, env, post⟩ := q
  refine ⟨g0, g, ρ, S, rfl, ok, env, PostI.bindL post fun ds S1 vs g1 e1 ok1 r1 hl post1 => ?_⟩
  unfold oRng at post1
  split at post1
  · cases r1 with
    | cons _ r3 => cases r3; cases hl
  · rename_i i j
    split at post1
    · rename_i hj
      rw [Bool.and_eq_true] at hj
      cases r1 with
      | cons r2 r3 =>
        cases r2
        cases r3 with
        | cons r4 r5 =>
          cases r4
          cases r5
          exact ⟨i, j, rfl, ⟨(small_of hj.1).1, (small_of hj.1).2, (small_of hj.2).1, (small_of hj.2).2⟩, post1 _ g1 (Ext.refl _) ok1 walk_range⟩
    · exact post1.elim
  · cases r1 with
    | cons _ r3 =>
      cases r3 with
      | cons _ r4 => cases r4; cases hl
  · exact post1.elim
end
def loopF (b : D → DS) : List D → DS
  | [], ρ, S => .nx ρ S
  | d :: ds, ρ, S => match b d ρ S with
    | .nx ρ' S' => loopF b ds ρ' S'
    | .cnt ρ' S' => loopF b ds ρ' S'
    | .brk ρ' S' => .nx ρ' S'
    | .ret d S' => .ret d S'
    | .exc k S' => .exc k S'
    | .bad => .bad
def turnF (t : DG) (b : DS) : D → DS := fun d ρ S => match t d ρ with
  | some ρ' => b ρ' S
  | none => .bad
def sFor (it : DE) (t : DG) (b : DS) : DS := fun ρ S => (it ρ S).bindS fun d S1 => match d with
  | .lst ds => loopF (turnF t b) ds ρ S1
  | _ => .bad
theorem drop_cons {α : Type} {l : List α} {i : Nat} {x : α} (h : l[i]? = some x) : l.drop i = x :: l.drop (i + 1) := by
  obtain ⟨hl, e⟩ := List.getElem?_eq_some_iff.mp h
  rw [← e]
  exact List.drop_eq_getElem_cons hl
section
variable {X : Cx} {ca : Nat → Addr} {E : XK} {tg iter : Expr} {f : DE} {t : DG} {fb : DS} {pos : Pos} {body : List Stmt}
theorem gs_for (hp : PassesOwn (model X.prog X.w) X.A X.env X.xe) (hc : X.calm = true) (hi : PI X tg iter (rdI X.K ca E f)) (hg : PG X tg (rdG X.K ca t)) (hb : PSs X body (rdS X.K ca E fb))
    (hs : ∀ x, foldedSetIterable iter X.env x = pure x := by intro _; rfl) : PS X (.For tg iter body [] pos) (rdS X.K ca E (sFor f t fb)) := wkS (ps_for hp hc hi hg hb hs) fun Dn σ H q => by
  obtain ⟨g0, g, ρ, S, rfl, e0, ok, env, post⟩ := q
  refine ⟨g0, g, ρ, S, rfl, ok, env, ?_⟩
  unfold sFor at post
  cases q : f ρ S with
  | bad => rw [q] at post; exact post
  | exc c S1 =>
    rw [q] at post
    exact fun g' e' ok' => post g' (e0.trans e') ok'
  | ok d S1 =>
    rw [q] at post
    cases d with
    | lst ds =>
      intro J gJ eJ okJ wk
      have post0 : PostS X.K ca E g0 gJ (loopF (turnF t fb) ds ρ S1) Dn := PostS.grow eJ.grow post
      refine ⟨fun i m σ' H' => m = ds.length - i ∧ i ≤ ds.length ∧ ∃ g' ρ' S', g'.H = H' ∧ Ext g0 g' ∧ Grow gJ g' ∧ Ok X.K ca g' S' ∧ EnvR X.K ca g0 g' σ' ρ' ∧ PostS X.K ca E g0 g' (loopF (turnF t fb) (ds.drop i) ρ' S') Dn,
        ⟨ds.length, by simp, Nat.zero_le _, gJ, ρ, S1, rfl, e0.trans eJ, Grow.refl _, okJ, env.ext eJ, post0⟩, ?_⟩
      rintro i m σ1 H1 ⟨rfl, hi, g1, ρ1, S2, rfl, e1, w1, ok1, env1, post1⟩
      obtain ⟨wgo, wstop⟩ := wk g1 S2 w1 ok1 i
      by_cases hlt : i < ds.length
      · have hd : ds[i]? = some ds[i] := by simp [hlt]
        obtain ⟨go, yl⟩ := wgo ds[i] hd
        refine .inr ⟨go, fun σ' H' => (ds.length - (i + 1) = ds.length - (i + 1) ∧ i + 1 ≤ ds.length ∧ ∃ g' ρ' S', g'.H = H' ∧ Ext g0 g' ∧ Grow gJ g' ∧ Ok X.K ca g' S' ∧ EnvR X.K ca g0 g' σ' ρ' ∧ PostS X.K ca E g0 g' (loopF (turnF t fb) (ds.drop (i + 1)) ρ' S') Dn), fun σ' H' z => ⟨ds.length - (i + 1), by omega, z⟩, fun x H' y => ?_⟩
        obtain ⟨g2, rfl, e2, ok2, r2⟩ := yl x H' y
        rw [drop_cons hd] at post1
        cases ht : t ds[i] ρ1 with
        | none =>
          unfold loopF turnF at post1
          rw [ht] at post1
          exact post1.elim
        | some ρ2 =>
          have post2 : PostS X.K ca E g0 g2 (match fb ρ2 S2 with
            | .nx ρ' S' => loopF (turnF t fb) (ds.drop (i + 1)) ρ' S'
            | .cnt ρ' S' => loopF (turnF t fb) (ds.drop (i + 1)) ρ' S'
            | .brk ρ' S' => .nx ρ' S'
            | .ret d S' => .ret d S'
            | .exc k S' => .exc k S'
            | .bad => .bad) Dn := by
            have z := PostS.grow e2.grow post1
            have hx : turnF t fb ds[i] ρ1 S2 = fb ρ2 S2 := by
              unfold turnF
              rw [ht]
            rw [loopF, hx] at z
            exact z
          refine ⟨g0, g2, ρ1, ds[i], rfl, ok2.sub, env1.ext e2, r2, ρ2, ht, fun σ2 env2 => ⟨g0, g2, ρ2, S2, rfl, e1.trans e2, ok2, env2, ?_⟩⟩
          cases hfb : fb ρ2 S2 with
          | nx ρ' S' =>
            rw [hfb] at post2
            exact fun σ' g' b1 b2 b3 b4 => ⟨rfl, hlt, g', ρ', S', rfl, b1, (w1.trans e2.grow).trans b2, b3, b4, PostS.grow b2 post2⟩
          | cnt ρ' S' =>
            rw [hfb] at post2
            exact fun σ' g' b1 b2 b3 b4 => ⟨rfl, hlt, g', ρ', S', rfl, b1, (w1.trans e2.grow).trans b2, b3, b4, PostS.grow b2 post2⟩
          | brk ρ' S' => rw [hfb] at post2; exact post2
          | ret d S' => rw [hfb] at post2; exact post2
          | exc k S' => rw [hfb] at post2; exact post2
          | bad => rw [hfb] at post2; exact post2
      · have hn : ds.length ≤ i := Nat.le_of_not_lt hlt
        refine .inl ⟨wstop hn, ?_⟩
        rw [List.drop_eq_nil_of_le hn] at post1
        exact post1 σ1 g1 e1 (Grow.refl _) ok1 env1
    | _ => exact post.elim
end
def loopC (c e : D → Store → Out) : List D → Store → OutL
  | [], S => .ok [] S
  | d :: ds, S => match c d S with
    | .ok (.bl true) S1 => match e d S1 with
      | .ok y S2 => match loopC c e ds S2 with
        | .ok ys S3 => .ok (y :: ys) S3
        | _ => .bad
      | _ => .bad
    | .ok (.bl false) S1 => loopC c e ds S1
    | _ => .bad
def turnC (t : DG) (f : DE) (ρ : DEnv) : D → Store → Out := fun d S => match t d ρ with
  | some ρ' => f ρ' S
  | none => .bad
def eLc (it : DE) (t : DG) (c e : DE) : DE := fun ρ S => (it ρ S).bind fun d S1 => match d with
  | .lst ds => if ds.length ≤ 100000 then (loopC (turnC t c ρ) (turnC t e ρ) ds S1).bind fun ys S2 => .ok (.lst ys) S2 else .bad
  | _ => .bad
def eYes : DE := eC (.bl true)
/-- how a comprehension's target is set in the block's own slots -/
def TgOk (K : PySem.W.Frag) (ca : Nat → Addr) (vs : List Nat) (gt : TG) (t : DG) : Prop :=
  ∀ (g0 g : G) (ρ : DEnv) (σ : L2.St) (x : V) (d : D) (ρ' : DEnv), EnvR K ca g0 g σ ρ → Same g.F g.H → RepG K ca g x d → t d ρ = some ρ' → ∀ R : L2.St → Hp → Prop, (∀ σ2, EnvR K ca g0 g σ2 ρ' → wipe σ2 vs = wipe σ vs → R σ2 g.H) → gt x (wipe σ vs) g.H R
section
variable {K : PySem.W.Frag} {ca : Nat → Addr} {g0 g : G} {ρ : DEnv} {σ : L2.St}
theorem tgOk_name (j : Nat) : TgOk K ca [j] (gName j) (tgName j) := fun g0 g ρ σ x d ρ' env sm r e R k => by
  cases e
  refine k _ ?_ ?_
  · show EnvR K ca g0 g ((σ.set j none).set j (some x)) _
    rw [List.set_set]
    exact env.set r j
  · show (((σ.set j none).set j (some x)).set j none) = σ.set j none
    rw [List.set_set, List.set_set]
theorem set4 {α : Type} (l : List α) {j k : Nat} (h : j ≠ k) (a b x y : α) : ((((l.set k a).set j b).set j x).set k y) = (l.set j x).set k y := by
  rw [List.set_set, List.set_comm _ _ h.symm, List.set_set]
theorem tgOk_pair {j k : Nat} (h : j ≠ k) : TgOk K ca [j, k] (gTup K 2 (gCons (gName j) (gCons (gName k) gNil))) (tgTup (tgCons (tgName j) (tgCons (tgName k) tgNil))) := fun g0 g ρ σ x d ρ' env sm r e R kk => by
  obtain ⟨ds, rfl, hds, e⟩ := tgTup_len (tgCons_len (tgCons_len tgNil_len)) d ρ ρ' e
  cases r with
  | tup hs ha =>
    cases ha with
    | nil => cases hds
    | cons r1 r2 =>
      cases r2 with
      | nil => cases hds
      | cons r3 r4 =>
        cases r4 with
        | cons _ _ => exact absurd hds (by simp)
        | nil =>
          cases e
          refine ⟨_, _, rfl, same_t sm hs, rfl, _, _, rfl, _, _, rfl, rfl, kk _ ?_ ?_⟩
          · show EnvR K ca g0 g ((((σ.set k none).set j none).set j (some _)).set k (some _)) _
            rw [set4 σ h]
            exact (env.set r1 j).set r3 k
          · show ((((((σ.set k none).set j none).set j (some _)).set k (some _)).set k none).set j none) = (σ.set k none).set j none
            rw [List.set_set, List.set_set, List.set_comm _ _ h, List.set_set, List.set_set]
end
section
variable {X : Cx} {ca : Nat → Addr} {E : XK} {f fc fe : DE} {t : DG} {gt : TG} {vs : List Nat}
theorem rd_lc {K : PySem.W.Frag} (ht : TgOk K ca vs gt t) (σ : L2.St) (H : Hp) (Q : VK) (q : rdF K ca E (eLc f t fc fe) σ H Q) : tLc (rdI K ca E f) gt (rdT K ca E0 fc) (rdE K ca E0 fe) vs σ H Q := by
  obtain ⟨g0, g, ρ, S, rfl, ok, env, post⟩ := q
  refine ⟨g0, g, ρ, S, rfl, ok, env, ?_⟩
  unfold eLc at post
  cases q : f ρ S with
  | bad => rw [q] at post; exact post
  | exc c S1 => rw [q] at post; exact post
  | ok d S1 =>
    rw [q] at post
    cases d with
    | lst ds =>
      intro J gJ eJ okJ wk Dl hD
      dsimp only [Out.bind] at post
      by_cases hz : ds.length ≤ 100000
      · rw [if_pos hz] at post
        cases hlc : loopC (turnC t fc ρ) (turnC t fe ρ) ds S1 with
        | bad => rw [hlc] at post; exact post.elim
        | exc c S2 =>
          exfalso
          clear post
          have : ∀ (l : List D) (S : Store) (c : Nat) (S2 : Store), loopC (turnC t fc ρ) (turnC t fe ρ) l S ≠ .exc c S2 := by
            intro l
            induction l with
            | nil => intro S c S2 z; cases z
            | cons d l ih =>
              intro S c S2 z
              unfold loopC at z
              split at z
              · split at z
                · split at z
                  · cases z
                  · cases z
                · cases z
              · exact ih _ _ _ z
              · cases z
          exact this _ _ _ _ hlc
        | ok ys S2 =>
          rw [hlc] at post
          have dF : gJ.F Dl = none := okJ.ffree hD
          have dA : Dl ∉ gJ.A := fun z => okJ.there z hD
          refine ⟨fun i m H' => m = ds.length - i ∧ i ≤ ds.length ∧ ∃ g' S' acc ac zs, g'.H = H' ∧ Ext gJ g' ∧ Ok K ca g' S' ∧ g'.F Dl = none ∧ Dl ∉ g'.A ∧ g'.H Dl = some (.lst acc) ∧ RepAll K ca g'.A g'.F acc ac ∧ ac.length ≤ i ∧ loopC (turnC t fc ρ) (turnC t fe ρ) (ds.drop i) S' = .ok zs S2 ∧ ac ++ zs = ys,
            ⟨ds.length, by simp, Nat.zero_le _, gJ.put Dl (.lst []), S1, [], [], ys, rfl, ext_put hD, ok_put okJ dF dA, dF, dA, upd_same, .nil, Nat.le_refl _, hlc, rfl⟩, ?_⟩
          rintro i m H1 ⟨rfl, hi, g1, S3, acc, ac, zs, rfl, e1, ok1, f1, a1, h1, r1, l1, lp, es⟩
          obtain ⟨wgo, wstop⟩ := wk g1 S3 e1.grow ok1 i
          by_cases hlt : i < ds.length
          · have hd : ds[i]? = some ds[i] := by simp [hlt]
            obtain ⟨go, yl⟩ := wgo ds[i] hd
            refine .inr ⟨go, fun H' => (ds.length - (i + 1) = ds.length - (i + 1) ∧ i + 1 ≤ ds.length ∧ ∃ g' S' acc ac zs, g'.H = H' ∧ Ext gJ g' ∧ Ok K ca g' S' ∧ g'.F Dl = none ∧ Dl ∉ g'.A ∧ g'.H Dl = some (.lst acc) ∧ RepAll K ca g'.A g'.F acc ac ∧ ac.length ≤ i + 1 ∧ loopC (turnC t fc ρ) (turnC t fe ρ) (ds.drop (i + 1)) S' = .ok zs S2 ∧ ac ++ zs = ys), fun H' z => ⟨ds.length - (i + 1), by omega, z⟩, fun x H' y => ?_⟩
            obtain ⟨g2, rfl, e2, ok2, r2⟩ := yl x H' y
            rw [drop_cons hd] at lp
            have env2 : EnvR K ca g0 g2 σ ρ := env.ext ((eJ.trans e1).trans e2)
            have h2 : g2.H Dl = some (.lst acc) := e2.H Dl _ a1 h1
            have f2 : g2.F Dl = none := e2.nf Dl (some_ne h1) f1
            have a2 : Dl ∉ g2.A := e2.out a1 (some_ne h1)
            cases htd : t ds[i] ρ with
            | none =>
              unfold loopC at lp
              have hx : turnC t fc ρ ds[i] S3 = .bad := by
                unfold turnC
                rw [htd]
              rw [hx] at lp
              cases lp
            | some ρ2 =>
              have hx : turnC t fc ρ ds[i] S3 = fc ρ2 S3 := by
                unfold turnC
                rw [htd]
              refine ht g0 g2 ρ σ x ds[i] ρ2 env2 ok2.sub r2 htd _ fun σ2 env3 hw => ⟨hw, g0, g2, ρ2, S3, rfl, ok2, env3, ?_⟩
              unfold loopC at lp
              rw [hx] at lp
              cases hc : fc ρ2 S3 with
              | bad => rw [hc] at lp; cases lp
              | exc c S4 => rw [hc] at lp; cases lp
              | ok d4 S4 =>
                rw [hc] at lp
                intro v4 g4 e4 ok4 r4
                have env4 : EnvR K ca g0 g4 σ2 ρ2 := env3.ext e4
                have h4 : g4.H Dl = some (.lst acc) := e4.H Dl _ a2 h2
                have f4 : g4.F Dl = none := e4.nf Dl (some_ne h2) f2
                have a4 : Dl ∉ g4.A := e4.out a2 (some_ne h2)
                cases r4 with
                | bl b =>
                  refine ⟨b, rfl, ?_⟩
                  cases b with
                  | false => exact iteF ⟨rfl, hlt, g4, S4, acc, ac, zs, rfl, (e1.trans e2).trans e4, ok4, f4, a4, h4, r1.ext (e2.trans e4), Nat.le_succ_of_le l1, lp, es⟩
                  | true =>
                    refine iteT ⟨g0, g4, ρ2, S4, rfl, ok4, env4, ?_⟩
                    dsimp only at lp
                    have hy : turnC t fe ρ ds[i] S4 = fe ρ2 S4 := by
                      unfold turnC
                      rw [htd]
                    rw [hy] at lp
                    cases he : fe ρ2 S4 with
                    | bad => rw [he] at lp; cases lp
                    | exc c S5 => rw [he] at lp; cases lp
                    | ok d5 S5 =>
                      rw [he] at lp
                      dsimp only at lp
                      intro v5 g5 e5 ok5 r5
                      cases hr : loopC (turnC t fc ρ) (turnC t fe ρ) (ds.drop (i + 1)) S5 with
                      | bad => rw [hr] at lp; cases lp
                      | exc c S6 => rw [hr] at lp; cases lp
                      | ok zs' S6 =>
                        rw [hr] at lp
                        injection lp with lp1 lp2
                        subst lp2
                        have h5 : g5.H Dl = some (.lst acc) := e5.H Dl _ a4 h4
                        have f5 : g5.F Dl = none := e5.nf Dl (some_ne h4) f4
                        have a5 : Dl ∉ g5.A := e5.out a4 (some_ne h4)
                        have x5 : Ext gJ g5 := ((e1.trans e2).trans e4).trans e5
                        have ra : RepAll K ca g5.A g5.F acc ac := r1.ext ((e2.trans e4).trans e5)
                        refine ⟨acc, h5, ?_, rfl, hlt, g5.put Dl (.lst (acc ++ [v5])), S5, acc ++ [v5], ac ++ [d5], zs', rfl, ext_put0 x5 hD, ok_put ok5 f5 a5, f5, a5, upd_same, ra.append (.cons r5 .nil), ?_, hr, ?_⟩
                        · rw [ra.length]
                          exact Nat.lt_of_le_of_lt l1 (Nat.lt_of_lt_of_le hlt (Nat.le_trans hz (by decide)))
                        · rw [List.length_append, List.length_singleton]
                          omega
                        · rw [List.append_assoc, List.singleton_append, lp1]
                          exact es
                | _ => cases lp
          · have hn : ds.length ≤ i := Nat.le_of_not_lt hlt
            refine .inl ⟨wstop hn, ?_⟩
            rw [List.drop_eq_nil_of_le hn] at lp
            injection lp with lp1 lp2
            subst lp1 lp2
            rw [List.append_nil] at es
            subst es
            refine post Dl acc g1 (eJ.trans e1) ok1 ?_ f1 a1 h1 r1
            cases z : g.H Dl with
            | none => rfl
            | some o => exact absurd hD (eJ.kp Dl (some_ne z))
      · rw [if_neg hz] at post
        exact post.elim
    | _ => exact post.elim
end
end DL
set_option Elab.async false
set_option linter.all false
set_option maxRecDepth 100000
set_option maxHeartbeats 1000000
namespace DL
open PySem PySem.Spec PyProof.Rows L2
mutual
def D.py : D → PyData
  | .non => .none
  | .bl b => .bool b
  | .int i => .int i
  | .str x => .str x
  | .lst xs => .list (pyAll xs)
  | .tup xs => .tuple (pyAll xs)
  | .fls xs => .list (pyAll xs)
  | .obj _ => .none
  | .exc _ => .none
def pyAll : List D → List PyData
  | [] => []
  | d :: ds => d.py :: pyAll ds
end
/-- plain data, n levels deep -/
def okD : Nat → D → Bool
  | _, .non => true
  | _, .bl _ => true
  | _, .int _ => true
  | _, .str x => PyData.strOk x
  | n + 1, .lst xs => xs.all (okD n)
  | n + 1, .tup xs => xs.all (okD n)
  | n + 1, .fls xs => xs.all (okD n)
  | _, _ => false
mutual
def eqD : D → D → Bool
  | .non, .non => true
  | .bl a, .bl b => a == b
  | .bl a, .int j => (if a then 1 else 0) == j
  | .int i, .bl b => i == (if b then 1 else 0)
  | .int i, .int j => i == j
  | .str x, .str y => x == y
  | .lst xs, .lst ys => eqAll xs ys
  | .lst xs, .fls ys => eqAll xs ys
  | .fls xs, .lst ys => eqAll xs ys
  | .fls xs, .fls ys => eqAll xs ys
  | .tup xs, .tup ys => eqAll xs ys
  | _, _ => false
def eqAll : List D → List D → Bool
  | [], [] => true
  | x :: xs, y :: ys => eqD x y && eqAll xs ys
  | _, _ => false
end
theorem okAll_lay (n : Nat) (ih : ∀ d, okD n d = true → d.py.canLay0 = true ∧ d.py.depth ≤ n) : ∀ (xs : List D), xs.all (okD n) = true → PyData.canLayAll0 (pyAll xs) = true ∧ PyData.depthAll (pyAll xs) ≤ n
  | [], _ => ⟨by simp [pyAll, PyData.canLayAll0], by simp [pyAll, PyData.depthAll]⟩
  | x :: xs, h => by
    rw [List.all_cons, Bool.and_eq_true] at h
    obtain ⟨h1, h2⟩ := h
    obtain ⟨a1, a2⟩ := ih x h1
    obtain ⟨b1, b2⟩ := okAll_lay n ih xs h2
    constructor
    · simp [pyAll, PyData.canLayAll0, a1, b1]
    · simp only [pyAll, PyData.depthAll]
      omega
theorem okD_lay : ∀ (n : Nat) (d : D), okD n d = true → d.py.canLay0 = true ∧ d.py.depth ≤ n := by
  intro n
  induction n with
  | zero =>
    intro d h
    cases d <;> first | (simp [okD] at h; done) | exact ⟨by simpa [D.py, PyData.canLay0, okD] using h, by simp [D.py, PyData.depth]⟩ | exact ⟨by simp [D.py, PyData.canLay0], by simp [D.py, PyData.depth]⟩
  | succ n ih =>
    intro d h
    cases d with
    | lst xs =>
      obtain ⟨a, b⟩ := okAll_lay n ih xs h
      exact ⟨by simp [D.py, PyData.canLay0, a], by simp only [D.py, PyData.depth]; omega⟩
    | tup xs =>
      obtain ⟨a, b⟩ := okAll_lay n ih xs h
      exact ⟨by simp [D.py, PyData.canLay0, a], by simp only [D.py, PyData.depth]; omega⟩
    | fls xs =>
      obtain ⟨a, b⟩ := okAll_lay n ih xs h
      exact ⟨by simp [D.py, PyData.canLay0, a], by simp only [D.py, PyData.depth]; omega⟩
    | obj _ => simp [okD] at h
    | exc _ => simp [okD] at h
    | str x => exact ⟨by simpa [D.py, PyData.canLay0, okD] using h, by simp [D.py, PyData.depth]⟩
    | _ => exact ⟨by simp [D.py, PyData.canLay0], by simp [D.py, PyData.depth]⟩
theorem okD_shaped {n : Nat} (hn : n ≤ 64) {d : D} (h : okD n d = true) : SeqAt.shaped d.py = true := by
  obtain ⟨a, b⟩ := okD_lay n d h
  unfold SeqAt.shaped
  rw [a, decide_eq_true (Nat.le_trans b hn)] <;> rfl
theorem eqAll_py (n : Nat) (ih : ∀ d e, okD n d = true → okD n e = true → eqD d e = PyData.eqv d.py e.py) : ∀ (xs ys : List D), xs.all (okD n) = true → ys.all (okD n) = true → eqAll xs ys = PyData.eqvAll (pyAll xs) (pyAll ys)
  | [], [], _, _ => by simp [eqAll, pyAll, PyData.eqvAll]
  | [], y :: ys, _, _ => by simp [eqAll, pyAll, PyData.eqvAll]
  | x :: xs, [], _, _ => by simp [eqAll, pyAll, PyData.eqvAll]
  | x :: xs, y :: ys, h, h' => by
    rw [List.all_cons, Bool.and_eq_true] at h h'
    simp only [eqAll, pyAll, PyData.eqvAll]
    rw [ih x y h.1 h'.1, eqAll_py n ih xs ys h.2 h'.2]
theorem eqD_py : ∀ (n : Nat) (d e : D), okD n d = true → okD n e = true → eqD d e = PyData.eqv d.py e.py := by
  intro n
  induction n with
  | zero =>
    intro d e hd he
    cases d <;> cases e <;> first
      | (simp [eqD, D.py, PyData.eqv]; done)
      | (simp [okD] at hd; done)
      | (simp [okD] at he; done)
  | succ n ih =>
    intro d e hd he
    cases d <;> cases e <;> first
      | (simp [eqD, D.py, PyData.eqv]; done)
      | (simp [okD] at hd; done)
      | (simp [okD] at he; done)
      | (simp only [eqD, D.py, PyData.eqv]
         exact eqAll_py n ih _ _ hd he)
section
variable {K : PySem.W.Frag} {ca : Nat → Addr} {A : List Addr} {F H : Hp}
mutual
theorem Rep.dp (sm : Same F H) : ∀ (n : Nat) (d : D) (v : V), okD n d = true → Rep K ca A F v d → Dp K H v d.py
  | _, .non, _, _, h => by cases h; exact .non
  | _, .bl b, _, _, h => by cases h; exact .bl b
  | _, .int i, _, _, h => by cases h; exact .int i
  | _, .str x, _, _, h => by cases h; exact .str x
  | n + 1, .lst ds, _, o, h => by
    cases h with
    | lst hs ha => exact .lst (SqL.of (sm _ _ hs)) (RepAll.dp sm n ds _ o ha)
  | n + 1, .fls ds, _, o, h => by
    cases h with
    | fls hs ha => exact .lst (sm.seq hs) (RepAll.dp sm n ds _ o ha)
  | n + 1, .tup ds, _, o, h => by
    cases h with
    | tup hs ha => exact .tup (same_t sm hs) (RepAll.dp sm n ds _ o ha)
  | 0, .lst ds, _, o, h => by simp [okD] at o
  | 0, .fls ds, _, o, h => by simp [okD] at o
  | 0, .tup ds, _, o, h => by simp [okD] at o
  | n, .obj _, _, o, h => by cases n <;> simp [okD] at o
  | n, .exc _, _, o, h => by cases n <;> simp [okD] at o
theorem RepAll.dp (sm : Same F H) : ∀ (n : Nat) (ds : List D) (vs : List V), ds.all (okD n) = true → RepAll K ca A F vs ds → DpAll K H vs (pyAll ds)
  | _, [], _, _, h => by cases h; exact .nil
  | n, d :: ds, _, o, h => by
    cases h with
    | cons h1 h2 =>
      rw [List.all_cons, Bool.and_eq_true] at o
      exact .cons (Rep.dp sm n d _ o.1 h1) (RepAll.dp sm n ds _ o.2 h2)
end
end
theorem OpR.or {X : Cx} {f : Value → Value → Sem Value} {r r' : R2} (h : OpR X f r) (h' : OpR X f r') : OpR X f (fun x y H Q => r x y H Q ∨ r' x y H Q) := fun pins s σ H x y v u Q I rx ry q => q.elim (fun q => h pins s σ H x y v u Q I rx ry q) fun q => h' pins s σ H x y v u Q I rx ry q
def oEq : D2 := fun d e S => if okD 6 d && okD 6 e then .ok (.bl (eqD d e)) S else .bad
def oNe : D2 := fun d e S => if okD 6 d && okD 6 e then .ok (.bl (!eqD d e)) S else .bad
def oLt : D2 := fun d e S => match d, e with
  | .int i, .int j => .ok (.bl (decide (i < j))) S
  | _, _ => .bad
def oLe : D2 := fun d e S => match d, e with
  | .int i, .int j => .ok (.bl (decide (i ≤ j))) S
  | _, _ => .bad
def oGt : D2 := fun d e S => match d, e with
  | .int i, .int j => .ok (.bl (decide (j < i))) S
  | _, _ => .bad
def oGe : D2 := fun d e S => match d, e with
  | .int i, .int j => .ok (.bl (decide (j ≤ i))) S
  | _, _ => .bad
def oSub : D2 := fun d e S => match d, e with
  | .int i, .int j => .ok (.int (i - j)) S
  | _, _ => .bad
def big (i : Int) : Bool := decide (-18446744073709551616 < i) && decide (i < 18446744073709551616)
def oMul : D2 := fun d e S => match d, e with
  | .int i, .int j => if big i || big j then .ok (.int (i * j)) S else .bad
  | .lst xs, .int k => if decide (-100000 ≤ k) && decide (k ≤ 100000) && decide (xs.length * k.toNat ≤ 100000) then .ok (.lst ((List.replicate k.toNat xs).flatten)) S else .bad
  | _, _ => .bad
def oFdiv : D2 := fun d e S => match d, e with
  | .int i, .int j => if decide (0 < j) && decide (j < 1073741824) then .ok (.int (i / j)) S else .bad
  | _, _ => .bad
def oMod : D2 := fun d e S => match d, e with
  | .int i, .int j => if decide (0 < j) then .ok (.int (i % j)) S else .bad
  | _, _ => .bad
def oPow : D2 := fun d e S => match d, e with
  | .int i, .int j => if decide (0 ≤ j) && decide (j ≤ 1000) && big i then .ok (.int (i ^ j.toNat)) S else .bad
  | _, _ => .bad
def oAdd : D2 := fun d e S => match d, e with
  | .int i, .int j => .ok (.int (i + j)) S
  | .lst xs, .lst ys => if xs.length + ys.length ≤ 100000 then .ok (.lst (xs ++ ys)) S else .bad
  | .str x, .str y => if x.length + y.length ≤ 100000 then .ok (.str (x ++ y)) S else .bad
  | _, _ => .bad
def oNeg : D1 := fun d S => match d with
  | .int i => .ok (.int (-i)) S
  | _ => .bad
def isNon : D → Bool
  | .non => true
  | _ => false
def oIs : D2 := fun d e S => match d, e with
  | .bl a, .bl b => .ok (.bl (decide (a = b))) S
  | d, .non => .ok (.bl (isNon d)) S
  | _, _ => .bad
def oIsnt : D2 := fun d e S => match d, e with
  | .bl a, .bl b => .ok (.bl (!decide (a = b))) S
  | d, .non => .ok (.bl (!isNon d)) S
  | _, _ => .bad
theorem sz_of {n : Nat} (h : n ≤ 100000) : n ≤ sizeLine := Nat.le_trans h (by decide)
theorem big_of {i : Int} (h : big i = true) : -(2 ^ 64) < i ∧ i < 2 ^ 64 := by
  unfold big at h
  rw [Bool.and_eq_true, decide_eq_true_iff, decide_eq_true_iff] at h
  exact h
section
variable {X : Cx} {ca : Nat → Addr} {E : XK}
/-- the operators' rules on values -/
def rAddA : R2 := fun x y H Q => (rI0 (fun i j => .int (i + j))) x y H Q ∨ (rCat x y H Q ∨ ∃ i j, x = .str i ∧ y = .str j ∧ i.length + j.length ≤ sizeLine ∧ Q (.str (i ++ j)) H)
theorem op_addA : OpR X (binaryOp .Add) rAddA := OpR.or op_add (OpR.or op_cat op_add_str)
def rMulA : R2 := fun x y H Q => (rI CMul (fun i j => .int (i * j))) x y H Q ∨ rRep x y H Q
theorem op_mulA : OpR X (binaryOp .Mult) rMulA := OpR.or op_mul op_rep
def rIsA : R2 := fun x y H Q => (y = .non ∧ Q (.bl (decide (x = .non))) H) ∨ rIsB x y H Q
theorem op_isA : OpR X (compareOp .Is) rIsA := OpR.or op_isN op_isBl
variable {K : PySem.W.Frag}
theorem s_eq : OpS K ca E (rEqD K) oEq := fun g S v w d e Q ok r1 r2 post => by
  unfold oEq at post
  split at post
  · rename_i h
    rw [Bool.and_eq_true] at h
    exact ⟨d.py, e.py, Rep.dp ok.sub 6 d v h.1 r1, Rep.dp ok.sub 6 e w h.2 r2, okD_shaped (by decide) h.1, okD_shaped (by decide) h.2, by
      rw [← eqD_py 6 d e h.1 h.2]
      exact PostE.here post ok (.bl _)⟩
  · exact post.elim
theorem s_ne : OpS K ca E (rNeD K) oNe := fun g S v w d e Q ok r1 r2 post => by
  unfold oNe at post
  split at post
  · rename_i h
    rw [Bool.and_eq_true] at h
    exact ⟨d.py, e.py, Rep.dp ok.sub 6 d v h.1 r1, Rep.dp ok.sub 6 e w h.2 r2, okD_shaped (by decide) h.1, okD_shaped (by decide) h.2, by
      rw [← eqD_py 6 d e h.1 h.2]
      exact PostE.here post ok (.bl _)⟩
  · exact post.elim
theorem s_lt : OpS K ca E (rI0 fun i j => .bl (decide (i < j))) oLt := fun g S v w d e Q ok r1 r2 post => by
  unfold oLt at post
  split at post
  · cases r1
    cases r2
    exact ⟨_, _, rfl, rfl, PostE.here post ok (.bl _)⟩
  · exact post.elim
theorem s_le : OpS K ca E (rI0 fun i j => .bl (decide (i ≤ j))) oLe := fun g S v w d e Q ok r1 r2 post => by
  unfold oLe at post
  split at post
  · cases r1
    cases r2
    exact ⟨_, _, rfl, rfl, PostE.here post ok (.bl _)⟩
  · exact post.elim
theorem s_gt : OpS K ca E (rI0 fun i j => .bl (decide (j < i))) oGt := fun g S v w d e Q ok r1 r2 post => by
  unfold oGt at post
  split at post
  · cases r1
    cases r2
    exact ⟨_, _, rfl, rfl, PostE.here post ok (.bl _)⟩
  · exact post.elim
theorem s_ge : OpS K ca E (rI0 fun i j => .bl (decide (j ≤ i))) oGe := fun g S v w d e Q ok r1 r2 post => by
  unfold oGe at post
  split at post
  · cases r1
    cases r2
    exact ⟨_, _, rfl, rfl, PostE.here post ok (.bl _)⟩
  · exact post.elim
theorem s_sub : OpS K ca E (rI0 fun i j => .int (i - j)) oSub := fun g S v w d e Q ok r1 r2 post => by
  unfold oSub at post
  split at post
  · cases r1
    cases r2
    exact ⟨_, _, rfl, rfl, PostE.here post ok (.int _)⟩
  · exact post.elim
theorem flatten_rep {A : List Addr} {F : Hp} {xs : List V} {ds : List D} (r : RepAll K ca A F xs ds) : ∀ n : Nat, RepAll K ca A F (List.replicate n xs).flatten (List.replicate n ds).flatten
  | 0 => .nil
  | n + 1 => by
    rw [List.replicate_succ, List.replicate_succ, List.flatten_cons, List.flatten_cons]
    exact r.append (flatten_rep r n)
theorem new_lst {g : G} {S : Store} {xs : List V} {ds : List D} {Q : VK} (ok : Ok K ca g S) (post : PostE K ca E g (.ok (.lst ds) S) Q) (r : RepAll K ca g.A g.F xs ds) (p : Addr) (hp : g.H p = none) : Q (.ref p) (upd g.H p (.lst xs)) :=
  post (.ref p) (g.frz p (.lst xs)) (ext_frz ok hp) (ok_frz ok hp) (.lst upd_same (r.ext (ext_frz ok hp)))
theorem new_tup {g : G} {S : Store} {xs : List V} {ds : List D} {Q : VK} (ok : Ok K ca g S) (post : PostE K ca E g (.ok (.tup ds) S) Q) (r : RepAll K ca g.A g.F xs ds) (p : Addr) (hp : g.H p = none) : Q (.ref p) (upd g.H p (.tup xs)) :=
  post (.ref p) (g.frz p (.tup xs)) (ext_frz ok hp) (ok_frz ok hp) (.tup (SqT.of upd_same) (r.ext (ext_frz ok hp)))
theorem s_mul : OpS K ca E rMulA oMul := fun g S v w d e Q ok r1 r2 post => by
  unfold oMul at post
  split at post
  · split at post
    · rename_i h
      cases r1
      cases r2
      refine .inl ⟨_, _, rfl, rfl, ?_, PostE.here post ok (.int _)⟩
      rw [Bool.or_eq_true] at h
      rcases h with h | h
      · exact .inl (big_of h)
      · exact .inr (big_of h)
    · exact post.elim
  · rename_i xs k
    split at post
    · rename_i h
      rw [Bool.and_eq_true, Bool.and_eq_true, decide_eq_true_iff, decide_eq_true_iff, decide_eq_true_iff] at h
      cases r2
      cases r1 with
      | lst hs hr =>
        refine .inr ⟨_, k, _, rfl, rfl, ok.sub _ _ hs, ?_, ?_, ?_, fun p hp => ?_⟩
        · have := h.1.1
          omega
        · have := h.1.2
          omega
        · rw [hr.length]
          exact sz_of h.2
        · have z := new_lst ok post (flatten_rep hr k.toNat) p hp
          exact z
    · exact post.elim
  · exact post.elim
theorem s_fdiv : OpS K ca E (rI CDiv fun i j => .int (i / j)) oFdiv := fun g S v w d e Q ok r1 r2 post => by
  unfold oFdiv at post
  split at post
  · split at post
    · rename_i h
      rw [Bool.and_eq_true, decide_eq_true_iff, decide_eq_true_iff] at h
      cases r1
      cases r2
      exact ⟨_, _, rfl, rfl, h, PostE.here post ok (.int _)⟩
    · exact post.elim
  · exact post.elim
theorem s_mod : OpS K ca E (rI (fun _ j => 0 < j) fun i j => .int (i % j)) oMod := fun g S v w d e Q ok r1 r2 post => by
  unfold oMod at post
  split at post
  · split at post
    · rename_i h
      rw [decide_eq_true_iff] at h
      cases r1
      cases r2
      exact ⟨_, _, rfl, rfl, h, PostE.here post ok (.int _)⟩
    · exact post.elim
  · exact post.elim
theorem s_pow : OpS K ca E (rI CPow fun i j => .int (i ^ j.toNat)) oPow := fun g S v w d e Q ok r1 r2 post => by
  unfold oPow at post
  split at post
  · split at post
    · rename_i h
      rw [Bool.and_eq_true, Bool.and_eq_true, decide_eq_true_iff, decide_eq_true_iff] at h
      cases r1
      cases r2
      have b := big_of h.2
      refine ⟨_, _, rfl, rfl, ⟨h.1.1, by have := h.1.2; omega, ?_⟩, PostE.here post ok (.int _)⟩
      omega
    · exact post.elim
  · exact post.elim
theorem s_add : OpS K ca E rAddA oAdd := fun g S v w d e Q ok r1 r2 post => by
  unfold oAdd at post
  split at post
  · cases r1
    cases r2
    exact .inl ⟨_, _, rfl, rfl, PostE.here post ok (.int _)⟩
  · split at post
    · rename_i h
      cases r1 with
      | lst hs hr =>
        cases r2 with
        | lst hs' hr' =>
          refine .inr (.inl ⟨_, _, _, _, rfl, rfl, ok.sub _ _ hs, ok.sub _ _ hs', ?_, fun p hp => new_lst ok post (hr.append hr') p hp⟩)
          rw [hr.length, hr'.length]
          exact sz_of h
    · exact post.elim
  · split at post
    · rename_i h
      cases r1
      cases r2
      exact .inr (.inr ⟨_, _, rfl, rfl, sz_of h, PostE.here post ok (.str _)⟩)
    · exact post.elim
  · exact post.elim
theorem s_neg : UnS K ca E (rU fun i => .int (-i)) oNeg := fun g S v d Q ok r1 post => by
  unfold oNeg at post
  split at post
  · cases r1
    exact ⟨_, rfl, PostE.here post ok (.int _)⟩
  · exact post.elim
theorem Rep.isNon {A : List Addr} {F : Hp} {v : V} {d : D} (r : Rep K ca A F v d) : decide (v = .non) = isNon d := by
  cases r <;> first | rfl | exact decide_eq_false (fun z => nomatch z)
theorem s_is : OpS K ca E rIsA oIs := fun g S v w d e Q ok r1 r2 post => by
  unfold oIs at post
  split at post
  · cases r1
    cases r2
    exact .inr ⟨_, _, rfl, rfl, PostE.here post ok (.bl _)⟩
  · cases r2
    refine .inl ⟨rfl, ?_⟩
    rw [r1.isNon]
    exact PostE.here post ok (.bl _)
  · exact post.elim
end
def flatD : D → Bool
  | .non => true
  | .bl _ => true
  | .int _ => true
  | .str _ => true
  | _ => false
def one? (x : Str) : Option Nat := match x.cps.toList with
  | [c] => some c
  | _ => none
theorem one?_some {x : Str} {c : Nat} (h : one? x = some c) : x = ⟨#[c]⟩ := by
  obtain ⟨⟨l⟩⟩ := x
  unfold one? at h
  split at h
  · rename_i c' e
    cases h
    have e' : l = [c] := e
    rw [e']
  · cases h
/-- x in a list or tuple -/
def inD (x : D) (ds : List D) : Bool := ds.any fun y => eqD y x
def oIn (neg : Bool) : D2 := fun d e S => match e with
  | .tup ds => if flatD d && ds.all flatD then .ok (.bl (if neg then !inD d ds else inD d ds)) S else .bad
  | .lst ds => if flatD d && ds.all flatD then .ok (.bl (if neg then !inD d ds else inD d ds)) S
    else if okD 5 d && ds.all (okD 5) then .ok (.bl (if neg then !inD d ds else inD d ds)) S else .bad
  | .str t => match d with
    | .str x => match one? x with
      | some c => .ok (.bl (if neg then !decide (c ∈ t.cps.toList) else decide (c ∈ t.cps.toList))) S
      | none => .bad
    | _ => .bad
  | _ => .bad
def rInS (neg : Bool) : R2 := fun x y H Q => ∃ (c : Nat) (z : Str), x = .str ⟨#[c]⟩ ∧ y = .str z ∧ Q (.bl (if neg then !decide (c ∈ z.cps.toList) else decide (c ∈ z.cps.toList))) H
section
variable {X : Cx} {ca : Nat → Addr} {E : XK} {K : PySem.W.Frag}
theorem op_inA (hu : X.A.units + 65 < cLine) : OpR X (compareOp .In) (fun x y H Q => rIn X.K false x y H Q ∨ (rInD X.K x y H Q ∨ rInS false x y H Q)) := OpR.or op_in_seq (OpR.or (op_inD hu) op_in_sign)
theorem op_notInA (hu : X.A.units + 65 < cLine) : OpR X (compareOp .NotIn) (fun x y H Q => rIn X.K true x y H Q ∨ (rNotInD X.K x y H Q ∨ rInS true x y H Q)) := OpR.or op_notIn_seq (OpR.or (op_notInD hu) op_notIn_sign)
theorem Rep.flat {A : List Addr} {F : Hp} {v : V} {d : D} (r : Rep K ca A F v d) (h : flatD d = true) : flatV v = true := by
  cases r <;> first | rfl | cases h
theorem Rep.eqV {A : List Addr} {F : Hp} {v w : V} {d e : D} (r : Rep K ca A F v d) (q : Rep K ca A F w e) (h : flatD d = true) (h' : flatD e = true) : L2.eqV v w = eqD d e := by
  cases r <;> first
    | (cases h; done)
    | (cases q <;> first | (cases h'; done) | (simp [L2.eqV, eqD]; done))
theorem RepAll.flat {A : List Addr} {F : Hp} : ∀ {vs : List V} {ds : List D}, RepAll K ca A F vs ds → ds.all flatD = true → vs.all flatV = true
  | _, _, .nil, _ => rfl
  | _, _, .cons r t, h => by
    rw [List.all_cons, Bool.and_eq_true] at h
    rw [List.all_cons, r.flat h.1, RepAll.flat t h.2] <;> rfl
theorem RepAll.inV {A : List Addr} {F : Hp} {w : V} {e : D} (q : Rep K ca A F w e) (h' : flatD e = true) : ∀ {vs : List V} {ds : List D}, RepAll K ca A F vs ds → ds.all flatD = true → L2.inV w vs = inD e ds
  | _, _, .nil, _ => rfl
  | _, _, .cons (v := v) (vs := vs) (d := d) (ds := ds) r t, h => by
    rw [List.all_cons, Bool.and_eq_true] at h
    have ih := RepAll.inV q h' t h.2
    unfold L2.inV inD at *
    rw [List.any_cons, List.any_cons, ih, r.eqV q h.1 h']
theorem inD_py {e : D} (h' : okD 5 e = true) : ∀ (ds : List D), ds.all (okD 5) = true → ((pyAll ds).any fun z => PyData.eqv z e.py) = inD e ds
  | [], _ => rfl
  | d :: ds, h => by
    rw [List.all_cons, Bool.and_eq_true] at h
    have ih := inD_py h' ds h.2
    unfold inD at *
    rw [pyAll, List.any_cons, List.any_cons, ih, eqD_py 5 d e h.1 h']
theorem s_in : OpS K ca E (fun x y H Q => rIn K false x y H Q ∨ (rInD K x y H Q ∨ rInS false x y H Q)) (oIn false) := fun g S v w d e Q ok r1 r2 post => by
  unfold oIn at post
  split at post
  · split at post
    · rename_i ds h
      rw [Bool.and_eq_true] at h
      cases r2 with
      | tup hs hr =>
        refine .inl ⟨_, _, rfl, .inr (same_t ok.sub hs), r1.flat h.1, hr.flat h.2, ?_⟩
        rw [RepAll.inV r1 h.1 hr h.2]
        exact PostE.here post ok (.bl _)
    · exact post.elim
  · rename_i ds
    split at post
    · rename_i h
      rw [Bool.and_eq_true] at h
      cases r2 with
      | lst hs hr =>
        refine .inl ⟨_, _, rfl, .inl (SqL.of (ok.sub _ _ hs)), r1.flat h.1, hr.flat h.2, ?_⟩
        rw [RepAll.inV r1 h.1 hr h.2]
        exact PostE.here post ok (.bl _)
    · split at post
      · rename_i h
        rw [Bool.and_eq_true] at h
        refine .inr (.inl ⟨d.py, pyAll ds, Rep.dp ok.sub 5 d v h.1 r1, Rep.dp ok.sub 6 (.lst ds) w h.2 r2, okD_shaped (by decide) h.1, okD_shaped (n := 6) (by decide) (d := .lst ds) h.2, ?_⟩)
        rw [inD_py h.1 ds h.2]
        exact PostE.here post ok (.bl _)
      · exact post.elim
  · split at post
    · split at post
      · rename_i h
        rw [one?_some h] at r1
        cases r1
        cases r2
        exact .inr (.inr ⟨_, _, rfl, rfl, PostE.here post ok (.bl _)⟩)
      · exact post.elim
    · exact post.elim
  · exact post.elim
theorem s_notIn : OpS K ca E (fun x y H Q => rIn K true x y H Q ∨ (rNotInD K x y H Q ∨ rInS true x y H Q)) (oIn true) := fun g S v w d e Q ok r1 r2 post => by
  unfold oIn at post
  split at post
  · split at post
    · rename_i ds h
      rw [Bool.and_eq_true] at h
      cases r2 with
      | tup hs hr =>
        refine .inl ⟨_, _, rfl, .inr (same_t ok.sub hs), r1.flat h.1, hr.flat h.2, ?_⟩
        rw [RepAll.inV r1 h.1 hr h.2]
        exact PostE.here post ok (.bl _)
    · exact post.elim
  · rename_i ds
    split at post
    · rename_i h
      rw [Bool.and_eq_true] at h
      cases r2 with
      | lst hs hr =>
        refine .inl ⟨_, _, rfl, .inl (SqL.of (ok.sub _ _ hs)), r1.flat h.1, hr.flat h.2, ?_⟩
        rw [RepAll.inV r1 h.1 hr h.2]
        exact PostE.here post ok (.bl _)
    · split at post
      · rename_i h
        rw [Bool.and_eq_true] at h
        refine .inr (.inl ⟨d.py, pyAll ds, Rep.dp ok.sub 5 d v h.1 r1, Rep.dp ok.sub 6 (.lst ds) w h.2 r2, okD_shaped (by decide) h.1, okD_shaped (n := 6) (by decide) (d := .lst ds) h.2, ?_⟩)
        rw [inD_py h.1 ds h.2]
        exact PostE.here post ok (.bl _)
      · exact post.elim
  · split at post
    · split at post
      · rename_i h
        rw [one?_some h] at r1
        cases r1
        cases r2
        exact .inr (.inr ⟨_, _, rfl, rfl, PostE.here post ok (.bl _)⟩)
      · exact post.elim
    · exact post.elim
  · exact post.elim
end
abbrev DC := List D → Store → Out
def CallS (K : PySem.W.Frag) (ca : Nat → Addr) (E : XK) (r : List V → Hp → VK → Prop) (o : DC) : Prop :=
  ∀ g S vs ds Q, Ok K ca g S → RepAll K ca g.A g.F vs ds → PostE K ca E g (o ds S) Q → r vs g.H Q
section
variable {X : Cx} {ca : Nat → Addr} {E : XK} {a : Expr} {es : List Expr} {fr : DA} {n : Nat} {x : Str} {p pos : Pos} {id T : String} {r : List V → Hp → VK → Prop} {o : DC}
theorem rd_call (hr : CallS X.K ca E r o) (σ : L2.St) (H : Hp) (Q : VK) (q : rdE X.K ca E (eCall o fr) σ H Q) : tCB r (rdA X.K ca n E fr) σ H Q := by
  obtain ⟨g0, g, ρ, S, rfl, ok, env, post⟩ := q
  refine ⟨g0, g, ρ, S, rfl, ok, env, PostE.bindL post fun ds S1 vs g1 e1 ok1 r1 hl post1 => ?_⟩
  exact hr g1 S1 vs ds Q ok1 r1 post1
theorem ge_callB (hc : CallR X (.builtin id) r) (hr : CallS X.K ca E r o) (hg : Gl X x) (hm : X.mg x = none) (hv : bootBuiltins x = some (.builtin id)) (ha : PA X (a :: es) (rdA X.K ca n E fr)) (hn : x ≠ "__name__" := by decide) (hdb : (x == ("__debug__" : Str)) = false := by decide)
    (he : starEach (a :: es) X.env = (false, eval a X.env) :: starEach es X.env := by rfl) (hpl : (backTo pos (starEach es X.env)).any (·.1) = false := by rfl) : PE X (.Call (.Name x p) (a :: es) [] pos) (rdE X.K ca E (eCall o fr)) :=
  wkE (pe_callB hc hg hm hv ha hn hdb he hpl) (rd_call hr)
theorem ge_callTy (hc : CallR X (.type T) r) (hr : CallS X.K ca E r o) (hg : Gl X x) (hm : X.mg x = none) (hv : bootBuiltins x = some (.type T)) (ha : PA X (a :: es) (rdA X.K ca n E fr)) (hn : x ≠ "__name__" := by decide) (hdb : (x == ("__debug__" : Str)) = false := by decide)
    (he : starEach (a :: es) X.env = (false, eval a X.env) :: starEach es X.env := by rfl) (hpl : (backTo pos (starEach es X.env)).any (·.1) = false := by rfl) : PE X (.Call (.Name x p) (a :: es) [] pos) (rdE X.K ca E (eCall o fr)) :=
  wkE (pe_callTy hc hg hm hv ha hn hdb he hpl) (rd_call hr)
end
def oLen : DC := fun ds S => match ds with
  | [.lst xs] => .ok (.int xs.length) S
  | [.tup xs] => .ok (.int xs.length) S
  | [.str x] => if x.length ≤ 100000 then .ok (.int x.length) S else .bad
  | [.obj n] => match S[n]? with
    | some (.lst xs) => .ok (.int xs.length) S
    | _ => .bad
  | _ => .bad
def oAbs : DC := fun ds S => match ds with
  | [.int i] => .ok (.int (if i < 0 then -i else i)) S
  | _ => .bad
def oMax : DC := fun ds S => match ds with
  | [.int i, .int j] => .ok (.int (if j > i then j else i)) S
  | _ => .bad
def asInts : List D → Option (List Int)
  | [] => some []
  | .int i :: ds => (asInts ds).map (i :: ·)
  | _ :: _ => none
def asBls : List D → Option (List Bool)
  | [] => some []
  | .bl i :: ds => (asBls ds).map (i :: ·)
  | _ :: _ => none
theorem asInts_some : ∀ {ds : List D} {ns : List Int}, asInts ds = some ns → ds = ns.map D.int
  | [], ns, h => by cases h; rfl
  | .int i :: ds, ns, h => by
    unfold asInts at h
    cases q : asInts ds with
    | none => rw [q] at h; cases h
    | some ms =>
      rw [q] at h
      cases h
      rw [asInts_some q] <;> rfl
  | .non :: _, _, h => by cases h
  | .bl _ :: _, _, h => by cases h
  | .str _ :: _, _, h => by cases h
  | .lst _ :: _, _, h => by cases h
  | .tup _ :: _, _, h => by cases h
  | .obj _ :: _, _, h => by cases h
  | .exc _ :: _, _, h => by cases h
  | .fls _ :: _, _, h => by cases h
theorem asInts_map : ∀ (ns : List Int), asInts (ns.map D.int) = some ns
  | [] => rfl
  | n :: ns => by rw [List.map_cons, asInts, asInts_map ns] <;> rfl
theorem asBls_some : ∀ {ds : List D} {ns : List Bool}, asBls ds = some ns → ds = ns.map D.bl
  | [], ns, h => by cases h; rfl
  | .bl i :: ds, ns, h => by
    unfold asBls at h
    cases q : asBls ds with
    | none => rw [q] at h; cases h
    | some ms =>
      rw [q] at h
      cases h
      rw [asBls_some q] <;> rfl
  | .non :: _, _, h => by cases h
  | .int _ :: _, _, h => by cases h
  | .str _ :: _, _, h => by cases h
  | .lst _ :: _, _, h => by cases h
  | .tup _ :: _, _, h => by cases h
  | .obj _ :: _, _, h => by cases h
  | .exc _ :: _, _, h => by cases h
  | .fls _ :: _, _, h => by cases h
theorem asBls_map : ∀ (ns : List Bool), asBls (ns.map D.bl) = some ns
  | [] => rfl
  | n :: ns => by rw [List.map_cons, asBls, asBls_map ns] <;> rfl
def oAll : DC := fun ds S => match ds with
  | [.lst xs] => match asBls xs with
    | some bs => .ok (.bl (bs.all id)) S
    | none => .bad
  | _ => .bad
def oList : DC := fun ds S => match ds with
  | [.lst xs] => .ok (.lst xs) S
  | [.tup xs] => .ok (.lst xs) S
  | [.fls xs] => .ok (.lst xs) S
  | [.obj n] => match S[n]? with
    | some (.lst xs) => .ok (.lst xs) S
    | _ => .bad
  | _ => .bad
def oTuple : DC := fun ds S => match ds with
  | [.lst xs] => .ok (.tup xs) S
  | [.tup xs] => .ok (.tup xs) S
  | _ => .bad
/-- ints in order -/
def insI (x : Int) : List Int → List Int
  | [] => [x]
  | y :: ys => if x ≤ y then x :: y :: ys else y :: insI x ys
def sortI : List Int → List Int
  | [] => []
  | x :: xs => insI x (sortI xs)
def oSorted : DC := fun ds S => match ds with
  | [.lst xs] => match asInts xs with
    | some ns => if ns.length < 64 then .ok (.lst ((sortI ns).map D.int)) S else .bad
    | none => .bad
  | _ => .bad
theorem insI_perm (x : Int) : ∀ (l : List Int), (insI x l).Perm (x :: l)
  | [] => List.Perm.refl _
  | y :: ys => by
    unfold insI
    split
    · exact List.Perm.refl _
    · exact ((insI_perm x ys).cons y).trans (List.Perm.swap x y ys)
theorem sortI_perm : ∀ (l : List Int), (sortI l).Perm l
  | [] => List.Perm.refl _
  | x :: xs => (insI_perm x (sortI xs)).trans ((sortI_perm xs).cons x)
theorem insI_sorted (x : Int) : ∀ (l : List Int), l.Pairwise (· ≤ ·) → (insI x l).Pairwise (· ≤ ·)
  | [], _ => by simp [insI]
  | y :: ys, h => by
    rw [List.pairwise_cons] at h
    unfold insI
    split
    · rename_i hx
      rw [List.pairwise_cons]
      refine ⟨fun z hz => ?_, by rw [List.pairwise_cons]; exact h⟩
      rcases List.mem_cons.mp hz with rfl | hz
      · exact hx
      · exact Int.le_trans hx (h.1 z hz)
    · rename_i hx
      rw [List.pairwise_cons]
      refine ⟨fun z hz => ?_, insI_sorted x ys h.2⟩
      rcases List.mem_cons.mp ((insI_perm x ys).mem_iff.mp hz) with rfl | hz
      · omega
      · exact h.1 z hz
theorem sortI_sorted : ∀ (l : List Int), (sortI l).Pairwise (· ≤ ·)
  | [] => List.Pairwise.nil
  | x :: xs => insI_sorted x _ (sortI_sorted xs)
theorem sortI_unique {l l' : List Int} (hp : l'.Perm l) (hs : l'.Pairwise (· ≤ ·)) : l' = sortI l :=
  List.Perm.eq_of_pairwise (fun a b _ _ h1 h2 => Int.le_antisymm h1 h2) hs (sortI_sorted l) (hp.trans (sortI_perm l).symm)
section
variable {ca : Nat → Addr} {E : XK} {K : PySem.W.Frag}
theorem c_len : CallS K ca E (fun xs H Q => ∃ x n, xs = [x] ∧ LenV K x H n ∧ Q (.int n) H) oLen := fun g S vs ds Q ok r post => by
  unfold oLen at post
  split at post
  · cases r with
    | cons r1 r2 =>
      cases r2
      cases r1 with
      | lst hs hr => exact ⟨_, _, rfl, .inl ⟨_, SqL.of (ok.sub _ _ hs), rfl⟩, by rw [hr.length]; exact PostE.here post ok (.int _)⟩
  · cases r with
    | cons r1 r2 =>
      cases r2
      cases r1 with
      | tup hs hr => exact ⟨_, _, rfl, .inr ⟨_, same_t ok.sub hs, rfl⟩, by rw [hr.length]; exact PostE.here post ok (.int _)⟩
  · split at post
    · rename_i h
      cases r with
      | cons r1 r2 =>
        cases r2
        cases r1
        exact ⟨_, _, rfl, ⟨sz_of h, rfl⟩, PostE.here post ok (.int _)⟩
    · exact post.elim
  · split at post
    · rename_i n xs hS
      cases r with
      | cons r1 r2 =>
        cases r2
        cases r1 with
        | obj hA =>
          obtain ⟨a', ho, e1, e2, e3⟩ := ok.ob _ _ hS
          rw [hA] at e1
          cases e1
          cases ho with
          | lst ys => exact ⟨_, _, rfl, .inl ⟨_, SqL.of e2, rfl⟩, by rw [RepAll.length (K := K) (ca := ca) e3]; exact PostE.here post ok (.int _)⟩
          | _ => exact e3.elim
    · exact post.elim
  · exact post.elim
theorem c_abs : CallS K ca E (fun xs H Q => ∃ i, xs = [.int i] ∧ Q (.int (if i < 0 then -i else i)) H) oAbs := fun g S vs ds Q ok r post => by
  unfold oAbs at post
  split at post
  · cases r with
    | cons r1 r2 =>
      cases r2
      cases r1
      exact ⟨_, rfl, PostE.here post ok (.int _)⟩
  · exact post.elim
theorem c_max : CallS K ca E (fun xs H Q => ∃ i j, xs = [.int i, .int j] ∧ Q (.int (if j > i then j else i)) H) oMax := fun g S vs ds Q ok r post => by
  unfold oMax at post
  split at post
  · cases r with
    | cons r1 r2 =>
      cases r2 with
      | cons r3 r4 =>
        cases r4
        cases r1
        cases r3
        exact ⟨_, _, rfl, PostE.here post ok (.int _)⟩
  · exact post.elim
theorem c_all : CallS K ca E (rAll K) oAll := fun g S vs ds Q ok r post => by
  unfold oAll at post
  split at post
  · split at post
    · rename_i xs ns h
      have e := asBls_some h
      subst e
      cases r with
      | cons r1 r2 =>
        cases r2
        cases r1 with
        | lst hs hr =>
          have e := hr.bls
          subst e
          exact ⟨_, ns, rfl, SqL.of (ok.sub _ _ hs), PostE.here post ok (.bl _)⟩
    · exact post.elim
  · exact post.elim
theorem c_tuple : CallS K ca E (fun xs H Q => ∃ p ys, xs = [.ref p] ∧ ((SqL K H p ys ∧ ∀ l, H l = none → Q (.ref l) (upd H l (.tup ys))) ∨ (SqT K H p ys ∧ Q (.ref p) H))) oTuple := fun g S vs ds Q ok r post => by
  unfold oTuple at post
  split at post
  · cases r with
    | cons r1 r2 =>
      cases r2
      cases r1 with
      | lst hs hr => exact ⟨_, _, rfl, .inl ⟨SqL.of (ok.sub _ _ hs), fun p hp => new_tup ok post hr p hp⟩⟩
  · cases r with
    | cons r1 r2 =>
      cases r2
      cases r1 with
      | tup hs hr => exact ⟨_, _, rfl, .inr ⟨same_t ok.sub hs, PostE.here post ok (.tup hs hr)⟩⟩
  · exact post.elim
theorem c_sorted : CallS K ca E (rSorted K) oSorted := fun g S vs ds Q ok r post => by
  unfold oSorted at post
  split at post
  · split at post
    · rename_i xs ns h
      split at post
      · rename_i hl
        have e := asInts_some h
        subst e
        cases r with
        | cons r1 r2 =>
          cases r2
          cases r1 with
          | lst hs hr =>
            have e := hr.ints
            subst e
            refine ⟨_, ns, rfl, SqL.of (ok.sub _ _ hs), hl, fun ns' p hp hs' hn => ?_⟩
            rw [sortI_unique hp hs']
            exact new_lst ok post (RepAll.ofInts _) p hn
      · exact post.elim
    · exact post.elim
  · exact post.elim
end
end DL
set_option Elab.async false
set_option linter.all false
set_option maxRecDepth 100000
set_option maxHeartbeats 1000000
namespace DL
open PySem PySem.Spec PyProof.Rows L2
section
variable {X : Cx} {ca : Nat → Addr} {E : XK} {a b c : Expr} {fa fb fc : DE} {pos : Pos}
theorem rd_chain {r r' : R2} {o o' : D2} (h1 : OpS X.K ca E r o) (h2 : OpS X.K ca E r' o') (σ : L2.St) (H : Hp) (Q : VK) (q : rdE X.K ca E (eChain o o' fa fb fc) σ H Q) : tChain r r' (rdE X.K ca E fa) (rdE X.K ca E fb) (rdE X.K ca E fc) σ H Q := by
  obtain ⟨g0, g, ρ, S, rfl, ok, env, post⟩ := q
  refine ⟨g0, g, ρ, S, rfl, ok, env, PostE.bind post fun d1 S1 v1 g1 e1 ok1 r1 post1 => ?_⟩
  refine ⟨g0, g1, ρ, S1, rfl, ok1, env.ext e1, PostE.bind post1 fun d2 S2 v2 g2 e2 ok2 r2 post2 => ?_⟩
  refine h1 g2 S2 v1 v2 d1 d2 _ ok2 (r1.ext e2) r2 (PostE.bind post2 fun d3 S3 v3 g3 e3 ok3 r3 post3 => ?_)
  cases r3 with
  | bl k =>
    refine ⟨k, rfl, ?_⟩
    cases k with
    | false => exact iteF (PostE.here post3 ok3 (.bl false))
    | true =>
      refine iteT ⟨g0, g3, ρ, S3, rfl, ok3, ((env.ext e1).ext e2).ext e3, PostE.bind post3 fun d4 S4 v4 g4 e4 ok4 r4 post4 => ?_⟩
      exact h2 g4 S4 v2 v4 d2 d4 Q ok4 ((r2.ext e3).ext e4) r4 post4
  | _ => exact post3.elim
theorem ge_chain {op op' : CmpOp} {r r' : R2} {o o' : D2} (ho : OpR X (compareOp op) r) (h1 : OpS X.K ca E r o) (ho' : OpR X (compareOp op') r') (h2 : OpS X.K ca E r' o') (ha : PE X a (rdE X.K ca E fa)) (hb : PE X b (rdE X.K ca E fb)) (hc : PE X c (rdE X.K ca E fc))
    (hm : lastMarks [op, op'] [b, c] = false := by with_unfolding_all rfl) : PE X (.Compare a [op, op'] [b, c] pos) (rdE X.K ca E (eChain o o' fa fb fc)) := wkE (pe_chain ho ho' ha hb hc hm) (rd_chain h1 h2)
end
def viewL (S : Store) : D → Option (List D)
  | .lst xs => some xs
  | .tup xs => some xs
  | .obj n => match S[n]? with
    | some (.lst xs) => some xs
    | _ => none
  | _ => none
def oIx : D2 := fun d e S => match e with
  | .int i => match d with
    | .str x => if x.length ≤ 100000 then match atI x.cps.toList i with
        | some c => .ok (.str ⟨#[c]⟩) S
        | none => .bad
      else .bad
    | d => match viewL S d with
      | some xs => match atI xs i with
        | some y => .ok y S
        | none => .bad
      | none => .bad
  | _ => .bad
section
variable {X : Cx} {ca : Nat → Addr} {E : XK} {a b : Expr} {fa fb : DE} {pos : Pos} {K : PySem.W.Frag}
theorem RepAll.atI {A : List Addr} {F : Hp} {xs : List V} {ds : List D} {i : Int} {d : D} (r : RepAll K ca A F xs ds) (h : L2.atI ds i = some d) : ∃ v, L2.atI xs i = some v ∧ Rep K ca A F v d := by
  unfold L2.atI at *
  rw [r.length]
  cases q : ixN ds.length i with
  | none => rw [q] at h; cases h
  | some j =>
    rw [q] at h
    exact r.get' h
theorem view_sq {g : G} {S : Store} {v : V} {d : D} {ds : List D} (ok : Ok K ca g S) (r : RepG K ca g v d) (h : viewL S d = some ds) : ∃ a xs, v = .ref a ∧ (SqL K g.H a xs ∨ SqT K g.H a xs) ∧ RepAll K ca g.A g.F xs ds := by
  cases r with
  | lst hs hr =>
    cases h
    exact ⟨_, _, rfl, .inl (SqL.of (ok.sub _ _ hs)), hr⟩
  | tup hs hr =>
    cases h
    exact ⟨_, _, rfl, .inr (same_t ok.sub hs), hr⟩
  | obj hA =>
    unfold viewL at h
    dsimp only at h
    split at h
    · rename_i xs hS
      cases h
      obtain ⟨a', ho, e1, e2, e3⟩ := ok.ob _ _ hS
      rw [hA] at e1
      cases e1
      cases ho with
      | lst ys => exact ⟨_, ys, rfl, .inl (SqL.of e2), e3⟩
      | _ => exact e3.elim
    · cases h
  | _ => cases h
theorem s_ix : OpS K ca E (rIx K) oIx := fun g S v w d e Q ok r1 r2 post => by
  unfold oIx at post
  split at post
  · rename_i i
    cases r2
    split at post
    · split at post
      · rename_i h
        split at post
        · rename_i c hc
          cases r1
          exact .inr (.inr ⟨_, _, c, rfl, rfl, sz_of h, hc, PostE.here post ok (.str _)⟩)
        · exact post.elim
      · exact post.elim
    · split at post
      · rename_i xs hv
        split at post
        · rename_i y hy
          obtain ⟨a, vs, rfl, hs, hr⟩ := view_sq ok r1 hv
          obtain ⟨z, hz, rz⟩ := hr.atI hy
          rcases hs with hs | hs
          · exact .inl ⟨a, vs, i, z, rfl, rfl, hs, hz, PostE.here post ok rz⟩
          · exact .inr (.inl ⟨a, vs, i, z, rfl, rfl, hs, hz, PostE.here post ok rz⟩)
        · exact post.elim
      · exact post.elim
  · exact post.elim
theorem ge_ix (ha : PE X a (rdE X.K ca E fa)) (hb : PE X b (rdE X.K ca E fb)) (hs : PlainIx b) : PE X (.Subscript a b pos) (rdE X.K ca E (eBin oIx fa fb)) := wkE (pe_ix ix_seq ha hb hs) (rd_bin s_ix)
end
def cutD (xs : List D) (lo hi : Option Int) : List D := (xs.drop (HT.sIx xs.length 0 lo)).take (HT.sIx xs.length xs.length hi - HT.sIx xs.length 0 lo)
inductive OutO where
  | ok (o : Option Int) (S : Store)
  | exc (c : Nat) (S : Store)
  | bad
abbrev DO := DEnv → Store → OutO
def pNo : DO := fun _ S => .ok none S
def pSome (f : DE) : DO := fun ρ S => match f ρ S with
  | .ok (.int i) S1 => .ok (some i) S1
  | .exc c S1 => .exc c S1
  | _ => .bad
def OutO.bind (o : OutO) (k : Option Int → Store → Out) : Out := match o with
  | .ok d S => k d S
  | .exc c S => .exc c S
  | .bad => .bad
def oSl (d : D) (lo hi : Option Int) (S : Store) : Out := match d with
  | .lst xs => .ok (.lst (cutD xs lo hi)) S
  | .str x => if x.length ≤ 100000 then .ok (.str (cutS x lo hi)) S else .bad
  | _ => .bad
def eSl (f : DE) (l h : DO) : DE := fun ρ S => (f ρ S).bind fun d S1 => (l ρ S1).bind fun lo S2 => (h ρ S2).bind fun hi S3 => oSl d lo hi S3
section
variable (K : PySem.W.Frag) (ca : Nat → Addr)
def PostO (E : XK) (g : G) (o : OutO) (Q : Option Int → Hp → Prop) : Prop := match o with
  | .ok i S => ∀ g', Ext g g' → Ok K ca g' S → Q i g'.H
  | .exc c S => ∀ g', Ext g g' → Ok K ca g' S → E (.ref (ca c)) none g'.H
  | .bad => False
def rdO (E : XK) (f : DO) : TO := fun σ H Q => ∃ g0 g ρ S, g.H = H ∧ Ok K ca g S ∧ EnvR K ca g0 g σ ρ ∧ PostO K ca E g (f ρ S) Q
end
section
variable {X : Cx} {ca : Nat → Addr} {E : XK} {e : Expr} {f : DE} {fl fh : DO} {lo hi : Option Expr} {pos p2 : Pos} {K : PySem.W.Frag}
theorem wkO {t t' : TO} (h : PO X lo t) (k : ∀ σ H Q, t' σ H Q → t σ H Q) : PO X lo t' := ⟨fun pins s σ H Q I q => h.run pins s σ H Q I (k σ H Q q)⟩
theorem go_none : PO X none (rdO X.K ca E pNo) := wkO po_none fun σ H Q q => by
  obtain ⟨g0, g, ρ, S, rfl, ok, env, post⟩ := q
  exact post g (Ext.refl g) ok
theorem go_some (h : PE X e (rdE X.K ca E f)) : PO X (some e) (rdO X.K ca E (pSome f)) := wkO (po_some h) fun σ H Q q => by
  obtain ⟨g0, g, ρ, S, rfl, ok, env, post⟩ := q
  refine ⟨g0, g, ρ, S, rfl, ok, env, ?_⟩
  unfold pSome at post
  cases q : f ρ S with
  | bad => rw [q] at post; exact post
  | exc c S1 => rw [q] at post; exact post
  | ok d S1 =>
    rw [q] at post
    cases d with
    | int i =>
      intro v g1 e1 ok1 r1
      cases r1
      exact ⟨i, rfl, post g1 e1 ok1⟩
    | _ => exact post.elim
theorem PostE.bindO {g : G} {o : OutO} {k : Option Int → Store → Out} {Q : VK} {R : Option Int → Hp → Prop} (h : PostE K ca E g (o.bind k) Q)
    (hk : ∀ i S g', Ext g g' → Ok K ca g' S → PostE K ca E g' (k i S) Q → R i g'.H) : PostO K ca E g o R := by
  cases o with
  | ok d S => exact fun g' a b => hk d S g' a b (PostE.ext a h)
  | exc c S => exact h
  | bad => exact h
theorem RepAll.cut {A : List Addr} {F : Hp} {xs : List V} {ds : List D} (r : RepAll K ca A F xs ds) (l h : Option Int) : RepAll K ca A F (cutV xs l h) (cutD ds l h) := by
  unfold cutV cutD
  rw [r.length]
  exact (r.drop _).take _
theorem ge_slice (he : PE X e (rdE X.K ca E f)) (hl : PO X lo (rdO X.K ca E fl)) (hh : PO X hi (rdO X.K ca E fh)) : PE X (.Subscript e (.Slice lo hi none p2) pos) (rdE X.K ca E (eSl f fl fh)) :=
  wkE (pe_slice (SlR.or sl_list sl_str) he hl hh) fun σ H Q q => by
    obtain ⟨g0, g, ρ, S, rfl, ok, env, post⟩ := q
    refine ⟨g0, g, ρ, S, rfl, ok, env, PostE.bind post fun d1 S1 v1 g1 e1 ok1 r1 post1 => ?_⟩
    refine ⟨g0, g1, ρ, S1, rfl, ok1, env.ext e1, PostE.bindO post1 fun l S2 g2 e2 ok2 post2 => ?_⟩
    refine ⟨g0, g2, ρ, S2, rfl, ok2, (env.ext e1).ext e2, PostE.bindO post2 fun h S3 g3 e3 ok3 post3 => ?_⟩
    have r3 := (r1.ext e2).ext e3
    unfold oSl at post3
    split at post3
    · cases r3 with
      | lst hs hr => exact .inl ⟨_, _, rfl, SqL.of (ok3.sub _ _ hs), fun p hp => new_lst ok3 post3 (hr.cut l h) p hp⟩
    · split at post3
      · rename_i hz
        cases r3
        exact .inr ⟨_, rfl, sz_of hz, PostE.here post3 ok3 (.str _)⟩
      · exact post3.elim
    · exact post3.elim
end
def tyD : D → Option String
  | .non => some "NoneType"
  | .bl _ => some "bool"
  | .int _ => some "int"
  | .str _ => some "str"
  | .lst _ => some "list"
  | .tup _ => some "tuple"
  | _ => none
def oIsi (T : String) : D1 := fun d S => match (tyD d).bind fun t => kitB t T with
  | some b => .ok (.bl b) S
  | none => match d with
    | .obj n => match S[n]? with
      | some (.lst _) => match kitB "list" T with
        | some b => .ok (.bl b) S
        | none => .bad
      | _ => .bad
    | _ => .bad
section
variable {X : Cx} {ca : Nat → Addr} {E : XK} {a : Expr} {fa : DE} {pos p p2 : Pos} {K : PySem.W.Frag}
theorem Rep.ty {g : G} {S : Store} {v : V} {d : D} {t : String} (ok : Ok K ca g S) (r : RepG K ca g v d) (h : tyD d = some t) : TyX K g.H v (.type t) := by
  cases r with
  | non => cases h; exact .base .non
  | bl b => cases h; exact .base (.bl b)
  | int i => cases h; exact .base (.int i)
  | str x => cases h; exact .base (.str x)
  | lst hs hr => cases h; exact .base (.lst (ok.sub _ _ hs))
  | tup hs hr =>
    cases h
    rcases hs with (hs | ⟨o, hs⟩) | ⟨o, its, n, h1, h2, h3, _⟩
    · exact .base (.tup (ok.sub _ _ hs))
    · exact .fTuple (ok.sub _ _ hs)
    · exact .kTuple h1 h2
  | _ => cases h
theorem ge_isi {T : String} {x : Str} (hg : Gl X "isinstance") (hm : X.mg "isinstance" = none) (hv : bootBuiltins "isinstance" = some (.builtin "isinstance")) (hgT : Gl X x) (hmT : X.mg x = none) (hvT : bootBuiltins x = some (.type T)) (ha : PE X a (rdE X.K ca E fa)) (hn : x ≠ "__name__" := by decide) (hdx : (x == ("__debug__" : Str)) = false := by decide)
    (h1 : starEach [a, .Name x p2] X.env = (false, eval a X.env) :: starEach [.Name x p2] X.env := by rfl) (h2 : starEach [.Name x p2] X.env = (false, eval (.Name x p2) X.env) :: starEach [] X.env := by rfl)
    (hpl : (backTo pos (starEach [.Name x p2] X.env)).any (·.1) = false := by rfl) : PE X (.Call (.Name "isinstance" p) [a, .Name x p2] [] pos) (rdE X.K ca E (eUn (oIsi T) fa)) :=
  wkE (pe_callB call_isi hg hm hv (pa_cons ha (pa_cons (pe_bltn (v := .ty T) hgT hmT hvT rfl hn hdx) pa_nil h2) h1) (by decide) (by decide) h1 hpl) fun σ H Q q => by
    obtain ⟨g0, g, ρ, S, rfl, ok, env, post⟩ := q
    refine ⟨g0, g, ρ, S, rfl, ok, env, PostE.bind post fun d1 S1 v1 g1 e1 ok1 r1 post1 => ?_⟩
    unfold oIsi at post1
    split at post1
    · rename_i b hb
      cases ht : tyD d1 with
      | none => rw [ht] at hb; cases hb
      | some t =>
        rw [ht] at hb
        exact ⟨v1, .ty T, .type t, .type T, b, rfl, .ty T, Rep.ty ok1 r1 ht, kit_ty hb, PostE.here post1 ok1 (.bl b)⟩
    · split at post1
      · split at post1
        · rename_i n xs hS
          split at post1
          · rename_i b hb
            cases r1 with
            | obj hA =>
              obtain ⟨a', ho, k1, k2, k3⟩ := ok1.ob _ _ hS
              rw [hA] at k1
              cases k1
              cases ho with
              | lst ys => exact ⟨_, .ty T, .type "list", .type T, b, rfl, .ty T, .base (.lst k2), kit_ty hb, PostE.here post1 ok1 (.bl b)⟩
              | _ => exact k3.elim
          · exact post1.elim
        · exact post1.elim
      · exact post1.elim
end
section
variable {X : Cx} {ca : Nat → Addr} {E : XK} {elt tg iter : Expr} {ifs : List Expr} {scope : Scope} {own : List (Str × Nat)} {pos spos : Pos} {f fc fe : DE} {t : DG} {gt : TG}
theorem wkTs {t t' : TT} (h : PTs X ifs t) (k : ∀ σ H Q, t' σ H Q → t σ H Q) : PTs X ifs t' := ⟨fun pins s σ H Q I q => h.run pins s σ H Q I (k σ H Q q)⟩
theorem gts_nil : PTs X [] (rdT X.K ca E eYes) := wkTs pts_nil fun σ H Q q => by
  obtain ⟨g0, g, ρ, S, rfl, ok, env, post⟩ := q
  obtain ⟨b, e, q⟩ := PostE.here post ok (.bl true)
  cases e
  exact q
theorem gts_one {c : Expr} (h : PT X c (rdT X.K ca E fc)) : PTs X [c] (rdT X.K ca E fc) := pts_one h
theorem gf_lc (hc : X.calm = true) (hN : X.N.Nodup) (hT : TgOk X.K ca (own.map (·.2)) gt t) (hi : PI X tg iter (rdI X.K ca E f)) (ok : BlkOk X.N X.env.scope scope own)
    (hg : ∀ (s : Shared) (H : Hp) (C : Addr) (cl : List (Str × Addr)) (fp : List Addr), PG (X.blk s H scope (compEnvC scope cl C X.env) fp) tg gt)
    (ht : ∀ (s : Shared) (H : Hp) (C : Addr) (cl : List (Str × Addr)) (fp : List Addr), PTs (X.blk s H scope (compEnvC scope cl C X.env) fp) ifs (rdT X.K ca E0 fc))
    (he : ∀ (s : Shared) (H : Hp) (C : Addr) (cl : List (Str × Addr)) (fp : List Addr), PE (X.blk s H scope (compEnvC scope cl C X.env) fp) elt (rdE X.K ca E0 fe)) (hs : ∀ x, foldedSetIterable iter X.env x = pure x := by intro _; rfl) :
    PE X (.ListComp elt [⟨tg, iter, ifs, 0⟩] scope pos) (rdF X.K ca E (eLc f t fc fe)) := wkE (pe_lc hc hN hi ok hg ht he hs) (rd_lc hT)
theorem eLc_is : ∀ ρ S d S', eLc f t fc fe ρ S = .ok d S' → ∃ ds, d = .lst ds := fun ρ S d S' h => by
  unfold eLc at h
  cases q : f ρ S with
  | bad => rw [q] at h; cases h
  | exc c S1 => rw [q] at h; cases h
  | ok d1 S1 =>
    rw [q] at h
    dsimp only [Out.bind] at h
    split at h
    · split at h
      · rename_i ds _
        unfold OutL.bind at h
        split at h
        · rename_i ys S2 _
          injection h with h1 h2
          exact ⟨ys, h1.symm⟩
        · cases h
        · cases h
      · cases h
    · cases h
theorem ge_lc (hc : X.calm = true) (hN : X.N.Nodup) (hT : TgOk X.K ca (own.map (·.2)) gt t) (hi : PI X tg iter (rdI X.K ca E f)) (ok : BlkOk X.N X.env.scope scope own)
    (hg : ∀ (s : Shared) (H : Hp) (C : Addr) (cl : List (Str × Addr)) (fp : List Addr), PG (X.blk s H scope (compEnvC scope cl C X.env) fp) tg gt)
    (ht : ∀ (s : Shared) (H : Hp) (C : Addr) (cl : List (Str × Addr)) (fp : List Addr), PTs (X.blk s H scope (compEnvC scope cl C X.env) fp) ifs (rdT X.K ca E0 fc))
    (he : ∀ (s : Shared) (H : Hp) (C : Addr) (cl : List (Str × Addr)) (fp : List Addr), PE (X.blk s H scope (compEnvC scope cl C X.env) fp) elt (rdE X.K ca E0 fe)) (hs : ∀ x, foldedSetIterable iter X.env x = pure x := by intro _; rfl) :
    PE X (.ListComp elt [⟨tg, iter, ifs, 0⟩] scope pos) (rdE X.K ca E (eLc f t fc fe)) := gf_ge (gf_lc hc hN hT hi ok hg ht he hs) eLc_is
theorem rd_setLc {i : Nat} (Dn : Ends) (σ : L2.St) (H : Hp) (q : rdS X.K ca E (sAsg f (tgName i)) Dn σ H) : tAsg (rdE X.K ca E f) (gName i) Dn σ H := by
  obtain ⟨g0, g, ρ, S, rfl, e0, ok, env, post⟩ := q
  refine ⟨g0, g, ρ, S, rfl, ok, env, PostS.bindE e0 post fun d S1 v g1 e1 ok1 r1 post1 => ?_⟩
  exact post1 _ g1 (e0.trans e1) (Grow.refl _) ok1 ((env.ext e1).set r1 i)
/-- name = [..] -/
theorem gs_setLc {i : Nat} {y : Str} {py : Pos} (hc : X.calm = true) (hN : X.N.Nodup) (hy : X.N[i]? = some y) (hyl : X.env.scope.names.lookup y = some .local)
    (hsw : swapsWith (.ListComp elt [⟨tg, iter, ifs, 0⟩] scope pos) (some (.Name y py)) spos.line X.env = pure true) (hT : TgOk X.K ca (own.map (·.2)) gt t) (hi : PI X tg iter (rdI X.K ca E f)) (ok : BlkOk X.N X.env.scope scope own)
    (hg : ∀ (s : Shared) (H : Hp) (C : Addr) (cl : List (Str × Addr)) (fp : List Addr), PG (X.blk s H scope (compEnvC scope cl C X.env) fp) tg gt)
    (ht : ∀ (s : Shared) (H : Hp) (C : Addr) (cl : List (Str × Addr)) (fp : List Addr), PTs (X.blk s H scope (compEnvC scope cl C X.env) fp) ifs (rdT X.K ca E0 fc))
    (he : ∀ (s : Shared) (H : Hp) (C : Addr) (cl : List (Str × Addr)) (fp : List Addr), PE (X.blk s H scope (compEnvC scope cl C X.env) fp) elt (rdE X.K ca E0 fe)) (hs : ∀ x, foldedSetIterable iter X.env x = pure x := by intro _; rfl) :
    PS X (.Assign [.Name y py] (.ListComp elt [⟨tg, iter, ifs, 0⟩] scope pos) spos) (rdS X.K ca E (sAsg (eLc f t fc fe) (tgName i))) :=
  wkS (ps_setLc hc hN hy hyl hsw hi ok hg ht he hs) fun Dn σ H q => by
    have z := rd_setLc Dn σ H q
    obtain ⟨g0, g, ρ, S, e, okk, env, post⟩ := z
    exact rd_lc hT σ H _ ⟨g0, g, ρ, S, e, okk, env, PostE.fresh post (eLc_is ρ S)⟩
end
end DL
set_option Elab.async false
set_option linter.all false
set_option maxRecDepth 100000
set_option maxHeartbeats 1000000
namespace DL
open PySem PySem.Spec PyProof.Rows L2
def oAddI : D2 := fun d e S => match d, e with
  | .int i, .int j => .ok (.int (i + j)) S
  | _, _ => .bad
def sAug (i : Nat) (o : D2) (f : DE) : DS := fun ρ S => match ρ[i]? with
  | some (.val x) => (f ρ S).bindS fun y S1 => (o x y S1).bindS fun z S2 => .nx (ρ.set i (.val z)) S2
  | _ => .bad
section
variable {X : Cx} {ca : Nat → Addr} {E : XK} {e : Expr} {f : DE} {pos pos' : Pos} {i : Nat} {x : Str}
theorem gs_aug {op : Operator} {r : R2} {o : D2} (ho : OpR X (inplaceOp op) r) (hr : OpS X.K ca E r o) (hN : X.N.Nodup) (hi : X.N[i]? = some x) (hx : Loc X.env.scope x) (he : PE X e (rdE X.K ca E f)) (hf : X.fn x = true ∨ X.env.scope.names.lookup x = some .local := by first | exact .inl rfl | exact .inr rfl | assumption) :
    PS X (.AugAssign (.Name x pos') op e pos) (rdS X.K ca E (sAug i o f)) := wkS (ps_aug (ti := r) hN hi hx he ho hf) fun Dn σ H q => by
  obtain ⟨g0, g, ρ, S, rfl, e0, ok, env, post⟩ := q
  unfold sAug at post
  split at post
  · rename_i d hd
    obtain ⟨v, hv, rv⟩ := env.val i d hd
    refine ⟨v, hv, g0, g, ρ, S, rfl, ok, env, PostS.bindE e0 post fun d1 S1 v1 g1 e1 ok1 r1 post1 => ?_⟩
    refine hr g1 S1 v v1 d d1 _ ok1 (rv.ext e1) r1 (PostS.bindE (e0.trans e1) post1 fun d2 S2 v2 g2 e2 ok2 r2 post2 => ?_)
    exact post2 _ g2 ((e0.trans e1).trans e2) (Grow.refl _) ok2 (((env.ext e1).ext e2).set r2 i)
  · exact post.elim
end
def sApp (i : Nat) (f : DE) : DS := fun ρ S => match ρ[i]? with
  | some (.own ds) => (f ρ S).bindS fun d S1 => if ds.length < 100000 then .nx (ρ.set i (.own (ds ++ [d]))) S1 else .bad
  | _ => .bad
def eOwnIx (i : Nat) (f : DE) : DE := fun ρ S => match ρ[i]? with
  | some (.own ds) => (f ρ S).bind fun k S1 => match k with
    | .int n => match atI ds n with
      | some d => .ok d S1
      | none => .bad
    | _ => .bad
  | _ => .bad
section
variable {K : PySem.W.Frag} {ca : Nat → Addr} {E : XK} {g0 g : G} {σ : L2.St} {ρ : DEnv} {S : Store} {i : Nat}
/-- the list of slot i is given new items -/
theorem own_put {ds es : List D} {p : Addr} {ys : List V} {Dn : Ends} (e0 : Ext g0 g) (ok : Ok K ca g S) (env : EnvR K ca g0 g σ ρ) (hi : ρ[i]? = some (.own ds)) (hp : σ[i]? = some (some (.ref p))) (r : RepAll K ca g.A g.F ys es)
    (post : PostS K ca E g0 g (.nx (ρ.set i (.own es)) S) Dn) : Dn.nx σ (upd g.H p (.lst ys)) := by
  obtain ⟨p', xs, h1, h2, h3, h4, h5, h6⟩ := env.own i ds hi
  rw [hp] at h1
  cases h1
  exact post σ (g.put p (.lst ys)) (ext_put0 e0 h2) grow_put (ok_put ok h3 h4) (env.mut hi hp h2 h3 h4 r)
end
section
variable {X : Cx} {ca : Nat → Addr} {E : XK} {e b : Expr} {f fi fj : DE} {pos pos' p2 p3 apos cpos : Pos} {i : Nat} {x : Str}
theorem gs_app (h : PE X (.Name x p2) (tVar i)) (he : PE X e (rdE X.K ca E f))
    (hbase : attributeBase (.Name x p2) "append" X.env (eval (.Name x p2) X.env) = eval (.Name x p2) X.env := by rfl)
    (hfew : ((backTo cpos (starEach [e] X.env)).all (fun x => !x.1) && (backToKw cpos (keywordEach [] X.env)).all (fun x => x.1.isSome)
      && decide ([e].length + ([] : List Keyword).length + (if ([] : List Keyword).isEmpty then 0 else 1) < 30)) = true := by rfl)
    (hline : (apos.endLine == cpos.line) = true := by rfl) (hs : starEach [e] X.env = (false, eval e X.env) :: starEach [] X.env := by rfl) (hplain : (backTo cpos (starEach [] X.env)).any (·.1) = false := by rfl)
    (hsw : swapsWith (.Call (.Attribute (.Name x p2) "append" apos) [e] [] cpos) none pos.line X.env = pure false := by rfl) :
    PS X (.Expr (.Call (.Attribute (.Name x p2) "append" apos) [e] [] cpos) pos) (rdS X.K ca E (sApp i f)) :=
  wkS (ps_expr (pe_bm PySem.F.plainAttrs_list PySem.F.slot_list_append PySem.F.type_list_append mt_append h (pa_cons he pa_nil hs) hbase hfew hline hs hplain) hsw) fun Dn σ H q => by
    obtain ⟨g0, g, ρ, S, rfl, e0, ok, env, post⟩ := q
    unfold sApp at post
    split at post
    · rename_i ds hi
      obtain ⟨p, xs, h1, h2, h3, h4, h5, h6⟩ := env.own i ds hi
      refine ⟨.ref p, h1, .inl ⟨rfl, xs, SqL.of h5⟩, g0, g, ρ, S, rfl, ok, env, PostS.bindE e0 post fun d1 S1 v1 g1 e1 ok1 r1 post1 => ?_⟩
      split at post1
      · rename_i hl
        obtain ⟨p', xs', k1, k2, k3, k4, k5, k6⟩ := (env.ext e1).own i ds hi
        rw [h1] at k1
        cases k1
        refine ⟨p, xs', v1, rfl, rfl, k5, ?_, own_put (e0.trans e1) ok1 (env.ext e1) hi h1 (k6.append (.cons r1 .nil)) post1⟩
        rw [k6.length]
        exact Nat.lt_of_lt_of_le hl (by decide)
      · exact post1.elim
    · exact post.elim
theorem ge_ownIx (h : PE X (.Name x p2) (tVar i)) (hb : PE X b (rdE X.K ca E f)) (hs : PlainIx b) : PE X (.Subscript (.Name x p2) b pos) (rdE X.K ca E (eOwnIx i f)) := wkE (pe_ix ix_list h hb hs) fun σ H Q q => by
  obtain ⟨g0, g, ρ, S, rfl, ok, env, post⟩ := q
  unfold eOwnIx at post
  split at post
  · rename_i ds hi
    obtain ⟨p, xs, h1, h2, h3, h4, h5, h6⟩ := env.own i ds hi
    refine ⟨.ref p, h1, g0, g, ρ, S, rfl, ok, env, PostE.bind post fun d1 S1 v1 g1 e1 ok1 r1 post1 => ?_⟩
    split at post1
    · rename_i n
      split at post1
      · rename_i d hd
        cases r1
        obtain ⟨v, hv, rv⟩ := RepAll.atI (h6.ext e1) hd
        exact ⟨p, xs, n, v, rfl, rfl, SqL.of (e1.H p _ h4 h5), hv, PostE.here post1 ok1 rv⟩
      · exact post1.elim
    · exact post1.elim
  · exact post.elim
/-- list(..), a + b, a if c else b: new lists -/
theorem gf_list {fr : DA} {p : Pos} {a : Expr} (hg : Gl X "list") (hm : X.mg "list" = none) (hv : bootBuiltins "list" = some (.type "list")) (ha : PA X [a] (rdA X.K ca 1 E fr)) (he : starEach [a] X.env = (false, eval a X.env) :: starEach [] X.env := by rfl) (hpl : (backTo pos (starEach [] X.env)).any (·.1) = false := by rfl) :
    PE X (.Call (.Name "list" p) [a] [] pos) (rdF X.K ca E (eCall oList fr)) := wkE (pe_callTy call_list_of hg hm hv ha (by decide) (by decide) he hpl) fun σ H Q q => by
  obtain ⟨g0, g, ρ, S, rfl, ok, env, post⟩ := q
  refine ⟨g0, g, ρ, S, rfl, ok, env, PostF.bindL post fun ds S1 vs g1 e1 ok1 r1 hl post1 => ?_⟩
  have fin : ∀ (xs : List V) (ds : List D), RepAll X.K ca g1.A g1.F xs ds → PostF X.K ca E g1 (.ok (.lst ds) S1) Q → ∀ l, g1.H l = none → Q (.ref l) (upd g1.H l (.lst xs)) := fun xs ds hr po l hl =>
    po l xs (g1.put l (.lst xs)) (ext_put hl) (ok_put ok1 (ok1.ffree hl) fun z => ok1.there z hl) hl (ok1.ffree hl) (fun z => ok1.there z hl) upd_same hr
  unfold oList at post1
  split at post1
  · cases r1 with
    | cons ra rb =>
      cases rb
      cases ra with
      | lst hs hr => exact ⟨_, _, rfl, .inl (SqL.of (ok1.sub _ _ hs)), fin _ _ hr post1⟩
  · cases r1 with
    | cons ra rb =>
      cases rb
      cases ra with
      | tup hs hr => exact ⟨_, _, rfl, .inr (same_t ok1.sub hs), fin _ _ hr post1⟩
  · cases r1 with
    | cons ra rb =>
      cases rb
      cases ra with
      | fls hs hr => exact ⟨_, _, rfl, .inl (ok1.sub.seq hs), fin _ _ hr post1⟩
  · split at post1
    · rename_i n xs hS
      cases r1 with
      | cons ra rb =>
        cases rb
        cases ra with
        | obj hA =>
          obtain ⟨a', ho, k1, k2, k3⟩ := ok1.ob _ _ hS
          rw [hA] at k1
          cases k1
          cases ho with
          | lst ys => exact ⟨_, _, rfl, .inl (SqL.of k2), fin _ _ k3 post1⟩
          | _ => exact k3.elim
    · exact post1.elim
  · exact post1.elim
theorem gf_if {c a : Expr} {fc fa fb : DE} (hc : PT X c (rdT X.K ca E fc)) (ha : PE X a (rdF X.K ca E fa)) (hb : PE X b (rdF X.K ca E fb)) : PE X (.IfExp c a b pos) (rdF X.K ca E (eIf fc fa fb)) := wkE (pe_ifExp hc ha hb) fun σ H Q q => by
  obtain ⟨g0, g, ρ, S, rfl, ok, env, post⟩ := q
  refine ⟨g0, g, ρ, S, rfl, ok, env, PostF.of_bind post fun d1 S1 v g1 e1 ok1 r1 post1 => ?_⟩
  cases r1 with
  | bl k =>
    refine ⟨k, rfl, ?_⟩
    cases k with
    | true => exact iteT ⟨g0, g1, ρ, S1, rfl, ok1, env.ext e1, post1⟩
    | false => exact iteF ⟨g0, g1, ρ, S1, rfl, ok1, env.ext e1, post1⟩
  | _ => exact post1.elim
end
def eObj (f : DE) : DE := fun ρ S => (f ρ S).bind fun d S1 => match d with
  | .lst ds => .ok (.obj S1.length) (S1 ++ [.lst ds])
  | _ => .bad
def sSetB (fo fi f : DE) : DS := fun ρ S => (f ρ S).bindS fun d S1 => (fo ρ S1).bindS fun o S2 => (fi ρ S2).bindS fun k S3 => match o, k with
  | .obj n, .int m => match S3[n]? with
    | some (.lst xs) => match ixN xs.length m with
      | some j => .nx ρ (S3.set n (.lst (xs.set j d)))
      | none => .bad
    | _ => .bad
  | _, _ => .bad
section
variable {K : PySem.W.Frag} {ca : Nat → Addr} {g0 g : G} {S : Store}
/-- a new object that is told to the store -/
theorem ok_regH (ok : Ok K ca g S) {p : Addr} {o : HO} {ob : OB} (q1 : g.F p = none) (q2 : p ∉ g.A) (q3 : g.H p = some o) (r : RepO K ca g.A g.F o ob) : Ok K ca ⟨g.F, g.A ++ [p], g.H⟩ (S ++ [ob]) where
  sub := ok.sub
  len := by
    show (g.A ++ [p]).length = _
    rw [List.length_append, List.length_append, ok.len]
    rfl
  nd := by
    show (g.A ++ [p]).Nodup
    rw [List.nodup_append]
    refine ⟨ok.nd, by simp, fun a ha b hb => ?_⟩
    obtain rfl : b = p := by simpa using hb
    rintro rfl
    exact q2 ha
  fr := fun a ha => by
    rcases List.mem_append.mp (show a ∈ g.A ++ [p] from ha) with z | z
    · exact ok.fr a z
    · obtain rfl : a = p := by simpa using z
      exact q1
  ob := fun n o' e => by
    show ∃ a ho, (g.A ++ [p])[n]? = some a ∧ g.H a = some ho ∧ RepO K ca (g.A ++ [p]) g.F ho o'
    by_cases hn : n < S.length
    · rw [List.getElem?_append_left hn] at e
      obtain ⟨a, ho, e1, e2, e3⟩ := ok.ob n o' e
      refine ⟨a, ho, ?_, e2, RepO.mono ⟨[p], rfl⟩ (Same.refl _) e3⟩
      rw [List.getElem?_append_left (by rw [ok.len]; exact hn)]
      exact e1
    · have hn' : n = S.length := by
        have := (List.getElem?_eq_some_iff.mp e).1
        rw [List.length_append, List.length_singleton] at this
        omega
      subst hn'
      rw [List.getElem?_append_right (Nat.le_refl _)] at e
      simp at e
      subst e
      refine ⟨p, o, ?_, q3, RepO.mono ⟨[p], rfl⟩ (Same.refl _) r⟩
      rw [← ok.len, List.getElem?_append_right (Nat.le_refl _)]
      simp
theorem ext_regH {g' : G} (e : Ext g g') {p : Addr} (np : g.H p = none) : Ext g ⟨g'.F, g'.A ++ [p], g'.H⟩ where
  F := e.F
  A := by
    obtain ⟨m, h1, h2⟩ := e.A
    refine ⟨m ++ [p], by rw [h1, List.append_assoc], fun a ha => ?_⟩
    rcases List.mem_append.mp ha with z | z
    · exact h2 a z
    · obtain rfl : a = p := by simpa using z
      exact np
  H := e.H
  kp := e.kp
  nf := e.nf
/-- an object of the store changes -/
theorem ok_setH (ok : Ok K ca g S) {n : Nat} {a : Addr} {o : HO} {ob : OB} (hA : g.A[n]? = some a) (r : RepO K ca g.A g.F o ob) : Ok K ca (g.put a o) (S.set n ob) where
  sub := fun b u e => by
    show upd g.H a o b = some u
    rw [upd_ne (fun q => by
      have := ok.fr a (List.mem_iff_getElem?.mpr ⟨n, hA⟩)
      rw [q] at e
      rw [show g.F a = some u from e] at this
      cases this)]
    exact ok.sub b u e
  len := by rw [List.length_set]; exact ok.len
  nd := ok.nd
  fr := ok.fr
  ob := fun m o' e => by
    show ∃ a' ho, g.A[m]? = some a' ∧ upd g.H a o a' = some ho ∧ RepO K ca g.A g.F ho o'
    rcases set_some e with ⟨rfl, rfl, hl⟩ | ⟨hm, q⟩
    · exact ⟨a, o, hA, upd_same, r⟩
    · obtain ⟨a', ho, e1, e2, e3⟩ := ok.ob m o' q
      refine ⟨a', ho, e1, ?_, e3⟩
      rw [upd_ne (fun z : a' = a => hm (nodup_ix' ok.nd e1 (by rw [z]; exact hA)))]
      exact e2
where
  nodup_ix' {l : List Addr} (h : l.Nodup) {i j : Nat} {x : Addr} (a : l[i]? = some x) (b : l[j]? = some x) : i = j := by
    obtain ⟨h1, e1⟩ := List.getElem?_eq_some_iff.mp a
    obtain ⟨h2, e2⟩ := List.getElem?_eq_some_iff.mp b
    exact (List.getElem_inj h).mp (e1.trans e2.symm)
theorem ext_setH (e0 : Ext g0 g) {n : Nat} {a : Addr} {o : HO} (hA : g.A[n]? = some a) : Ext g0 (g.put a o) where
  F := e0.F
  A := e0.A
  H := fun b u hb q => by
    show upd g.H a o b = some u
    rw [upd_ne (fun z : b = a => e0.out hb (some_ne q) (List.mem_iff_getElem?.mpr ⟨n, by rw [z]; exact hA⟩))]
    exact e0.H b u hb q
  kp := fun b q => by
    show upd g.H a o b ≠ none
    unfold upd
    split
    · exact fun z => nomatch z
    · exact e0.kp b q
  nf := e0.nf
theorem env_setH {σ : L2.St} {ρ : DEnv} (env : EnvR K ca g0 g σ ρ) {n : Nat} {a : Addr} {o : HO} (hA : g.A[n]? = some a) : EnvR K ca g0 (g.put a o) σ ρ where
  len := env.len
  val := env.val
  own := fun i ds h => by
    obtain ⟨p, xs, h1, h2, h3, h4, h5, h6⟩ := env.own i ds h
    refine ⟨p, xs, h1, h2, h3, h4, ?_, h6⟩
    show upd g.H a o p = some (.lst xs)
    rw [upd_ne (fun z : p = a => h4 (List.mem_iff_getElem?.mpr ⟨n, by rw [z]; exact hA⟩))]
    exact h5
  sep := env.sep
end
section
variable {X : Cx} {ca : Nat → Addr} {E : XK} {e b o : Expr} {f fi fo : DE} {pos p3 : Pos}
theorem ge_obj (h : PE X e (rdF X.K ca E f)) : PE X e (rdE X.K ca E (eObj f)) := wkE h fun σ H Q q => by
  obtain ⟨g0, g, ρ, S, rfl, ok, env, post⟩ := q
  refine ⟨g0, g, ρ, S, rfl, ok, env, ?_⟩
  unfold eObj at post
  cases q : f ρ S with
  | bad => rw [q] at post; exact post
  | exc c S1 => rw [q] at post; exact post
  | ok d S1 =>
    rw [q] at post
    cases d with
    | lst ds =>
      intro p xs g1 e1 ok1 np fp pA hp r
      refine post (.ref p) ⟨g1.F, g1.A ++ [p], g1.H⟩ (ext_regH e1 np) (ok_regH ok1 fp pA hp (show RepO X.K ca g1.A g1.F (.lst xs) (.lst ds) from r)) (.obj ?_)
      show (g1.A ++ [p])[S1.length]? = some p
      rw [← ok1.len, List.getElem?_append_right (Nat.le_refl _)]
      simp
    | _ => exact post.elim
theorem gs_setB (ho : PE X o (rdE X.K ca E fo)) (hb : PE X b (rdE X.K ca E fi)) (he : PE X e (rdE X.K ca E f)) (hs : swapsWithSole [.Subscript o b p3] e pos.line X.env = pure false := by rfl) (hw : swappedStores [.Subscript o b p3] e X.env = pure none := by rfl)
    (h1 : (assignEach [.Subscript o b p3] X.env).map (·.2) = [assign (.Subscript o b p3) X.env] := by rfl)
    (ha : ∀ v, assign (.Subscript o b p3) X.env v = (do
      let ov ← holding [v] (eval o X.env)
      let iv ← holding [v, ov] (eval b X.env)
      standAt p3
      holding [v, ov, iv] (setItem ov iv v)
      release [v, ov, iv] []) := by intro _; rfl) : PS X (.Assign [.Subscript o b p3] e pos) (rdS X.K ca E (sSetB fo fi f)) :=
  wkS (ps_asg he (pg_sub ho hb set_list ha) hs hw h1) fun Dn σ H q => by
    obtain ⟨g0, g, ρ, S, rfl, e0, ok, env, post⟩ := q
    refine ⟨g0, g, ρ, S, rfl, ok, env, PostS.bindE e0 post fun d1 S1 v1 g1 e1 ok1 r1 post1 => ?_⟩
    refine ⟨g0, g1, ρ, S1, rfl, ok1, env.ext e1, PostS.bindE (e0.trans e1) post1 fun d2 S2 v2 g2 e2 ok2 r2 post2 => ?_⟩
    refine ⟨g0, g2, ρ, S2, rfl, ok2, (env.ext e1).ext e2, PostS.bindE ((e0.trans e1).trans e2) post2 fun d3 S3 v3 g3 e3 ok3 r3 post3 => ?_⟩
    split at post3
    · rename_i n m
      split at post3
      · rename_i xs hS
        split at post3
        · rename_i j hj
          cases r3
          have r2' := r2.ext e3
          cases r2' with
          | obj hA =>
            obtain ⟨a', ho', k1, k2, k3⟩ := ok3.ob _ _ hS
            rw [hA] at k1
            cases k1
            cases ho' with
            | lst ys =>
              have k4 : RepAll X.K ca g3.A g3.F ys xs := k3
              refine ⟨_, ys, m, j, rfl, rfl, k2, by rw [k4.length]; exact hj, ?_⟩
              have rr : RepO X.K ca g3.A g3.F (.lst (ys.set j v1)) (.lst (xs.set j d1)) := RepAll.set ((r1.ext e2).ext e3) j k4
              exact post3 σ (g3.put _ (.lst (ys.set j v1))) (ext_setH (((e0.trans e1).trans e2).trans e3) hA) grow_put (ok_setH ok3 hA rr) (env_setH (((env.ext e1).ext e2).ext e3) hA)
            | _ => exact k3.elim
        · exact post3.elim
      · exact post3.elim
    · exact post3.elim
end
section
variable {X : Cx} {ca : Nat → Addr} {E : XK} {x : Str} {pos : Pos}
theorem ge_gint {n : Int} {t : Tok} (hg : Gl X x) (hm : X.mg x = some (.int n t)) (hd : (x == ("__debug__" : Str)) = false := by decide) : PE X (.Name x pos) (rdE X.K ca E (eC (.int n))) := ge_tc (pe_glob (v := .int n) hg hm ⟨t, rfl⟩ hd) fun _ _ => .int n
/-- a tuple of ints of the written part -/
structure TupK (K : PySem.W.Frag) (a : Addr) (ns : List Int) : Prop where
  ex : ∃ (o : Obj) (its : Array Value) (n : Nat), K.lookup a = some o ∧ o.cls = .type "tuple" ∧ o.data = .seq its n ∧ its.size ≤ sizeLine ∧ Vals (ns.map V.int) its.toList
theorem ge_gtup {a : Addr} {ns : List Int} (hg : Gl X x) (hm : X.mg x = some (.ref a)) (T : TupK X.K a ns) (hd : (x == ("__debug__" : Str)) = false := by decide) : PE X (.Name x pos) (rdE X.K ca E (eC (.tup (ns.map D.int)))) :=
  ge_tc (pe_glob (v := .ref a) hg hm rfl hd) fun A F => .tup (.inr T.ex) (RepAll.ofInts ns)
end
end DL
set_option Elab.async false
set_option linter.all false
set_option maxRecDepth 100000
set_option maxHeartbeats 1000000
namespace DL
open PySem PySem.Spec PyProof.Rows L2
structure DefAt (K : PySem.W.Frag) (mg : Str → Option Value) (x : Str) (st : Stmt) (ps : List Str) : Prop where
  ex : ∃ f fd, mg x = some (.ref f) ∧ Fun K x x st f fd ∧ Binds K fd ps []
structure FnD (P : Program) (w : World) (K : PySem.W.Frag) (mg : Str → Option Value) (base : Heap) (ca : Nat → Addr) (k : Nat) (x : Str) (n : Nat) (sem : DC) : Prop where
  ex : ∃ f fd ps, mg x = some (.ref f) ∧ PySem.W.keepIn K (.ref f) = true ∧ Binds K fd ps [] ∧ FnOk P w K mg base (L2.CX P w) k f fd ps (spD K ca n sem)
section
variable {P : Program} {w : World} {K : PySem.W.Frag} {mg : Str → Option Value} {base : Heap} {ca : Nat → Addr}
theorem defAt_mk {h : Heap} {x : Str} {st : Stmt} {ps : List Str} {f : Addr} {oc : Value} {od an : Option Addr} {osl : Array (Option Value)} {kV doc pm cdv ct : Value} (X : K.In h) (G : h.Ns mainGlobals mg) (a : PySem.W.nsIn K mainGlobals x = some (some (.ref f)))
    (l : K.lookup f = some ⟨oc, od, .func (PySem.W.fnOf x x (defArgs st) (defBody st) (defScope st) .none kV doc pm an cdv ct), osl⟩) (c : PySem.W.codeIn K cdv x = true) (k : PySem.W.keepIn K (.ref f) = true)
    (hb : ∀ (kV doc pm : Value) (an : Option Addr) (cdv ct : Value) (us : List Value), us.length = ps.length → bindArgs (PySem.W.fnOf x x (defArgs st) (defBody st) (defScope st) .none kV doc pm an cdv ct) ⟨us, []⟩ = pure (ps.zip us)) : DefAt K mg x st ps :=
  ⟨f, _, PySem.W.mg_of X G a, fun_mk l c k, (fun_mk l c k).binds hb⟩
theorem fnAt {x : Str} {st : Stmt} {N ps : List Str} {k : Nat} {fb : DS} (F : DefAt K mg x st ps) (Sc : FnScope N ps (defScope st))
    (hbody : ∀ (f : Addr) (cdv : Value) (A : Around) (outer : List Env) (s : Shared) (H : Hp) (E : XK), Room k (A.deeper (envOfC x (defScope st) s.heap.objs.size f cdv)) →
      PSs (cxOf (L2.CX P w) P w K mg base N x (defScope st) f cdv A outer s H E) (defBody st) (rdS K ca E fb)) : FnD P w K mg base ca (k + 1) x ps.length (runD N.length ps.length fb) := by
  obtain ⟨f, fd, h1, h2, h3⟩ := F.ex
  exact ⟨f, fd, ps, h1, h2.kp, h3, fnD h2 Sc (hbody f)⟩
/-- what is raised by a callee leaves the def -/
theorem psX {N : List Str} {qual : Str} {scope : Scope} {f : Addr} {cd : Value} {A : Around} {outer : List Env} {s : Shared} {H : Hp} {E : XK} : Passes (L2.CX P w) (cxOf (L2.CX P w) P w K mg base N qual scope f cd A outer s H E) E :=
  passes_call (takes_of rfl rfl rfl rfl) fun _ _ _ _ h => h
theorem tkX {N : List Str} {qual : Str} {scope : Scope} {f : Addr} {cd : Value} {A : Around} {outer : List Env} {s : Shared} {H : Hp} {E : XK} : Takes (cxOf (L2.CX P w) P w K mg base N qual scope f cd A outer s H E) (fun cls d _ H => E cls d H) :=
  takes_of rfl rfl rfl rfl
theorem poX {N : List Str} {qual : Str} {scope : Scope} {f : Addr} {cd : Value} {A : Around} {outer : List Env} {s : Shared} {H : Hp} {E : XK} :
    PassesOwn (model P w) (A.deeper (envOfC qual scope s.heap.objs.size f cd)) (envOfC qual scope s.heap.objs.size f cd) (cxOf (L2.CX P w) P w K mg base N qual scope f cd A outer s H E).xe :=
  passes_of (X := cxOf (L2.CX P w) P w K mg base N qual scope f cd A outer s H E) rfl
end
section
variable {X : Cx} {ca : Nat → Addr} {E : XK} {a : Expr} {es : List Expr} {fr : DA} {k j n : Nat} {x : Str} {p pos : Pos} {sem : DC}
theorem ge_callD (F : FnD X.prog X.w X.K X.mg X.base ca j x n sem) (hr : Room k X.A) (hj : j ≤ k) (hg : Gl X x) (hx : Passes (L2.CX X.prog X.w) X E)
    (ha : PA X (a :: es) (rdA X.K ca n E fr)) (hdb : (x == ("__debug__" : Str)) = false := by decide) (he : starEach (a :: es) X.env = (false, eval a X.env) :: starEach es X.env := by rfl) (hpl : (backTo pos (starEach es X.env)).any (·.1) = false := by rfl) :
    PE X (.Call (.Name x p) (a :: es) [] pos) (rdE X.K ca E (eCall sem fr)) := by
  obtain ⟨f, fd, ps, h1, h2, h3, h4⟩ := F.ex
  exact ge_call h4 (hr.mono hj) hg h1 h2 h3 hx ha hdb he hpl
end
structure ExcAt (K : PySem.W.Frag) (mg : Str → Option Value) (x : Str) (C : Addr) : Prop where
  g : mg x = some (.ref C)
  q : PySem.W.excIn K C [.type "ValueError", .type "Exception", .type "BaseException", .type "object"] "ValueError.__new__" = true
  k : PySem.W.keepIn K (.ref C) = true
  b : PySem.W.subIn K (.ref C) (.type "BaseException") = some true
  t : PySem.W.typeIn K (.ref C) = some (.type "type")
theorem gs_raiseE {X : Cx} {ca : Nat → Addr} {E : XK} {c : Nat} {x m : Str} {j : Nat} {p p2 p3 pos : Pos} (hc : X.calm = true) (tk : Takes X (fun cls d _ H => E cls d H)) (T : ExcAt X.K X.mg x (ca c)) (hg : Gl X x) (hdb : (x == ("__debug__" : Str)) = false := by decide) :
    PS X (.Raise (some (.Call (.Name x p) [.Constant (.str m) j p2] [] p3)) none pos) (rdS X.K ca E (sRaise c)) :=
  gs_raise (cls := .ref (ca c)) hc tk (pmk_own PySem.F.excBase_ValueError T.q T.g T.k (raises_own T.b T.t) hg hdb)
theorem bb_isinstance : bootBuiltins "isinstance" = some (.builtin "isinstance") := by decide +kernel
theorem bb_int : bootBuiltins "int" = some (.type "int") := by decide +kernel
theorem bb_bool : bootBuiltins "bool" = some (.type "bool") := by decide +kernel
theorem bb_list : bootBuiltins "list" = some (.type "list") := by decide +kernel
theorem bb_tuple : bootBuiltins "tuple" = some (.type "tuple") := by decide +kernel
theorem bb_len : bootBuiltins "len" = some (.builtin "len") := by decide +kernel
theorem bb_abs : bootBuiltins "abs" = some (.builtin "abs") := by decide +kernel
theorem bb_max : bootBuiltins "max" = some (.builtin "max") := by decide +kernel
theorem bb_all : bootBuiltins "all" = some (.builtin "all") := by decide +kernel
theorem bb_sorted : bootBuiltins "sorted" = some (.builtin "sorted") := by decide +kernel
structure Blt (mg : Str → Option Value) : Prop where
  isinstance : mg "isinstance" = none
  int : mg "int" = none
  bool : mg "bool" = none
  list : mg "list" = none
  tuple : mg "tuple" = none
  str : mg "str" = none
  set : mg "set" = none
  len : mg "len" = none
  abs : mg "abs" = none
  max : mg "max" = none
  sum : mg "sum" = none
  all : mg "all" = none
  sorted : mg "sorted" = none
  range : mg "range" = none
  zip : mg "zip" = none
  enumerate : mg "enumerate" = none
def CInt (mg : Str → Option Value) (x : Str) (n : Int) : Prop := ∃ t, mg x = some (.int n t)
def CTup (K : PySem.W.Frag) (mg : Str → Option Value) (x : Str) (ns : List Int) : Prop := ∃ a, mg x = some (.ref a) ∧ TupK K a ns
section
variable {X : Cx} {ca : Nat → Addr} {E : XK} {x : Str} {pos : Pos}
theorem ge_gintE {n : Int} (hg : Gl X x) (h : CInt X.mg x n) (hd : (x == ("__debug__" : Str)) = false := by decide) : PE X (.Name x pos) (rdE X.K ca E (eC (.int n))) := let ⟨_, hm⟩ := h; ge_gint hg hm hd
theorem ge_gtupE {ns : List Int} (hg : Gl X x) (h : CTup X.K X.mg x ns) (hd : (x == ("__debug__" : Str)) = false := by decide) : PE X (.Name x pos) (rdE X.K ca E (eC (.tup (ns.map D.int)))) := let ⟨_, hm, T⟩ := h; ge_gtup hg hm T hd
end
theorem hu65 {k : Nat} {A : Around} (hr : Room k A) : A.units + 65 < cLine := Nat.lt_of_le_of_lt (Nat.le_trans (by omega) (Nat.add_le_add_left (by decide : 65 ≤ 200) (A.units + 16 * k))) hr.un
end DL
set_option Elab.async false
set_option linter.all false
set_option maxRecDepth 100000
set_option maxHeartbeats 1000000
namespace DL
open PySem PySem.Spec PyProof.Rows L2
end DL
set_option Elab.async false
set_option linter.all false
set_option maxRecDepth 100000
set_option maxHeartbeats 1000000
namespace DL
open PySem PySem.Spec PyProof.Rows L2
def oCatT : D2 := fun x y S => match x, y with
  | .tup xs, .tup ys => if xs.length + ys.length ≤ 100000 then .ok (.tup (xs ++ ys)) S else .bad
  | _, _ => .bad
section
variable {X : Cx} {ca : Nat → Addr} {E : XK} {K : PySem.W.Frag}
theorem s_catT : OpS K ca E (rCatA K) oCatT := fun g S v w d e Q ok r1 r2 post => by
  unfold oCatT at post
  split at post
  · split at post
    · rename_i xs ys h
      cases r1 with
      | tup hs hr =>
        cases r2 with
        | tup hs' hr' =>
          refine ⟨_, _, _, _, rfl, rfl, same_t ok.sub hs, same_t ok.sub hs', ?_, fun e => ?_, fun _ e => ?_, fun _ _ p hp => ?_⟩
          · rw [hr.length, hr'.length]
            exact sz_of h
          · subst e
            cases hr
            exact PostE.here post ok (.tup hs' hr')
          · subst e
            cases hr'
            rw [List.append_nil] at post
            exact PostE.here post ok (.tup hs hr)
          · exact post (.ref p) (g.frz p (.tup _)) (ext_frz ok hp) (ok_frz ok hp) (.tup (SqT.of upd_same) (RepAll.ext (ext_frz ok hp) (hr.append hr')))
    · exact post.elim
  · exact post.elim
end
end DL
set_option Elab.async false
set_option linter.all false
set_option maxRecDepth 100000
set_option maxHeartbeats 1000000
namespace DL
open PySem PySem.Spec PyProof.Rows L2
section
variable (K : PySem.W.Frag) (ca : Nat → Addr)
def PostSX (E : XK) (g0 g : G) (o : OutS) (Dn : Ends) : Prop := match o with
  | .nx ρ S => ∀ σ g', Ext g0 g' → Grow g g' → Ok K ca g' S → EnvR K ca g0 g' σ ρ → Dn.nx σ g'.H
  | .exc c S => ∀ g', Ext g0 g' → Ext g g' → Ok K ca g' S → E (.ref (ca c)) none g'.H
  | _ => False
end
section
variable {X : Cx} {ca : Nat → Addr} {E : L2.St → XK} {a b c e : Expr} {es : List Expr} {fa fb fc f : DE} {fr : DA} {p pos : Pos} {k j m : Nat} {x : Str} {sem : List D → Store → Out}
theorem PostSX.ext {K : PySem.W.Frag} {E : XK} {g0 g g1 : G} {o : OutS} {Dn : Ends} (e : Ext g g1) (h : PostSX K ca E g0 g o Dn) : PostSX K ca E g0 g1 o Dn := by
  cases o with
  | nx ρ S => exact fun σ g' a b c d => h σ g' a (e.grow.trans b) c d
  | exc c S => exact fun g' a b c => h g' a (e.trans b) c
  | _ => exact h
end
end DL
set_option Elab.async false
set_option linter.all false
set_option maxRecDepth 100000
set_option maxHeartbeats 1000000
namespace DL
open PySem PySem.Spec PyProof.Rows L2
section
variable {X : Cx} {ca : Nat → Addr} {E : XK} {K : PySem.W.Frag} {a b : Expr} {fa fb : DE} {apos cpos : Pos}
theorem RepAll.cnt {A : List Addr} {F : Hp} {w : V} {e : D} (q : Rep K ca A F w e) (h' : flatD e = true) : ∀ {vs : List V} {ds : List D}, RepAll K ca A F vs ds → ds.all flatD = true → (vs.countP fun z => eqV z w) = ds.countP fun z => eqD z e
  | _, _, .nil, _ => rfl
  | _, _, .cons r t, h => by
    rw [List.all_cons, Bool.and_eq_true] at h
    rw [List.countP_cons, List.countP_cons, RepAll.cnt q h' t h.2, r.eqV q h.1 h']
end
end DL
set_option Elab.async false
set_option linter.all false
set_option maxRecDepth 100000
set_option maxHeartbeats 1000000
namespace DL
open PySem PySem.Spec PyProof.Rows L2
end DL
set_option Elab.async false
set_option linter.all false
set_option maxRecDepth 100000
set_option maxHeartbeats 1000000
namespace DL
open PySem PySem.Spec PyProof.Rows L2
end DL
set_option Elab.async false
set_option linter.all false
set_option maxRecDepth 100000
set_option maxHeartbeats 1000000
namespace DL
open PySem PySem.Spec PyProof.Rows L2
section
variable {X : Cx} {ca : Nat → Addr} {E : XK} {K : PySem.W.Frag}
theorem RepAll.mem {A : List Addr} {F : Hp} : ∀ {xs : List V} {ds : List D}, RepAll K ca A F xs ds → ∀ p ∈ xs.zip ds, Rep K ca A F p.1 p.2
  | _, _, .nil, p, h => by simp at h
  | _, _, .cons r1 r2, p, h => by
    rw [List.zip_cons_cons] at h
    rcases List.mem_cons.mp h with rfl | h
    · exact r1
    · exact RepAll.mem r2 p h
end
end DL
set_option Elab.async false
set_option linter.all false
set_option maxRecDepth 100000
set_option maxHeartbeats 4000000
namespace DL
open PySem PySem.Spec PyProof.Rows L2
end DL
set_option Elab.async false
set_option linter.all false
set_option maxRecDepth 100000
set_option maxHeartbeats 1000000
namespace DL
open PySem PySem.Spec PyProof.Rows L2
def caOf (l : List Addr) : Nat → Addr := fun n => l.getD n 0
/-- the law's meaning is True at every script -/
def LawTrue (m : DC) : Prop := ∀ ns : List Int, ns.length ≤ 63 → ∃ S, m [.fls (ns.map D.int)] [] = .ok (.bl true) S
def spLaw (K : PySem.W.Frag) : Sp := fun vs H Q _ => ∃ (a : Addr) (ns : List Int), vs = [.ref a] ∧ SqL K H a (ns.map V.int) ∧ ns.length ≤ 63 ∧ ∀ H', Q (.bl true) H'
theorem law_sp {P : Program} {w : World} {K : PySem.W.Frag} {mg : Str → Option Value} {base : Heap} {CX : CXT} {k : Nat} {f : Addr} {fd : FuncData} {ps : List Str} {ca : Nat → Addr} {m : DC} (hm : LawTrue m) (F : FnOk P w K mg base CX k f fd ps (spD K ca 1 m)) :
    FnOk P w K mg base CX k f fd ps (spLaw K) := F.imp fun vs H Q E q => by
  obtain ⟨a, ns, rfl, hs, hl, k⟩ := q
  obtain ⟨S, e⟩ := hm ns hl
  refine ⟨⟨H, [], H⟩, [], [.fls (ns.map D.int)], rfl, ?_, .cons (.fls hs (RepAll.ofInts ns)) .nil, rfl, ?_⟩
  · exact ⟨Same.refl _, rfl, List.nodup_nil, (fun a h => nomatch h), (fun n o h => by simp at h)⟩
  · rw [e]
    intro v g' _ _ r
    cases r
    exact k _
theorem walkD {l : PySem.W.OpenLaw} {k : Nat} {q : Program} {loose : List Str} {XP : (Str → Option Value) → Heap → Prop} {YP : World → Heap → Prop} {d : DefRec} {K : Params → PySem.W.Frag} (hn : l.most = some 63) (hdf : d.params.defaults = []) (hr : Room k callerA)
    (hY : ∀ (w : World) (h : Heap), YP w h → (K w.params).In h)
    (F : ∀ (w : World) (mg : Str → Option Value) (fa : Addr) (h : Heap), (K w.params).In h → h.Ns mainGlobals mg → mg d.name = some (.ref fa) →
      ∃ fd : FuncData, (∀ (s : Shared) (u : Value), BindsTo s fd ⟨[u], []⟩ [("script", u)]) ∧ ∀ base : Heap, (K w.params).In base → base.Ns mainGlobals mg → FnOk l.prog w (K w.params) mg base (L2.CX l.prog w) k fa fd ["script"] (spLaw (K w.params))) :
    PySem.W.WalkO q loose XP YP l.row.toRowW d [] (fun f vs => PySem.call f vs) :=
  L2.walk_of (n := 63) (k := k) (x := "script") (CX := fun w => L2.CX l.prog w) (sp := fun w => spLaw (K w.params)) hn (by decide) hdf hr hY F (fun _ _ a ns hl _ hS => ⟨a, ns, rfl, hS, hl, fun _ => rfl⟩) fun _ _ _ _ _ z => by
    obtain ⟨_, _, _, _, _, _, _, _, _, _, _, _, z⟩ := z
    exact z
end DL
set_option Elab.async false
set_option linter.all false
set_option maxRecDepth 100000
set_option maxHeartbeats 4000000
namespace DL
open PySem PySem.Spec PyProof.Rows L2
def b_is_int : DS :=
  (sRet (eAnd (eUn (oIsi "int") (eVar 0)) (eAnd (eNot (eUn (oIsi "bool") (eVar 0))) (eChain oLe oLe (eVar 1) (eVar 0) (eVar 2)))))
def m_is_int : DC := runD 3 3 b_is_int
def b_is_form : DS :=
  (sSeq (sIf (eOr (eNot (eUn (oIsi "list") (eVar 0))) (eBin (oIn true) (eCall oLen (aCons (eVar 0) aNil)) (eC (.tup (List.map D.int [1, 2, 4, 8, 16]))))) (sRet (eC (.bl false))) sSkip)
    (sRet (eCall oAll (aCons (eLc (eSeq (eVar 0)) (tgName 1) eYes (eCall m_is_int (aCons (eVar 1) (aCons (eUn oNeg (eC (.int 10000))) (aCons (eC (.int 10000)) aNil))))) aNil))))
def m_is_form : DC := runD 2 1 b_is_form
def b_check_form : DS :=
  (sIf (eNot (eCall m_is_form (aCons (eVar 0) aNil))) (sRaise 2) sSkip)
def m_check_form : DC := runD 1 1 b_check_form
def b_block_size : DS :=
  (sSeq (sAsg (eVar 0) (tgName 2))
    (sSeq (sWhile 40 (eBin oGt (eVar 1) (eC (.int 1))) (sSeq (sAug 1 oFdiv (eC (.int 2)))
    (sAug 2 oFdiv (eC (.int 2)))))
    (sRet (eVar 2))))
def m_block_size : DC := runD 3 2 b_block_size
def b_common : DS :=
  (sSeq (sPar 0 1 (aCons (eCall oAbs (aCons (eVar 0) aNil)) (aCons (eCall oAbs (aCons (eVar 1) aNil)) aNil)))
    (sSeq (sWhile 63 (eBin oNe (eVar 1) (eC (.int 0))) (sPar 0 1 (aCons (eVar 1) (aCons (eBin oMod (eVar 0) (eVar 1)) aNil))))
    (sRet (eVar 0))))
def m_common : DC := runD 2 2 b_common
def b_lowest : DS :=
  (sSeq (sAsg (eCall m_common (aCons (eVar 0) (aCons (eVar 1) aNil))) (tgName 2))
    (sRet (eTup (aCons (eBin oFdiv (eVar 0) (eVar 2)) (aCons (eBin oFdiv (eVar 1) (eVar 2)) aNil)))))
def m_lowest : DC := runD 3 2 b_lowest
def b_plus : DS :=
  (sRet (eCall m_lowest (aCons (eBin oAdd (eBin oMul (eBin oIx (eVar 0) (eC (.int 0))) (eBin oIx (eVar 1) (eC (.int 1)))) (eBin oMul (eBin oIx (eVar 1) (eC (.int 0))) (eBin oIx (eVar 0) (eC (.int 1))))) (aCons (eBin oMul (eBin oIx (eVar 0) (eC (.int 1))) (eBin oIx (eVar 1) (eC (.int 1)))) aNil))))
def m_plus : DC := runD 2 2 b_plus
def b_law_start : DS :=
  (sRet (eObj (eLst (aCons (eObj (eIf (eBin oNe (eVar 0) (eLst aNil)) (eCall oList (aCons (eVar 0) aNil)) (eLst (aCons (eC (.int 0)) aNil)))) (aCons (eC (.int 0)) aNil)))))
def m_law_start : DC := runD 1 1 b_law_start
def b_law_draw : DS :=
  (sSeq (sAsg (eBin oIx (eVar 0) (eC (.int 0))) (tgName 2))
    (sSeq (sSetB (eVar 0) (eC (.int 1)) (eBin oAdd (eBin oIx (eVar 0) (eC (.int 1))) (eC (.int 1))))
    (sSeq (sAsg (eBin oMod (eBin oIx (eVar 0) (eC (.int 1))) (eCall oLen (aCons (eVar 2) aNil))) (tgName 3))
    (sSeq (sAsg (eBin oIx (eVar 2) (eVar 3)) (tgName 4))
    (sSeq (sIf (eBin oGe (eVar 4) (eC (.int 1000000000000000000))) (sSeq (sSetB (eVar 2) (eVar 3) (eBin oFdiv (eVar 4) (eVar 1)))
    (sRet (eBin oMod (eVar 4) (eVar 1)))) sSkip)
    (sSeq (sAsg (eBin oMod (eBin oAdd (eVar 4) (eBin oMul (eC (.int 104729)) (eBin oIx (eVar 0) (eC (.int 1))))) (eC (.int 4294967291))) (tgName 5))
    (sSeq (sAsg (eBin oMod (eBin oPow (eVar 5) (eC (.int 5))) (eC (.int 4294967279))) (tgName 5))
    (sRet (eBin oMod (eBin oFdiv (eBin oMod (eBin oAdd (eBin oMul (eBin oFdiv (eVar 5) (eC (.int 64))) (eC (.int 69621))) (eVar 5)) (eC (.int 4294967231))) (eC (.int 8))) (eVar 1))))))))))
def m_law_draw : DC := runD 6 2 b_law_draw
def b_law_pick : DS :=
  (sRet (eBin oIx (eVar 1) (eCall m_law_draw (aCons (eVar 0) (aCons (eCall oLen (aCons (eVar 1) aNil)) aNil)))))
def m_law_pick : DC := runD 2 2 b_law_pick
def b_law_span : DS :=
  (sSeq (sAsg (eLst aNil) (tgName 2))
    (sSeq (sWhile 40 (eBin oGt (eVar 1) (eC (.int 1))) (sSeq (sAsg (eBin oAdd (eLst (aCons (eBin oMod (eVar 1) (eC (.int 2))) aNil)) (eVar 2)) (tgName 2))
    (sAsg (eBin oFdiv (eVar 1) (eC (.int 2))) (tgName 1))))
    (sSeq (sPar 4 5 (aCons (eC (.int 0)) (aCons (eVar 0) aNil)))
    (sSeq (sFor (eSeq (eVar 2)) (tgName 3) (sSeq (sAsg (eBin oFdiv (eBin oAdd (eVar 4) (eVar 5)) (eC (.int 2))) (tgName 6))
    (sAsg (eIf (eBin oEq (eVar 3) (eC (.int 0))) (eTup (aCons (eVar 4) (aCons (eVar 6) aNil))) (eTup (aCons (eVar 6) (aCons (eVar 5) aNil)))) (tgTup (tgCons (tgName 4) (tgCons (tgName 5) tgNil))))))
    (sRet (eTup (aCons (eVar 4) (aCons (eVar 5) aNil))))))))
def m_law_span : DC := runD 7 2 b_law_span
def b_law_true : DS :=
  (sRet (eAnd (eUn (oIsi "bool") (eVar 0)) (eBin oEq (eVar 0) (eVar 1))))
def m_law_true : DC := runD 2 2 b_law_true
def b_law_form : DS :=
  (sSeq (sAsg (eCall m_law_pick (aCons (eVar 0) (aCons (eLst (aCons (eC (.int 1)) (aCons (eC (.int 2)) (aCons (eC (.int 4)) (aCons (eC (.int 4)) (aCons (eC (.int 8)) (aCons (eC (.int 16)) aNil))))))) aNil))) (tgName 1))
    (sSeq (sAsg (eCall m_law_pick (aCons (eVar 0) (aCons (eLst (aCons (eC (.int 3)) (aCons (eC (.int 9)) (aCons (eC (.int 60)) aNil)))) aNil))) (tgName 2))
    (sRet (eLc (eRng (aCons (eVar 1) aNil)) (tgName 3) eYes (eBin oSub (eCall m_law_draw (aCons (eVar 0) (aCons (eBin oAdd (eBin oMul (eC (.int 2)) (eVar 2)) (eC (.int 1))) aNil))) (eVar 2))))))
def m_law_form : DC := runD 4 1 b_law_form
def b_law_low : DS :=
  (sSeq (sPar 2 3 (aCons (eCall oAbs (aCons (eVar 0) aNil)) (aCons (eVar 1) aNil)))
    (sSeq (sWhile 63 (eBin oNe (eVar 3) (eC (.int 0))) (sPar 2 3 (aCons (eVar 3) (aCons (eBin oMod (eVar 2) (eVar 3)) aNil))))
    (sRet (eTup (aCons (eBin oFdiv (eVar 0) (eVar 2)) (aCons (eBin oFdiv (eVar 1) (eVar 2)) aNil))))))
def m_law_low : DC := runD 4 2 b_law_low
def b_law_add : DS :=
  (sRet (eCall m_law_low (aCons (eBin oAdd (eBin oMul (eBin oIx (eVar 0) (eC (.int 0))) (eBin oIx (eVar 1) (eC (.int 1)))) (eBin oMul (eBin oIx (eVar 1) (eC (.int 0))) (eBin oIx (eVar 0) (eC (.int 1))))) (aCons (eBin oMul (eBin oIx (eVar 0) (eC (.int 1))) (eBin oIx (eVar 1) (eC (.int 1)))) aNil))))
def m_law_add : DC := runD 2 2 b_law_add
def b_law_total : DS :=
  (sSeq (sAsg (eTup (aCons (eC (.int 0)) (aCons (eC (.int 1)) aNil))) (tgName 1))
    (sSeq (sFor (eSeq (eVar 0)) (tgName 2) (sAsg (eCall m_law_add (aCons (eVar 1) (aCons (eVar 2) aNil))) (tgName 1)))
    (sRet (eVar 1))))
def m_law_total : DC := runD 3 1 b_law_total
def b_is_kept : DS :=
  (sSeq (sIf (eOr (eNot (eUn (oIsi "tuple") (eVar 1))) (eNot (eCall oAll (aCons (eLc (eSeq (eVar 1)) (tgName 3) eYes (eCall m_is_int (aCons (eVar 3) (aCons (eC (.int 1)) (aCons (eBin oSub (eCall oLen (aCons (eVar 0) aNil)) (eC (.int 1))) aNil))))) aNil)))) (sRet (eC (.bl false))) sSkip)
    (sRet (eCall oAll (aCons (eLc (eRng (aCons (eBin oSub (eCall oLen (aCons (eVar 1) aNil)) (eC (.int 1))) aNil)) (tgName 2) eYes (eBin oLt (eBin oIx (eVar 1) (eVar 2)) (eBin oIx (eVar 1) (eBin oAdd (eVar 2) (eC (.int 1)))))) aNil))))
def m_is_kept : DC := runD 4 2 b_is_kept
def b_check_kept : DS :=
  (sIf (eNot (eCall m_is_kept (aCons (eVar 0) (aCons (eVar 1) aNil)))) (sRaise 4) sSkip)
def m_check_kept : DC := runD 2 2 b_check_kept
def b_less : DS :=
  (sRet (eBin oLt (eBin oMul (eBin oIx (eVar 0) (eC (.int 0))) (eBin oIx (eVar 1) (eC (.int 1)))) (eBin oMul (eBin oIx (eVar 1) (eC (.int 0))) (eBin oIx (eVar 0) (eC (.int 1))))))
def m_less : DC := runD 2 2 b_less
def b_total : DS :=
  (sSeq (sAsg (eTup (aCons (eC (.int 0)) (aCons (eC (.int 1)) aNil))) (tgName 1))
    (sSeq (sFor (eSeq (eVar 0)) (tgName 2) (sAsg (eCall m_plus (aCons (eVar 1) (aCons (eVar 2) aNil))) (tgName 1)))
    (sRet (eVar 1))))
def m_total : DC := runD 3 1 b_total
def b_share_of : DS :=
  (sSeq (sIf (eBin oEq (eVar 1) (eC (.int 0))) (sRet (eCall m_lowest (aCons (eBin oMul (eBin oIx (eVar 0) (eC (.int 0))) (eBin oIx (eVar 0) (eC (.int 0)))) (aCons (eCall oLen (aCons (eVar 0) aNil)) aNil)))) sSkip)
    (sRet (eCall m_lowest (aCons (eBin oMul (eBin oIx (eVar 0) (eVar 1)) (eBin oIx (eVar 0) (eVar 1))) (aCons (eCall m_block_size (aCons (eCall oLen (aCons (eVar 0) aNil)) (aCons (eVar 1) aNil))) aNil)))))
def m_share_of : DC := runD 2 2 b_share_of
def b_left_out : DS :=
  (sSeq (sExpr (eCall m_check_form (aCons (eVar 0) aNil)))
    (sSeq (sExpr (eCall m_check_kept (aCons (eVar 0) (aCons (eVar 1) aNil))))
    (sRet (eCall m_total (aCons (eLc (eRng (aCons (eC (.int 1)) (aCons (eCall oLen (aCons (eVar 0) aNil)) aNil))) (tgName 2) (eBin (oIn true) (eVar 2) (eVar 1)) (eCall m_share_of (aCons (eVar 0) (aCons (eVar 2) aNil)))) aNil)))))
def m_left_out : DC := runD 3 2 b_left_out
def b_in_order : DS :=
  (sSeq (sAsg (eLst aNil) (tgName 1))
    (sSeq (sFor (eRng (aCons (eC (.int 1)) (aCons (eCall oLen (aCons (eVar 0) aNil)) aNil))) (tgName 2) (sSeq (sAsg (eCall m_share_of (aCons (eVar 0) (aCons (eVar 2) aNil))) (tgName 3))
    (sSeq (sAsg (eCall oLen (aCons (eLc (eSeq (eVar 1)) (tgName 5) (eNot (eCall m_less (aCons (eCall m_share_of (aCons (eVar 0) (aCons (eVar 5) aNil))) (aCons (eVar 3) aNil)))) (eVar 5)) aNil)) (tgName 4))
    (sAsg (eBin oAdd (eBin oAdd (eSl (eVar 1) pNo (pSome (eVar 4))) (eLst (aCons (eVar 2) aNil))) (eSl (eVar 1) (pSome (eVar 4)) pNo)) (tgName 1)))))
    (sRet (eVar 1))))
def m_in_order : DC := runD 6 1 b_in_order
def b_by_share : DS :=
  (sSeq (sExpr (eCall m_check_form (aCons (eVar 0) aNil)))
    (sRet (eCall m_in_order (aCons (eVar 0) aNil))))
def m_by_share : DC := runD 1 1 b_by_share
def b_with_kept : DS :=
  (sRet (eLc (eRng (aCons (eCall oLen (aCons (eVar 0) aNil)) aNil)) (tgName 2) eYes (eIf (eOr (eBin oEq (eVar 2) (eC (.int 0))) (eBin (oIn false) (eVar 2) (eVar 1))) (eBin oIx (eVar 0) (eVar 2)) (eC (.int 0)))))
def m_with_kept : DC := runD 3 2 b_with_kept
def b_only : DS :=
  (sSeq (sExpr (eCall m_check_form (aCons (eVar 0) aNil)))
    (sSeq (sExpr (eCall m_check_kept (aCons (eVar 0) (aCons (eVar 1) aNil))))
    (sRet (eCall m_with_kept (aCons (eVar 0) (aCons (eVar 1) aNil))))))
def m_only : DC := runD 2 2 b_only
def b_law_below : DS :=
  (sRet (eBin oLt (eBin oMul (eBin oIx (eVar 0) (eC (.int 0))) (eBin oIx (eVar 1) (eC (.int 1)))) (eBin oMul (eBin oIx (eVar 1) (eC (.int 0))) (eBin oIx (eVar 0) (eC (.int 1))))))
def m_law_below : DC := runD 2 2 b_law_below
def b_law_share : DS :=
  (sSeq (sAsg (eCall m_law_span (aCons (eCall oLen (aCons (eVar 0) aNil)) (aCons (eCall oMax (aCons (eC (.int 1)) (aCons (eVar 1) aNil))) aNil))) (tgTup (tgCons (tgName 2) (tgCons (tgName 3) tgNil))))
    (sRet (eCall m_law_low (aCons (eBin oMul (eBin oIx (eVar 0) (eVar 1)) (eBin oIx (eVar 0) (eVar 1))) (aCons (eBin oSub (eVar 3) (eVar 2)) aNil)))))
def m_law_share : DC := runD 4 2 b_law_share
def b_check_many : DS :=
  (sIf (eNot (eCall m_is_int (aCons (eVar 1) (aCons (eC (.int 0)) (aCons (eBin oSub (eCall oLen (aCons (eVar 0) aNil)) (eC (.int 1))) aNil))))) (sRaise 3) sSkip)
def m_check_many : DC := runD 2 2 b_check_many
def b_best_kept : DS :=
  (sSeq (sExpr (eCall m_check_form (aCons (eVar 0) aNil)))
    (sSeq (sExpr (eCall m_check_many (aCons (eVar 0) (aCons (eVar 1) aNil))))
    (sRet (eCall oTuple (aCons (eCall oSorted (aCons (eSl (eCall m_in_order (aCons (eVar 0) aNil)) pNo (pSome (eVar 1))) aNil)) aNil)))))
def m_best_kept : DC := runD 2 2 b_best_kept
def b_least_error : DS :=
  (sSeq (sExpr (eCall m_check_form (aCons (eVar 0) aNil)))
    (sSeq (sExpr (eCall m_check_many (aCons (eVar 0) (aCons (eVar 1) aNil))))
    (sRet (eCall m_total (aCons (eLc (eSeq (eSl (eCall m_in_order (aCons (eVar 0) aNil)) (pSome (eVar 1)) pNo)) (tgName 2) eYes (eCall m_share_of (aCons (eVar 0) (aCons (eVar 2) aNil)))) aNil)))))
def m_least_error : DC := runD 3 2 b_least_error
def b_ties : DS :=
  (sSeq (sAsg (eCall m_in_order (aCons (eVar 0) aNil)) (tgName 2))
    (sSeq (sIf (eBin oEq (eVar 1) (eC (.int 0))) (sRet (eTup (aCons (eC (.int 0)) (aCons (eC (.int 0)) aNil)))) sSkip)
    (sSeq (sAsg (eCall m_share_of (aCons (eVar 0) (aCons (eBin oIx (eVar 2) (eBin oSub (eVar 1) (eC (.int 1)))) aNil))) (tgName 3))
    (sSeq (sAsg (eLc (eSeq (eVar 2)) (tgName 5) (eBin oEq (eCall m_share_of (aCons (eVar 0) (aCons (eVar 5) aNil))) (eVar 3)) (eVar 5)) (tgName 4))
    (sRet (eTup (aCons (eCall oLen (aCons (eLc (eSeq (eSl (eVar 2) pNo (pSome (eVar 1)))) (tgName 5) (eBin oEq (eCall m_share_of (aCons (eVar 0) (aCons (eVar 5) aNil))) (eVar 3)) (eVar 5)) aNil)) (aCons (eCall oLen (aCons (eVar 4) aNil)) aNil))))))))
def m_ties : DC := runD 6 2 b_ties
def b_choose : DS :=
  (sSeq (sAsg (eC (.int 1)) (tgName 2))
    (sSeq (sFor (eRng (aCons (eVar 0) aNil)) (tgName 3) (sAsg (eBin oFdiv (eBin oMul (eVar 2) (eBin oSub (eVar 1) (eVar 3))) (eBin oAdd (eVar 3) (eC (.int 1)))) (tgName 2)))
    (sRet (eVar 2))))
def m_choose : DC := runD 4 2 b_choose
def b_count_best : DS :=
  (sSeq (sExpr (eCall m_check_form (aCons (eVar 0) aNil)))
    (sSeq (sExpr (eCall m_check_many (aCons (eVar 0) (aCons (eVar 1) aNil))))
    (sSeq (sAsg (eCall m_ties (aCons (eVar 0) (aCons (eVar 1) aNil))) (tgTup (tgCons (tgName 2) (tgCons (tgName 3) tgNil))))
    (sRet (eCall m_choose (aCons (eVar 2) (aCons (eVar 3) aNil)))))))
def m_count_best : DC := runD 4 2 b_count_best
def b_is_best : DS :=
  (sSeq (sExpr (eCall m_check_form (aCons (eVar 0) aNil)))
    (sSeq (sExpr (eCall m_check_kept (aCons (eVar 0) (aCons (eVar 1) aNil))))
    (sSeq (sAsg (eCall m_total (aCons (eLc (eSeq (eVar 1)) (tgName 3) eYes (eCall m_share_of (aCons (eVar 0) (aCons (eVar 3) aNil)))) aNil)) (tgName 2))
    (sRet (eBin oEq (eVar 2) (eCall m_total (aCons (eLc (eSeq (eSl (eCall m_in_order (aCons (eVar 0) aNil)) pNo (pSome (eCall oLen (aCons (eVar 1) aNil))))) (tgName 3) eYes (eCall m_share_of (aCons (eVar 0) (aCons (eVar 3) aNil)))) aNil)))))))
def m_is_best : DC := runD 4 2 b_is_best
end DL
set_option Elab.async false
set_option linter.all false
set_option maxRecDepth 100000
set_option maxHeartbeats 4000000
namespace DL.K06
open PySem PySem.Spec PyProof.Rows L2
def b_law_0 : DS :=
  (sAsg (eCall m_law_start (aCons (eVar 0) aNil)) (tgName 1))
def b_law_1 : DS :=
  (sAsg (eSl (eCall m_law_form (aCons (eVar 1) aNil)) pNo (pSome (eC (.int 8)))) (tgName 2))
def b_law_2 : DS :=
  (sAsg (eCall oLen (aCons (eVar 2) aNil)) (tgName 3))
def b_law_3 : DS :=
  (sAsg (eLc (eRng (aCons (eVar 3) aNil)) (tgName 6) eYes (eCall m_law_share (aCons (eVar 2) (aCons (eVar 6) aNil)))) (tgName 4))
def b_law_4 : DS :=
  (sAsg (eLst (aCons (eTup aNil) aNil)) (tgName 5))
def b_law_5 : DS :=
  (sFor (eRng (aCons (eC (.int 1)) (aCons (eVar 3) aNil))) (tgName 6) (sAsg (eBin oAdd (eVar 5) (eLc (eSeq (eVar 5)) (tgName 9) eYes (eBin oCatT (eVar 9) (eTup (aCons (eVar 6) aNil))))) (tgName 5)))
def b_law_6 : DS :=
  (sAsg (eCall m_law_draw (aCons (eVar 1) (aCons (eVar 3) aNil))) (tgName 7))
def b_law_7 : DS :=
  (sOwn 8 (eLst aNil))
def b_law_8 : DS :=
  (sFor (eSeq (eVar 5)) (tgName 9) (sIf (eBin oEq (eCall oLen (aCons (eVar 9) aNil)) (eVar 7)) (sApp 8 (eTup (aCons (eVar 9) (aCons (eCall m_law_total (aCons (eLc (eRng (aCons (eC (.int 1)) (aCons (eVar 3) aNil))) (tgName 6) (eBin (oIn true) (eVar 6) (eVar 9)) (eBin oIx (eVar 4) (eVar 6))) aNil)) aNil)))) sSkip))
def b_law_9 : DS :=
  (sAsg (eBin oIx (eOwnIx 8 (eC (.int 0))) (eC (.int 1))) (tgName 10))
def b_law_10 : DS :=
  (sFrz 8 (sFor (eSeq (eVar 8)) (tgTup (tgCons (tgName 9) (tgCons (tgName 13) tgNil))) (sIf (eCall m_law_below (aCons (eVar 13) (aCons (eVar 10) aNil))) (sAsg (eVar 13) (tgName 10)) sSkip)))
def b_law_11 : DS :=
  (sAsg (eLc (eSeq (eVar 8)) (tgTup (tgCons (tgName 9) (tgCons (tgName 13) tgNil))) (eBin oEq (eVar 13) (eVar 10)) (eVar 9)) (tgName 11))
def b_law_12 : DS :=
  (sIf (eOr (eBin oNe (eCall m_least_error (aCons (eVar 2) (aCons (eVar 7) aNil))) (eVar 10)) (eOr (eBin oNe (eCall m_count_best (aCons (eVar 2) (aCons (eVar 7) aNil))) (eCall oLen (aCons (eVar 11) aNil))) (eBin (oIn true) (eCall m_best_kept (aCons (eVar 2) (aCons (eVar 7) aNil))) (eVar 11)))) (sRet (eC (.bl false))) sSkip)
def b_law_13 : DS :=
  (sIf (eOr (eBin oNe (eCall m_best_kept (aCons (eVar 2) (aCons (eVar 7) aNil))) (eCall oTuple (aCons (eCall oSorted (aCons (eSl (eCall m_by_share (aCons (eVar 2) aNil)) pNo (pSome (eVar 7))) aNil)) aNil))) (eBin oNe (eCall m_left_out (aCons (eVar 2) (aCons (eCall m_best_kept (aCons (eVar 2) (aCons (eVar 7) aNil))) aNil))) (eVar 10))) (sRet (eC (.bl false))) sSkip)
def b_law_14 : DS :=
  (sAsg (eCall m_law_pick (aCons (eVar 1) (aCons (eVar 5) aNil))) (tgName 9))
def b_law_15 : DS :=
  (sAsg (eCall m_left_out (aCons (eVar 2) (aCons (eVar 9) aNil))) (tgName 12))
def b_law_16 : DS :=
  (sIf (eNot (eCall m_law_true (aCons (eCall m_is_best (aCons (eVar 2) (aCons (eVar 9) aNil))) (aCons (eBin oEq (eVar 12) (eCall m_least_error (aCons (eVar 2) (aCons (eCall oLen (aCons (eVar 9) aNil)) aNil)))) aNil)))) (sRet (eC (.bl false))) sSkip)
def b_law_17 : DS :=
  (sRet (eAnd (eBin oIs (eCall m_is_best (aCons (eVar 2) (aCons (eCall m_best_kept (aCons (eVar 2) (aCons (eVar 7) aNil))) aNil))) (eC (.bl true))) (eBin oEq (eCall m_only (aCons (eVar 2) (aCons (eVar 9) aNil))) (eLc (eRng (aCons (eVar 3) aNil)) (tgName 14) eYes (eIf (eOr (eBin oEq (eVar 14) (eC (.int 0))) (eBin (oIn false) (eVar 14) (eVar 9))) (eBin oIx (eVar 2) (eVar 14)) (eC (.int 0)))))))
def b_law : DS :=
  (sSeq b_law_0 (sSeq b_law_1 (sSeq b_law_2 (sSeq b_law_3 (sSeq b_law_4 (sSeq b_law_5 (sSeq b_law_6 (sSeq b_law_7 (sSeq b_law_8 (sSeq b_law_9 (sSeq b_law_10 (sSeq b_law_11 (sSeq b_law_12 (sSeq b_law_13 (sSeq b_law_14 (sSeq b_law_15 (sSeq b_law_16 b_law_17)))))))))))))))))
def m_law : DC := runD 15 1 b_law
end DL.K06
set_option Elab.async false
set_option linter.all false
set_option maxRecDepth 100000
set_option maxHeartbeats 1000000
namespace DL
open PySem L2
section
variable {ρ ρ' : DEnv} {S S1 S2 S3 S4 : Store} {i j : Nat} {d x y z : D} {a b c f : DE} {r : DA} {ds xs ys : List D} {k : Bool} {R : Out} {RS : OutS}
theorem eVar_ok (h : ρ[i]? = some (.val d)) : eVar i ρ S = .ok d S := by unfold eVar; rw [h]
theorem eC_ok : eC d ρ S = .ok d S := rfl
theorem eYes_ok : eYes ρ S = .ok (.bl true) S := rfl
theorem eBin_ok {o : D2} (ha : a ρ S = .ok x S1) (hb : b ρ S1 = .ok y S2) (ho : o x y S2 = R) : eBin o a b ρ S = R := by
  unfold eBin
  rw [ha]
  simp only [Out.bind]
  rw [hb]
  exact ho
theorem eUn_ok {o : D1} (ha : a ρ S = .ok x S1) (ho : o x S1 = R) : eUn o a ρ S = R := by
  unfold eUn
  rw [ha]
  exact ho
theorem eNot_ok (ha : a ρ S = .ok (.bl k) S1) : eNot a ρ S = .ok (.bl (!k)) S1 := eUn_ok ha rfl
theorem eAnd_t (ha : a ρ S = .ok (.bl true) S1) (hb : b ρ S1 = R) : eAnd a b ρ S = R := by
  unfold eAnd
  rw [ha]
  exact hb
theorem eOr_t (ha : a ρ S = .ok (.bl true) S1) : eOr a b ρ S = .ok (.bl true) S1 := by
  unfold eOr
  rw [ha]
theorem eOr_f (ha : a ρ S = .ok (.bl false) S1) (hb : b ρ S1 = R) : eOr a b ρ S = R := by
  unfold eOr
  rw [ha]
  exact hb
theorem eOr_ok {k' : Bool} (ha : a ρ S = .ok (.bl k) S) (hb : k = false → b ρ S = .ok (.bl k') S) : eOr a b ρ S = .ok (.bl (k || k')) S := by
  cases k with
  | true => exact eOr_t ha
  | false => exact eOr_f ha (hb rfl)
theorem eIf_t (hc : c ρ S = .ok (.bl true) S1) (ha : a ρ S1 = R) : eIf c a b ρ S = R := by
  unfold eIf
  rw [hc]
  exact ha
theorem eIf_f (hc : c ρ S = .ok (.bl false) S1) (hb : b ρ S1 = R) : eIf c a b ρ S = R := by
  unfold eIf
  rw [hc]
  exact hb
theorem eChain_ok {o o' : D2} {p q : Bool} (ha : a ρ S = .ok x S) (hb : b ρ S = .ok y S) (ho : o x y S = .ok (.bl p) S) (hc : p = true → c ρ S = .ok z S) (ho' : p = true → o' y z S = .ok (.bl q) S) : eChain o o' a b c ρ S = .ok (.bl (p && q)) S := by
  unfold eChain
  rw [ha]
  simp only [Out.bind]
  rw [hb]
  simp only []
  rw [ho]
  cases p with
  | false => rfl
  | true =>
    simp only []
    rw [hc rfl]
    simp only []
    rw [ho' rfl]
    rfl
theorem aNil_ok : aNil ρ S = .ok [] S := rfl
theorem aCons_ok (ha : a ρ S = .ok x S1) (hr : r ρ S1 = .ok xs S2) : aCons a r ρ S = .ok (x :: xs) S2 := by
  unfold aCons
  rw [ha]
  simp only [Out.bindA]
  rw [hr]
  rfl
theorem eTup_ok (h : r ρ S = .ok ds S1) : eTup r ρ S = .ok (.tup ds) S1 := by
  unfold eTup
  rw [h]
  rfl
theorem eLst_ok (h : r ρ S = .ok ds S1) : eLst r ρ S = .ok (.lst ds) S1 := by
  unfold eLst
  rw [h]
  rfl
theorem eCall_ok {m : DC} (h : r ρ S = .ok ds S1) (hm : m ds S1 = R) : eCall m r ρ S = R := by
  unfold eCall
  rw [h]
  exact hm
theorem sRet_ok (h : f ρ S = .ok d S1) : sRet f ρ S = .ret d S1 := by
  unfold sRet
  rw [h]
  rfl
theorem sExpr_ok (h : f ρ S = .ok d S1) : sExpr f ρ S = .nx ρ S1 := by
  unfold sExpr
  rw [h]
  rfl
theorem sAsg_ok {t : DG} (h : f ρ S = .ok d S1) (ht : t d ρ = some ρ') : sAsg f t ρ S = .nx ρ' S1 := by
  unfold sAsg
  rw [h]
  simp only [Out.bindS]
  rw [ht]
theorem sIf_t {t u : DS} (hc : c ρ S = .ok (.bl true) S1) (ht : t ρ S1 = RS) : sIf c t u ρ S = RS := by
  unfold sIf
  rw [hc]
  exact ht
theorem sIf_f {t u : DS} (hc : c ρ S = .ok (.bl false) S1) (hu : u ρ S1 = RS) : sIf c t u ρ S = RS := by
  unfold sIf
  rw [hc]
  exact hu
theorem sPar_ok (h : r ρ S = .ok [x, y] S1) : sPar i j r ρ S = .nx ((ρ.set i (.val x)).set j (.val y)) S1 := by
  unfold sPar
  rw [h]
theorem sSkip_ok : sSkip ρ S = .nx ρ S := rfl
theorem sSeq_ok {f h : DS} (hf : f ρ S = .nx ρ' S1) (hh : h ρ' S1 = RS) : sSeq f h ρ S = RS := by
  unfold sSeq
  rw [hf]
  exact hh
theorem sSeq_ret {f h : DS} (hf : f ρ S = .ret d S1) : sSeq f h ρ S = .ret d S1 := by
  unfold sSeq
  rw [hf]
theorem sFor_ok {it : DE} {t : DG} {fb : DS} (h : it ρ S = .ok (.lst ds) S1) (hl : loopF (turnF t fb) ds ρ S1 = RS) : sFor it t fb ρ S = RS := by
  unfold sFor
  rw [h]
  exact hl
theorem turnF_ok {t : DG} {fb : DS} (ht : t d ρ = some ρ') (h : fb ρ' S = RS) : turnF t fb d ρ S = RS := by
  unfold turnF
  rw [ht]
  exact h
theorem loopF_nx {fb : D → DS} (h : fb d ρ S = .nx ρ' S1) (hr : loopF fb ds ρ' S1 = RS) : loopF fb (d :: ds) ρ S = RS := by
  unfold loopF
  rw [h]
  exact hr
theorem loopW_go {c : DE} {b : DS} {n : Nat} (hc : c ρ S = .ok (.bl true) S1) (hb : b ρ S1 = .nx ρ' S2) (hr : loopW c b n ρ' S2 = RS) : loopW c b (n + 1) ρ S = RS := by
  rw [loopW, hc]
  simp only [Out.bindS]
  rw [hb]
  exact hr
theorem loopW_end {c : DE} {b : DS} {n : Nat} (hc : c ρ S = .ok (.bl false) S1) : loopW c b (n + 1) ρ S = .nx ρ S1 := by
  rw [loopW, hc]
  simp only [Out.bindS]
theorem eSeq_l (h : f ρ S = .ok (.lst ds) S1) : eSeq f ρ S = .ok (.lst ds) S1 := eUn_ok h rfl
theorem eSeq_t (h : f ρ S = .ok (.tup ds) S1) : eSeq f ρ S = .ok (.lst ds) S1 := eUn_ok h rfl
theorem eRng_ok (h : r ρ S = .ok ds S1) (hm : oRng ds S1 = R) : eRng r ρ S = R := by
  unfold eRng
  rw [h]
  exact hm
theorem pNo_ok : pNo ρ S = .ok none S := rfl
theorem pSome_ok {n : Int} (h : f ρ S = .ok (.int n) S1) : pSome f ρ S = .ok (some n) S1 := by
  unfold pSome
  rw [h]
theorem eSl_ok {l h : DO} {lo hi : Option Int} (hf : f ρ S = .ok d S1) (hl : l ρ S1 = .ok lo S2) (hh : h ρ S2 = .ok hi S3) (ho : oSl d lo hi S3 = R) : eSl f l h ρ S = R := by
  unfold eSl
  rw [hf]
  simp only [Out.bind]
  rw [hl]
  simp only [OutO.bind]
  rw [hh]
  exact ho
theorem sOwn_ok (h : f ρ S = .ok (.lst ds) S1) : sOwn i f ρ S = .nx (ρ.set i (.own ds)) S1 := by
  unfold sOwn
  rw [h]
  rfl
theorem sFrz_ok {fs : DS} (hi : ρ[i]? = some (.own ds)) (h : fs (ρ.set i (.val (.lst ds))) S = RS) : sFrz i fs ρ S = RS := by
  unfold sFrz
  rw [hi]
  exact h
theorem sApp_ok (hi : ρ[i]? = some (.own ds)) (h : f ρ S = .ok d S1) (hl : ds.length < 100000) : sApp i f ρ S = .nx (ρ.set i (.own (ds ++ [d]))) S1 := by
  unfold sApp
  rw [hi]
  simp only []
  rw [h]
  simp only [Out.bindS]
  rw [if_pos hl]
theorem eOwnIx_ok {n : Int} (hi : ρ[i]? = some (.own ds)) (h : f ρ S = .ok (.int n) S1) (hx : atI ds n = some d) : eOwnIx i f ρ S = .ok d S1 := by
  unfold eOwnIx
  rw [hi]
  simp only []
  rw [h]
  simp only [Out.bind]
  rw [hx]
theorem runD_ret {N n : Nat} {fb : DS} (hl : ds.length = n) (h : fb (ds.map Slot.val ++ List.replicate (N - n) Slot.emp) S = .ret d S1) : runD N n fb ds S = .ok d S1 := by
  unfold runD
  rw [if_pos hl, h]
theorem runD_nx {N n : Nat} {fb : DS} (hl : ds.length = n) (h : fb (ds.map Slot.val ++ List.replicate (N - n) Slot.emp) S = .nx ρ S1) : runD N n fb ds S = .ok .non S1 := by
  unfold runD
  rw [if_pos hl, h]
end
section
variable {i j : Int} {S : Store}
theorem oAdd_ii : oAdd (.int i) (.int j) S = .ok (.int (i + j)) S := rfl
theorem oSub_ii : oSub (.int i) (.int j) S = .ok (.int (i - j)) S := rfl
theorem oNeg_i : oNeg (.int i) S = .ok (.int (-i)) S := rfl
theorem oLt_ii : oLt (.int i) (.int j) S = .ok (.bl (decide (i < j))) S := rfl
theorem oLe_ii : oLe (.int i) (.int j) S = .ok (.bl (decide (i ≤ j))) S := rfl
theorem oGt_ii : oGt (.int i) (.int j) S = .ok (.bl (decide (j < i))) S := rfl
theorem oGe_ii : oGe (.int i) (.int j) S = .ok (.bl (decide (j ≤ i))) S := rfl
theorem oAddI_ii : oAddI (.int i) (.int j) S = .ok (.int (i + j)) S := rfl
theorem oFdiv_ii (h1 : 0 < j) (h2 : j < 1073741824) : oFdiv (.int i) (.int j) S = .ok (.int (i / j)) S := by
  unfold oFdiv
  simp only []
  rw [if_pos (by rw [decide_eq_true h1, decide_eq_true h2]; rfl)]
theorem oMod_ii (h1 : 0 < j) : oMod (.int i) (.int j) S = .ok (.int (i % j)) S := by
  unfold oMod
  simp only []
  rw [if_pos (decide_eq_true h1)]
theorem bigI {i : Int} (h : i.natAbs < 18446744073709551616) : big i = true := by
  unfold big
  rw [Bool.and_eq_true, decide_eq_true_iff, decide_eq_true_iff]
  omega
theorem oMul_l (h : big i = true) : oMul (.int i) (.int j) S = .ok (.int (i * j)) S := by
  unfold oMul
  simp only []
  rw [if_pos (by rw [h]; rfl)]
theorem oMul_r (h : big j = true) : oMul (.int i) (.int j) S = .ok (.int (i * j)) S := by
  unfold oMul
  simp only []
  rw [if_pos (by rw [h, Bool.or_true])]
theorem oAbs_i : oAbs [.int i] S = .ok (.int (if i < 0 then -i else i)) S := rfl
theorem oMax_ii : oMax [.int i, .int j] S = .ok (.int (if j > i then j else i)) S := rfl
theorem oLen_l {xs : List D} : oLen [.lst xs] S = .ok (.int xs.length) S := rfl
theorem oLen_t {xs : List D} : oLen [.tup xs] S = .ok (.int xs.length) S := rfl
theorem oList_l {xs : List D} : oList [.lst xs] S = .ok (.lst xs) S := rfl
theorem oTuple_l {xs : List D} : oTuple [.lst xs] S = .ok (.tup xs) S := rfl
theorem oIs_n {d : D} : oIs d .non S = .ok (.bl (isNon d)) S := by cases d <;> rfl
theorem oIsnt_n {d : D} : oIsnt d .non S = .ok (.bl (!isNon d)) S := by cases d <;> rfl
theorem oIs_b {a b : Bool} : oIs (.bl a) (.bl b) S = .ok (.bl (decide (a = b))) S := rfl
theorem oIsnt_b {a b : Bool} : oIsnt (.bl a) (.bl b) S = .ok (.bl (!decide (a = b))) S := rfl
end
end DL
set_option Elab.async false
set_option linter.all false
set_option maxRecDepth 100000
set_option maxHeartbeats 1000000
namespace DL
open PySem L2
theorem kt1 : kitB "int" "int" = some true := by decide +kernel
theorem kb1 : kitB "int" "bool" = some false := by decide +kernel
theorem kl5 : kitB "list" "list" = some true := by decide +kernel
theorem ku6 : kitB "tuple" "tuple" = some true := by decide +kernel
theorem isi_ii (i : Int) (S : Store) : oIsi "int" (.int i) S = .ok (.bl true) S := by simp [oIsi, tyD, kt1]
theorem isi_bi (i : Int) (S : Store) : oIsi "bool" (.int i) S = .ok (.bl false) S := by simp [oIsi, tyD, kb1]
theorem isi_ll (l : List D) (S : Store) : oIsi "list" (.lst l) S = .ok (.bl true) S := by simp [oIsi, tyD, kl5]
theorem isi_tt (l : List D) (S : Store) : oIsi "tuple" (.tup l) S = .ok (.bl true) S := by simp [oIsi, tyD, ku6]
abbrev L (ns : List Int) : D := .lst (ns.map D.int)
theorem is_int_b (i lo hi : Int) (S : Store) : b_is_int [.val (.int i), .val (.int lo), .val (.int hi)] S = .ret (.bl (decide (lo ≤ i) && decide (i ≤ hi))) S := by
  unfold b_is_int
  refine sRet_ok (eAnd_t (eUn_ok (eVar_ok rfl) (isi_ii _ _)) (eAnd_t (eNot_ok (k := false) (eUn_ok (eVar_ok rfl) (isi_bi _ _))) ?_))
  exact eChain_ok (eVar_ok rfl) (eVar_ok rfl) oLe_ii (fun _ => eVar_ok rfl) (fun _ => oLe_ii)
theorem is_int_int (i lo hi : Int) (S : Store) : m_is_int [.int i, .int lo, .int hi] S = .ok (.bl (decide (lo ≤ i) && decide (i ≤ hi))) S := runD_ret rfl (is_int_b i lo hi S)
theorem loopC_pure {c e : D → Store → Out} {S : Store} (p : D → Bool) (f : D → D) : ∀ (ds : List D), (∀ d ∈ ds, c d S = .ok (.bl (p d)) S) → (∀ d ∈ ds, p d = true → e d S = .ok (f d) S) → loopC c e ds S = .ok ((ds.filter p).map f) S
  | [], _, _ => rfl
  | d :: ds, hc, he => by
    have ih := loopC_pure p f ds (fun x hx => hc x (List.mem_cons_of_mem _ hx)) (fun x hx => he x (List.mem_cons_of_mem _ hx))
    have h1 := hc d List.mem_cons_self
    unfold loopC
    rw [h1]
    cases hp : p d with
    | true =>
      simp only []
      rw [he d List.mem_cons_self hp]
      simp only []
      rw [ih]
      simp [List.filter_cons, hp]
    | false =>
      simp only []
      rw [ih]
      simp [List.filter_cons, hp]
theorem eLc_pure {it c e : DE} {t : DG} {ρ : DEnv} {S : Store} {ds : List D} (p : D → Bool) (f : D → D) (hi : it ρ S = .ok (.lst ds) S) (hl : ds.length ≤ 100000) (hc : ∀ d ∈ ds, turnC t c ρ d S = .ok (.bl (p d)) S) (he : ∀ d ∈ ds, p d = true → turnC t e ρ d S = .ok (f d) S) :
    eLc it t c e ρ S = .ok (.lst ((ds.filter p).map f)) S := by
  unfold eLc
  rw [hi]
  simp only [Out.bind]
  rw [if_pos hl, loopC_pure p f ds hc he]
  rfl
theorem turnC_yes {t : DG} {ρ ρ' : DEnv} {d : D} {S : Store} (h : t d ρ = some ρ') : turnC t eYes ρ d S = .ok (.bl true) S := by
  unfold turnC
  rw [h]
  rfl
theorem eLc_map {it e : DE} {t : DG} {ρ : DEnv} {S : Store} {ds : List D} (f : D → D) (hi : it ρ S = .ok (.lst ds) S) (hl : ds.length ≤ 100000) (ht : ∀ d ∈ ds, ∃ ρ', t d ρ = some ρ') (he : ∀ d ∈ ds, turnC t e ρ d S = .ok (f d) S) :
    eLc it t eYes e ρ S = .ok (.lst (ds.map f)) S := by
  have h := eLc_pure (it := it) (t := t) (c := eYes) (e := e) (ρ := ρ) (S := S) (fun _ => true) f hi hl (fun d hd => by
    obtain ⟨ρ', h⟩ := ht d hd
    exact turnC_yes h) (fun d hd _ => he d hd)
  rw [h, List.filter_eq_self.mpr (fun _ _ => rfl)]
/-- over ints, by a name, to anything -/
theorem eLc_ints {it e : DE} {j : Nat} {ρ : DEnv} {S : Store} {ns : List Int} (f : Int → D) (hi : it ρ S = .ok (L ns) S) (hl : ns.length ≤ 100000) (he : ∀ n ∈ ns, e (ρ.set j (.val (.int n))) S = .ok (f n) S) :
    eLc it (tgName j) eYes e ρ S = .ok (.lst (ns.map f)) S := by
  have h := eLc_map (it := it) (t := tgName j) (e := e) (ρ := ρ) (S := S) (ds := ns.map D.int) (fun d => match d with | .int n => f n | _ => .non) hi (by simpa using hl) (fun d hd => ⟨_, rfl⟩) (fun d hd => by
    obtain ⟨n, hn, rfl⟩ := List.mem_map.mp hd
    exact he n hn)
  rw [h, List.map_map]
  rfl
theorem eLc_intsF {it c e : DE} {j : Nat} {ρ : DEnv} {S : Store} {ns : List Int} (p : Int → Bool) (f : Int → D) (hi : it ρ S = .ok (L ns) S) (hl : ns.length ≤ 100000) (hc : ∀ n ∈ ns, c (ρ.set j (.val (.int n))) S = .ok (.bl (p n)) S) (he : ∀ n ∈ ns, p n = true → e (ρ.set j (.val (.int n))) S = .ok (f n) S) :
    eLc it (tgName j) c e ρ S = .ok (.lst ((ns.filter p).map f)) S := by
  have h := eLc_pure (it := it) (t := tgName j) (c := c) (e := e) (ρ := ρ) (S := S) (ds := ns.map D.int) (fun d => match d with | .int n => p n | _ => false) (fun d => match d with | .int n => f n | _ => .non) hi (by simpa using hl) (fun d hd => by
    obtain ⟨n, hn, rfl⟩ := List.mem_map.mp hd
    exact hc n hn) (fun d hd hp => by
    obtain ⟨n, hn, rfl⟩ := List.mem_map.mp hd
    exact he n hn hp)
  rw [h, List.filter_map, List.map_map]
  rfl
/-- the ints of a range -/
def rg (lo : Int) (n : Nat) : List Int := (List.range n).map fun (i : Nat) => lo + (i : Int)
theorem rangeD_rg (lo : Int) (n : Nat) : rangeD lo 1 n = (rg lo n).map D.int := by
  unfold rangeD rg
  rw [List.map_map]
  apply List.map_congr_left
  intro i hi
  simp
theorem rg_len (lo : Int) (n : Nat) : (rg lo n).length = n := by simp [rg]
theorem mem_rg {lo : Int} {n : Nat} {x : Int} : x ∈ rg lo n ↔ lo ≤ x ∧ x < lo + n := by
  unfold rg
  constructor
  · intro h
    obtain ⟨i, hi, rfl⟩ := List.mem_map.mp h
    rw [List.mem_range] at hi
    omega
  · intro h
    refine List.mem_map.mpr ⟨(x - lo).toNat, ?_, ?_⟩
    · rw [List.mem_range]
      omega
    · show lo + ((x - lo).toNat : Int) = x
      omega
theorem rg1 {j : Int} (h : small j = true) (S : Store) : oRng [.int j] S = .ok (L (rg 0 j.toNat)) S := by
  simp [oRng, h, rangeD_rg]
theorem rg2 {i j : Int} (hi : small i = true) (h : small j = true) (S : Store) : oRng [.int i, .int j] S = .ok (L (rg i (j - i).toNat)) S := by
  simp [oRng, hi, h, rangeD_rg]
theorem smallI {i : Int} (h1 : -100000000 < i) (h2 : i < 100000000) : small i = true := by
  simp [small, h1, h2]
theorem eqAll_map {α : Type} [DecidableEq α] (f : α → D) (h : ∀ x y, eqD (f x) (f y) = decide (x = y)) : ∀ (xs ys : List α), eqAll (xs.map f) (ys.map f) = decide (xs = ys)
  | [], [] => by simp [eqAll]
  | [], y :: ys => by simp [eqAll]
  | x :: xs, [] => by simp [eqAll]
  | x :: xs, y :: ys => by
    rw [List.map_cons, List.map_cons, eqAll, h, eqAll_map f h xs ys]
    by_cases h1 : x = y <;> by_cases h2 : xs = ys <;> simp [h1, h2]
theorem eqD_int (x y : Int) : eqD (.int x) (.int y) = decide (x = y) := by
  simp [eqD]
  by_cases h : x = y <;> simp [h]
theorem eqD_L (a b : List Int) : eqD (L a) (L b) = decide (a = b) := by
  show eqD (.lst _) (.lst _) = _
  rw [eqD]
  exact eqAll_map _ eqD_int a b
theorem okD_all {α : Type} {n : Nat} (f : α → D) (h : ∀ x, okD n (f x) = true) (xs : List α) : (xs.map f).all (okD n) = true := by
  rw [List.all_map, List.all_eq_true]
  intro x _
  exact h x
theorem okD_int (n : Nat) (i : Int) : okD n (.int i) = true := by cases n <;> rfl
theorem okD_L (n : Nat) (a : List Int) : okD (n + 1) (L a) = true := by
  show (a.map D.int).all (okD n) = true
  exact okD_all _ (okD_int n) a
theorem oEq_of {d e : D} {S : Store} (h1 : okD 6 d = true) (h2 : okD 6 e = true) : oEq d e S = .ok (.bl (eqD d e)) S := by simp [oEq, h1, h2]
theorem oNe_of {d e : D} {S : Store} (h1 : okD 6 d = true) (h2 : okD 6 e = true) : oNe d e S = .ok (.bl (!eqD d e)) S := by simp [oNe, h1, h2]
theorem oEq_int (i j : Int) (S : Store) : oEq (.int i) (.int j) S = .ok (.bl (decide (i = j))) S := by rw [oEq_of rfl rfl, eqD_int]
theorem oNe_int (i j : Int) (S : Store) : oNe (.int i) (.int j) S = .ok (.bl (!decide (i = j))) S := by rw [oNe_of rfl rfl, eqD_int]
theorem oEq_L (a b : List Int) (S : Store) : oEq (L a) (L b) S = .ok (.bl (decide (a = b))) S := by rw [oEq_of (okD_L 5 a) (okD_L 5 b), eqD_L]
theorem oNe_L (a b : List Int) (S : Store) : oNe (L a) (L b) S = .ok (.bl (!decide (a = b))) S := by rw [oNe_of (okD_L 5 a) (okD_L 5 b), eqD_L]
abbrev fr (q : Rat) : D := .tup [.int q.num, .int (q.den : Int)]
theorem eqD_fr (p q : Rat) : eqD (fr p) (fr q) = decide (p = q) := by
  show eqD (.tup _) (.tup _) = _
  simp only [eqD, eqAll]
  by_cases h : p = q
  · subst h
    simp
  · rw [decide_eq_false h]
    by_cases h1 : p.num = q.num
    · by_cases h2 : p.den = q.den
      · exact absurd (Rat.ext h1 h2) h
      · have : ¬ ((p.den : Int) = (q.den : Int)) := by omega
        simp [this]
    · simp [h1]
theorem okD_fr (n : Nat) (p : Rat) : okD (n + 1) (fr p) = true := by
  show [D.int p.num, D.int (p.den : Int)].all (okD n) = true
  simp [okD_int]
theorem oEq_fr (p q : Rat) (S : Store) : oEq (fr p) (fr q) S = .ok (.bl (decide (p = q))) S := by rw [oEq_of (okD_fr 5 p) (okD_fr 5 q), eqD_fr]
theorem oNe_fr (p q : Rat) (S : Store) : oNe (fr p) (fr q) S = .ok (.bl (!decide (p = q))) S := by rw [oNe_of (okD_fr 5 p) (okD_fr 5 q), eqD_fr]
abbrev FL (qs : List Rat) : D := .lst (qs.map fr)
end DL
set_option Elab.async false
set_option linter.all false
set_option maxRecDepth 100000
set_option maxHeartbeats 1000000
namespace DL
open PySem L2
theorem gcd_step (a b : Nat) : Nat.gcd b (a % b) = Nat.gcd a b := by rw [Nat.gcd_comm b (a % b), ← Nat.gcd_rec, Nat.gcd_comm]
theorem mod_half {b r k : Nat} (h0 : 0 < r) (h1 : r < b) (h2 : b < 2 ^ (k + 1)) : b % r < 2 ^ k := by
  have h3 : b = r * (b / r) + b % r := (Nat.div_add_mod b r).symm
  have h4 : 1 ≤ b / r := Nat.div_pos (Nat.le_of_lt h1) h0
  have h5 : b % r < r := Nat.mod_lt _ h0
  have h6 : r * 1 ≤ r * (b / r) := Nat.mul_le_mul_left r h4
  rw [Nat.pow_succ] at h2
  omega
abbrev gcC (j : Nat) : DE := eBin oNe (eVar j) (eC (.int 0))
abbrev gcB (i j : Nat) : DS := sPar i j (aCons (eVar j) (aCons (eBin oMod (eVar i) (eVar j)) aNil))
theorem gc_stop {i j : Nat} {ρ : DEnv} {S : Store} (n : Nat) (hj : ρ[j]? = some (.val (.int 0))) : loopW (gcC j) (gcB i j) (n + 1) ρ S = .nx ρ S := loopW_end (eBin_ok (eVar_ok hj) eC_ok (oNe_int 0 0 S))
theorem gc_step {i j : Nat} {ρ : DEnv} {S : Store} {RS : OutS} {n a b : Nat} (hb : 0 < b) (hi : ρ[i]? = some (.val (.int (a : Int)))) (hj : ρ[j]? = some (.val (.int (b : Int)))) (h : loopW (gcC j) (gcB i j) n ((ρ.set i (.val (.int (b : Int)))).set j (.val (.int ((a % b : Nat) : Int)))) S = RS) : loopW (gcC j) (gcB i j) (n + 1) ρ S = RS := by
  have hb' : (0 : Int) < (b : Int) := by omega
  have hne : ¬ ((b : Int) = 0) := by omega
  refine loopW_go (S1 := S) (S2 := S) ?_ (sPar_ok (x := .int (b : Int)) (y := .int ((a % b : Nat) : Int)) (aCons_ok (eVar_ok hj) (aCons_ok (eBin_ok (eVar_ok hi) (eVar_ok hj) ?_) aNil_ok))) h
  · refine eBin_ok (eVar_ok hj) eC_ok ?_
    rw [oNe_int, decide_eq_false hne]
    rfl
  · rw [oMod_ii hb']
    simp
theorem gcd_loop {i j : Nat} (hij : i ≠ j) (S : Store) : ∀ (k a b : Nat) (ρ : DEnv), b < 2 ^ k → ρ[i]? = some (.val (.int (a : Int))) → ρ[j]? = some (.val (.int (b : Int))) →
    loopW (gcC j) (gcB i j) (2 * k + 1) ρ S = .nx ((ρ.set i (.val (.int ((Nat.gcd a b : Nat) : Int)))).set j (.val (.int 0))) S
  | 0, a, b, ρ, h, hi, hj => by
    obtain rfl : b = 0 := by simpa using h
    rw [gc_stop 0 hj, Nat.gcd_zero_right, set_same hi]
    exact congrArg (fun z => OutS.nx z S) (set_same hj).symm
  | k + 1, a, b, ρ, h, hi, hj => by
    have e : 2 * (k + 1) + 1 = (2 * k + 1) + 1 + 1 := by omega
    rw [e]
    have li : i < ρ.length := (List.getElem?_eq_some_iff.mp hi).1
    have lj : j < ρ.length := (List.getElem?_eq_some_iff.mp hj).1
    have g1 : ∀ (x y : Slot), ((ρ.set i x).set j y)[i]? = some x := fun x y => by rw [List.getElem?_set_ne hij.symm, List.getElem?_set_self li]
    have g2 : ∀ (x y : Slot), ((ρ.set i x).set j y)[j]? = some y := fun x y => by rw [List.getElem?_set_self (by rw [List.length_set]; exact lj)]
    have g3 : ∀ (x y z w : Slot), ((((ρ.set i x).set j y).set i z).set j w) = (ρ.set i z).set j w := fun x y z w => by rw [List.set_comm _ _ hij.symm, List.set_set, List.set_set]
    by_cases hb : b = 0
    · subst hb
      rw [gc_stop _ hj, Nat.gcd_zero_right, set_same hi]
      exact congrArg (fun z => OutS.nx z S) (set_same hj).symm
    · have hb' := Nat.pos_of_ne_zero hb
      refine gc_step hb' hi hj ?_
      by_cases hr : a % b = 0
      · rw [gc_stop _ (by rw [g2, hr]; rfl), ← gcd_step a b, hr, Nat.gcd_zero_right]
        rfl
      · have hr' := Nat.pos_of_ne_zero hr
        refine gc_step hr' (g1 _ _) (g2 _ _) ?_
        rw [g3, gcd_loop hij S k (a % b) (b % (a % b)) _ (mod_half hr' (Nat.mod_lt _ hb') h) (g1 _ _) (g2 _ _), g3, gcd_step, gcd_step]
where
  set_same {ρ : DEnv} {i : Nat} {x : Slot} (h : ρ[i]? = some x) : ρ.set i x = ρ := by
    obtain ⟨hl, e⟩ := List.getElem?_eq_some_iff.mp h
    rw [← e]
    exact List.set_getElem_self hl
theorem abs_nat (a : Int) : (if a < 0 then -a else a) = ((a.natAbs : Nat) : Int) := by split <;> omega
theorem oAbs_n (a : Int) (S : Store) : oAbs [.int a] S = .ok (.int ((a.natAbs : Nat) : Int)) S := by rw [oAbs_i, abs_nat]
theorem common_b (a b : Int) (S : Store) (h : b.natAbs ≤ 1073741824) : b_common [.val (.int a), .val (.int b)] S = .ret (.int (Int.gcd a b : Nat)) S := by
  unfold b_common
  refine sSeq_ok (sPar_ok (aCons_ok (eCall_ok (aCons_ok (eVar_ok rfl) aNil_ok) (oAbs_n a S)) (aCons_ok (eCall_ok (aCons_ok (eVar_ok rfl) aNil_ok) (oAbs_n b S)) aNil_ok))) ?_
  refine sSeq_ok (gcd_loop (i := 0) (j := 1) (by decide) S 31 a.natAbs b.natAbs _ (by omega) rfl rfl) ?_
  exact sRet_ok (eVar_ok rfl)
theorem common_is (a b : Int) (S : Store) (h : b.natAbs ≤ 1073741824) : m_common [.int a, .int b] S = .ok (.int (Int.gcd a b : Nat)) S := runD_ret rfl (common_b a b S h)
structure Sm (q : Rat) : Prop where
  den : q.den ≤ 16384
  num : q.num.natAbs < 4611686018427387904
theorem den_pos (q : Rat) : 0 < q.den := Nat.pos_of_ne_zero q.den_nz
theorem gcd_le {t b : Int} (hb : 0 < b) : 0 < (Int.gcd t b : Int) ∧ (Int.gcd t b : Int) ≤ b := by
  have h1 : 0 < Int.gcd t b := Int.gcd_pos_of_ne_zero_right t (by omega)
  have h2 : ((Int.gcd t b : Nat) : Int) ≤ b := Int.le_of_dvd hb (Int.gcd_dvd_right t b)
  omega
/-- t / b in lowest terms -/
theorem mk_num {t b : Int} (hb : 0 < b) : ((t : Rat) / (b : Rat)).num = t / (Int.gcd t b : Nat) ∧ (((t : Rat) / (b : Rat)).den : Int) = b / (Int.gcd t b : Nat) := by
  obtain ⟨n, rfl⟩ : ∃ n : Nat, b = (n : Int) := ⟨b.toNat, by omega⟩
  have hn : n ≠ 0 := by omega
  have e : (t : Rat) / (((n : Nat) : Int) : Rat) = Rat.normalize t n hn := by
    rw [← Rat.divInt_eq_div, Rat.divInt_ofNat, Rat.mkRat_def, dif_neg hn]
  rw [e, Rat.normalize_eq]
  exact ⟨rfl, by simp [Int.gcd]⟩
theorem lowest_b (t b : Int) (S : Store) (hb : 0 < b) (h : b < 1073741824) : b_lowest [.val (.int t), .val (.int b), .emp] S = .ret (.tup [.int (t / (Int.gcd t b : Nat)), .int (b / (Int.gcd t b : Nat))]) S := by
  obtain ⟨g1, g2⟩ := gcd_le (t := t) hb
  unfold b_lowest
  refine sSeq_ok (sAsg_ok (eCall_ok (aCons_ok (eVar_ok rfl) (aCons_ok (eVar_ok rfl) aNil_ok)) (common_is t b S (by omega))) rfl) ?_
  exact sRet_ok (eTup_ok (aCons_ok (eBin_ok (eVar_ok rfl) (eVar_ok rfl) (oFdiv_ii g1 (by omega))) (aCons_ok (eBin_ok (eVar_ok rfl) (eVar_ok rfl) (oFdiv_ii g1 (by omega))) aNil_ok)))
theorem lowest_is (t b : Int) (S : Store) (hb : 0 < b) (h : b < 1073741824) : m_lowest [.int t, .int b] S = .ok (fr ((t : Rat) / (b : Rat))) S := by
  obtain ⟨m1, m2⟩ := mk_num (t := t) hb
  have e : m_lowest [.int t, .int b] S = _ := runD_ret rfl (lowest_b t b S hb h)
  rw [e, ← m1, ← m2]
theorem law_low_b (t b : Int) (S : Store) (hb : 0 < b) (h : b < 1073741824) : b_law_low [.val (.int t), .val (.int b), .emp, .emp] S = .ret (.tup [.int (t / (Int.gcd t b : Nat)), .int (b / (Int.gcd t b : Nat))]) S := by
  obtain ⟨g1, g2⟩ := gcd_le (t := t) hb
  have g3 : ((Nat.gcd t.natAbs b.natAbs : Nat) : Int) < 1073741824 := by
    have : Nat.gcd t.natAbs b.natAbs = Int.gcd t b := rfl
    omega
  have eb : b = ((b.natAbs : Nat) : Int) := by omega
  unfold b_law_low
  refine sSeq_ok (sPar_ok (aCons_ok (eCall_ok (aCons_ok (eVar_ok rfl) aNil_ok) (oAbs_n t S)) (aCons_ok (eVar_ok rfl) aNil_ok))) ?_
  refine sSeq_ok (gcd_loop (i := 2) (j := 3) (by decide) S 31 t.natAbs b.natAbs _ (by omega) rfl (by rw [← eb]; rfl)) ?_
  exact sRet_ok (eTup_ok (aCons_ok (eBin_ok (eVar_ok rfl) (eVar_ok rfl) (oFdiv_ii g1 g3)) (aCons_ok (eBin_ok (eVar_ok rfl) (eVar_ok rfl) (oFdiv_ii g1 g3)) aNil_ok)))
theorem law_low_is (t b : Int) (S : Store) (hb : 0 < b) (h : b < 1073741824) : m_law_low [.int t, .int b] S = .ok (fr ((t : Rat) / (b : Rat))) S := by
  obtain ⟨m1, m2⟩ := mk_num (t := t) hb
  have e : m_law_low [.int t, .int b] S = _ := runD_ret rfl (law_low_b t b S hb h)
  rw [e, ← m1, ← m2]
theorem Sm.big1 {q : Rat} (h : Sm q) : big q.num = true := bigI (by have := h.num; omega)
theorem Sm.big2 {q : Rat} (h : Sm q) : big (q.den : Int) = true := bigI (by have := h.den; omega)
theorem ix_fr0 (q : Rat) (S : Store) : oIx (fr q) (.int 0) S = .ok (.int q.num) S := rfl
theorem ix_fr1 (q : Rat) (S : Store) : oIx (fr q) (.int 1) S = .ok (.int (q.den : Int)) S := rfl
theorem add_rat (p q : Rat) : ((p.num * (q.den : Int) + q.num * (p.den : Int) : Int) : Rat) / (((p.den : Int) * (q.den : Int) : Int) : Rat) = p + q := by
  rw [← Rat.divInt_eq_div, show ((p.den : Int) * (q.den : Int)) = ((p.den * q.den : Nat) : Int) by simp, Rat.divInt_ofNat, ← Rat.add_def']
theorem mul_den {p q : Rat} (hp : Sm p) (hq : Sm q) : 0 < (p.den : Int) * (q.den : Int) ∧ (p.den : Int) * (q.den : Int) < 1073741824 := by
  have h1 := den_pos p
  have h2 := den_pos q
  have h3 := hp.den
  have h4 := hq.den
  have h5 : p.den * q.den ≤ 16384 * 16384 := Nat.mul_le_mul h3 h4
  have h6 : 0 < p.den * q.den := Nat.mul_pos h1 h2
  constructor
  · have : (0 : Int) < ((p.den * q.den : Nat) : Int) := by omega
    simpa using this
  · have : ((p.den * q.den : Nat) : Int) < 1073741824 := by omega
    simpa using this
theorem plus_b {p q : Rat} (hp : Sm p) (hq : Sm q) (S : Store) : b_plus [.val (fr p), .val (fr q)] S = .ret (fr (p + q)) S := by
  obtain ⟨d1, d2⟩ := mul_den hp hq
  unfold b_plus
  refine sRet_ok (eCall_ok (aCons_ok (eBin_ok (eBin_ok (eBin_ok (eVar_ok rfl) eC_ok (ix_fr0 p S)) (eBin_ok (eVar_ok rfl) eC_ok (ix_fr1 q S)) (oMul_l hp.big1)) (eBin_ok (eBin_ok (eVar_ok rfl) eC_ok (ix_fr0 q S)) (eBin_ok (eVar_ok rfl) eC_ok (ix_fr1 p S)) (oMul_l hq.big1)) oAdd_ii) (aCons_ok (eBin_ok (eBin_ok (eVar_ok rfl) eC_ok (ix_fr1 p S)) (eBin_ok (eVar_ok rfl) eC_ok (ix_fr1 q S)) (oMul_l hp.big2)) aNil_ok)) ?_)
  rw [lowest_is _ _ S d1 d2, add_rat]
theorem plus_is {p q : Rat} (hp : Sm p) (hq : Sm q) (S : Store) : m_plus [fr p, fr q] S = .ok (fr (p + q)) S := runD_ret rfl (plus_b hp hq S)
theorem law_add_b {p q : Rat} (hp : Sm p) (hq : Sm q) (S : Store) : b_law_add [.val (fr p), .val (fr q)] S = .ret (fr (p + q)) S := by
  obtain ⟨d1, d2⟩ := mul_den hp hq
  unfold b_law_add
  refine sRet_ok (eCall_ok (aCons_ok (eBin_ok (eBin_ok (eBin_ok (eVar_ok rfl) eC_ok (ix_fr0 p S)) (eBin_ok (eVar_ok rfl) eC_ok (ix_fr1 q S)) (oMul_l hp.big1)) (eBin_ok (eBin_ok (eVar_ok rfl) eC_ok (ix_fr0 q S)) (eBin_ok (eVar_ok rfl) eC_ok (ix_fr1 p S)) (oMul_l hq.big1)) oAdd_ii) (aCons_ok (eBin_ok (eBin_ok (eVar_ok rfl) eC_ok (ix_fr1 p S)) (eBin_ok (eVar_ok rfl) eC_ok (ix_fr1 q S)) (oMul_l hp.big2)) aNil_ok)) ?_)
  rw [law_low_is _ _ S d1 d2, add_rat]
theorem law_add_is {p q : Rat} (hp : Sm p) (hq : Sm q) (S : Store) : m_law_add [fr p, fr q] S = .ok (fr (p + q)) S := runD_ret rfl (law_add_b hp hq S)
theorem less_b {p q : Rat} (hp : Sm p) (hq : Sm q) (S : Store) : b_less [.val (fr p), .val (fr q)] S = .ret (.bl (decide (p < q))) S := by
  unfold b_less
  rw [decide_eq_decide.mpr (Rat.lt_iff p q)]
  exact sRet_ok (eBin_ok (eBin_ok (eBin_ok (eVar_ok rfl) eC_ok (ix_fr0 p S)) (eBin_ok (eVar_ok rfl) eC_ok (ix_fr1 q S)) (oMul_l hp.big1)) (eBin_ok (eBin_ok (eVar_ok rfl) eC_ok (ix_fr0 q S)) (eBin_ok (eVar_ok rfl) eC_ok (ix_fr1 p S)) (oMul_l hq.big1)) oLt_ii)
theorem less_is {p q : Rat} (hp : Sm p) (hq : Sm q) (S : Store) : m_less [fr p, fr q] S = .ok (.bl (decide (p < q))) S := runD_ret rfl (less_b hp hq S)
theorem law_below_b {p q : Rat} (hp : Sm p) (hq : Sm q) (S : Store) : b_law_below [.val (fr p), .val (fr q)] S = .ret (.bl (decide (p < q))) S := by
  unfold b_law_below
  rw [decide_eq_decide.mpr (Rat.lt_iff p q)]
  exact sRet_ok (eBin_ok (eBin_ok (eBin_ok (eVar_ok rfl) eC_ok (ix_fr0 p S)) (eBin_ok (eVar_ok rfl) eC_ok (ix_fr1 q S)) (oMul_l hp.big1)) (eBin_ok (eBin_ok (eVar_ok rfl) eC_ok (ix_fr0 q S)) (eBin_ok (eVar_ok rfl) eC_ok (ix_fr1 p S)) (oMul_l hq.big1)) oLt_ii)
theorem law_below_is {p q : Rat} (hp : Sm p) (hq : Sm q) (S : Store) : m_law_below [fr p, fr q] S = .ok (.bl (decide (p < q))) S := runD_ret rfl (law_below_b hp hq S)
/-- q is n / 2 ^ k with |n| ≤ B -/
def Dy (k : Nat) (B : Nat) (q : Rat) : Prop := ∃ n : Int, n.natAbs ≤ B ∧ q = (n : Rat) / ((2 ^ k : Nat) : Rat)
theorem pow_ne (k : Nat) : ((2 ^ k : Nat) : Rat) ≠ 0 := by
  have h : (2 ^ k : Nat) ≠ 0 := Nat.pos_iff_ne_zero.mp (Nat.two_pow_pos k)
  intro z
  exact h (by exact_mod_cast z)
theorem Dy.sm {k B : Nat} {q : Rat} (h : Dy k B q) (hk : k ≤ 14) (hB : B < 4611686018427387904) : Sm q := by
  obtain ⟨n, hn, rfl⟩ := h
  have hb : (0 : Int) < ((2 ^ k : Nat) : Int) := by
    have := Nat.two_pow_pos k
    omega
  have e : ((2 ^ k : Nat) : Rat) = (((2 ^ k : Nat) : Int) : Rat) := by simp
  rw [e]
  obtain ⟨m1, m2⟩ := mk_num (t := n) hb
  obtain ⟨g1, g2⟩ := gcd_le (t := n) hb
  have hk2 : (2 ^ k : Nat) ≤ 16384 := by
    have := Nat.pow_le_pow_right (n := 2) (by decide) hk
    omega
  constructor
  · have h1 : ((2 ^ k : Nat) : Int) / (Int.gcd n ((2 ^ k : Nat) : Int) : Nat) ≤ ((2 ^ k : Nat) : Int) := Int.ediv_le_self _ (Int.le_of_lt hb)
    omega
  · rw [m1]
    have h1 : (n / ((Int.gcd n ((2 ^ k : Nat) : Int) : Nat) : Int)).natAbs ≤ n.natAbs := by exact Int.natAbs_ediv_le_natAbs _ _
    omega
theorem Dy.add {k B C : Nat} {p q : Rat} (h : Dy k B p) (h' : Dy k C q) : Dy k (B + C) (p + q) := by
  obtain ⟨n, hn, rfl⟩ := h
  obtain ⟨m, hm, rfl⟩ := h'
  refine ⟨n + m, by omega, ?_⟩
  have := pow_ne k
  grind
theorem Dy.mono {k B C : Nat} {p : Rat} (h : Dy k B p) (hl : B ≤ C) : Dy k C p := by
  obtain ⟨n, hn, rfl⟩ := h
  exact ⟨n, by omega, rfl⟩
theorem Dy.int (k : Nat) (i : Int) : Dy k (i.natAbs * 2 ^ k) (i : Rat) := by
  refine ⟨i * (2 ^ k : Nat), ?_, ?_⟩
  · rw [Int.natAbs_mul]
    exact Nat.le_refl _
  · have h1 := pow_ne k
    have e : ((i * ((2 ^ k : Nat) : Int) : Int) : Rat) = (i : Rat) * ((2 ^ k : Nat) : Rat) := by simp
    rw [e]
    grind
end DL
set_option Elab.async false
set_option linter.all false
set_option maxRecDepth 100000
set_option maxHeartbeats 1000000
namespace DL
open PySem L2
section
variable {ρ : DEnv} {S S1 S2 S3 : Store}
theorem sSetB_ok {fo fi f : DE} {d : D} {n j : Nat} {m : Int} {xs : List D} (h : f ρ S = .ok d S1) (ho : fo ρ S1 = .ok (.obj n) S2) (hi : fi ρ S2 = .ok (.int m) S3) (hS : S3[n]? = some (.lst xs)) (hj : ixN xs.length m = some j) :
    sSetB fo fi f ρ S = .nx ρ (S3.set n (.lst (xs.set j d))) := by
  unfold sSetB
  rw [h]
  simp only [Out.bindS]
  rw [ho]
  simp only []
  rw [hi]
  simp only []
  rw [hS]
  simp only []
  rw [hj]
theorem eObj_ok {f : DE} {ds : List D} (h : f ρ S = .ok (.lst ds) S1) : eObj f ρ S = .ok (.obj S1.length) (S1 ++ [.lst ds]) := by
  unfold eObj
  rw [h]
end
def Dr (nums : List Int) (c : Int) (R : Store) : Store := .lst (nums.map D.int) :: .lst [.obj 0, .int c] :: R
def IsDr (R S : Store) : Prop := ∃ nums c, nums ≠ [] ∧ S = Dr nums c R
theorem start_b (ns : List Int) : ∃ nums, nums ≠ [] ∧ b_law_start [.val (.fls (ns.map D.int))] [] = .ret (.obj 1) (Dr nums 0 []) := by
  have key : ∀ nums : List Int, (eIf (eBin oNe (eVar 0) (eLst aNil)) (eCall oList (aCons (eVar 0) aNil)) (eLst (aCons (eC (.int 0)) aNil))) [.val (.fls (ns.map D.int))] [] = .ok (.lst (nums.map D.int)) [] →
      b_law_start [.val (.fls (ns.map D.int))] [] = .ret (.obj 1) (Dr nums 0 []) := fun nums h =>
    sRet_ok (eObj_ok (eLst_ok (aCons_ok (eObj_ok h) (aCons_ok eC_ok aNil_ok))))
  have hne : oNe (.fls (ns.map D.int)) (.lst []) [] = .ok (.bl (!decide (ns = []))) [] := by
    have h1 : okD 6 (.fls (ns.map D.int)) = true := okD_all _ (okD_int 5) ns
    rw [oNe_of h1 rfl]
    cases ns with
    | nil => rfl
    | cons n ns => rfl
  by_cases hn : ns = []
  · refine ⟨[0], by simp, key [0] (eIf_f (S1 := []) (eBin_ok (eVar_ok rfl) (eLst_ok aNil_ok) ?_) (eLst_ok (aCons_ok eC_ok aNil_ok)))⟩
    rw [hne, decide_eq_true hn]
    rfl
  · refine ⟨ns, hn, key ns (eIf_t (S1 := []) (eBin_ok (eVar_ok rfl) (eLst_ok aNil_ok) ?_) (eCall_ok (aCons_ok (eVar_ok rfl) aNil_ok) rfl))⟩
    rw [hne, decide_eq_false hn]
    rfl
theorem start_is (ns : List Int) : ∃ S, m_law_start [.fls (ns.map D.int)] [] = .ok (.obj 1) S ∧ IsDr [] S := by
  obtain ⟨nums, h1, h2⟩ := start_b ns
  exact ⟨_, runD_ret rfl h2, nums, 0, h1, rfl⟩
theorem ixN_of {n : Nat} {i : Int} (h0 : 0 ≤ i) (h1 : i < n) : ixN n i = some i.toNat := by
  unfold ixN
  rw [if_pos h0, if_pos h1]
theorem atI_of {α : Type} {xs : List α} {i : Int} {y : α} (h0 : 0 ≤ i) (h1 : xs[i.toNat]? = some y) : atI xs i = some y := by
  unfold atI
  rw [ixN_of h0 (by have := (List.getElem?_eq_some_iff.mp h1).1; omega)]
  exact h1
theorem oIx_L {ns : List Int} {i : Int} {y : Int} {S : Store} (h0 : 0 ≤ i) (h1 : ns[i.toNat]? = some y) : oIx (L ns) (.int i) S = .ok (.int y) S := by
  have h : atI (ns.map D.int) i = some (.int y) := atI_of h0 (by rw [List.getElem?_map, h1]; rfl)
  show (match viewL S (L ns) with
      | some xs => match atI xs i with
        | some y => Out.ok y S
        | none => .bad
      | none => .bad) = _
  show (match atI (ns.map D.int) i with
        | some y => Out.ok y S
        | none => .bad) = _
  rw [h]
theorem dr_ix0 (nums : List Int) (c : Int) (R : Store) : oIx (.obj 1) (.int 0) (Dr nums c R) = .ok (.obj 0) (Dr nums c R) := rfl
theorem dr_ix1 (nums : List Int) (c : Int) (R : Store) : oIx (.obj 1) (.int 1) (Dr nums c R) = .ok (.int c) (Dr nums c R) := rfl
theorem dr_len (nums : List Int) (c : Int) (R : Store) : oLen [.obj 0] (Dr nums c R) = .ok (.int (nums.length : Int)) (Dr nums c R) := by
  show Out.ok (.int ((nums.map D.int).length : Int)) _ = _
  rw [List.length_map]
theorem dr_at (nums : List Int) (c : Int) (R : Store) {i y : Int} (h0 : 0 ≤ i) (h1 : nums[i.toNat]? = some y) : oIx (.obj 0) (.int i) (Dr nums c R) = .ok (.int y) (Dr nums c R) := by
  have h : atI (nums.map D.int) i = some (.int y) := atI_of h0 (by rw [List.getElem?_map, h1]; rfl)
  show (match atI (nums.map D.int) i with
        | some y => Out.ok y (Dr nums c R)
        | none => .bad) = _
  rw [h]
theorem mod_bounds (x : Int) {m : Int} (h : 0 < m) : 0 ≤ x % m ∧ x % m < m := ⟨Int.emod_nonneg x (by omega), Int.emod_lt_of_pos x h⟩
theorem oPow_ii {i j : Int} {S : Store} (h1 : 0 ≤ j) (h2 : j ≤ 1000) (h : big i = true) : oPow (.int i) (.int j) S = .ok (.int (i ^ j.toNat)) S := by
  unfold oPow
  simp only []
  rw [if_pos (by rw [decide_eq_true h1, decide_eq_true h2, h]; rfl)]
theorem draw_b {nums : List Int} (hn : nums ≠ []) (c : Int) (R : Store) {lim : Int} (hl : 0 < lim) (hl2 : lim < 1073741824) :
    ∃ v nums', nums' ≠ [] ∧ 0 ≤ v ∧ v < lim ∧ b_law_draw [.val (.obj 1), .val (.int lim), .emp, .emp, .emp, .emp] (Dr nums c R) = .ret (.int v) (Dr nums' (c + 1) R) := by
  have hlen : (0 : Int) < (nums.length : Int) := by
    have := List.length_pos_iff.mpr hn
    omega
  obtain ⟨a0, a1⟩ := mod_bounds (c + 1) hlen
  have hat : ((c + 1) % (nums.length : Int)).toNat < nums.length := by omega
  have hcell : nums[((c + 1) % (nums.length : Int)).toNat]? = some nums[((c + 1) % (nums.length : Int)).toNat] := by simp [hat]
  generalize hC : nums[((c + 1) % (nums.length : Int)).toNat] = cell at hcell
  generalize hA : (c + 1) % (nums.length : Int) = at' at *
  -- the first four rows
  have pre : ∀ {rest : DS} {RS : OutS}, rest [.val (.obj 1), .val (.int lim), .val (.obj 0), .val (.int at'), .val (.int cell), .emp] (Dr nums (c + 1) R) = RS →
      (sSeq (sAsg (eBin oIx (eVar 0) (eC (.int 0))) (tgName 2)) (sSeq (sSetB (eVar 0) (eC (.int 1)) (eBin oAdd (eBin oIx (eVar 0) (eC (.int 1))) (eC (.int 1))))
        (sSeq (sAsg (eBin oMod (eBin oIx (eVar 0) (eC (.int 1))) (eCall oLen (aCons (eVar 2) aNil))) (tgName 3)) (sSeq (sAsg (eBin oIx (eVar 2) (eVar 3)) (tgName 4)) rest)))) [.val (.obj 1), .val (.int lim), .emp, .emp, .emp, .emp] (Dr nums c R) = RS := by
    intro rest RS h
    refine sSeq_ok (sAsg_ok (eBin_ok (eVar_ok rfl) eC_ok (dr_ix0 nums c R)) rfl) ?_
    refine sSeq_ok (sSetB_ok (j := 1) (eBin_ok (eBin_ok (eVar_ok rfl) eC_ok (dr_ix1 nums c R)) eC_ok oAdd_ii) (eVar_ok rfl) eC_ok rfl rfl) ?_
    refine sSeq_ok (S1 := Dr nums (c + 1) R) (sAsg_ok (eBin_ok (eBin_ok (eVar_ok rfl) eC_ok (dr_ix1 nums (c + 1) R)) (eCall_ok (aCons_ok (eVar_ok rfl) aNil_ok) (dr_len nums (c + 1) R)) (oMod_ii hlen)) rfl) ?_
    rw [hA]
    exact sSeq_ok (sAsg_ok (eBin_ok (eVar_ok rfl) (eVar_ok rfl) (dr_at nums (c + 1) R a0 hcell)) rfl) h
  unfold b_law_draw
  by_cases hbig : (1000000000000000000 : Int) ≤ cell
  · obtain ⟨v0, v1⟩ := mod_bounds cell hl
    refine ⟨cell % lim, nums.set at'.toNat (cell / lim), by simpa using hn, v0, v1, pre (sSeq_ret (sIf_t (S1 := Dr nums (c + 1) R) (eBin_ok (eVar_ok rfl) eC_ok (by rw [oGe_ii, decide_eq_true hbig])) ?_))⟩
    have hj : ixN (nums.map D.int).length at' = some at'.toNat := ixN_of a0 (by rw [List.length_map]; exact a1)
    refine sSeq_ok (sSetB_ok (n := 0) (eBin_ok (eVar_ok rfl) (eVar_ok rfl) (oFdiv_ii hl hl2)) (eVar_ok rfl) (eVar_ok rfl) rfl hj) ?_
    have e : (Dr nums (c + 1) R).set 0 (.lst ((nums.map D.int).set at'.toNat (.int (cell / lim)))) = Dr (nums.set at'.toNat (cell / lim)) (c + 1) R := by
      unfold Dr
      rw [List.set_cons_zero, List.map_set]
    rw [e]
    exact sRet_ok (eBin_ok (eVar_ok rfl) (eVar_ok rfl) (oMod_ii hl))
  · have m1 := mod_bounds (cell + 104729 * (c + 1)) (m := 4294967291) (by decide)
    have m2 := mod_bounds ((((cell + 104729 * (c + 1)) % 4294967291)) ^ 5) (m := 4294967279) (by decide)
    generalize hx : (cell + 104729 * (c + 1)) % 4294967291 = x at *
    generalize hy : x ^ 5 % 4294967279 = y at *
    obtain ⟨v0, v1⟩ := mod_bounds ((y / 64 * 69621 + y) % 4294967231 / 8) hl
    refine ⟨_, nums, hn, v0, v1, pre (sSeq_ok (sIf_f (S1 := Dr nums (c + 1) R) (eBin_ok (eVar_ok rfl) eC_ok (by rw [oGe_ii, decide_eq_false hbig])) sSkip_ok) ?_)⟩
    refine sSeq_ok (S1 := Dr nums (c + 1) R) (sAsg_ok (eBin_ok (eBin_ok (eVar_ok rfl) (eBin_ok eC_ok (eBin_ok (eVar_ok rfl) eC_ok (dr_ix1 nums (c + 1) R)) (oMul_l (bigI (by decide)))) oAdd_ii) eC_ok (oMod_ii (by decide))) rfl) ?_
    rw [hx]
    refine sSeq_ok (S1 := Dr nums (c + 1) R) (sAsg_ok (eBin_ok (eBin_ok (eVar_ok rfl) eC_ok (oPow_ii (by decide) (by decide) (bigI (by omega)))) eC_ok (oMod_ii (by decide))) rfl) ?_
    show sRet _ [.val (.obj 1), .val (.int lim), .val (.obj 0), .val (.int at'), .val (.int cell), .val (.int (x ^ 5 % 4294967279))] _ = _
    rw [hy]
    exact sRet_ok (eBin_ok (eBin_ok (eBin_ok (eBin_ok (eBin_ok (eBin_ok (eVar_ok rfl) eC_ok (oFdiv_ii (by decide) (by decide))) eC_ok (oMul_r (bigI (by decide)))) (eVar_ok rfl) oAdd_ii) eC_ok (oMod_ii (by decide))) eC_ok (oFdiv_ii (by decide) (by decide))) (eVar_ok rfl) (oMod_ii hl))
theorem draw_is {R S : Store} (h : IsDr R S) {lim : Int} (hl : 0 < lim) (hl2 : lim < 1073741824) : ∃ v S', m_law_draw [.obj 1, .int lim] S = .ok (.int v) S' ∧ 0 ≤ v ∧ v < lim ∧ IsDr R S' := by
  obtain ⟨nums, c, hn, rfl⟩ := h
  obtain ⟨v, nums', h1, h2, h3, h4⟩ := draw_b hn c R hl hl2
  exact ⟨v, _, runD_ret rfl h4, h2, h3, nums', c + 1, h1, rfl⟩
theorem pick_is {R S : Store} (h : IsDr R S) {ns : List Int} (hn : ns ≠ []) (hl : ns.length < 1000000) : ∃ v S', m_law_pick [.obj 1, L ns] S = .ok (.int v) S' ∧ v ∈ ns ∧ IsDr R S' := by
  have hp := List.length_pos_iff.mpr hn
  obtain ⟨i, S', h1, h2, h3, h4⟩ := draw_is h (lim := (ns.length : Int)) (by omega) (by omega)
  have hi : i.toNat < ns.length := by omega
  have hx : ns[i.toNat]? = some ns[i.toNat] := by simp [hi]
  refine ⟨ns[i.toNat], S', runD_ret rfl ?_, List.getElem_mem hi, h4⟩
  show b_law_pick [.val (.obj 1), .val (L ns)] S = _
  unfold b_law_pick
  refine sRet_ok (eBin_ok (eVar_ok rfl) (eCall_ok (aCons_ok (eVar_ok rfl) (aCons_ok (eCall_ok (aCons_ok (eVar_ok rfl) aNil_ok) oLen_l) aNil_ok)) ?_) (oIx_L h2 hx))
  rw [List.length_map]
  exact h1
/-- a comprehension that draws -/
theorem loopC_draw {R : Store} {e : D → Store → Out} (P : D → Prop) : ∀ (ds : List D) (S : Store), IsDr R S → (∀ d ∈ ds, ∀ S, IsDr R S → ∃ y S', e d S = .ok y S' ∧ P y ∧ IsDr R S') →
    ∃ ys S', loopC (fun _ S => .ok (.bl true) S) e ds S = .ok ys S' ∧ ys.length = ds.length ∧ (∀ y ∈ ys, P y) ∧ IsDr R S'
  | [], S, h, _ => ⟨[], S, rfl, rfl, (fun _ h => nomatch h), h⟩
  | d :: ds, S, h, he => by
    obtain ⟨y, S1, h1, h2, h3⟩ := he d List.mem_cons_self S h
    obtain ⟨ys, S2, k1, k2, k3, k4⟩ := loopC_draw P ds S1 h3 (fun x hx => he x (List.mem_cons_of_mem _ hx))
    refine ⟨y :: ys, S2, ?_, by rw [List.length_cons, List.length_cons, k2], fun z hz => ?_, k4⟩
    · unfold loopC
      simp only []
      rw [h1]
      simp only []
      rw [k1]
    · rcases List.mem_cons.mp hz with rfl | hz
      · exact h2
      · exact k3 z hz
theorem eLc_draw {R S S0 : Store} {it e : DE} {j : Nat} {ρ : DEnv} {ns : List Int} (P : Int → Prop) (hi : it ρ S0 = .ok (L ns) S) (hl : ns.length ≤ 100000) (h : IsDr R S)
    (he : ∀ n ∈ ns, ∀ S, IsDr R S → ∃ y S', e (ρ.set j (.val (.int n))) S = .ok (.int y) S' ∧ P y ∧ IsDr R S') :
    ∃ ys S', eLc it (tgName j) eYes e ρ S0 = .ok (L ys) S' ∧ ys.length = ns.length ∧ (∀ y ∈ ys, P y) ∧ IsDr R S' := by
  obtain ⟨ds, S', h1, h2, h3, h4⟩ := loopC_draw (R := R) (e := turnC (tgName j) e ρ) (fun d => ∃ y, d = .int y ∧ P y) (ns.map D.int) S h (fun d hd S hS => by
    obtain ⟨n, hn, rfl⟩ := List.mem_map.mp hd
    obtain ⟨y, S', k1, k2, k3⟩ := he n hn S hS
    exact ⟨.int y, S', k1, ⟨y, rfl, k2⟩, k3⟩)
  have hm : ∀ (ds : List D), (∀ d ∈ ds, ∃ y, d = .int y ∧ P y) → ∃ ys : List Int, ds = ys.map D.int ∧ ∀ y ∈ ys, P y := by
    intro ds
    induction ds with
    | nil => exact fun _ => ⟨[], rfl, (fun _ h => nomatch h)⟩
    | cons d ds ih =>
      intro hd
      obtain ⟨y, rfl, hy⟩ := hd d List.mem_cons_self
      obtain ⟨ys, rfl, hys⟩ := ih (fun x hx => hd x (List.mem_cons_of_mem _ hx))
      refine ⟨y :: ys, rfl, fun z hz => ?_⟩
      rcases List.mem_cons.mp hz with rfl | hz
      · exact hy
      · exact hys z hz
  obtain ⟨ys, rfl, hys⟩ := hm ds h3
  refine ⟨ys, S', ?_, by simpa using h2, hys, h4⟩
  unfold eLc
  rw [hi]
  simp only [Out.bind]
  rw [if_pos (by rw [List.length_map]; exact hl)]
  have e1 : loopC (turnC (tgName j) eYes ρ) (turnC (tgName j) e ρ) (ns.map D.int) S = _ := h1
  rw [e1]
  rfl
/-- a row, a form: 1, 2, 4, 8 or 16 ints -/
def Len16 (n : Nat) : Prop := n = 1 ∨ n = 2 ∨ n = 4 ∨ n = 8 ∨ n = 16
structure IsRow (row : List Int) : Prop where
  len : Len16 row.length
  val : ∀ x ∈ row, -99 ≤ x ∧ x ≤ 99
structure IsForm (f : List Int) : Prop where
  len : Len16 f.length
  val : ∀ x ∈ f, -60 ≤ x ∧ x ≤ 60
theorem form_is {R S : Store} (h : IsDr R S) : ∃ f S', m_law_form [.obj 1] S = .ok (L f) S' ∧ IsForm f ∧ IsDr R S' := by
  obtain ⟨size, S1, h1, h2, h3⟩ := pick_is h (ns := [1, 2, 4, 4, 8, 16]) (by simp) (by simp)
  obtain ⟨wide, S2, k1, k2, k3⟩ := pick_is h3 (ns := [3, 9, 60]) (by simp) (by simp)
  have hs : 0 < size ∧ size ≤ 16 ∧ Len16 size.toNat := by
    simp only [List.mem_cons, List.mem_nil_iff, or_false] at h2
    unfold Len16
    omega
  have hw : 3 ≤ wide ∧ wide ≤ 60 := by
    simp only [List.mem_cons, List.mem_nil_iff, or_false] at k2
    omega
  obtain ⟨ys, S3, m1, m2, m3, m4⟩ := eLc_draw (R := R) (S := S2) (S0 := S2) (it := eRng (aCons (eVar 1) aNil)) (e := eBin oSub (eCall m_law_draw (aCons (eVar 0) (aCons (eBin oAdd (eBin oMul (eC (.int 2)) (eVar 2)) (eC (.int 1))) aNil))) (eVar 2)) (j := 3) (ρ := [.val (.obj 1), .val (.int size), .val (.int wide), .emp]) (ns := rg 0 size.toNat) (fun y => -60 ≤ y ∧ y ≤ 60)
    (eRng_ok (aCons_ok (eVar_ok rfl) aNil_ok) (rg1 (smallI (by omega) (by omega)) S2)) (by rw [rg_len]; omega) k3 (fun n hn S hS => by
      obtain ⟨v, S', d1, d2, d3, d4⟩ := draw_is hS (lim := 2 * wide + 1) (by omega) (by omega)
      exact ⟨v - wide, S', eBin_ok (eCall_ok (aCons_ok (eVar_ok rfl) (aCons_ok (eBin_ok (eBin_ok eC_ok (eVar_ok rfl) (oMul_l (bigI (by decide)))) eC_ok oAdd_ii) aNil_ok)) d1) (eVar_ok rfl) oSub_ii, by omega, d4⟩)
  refine ⟨ys, S3, runD_ret rfl ?_, ⟨by rw [m2, rg_len]; exact hs.2.2, m3⟩, m4⟩
  show b_law_form [.val (.obj 1), .emp, .emp, .emp] S = _
  unfold b_law_form
  refine sSeq_ok (sAsg_ok (eCall_ok (aCons_ok (eVar_ok rfl) (aCons_ok (eLst_ok (by (repeat' (first | exact eC_ok | exact aNil_ok | exact eVar_ok rfl | exact sSkip_ok | exact eYes_ok | exact oAdd_ii | exact oSub_ii | exact oNeg_i | exact oLt_ii | exact oLe_ii | exact oGt_ii | exact oGe_ii | exact oAddI_ii | exact oAbs_i | exact oMax_ii | exact oLen_l | exact oLen_t | exact oList_l | exact oTuple_l | exact oIs_n | exact oIsnt_n | exact oIs_b | exact oIsnt_b | exact oEq_int .. | exact oNe_int .. | exact oEq_L .. | exact oNe_L .. | exact pNo_ok | apply eBin_ok | apply eUn_ok | apply aCons_ok | apply eTup_ok | apply eLst_ok | apply eCall_ok | apply eNot_ok | apply pSome_ok | apply eSl_ok | apply eSeq_l | apply eRng_ok)))) aNil_ok)) h1) rfl) ?_
  refine sSeq_ok (sAsg_ok (eCall_ok (aCons_ok (eVar_ok rfl) (aCons_ok (eLst_ok (by (repeat' (first | exact eC_ok | exact aNil_ok | exact eVar_ok rfl | exact sSkip_ok | exact eYes_ok | exact oAdd_ii | exact oSub_ii | exact oNeg_i | exact oLt_ii | exact oLe_ii | exact oGt_ii | exact oGe_ii | exact oAddI_ii | exact oAbs_i | exact oMax_ii | exact oLen_l | exact oLen_t | exact oList_l | exact oTuple_l | exact oIs_n | exact oIsnt_n | exact oIs_b | exact oIsnt_b | exact oEq_int .. | exact oNe_int .. | exact oEq_L .. | exact oNe_L .. | exact pNo_ok | apply eBin_ok | apply eUn_ok | apply aCons_ok | apply eTup_ok | apply eLst_ok | apply eCall_ok | apply eNot_ok | apply pSome_ok | apply eSl_ok | apply eSeq_l | apply eRng_ok)))) aNil_ok)) k1) rfl) ?_
  exact sRet_ok m1
end DL
set_option Elab.async false
set_option linter.all false
set_option maxRecDepth 100000
set_option maxHeartbeats 1000000
namespace DL
open PySem L2
/-- the size and the first place of block n in a row of length l -/
def bsz (l n : Nat) : Nat := l / 2 ^ Nat.log2 n
def fst (l n : Nat) : Nat := (n - 2 ^ Nat.log2 n) * bsz l n
theorem blk_root : ∀ l ∈ [1, 2, 4, 8, 16], fst l 1 = 0 ∧ bsz l 1 = l := by decide +kernel
theorem blk_in : ∀ l ∈ [1, 2, 4, 8, 16], ∀ n : Nat, n < 2 * l → 1 ≤ n → 0 < bsz l n ∧ bsz l n ≤ l ∧ fst l n + bsz l n ≤ l := by decide +kernel
theorem mem16 {l : Nat} (h : Len16 l) : l ∈ [1, 2, 4, 8, 16] := by
  simp only [List.mem_cons, List.mem_nil_iff, or_false]
  exact h
theorem span_all : ∀ l ∈ [1, 2, 4, 8, 16], ∀ n : Nat, n < 2 * l → 1 ≤ n → ∀ S : Store, m_law_span [.int (l : Int), .int (n : Int)] S = .ok (.tup [.int (fst l n : Int), .int ((fst l n + bsz l n : Nat) : Int)]) S := by
  intro l hl n hn h1 S
  simp only [List.mem_cons, List.mem_nil_iff, or_false] at hl
  have cases : (l = 1 ∧ n = 1) ∨ (l = 2 ∧ (n = 1 ∨ n = 2 ∨ n = 3)) ∨ (l = 4 ∧ (n = 1 ∨ n = 2 ∨ n = 3 ∨ n = 4 ∨ n = 5 ∨ n = 6 ∨ n = 7))
      ∨ (l = 8 ∧ (n = 1 ∨ n = 2 ∨ n = 3 ∨ n = 4 ∨ n = 5 ∨ n = 6 ∨ n = 7 ∨ n = 8 ∨ n = 9 ∨ n = 10 ∨ n = 11 ∨ n = 12 ∨ n = 13 ∨ n = 14 ∨ n = 15))
      ∨ (l = 16 ∧ (n = 1 ∨ n = 2 ∨ n = 3 ∨ n = 4 ∨ n = 5 ∨ n = 6 ∨ n = 7 ∨ n = 8 ∨ n = 9 ∨ n = 10 ∨ n = 11 ∨ n = 12 ∨ n = 13 ∨ n = 14 ∨ n = 15 ∨ n = 16 ∨ n = 17 ∨ n = 18 ∨ n = 19 ∨ n = 20 ∨ n = 21 ∨ n = 22 ∨ n = 23 ∨ n = 24 ∨ n = 25 ∨ n = 26 ∨ n = 27 ∨ n = 28 ∨ n = 29 ∨ n = 30 ∨ n = 31)) := by omega
  clear hl hn h1
  rcases cases with ⟨rfl, h⟩ | ⟨rfl, h⟩ | ⟨rfl, h⟩ | ⟨rfl, h⟩ | ⟨rfl, h⟩
  · subst h; kernel_rfl
  · rcases h with h | h | h <;> (subst h; kernel_rfl)
  · rcases h with h | h | h | h | h | h | h <;> (subst h; kernel_rfl)
  · rcases h with h | h | h | h | h | h | h | h | h | h | h | h | h | h | h <;> (subst h; kernel_rfl)
  · rcases h with h | h | h | h | h | h | h | h | h | h | h | h | h | h | h | h | h | h | h | h | h | h | h | h | h | h | h | h | h | h | h <;> (subst h; kernel_rfl)
theorem bsz_all : ∀ l ∈ [1, 2, 4, 8, 16], ∀ n : Nat, n < 2 * l → 1 ≤ n → ∀ S : Store, m_block_size [.int (l : Int), .int (n : Int)] S = .ok (.int (bsz l n : Int)) S := by
  intro l hl n hn h1 S
  simp only [List.mem_cons, List.mem_nil_iff, or_false] at hl
  have cases : (l = 1 ∧ n = 1) ∨ (l = 2 ∧ (n = 1 ∨ n = 2 ∨ n = 3)) ∨ (l = 4 ∧ (n = 1 ∨ n = 2 ∨ n = 3 ∨ n = 4 ∨ n = 5 ∨ n = 6 ∨ n = 7))
      ∨ (l = 8 ∧ (n = 1 ∨ n = 2 ∨ n = 3 ∨ n = 4 ∨ n = 5 ∨ n = 6 ∨ n = 7 ∨ n = 8 ∨ n = 9 ∨ n = 10 ∨ n = 11 ∨ n = 12 ∨ n = 13 ∨ n = 14 ∨ n = 15))
      ∨ (l = 16 ∧ (n = 1 ∨ n = 2 ∨ n = 3 ∨ n = 4 ∨ n = 5 ∨ n = 6 ∨ n = 7 ∨ n = 8 ∨ n = 9 ∨ n = 10 ∨ n = 11 ∨ n = 12 ∨ n = 13 ∨ n = 14 ∨ n = 15 ∨ n = 16 ∨ n = 17 ∨ n = 18 ∨ n = 19 ∨ n = 20 ∨ n = 21 ∨ n = 22 ∨ n = 23 ∨ n = 24 ∨ n = 25 ∨ n = 26 ∨ n = 27 ∨ n = 28 ∨ n = 29 ∨ n = 30 ∨ n = 31)) := by omega
  clear hl hn h1
  rcases cases with ⟨rfl, h⟩ | ⟨rfl, h⟩ | ⟨rfl, h⟩ | ⟨rfl, h⟩ | ⟨rfl, h⟩
  · subst h; kernel_rfl
  · rcases h with h | h | h <;> (subst h; kernel_rfl)
  · rcases h with h | h | h | h | h | h | h <;> (subst h; kernel_rfl)
  · rcases h with h | h | h | h | h | h | h | h | h | h | h | h | h | h | h <;> (subst h; kernel_rfl)
  · rcases h with h | h | h | h | h | h | h | h | h | h | h | h | h | h | h | h | h | h | h | h | h | h | h | h | h | h | h | h | h | h | h <;> (subst h; kernel_rfl)
/-- 1 in the first half, -1 in the second half, 0 elsewhere -/
def sgn (l n p : Nat) : Int := if fst l n ≤ p ∧ p < fst l n + bsz l n then (if p < fst l n + bsz l n / 2 then 1 else -1) else 0
end DL
set_option Elab.async false
set_option linter.all false
set_option maxRecDepth 100000
set_option maxHeartbeats 1000000
namespace DL
open PySem L2
/-- a list that is a form -/
structure Fm (f : List Int) : Prop where
  len : Len16 f.length
  all : ∀ y ∈ f, -10000 ≤ y ∧ y ≤ 10000
theorem IsRow.fm {f : List Int} (h : IsRow f) : Fm f := ⟨h.1, fun y hy => by have := h.2 y hy; omega⟩
theorem IsForm.fm {f : List Int} (h : IsForm f) : Fm f := ⟨h.1, fun y hy => by have := h.2 y hy; omega⟩
theorem len_in {l : Nat} (h : Len16 l) (S : Store) : oIn true (.int (l : Int)) (.tup (List.map D.int [1, 2, 4, 8, 16])) S = .ok (.bl false) S := by
  rcases h with rfl | rfl | rfl | rfl | rfl <;> rfl
theorem oAll_map {α : Type} (xs : List α) (f : α → Bool) (S : Store) : oAll [.lst (xs.map fun x => D.bl (f x))] S = .ok (.bl (xs.all f)) S := by
  have h : asBls (xs.map fun x => D.bl (f x)) = some (xs.map f) := by
    rw [← asBls_map (xs.map f), List.map_map]
    rfl
  show (match asBls (xs.map fun x => D.bl (f x)) with
    | some bs => Out.ok (.bl (bs.all id)) S
    | none => .bad) = _
  rw [h]
  simp only [List.all_map]
  rfl
theorem oLen_L {ns : List Int} {S : Store} : oLen [L ns] S = .ok (.int (ns.length : Int)) S := by
  rw [oLen_l, List.length_map]
theorem is_form_b {row : List Int} (hl : Len16 row.length) (S : Store) : b_is_form [.val (L row), .emp] S = .ret (.bl (row.all fun n => decide (-10000 ≤ n) && decide (n ≤ 10000))) S := by
  unfold b_is_form
  refine sSeq_ok (sIf_f (eOr_f (eNot_ok (k := true) (eUn_ok (eVar_ok rfl) (isi_ll _ _))) (eBin_ok (eCall_ok (aCons_ok (eVar_ok rfl) aNil_ok) oLen_L) eC_ok (len_in hl S))) sSkip_ok) ?_
  refine sRet_ok (eCall_ok (aCons_ok (eLc_ints (fun n => .bl (decide (-10000 ≤ n) && decide (n ≤ 10000))) (eSeq_l (eVar_ok rfl)) (by unfold Len16 at hl; omega) (fun n _ => eCall_ok (aCons_ok (eVar_ok rfl) (aCons_ok (eUn_ok eC_ok oNeg_i) (aCons_ok eC_ok aNil_ok))) (is_int_int n _ _ S))) aNil_ok) ?_)
  exact oAll_map row _ S
theorem is_form_all {row : List Int} (hl : Len16 row.length) (S : Store) : m_is_form [L row] S = .ok (.bl (row.all fun n => decide (-10000 ≤ n) && decide (n ≤ 10000))) S := runD_ret rfl (is_form_b hl S)
theorem is_form_ok {row : List Int} (h : Fm row) (S : Store) : m_is_form [L row] S = .ok (.bl true) S := by
  rw [is_form_all h.1 S, List.all_eq_true.mpr]
  intro n hn
  have := h.2 n hn
  rw [Bool.and_eq_true, decide_eq_true_iff, decide_eq_true_iff]
  exact this
theorem check_form_ok {row : List Int} (h : Fm row) (S : Store) : m_check_form [L row] S = .ok .non S :=
  runD_nx rfl (sIf_f (eNot_ok (eCall_ok (aCons_ok (eVar_ok rfl) aNil_ok) (is_form_ok h S))) sSkip_ok)
theorem is_int_in {i lo hi : Int} (h1 : lo ≤ i) (h2 : i ≤ hi) (S : Store) : m_is_int [.int i, .int lo, .int hi] S = .ok (.bl true) S := by
  rw [is_int_int, decide_eq_true h1, decide_eq_true h2]
  rfl
theorem cut_to {ns : List Int} {b : Nat} (h2 : b ≤ ns.length) (S : Store) : oSl (L ns) none (some (b : Int)) S = .ok (L (ns.take b)) S := by
  show Out.ok (.lst (cutD (ns.map D.int) _ _)) S = _
  unfold cutD
  rw [HT.sIx_nat, HT.sIx_none, List.length_map, Nat.min_eq_left h2, List.drop_zero, Nat.sub_zero, ← List.map_take]
theorem cut_from {ns : List Int} {a : Nat} (h2 : a ≤ ns.length) (S : Store) : oSl (L ns) (some (a : Int)) none S = .ok (L (ns.drop a)) S := by
  show Out.ok (.lst (cutD (ns.map D.int) _ _)) S = _
  unfold cutD
  rw [HT.sIx_nat, HT.sIx_none, List.length_map, Nat.min_eq_left h2, ← List.map_drop, ← List.map_take, List.take_of_length_le (by rw [List.length_drop]; omega)]
theorem span_is {l n : Nat} (hl : Len16 l) (hn : n < 2 * l) (h1 : 1 ≤ n) (S : Store) : m_law_span [.int (l : Int), .int (n : Int)] S = .ok (.tup [.int (fst l n : Int), .int ((fst l n + bsz l n : Nat) : Int)]) S := span_all l (mem16 hl) n hn h1 S
theorem bsz_is {l n : Nat} (hl : Len16 l) (hn : n < 2 * l) (h1 : 1 ≤ n) (S : Store) : m_block_size [.int (l : Int), .int (n : Int)] S = .ok (.int (bsz l n : Int)) S := bsz_all l (mem16 hl) n hn h1 S
end DL
set_option Elab.async false
set_option linter.all false
set_option maxRecDepth 100000
set_option maxHeartbeats 1000000
namespace DL
open PySem L2
theorem list1 {l : List Int} (h : l.length = 1) : ∃ a, l = [a] := by
  match l, h with
  | [a], _ => exact ⟨a, rfl⟩
theorem list2 {l : List Int} (h : l.length = 2) : ∃ a b, l = [a, b] := by
  match l, h with
  | [a, b], _ => exact ⟨a, b, rfl⟩
theorem list4 {l : List Int} (h : l.length = 4) : ∃ a b c d, l = [a, b, c, d] := by
  match l, h with
  | [a, b, c, d], _ => exact ⟨a, b, c, d, rfl⟩
end DL
set_option Elab.async false
set_option linter.all false
set_option maxRecDepth 100000
set_option maxHeartbeats 1000000
namespace DL
open PySem L2
/-- the part with a number -/
def pt (f : List Int) (n : Nat) : Int := f.getD n 0
theorem pt_get {f : List Int} {n : Nat} (h : n < f.length) : f[n]? = some (pt f n) := by
  unfold pt
  rw [List.getD_eq_getElem?_getD, List.getElem?_eq_getElem h]
  rfl
theorem pt_mem {f : List Int} {n : Nat} (h : n < f.length) : pt f n ∈ f := List.mem_of_getElem? (pt_get h)
theorem ix_pt {f : List Int} {n : Nat} (h : n < f.length) (S : Store) : oIx (L f) (.int (n : Int)) S = .ok (.int (pt f n)) S := oIx_L (by omega) (by rw [Int.toNat_natCast]; exact pt_get h)
theorem ix_pt0 {f : List Int} (h : 0 < f.length) (S : Store) : oIx (L f) (.int 0) S = .ok (.int (pt f 0)) S := ix_pt (n := 0) h S
theorem Fm.pt {f : List Int} (h : Fm f) {n : Nat} (hn : n < f.length) : (pt f n).natAbs ≤ 10000 := by
  have := h.all _ (pt_mem hn)
  omega
end DL
set_option Elab.async false
set_option linter.all false
set_option maxRecDepth 100000
set_option maxHeartbeats 1000000
namespace DL
open PySem L2
/-- the detail n's part of the value at p -/
def gp (f : List Int) (p n : Nat) : Rat := ((sgn f.length n p * pt f n : Int) : Rat) / (((bsz f.length n : Nat) : Int) : Rat)
/-- along n, n / 2, n / 4 .. 1 -/
def ch (g : Nat → Rat) : Nat → Nat → Rat
  | 0, _ => 0
  | k + 1, n => if n = 0 then 0 else g n + ch g k (n / 2)
def f0v (f : List Int) : Rat := ((pt f 0 : Int) : Rat) / (((f.length : Nat) : Int) : Rat)
def val (f : List Int) (p : Nat) : Rat := f0v f + ch (gp f p) 5 ((f.length + p) / 2)
/-- t / 2 ^ j, j ≤ 4 -/
theorem dy_div : ∀ b ∈ [1, 2, 4, 8, 16], ∀ t : Int, ∀ B : Nat, t.natAbs ≤ B → Dy 4 (16 * B) ((t : Rat) / (((b : Nat) : Int) : Rat)) := by
  intro b hb t B h
  simp only [List.mem_cons, List.mem_nil_iff, or_false] at hb
  rcases hb with rfl | rfl | rfl | rfl | rfl
  · exact ⟨16 * t, by omega, by simp; grind⟩
  · exact ⟨8 * t, by omega, by simp; grind⟩
  · exact ⟨4 * t, by omega, by simp; grind⟩
  · exact ⟨2 * t, by omega, by simp; grind⟩
  · exact ⟨t, by omega, by simp⟩
theorem bsz_pow : ∀ l ∈ [1, 2, 4, 8, 16], ∀ n : Nat, n < 2 * l → 1 ≤ n → bsz l n ∈ [1, 2, 4, 8, 16] := by decide +kernel
theorem rg_nat (n : Nat) : rg 0 n = (List.range n).map fun i => ((i : Nat) : Int) := by
  unfold rg
  apply List.map_congr_left
  intro i _
  omega
/-- over range(n), by naturals -/
theorem eLc_nat {it e : DE} {j : Nat} {ρ : DEnv} {S : Store} {n : Nat} (f : Nat → D) (hi : it ρ S = .ok (L (rg 0 n)) S) (hl : n ≤ 100000) (he : ∀ i, i < n → e (ρ.set j (.val (.int (i : Int)))) S = .ok (f i) S) :
    eLc it (tgName j) eYes e ρ S = .ok (.lst ((List.range n).map f)) S := by
  have h := eLc_ints (it := it) (e := e) (j := j) (ρ := ρ) (S := S) (ns := rg 0 n) (fun i => f i.toNat) hi (by rw [rg_len]; exact hl) (fun i hi => by
    have := mem_rg.mp hi
    have h2 := he i.toNat (by omega)
    rw [show ((i.toNat : Nat) : Int) = i by omega] at h2
    exact h2)
  rw [h, rg_nat, List.map_map]
  rfl
end DL
set_option Elab.async false
set_option linter.all false
set_option maxRecDepth 100000
set_option maxHeartbeats 1000000
namespace DL
open PySem L2
/-- a loop over a range, by what holds after so many turns -/
theorem loopF_inv {b : D → DS} (I : Nat → DEnv → Store → Prop) {lo : Int} : ∀ (n k : Nat) (ρ : DEnv) (S : Store), (∀ i ρ S, i < n → I (k + i) ρ S → ∃ ρ' S', b (.int (lo + (k + i : Nat))) ρ S = .nx ρ' S' ∧ I (k + i + 1) ρ' S') → I k ρ S → ∃ ρ' S', loopF b ((rg (lo + k) n).map D.int) ρ S = .nx ρ' S' ∧ I (k + n) ρ' S'
  | 0, k, ρ, S, _, h0 => ⟨ρ, S, rfl, h0⟩
  | n + 1, k, ρ, S, h, h0 => by
    have e : (rg (lo + k) (n + 1)).map D.int = .int (lo + k) :: (rg (lo + (k + 1 : Nat)) n).map D.int := by
      unfold rg
      rw [List.range_succ_eq_map, List.map_cons, List.map_cons, List.map_map, List.map_map, List.map_map]
      congr 1
      · simp
      · apply List.map_congr_left
        intro i _
        simp
        omega
    obtain ⟨ρ1, S1, h1, h2⟩ := h 0 ρ S (by omega) h0
    obtain ⟨ρ2, S2, k1, k2⟩ := loopF_inv I (lo := lo) n (k + 1) ρ1 S1 (fun i ρ S hi hI => by
      have e2 : k + 1 + i = k + (i + 1) := by omega
      rw [e2] at hI ⊢
      exact h (i + 1) ρ S (by omega) hI) h2
    refine ⟨ρ2, S2, ?_, by rw [show k + (n + 1) = k + 1 + n by omega]; exact k2⟩
    rw [e]
    exact loopF_nx h1 k1
theorem for_inv {b : DS} {it : DE} {j : Nat} (I : Nat → DEnv → Store → Prop) {lo : Int} {n : Nat} {ρ : DEnv} {S : Store} (hi : it ρ S = .ok (L (rg lo n)) S) (h0 : I 0 ρ S) (h : ∀ i ρ S, i < n → I i ρ S → ∃ ρ' S', b (ρ.set j (.val (.int (lo + (i : Nat))))) S = .nx ρ' S' ∧ I (i + 1) ρ' S') :
    ∃ ρ' S', sFor it (tgName j) b ρ S = .nx ρ' S' ∧ I n ρ' S' := by
  obtain ⟨ρ', S', h1, h2⟩ := loopF_inv (b := turnF (tgName j) b) I (lo := lo) n 0 ρ S (fun i ρ S hi hI => by
    rw [Nat.zero_add] at hI ⊢
    exact h i ρ S hi hI) h0
  refine ⟨ρ', S', sFor_ok hi ?_, by rw [Nat.zero_add] at h2; exact h2⟩
  have : lo + ((0 : Nat) : Int) = lo := by omega
  rw [this] at h1
  exact h1
/-- tuples of ints -/
abbrev T (ns : List Int) : D := .tup (ns.map D.int)
theorem eqD_T (a b : List Int) : eqD (T a) (T b) = decide (a = b) := by
  show eqD (.tup _) (.tup _) = _
  rw [eqD]
  exact eqAll_map _ eqD_int a b
theorem okD_T (n : Nat) (a : List Int) : okD (n + 1) (T a) = true := by
  show (a.map D.int).all (okD n) = true
  exact okD_all _ (okD_int n) a
theorem oNe_T (a b : List Int) (S : Store) : oNe (T a) (T b) S = .ok (.bl (!decide (a = b))) S := by rw [oNe_of (okD_T 5 a) (okD_T 5 b), eqD_T]
theorem ne_T {a b : List Int} (h : a = b) (S : Store) : oNe (T a) (T b) S = .ok (.bl false) S := by rw [oNe_T, decide_eq_true h]; rfl
theorem ne_I {a b : Int} (h : a = b) (S : Store) : oNe (.int a) (.int b) S = .ok (.bl false) S := by rw [oNe_int, decide_eq_true h]; rfl
theorem eq_L {a b : List Int} (h : a = b) (S : Store) : oEq (L a) (L b) S = .ok (.bl true) S := by rw [oEq_L, decide_eq_true h]
theorem eq_I {a b : Int} (h : a = b) (S : Store) : oEq (.int a) (.int b) S = .ok (.bl true) S := by rw [oEq_int, decide_eq_true h]
theorem oAdd_L {a b : List Int} {S : Store} (h : a.length + b.length ≤ 100000) : oAdd (L a) (L b) S = .ok (L (a ++ b)) S := by
  unfold oAdd
  simp only []
  rw [if_pos (by simpa using h), ← List.map_append]
end DL
set_option Elab.async false
set_option linter.all false
set_option maxRecDepth 100000
set_option maxHeartbeats 1000000
namespace DL
open PySem L2
/-- g 1 + .. + g k -/
def sm (g : Nat → Rat) : Nat → Rat
  | 0 => 0
  | k + 1 => sm g k + g (k + 1)
theorem sm_congr {g h : Nat → Rat} : ∀ {k}, (∀ n, 1 ≤ n → n ≤ k → g n = h n) → sm g k = sm h k
  | 0, _ => rfl
  | k + 1, e => by
    rw [sm, sm, sm_congr (fun n h1 h2 => e n h1 (by omega)), e (k + 1) (by omega) (by omega)]
theorem sm_zero {g : Nat → Rat} {k : Nat} (e : ∀ n, 1 ≤ n → n ≤ k → g n = 0) : sm g k = 0 := by
  rw [sm_congr (h := fun _ => 0) e]
  induction k with
  | zero => rfl
  | succ k ih => rw [sm, ih (fun n h1 h2 => e n h1 (by omega)), Rat.add_zero]
theorem sm_dy {g : Nat → Rat} {j B : Nat} : ∀ {k}, (∀ n, 1 ≤ n → n ≤ k → Dy j B (g n)) → Dy j (B * k) (sm g k)
  | 0, _ => by
    refine ⟨0, by simp, ?_⟩
    show (0 : Rat) = _
    simp
    grind
  | k + 1, h => by
    rw [sm]
    exact ((sm_dy (fun n h1 h2 => h n h1 (by omega))).add (h (k + 1) (by omega) (by omega))).mono (by rw [Nat.mul_add]; omega)
/-- the sum of a list of fractions -/
def rs : List Rat → Rat
  | [] => 0
  | q :: qs => q + rs qs
theorem rs_append : ∀ (a b : List Rat), rs (a ++ b) = rs a + rs b
  | [], b => by simp [rs, Rat.zero_add]
  | x :: a, b => by
    rw [List.cons_append, rs, rs, rs_append a b]
    grind
theorem sm_rs (g : Nat → Rat) : ∀ k, sm g k = rs ((List.range k).map fun i => g (i + 1))
  | 0 => rfl
  | k + 1 => by
    rw [List.range_succ, List.map_append, rs_append, sm, sm_rs g k]
    show _ = _ + (g (k + 1) + 0)
    rw [Rat.add_zero]
/-- only where a test holds -/
theorem sm_filter (g : Nat → Rat) (p : Nat → Bool) : ∀ k, sm (fun n => if p n then g n else 0) k = rs (((List.range k).filter fun i => p (i + 1)).map fun i => g (i + 1))
  | 0 => rfl
  | k + 1 => by
    rw [List.range_succ, List.filter_append, List.map_append, rs_append, sm, sm_filter g p k]
    by_cases h : p (k + 1) = true
    · simp [h, rs, Rat.add_zero]
    · simp [h, rs]
theorem rg_add (a k : Nat) : rg (a : Int) k = (List.range k).map fun i => ((a + i : Nat) : Int) := by
  unfold rg
  apply List.map_congr_left
  intro i _
  omega
theorem eLc_rgF {it c e : DE} {j : Nat} {ρ : DEnv} {S : Store} {a n : Nat} (p : Nat → Bool) (f : Nat → D) (hi : it ρ S = .ok (L (rg (a : Int) n)) S) (hl : n ≤ 100000) (hc : ∀ i, i < n → c (ρ.set j (.val (.int ((a + i : Nat) : Int)))) S = .ok (.bl (p i)) S) (he : ∀ i, i < n → p i = true → e (ρ.set j (.val (.int ((a + i : Nat) : Int)))) S = .ok (f i) S) :
    eLc it (tgName j) c e ρ S = .ok (.lst (((List.range n).filter p).map f)) S := by
  have key : ∀ x ∈ rg (a : Int) n, ∃ i, i < n ∧ x = ((a + i : Nat) : Int) ∧ (x - a).toNat = i := fun x hx => by
    have := mem_rg.mp hx
    exact ⟨(x - a).toNat, by omega, by omega, rfl⟩
  have h := eLc_intsF (it := it) (c := c) (e := e) (j := j) (ρ := ρ) (S := S) (ns := rg (a : Int) n) (fun x => p (x - a).toNat) (fun x => f (x - a).toNat) hi (by rw [rg_len]; exact hl) (fun x hx => by
    obtain ⟨i, h1, h2, h3⟩ := key x hx
    rw [h3, h2]
    exact hc i h1) (fun x hx hp => by
    obtain ⟨i, h1, h2, h3⟩ := key x hx
    rw [h3] at hp ⊢
    rw [h2]
    exact he i h1 hp)
  rw [h, rg_add, List.filter_map, List.map_map]
  have e1 : ((fun x => f (x - (a : Int)).toNat) ∘ fun (i : Nat) => ((a + i : Nat) : Int)) = f := by
    funext i
    show f (((a + i : Nat) : Int) - (a : Int)).toNat = f i
    congr 1
    omega
  have e2 : ((fun x => p (x - (a : Int)).toNat) ∘ fun (i : Nat) => ((a + i : Nat) : Int)) = p := by
    funext i
    show p (((a + i : Nat) : Int) - (a : Int)).toNat = p i
    congr 1
    omega
  rw [e1, e2]
theorem rgN {a b : Nat} (ha : a ≤ 1000) (h : b ≤ 1000) (S : Store) : oRng [.int (a : Int), .int (b : Int)] S = .ok (L (rg (a : Int) (b - a))) S := by
  rw [rg2 (smallI (by omega) (by omega)) (smallI (by omega) (by omega)), show ((b : Int) - (a : Int)).toNat = b - a by omega]
theorem total_loop {op : DC} {j B : Nat} (hj : j ≤ 14) {S : Store} (hop : ∀ p q : Rat, Sm p → Sm q → op [fr p, fr q] S = .ok (fr (p + q)) S) (x : D) : ∀ (qs : List Rat) (a : Rat) (m : Nat) (s : Slot), (∀ q ∈ qs, Dy j B q) → Dy j (B * m) a → B * (m + qs.length) < 4611686018427387904 →
    ∃ s', loopF (turnF (tgName 2) (sAsg (eCall op (aCons (eVar 1) (aCons (eVar 2) aNil))) (tgName 1))) (qs.map fr) [.val x, .val (fr a), s] S = .nx [.val x, .val (fr (a + rs qs)), s'] S
  | [], a, m, s, _, _, _ => ⟨s, by rw [rs, Rat.add_zero]; rfl⟩
  | q :: qs, a, m, s, h, ha, hB => by
    have hq := h q List.mem_cons_self
    have e0 : B * (m + (q :: qs).length) = B * m + B + B * qs.length := by
      rw [List.length_cons, Nat.mul_add, Nat.mul_add]
      omega
    obtain ⟨s', ih⟩ := total_loop hj hop x qs (a + q) (m + 1) (.val (fr q)) (fun q hq => h q (List.mem_cons_of_mem _ hq)) ((ha.add hq).mono (by rw [Nat.mul_add]; omega)) (by rw [Nat.mul_add, Nat.mul_add]; omega)
    refine ⟨s', loopF_nx (turnF_ok rfl (sAsg_ok (eCall_ok (aCons_ok (eVar_ok rfl) (aCons_ok (eVar_ok rfl) aNil_ok)) (hop a q (ha.sm hj (by omega)) (hq.sm hj (by omega)))) rfl)) ?_⟩
    refine ih.trans ?_
    rw [rs, Rat.add_assoc]
theorem dy0 (j : Nat) (B : Nat) : Dy j (B * 0) 0 := by
  refine ⟨0, by simp, ?_⟩
  simp
  grind
theorem total_is {j B : Nat} (hj : j ≤ 14) {qs : List Rat} (h : ∀ q ∈ qs, Dy j B q) (hB : B * qs.length < 4611686018427387904) (S : Store) : m_total [FL qs] S = .ok (fr (rs qs)) S := by
  obtain ⟨s', hl⟩ := total_loop (op := m_plus) hj (S := S) (fun p q hp hq => plus_is hp hq S) (FL qs) qs 0 0 .emp h (dy0 j B) (by rw [Nat.zero_add]; exact hB)
  rw [Rat.zero_add] at hl
  exact runD_ret rfl (sSeq_ok (sAsg_ok (eTup_ok (aCons_ok eC_ok (aCons_ok eC_ok aNil_ok))) rfl) (sSeq_ok (sFor_ok (eSeq_l (eVar_ok rfl)) hl) (sRet_ok (eVar_ok rfl))))
theorem law_total_is {j B : Nat} (hj : j ≤ 14) {qs : List Rat} (h : ∀ q ∈ qs, Dy j B q) (hB : B * qs.length < 4611686018427387904) (S : Store) : m_law_total [FL qs] S = .ok (fr (rs qs)) S := by
  obtain ⟨s', hl⟩ := total_loop (op := m_law_add) hj (S := S) (fun p q hp hq => law_add_is hp hq S) (FL qs) qs 0 0 .emp h (dy0 j B) (by rw [Nat.zero_add]; exact hB)
  rw [Rat.zero_add] at hl
  exact runD_ret rfl (sSeq_ok (sAsg_ok (eTup_ok (aCons_ok eC_ok (aCons_ok eC_ok aNil_ok))) rfl) (sSeq_ok (sFor_ok (eSeq_l (eVar_ok rfl)) hl) (sRet_ok (eVar_ok rfl))))
end DL
set_option Elab.async false
set_option linter.all false
set_option maxRecDepth 100000
set_option maxHeartbeats 1000000
namespace DL
open PySem L2
/-- the signs of block n from a up to b together -/
def ss (l n a b : Nat) : Int := ((List.range (b - a)).map fun i => sgn l n (a + i)).sum
/-- the details that a stretch hangs on -/
def nd (l a b k : Nat) : List Int := ((List.range k).filter fun i => !decide (ss l (i + 1) a b = 0)).map fun i => ((i + 1 : Nat) : Int)
end DL
set_option Elab.async false
set_option linter.all false
set_option maxRecDepth 100000
set_option maxHeartbeats 1000000
namespace DL
open PySem L2
theorem inD_ints (k : Int) (ns : List Int) : inD (.int k) (ns.map D.int) = decide (k ∈ ns) := by
  unfold inD
  rw [List.any_map]
  induction ns with
  | nil => rfl
  | cons n ns ih =>
    rw [List.any_cons, ih]
    show (eqD (.int n) (.int k) || _) = _
    rw [eqD_int]
    by_cases h : n = k
    · subst h
      simp
    · have h' : ¬ k = n := fun e => h e.symm
      simp [h, h']
theorem flat_ints (ns : List Int) : (ns.map D.int).all flatD = true := by
  rw [List.all_map, List.all_eq_true]
  intro x _
  rfl
theorem oIn_T (k : Int) (ns : List Int) (S : Store) : oIn false (.int k) (T ns) S = .ok (.bl (decide (k ∈ ns))) S := by
  show (if flatD (.int k) && (ns.map D.int).all flatD then Out.ok (.bl (inD (.int k) (ns.map D.int))) S else _) = _
  rw [flat_ints, inD_ints]
  rfl
theorem oNotIn_T (k : Int) (ns : List Int) (S : Store) : oIn true (.int k) (T ns) S = .ok (.bl (!decide (k ∈ ns))) S := by
  show (if flatD (.int k) && (ns.map D.int).all flatD then Out.ok (.bl (!inD (.int k) (ns.map D.int))) S else _) = _
  rw [flat_ints, inD_ints]
  rfl
/-- the form with all other details 0 -/
def kp (f : List Int) (ks : List Int) : List Int := (List.range f.length).map fun (n : Nat) => if n = 0 ∨ ((n : Nat) : Int) ∈ ks then pt f n else 0
/-- [form[k] if k == 0 or k in kept else 0 for k in range(..)] -/
theorem kp_is {f ks : List Int} (hf : f.length ≤ 16) {it : DE} {j u v : Nat} {kd : D} {ρ : DEnv} {S : Store} (hi : it ρ S = .ok (L (rg 0 f.length)) S) (hk : ∀ n : Int, oIn false (.int n) kd S = .ok (.bl (decide (n ∈ ks))) S)
    (hj : ∀ x, (ρ.set j x)[u]? = some (.val (L f)) ∧ (ρ.set j x)[v]? = some (.val kd) ∧ (ρ.set j x)[j]? = some x) :
    eLc it (tgName j) eYes (eIf (eOr (eBin oEq (eVar j) (eC (.int 0))) (eBin (oIn false) (eVar j) (eVar v))) (eBin oIx (eVar u) (eVar j)) (eC (.int 0))) ρ S = .ok (L (kp f ks)) S := by
  have h := eLc_nat (it := it) (e := (eIf (eOr (eBin oEq (eVar j) (eC (.int 0))) (eBin (oIn false) (eVar j) (eVar v))) (eBin oIx (eVar u) (eVar j)) (eC (.int 0)))) (j := j) (ρ := ρ) (S := S) (n := f.length) (fun n => .int (if n = 0 ∨ (n : Int) ∈ ks then pt f n else 0)) hi (by omega) (fun n hn => by
    have hc : (eOr (eBin oEq (eVar j) (eC (.int 0))) (eBin (oIn false) (eVar j) (eVar v))) (ρ.set j (.val (.int (n : Int)))) S = .ok (.bl (decide ((n : Int) = 0) || decide ((n : Int) ∈ ks))) S := eOr_ok (eBin_ok (eVar_ok (hj _).2.2) eC_ok (oEq_int _ _ S)) (fun _ => eBin_ok (eVar_ok (hj _).2.2) (eVar_ok (hj _).2.1) (hk _))
    by_cases hz : n = 0 ∨ (n : Int) ∈ ks
    · rw [if_pos hz]
      have : (decide ((n : Int) = 0) || decide ((n : Int) ∈ ks)) = true := by
        rw [Bool.or_eq_true, decide_eq_true_iff, decide_eq_true_iff]
        rcases hz with hz | hz
        · exact Or.inl (by omega)
        · exact Or.inr hz
      rw [this] at hc
      exact eIf_t hc (eBin_ok (eVar_ok (hj _).1) (eVar_ok (hj _).2.2) (ix_pt hn S))
    · rw [if_neg hz]
      have : (decide ((n : Int) = 0) || decide ((n : Int) ∈ ks)) = false := by
        rw [Bool.eq_false_iff]
        intro z
        rw [Bool.or_eq_true, decide_eq_true_iff, decide_eq_true_iff] at z
        rcases z with z | z
        · exact hz (Or.inl (by omega))
        · exact hz (Or.inr z)
      rw [this] at hc
      exact eIf_f hc eC_ok)
  rw [h]
  unfold kp
  show _ = Out.ok (.lst (List.map D.int (List.map _ _))) S
  rw [List.map_map]
  rfl
end DL
set_option Elab.async false
set_option linter.all false
set_option maxRecDepth 100000
set_option maxHeartbeats 1000000
namespace DL
open PySem L2
end DL
set_option Elab.async false
set_option linter.all false
set_option maxRecDepth 100000
set_option maxHeartbeats 1000000
namespace DL
open PySem L2
end DL
set_option Elab.async false
set_option linter.all false
set_option maxRecDepth 100000
set_option maxHeartbeats 1000000
namespace DL
open PySem L2
/-- the share of part n -/
def sh (f : List Int) (n : Nat) : Rat := ((pt f n * pt f n : Int) : Rat) / (((bsz f.length (max 1 n) : Nat) : Int) : Rat)
theorem sq_le {x : Int} {B : Nat} (h : x.natAbs ≤ B) : (x * x).natAbs ≤ B * B := by
  rw [Int.natAbs_mul]
  exact Nat.mul_le_mul h h
theorem sh_dy {f : List Int} (h : Fm f) {n : Nat} (hn : n < f.length) : Dy 4 1600000000 (sh f n) := by
  unfold sh
  exact dy_div _ (bsz_pow _ (mem16 h.len) (max 1 n) (by omega) (by omega)) _ 100000000 (sq_le (h.pt hn))
theorem share_of_is {f : List Int} (h : Fm f) {n : Nat} (hn : n < f.length) (S : Store) : m_share_of [L f, .int (n : Int)] S = .ok (fr (sh f n)) S := by
  have hl := h.len
  have hl16 : 1 ≤ f.length ∧ f.length ≤ 16 := by unfold Len16 at hl; omega
  by_cases h0 : n = 0
  · subst h0
    have hb := (blk_root f.length (mem16 hl)).2
    have hp := h.pt (n := 0) (by omega)
    refine runD_ret rfl (sSeq_ret (sIf_t (S1 := S) (eBin_ok (eVar_ok rfl) eC_ok (eq_I rfl S)) (sRet_ok (eCall_ok (aCons_ok (eBin_ok (eBin_ok (eVar_ok rfl) eC_ok (ix_pt0 (by omega) S)) (eBin_ok (eVar_ok rfl) eC_ok (ix_pt0 (by omega) S)) (oMul_l (bigI (by omega)))) (aCons_ok (eCall_ok (aCons_ok (eVar_ok rfl) aNil_ok) oLen_L) aNil_ok)) ?_))))
    rw [lowest_is _ _ S (by omega) (by omega)]
    unfold sh
    rw [show max 1 0 = 1 by decide, hb]
  · have hp := h.pt hn
    obtain ⟨b1, b2, b3⟩ := blk_in f.length (mem16 hl) n (by omega) (by omega)
    refine runD_ret rfl (sSeq_ok (sIf_f (S1 := S) (eBin_ok (eVar_ok rfl) eC_ok (by rw [oEq_int, decide_eq_false (by omega)])) sSkip_ok) (sRet_ok (eCall_ok (aCons_ok (eBin_ok (eBin_ok (eVar_ok rfl) (eVar_ok rfl) (ix_pt hn S)) (eBin_ok (eVar_ok rfl) (eVar_ok rfl) (ix_pt hn S)) (oMul_l (bigI (by omega)))) (aCons_ok (eCall_ok (aCons_ok (eCall_ok (aCons_ok (eVar_ok rfl) aNil_ok) oLen_L) (aCons_ok (eVar_ok rfl) aNil_ok)) (bsz_is hl (by omega) (by omega) S)) aNil_ok)) ?_)))
    rw [lowest_is _ _ S (by omega) (by omega)]
    unfold sh
    rw [show max 1 n = n by omega]
theorem law_share_is {f : List Int} (h : Fm f) {n : Nat} (hn : n < f.length) (S : Store) : m_law_share [L f, .int (n : Int)] S = .ok (fr (sh f n)) S := by
  have hl := h.len
  have hl16 : 1 ≤ f.length ∧ f.length ≤ 16 := by unfold Len16 at hl; omega
  have hp := h.pt hn
  obtain ⟨b1, b2, b3⟩ := blk_in f.length (mem16 hl) (max 1 n) (by omega) (by omega)
  have hmx : oMax [.int 1, .int (n : Int)] S = .ok (.int ((max 1 n : Nat) : Int)) S := by
    rw [oMax_ii]
    congr 2
    split <;> omega
  refine runD_ret rfl (sSeq_ok (sAsg_ok (eCall_ok (aCons_ok (eCall_ok (aCons_ok (eVar_ok rfl) aNil_ok) oLen_L) (aCons_ok (eCall_ok (aCons_ok eC_ok (aCons_ok (eVar_ok rfl) aNil_ok)) hmx) aNil_ok)) (span_is hl (by omega) (by omega) S)) rfl) (sRet_ok (eCall_ok (aCons_ok (eBin_ok (eBin_ok (eVar_ok rfl) (eVar_ok rfl) (ix_pt hn S)) (eBin_ok (eVar_ok rfl) (eVar_ok rfl) (ix_pt hn S)) (oMul_l (bigI (by omega)))) (aCons_ok (eBin_ok (eVar_ok rfl) (eVar_ok rfl) oSub_ii) aNil_ok)) ?_)))
  rw [show ((fst f.length (max 1 n) + bsz f.length (max 1 n) : Nat) : Int) - ((fst f.length (max 1 n) : Nat) : Int) = ((bsz f.length (max 1 n) : Nat) : Int) by omega, law_low_is _ _ S (by omega) (by omega)]
  rfl
end DL
set_option Elab.async false
set_option linter.all false
set_option maxRecDepth 100000
set_option maxHeartbeats 1000000
namespace DL
open PySem L2
structure Kept (l : Nat) (ks : List Int) : Prop where
  asc : ks.Pairwise (· < ·)
  mem : ∀ k ∈ ks, 1 ≤ k ∧ k < l
theorem asc_len : ∀ (ks : List Int) (a b : Int), ks.Pairwise (· < ·) → (∀ k ∈ ks, a ≤ k ∧ k < b) → a ≤ b → (ks.length : Int) ≤ b - a
  | [], a, b, _, _, h => by simp; omega
  | k :: ks, a, b, h1, h2, h => by
    obtain ⟨h3, h4⟩ := List.pairwise_cons.mp h1
    obtain ⟨h5, h6⟩ := h2 k List.mem_cons_self
    have := asc_len ks (k + 1) b h4 (fun x hx => ⟨by have := h3 x hx; omega, (h2 x (List.mem_cons_of_mem _ hx)).2⟩) (by omega)
    rw [List.length_cons]
    omega
theorem Kept.len {l : Nat} {ks : List Int} (h : Kept l ks) (hl : 1 ≤ l) : ks.length < l := by
  have := asc_len ks 1 l h.asc h.mem (by omega)
  omega
theorem ix_T {ns : List Int} {i : Nat} (h : i < ns.length) (S : Store) : oIx (T ns) (.int (i : Int)) S = .ok (.int (pt ns i)) S := by
  have h : atI (ns.map D.int) (i : Int) = some (.int (pt ns i)) := atI_of (by omega) (by rw [Int.toNat_natCast, List.getElem?_map, pt_get h]; rfl)
  show (match atI (ns.map D.int) (i : Int) with
        | some y => Out.ok y S
        | none => .bad) = _
  rw [h]
theorem asc_pt {ks : List Int} (h : ks.Pairwise (· < ·)) {i : Nat} (hi : i + 1 < ks.length) : pt ks i < pt ks (i + 1) := by
  have h1 := pt_get (f := ks) (n := i) (by omega)
  have h2 := pt_get (f := ks) (n := i + 1) hi
  obtain ⟨a1, a2⟩ := List.getElem?_eq_some_iff.mp h1
  obtain ⟨b1, b2⟩ := List.getElem?_eq_some_iff.mp h2
  have := List.pairwise_iff_getElem.mp h i (i + 1) a1 b1 (by omega)
  rw [a2, b2] at this
  exact this
theorem is_kept_is {f ks : List Int} (hl : Len16 f.length) (h : Kept f.length ks) (S : Store) : m_is_kept [L f, T ks] S = .ok (.bl true) S := by
  have hl16 : 1 ≤ f.length ∧ f.length ≤ 16 := by unfold Len16 at hl; omega
  have hk := h.len hl16.1
  refine runD_ret rfl (sSeq_ok (sIf_f (S1 := S) (eOr_f (S1 := S) (eNot_ok (k := true) (eUn_ok (eVar_ok rfl) (isi_tt _ S))) (eNot_ok (k := true) (eCall_ok (aCons_ok (eLc_ints (ns := ks) (fun n => .bl true) (eSeq_t (eVar_ok rfl)) (by omega) (fun n hn => eCall_ok (aCons_ok (eVar_ok rfl) (aCons_ok eC_ok (aCons_ok (eBin_ok (eCall_ok (aCons_ok (eVar_ok rfl) aNil_ok) oLen_L) eC_ok oSub_ii) aNil_ok))) (is_int_in (h.mem n hn).1 (by have := (h.mem n hn).2; omega) S))) aNil_ok) ?_))) sSkip_ok) (sRet_ok (eCall_ok (aCons_ok (eLc_ints (ns := rg 0 (ks.length - 1)) (fun n => .bl true) (eRng_ok (aCons_ok (eBin_ok (eCall_ok (aCons_ok (eVar_ok rfl) aNil_ok) oLen_t) eC_ok oSub_ii) aNil_ok) ?_) (by rw [rg_len]; omega) (fun n hn => ?_)) aNil_ok) ?_)))
  · rw [oAll_map]
    simp
  · rw [rg1 (smallI (by simp; omega) (by simp; omega)), List.length_map, show ((ks.length : Int) - 1).toNat = ks.length - 1 by omega]
  · obtain ⟨n1, n2⟩ := mem_rg.mp hn
    obtain ⟨m, rfl⟩ : ∃ m : Nat, n = (m : Int) := ⟨n.toNat, by omega⟩
    refine eBin_ok (eBin_ok (eVar_ok rfl) (eVar_ok rfl) (ix_T (by omega) S)) (eBin_ok (eVar_ok rfl) (eBin_ok (eVar_ok rfl) eC_ok oAdd_ii) (ix_T (i := m + 1) (by omega) S)) ?_
    rw [oLt_ii, decide_eq_true (asc_pt h.asc (by omega))]
  · rw [oAll_map]
    simp
theorem check_kept_ok {f ks : List Int} (hl : Len16 f.length) (h : Kept f.length ks) (S : Store) : m_check_kept [L f, T ks] S = .ok .non S :=
  runD_nx rfl (sIf_f (S1 := S) (eNot_ok (eCall_ok (aCons_ok (eVar_ok rfl) (aCons_ok (eVar_ok rfl) aNil_ok)) (is_kept_is hl h S))) sSkip_ok)
theorem only_is {f ks : List Int} (hf : Fm f) (h : Kept f.length ks) (S : Store) : m_only [L f, T ks] S = .ok (L (kp f ks)) S := by
  have hl := hf.len
  have hl16 : 1 ≤ f.length ∧ f.length ≤ 16 := by unfold Len16 at hl; omega
  refine runD_ret rfl (sSeq_ok (sExpr_ok (eCall_ok (aCons_ok (eVar_ok rfl) aNil_ok) (check_form_ok hf S))) (sSeq_ok (sExpr_ok (eCall_ok (aCons_ok (eVar_ok rfl) (aCons_ok (eVar_ok rfl) aNil_ok)) (check_kept_ok hl h S))) (sRet_ok (eCall_ok (aCons_ok (eVar_ok rfl) (aCons_ok (eVar_ok rfl) aNil_ok)) (runD_ret rfl (sRet_ok ?_))))))
  exact kp_is (f := f) (by omega) (eRng_ok (aCons_ok (eCall_ok (aCons_ok (eVar_ok rfl) aNil_ok) oLen_L) aNil_ok) (by rw [rg1 (smallI (by omega) (by omega)), Int.toNat_natCast])) (fun n => oIn_T n ks S) (fun x => ⟨rfl, rfl, rfl⟩)
/-- what a choice leaves out -/
def lo (f ks : List Int) : Rat := sm (fun n => if !decide (((n : Nat) : Int) ∈ ks) then sh f n else 0) (f.length - 1)
theorem lo_dy {f ks : List Int} (h : Fm f) : Dy 4 25600000000 (lo f ks) := by
  have hl := h.len
  have hl16 : 1 ≤ f.length ∧ f.length ≤ 16 := by unfold Len16 at hl; omega
  refine Dy.mono (sm_dy (j := 4) (B := 1600000000) (k := f.length - 1) fun n h1 h2 => ?_) (by omega)
  split
  · exact sh_dy h (by omega)
  · exact ⟨0, by simp, by simp; grind⟩
theorem left_out_is {f ks : List Int} (hf : Fm f) (h : Kept f.length ks) (S : Store) : m_left_out [L f, T ks] S = .ok (fr (lo f ks)) S := by
  have hl := hf.len
  have hl16 : 1 ≤ f.length ∧ f.length ≤ 16 := by unfold Len16 at hl; omega
  have e : lo f ks = rs (((List.range (f.length - 1)).filter fun i => !decide (((i + 1 : Nat) : Int) ∈ ks)).map fun i => sh f (i + 1)) := sm_filter (sh f) (fun n => !decide (((n : Nat) : Int) ∈ ks)) (f.length - 1)
  have key := total_is (j := 4) (B := 1600000000) (by decide) (qs := ((List.range (f.length - 1)).filter fun i => !decide (((i + 1 : Nat) : Int) ∈ ks)).map fun i => sh f (i + 1)) (fun q hq => by
    obtain ⟨i, hi, rfl⟩ := List.mem_map.mp hq
    have := List.mem_range.mp (List.mem_filter.mp hi).1
    exact sh_dy hf (by omega)) (by
    rw [List.length_map]
    have := List.length_filter_le (fun i => !decide (((i + 1 : Nat) : Int) ∈ ks)) (List.range (f.length - 1))
    rw [List.length_range] at this
    omega) S
  rw [← e] at key
  refine runD_ret rfl (sSeq_ok (sExpr_ok (eCall_ok (aCons_ok (eVar_ok rfl) aNil_ok) (check_form_ok hf S))) (sSeq_ok (sExpr_ok (eCall_ok (aCons_ok (eVar_ok rfl) (aCons_ok (eVar_ok rfl) aNil_ok)) (check_kept_ok hl h S))) (sRet_ok (eCall_ok (aCons_ok (eLc_rgF (a := 1) (n := f.length - 1) (fun i => !decide (((i + 1 : Nat) : Int) ∈ ks)) (fun i => fr (sh f (i + 1))) (eRng_ok (aCons_ok eC_ok (aCons_ok (eCall_ok (aCons_ok (eVar_ok rfl) aNil_ok) oLen_L) aNil_ok)) (rgN (a := 1) (by omega) (by omega) S)) (by omega) (fun i hi => ?_) (fun i hi _ => ?_)) aNil_ok) ?_))))
  · rw [Nat.add_comm 1 i]
    exact eBin_ok (eVar_ok rfl) (eVar_ok rfl) (oNotIn_T _ ks S)
  · rw [Nat.add_comm 1 i]
    exact eCall_ok (aCons_ok (eVar_ok rfl) (aCons_ok (eVar_ok rfl) aNil_ok)) (share_of_is hf (by omega) S)
  · have e2 : FL (((List.range (f.length - 1)).filter fun i => !decide (((i + 1 : Nat) : Int) ∈ ks)).map fun i => sh f (i + 1)) = .lst (((List.range (f.length - 1)).filter fun i => !decide (((i + 1 : Nat) : Int) ∈ ks)).map fun i => fr (sh f (i + 1))) := by
      show D.lst (List.map fr (List.map _ _)) = _
      rw [List.map_map]
      rfl
    rw [e2] at key
    exact key
abbrev iL (xs : List Nat) : List Int := xs.map fun n => ((n : Nat) : Int)
def ordK (f : List Int) : Nat → List Nat
  | 0 => []
  | k + 1 => (ordK f k).take (((ordK f k).filter fun m => !decide (sh f m < sh f (k + 1))).length) ++ [k + 1] ++ (ordK f k).drop (((ordK f k).filter fun m => !decide (sh f m < sh f (k + 1))).length)
abbrev ord (f : List Int) : List Nat := ordK f (f.length - 1)
theorem ord_perm (f : List Int) : ∀ k, (ordK f k).Perm ((List.range k).map (· + 1))
  | 0 => List.Perm.refl _
  | k + 1 => by
    rw [List.range_succ, List.map_append]
    unfold ordK
    refine List.Perm.trans (List.perm_append_comm.append_right _) ?_
    rw [List.append_assoc, List.take_append_drop]
    exact (List.perm_append_comm).trans ((ord_perm f k).append_right _)
theorem ord_mem {f : List Int} {k n : Nat} : n ∈ ordK f k ↔ 1 ≤ n ∧ n ≤ k := by
  rw [(ord_perm f k).mem_iff, List.mem_map]
  constructor
  · rintro ⟨m, h1, rfl⟩
    have := List.mem_range.mp h1
    omega
  · intro ⟨h1, h2⟩
    exact ⟨n - 1, List.mem_range.mpr (by omega), by omega⟩
theorem ord_len (f : List Int) (k : Nat) : (ordK f k).length = k := by
  rw [(ord_perm f k).length_eq, List.length_map, List.length_range]
theorem ord_nodup (f : List Int) (k : Nat) : (ordK f k).Nodup := by
  rw [(ord_perm f k).nodup_iff]
  exact List.Pairwise.map _ (fun a b h => by omega) List.nodup_range
def Ahead (f : List Int) (a b : Nat) : Prop := sh f b < sh f a ∨ (sh f b = sh f a ∧ a < b)
theorem take_filter {α : Type} (p : α → Bool) : ∀ (xs : List α), xs.Pairwise (fun a b => p b = true → p a = true) → xs.take (xs.filter p).length = xs.filter p ∧ xs.drop (xs.filter p).length = xs.filter (fun x => !p x)
  | [], _ => ⟨rfl, rfl⟩
  | x :: xs, h => by
    obtain ⟨h1, h2⟩ := List.pairwise_cons.mp h
    obtain ⟨i1, i2⟩ := take_filter p xs h2
    by_cases hx : p x = true
    · rw [List.filter_cons_of_pos hx, List.filter_cons_of_neg (by simp [hx]), List.length_cons]
      exact ⟨by rw [List.take_succ_cons, i1], by rw [List.drop_succ_cons, i2]⟩
    · have hn : ∀ y ∈ xs, p y = false := fun y hy => by
        cases q : p y with
        | false => rfl
        | true => exact absurd (h1 y hy q) hx
      have e1 : xs.filter p = [] := List.filter_eq_nil_iff.mpr fun y hy => by rw [hn y hy]; simp
      have e2 : xs.filter (fun x => !p x) = xs := List.filter_eq_self.mpr fun y hy => by rw [hn y hy]; rfl
      rw [List.filter_cons_of_neg hx, e1, List.filter_cons_of_pos (by simp [hx]), e2]
      exact ⟨rfl, rfl⟩
theorem ord_asc (f : List Int) : ∀ k, (ordK f k).Pairwise (Ahead f)
  | 0 => List.Pairwise.nil
  | k + 1 => by
    have ih := ord_asc f k
    obtain ⟨t1, t2⟩ := take_filter (fun m => !decide (sh f m < sh f (k + 1))) (ordK f k) (ih.imp fun {a b} hab => by
      intro hb
      rw [Bool.not_eq_true', decide_eq_false_iff_not] at hb ⊢
      rcases hab with h | ⟨h, _⟩ <;> grind)
    unfold ordK
    rw [t1, t2, List.append_assoc, List.pairwise_append]
    refine ⟨ih.filter _, ?_, ?_⟩
    · rw [List.singleton_append, List.pairwise_cons]
      refine ⟨fun b hb => ?_, ih.filter _⟩
      have := (List.mem_filter.mp hb).2
      simp at this
      exact Or.inl this
    · intro a ha b hb
      have hm := (ord_mem.mp (List.mem_filter.mp ha).1)
      have h1 := (List.mem_filter.mp ha).2
      rw [Bool.not_eq_true', decide_eq_false_iff_not] at h1
      rcases List.mem_append.mp hb with hb | hb
      · obtain rfl : b = k + 1 := by simpa using hb
        by_cases he : sh f (k + 1) = sh f a
        · exact Or.inr ⟨he, by omega⟩
        · exact Or.inl (by grind)
      · have h2 := (List.mem_filter.mp hb).2
        simp at h2
        exact Or.inl (by grind)
theorem in_order_is {f : List Int} (h : Fm f) (S : Store) : m_in_order [L f] S = .ok (L (iL (ord f))) S := by
  have hl := h.len
  have hl16 : 1 ≤ f.length ∧ f.length ≤ 16 := by unfold Len16 at hl; omega
  obtain ⟨ρ', S', h1, rfl, s2, s3, s4, rfl⟩ := for_inv (it := (eRng (aCons (eC (.int 1)) (aCons (eCall oLen (aCons (eVar 0) aNil)) aNil)))) (j := 2) (lo := 1) (n := f.length - 1)
    (b := (sSeq (sAsg (eCall m_share_of (aCons (eVar 0) (aCons (eVar 2) aNil))) (tgName 3))
    (sSeq (sAsg (eCall oLen (aCons (eLc (eSeq (eVar 1)) (tgName 5) (eNot (eCall m_less (aCons (eCall m_share_of (aCons (eVar 0) (aCons (eVar 5) aNil))) (aCons (eVar 3) aNil)))) (eVar 5)) aNil)) (tgName 4))
    (sAsg (eBin oAdd (eBin oAdd (eSl (eVar 1) pNo (pSome (eVar 4))) (eLst (aCons (eVar 2) aNil))) (eSl (eVar 1) (pSome (eVar 4)) pNo)) (tgName 1)))))
    (fun k ρ S' => S' = S ∧ ∃ s2 s3 s4, ρ = [.val (L f), .val (L (iL (ordK f k))), s2, s3, s4, .emp])
    (ρ := [.val (L f), .val (L []), .emp, .emp, .emp, .emp]) (S := S)
    (eRng_ok (aCons_ok eC_ok (aCons_ok (eCall_ok (aCons_ok (eVar_ok rfl) aNil_ok) oLen_L) aNil_ok)) (rgN (a := 1) (by omega) (by omega) S)) ⟨rfl, _, _, _, rfl⟩
    (fun i ρ S' hi ⟨hS, s2, s3, s4, hρ⟩ => by
      subst hS hρ
      have en : (1 : Int) + ((i : Nat) : Int) = ((i + 1 : Nat) : Int) := by omega
      rw [en]
      have hlen : (ordK f i).length = i := ord_len f i
      generalize hp : ((ordK f i).filter fun m => !decide (sh f m < sh f (i + 1))).length = p
      have hpl : p ≤ i := by
        have := List.length_filter_le (fun m => !decide (sh f m < sh f (i + 1))) (ordK f i)
        omega
      have hfl : ((iL (ordK f i)).filter fun x => !decide (sh f x.toNat < sh f (i + 1))).length = p := by
        rw [List.filter_map, List.length_map, ← hp]
        rfl
      refine ⟨[.val (L f), .val (L (iL (ordK f (i + 1)))), .val (.int ((i + 1 : Nat) : Int)), .val (fr (sh f (i + 1))), .val (.int (p : Int)), .emp], S', ?_, rfl, _, _, _, rfl⟩
      refine sSeq_ok (sAsg_ok (eCall_ok (aCons_ok (eVar_ok rfl) (aCons_ok (eVar_ok rfl) aNil_ok)) (share_of_is h (by omega) S')) rfl) ?_
      show sSeq _ _ [.val (L f), .val (L (iL (ordK f i))), .val (.int ((i + 1 : Nat) : Int)), .val (fr (sh f (i + 1))), s4, .emp] S' = _
      refine sSeq_ok (sAsg_ok (d := .int (p : Int)) (S1 := S') (eCall_ok (aCons_ok (eLc_intsF (ns := iL (ordK f i)) (fun x => !decide (sh f x.toNat < sh f (i + 1))) D.int (eSeq_l (eVar_ok rfl)) (by rw [List.length_map]; omega) (fun x hx => ?_) (fun x _ _ => eVar_ok rfl)) aNil_ok) (by rw [oLen_l, List.length_map, hfl])) rfl) ?_
      · obtain ⟨m, hm, rfl⟩ := List.mem_map.mp hx
        have hm2 := ord_mem.mp hm
        refine eNot_ok (eCall_ok (aCons_ok (eCall_ok (aCons_ok (eVar_ok rfl) (aCons_ok (eVar_ok rfl) aNil_ok)) (share_of_is h (n := m) (by omega) S')) (aCons_ok (eVar_ok rfl) aNil_ok)) ?_)
        rw [Int.toNat_natCast]
        exact less_is ((sh_dy h (by omega)).sm (by decide) (by decide)) ((sh_dy h (by omega)).sm (by decide) (by decide)) S'
      · show sAsg _ _ [.val (L f), .val (L (iL (ordK f i))), .val (.int ((i + 1 : Nat) : Int)), .val (fr (sh f (i + 1))), .val (.int (p : Int)), .emp] S' = _
        refine sAsg_ok (d := L (iL (ordK f (i + 1)))) (S1 := S') (eBin_ok (x := L ((iL (ordK f i)).take p ++ [((i + 1 : Nat) : Int)])) (y := L ((iL (ordK f i)).drop p)) (S1 := S') (S2 := S') (eBin_ok (eSl_ok (eVar_ok rfl) pNo_ok (pSome_ok (eVar_ok rfl)) (cut_to (by rw [List.length_map]; omega) S')) (eLst_ok (aCons_ok (eVar_ok rfl) aNil_ok)) ?_) (eSl_ok (eVar_ok rfl) (pSome_ok (eVar_ok rfl)) pNo_ok (cut_from (by rw [List.length_map]; omega) S')) ?_) rfl
        · exact oAdd_L (b := [((i + 1 : Nat) : Int)]) (by simp; omega)
        · rw [oAdd_L (by simp; omega)]
          refine congrArg (fun z => Out.ok (L z) S') ?_
          have e : ordK f (i + 1) = (ordK f i).take p ++ [i + 1] ++ (ordK f i).drop p := by rw [ordK, hp]
          rw [e]
          simp [iL, List.map_take, List.map_drop])
  refine runD_ret rfl (sSeq_ok (sAsg_ok (eLst_ok aNil_ok) rfl) (sSeq_ok h1 (sRet_ok (eVar_ok rfl))))
theorem by_share_is {f : List Int} (h : Fm f) (S : Store) : m_by_share [L f] S = .ok (L (iL (ord f))) S :=
  runD_ret rfl (sSeq_ok (sExpr_ok (eCall_ok (aCons_ok (eVar_ok rfl) aNil_ok) (check_form_ok h S))) (sRet_ok (eCall_ok (aCons_ok (eVar_ok rfl) aNil_ok) (in_order_is h S))))
theorem oSorted_L {ns : List Int} (h : ns.length < 64) (S : Store) : oSorted [L ns] S = .ok (L (sortI ns)) S := by
  show (match asInts (ns.map D.int) with
    | some ns => if ns.length < 64 then Out.ok (.lst ((sortI ns).map D.int)) S else .bad
    | none => .bad) = _
  rw [asInts_map]
  simp only []
  rw [if_pos h]
end DL
set_option Elab.async false
set_option linter.all false
set_option maxRecDepth 100000
set_option maxHeartbeats 1000000
namespace DL
open PySem L2
end DL
set_option Elab.async false
set_option linter.all false
set_option maxRecDepth 100000
set_option maxHeartbeats 1000000
namespace DL
open PySem L2
end DL
set_option Elab.async false
set_option linter.all false
set_option maxRecDepth 100000
set_option maxHeartbeats 1000000
namespace DL
open PySem L2
theorem rs_perm {a b : List Rat} (h : a.Perm b) : rs a = rs b := by
  induction h with
  | nil => rfl
  | cons x _ ih => rw [rs, rs, ih]
  | swap x y l =>
    rw [rs, rs, rs, rs]
    grind
  | trans _ _ h1 h2 => rw [h1, h2]
/-- what the first m by share leave out -/
def er (f : List Int) (m : Nat) : Rat := rs (((ord f).drop m).map (sh f))
/-- what the first m by share make up -/
def up (f : List Int) (m : Nat) : Rat := rs (((ord f).take m).map (sh f))
theorem ord_in {f : List Int} {n : Nat} (h : n ∈ ord f) : 1 ≤ n ∧ n < f.length := by
  have := ord_mem.mp h
  omega
theorem up_er {f : List Int} (m : Nat) : up f m + er f m = rs ((ord f).map (sh f)) := by
  unfold up er
  rw [← rs_append, ← List.map_append, List.take_append_drop]
theorem lo_ord (f ks : List Int) : lo f ks = rs (((ord f).filter fun n => !decide (((n : Nat) : Int) ∈ ks)).map (sh f)) := by
  have e : lo f ks = rs (((List.range (f.length - 1)).filter fun i => !decide (((i + 1 : Nat) : Int) ∈ ks)).map fun i => sh f (i + 1)) := sm_filter (sh f) (fun n => !decide (((n : Nat) : Int) ∈ ks)) (f.length - 1)
  rw [e]
  have hp := ((ord_perm f (f.length - 1)).filter fun n => !decide (((n : Nat) : Int) ∈ ks)).map (sh f)
  rw [List.filter_map, List.map_map] at hp
  exact (rs_perm hp).symm
theorem lo_nil (f : List Int) : lo f [] = er f 0 := by
  rw [lo_ord]
  unfold er
  rw [List.drop_zero, List.filter_eq_self.mpr (fun _ _ => by simp)]
theorem filter_take {xs : List Nat} (h : xs.Nodup) (m : Nat) : xs.filter (fun x => !decide (x ∈ xs.take m)) = xs.drop m := by
  have e := List.take_append_drop m xs
  have hd : ∀ x ∈ xs.drop m, ¬ x ∈ xs.take m := by
    rw [← e, List.nodup_append] at h
    intro x hx hy
    exact h.2.2 x hy x hx rfl
  conv => lhs; arg 2; rw [← e]
  rw [List.filter_append, List.filter_eq_nil_iff.mpr (fun x hx => by simp [hx]), List.nil_append]
  exact List.filter_eq_self.mpr fun x hx => by simp [hd x hx]
/-- the first m by share, as a choice -/
def bk (f : List Int) (m : Nat) : List Int := sortI (iL ((ord f).take m))
theorem bk_mem {f : List Int} {m n : Nat} : (n : Int) ∈ bk f m ↔ n ∈ (ord f).take m := by
  unfold bk
  rw [(sortI_perm _).mem_iff, List.mem_map]
  constructor
  · rintro ⟨k, h1, h2⟩
    obtain rfl : k = n := by omega
    exact h1
  · intro h
    exact ⟨n, h, rfl⟩
theorem bk_kept (f : List Int) (m : Nat) : Kept f.length (bk f m) := by
  have nd : (bk f m).Nodup := by
    unfold bk
    rw [(sortI_perm _).nodup_iff]
    exact List.Pairwise.map _ (fun a b h => by omega) ((ord_nodup f _).sublist (List.take_sublist _ _))
  refine ⟨(List.pairwise_and_iff.mpr ⟨sortI_sorted _, nd⟩).imp fun z => by omega, fun k hk => ?_⟩
  unfold bk at hk
  obtain ⟨n, h1, rfl⟩ := List.mem_map.mp ((sortI_perm _).mem_iff.mp hk)
  have := ord_in (List.mem_of_mem_take h1)
  omega
theorem lo_bk (f : List Int) (m : Nat) : lo f (bk f m) = er f m := by
  rw [lo_ord]
  unfold er
  rw [← filter_take (ord_nodup f _) m]
  refine congrArg (fun z => rs (List.map (sh f) z)) (List.filter_congr fun n hn => ?_)
  rw [decide_eq_decide.mpr bk_mem]
theorem sh_list {f : List Int} (h : Fm f) {xs : List Nat} (hx : ∀ n ∈ xs, n < f.length) {it : DE} {k : Nat} {ρ : DEnv} {S : Store} (hi : it ρ S = .ok (L (iL xs)) S) (hs : xs.length ≤ 100000) (g : ∀ x, (ρ.set k x)[0]? = some (.val (L f)) ∧ (ρ.set k x)[k]? = some x) :
    eLc it (tgName k) eYes (eCall m_share_of (aCons (eVar 0) (aCons (eVar k) aNil))) ρ S = .ok (FL (xs.map (sh f))) S := by
  have := eLc_ints (it := it) (e := eCall m_share_of (aCons (eVar 0) (aCons (eVar k) aNil))) (j := k) (ρ := ρ) (S := S) (ns := iL xs) (fun n => fr (sh f n.toNat)) hi (by rw [List.length_map]; exact hs) (fun n hn => by
    obtain ⟨m, hm, rfl⟩ := List.mem_map.mp hn
    rw [Int.toNat_natCast]
    exact eCall_ok (aCons_ok (eVar_ok (g _).1) (aCons_ok (eVar_ok (g _).2) aNil_ok)) (share_of_is h (hx m hm) S))
  rw [this]
  show Out.ok (.lst (List.map _ (List.map _ _))) S = Out.ok (.lst (List.map fr (List.map _ _))) S
  rw [List.map_map, List.map_map]
  rfl
theorem tot_list {f : List Int} (h : Fm f) {xs : List Nat} (hx : ∀ n ∈ xs, n < f.length) (hs : xs.length ≤ 16) (S : Store) : m_total [FL (xs.map (sh f))] S = .ok (fr (rs (xs.map (sh f)))) S :=
  total_is (j := 4) (B := 1600000000) (by decide) (fun q hq => by
    obtain ⟨n, hn, rfl⟩ := List.mem_map.mp hq
    exact sh_dy h (hx n hn)) (by rw [List.length_map]; omega) S
theorem er_is {f : List Int} (h : Fm f) {m j k : Nat} (hm : m ≤ f.length - 1) {ρ : DEnv} {S : Store} (g0 : ρ[0]? = some (.val (L f))) (gj : ρ[j]? = some (.val (.int (m : Int)))) (g : ∀ x, (ρ.set k x)[0]? = some (.val (L f)) ∧ (ρ.set k x)[k]? = some x) :
    (eCall m_total (aCons (eLc (eSeq (eSl (eCall m_in_order (aCons (eVar 0) aNil)) (pSome (eVar j)) pNo)) (tgName k) eYes (eCall m_share_of (aCons (eVar 0) (aCons (eVar k) aNil)))) aNil)) ρ S = .ok (fr (er f m)) S := by
  have hl := h.len
  have hl16 : 1 ≤ f.length ∧ f.length ≤ 16 := by unfold Len16 at hl; omega
  have hlen : (ord f).length = f.length - 1 := ord_len f _
  have hx : ∀ n ∈ (ord f).drop m, n < f.length := fun n hn => (ord_in (List.mem_of_mem_drop hn)).2
  have hsl : oSl (L (iL (ord f))) (some (m : Int)) none S = .ok (L (iL ((ord f).drop m))) S := by
    rw [cut_from (by rw [List.length_map]; omega), ← List.map_drop]
  exact eCall_ok (aCons_ok (sh_list h hx (eSeq_l (eSl_ok (eCall_ok (aCons_ok (eVar_ok g0) aNil_ok) (in_order_is h S)) (pSome_ok (eVar_ok gj)) pNo_ok hsl)) (by rw [List.length_drop]; omega) g) aNil_ok) (tot_list h hx (by rw [List.length_drop]; omega) S)
theorem check_many_ok {f : List Int} {m : Nat} (hm : m < f.length) (S : Store) : m_check_many [L f, .int (m : Int)] S = .ok .non S :=
  runD_nx rfl (sIf_f (S1 := S) (eNot_ok (eCall_ok (aCons_ok (eVar_ok rfl) (aCons_ok eC_ok (aCons_ok (eBin_ok (eCall_ok (aCons_ok (eVar_ok rfl) aNil_ok) oLen_L) eC_ok oSub_ii) aNil_ok))) (is_int_in (by omega) (by omega) S))) sSkip_ok)
theorem least_error_is {f : List Int} (h : Fm f) {m : Nat} (hm : m < f.length) (S : Store) : m_least_error [L f, .int (m : Int)] S = .ok (fr (er f m)) S :=
  runD_ret rfl (sSeq_ok (sExpr_ok (eCall_ok (aCons_ok (eVar_ok rfl) aNil_ok) (check_form_ok h S))) (sSeq_ok (sExpr_ok (eCall_ok (aCons_ok (eVar_ok rfl) (aCons_ok (eVar_ok rfl) aNil_ok)) (check_many_ok hm S))) (sRet_ok (er_is (j := 1) (k := 2) h (by omega) rfl rfl (fun x => ⟨rfl, rfl⟩)))))
theorem best_kept_is {f : List Int} (h : Fm f) {m : Nat} (hm : m < f.length) (S : Store) : m_best_kept [L f, .int (m : Int)] S = .ok (T (bk f m)) S := by
  have hl := h.len
  have hl16 : 1 ≤ f.length ∧ f.length ≤ 16 := by unfold Len16 at hl; omega
  have hlen : (ord f).length = f.length - 1 := ord_len f _
  have hsl : oSl (L (iL (ord f))) none (some (m : Int)) S = .ok (L (iL ((ord f).take m))) S := by
    rw [cut_to (by rw [List.length_map]; omega), ← List.map_take]
  exact runD_ret rfl (sSeq_ok (sExpr_ok (eCall_ok (aCons_ok (eVar_ok rfl) aNil_ok) (check_form_ok h S))) (sSeq_ok (sExpr_ok (eCall_ok (aCons_ok (eVar_ok rfl) (aCons_ok (eVar_ok rfl) aNil_ok)) (check_many_ok hm S))) (sRet_ok (eCall_ok (aCons_ok (eCall_ok (aCons_ok (eSl_ok (eCall_ok (aCons_ok (eVar_ok rfl) aNil_ok) (in_order_is h S)) pNo_ok (pSome_ok (eVar_ok rfl)) hsl) aNil_ok) (oSorted_L (by rw [List.length_map, List.length_take]; omega) S)) aNil_ok) oTuple_l))))
/-- an error size -/
structure Sz (q : Rat) : Prop where
  nn : 0 ≤ q.num
  le : q.num ≤ 1000000000
  den : q.den ≤ 16384
theorem Sz.sm {q : Rat} (h : Sz q) : Sm q := ⟨h.den, by have := h.nn; have := h.le; omega⟩
end DL
set_option Elab.async false
set_option linter.all false
set_option maxRecDepth 100000
set_option maxHeartbeats 1000000
namespace DL
open PySem L2
def rt (n : Nat) : Nat := n + 2 ^ (Nat.log2 n + 1)
end DL
set_option Elab.async false
set_option linter.all false
set_option maxRecDepth 100000
set_option maxHeartbeats 1000000
namespace DL
open PySem L2
end DL
set_option Elab.async false
set_option linter.all false
set_option maxRecDepth 100000
set_option maxHeartbeats 4000000
namespace DL
open PySem L2
end DL
set_option Elab.async false
set_option linter.all false
set_option maxRecDepth 100000
set_option maxHeartbeats 4000000
namespace DL
open PySem L2
def xm (n0 m : Nat) : Nat :=
  if n0 < m ∧ m / 2 ^ (Nat.log2 m - Nat.log2 n0) = n0 then (if m % 2 ^ (Nat.log2 m - Nat.log2 n0) < 2 ^ (Nat.log2 m - Nat.log2 n0 - 1) then m + 2 ^ (Nat.log2 m - Nat.log2 n0 - 1) else m - 2 ^ (Nat.log2 m - Nat.log2 n0 - 1)) else m
def xe (n0 m : Nat) : Int := if m = n0 then -1 else 1
def exc (f : List Int) (n0 : Nat) : List Int := (List.range f.length).map fun m => if m = n0 then -pt f n0 else pt f (xm n0 m)
end DL
set_option Elab.async false
set_option linter.all false
set_option maxRecDepth 100000
set_option maxHeartbeats 4000000
namespace DL
open PySem L2
end DL
set_option Elab.async false
set_option linter.all false
set_option maxRecDepth 100000
set_option maxHeartbeats 4000000
namespace DL
open PySem L2
def bin : Nat → Nat → Nat
  | _, 0 => 1
  | 0, _ + 1 => 0
  | n + 1, k + 1 => bin n k + bin n (k + 1)
/-- all choices from 1 .. n -/
def chs : Nat → List (List Nat)
  | 0 => [[]]
  | n + 1 => chs n ++ (chs n).map (· ++ [n + 1])
theorem chs_in : ∀ {n : Nat} {c : List Nat}, c ∈ chs n → c.Pairwise (· < ·) ∧ ∀ x ∈ c, 1 ≤ x ∧ x ≤ n
  | 0, c, h => by
    cases List.mem_singleton.mp h
    exact ⟨.nil, fun x hx => by cases hx⟩
  | n + 1, c, h => by
    rcases List.mem_append.mp h with h | h
    · obtain ⟨h1, h2⟩ := chs_in h
      exact ⟨h1, fun x hx => by have := h2 x hx; omega⟩
    · obtain ⟨d, hd, rfl⟩ := List.mem_map.mp h
      obtain ⟨h1, h2⟩ := chs_in hd
      refine ⟨List.pairwise_append.mpr ⟨h1, List.pairwise_singleton _ _, fun a ha b hb => ?_⟩, fun x hx => ?_⟩
      · have := h2 a ha
        rw [List.mem_singleton.mp hb]
        omega
      · rcases List.mem_append.mp hx with q | q
        · have := h2 x q
          omega
        · rw [List.mem_singleton.mp q]
          omega
theorem chs_len : ∀ n, (chs n).length = 2 ^ n
  | 0 => rfl
  | n + 1 => by
    show (chs n ++ _).length = _
    rw [List.length_append, List.length_map, chs_len n, Nat.pow_succ]
    omega
section
variable (w : Nat → Rat)
def wS (c : List Nat) : Rat := rs (c.map w)
def wp (x : Nat) : Rat := if w x < 0 then 0 else w x
theorem wp_nn (x : Nat) : 0 ≤ wp w x := by
  unfold wp
  split
  · exact Rat.le_refl
  · rename_i h
    exact Rat.not_lt.mp h
theorem wp_ge (x : Nat) : w x ≤ wp w x := by
  unfold wp
  split
  · rename_i h
    grind
  · exact Rat.le_refl
theorem wS_snoc (c : List Nat) (x : Nat) : wS w (c ++ [x]) = wS w c + w x := by
  unfold wS
  rw [List.map_append, rs_append]
  show _ + (w x + 0) = _
  rw [Rat.add_zero]
theorem wS_le : ∀ {n : Nat} {c : List Nat}, c ∈ chs n → wS w c ≤ sm (wp w) n
  | 0, c, h => by
    cases List.mem_singleton.mp h
    exact Rat.le_refl
  | n + 1, c, h => by
    have p := wp_nn w (n + 1)
    have q := wp_ge w (n + 1)
    show _ ≤ sm (wp w) n + wp w (n + 1)
    rcases List.mem_append.mp h with h | h
    · have := wS_le h
      grind
    · obtain ⟨d, hd, rfl⟩ := List.mem_map.mp h
      have := wS_le hd
      rw [wS_snoc]
      grind
/-- the choices of greatest weight -/
def gch : Nat → List (List Nat)
  | 0 => [[]]
  | n + 1 => (if 0 < w (n + 1) then [] else gch n) ++ (if w (n + 1) < 0 then [] else (gch n).map (· ++ [n + 1]))
theorem filter_none {α : Type} {p : α → Bool} {l : List α} (h : ∀ x ∈ l, p x = false) : l.filter p = [] := by
  rw [List.filter_eq_nil_iff]
  intro x hx
  rw [h x hx]
  decide
theorem gch_is : ∀ n, (chs n).filter (fun c => decide (wS w c = sm (wp w) n)) = gch w n
  | 0 => by
    show [[]].filter _ = [[]]
    rw [List.filter_cons_of_pos (by rw [decide_eq_true_iff]; rfl)]
    rfl
  | n + 1 => by
    show (chs n ++ (chs n).map (· ++ [n + 1])).filter (fun c => decide (wS w c = sm (wp w) n + wp w (n + 1))) = _
    rw [List.filter_append]
    show _ = (if 0 < w (n + 1) then [] else gch w n) ++ (if w (n + 1) < 0 then [] else (gch w n).map (· ++ [n + 1]))
    congr 1
    · by_cases h : 0 < w (n + 1)
      · rw [if_pos h]
        refine filter_none fun c hc => decide_eq_false ?_
        have h1 := wS_le w hc
        have h2 : wp w (n + 1) = w (n + 1) := if_neg (by grind)
        grind
      · rw [if_neg h, ← gch_is n]
        have h2 : wp w (n + 1) = 0 := by
          unfold wp
          split <;> grind
        rw [h2, Rat.add_zero]
    · by_cases h : w (n + 1) < 0
      · rw [if_pos h]
        refine filter_none fun c hc => decide_eq_false ?_
        obtain ⟨d, hd, rfl⟩ := List.mem_map.mp hc
        have h1 := wS_le w hd
        have h2 : wp w (n + 1) = 0 := if_pos h
        rw [wS_snoc]
        grind
      · rw [if_neg h, ← gch_is n, List.filter_map]
        congr 1
        apply List.filter_congr
        intro c hc
        have h2 : wp w (n + 1) = w (n + 1) := if_neg h
        show decide (wS w (c ++ [n + 1]) = _) = _
        rw [wS_snoc, h2]
        have : wS w c + w (n + 1) = sm (wp w) n + w (n + 1) ↔ wS w c = sm (wp w) n := by
          constructor <;> intro z <;> grind
        exact decide_eq_decide.mpr this
/-- how many weigh more than nothing, how many nothing -/
def nG : Nat → Nat
  | 0 => 0
  | n + 1 => nG n + if 0 < w (n + 1) then 1 else 0
def nE : Nat → Nat
  | 0 => 0
  | n + 1 => nE n + if w (n + 1) = 0 then 1 else 0
def cn (n k : Nat) : Nat := ((gch w n).filter fun c => decide (c.length = k)).length
theorem map_cn (l : List (List Nat)) (x k : Nat) : ((l.map (· ++ [x])).filter fun c => decide (c.length = k)).length = if k = 0 then 0 else (l.filter fun c => decide (c.length = k - 1)).length := by
  rw [List.filter_map, List.length_map]
  by_cases h : k = 0
  · rw [if_pos h, filter_none]
    · rfl
    · intro c _
      show decide ((c ++ [x]).length = k) = false
      rw [List.length_append]
      exact decide_eq_false (by simp; omega)
  · rw [if_neg h]
    congr 1
    apply List.filter_congr
    intro c _
    show decide ((c ++ [x]).length = k) = _
    rw [List.length_append]
    exact decide_eq_decide.mpr (by simp; omega)
theorem cn_is : ∀ n k, cn w n k = if nG w n ≤ k then bin (nE w n) (k - nG w n) else 0
  | 0, k => by
    unfold cn gch nG nE
    rw [if_pos (Nat.zero_le _)]
    cases k with
    | zero => rfl
    | succ k => rfl
  | n + 1, k => by
    have ih := cn_is n
    unfold cn at ih ⊢
    show (((if 0 < w (n + 1) then [] else gch w n) ++ (if w (n + 1) < 0 then [] else (gch w n).map (· ++ [n + 1]))).filter _).length = if nG w n + (if 0 < w (n + 1) then 1 else 0) ≤ k then bin (nE w n + if w (n + 1) = 0 then 1 else 0) (k - (nG w n + if 0 < w (n + 1) then 1 else 0)) else 0
    rw [List.filter_append, List.length_append]
    by_cases h1 : 0 < w (n + 1)
    · have n1 : ¬ w (n + 1) < 0 := by grind
      have n2 : ¬ w (n + 1) = 0 := by grind
      simp only [if_pos h1, if_neg n1, if_neg n2]
      rw [map_cn]
      by_cases hk : k = 0
      · rw [if_pos hk, if_neg (by omega)]
        rfl
      · rw [if_neg hk, ih]
        show 0 + _ = _
        rw [Nat.zero_add, Nat.add_zero]
        by_cases hg : nG w n ≤ k - 1
        · rw [if_pos hg, if_pos (by omega), show k - 1 - nG w n = k - (nG w n + 1) by omega]
          rfl
        · rw [if_neg hg, if_neg (by omega)]
    · by_cases h2 : w (n + 1) < 0
      · have n2 : ¬ w (n + 1) = 0 := by grind
        simp only [if_neg h1, if_pos h2, if_neg n2]
        rw [ih]
        rfl
      · have n2 : w (n + 1) = 0 := by grind
        simp only [if_neg h1, if_neg h2, if_pos n2]
        rw [map_cn, ih, Nat.add_zero]
        by_cases hk : k = 0
        · subst hk
          rw [if_pos rfl, Nat.add_zero]
          by_cases hg : nG w n ≤ 0
          · rw [if_pos hg, if_pos hg, show 0 - nG w n = 0 by omega]
            cases nE w n <;> rfl
          · rw [if_neg hg, if_neg hg]
        · rw [if_neg hk, ih]
          by_cases hg : nG w n ≤ k - 1
          · rw [if_pos hg, if_pos (by omega), if_pos (by omega)]
            obtain ⟨j, hj⟩ : ∃ j, k - nG w n = j + 1 := ⟨k - nG w n - 1, by omega⟩
            rw [hj, show k - 1 - nG w n = j by omega]
            show _ = bin (nE w n) j + bin (nE w n) (j + 1)
            omega
          · by_cases hg2 : nG w n ≤ k
            · rw [if_neg hg, if_pos hg2, if_pos hg2, show k - nG w n = 0 by omega]
              cases nE w n <;> rfl
            · rw [if_neg hg, if_neg hg2, if_neg hg2]
end
end DL
set_option Elab.async false
set_option linter.all false
set_option maxRecDepth 100000
set_option maxHeartbeats 4000000
namespace DL
open PySem L2
/-- the share of the last kept -/
def thr (f : List Int) (m : Nat) : Rat := sh f ((ord f).getD (m - 1) 0)
def wt (f : List Int) (m : Nat) (x : Nat) : Rat := if m = 0 then -1 else sh f x - thr f m
theorem ord_split (f : List Int) (m : Nat) : (ord f).take m ++ (ord f).drop m = ord f := List.take_append_drop m _
theorem ord_at {f : List Int} {m : Nat} (h1 : 1 ≤ m) (h2 : m ≤ f.length - 1) : (ord f)[m - 1]? = some ((ord f).getD (m - 1) 0) := by
  have hl : (ord f).length = f.length - 1 := ord_len f _
  have hl2 : (ordK f (f.length - 1)).length = f.length - 1 := ord_len f _
  rw [List.getD_eq_getElem?_getD, List.getElem?_eq_getElem (by omega)]
  rfl
theorem ahead_le {f : List Int} {a b : Nat} (h : Ahead f a b) : sh f b ≤ sh f a := by
  rcases h with h | ⟨h, _⟩
  · exact Rat.le_of_lt h
  · rw [h]
    exact Rat.le_refl
theorem take_ge {f : List Int} {m : Nat} (h1 : 1 ≤ m) (h2 : m ≤ f.length - 1) {n : Nat} (hn : n ∈ (ord f).take m) : thr f m ≤ sh f n := by
  have hl : (ord f).length = f.length - 1 := ord_len f _
  have hl2 : (ordK f (f.length - 1)).length = f.length - 1 := ord_len f _
  obtain ⟨i, hi, e⟩ := List.mem_iff_getElem.mp hn
  rw [List.length_take] at hi
  rw [List.getElem_take] at e
  unfold thr
  rw [List.getD_eq_getElem?_getD, List.getElem?_eq_getElem (by omega)]
  show sh f (ord f)[m - 1] ≤ _
  rw [← e]
  by_cases q : i = m - 1
  · subst q
    exact Rat.le_refl
  · exact ahead_le (List.pairwise_iff_getElem.mp (ord_asc f _) i (m - 1) (by omega) (by omega) (by omega))
theorem drop_le {f : List Int} {m : Nat} (h1 : 1 ≤ m) (h2 : m ≤ f.length - 1) {n : Nat} (hn : n ∈ (ord f).drop m) : sh f n ≤ thr f m := by
  have hl : (ord f).length = f.length - 1 := ord_len f _
  have hl2 : (ordK f (f.length - 1)).length = f.length - 1 := ord_len f _
  obtain ⟨i, hi, e⟩ := List.mem_iff_getElem.mp hn
  rw [List.length_drop] at hi
  rw [List.getElem_drop] at e
  unfold thr
  rw [List.getD_eq_getElem?_getD, List.getElem?_eq_getElem (by omega)]
  show _ ≤ sh f (ord f)[m - 1]
  rw [← e]
  exact ahead_le (List.pairwise_iff_getElem.mp (ord_asc f _) (m - 1) (m + i) (by omega) (by omega) (by omega))
/-- a sum over 1 .. l - 1 is one over the order -/
theorem sm_ord (f : List Int) (g : Nat → Rat) : sm g (f.length - 1) = rs ((ord f).map g) := by
  rw [sm_rs, rs_perm (((ord_perm f (f.length - 1)).map g)), List.map_map]
  rfl
theorem rs_shift (f : List Int) (t : Rat) : ∀ c : List Nat, rs (c.map fun x => sh f x - t) = rs (c.map (sh f)) - (c.length : Rat) * t
  | [] => by
    show (0 : Rat) = 0 - ((0 : Nat) : Rat) * t
    simp
    grind
  | x :: c => by
    show (sh f x - t) + rs (c.map fun x => sh f x - t) = (sh f x + rs (c.map (sh f))) - (((c.length + 1 : Nat)) : Rat) * t
    rw [rs_shift f t c]
    have : ((c.length + 1 : Nat) : Rat) = (c.length : Rat) + 1 := by simp
    rw [this]
    grind
theorem rs_congr {l : List Nat} {g h : Nat → Rat} (e : ∀ x ∈ l, g x = h x) : rs (l.map g) = rs (l.map h) := by rw [List.map_congr_left e]
theorem wp_up {f : List Int} {m : Nat} (h1 : 1 ≤ m) (h2 : m ≤ f.length - 1) : sm (wp (wt f m)) (f.length - 1) = up f m - (m : Rat) * thr f m := by
  have hl : (ord f).length = f.length - 1 := ord_len f _
  have hl2 : (ordK f (f.length - 1)).length = f.length - 1 := ord_len f _
  have hw : ∀ x, wt f m x = sh f x - thr f m := fun x => if_neg (by omega)
  rw [sm_ord, ← ord_split f m, List.map_append, rs_append]
  have e1 : rs (((ord f).take m).map (wp (wt f m))) = rs (((ord f).take m).map fun x => sh f x - thr f m) := rs_congr fun x hx => by
    have := take_ge h1 h2 hx
    unfold wp
    rw [hw, if_neg (by grind)]
  have e2 : rs (((ord f).drop m).map (wp (wt f m))) = rs (((ord f).drop m).map fun _ => 0) := rs_congr fun x hx => by
    have := drop_le h1 h2 hx
    unfold wp
    rw [hw]
    split <;> grind
  have e3 : ∀ l : List Nat, rs (l.map fun _ => (0 : Rat)) = 0 := fun l => by
    induction l with
    | nil => rfl
    | cons x l ih =>
      show 0 + rs (l.map fun _ => (0 : Rat)) = 0
      rw [ih, Rat.add_zero]
  rw [e1, e2, e3, rs_shift, List.length_take, hl, Nat.min_eq_left h2]
  unfold up
  grind
/-- what a choice leaves out, and what it keeps -/
theorem lo_keep {f : List Int} {c : List Nat} (hc : c ∈ chs (f.length - 1)) : lo f (iL c) + rs (c.map (sh f)) = rs ((ord f).map (sh f)) := by
  obtain ⟨h1, h2⟩ := chs_in hc
  have nd1 : c.Nodup := h1.imp fun h => by omega
  have p : c.Perm ((ord f).filter fun n => decide (n ∈ c)) := by
    rw [List.perm_ext_iff_of_nodup nd1 ((ord_nodup f _).filter _)]
    intro x
    rw [List.mem_filter, decide_eq_true_iff]
    exact ⟨fun h => ⟨ord_mem.mpr (h2 x h), h⟩, fun h => h.2⟩
  have e0 : ∀ x : Nat, ((x : Int) ∈ iL c) ↔ x ∈ c := fun x => by
    rw [List.mem_map]
    constructor
    · rintro ⟨y, hy, e⟩
      have : y = x := by omega
      exact this ▸ hy
    · intro h
      exact ⟨x, h, rfl⟩
  rw [lo_ord, rs_perm (p.map (sh f))]
  have e1 : ((ord f).filter fun n => !decide (((n : Nat) : Int) ∈ iL c)) = (ord f).filter fun n => !decide (n ∈ c) := List.filter_congr fun x _ => by
    rw [decide_eq_decide.mpr (e0 x)]
  rw [e1]
  have key : ∀ l : List Nat, rs ((l.filter fun n => !decide (n ∈ c)).map (sh f)) + rs ((l.filter fun n => decide (n ∈ c)).map (sh f)) = rs (l.map (sh f)) := fun l => by
    induction l with
    | nil =>
      show (0 : Rat) + 0 = 0
      rw [Rat.add_zero]
    | cons x l ih =>
      by_cases q : x ∈ c
      · rw [List.filter_cons_of_neg (by simp [q]), List.filter_cons_of_pos (by simp [q])]
        show _ + (sh f x + _) = sh f x + _
        rw [← ih]
        grind
      · rw [List.filter_cons_of_pos (by simp [q]), List.filter_cons_of_neg (by simp [q])]
        show (sh f x + _) + _ = sh f x + _
        rw [← ih]
        grind
  exact key (ord f)
theorem best_iff {f : List Int} {m : Nat} (h2 : m ≤ f.length - 1) {c : List Nat} (hc : c ∈ chs (f.length - 1)) (hm : c.length = m) : er f m ≤ lo f (iL c) ∧ (lo f (iL c) = er f m ↔ wS (wt f m) c = sm (wp (wt f m)) (f.length - 1)) := by
  have hk := lo_keep hc
  have hu := up_er (f := f) m
  have hle := wS_le (wt f m) hc
  by_cases h1 : m = 0
  · have e : c = [] := List.eq_nil_of_length_eq_zero (by omega)
    subst e h1
    have : lo f (iL []) = er f 0 := lo_nil f
    rw [this]
    refine ⟨Rat.le_refl, fun _ => ?_, fun _ => rfl⟩
    show (0 : Rat) = _
    rw [sm_zero]
    intro n _ _
    unfold wp wt
    rw [if_pos rfl, if_pos (by decide)]
  · have hw : wS (wt f m) c = rs (c.map (sh f)) - (m : Rat) * thr f m := by
      have := rs_shift f (thr f m) c
      rw [hm] at this
      rw [← this]
      unfold wS
      exact rs_congr fun x _ => if_neg h1
    rw [wp_up (by omega) h2] at hle ⊢
    rw [hw] at hle ⊢
    refine ⟨by grind, ?_⟩
    constructor <;> intro z <;> grind
end DL
set_option Elab.async false
set_option linter.all false
set_option maxRecDepth 100000
set_option maxHeartbeats 4000000
namespace DL
open PySem L2
theorem nG_is (w : Nat → Rat) : ∀ n, nG w n = (((List.range n).map (· + 1)).filter fun x => decide (0 < w x)).length
  | 0 => rfl
  | n + 1 => by
    show nG w n + _ = _
    rw [List.range_succ, List.map_append, List.filter_append, List.length_append, nG_is w n]
    congr 1
    show _ = (List.filter _ [n + 1]).length
    by_cases h : 0 < w (n + 1)
    · rw [if_pos h, List.filter_cons_of_pos (by simpa using h)]
      rfl
    · rw [if_neg h, List.filter_cons_of_neg (by simpa using h)]
      rfl
theorem nE_is (w : Nat → Rat) : ∀ n, nE w n = (((List.range n).map (· + 1)).filter fun x => decide (w x = 0)).length
  | 0 => rfl
  | n + 1 => by
    show nE w n + _ = _
    rw [List.range_succ, List.map_append, List.filter_append, List.length_append, nE_is w n]
    congr 1
    show _ = (List.filter _ [n + 1]).length
    by_cases h : w (n + 1) = 0
    · rw [if_pos h, List.filter_cons_of_pos (by simpa using h)]
      rfl
    · rw [if_neg h, List.filter_cons_of_neg (by simpa using h)]
      rfl
def tieS (f : List Int) (m : Nat) : Nat := if m = 0 then 0 else (((ord f).take m).filter fun x => decide (sh f x = thr f m)).length
def tieA (f : List Int) (m : Nat) : Nat := if m = 0 then 0 else ((ord f).filter fun x => decide (sh f x = thr f m)).length
theorem two_len {α : Type} (p q : α → Bool) : ∀ l : List α, (∀ x ∈ l, p x = !q x) → (l.filter p).length + (l.filter q).length = l.length
  | [], _ => rfl
  | x :: l, h => by
    have ih := two_len p q l fun y hy => h y (List.mem_cons_of_mem _ hy)
    have hx := h x (List.mem_cons_self ..)
    cases e : q x with
    | true =>
      rw [e] at hx
      rw [List.filter_cons_of_neg (by rw [hx]; decide), List.filter_cons_of_pos e, List.length_cons, List.length_cons]
      omega
    | false =>
      rw [e] at hx
      rw [List.filter_cons_of_pos (by rw [hx]; rfl), List.filter_cons_of_neg (by rw [e]; decide), List.length_cons, List.length_cons]
      omega
theorem ties_nE {f : List Int} {m : Nat} : nE (wt f m) (f.length - 1) = tieA f m := by
  rw [nE_is, ← ((ord_perm f (f.length - 1)).filter _).length_eq]
  unfold tieA
  by_cases h : m = 0
  · rw [if_pos h, filter_none]
    · rfl
    · intro x _
      unfold wt
      rw [if_pos h]
      decide +kernel
  · rw [if_neg h]
    congr 1
    apply List.filter_congr
    intro x _
    unfold wt
    rw [if_neg h]
    exact decide_eq_decide.mpr ⟨fun z => by grind, fun z => by grind⟩
theorem ties_nG {f : List Int} {m : Nat} (h2 : m ≤ f.length - 1) : nG (wt f m) (f.length - 1) + tieS f m = m := by
  have hl : (ord f).length = f.length - 1 := ord_len f _
  rw [nG_is, ← ((ord_perm f (f.length - 1)).filter _).length_eq]
  unfold tieS
  by_cases h : m = 0
  · rw [if_pos h, filter_none]
    · exact h.symm
    · intro x _
      unfold wt
      rw [if_pos h]
      decide +kernel
  · rw [if_neg h]
    have hw : ∀ x, wt f m x = sh f x - thr f m := fun x => if_neg h
    have e : (ordK f (f.length - 1)).filter (fun x => decide (0 < wt f m x)) = ((ord f).take m).filter fun x => decide (0 < wt f m x) := by
      have e1 : ((ord f).drop m).filter (fun x => decide (0 < wt f m x)) = [] := filter_none fun x hx => decide_eq_false (by
        have := drop_le (by omega) h2 hx
        rw [hw]
        grind)
      show (ord f).filter _ = _
      conv => lhs; rw [← ord_split f m]
      rw [List.filter_append, e1, List.append_nil]
    rw [e]
    refine (two_len _ _ _ fun x hx => ?_).trans (by rw [List.length_take, hl]; omega)
    have := take_ge (by omega) h2 hx
    rw [hw]
    by_cases q : sh f x = thr f m
    · rw [decide_eq_true q, decide_eq_false (by grind)]
      rfl
    · rw [decide_eq_false q, decide_eq_true (by grind)]
      rfl
/-- as many best choices as the binomial says -/
theorem best_count {f : List Int} {m : Nat} (h2 : m ≤ f.length - 1) :
    ((chs (f.length - 1)).filter fun c => decide (c.length = m) && decide (lo f (iL c) = er f m)).length = bin (tieA f m) (tieS f m) := by
  have hG := ties_nG (f := f) h2
  have e := cn_is (wt f m) (f.length - 1) m
  rw [if_pos (by omega), ties_nE, show m - nG (wt f m) (f.length - 1) = tieS f m by omega] at e
  rw [← e]
  unfold cn
  rw [← gch_is, List.filter_filter]
  congr 1
  apply List.filter_congr
  intro c hc
  by_cases q : c.length = m
  · rw [decide_eq_true q, Bool.true_and, Bool.true_and]
    exact decide_eq_decide.mpr (best_iff h2 hc q).2
  · rw [decide_eq_false q, Bool.false_and, Bool.false_and]
theorem choose_is {s c : Nat} (h1 : s ≤ c) (h2 : c ≤ 7) (S : Store) : m_choose [.int (s : Int), .int (c : Int)] S = .ok (.int (bin c s : Int)) S := by
  have q : c = 0 ∨ c = 1 ∨ c = 2 ∨ c = 3 ∨ c = 4 ∨ c = 5 ∨ c = 6 ∨ c = 7 := by omega
  have r : s = 0 ∨ s = 1 ∨ s = 2 ∨ s = 3 ∨ s = 4 ∨ s = 5 ∨ s = 6 ∨ s = 7 := by omega
  rcases q with rfl | rfl | rfl | rfl | rfl | rfl | rfl | rfl <;> rcases r with rfl | rfl | rfl | rfl | rfl | rfl | rfl | rfl <;> first | omega | kernel_rfl
end DL
set_option Elab.async false
set_option linter.all false
set_option maxRecDepth 100000
set_option maxHeartbeats 4000000
namespace DL
open PySem L2
theorem kept_chs {l : Nat} (hl : 1 ≤ l) {c : List Nat} (h : c ∈ chs (l - 1)) : Kept l (iL c) := by
  obtain ⟨h1, h2⟩ := chs_in h
  refine ⟨List.pairwise_map.mpr (h1.imp fun h => by omega), fun k hk => ?_⟩
  obtain ⟨x, hx, rfl⟩ := List.mem_map.mp hk
  have := h2 x hx
  omega
theorem tie_list {f : List Int} (h : Fm f) {xs : List Nat} (hx : ∀ n ∈ xs, n < f.length) (hs : xs.length ≤ 16) {it : DE} {t : Rat} {v s2 s4 : Slot} {S : Store} (hi : it [.val (L f), v, s2, .val (fr t), s4, .emp] S = .ok (L (iL xs)) S) :
    eLc it (tgName 5) (eBin oEq (eCall m_share_of (aCons (eVar 0) (aCons (eVar 5) aNil))) (eVar 3)) (eVar 5) [.val (L f), v, s2, .val (fr t), s4, .emp] S = .ok (L (iL (xs.filter fun x => decide (sh f x = t)))) S := by
  have := eLc_intsF (it := it) (c := eBin oEq (eCall m_share_of (aCons (eVar 0) (aCons (eVar 5) aNil))) (eVar 3)) (e := eVar 5) (j := 5) (ρ := [.val (L f), v, s2, .val (fr t), s4, .emp]) (S := S) (ns := iL xs) (fun n => decide (sh f n.toNat = t)) (fun n => .int n) hi (by rw [List.length_map]; omega) (fun n hn => by
    obtain ⟨m, hm, rfl⟩ := List.mem_map.mp hn
    rw [Int.toNat_natCast]
    exact eBin_ok (eCall_ok (aCons_ok (eVar_ok rfl) (aCons_ok (eVar_ok rfl) aNil_ok)) (share_of_is h (hx m hm) S)) (eVar_ok rfl) (oEq_fr _ _ S)) (fun n _ _ => eVar_ok rfl)
  rw [this, List.filter_map]
  rfl
theorem ties_is {f : List Int} (h : Fm f) {m : Nat} (hm : m ≤ f.length - 1) (S : Store) : m_ties [L f, .int (m : Int)] S = .ok (.tup [.int (tieS f m : Int), .int (tieA f m : Int)]) S := by
  have hl := h.len
  have hl16 : 1 ≤ f.length ∧ f.length ≤ 16 := by unfold Len16 at hl; omega
  have hlen : (ord f).length = f.length - 1 := ord_len f _
  by_cases h0 : m = 0
  · subst h0
    exact runD_ret rfl (sSeq_ok (sAsg_ok (eCall_ok (aCons_ok (eVar_ok rfl) aNil_ok) (in_order_is h S)) rfl) (sSeq_ret (sIf_t (S1 := S) (eBin_ok (eVar_ok rfl) eC_ok (eq_I rfl S)) (sRet_ok (eTup_ok (aCons_ok eC_ok (aCons_ok eC_ok aNil_ok)))))))
  · have hx1 : ∀ n ∈ ord f, n < f.length := fun n hn => (ord_in hn).2
    have hx2 : ∀ n ∈ (ord f).take m, n < f.length := fun n hn => (ord_in (List.mem_of_mem_take hn)).2
    have hat := ord_at (f := f) (m := m) (by omega) hm
    have hmem : (ord f).getD (m - 1) 0 ∈ ord f := List.mem_of_getElem? hat
    have hix : oIx (L (iL (ord f))) (.int ((m : Int) - 1)) S = .ok (.int (((ord f).getD (m - 1) 0 : Nat) : Int)) S := oIx_L (by omega) (by
      rw [show ((m : Int) - 1).toNat = m - 1 by omega, List.getElem?_map, hat]
      rfl)
    have hsl : oSl (L (iL (ord f))) none (some (m : Int)) S = .ok (L (iL ((ord f).take m))) S := by
      rw [cut_to (by rw [List.length_map]; omega), ← List.map_take]
    refine runD_ret rfl (sSeq_ok (S1 := S) (sAsg_ok (eCall_ok (aCons_ok (eVar_ok rfl) aNil_ok) (in_order_is h S)) rfl) (sSeq_ok (S1 := S) (sIf_f (S1 := S) (eBin_ok (eVar_ok rfl) eC_ok (by rw [oEq_int, decide_eq_false (by omega)])) sSkip_ok)
      (sSeq_ok (S1 := S) (sAsg_ok (d := fr (thr f m)) (eCall_ok (aCons_ok (eVar_ok rfl) (aCons_ok (eBin_ok (eVar_ok rfl) (eBin_ok (eVar_ok rfl) eC_ok oSub_ii) hix) aNil_ok)) (share_of_is h (hx1 _ hmem) S)) rfl)
      (sSeq_ok (S1 := S) (sAsg_ok (tie_list h hx1 (by omega) (eSeq_l (eVar_ok rfl))) rfl) (sRet_ok ?_)))))
    have e1 := tie_list h hx2 (by rw [List.length_take]; omega) (it := eSeq (eSl (eVar 2) pNo (pSome (eVar 1)))) (t := thr f m) (v := .val (.int (m : Int))) (s2 := .val (L (iL (ord f)))) (s4 := .val (L (iL ((ord f).filter fun x => decide (sh f x = thr f m))))) (S := S) (eSeq_l (eSl_ok (eVar_ok rfl) pNo_ok (pSome_ok (eVar_ok rfl)) hsl))
    unfold tieS tieA
    rw [if_neg h0, if_neg h0]
    have k1 : ∀ xs : List Nat, oLen [L (iL xs)] S = .ok (.int (xs.length : Int)) S := fun xs => by
      rw [oLen_L, List.length_map]
    exact eTup_ok (aCons_ok (eCall_ok (aCons_ok e1 aNil_ok) (k1 _)) (aCons_ok (eCall_ok (aCons_ok (eVar_ok rfl) aNil_ok) (k1 _)) aNil_ok))
theorem tie_le {f : List Int} {m : Nat} : tieS f m ≤ tieA f m ∧ tieA f m ≤ f.length - 1 := by
  have hlen : (ord f).length = f.length - 1 := ord_len f _
  unfold tieS tieA
  by_cases h : m = 0
  · rw [if_pos h, if_pos h]
    omega
  · rw [if_neg h, if_neg h]
    refine ⟨((List.take_sublist m _).filter _).length_le, ?_⟩
    have := List.length_filter_le (fun x => decide (sh f x = thr f m)) (ord f)
    omega
theorem count_best_is {f : List Int} (h : Fm f) {m : Nat} (hm : m < f.length) (h8 : f.length ≤ 8) (S : Store) : m_count_best [L f, .int (m : Int)] S = .ok (.int (bin (tieA f m) (tieS f m) : Int)) S :=
  runD_ret rfl (sSeq_ok (sExpr_ok (eCall_ok (aCons_ok (eVar_ok rfl) aNil_ok) (check_form_ok h S))) (sSeq_ok (sExpr_ok (eCall_ok (aCons_ok (eVar_ok rfl) (aCons_ok (eVar_ok rfl) aNil_ok)) (check_many_ok hm S))) (sSeq_ok (S1 := S) (sAsg_ok (eCall_ok (aCons_ok (eVar_ok rfl) (aCons_ok (eVar_ok rfl) aNil_ok)) (ties_is h (by omega) S)) rfl)
    (sRet_ok (eCall_ok (aCons_ok (eVar_ok rfl) (aCons_ok (eVar_ok rfl) aNil_ok)) (choose_is tie_le.1 (by have := (tie_le (f := f) (m := m)).2; omega) S))))))
theorem is_best_is {f : List Int} (h : Fm f) {c : List Nat} (hc : Kept f.length (iL c)) (S : Store) : m_is_best [L f, T (iL c)] S = .ok (.bl (decide (rs (c.map (sh f)) = up f c.length))) S := by
  have hl := h.len
  have hl16 : 1 ≤ f.length ∧ f.length ≤ 16 := by unfold Len16 at hl; omega
  have hlen : (ord f).length = f.length - 1 := ord_len f _
  have hcl := hc.len hl16.1
  rw [List.length_map] at hcl
  have hx1 : ∀ n ∈ c, n < f.length := fun n hn => by
    have := hc.mem (n : Int) (List.mem_map.mpr ⟨n, hn, rfl⟩)
    omega
  have hx2 : ∀ n ∈ (ord f).take c.length, n < f.length := fun n hn => (ord_in (List.mem_of_mem_take hn)).2
  have hsl : oSl (L (iL (ord f))) none (some (c.length : Int)) S = .ok (L (iL ((ord f).take c.length))) S := by
    rw [cut_to (by rw [List.length_map]; omega), ← List.map_take]
  have k1 : oLen [T (iL c)] S = .ok (.int (c.length : Int)) S := by
    show Out.ok (.int ((((iL c).map D.int).length : Nat) : Int)) S = _
    rw [List.length_map, List.length_map]
  exact runD_ret rfl (sSeq_ok (sExpr_ok (eCall_ok (aCons_ok (eVar_ok rfl) aNil_ok) (check_form_ok h S))) (sSeq_ok (sExpr_ok (eCall_ok (aCons_ok (eVar_ok rfl) (aCons_ok (eVar_ok rfl) aNil_ok)) (check_kept_ok hl hc S)))
    (sSeq_ok (S1 := S) (sAsg_ok (eCall_ok (aCons_ok (sh_list h hx1 (eSeq_t (eVar_ok rfl)) (by omega) (fun x => ⟨rfl, rfl⟩)) aNil_ok) (tot_list h hx1 (by omega) S)) rfl)
    (sRet_ok (eBin_ok (eVar_ok rfl) (eCall_ok (aCons_ok (sh_list h hx2 (eSeq_l (eSl_ok (eCall_ok (aCons_ok (eVar_ok rfl) aNil_ok) (in_order_is h S)) pNo_ok (pSome_ok (eCall_ok (aCons_ok (eVar_ok rfl) aNil_ok) k1)) hsl)) (by rw [List.length_take]; omega) (fun x => ⟨rfl, rfl⟩)) aNil_ok) (tot_list h hx2 (by rw [List.length_take]; omega) S)) (oEq_fr _ _ S))))))
theorem pickD {R S : Store} (h : IsDr R S) {ds : List D} (hn : ds ≠ []) (hl : ds.length < 1000000) : ∃ d S', m_law_pick [.obj 1, .lst ds] S = .ok d S' ∧ d ∈ ds ∧ IsDr R S' := by
  have hp := List.length_pos_iff.mpr hn
  obtain ⟨i, S', h1, h2, h3, h4⟩ := draw_is h (lim := (ds.length : Int)) (by omega) (by omega)
  have hi : i.toNat < ds.length := by omega
  have hx : ds[i.toNat]? = some ds[i.toNat] := by simp [hi]
  refine ⟨ds[i.toNat], S', runD_ret rfl ?_, List.getElem_mem hi, h4⟩
  have hix : oIx (.lst ds) (.int i) S' = .ok ds[i.toNat] S' := by
    have q : atI ds i = some ds[i.toNat] := atI_of h2 hx
    show (match atI ds i with
        | some y => Out.ok y S'
        | none => .bad) = _
    rw [q]
  show b_law_pick [.val (.obj 1), .val (.lst ds)] S = _
  unfold b_law_pick
  exact sRet_ok (eBin_ok (eVar_ok rfl) (eCall_ok (aCons_ok (eVar_ok rfl) (aCons_ok (eCall_ok (aCons_ok (eVar_ok rfl) aNil_ok) oLen_l) aNil_ok)) h1) hix)
/-- the choices, as data -/
abbrev CT (c : List Nat) : D := T (iL c)
abbrev CH (n : Nat) : D := .lst ((chs n).map CT)
end DL
set_option Elab.async false
set_option linter.all false
set_option maxRecDepth 100000
set_option maxHeartbeats 4000000
namespace DL
open PySem L2
theorem chs_all : ∀ {n : Nat} {c : List Nat}, c.Pairwise (· < ·) → (∀ x ∈ c, 1 ≤ x ∧ x ≤ n) → c ∈ chs n
  | 0, c, _, h2 => by
    cases c with
    | nil => exact List.mem_singleton.mpr rfl
    | cons x c =>
      have := h2 x (List.mem_cons_self ..)
      omega
  | n + 1, c, h1, h2 => by
    by_cases q : n + 1 ∈ c
    · rcases List.eq_nil_or_concat c with e | ⟨d, x, e⟩
      · rw [e] at q
        cases q
      · rw [List.concat_eq_append] at e
        subst e
        obtain ⟨p1, _, p3⟩ := List.pairwise_append.mp h1
        have hx : x = n + 1 := by
          have b := h2 x (List.mem_append.mpr (.inr (List.mem_singleton.mpr rfl)))
          rcases List.mem_append.mp q with q | q
          · have := p3 _ q x (List.mem_singleton.mpr rfl)
            omega
          · exact (List.mem_singleton.mp q).symm
        subst hx
        refine List.mem_append.mpr (.inr (List.mem_map.mpr ⟨d, chs_all p1 fun y hy => ?_, rfl⟩))
        have := h2 y (List.mem_append.mpr (.inl hy))
        have := p3 y hy _ (List.mem_singleton.mpr rfl)
        omega
    · refine List.mem_append.mpr (.inl (chs_all h1 fun y hy => ?_))
      have := h2 y hy
      have : y ≠ n + 1 := fun e => q (e ▸ hy)
      omega
theorem oAdd_ll {a b : List D} {S : Store} (h : a.length + b.length ≤ 100000) : oAdd (.lst a) (.lst b) S = .ok (.lst (a ++ b)) S := by
  unfold oAdd
  simp only []
  rw [if_pos h]
theorem CT_snoc (c : List Nat) (n : Nat) : CT (c ++ [n]) = .tup ((iL c).map D.int ++ [.int (n : Int)]) := by
  show D.tup ((iL (c ++ [n])).map D.int) = _
  rw [show iL (c ++ [n]) = iL c ++ [(n : Int)] from List.map_append .., List.map_append]
  rfl
theorem CH_len {n : Nat} (h : n ≤ 7) : ((chs n).map CT).length ≤ 128 := by
  rw [List.length_map, chs_len]
  exact Nat.le_trans (Nat.pow_le_pow_right (by omega) h) (by decide)
/-- choices + [one + (number,) for one in choices] -/
theorem ch_step {n : Nat} (h : n < 7) {ρ : DEnv} {S : Store} (g5 : ρ[5]? = some (.val (CH n))) (g : ∀ x, (ρ.set 9 x)[9]? = some x ∧ (ρ.set 9 x)[6]? = some (.val (.int ((n + 1 : Nat) : Int)))) :
    (eBin oAdd (eVar 5) (eLc (eSeq (eVar 5)) (tgName 9) eYes (eBin oCatT (eVar 9) (eTup (aCons (eVar 6) aNil))))) ρ S = .ok (CH (n + 1)) S := by
  have hcl := CH_len (n := n) (by omega)
  have hlc := eLc_map (it := eSeq (eVar 5)) (t := tgName 9) (e := eBin oCatT (eVar 9) (eTup (aCons (eVar 6) aNil))) (ρ := ρ) (S := S) (ds := (chs n).map CT) (fun d => match d with | .tup xs => .tup (xs ++ [.int ((n + 1 : Nat) : Int)]) | _ => .non) (eSeq_l (eVar_ok g5)) (by omega) (fun d _ => ⟨_, rfl⟩) (fun d hd => by
    obtain ⟨c, hc, rfl⟩ := List.mem_map.mp hd
    have hcn := (kept_chs (l := n + 1) (by omega) hc).len (by omega)
    refine eBin_ok (ρ := ρ.set 9 (.val (CT c))) (eVar_ok (g _).1) (eTup_ok (aCons_ok (eVar_ok (g _).2) aNil_ok)) ?_
    show (if _ then _ else _) = _
    rw [if_pos (by rw [List.length_map]; simp at hcn ⊢; omega)])
  refine eBin_ok (eVar_ok g5) hlc ?_
  rw [oAdd_ll (by rw [List.length_map (as := (chs n).map CT)]; omega)]
  congr 2
  show _ = (chs n ++ (chs n).map (· ++ [n + 1])).map CT
  rw [List.map_append, List.map_map, List.map_map]
  congr 1
  apply List.map_congr_left
  intro c _
  exact (CT_snoc c (n + 1)).symm
theorem ixF {q : Nat → Rat} {l n : Nat} (h : n < l) (S : Store) : oIx (.lst ((List.range l).map fun i => fr (q i))) (.int (n : Int)) S = .ok (fr (q n)) S := by
  have e : atI ((List.range l).map fun i => fr (q i)) (n : Int) = some (fr (q n)) := atI_of (by omega) (by
    rw [Int.toNat_natCast, List.getElem?_map, List.getElem?_range h]
    rfl)
  show (match atI ((List.range l).map fun i => fr (q i)) (n : Int) with
      | some y => Out.ok y S
      | none => .bad) = _
  rw [e]
def RW (f : List Int) (c : List Nat) : D := .tup [CT c, fr (lo f (iL c))]
/-- the least of what is left out -/
theorem min_loop {f : List Int} {b : D → DS} {S : Store} {st : Slot → Slot → Rat → DEnv} {e : Rat} {Q : Rat → Prop} (hQ : ∀ c, Q (lo f (iL c))) (hb : ∀ c s9 s13 q, Q q → b (RW f c) (st s9 s13 q) S = .nx (st (.val (CT c)) (.val (fr (lo f (iL c)))) (if lo f (iL c) < q then lo f (iL c) else q)) S) :
    ∀ (cs : List (List Nat)) (s9 s13 : Slot) (q : Rat), (∀ c ∈ cs, e ≤ lo f (iL c)) → Q q → e ≤ q → (q = e ∨ ∃ c ∈ cs, lo f (iL c) = e) → ∃ t9 t13, loopF b (cs.map (RW f)) (st s9 s13 q) S = .nx (st t9 t13 e) S
  | [], s9, s13, q, _, _, _, h => by
    rcases h with rfl | ⟨c, hc, _⟩
    · exact ⟨s9, s13, rfl⟩
    · cases hc
  | c :: cs, s9, s13, q, h1, hq, h2, h3 => by
    have hc := h1 c (List.mem_cons_self ..)
    obtain ⟨t9, t13, ih⟩ := min_loop hQ hb cs (.val (CT c)) (.val (fr (lo f (iL c)))) (if lo f (iL c) < q then lo f (iL c) else q) (fun d hd => h1 d (List.mem_cons_of_mem _ hd)) (by split <;> first | exact hQ c | exact hq) (by split <;> assumption) (by
      rcases h3 with rfl | ⟨d, hd, he⟩
      · left
        rw [if_neg (by grind)]
      · rcases List.mem_cons.mp hd with rfl | hd
        · left
          split <;> grind
        · exact .inr ⟨d, hd, he⟩)
    refine ⟨t9, t13, ?_⟩
    show loopF b (RW f c :: cs.map (RW f)) _ S = _
    unfold loopF
    rw [hb c s9 s13 q hq]
    exact ih
/-- the rows: the choices of size m, with what they leave out -/
theorem row_loop {f : List Int} {b : D → DS} {S : Store} {st : Slot → List D → DEnv} {m : Nat} {P : List Nat → Prop} (hb : ∀ c s9 rows, P c → rows.length < 1000 → b (CT c) (st s9 rows) S = .nx (st (.val (CT c)) (if c.length = m then rows ++ [RW f c] else rows)) S) :
    ∀ (cs : List (List Nat)) (s9 : Slot) (rows : List D), (∀ c ∈ cs, P c) → rows.length + cs.length < 1000 → ∃ t9, loopF b (cs.map CT) (st s9 rows) S = .nx (st t9 (rows ++ (cs.filter fun c => decide (c.length = m)).map (RW f))) S
  | [], s9, rows, _, _ => ⟨s9, by
    show OutS.nx _ S = _
    rw [List.filter_nil, List.map_nil, List.append_nil]⟩
  | c :: cs, s9, rows, h1, h2 => by
    rw [List.length_cons] at h2
    obtain ⟨t9, ih⟩ := row_loop hb cs (.val (CT c)) (if c.length = m then rows ++ [RW f c] else rows) (fun d hd => h1 d (List.mem_cons_of_mem _ hd)) (by
      split
      · rw [List.length_append]
        simp
        omega
      · omega)
    refine ⟨t9, ?_⟩
    show loopF b (CT c :: cs.map CT) _ S = _
    unfold loopF
    rw [hb c s9 rows (h1 c (List.mem_cons_self ..)) (by omega)]
    simp only []
    rw [ih]
    by_cases q : c.length = m
    · rw [if_pos q, List.filter_cons_of_pos (by simpa using q), List.map_cons, List.append_assoc]
      rfl
    · rw [if_neg q, List.filter_cons_of_neg (by simpa using q)]
theorem oIn_CT {cs : List (List Nat)} {ks : List Int} {c : List Nat} (hc : c ∈ cs) (e : iL c = ks) (S : Store) : oIn true (T ks) (.lst (cs.map CT)) S = .ok (.bl false) S := by
  have okT : ∀ ns : List Int, okD 5 (T ns) = true := fun ns => okD_all D.int (fun x => okD_int 4 x) ns
  have h1 : (cs.map CT).all (okD 5) = true := by
    rw [List.all_map, List.all_eq_true]
    intro x _
    exact okT _
  have h2 : inD (T ks) (cs.map CT) = true := by
    unfold inD
    rw [List.any_map, List.any_eq_true]
    refine ⟨c, hc, ?_⟩
    show eqD (T (iL c)) (T ks) = true
    rw [eqD_T, decide_eq_true e]
  show (if flatD (T ks) && (cs.map CT).all flatD then Out.ok (.bl (!inD (T ks) (cs.map CT))) S else if okD 5 (T ks) && (cs.map CT).all (okD 5) then Out.ok (.bl (!inD (T ks) (cs.map CT))) S else .bad) = _
  rw [h2, h1, okT]
  split <;> rfl
end DL
set_option Elab.async false
set_option linter.all false
set_option maxRecDepth 100000
set_option maxHeartbeats 4000000
namespace DL.K06
open PySem L2
theorem cut8 {f : List Int} (hl : Len16 f.length) (S : Store) : oSl (L f) none (some 8) S = .ok (L (f.take 8)) S := by
  rcases hl with e | e | e | e | e
  · obtain ⟨a, rfl⟩ := list1 e
    kernel_rfl
  · obtain ⟨a, b, rfl⟩ := list2 e
    kernel_rfl
  · obtain ⟨a, b, c, d, rfl⟩ := list4 e
    kernel_rfl
  · exact cut_to (b := 8) (by omega) S
  · exact cut_to (b := 8) (by omega) S
def pG (e : Rat) : D → Bool
  | .tup [_, x] => eqD x (fr e)
  | _ => false
def fG : D → D
  | .tup [x, _] => x
  | _ => .non
theorem good_is (g : List Int) (e : Rat) (R : List (List Nat)) : ((R.map (RW g)).filter (pG e)).map fG = (R.filter fun c => decide (lo g (iL c) = e)).map CT := by
  have h : (pG e ∘ RW g) = fun c => decide (lo g (iL c) = e) := funext fun c => eqD_fr _ _
  rw [List.filter_map, List.map_map, h]
  rfl
theorem lt_is (b : Bool) (S : Store) : m_law_true [.bl b, .bl b] S = .ok (.bl true) S := by cases b <;> kernel_rfl
theorem len_T (c : List Nat) (S : Store) : oLen [CT c] S = .ok (.int (c.length : Int)) S := by
  show Out.ok (.int ((((iL c).map D.int).length : Nat) : Int)) S = _
  rw [List.length_map, List.length_map]
theorem turn8 {ns g : List Int} (h : Fm g) {m : Nat} {c : List Nat} {S : Store} {s6 : Slot} {rows : List D} (hr : rows.length < 1000) : (sIf (eBin oEq (eCall oLen (aCons (eVar 9) aNil)) (eVar 7)) (sApp 8 (eTup (aCons (eVar 9) (aCons (eCall m_law_total (aCons (eLc (eRng (aCons (eC (.int 1)) (aCons (eVar 3) aNil))) (tgName 6) (eBin (oIn true) (eVar 6) (eVar 9)) (eBin oIx (eVar 4) (eVar 6))) aNil)) aNil)))) sSkip) [.val (.fls (ns.map D.int)), .val (.obj 1), .val (L g), .val (.int (g.length : Int)), .val (.lst ((List.range g.length).map fun i => fr (sh g i))), .val (CH (g.length - 1)), s6, .val (.int (m : Int)), .own rows, .val (CT c), .emp, .emp, .emp, .emp, .emp] S = .nx [.val (.fls (ns.map D.int)), .val (.obj 1), .val (L g), .val (.int (g.length : Int)), .val (.lst ((List.range g.length).map fun i => fr (sh g i))), .val (CH (g.length - 1)), s6, .val (.int (m : Int)), .own (if c.length = m then rows ++ [RW g c] else rows), .val (CT c), .emp, .emp, .emp, .emp, .emp] S := by
  have hl := h.len
  have hl16 : 1 ≤ g.length ∧ g.length ≤ 16 := by unfold Len16 at hl; omega
  by_cases q : c.length = m
  · rw [if_pos q]
    have e : lo g (iL c) = rs (((List.range (g.length - 1)).filter fun i => !decide (((i + 1 : Nat) : Int) ∈ iL c)).map fun i => sh g (i + 1)) := sm_filter (sh g) (fun n => !decide (((n : Nat) : Int) ∈ iL c)) (g.length - 1)
    have key := law_total_is (j := 4) (B := 1600000000) (by decide) (qs := ((List.range (g.length - 1)).filter fun i => !decide (((i + 1 : Nat) : Int) ∈ iL c)).map fun i => sh g (i + 1)) (fun q hq => by
      obtain ⟨i, hi, rfl⟩ := List.mem_map.mp hq
      have := List.mem_range.mp (List.mem_filter.mp hi).1
      exact sh_dy h (by omega)) (by
      rw [List.length_map]
      have := List.length_filter_le (fun i => !decide (((i + 1 : Nat) : Int) ∈ iL c)) (List.range (g.length - 1))
      rw [List.length_range] at this
      omega) S
    rw [← e] at key
    have e2 : FL (((List.range (g.length - 1)).filter fun i => !decide (((i + 1 : Nat) : Int) ∈ iL c)).map fun i => sh g (i + 1)) = .lst (((List.range (g.length - 1)).filter fun i => !decide (((i + 1 : Nat) : Int) ∈ iL c)).map fun i => fr (sh g (i + 1))) := by
      show D.lst (List.map fr (List.map _ _)) = _
      rw [List.map_map]
      rfl
    rw [e2] at key
    refine sIf_t (S1 := S) (eBin_ok (eCall_ok (aCons_ok (eVar_ok rfl) aNil_ok) (len_T c S)) (eVar_ok rfl) (eq_I (by omega) S)) (sApp_ok rfl (eTup_ok (aCons_ok (eVar_ok rfl) (aCons_ok (eCall_ok (aCons_ok (eLc_rgF (a := 1) (n := g.length - 1) (fun i => !decide (((i + 1 : Nat) : Int) ∈ iL c)) (fun i => fr (sh g (i + 1))) (eRng_ok (aCons_ok eC_ok (aCons_ok (eVar_ok rfl) aNil_ok)) (rgN (a := 1) (by omega) (by omega) S)) (by omega) (fun i hi => ?_) (fun i hi _ => ?_)) aNil_ok) key) aNil_ok))) (by omega))
    · rw [Nat.add_comm 1 i]
      exact eBin_ok (eVar_ok rfl) (eVar_ok rfl) (oNotIn_T _ (iL c) S)
    · rw [Nat.add_comm 1 i]
      exact eBin_ok (eVar_ok rfl) (eVar_ok rfl) (ixF (q := sh g) (by omega) S)
  · rw [if_neg q]
    exact sIf_f (S1 := S) (eBin_ok (eCall_ok (aCons_ok (eVar_ok rfl) aNil_ok) (len_T c S)) (eVar_ok rfl) (by rw [oEq_int, decide_eq_false (by omega)])) sSkip_ok
theorem law_true : LawTrue m_law := by
  intro ns _
  obtain ⟨S1, a1, a2⟩ := start_is ns
  obtain ⟨f, S2, b1, b2, b3⟩ := form_is a2
  have hcut := cut8 b2.len S2
  have bg : IsForm (f.take 8) := ⟨by
    have := b2.len
    unfold Len16 at this ⊢
    rw [List.length_take]
    omega, fun x hx => b2.val x (List.mem_of_mem_take hx)⟩
  have h8 : (f.take 8).length ≤ 8 := by
    rw [List.length_take]
    omega
  generalize f.take 8 = g at hcut bg h8
  have h := bg.fm
  have hl := h.len
  have hl16 : 1 ≤ g.length ∧ g.length ≤ 16 := by unfold Len16 at hl; omega
  obtain ⟨ρ5, S5, l5, eS5, s6, rfl⟩ := for_inv (b := (sAsg (eBin oAdd (eVar 5) (eLc (eSeq (eVar 5)) (tgName 9) eYes (eBin oCatT (eVar 9) (eTup (aCons (eVar 6) aNil))))) (tgName 5))) (it := (eRng (aCons (eC (.int 1)) (aCons (eVar 3) aNil)))) (j := 6) (lo := 1) (n := g.length - 1) (fun k ρ S' => S' = S2 ∧ ∃ s6, ρ = [.val (.fls (ns.map D.int)), .val (.obj 1), .val (L g), .val (.int (g.length : Int)), .val (.lst ((List.range g.length).map fun i => fr (sh g i))), .val (CH k), s6, .emp, .emp, .emp, .emp, .emp, .emp, .emp, .emp]) (ρ := [.val (.fls (ns.map D.int)), .val (.obj 1), .val (L g), .val (.int (g.length : Int)), .val (.lst ((List.range g.length).map fun i => fr (sh g i))), .val (CH 0), .emp, .emp, .emp, .emp, .emp, .emp, .emp, .emp, .emp]) (S := S2)
    (eRng_ok (aCons_ok eC_ok (aCons_ok (eVar_ok rfl) aNil_ok)) (rgN (a := 1) (by omega) (by omega) S2)) ⟨rfl, _, rfl⟩ (fun i ρ S' hi ⟨hS, s6, hρ⟩ => by
      subst hS hρ
      rw [show (1 : Int) + ((i : Nat) : Int) = ((i + 1 : Nat) : Int) by omega]
      exact ⟨_, S', sAsg_ok (ch_step (n := i) (by omega) rfl (fun x => ⟨rfl, rfl⟩)) rfl, rfl, _, rfl⟩)
  rw [eS5] at l5
  obtain ⟨v, S3, c1, c2, c3, c4⟩ := draw_is b3 (lim := (g.length : Int)) (by omega) (by omega)
  obtain ⟨m, rfl⟩ : ∃ m : Nat, v = (m : Int) := ⟨v.toNat, by omega⟩
  have hm : m < g.length := by omega
  have hm1 : m ≤ g.length - 1 := by omega
  have hchl := CH_len (n := g.length - 1) (by omega)
  rw [List.length_map] at hchl
  obtain ⟨t9, l8⟩ := row_loop (f := g) (m := m) (P := fun _ => True) (S := S3) (b := turnF (tgName 9) (sIf (eBin oEq (eCall oLen (aCons (eVar 9) aNil)) (eVar 7)) (sApp 8 (eTup (aCons (eVar 9) (aCons (eCall m_law_total (aCons (eLc (eRng (aCons (eC (.int 1)) (aCons (eVar 3) aNil))) (tgName 6) (eBin (oIn true) (eVar 6) (eVar 9)) (eBin oIx (eVar 4) (eVar 6))) aNil)) aNil)))) sSkip)) (st := fun s9 rows => [.val (.fls (ns.map D.int)), .val (.obj 1), .val (L g), .val (.int (g.length : Int)), .val (.lst ((List.range g.length).map fun i => fr (sh g i))), .val (CH (g.length - 1)), s6, .val (.int (m : Int)), .own rows, s9, .emp, .emp, .emp, .emp, .emp]) (fun c s9 rows _ hr => turn8 h hr) (chs (g.length - 1)) .emp [] (fun _ _ => trivial) (by simp; omega)
  rw [List.nil_append] at l8
  -- the best choice
  obtain ⟨cb, hcb, ecb⟩ : ∃ cb, cb ∈ chs (g.length - 1) ∧ iL cb = bk g m := by
    have hk := bk_kept g m
    have e : iL ((bk g m).map Int.toNat) = bk g m := by
      show List.map _ (List.map _ _) = _
      rw [List.map_map]
      refine (List.map_congr_left fun x hx => ?_).trans (List.map_id _)
      have := hk.mem x hx
      show ((x.toNat : Nat) : Int) = x
      omega
    refine ⟨(bk g m).map Int.toNat, chs_all ?_ ?_, e⟩
    · rw [List.pairwise_map]
      refine hk.asc.imp_of_mem fun {a b} ha hb hlt => ?_
      have := hk.mem a ha
      have := hk.mem b hb
      omega
    · intro x hx
      obtain ⟨y, hy, rfl⟩ := List.mem_map.mp hx
      have := hk.mem y hy
      omega
  have hbl : (bk g m).length = m := by
    unfold bk
    rw [(sortI_perm _).length_eq, List.length_map, List.length_take]
    have hlen : (ord g).length = g.length - 1 := ord_len g _
    omega
  have hcl : cb.length = m := by
    have : (iL cb).length = m := by rw [ecb]; exact hbl
    rw [List.length_map] at this
    exact this
  have hcbR : cb ∈ (chs (g.length - 1)).filter fun c => decide (c.length = m) := List.mem_filter.mpr ⟨hcb, decide_eq_true hcl⟩
  have hRin : ∀ c ∈ (chs (g.length - 1)).filter (fun c => decide (c.length = m)), c ∈ chs (g.length - 1) ∧ c.length = m := fun c hc => ⟨(List.mem_filter.mp hc).1, of_decide_eq_true (List.mem_filter.mp hc).2⟩
  have hcount := best_count (f := g) hm1
  have hff : ((chs (g.length - 1)).filter fun c => decide (c.length = m)).filter (fun c => decide (lo g (iL c) = er g m)) = (chs (g.length - 1)).filter fun c => decide (c.length = m) && decide (lo g (iL c) = er g m) := by
    rw [List.filter_filter]
    exact List.filter_congr fun x _ => Bool.and_comm _ _
  rw [← hff] at hcount
  generalize hR : (chs (g.length - 1)).filter (fun c => decide (c.length = m)) = R at *
  have hRl : R.length ≤ 128 := by
    rw [← hR]
    exact Nat.le_trans (List.length_filter_le _ _) hchl
  obtain ⟨c0, R', hR0⟩ : ∃ c0 R', R = c0 :: R' := List.exists_cons_of_ne_nil (List.ne_nil_of_mem hcbR)
  have hge : ∀ c ∈ R, er g m ≤ lo g (iL c) := fun c hc => (best_iff hm1 (hRin c hc).1 (hRin c hc).2).1
  have hsm : ∀ ks, Sm (lo g ks) := fun ks => (lo_dy h).sm (by decide) (by decide)
  obtain ⟨u9, u13, l10⟩ := min_loop (f := g) (Q := Sm) (e := er g m) (S := S3) (b := turnF (tgTup (tgCons (tgName 9) (tgCons (tgName 13) tgNil))) (sIf (eCall m_law_below (aCons (eVar 13) (aCons (eVar 10) aNil))) (sAsg (eVar 13) (tgName 10)) sSkip)) (st := fun s9 s13 q => [.val (.fls (ns.map D.int)), .val (.obj 1), .val (L g), .val (.int (g.length : Int)), .val (.lst ((List.range g.length).map fun i => fr (sh g i))), .val (CH (g.length - 1)), s6, .val (.int (m : Int)), .val (.lst (R.map (RW g))), s9, .val (fr q), .emp, .emp, s13, .emp]) (fun c => hsm (iL c)) (fun c s9 s13 q hq => by
      by_cases z : lo g (iL c) < q
      · rw [if_pos z]
        exact sIf_t (S1 := S3) (eCall_ok (aCons_ok (eVar_ok rfl) (aCons_ok (eVar_ok rfl) aNil_ok)) (by rw [law_below_is (hsm _) hq, decide_eq_true z])) (sAsg_ok (eVar_ok rfl) rfl)
      · rw [if_neg z]
        exact sIf_f (S1 := S3) (eCall_ok (aCons_ok (eVar_ok rfl) (aCons_ok (eVar_ok rfl) aNil_ok)) (by rw [law_below_is (hsm _) hq, decide_eq_false z])) sSkip_ok) R t9 .emp (lo g (iL c0)) hge (hsm _) (hge c0 (by rw [hR0]; exact List.mem_cons_self ..)) (.inr ⟨cb, hcbR, by rw [ecb]; exact lo_bk g m⟩)
  have lgood : (eLc (eSeq (eVar 8)) (tgTup (tgCons (tgName 9) (tgCons (tgName 13) tgNil))) (eBin oEq (eVar 13) (eVar 10)) (eVar 9)) [.val (.fls (ns.map D.int)), .val (.obj 1), .val (L g), .val (.int (g.length : Int)), .val (.lst ((List.range g.length).map fun i => fr (sh g i))), .val (CH (g.length - 1)), s6, .val (.int (m : Int)), .val (.lst (R.map (RW g))), u9, .val (fr (er g m)), .emp, .emp, u13, .emp] S3 = .ok (.lst ((R.filter fun c => decide (lo g (iL c) = er g m)).map CT)) S3 := by
    have q := eLc_pure (it := eSeq (eVar 8)) (t := (tgTup (tgCons (tgName 9) (tgCons (tgName 13) tgNil)))) (c := eBin oEq (eVar 13) (eVar 10)) (e := eVar 9) (ρ := [.val (.fls (ns.map D.int)), .val (.obj 1), .val (L g), .val (.int (g.length : Int)), .val (.lst ((List.range g.length).map fun i => fr (sh g i))), .val (CH (g.length - 1)), s6, .val (.int (m : Int)), .val (.lst (R.map (RW g))), u9, .val (fr (er g m)), .emp, .emp, u13, .emp]) (S := S3) (ds := R.map (RW g)) (pG (er g m)) fG (eSeq_l (eVar_ok rfl)) (by rw [List.length_map]; omega) (fun d hd => by
      obtain ⟨c, hc, rfl⟩ := List.mem_map.mp hd
      show (eBin oEq (eVar 13) (eVar 10)) [.val (.fls (ns.map D.int)), .val (.obj 1), .val (L g), .val (.int (g.length : Int)), .val (.lst ((List.range g.length).map fun i => fr (sh g i))), .val (CH (g.length - 1)), s6, .val (.int (m : Int)), .val (.lst (R.map (RW g))), .val (CT c), .val (fr (er g m)), .emp, .emp, .val (fr (lo g (iL c))), .emp] S3 = .ok (.bl (eqD (fr (lo g (iL c))) (fr (er g m)))) S3
      exact eBin_ok (eVar_ok rfl) (eVar_ok rfl) (oEq_of (okD_fr 5 _) (okD_fr 5 _))) (fun d hd _ => by
      obtain ⟨c, hc, rfl⟩ := List.mem_map.mp hd
      show (eVar 9) [.val (.fls (ns.map D.int)), .val (.obj 1), .val (L g), .val (.int (g.length : Int)), .val (.lst ((List.range g.length).map fun i => fr (sh g i))), .val (CH (g.length - 1)), s6, .val (.int (m : Int)), .val (.lst (R.map (RW g))), .val (CT c), .val (fr (er g m)), .emp, .emp, .val (fr (lo g (iL c))), .emp] S3 = .ok (CT c) S3
      exact eVar_ok rfl)
    rw [q, good_is]
  obtain ⟨dv, S4, p1, p2, p3⟩ := pickD c4 (ds := (chs (g.length - 1)).map CT) (List.ne_nil_of_mem (List.mem_map.mpr ⟨cb, hcb, rfl⟩)) (by rw [List.length_map]; omega)
  obtain ⟨one, hone, rfl⟩ := List.mem_map.mp p2
  have kone := kept_chs hl16.1 hone
  have lone : one.length < g.length := by
    have := kone.len hl16.1
    rw [List.length_map] at this
    exact this
  have hdec : ∀ c ∈ chs (g.length - 1), decide (rs (c.map (sh g)) = up g c.length) = decide (lo g (iL c) = er g c.length) := fun c hc => by
    have k1 := lo_keep hc
    have k2 := up_er (f := g) c.length
    exact decide_eq_decide.mpr ⟨fun z => by grind, fun z => by grind⟩
  have hbest : ∀ S, m_is_best [L g, T (bk g m)] S = .ok (.bl true) S := fun S => by
    have q := is_best_is h (c := cb) (kept_chs hl16.1 hcb) S
    rw [hdec cb hcb, ecb, hcl, lo_bk, decide_eq_true rfl] at q
    exact q
  have hkb := bk_kept g m
  have hlenO : (ord g).length = g.length - 1 := ord_len g _
  have hslb : oSl (L (iL (ord g))) none (some (m : Int)) S3 = .ok (L (iL ((ord g).take m))) S3 := by
    rw [cut_to (by rw [List.length_map]; omega), ← List.map_take]
  have honly : (eLc (eRng (aCons (eVar 3) aNil)) (tgName 14) eYes (eIf (eOr (eBin oEq (eVar 14) (eC (.int 0))) (eBin (oIn false) (eVar 14) (eVar 9))) (eBin oIx (eVar 2) (eVar 14)) (eC (.int 0)))) [.val (.fls (ns.map D.int)), .val (.obj 1), .val (L g), .val (.int (g.length : Int)), .val (.lst ((List.range g.length).map fun i => fr (sh g i))), .val (CH (g.length - 1)), s6, .val (.int (m : Int)), .val (.lst (R.map (RW g))), .val (CT one), .val (fr (er g m)), .val (.lst ((R.filter fun c => decide (lo g (iL c) = er g m)).map CT)), .val (fr (lo g (iL one))), u13, .emp] S4 = .ok (L (kp g (iL one))) S4 := by
    have q := eLc_nat (it := eRng (aCons (eVar 3) aNil)) (j := 14) (e := eIf (eOr (eBin oEq (eVar 14) (eC (.int 0))) (eBin (oIn false) (eVar 14) (eVar 9))) (eBin oIx (eVar 2) (eVar 14)) (eC (.int 0))) (ρ := [.val (.fls (ns.map D.int)), .val (.obj 1), .val (L g), .val (.int (g.length : Int)), .val (.lst ((List.range g.length).map fun i => fr (sh g i))), .val (CH (g.length - 1)), s6, .val (.int (m : Int)), .val (.lst (R.map (RW g))), .val (CT one), .val (fr (er g m)), .val (.lst ((R.filter fun c => decide (lo g (iL c) = er g m)).map CT)), .val (fr (lo g (iL one))), u13, .emp]) (S := S4) (n := g.length) (fun n => .int (if n = 0 ∨ ((n : Nat) : Int) ∈ iL one then pt g n else 0)) (eRng_ok (aCons_ok (eVar_ok rfl) aNil_ok) (by rw [rg1 (smallI (by omega) (by omega)), Int.toNat_natCast])) (by omega) (fun n hn => by
      have hc : ∀ ρ : DEnv, ρ[14]? = some (.val (.int (n : Int))) → ρ[9]? = some (.val (CT one)) → (eOr (eBin oEq (eVar 14) (eC (.int 0))) (eBin (oIn false) (eVar 14) (eVar 9))) ρ S4 = .ok (.bl (decide ((n : Int) = 0) || decide ((n : Int) ∈ iL one))) S4 := fun ρ q1 q2 => eOr_ok (eBin_ok (eVar_ok q1) eC_ok (oEq_int _ _ S4)) (fun _ => eBin_ok (eVar_ok q1) (eVar_ok q2) (oIn_T _ (iL one) S4))
      by_cases hz : n = 0 ∨ ((n : Nat) : Int) ∈ iL one
      · have hz' : (decide ((n : Int) = 0) || decide ((n : Int) ∈ iL one)) = true := by
          rw [Bool.or_eq_true, decide_eq_true_iff, decide_eq_true_iff]
          exact hz.imp (fun z => by omega) id
        rw [if_pos hz]
        exact eIf_t (S1 := S4) ((hc _ rfl rfl).trans (by rw [hz'])) (eBin_ok (eVar_ok rfl) (eVar_ok rfl) (ix_pt hn S4))
      · have hz' : (decide ((n : Int) = 0) || decide ((n : Int) ∈ iL one)) = false := by
          rw [Bool.eq_false_iff]
          intro z
          rw [Bool.or_eq_true, decide_eq_true_iff, decide_eq_true_iff] at z
          exact hz (z.imp (fun z => by omega) id)
        rw [if_neg hz]
        exact eIf_f (S1 := S4) ((hc _ rfl rfl).trans (by rw [hz'])) eC_ok)
    rw [q]
    unfold kp
    show _ = Out.ok (.lst (List.map D.int (List.map _ _))) S4
    rw [List.map_map]
    rfl
  refine ⟨S4, runD_ret (d := .bl true) rfl ?_⟩
  show b_law [.val (.fls (ns.map D.int)), .emp, .emp, .emp, .emp, .emp, .emp, .emp, .emp, .emp, .emp, .emp, .emp, .emp, .emp] [] = _
  unfold b_law
  refine sSeq_ok (sAsg_ok (eCall_ok (aCons_ok (eVar_ok rfl) aNil_ok) a1) rfl) ?_
  refine sSeq_ok (sAsg_ok (eSl_ok (eCall_ok (aCons_ok (eVar_ok rfl) aNil_ok) b1) pNo_ok (pSome_ok eC_ok) hcut) rfl) ?_
  refine sSeq_ok (sAsg_ok (eCall_ok (aCons_ok (eVar_ok rfl) aNil_ok) oLen_L) rfl) ?_
  refine sSeq_ok (sAsg_ok (eLc_nat (n := g.length) (fun i => fr (sh g i)) (eRng_ok (aCons_ok (eVar_ok rfl) aNil_ok) (by rw [rg1 (smallI (by omega) (by omega)), Int.toNat_natCast])) (by omega) (fun i hi => eCall_ok (aCons_ok (eVar_ok rfl) (aCons_ok (eVar_ok rfl) aNil_ok)) (law_share_is h hi S2))) rfl) ?_
  refine sSeq_ok (S1 := S2) (sAsg_ok (d := CH 0) (eLst_ok (aCons_ok (eTup_ok aNil_ok) aNil_ok)) rfl) ?_
  refine sSeq_ok l5 ?_
  refine sSeq_ok (sAsg_ok (eCall_ok (aCons_ok (eVar_ok rfl) (aCons_ok (eVar_ok rfl) aNil_ok)) c1) rfl) ?_
  refine sSeq_ok (sOwn_ok (eLst_ok aNil_ok)) ?_
  refine sSeq_ok (sFor_ok (eSeq_l (eVar_ok rfl)) l8) ?_
  refine sSeq_ok (S1 := S3) (sAsg_ok (d := fr (lo g (iL c0))) (eBin_ok (x := RW g c0) (eOwnIx_ok rfl eC_ok (by rw [hR0]; exact atI_of (by omega) rfl)) eC_ok rfl) rfl) ?_
  refine sSeq_ok (S1 := S3) (sFrz_ok rfl (sFor_ok (eSeq_l (eVar_ok rfl)) l10)) ?_
  refine sSeq_ok (S1 := S3) (sAsg_ok lgood rfl) ?_
  refine sSeq_ok (S1 := S3) (sIf_f (S1 := S3) (eOr_f (S1 := S3) (eBin_ok (eCall_ok (aCons_ok (eVar_ok rfl) (aCons_ok (eVar_ok rfl) aNil_ok)) (least_error_is h hm S3)) (eVar_ok rfl) (by rw [oNe_fr, decide_eq_true rfl]; rfl))
    (eOr_f (S1 := S3) (eBin_ok (eCall_ok (aCons_ok (eVar_ok rfl) (aCons_ok (eVar_ok rfl) aNil_ok)) (count_best_is h hm h8 S3)) (eCall_ok (aCons_ok (eVar_ok rfl) aNil_ok) oLen_l) (ne_I (by rw [List.length_map, hcount]) S3))
      (eBin_ok (eCall_ok (aCons_ok (eVar_ok rfl) (aCons_ok (eVar_ok rfl) aNil_ok)) (best_kept_is h hm S3)) (eVar_ok rfl) (oIn_CT (c := cb) (List.mem_filter.mpr ⟨hcbR, decide_eq_true (by rw [ecb]; exact lo_bk g m)⟩) ecb S3)))) sSkip_ok) ?_
  refine sSeq_ok (S1 := S3) (sIf_f (S1 := S3) (eOr_f (S1 := S3) (eBin_ok (y := T (bk g m)) (eCall_ok (aCons_ok (eVar_ok rfl) (aCons_ok (eVar_ok rfl) aNil_ok)) (best_kept_is h hm S3)) (eCall_ok (aCons_ok (eCall_ok (aCons_ok (eSl_ok (eCall_ok (aCons_ok (eVar_ok rfl) aNil_ok) (by_share_is h S3)) pNo_ok (pSome_ok (eVar_ok rfl)) hslb) aNil_ok) (oSorted_L (by rw [List.length_map, List.length_take]; omega) S3)) aNil_ok) oTuple_l) (ne_T rfl S3))
    (eBin_ok (eCall_ok (aCons_ok (eVar_ok rfl) (aCons_ok (eCall_ok (aCons_ok (eVar_ok rfl) (aCons_ok (eVar_ok rfl) aNil_ok)) (best_kept_is h hm S3)) aNil_ok)) (left_out_is h hkb S3)) (eVar_ok rfl) (by rw [oNe_fr, lo_bk, decide_eq_true rfl]; rfl))) sSkip_ok) ?_
  refine sSeq_ok (sAsg_ok (eCall_ok (aCons_ok (eVar_ok rfl) (aCons_ok (eVar_ok rfl) aNil_ok)) p1) rfl) ?_
  refine sSeq_ok (sAsg_ok (eCall_ok (aCons_ok (eVar_ok rfl) (aCons_ok (eVar_ok rfl) aNil_ok)) (left_out_is h kone S4)) rfl) ?_
  refine sSeq_ok (S1 := S4) (sIf_f (S1 := S4) (eNot_ok (k := true) (eCall_ok (aCons_ok (eCall_ok (aCons_ok (eVar_ok rfl) (aCons_ok (eVar_ok rfl) aNil_ok)) (is_best_is h kone S4)) (aCons_ok (eBin_ok (eVar_ok rfl) (eCall_ok (aCons_ok (eVar_ok rfl) (aCons_ok (eCall_ok (aCons_ok (eVar_ok rfl) aNil_ok) (len_T one S4)) aNil_ok)) (least_error_is h lone S4)) (oEq_fr _ _ S4)) aNil_ok)) (by rw [hdec one hone]; exact lt_is _ S4))) sSkip_ok) ?_
  exact sRet_ok (eAnd_t (S1 := S4) (eBin_ok (eCall_ok (aCons_ok (eVar_ok rfl) (aCons_ok (eCall_ok (aCons_ok (eVar_ok rfl) (aCons_ok (eVar_ok rfl) aNil_ok)) (best_kept_is h hm S4)) aNil_ok)) (hbest S4)) eC_ok oIs_b) (eBin_ok (eCall_ok (aCons_ok (eVar_ok rfl) (aCons_ok (eVar_ok rfl) aNil_ok)) (only_is h kone S4)) honly (eq_L rfl S4)))
end DL.K06
set_option Elab.async false
set_option linter.all false
set_option maxRecDepth 100000
set_option maxHeartbeats 4000000
namespace DL.K06
open PySem PySem.Spec PyProof.Rows L2 DL
def top (i : Nat) : Stmt := PySem.Challenge.pw_haarrows_k06_whole_best.main.body.getD i (.Pass ⟨0, 0, 0, 0⟩)
abbrev s_is_int : Stmt := top 7
abbrev N_is_int : List Str := ["value", "low", "high"]
theorem sc_is_int : FnScope N_is_int ["value", "low", "high"] (defScope s_is_int) := ⟨rfl, rfl, rfl, by decide +kernel, rfl, by decide +kernel, by decide +kernel⟩
abbrev s_is_form : Stmt := top 8
abbrev N_is_form : List Str := ["value", "part"]
theorem sc_is_form : FnScope N_is_form ["value"] (defScope s_is_form) := ⟨rfl, rfl, rfl, by decide +kernel, rfl, by decide +kernel, by decide +kernel⟩
abbrev s_check_form : Stmt := top 9
abbrev N_check_form : List Str := ["value"]
theorem sc_check_form : FnScope N_check_form ["value"] (defScope s_check_form) := ⟨rfl, rfl, rfl, by decide +kernel, rfl, by decide +kernel, by decide +kernel⟩
abbrev s_is_kept : Stmt := top 10
abbrev N_is_kept : List Str := ["form", "value", "k", "number"]
theorem sc_is_kept : FnScope N_is_kept ["form", "value"] (defScope s_is_kept) := ⟨rfl, rfl, rfl, by decide +kernel, rfl, by decide +kernel, by decide +kernel⟩
abbrev s_check_kept : Stmt := top 11
abbrev N_check_kept : List Str := ["form", "value"]
theorem sc_check_kept : FnScope N_check_kept ["form", "value"] (defScope s_check_kept) := ⟨rfl, rfl, rfl, by decide +kernel, rfl, by decide +kernel, by decide +kernel⟩
abbrev s_common : Stmt := top 13
abbrev N_common : List Str := ["one", "other"]
theorem sc_common : FnScope N_common ["one", "other"] (defScope s_common) := ⟨rfl, rfl, rfl, by decide +kernel, rfl, by decide +kernel, by decide +kernel⟩
abbrev s_lowest : Stmt := top 14
abbrev N_lowest : List Str := ["top", "below", "divisor"]
theorem sc_lowest : FnScope N_lowest ["top", "below"] (defScope s_lowest) := ⟨rfl, rfl, rfl, by decide +kernel, rfl, by decide +kernel, by decide +kernel⟩
abbrev s_plus : Stmt := top 15
abbrev N_plus : List Str := ["one", "other"]
theorem sc_plus : FnScope N_plus ["one", "other"] (defScope s_plus) := ⟨rfl, rfl, rfl, by decide +kernel, rfl, by decide +kernel, by decide +kernel⟩
abbrev s_less : Stmt := top 16
abbrev N_less : List Str := ["one", "other"]
theorem sc_less : FnScope N_less ["one", "other"] (defScope s_less) := ⟨rfl, rfl, rfl, by decide +kernel, rfl, by decide +kernel, by decide +kernel⟩
abbrev s_total : Stmt := top 17
abbrev N_total : List Str := ["some", "found", "one"]
theorem sc_total : FnScope N_total ["some"] (defScope s_total) := ⟨rfl, rfl, rfl, by decide +kernel, rfl, by decide +kernel, by decide +kernel⟩
abbrev s_block_size : Stmt := top 19
abbrev N_block_size : List Str := ["length", "number", "found"]
theorem sc_block_size : FnScope N_block_size ["length", "number"] (defScope s_block_size) := ⟨rfl, rfl, rfl, by decide +kernel, rfl, by decide +kernel, by decide +kernel⟩
abbrev s_share_of : Stmt := top 21
abbrev N_share_of : List Str := ["form", "number"]
theorem sc_share_of : FnScope N_share_of ["form", "number"] (defScope s_share_of) := ⟨rfl, rfl, rfl, by decide +kernel, rfl, by decide +kernel, by decide +kernel⟩
abbrev s_left_out : Stmt := top 22
abbrev N_left_out : List Str := ["form", "kept", "number"]
theorem sc_left_out : FnScope N_left_out ["form", "kept"] (defScope s_left_out) := ⟨rfl, rfl, rfl, by decide +kernel, rfl, by decide +kernel, by decide +kernel⟩
abbrev s_in_order : Stmt := top 24
abbrev N_in_order : List Str := ["form", "found", "number", "own", "place", "other"]
theorem sc_in_order : FnScope N_in_order ["form"] (defScope s_in_order) := ⟨rfl, rfl, rfl, by decide +kernel, rfl, by decide +kernel, by decide +kernel⟩
abbrev s_by_share : Stmt := top 23
abbrev N_by_share : List Str := ["form"]
theorem sc_by_share : FnScope N_by_share ["form"] (defScope s_by_share) := ⟨rfl, rfl, rfl, by decide +kernel, rfl, by decide +kernel, by decide +kernel⟩
abbrev s_check_many : Stmt := top 26
abbrev N_check_many : List Str := ["form", "many"]
theorem sc_check_many : FnScope N_check_many ["form", "many"] (defScope s_check_many) := ⟨rfl, rfl, rfl, by decide +kernel, rfl, by decide +kernel, by decide +kernel⟩
abbrev s_with_kept : Stmt := top 27
abbrev N_with_kept : List Str := ["form", "kept", "number"]
theorem sc_with_kept : FnScope N_with_kept ["form", "kept"] (defScope s_with_kept) := ⟨rfl, rfl, rfl, by decide +kernel, rfl, by decide +kernel, by decide +kernel⟩
abbrev s_only : Stmt := top 28
abbrev N_only : List Str := ["form", "kept"]
theorem sc_only : FnScope N_only ["form", "kept"] (defScope s_only) := ⟨rfl, rfl, rfl, by decide +kernel, rfl, by decide +kernel, by decide +kernel⟩
abbrev s_best_kept : Stmt := top 29
abbrev N_best_kept : List Str := ["form", "many"]
theorem sc_best_kept : FnScope N_best_kept ["form", "many"] (defScope s_best_kept) := ⟨rfl, rfl, rfl, by decide +kernel, rfl, by decide +kernel, by decide +kernel⟩
abbrev s_least_error : Stmt := top 30
abbrev N_least_error : List Str := ["form", "many", "number"]
theorem sc_least_error : FnScope N_least_error ["form", "many"] (defScope s_least_error) := ⟨rfl, rfl, rfl, by decide +kernel, rfl, by decide +kernel, by decide +kernel⟩
abbrev s_ties : Stmt := top 31
abbrev N_ties : List Str := ["form", "many", "order", "last", "alike", "number"]
theorem sc_ties : FnScope N_ties ["form", "many"] (defScope s_ties) := ⟨rfl, rfl, rfl, by decide +kernel, rfl, by decide +kernel, by decide +kernel⟩
abbrev s_choose : Stmt := top 32
abbrev N_choose : List Str := ["many", "of_all", "found", "step"]
theorem sc_choose : FnScope N_choose ["many", "of_all"] (defScope s_choose) := ⟨rfl, rfl, rfl, by decide +kernel, rfl, by decide +kernel, by decide +kernel⟩
abbrev s_count_best : Stmt := top 33
abbrev N_count_best : List Str := ["form", "many", "some", "alike"]
theorem sc_count_best : FnScope N_count_best ["form", "many"] (defScope s_count_best) := ⟨rfl, rfl, rfl, by decide +kernel, rfl, by decide +kernel, by decide +kernel⟩
abbrev s_is_best : Stmt := top 34
abbrev N_is_best : List Str := ["form", "kept", "own", "number"]
theorem sc_is_best : FnScope N_is_best ["form", "kept"] (defScope s_is_best) := ⟨rfl, rfl, rfl, by decide +kernel, rfl, by decide +kernel, by decide +kernel⟩
abbrev s_law_start : Stmt := top 36
abbrev N_law_start : List Str := ["script"]
theorem sc_law_start : FnScope N_law_start ["script"] (defScope s_law_start) := ⟨rfl, rfl, rfl, by decide +kernel, rfl, by decide +kernel, by decide +kernel⟩
abbrev s_law_draw : Stmt := top 37
abbrev N_law_draw : List Str := ["draws", "limit", "numbers", "at", "cell", "mixed"]
theorem sc_law_draw : FnScope N_law_draw ["draws", "limit"] (defScope s_law_draw) := ⟨rfl, rfl, rfl, by decide +kernel, rfl, by decide +kernel, by decide +kernel⟩
abbrev s_law_pick : Stmt := top 38
abbrev N_law_pick : List Str := ["draws", "choices"]
theorem sc_law_pick : FnScope N_law_pick ["draws", "choices"] (defScope s_law_pick) := ⟨rfl, rfl, rfl, by decide +kernel, rfl, by decide +kernel, by decide +kernel⟩
abbrev s_law_true : Stmt := top 39
abbrev N_law_true : List Str := ["value", "expected"]
theorem sc_law_true : FnScope N_law_true ["value", "expected"] (defScope s_law_true) := ⟨rfl, rfl, rfl, by decide +kernel, rfl, by decide +kernel, by decide +kernel⟩
abbrev s_law_form : Stmt := top 40
abbrev N_law_form : List Str := ["draws", "size", "wide", "k"]
theorem sc_law_form : FnScope N_law_form ["draws"] (defScope s_law_form) := ⟨rfl, rfl, rfl, by decide +kernel, rfl, by decide +kernel, by decide +kernel⟩
abbrev s_law_span : Stmt := top 41
abbrev N_law_span : List Str := ["size", "number", "road", "step", "first", "behind", "middle"]
theorem sc_law_span : FnScope N_law_span ["size", "number"] (defScope s_law_span) := ⟨rfl, rfl, rfl, by decide +kernel, rfl, by decide +kernel, by decide +kernel⟩
abbrev s_law_low : Stmt := top 42
abbrev N_law_low : List Str := ["top", "under", "one", "other"]
theorem sc_law_low : FnScope N_law_low ["top", "under"] (defScope s_law_low) := ⟨rfl, rfl, rfl, by decide +kernel, rfl, by decide +kernel, by decide +kernel⟩
abbrev s_law_add : Stmt := top 43
abbrev N_law_add : List Str := ["one", "other"]
theorem sc_law_add : FnScope N_law_add ["one", "other"] (defScope s_law_add) := ⟨rfl, rfl, rfl, by decide +kernel, rfl, by decide +kernel, by decide +kernel⟩
abbrev s_law_below : Stmt := top 44
abbrev N_law_below : List Str := ["one", "other"]
theorem sc_law_below : FnScope N_law_below ["one", "other"] (defScope s_law_below) := ⟨rfl, rfl, rfl, by decide +kernel, rfl, by decide +kernel, by decide +kernel⟩
abbrev s_law_share : Stmt := top 45
abbrev N_law_share : List Str := ["parts", "number", "first", "behind"]
theorem sc_law_share : FnScope N_law_share ["parts", "number"] (defScope s_law_share) := ⟨rfl, rfl, rfl, by decide +kernel, rfl, by decide +kernel, by decide +kernel⟩
abbrev s_law_total : Stmt := top 46
abbrev N_law_total : List Str := ["some", "found", "one"]
theorem sc_law_total : FnScope N_law_total ["some"] (defScope s_law_total) := ⟨rfl, rfl, rfl, by decide +kernel, rfl, by decide +kernel, by decide +kernel⟩
abbrev s_law : Stmt := top 47
abbrev N_law : List Str := ["script", "draws", "parts", "size", "own", "choices", "number", "many", "rows", "one", "least", "good", "own_left", "left", "k"]
theorem sc_law : FnScope N_law ["script"] (defScope s_law) := ⟨rfl, rfl, rfl, by decide +kernel, rfl, by decide +kernel, by decide +kernel⟩
structure Txt (K : PySem.W.Frag) (mg : Str → Option Value) (ca : Nat → Addr) : Prop where
  blt : Blt mg
  c_LENGTHS : CTup K mg "LENGTHS" [1, 2, 4, 8, 16]
  c_MOST_PART : CInt mg "MOST_PART" 10000
  e_BadForm : ExcAt K mg "BadForm" (ca 2)
  e_BadKept : ExcAt K mg "BadKept" (ca 4)
  e_BadNumber : ExcAt K mg "BadNumber" (ca 3)
  d_is_int : DefAt K mg "is_int" s_is_int ["value", "low", "high"]
  d_is_form : DefAt K mg "is_form" s_is_form ["value"]
  d_check_form : DefAt K mg "check_form" s_check_form ["value"]
  d_is_kept : DefAt K mg "is_kept" s_is_kept ["form", "value"]
  d_check_kept : DefAt K mg "check_kept" s_check_kept ["form", "value"]
  d_common : DefAt K mg "common" s_common ["one", "other"]
  d_lowest : DefAt K mg "lowest" s_lowest ["top", "below"]
  d_plus : DefAt K mg "plus" s_plus ["one", "other"]
  d_less : DefAt K mg "less" s_less ["one", "other"]
  d_total : DefAt K mg "total" s_total ["some"]
  d_block_size : DefAt K mg "block_size" s_block_size ["length", "number"]
  d_share_of : DefAt K mg "share_of" s_share_of ["form", "number"]
  d_left_out : DefAt K mg "left_out" s_left_out ["form", "kept"]
  d_in_order : DefAt K mg "in_order" s_in_order ["form"]
  d_by_share : DefAt K mg "by_share" s_by_share ["form"]
  d_check_many : DefAt K mg "check_many" s_check_many ["form", "many"]
  d_with_kept : DefAt K mg "with_kept" s_with_kept ["form", "kept"]
  d_only : DefAt K mg "only" s_only ["form", "kept"]
  d_best_kept : DefAt K mg "best_kept" s_best_kept ["form", "many"]
  d_least_error : DefAt K mg "least_error" s_least_error ["form", "many"]
  d_ties : DefAt K mg "ties" s_ties ["form", "many"]
  d_choose : DefAt K mg "choose" s_choose ["many", "of_all"]
  d_count_best : DefAt K mg "count_best" s_count_best ["form", "many"]
  d_is_best : DefAt K mg "is_best" s_is_best ["form", "kept"]
  d_law_start : DefAt K mg "_law_start" s_law_start ["script"]
  d_law_draw : DefAt K mg "_law_draw" s_law_draw ["draws", "limit"]
  d_law_pick : DefAt K mg "_law_pick" s_law_pick ["draws", "choices"]
  d_law_true : DefAt K mg "_law_true" s_law_true ["value", "expected"]
  d_law_form : DefAt K mg "_law_form" s_law_form ["draws"]
  d_law_span : DefAt K mg "_law_span" s_law_span ["size", "number"]
  d_law_low : DefAt K mg "_law_low" s_law_low ["top", "under"]
  d_law_add : DefAt K mg "_law_add" s_law_add ["one", "other"]
  d_law_below : DefAt K mg "_law_below" s_law_below ["one", "other"]
  d_law_share : DefAt K mg "_law_share" s_law_share ["parts", "number"]
  d_law_total : DefAt K mg "_law_total" s_law_total ["some"]
section
variable {P : Program} {w : World} {K : PySem.W.Frag} {mg : Str → Option Value} {base : Heap} {ca : Nat → Addr}
theorem ok_is_int (T : Txt K mg ca) : FnD P w K mg base ca 1 "is_int" 3 m_is_int :=
  fnAt (k := 0) (N := N_is_int) T.d_is_int sc_is_int fun f cdv A outer s H E hr =>
    (gss_one (gs_ret (ge_and (ge_isi (by rfl) T.blt.isinstance bb_isinstance (by rfl) T.blt.int bb_int (gv 0)) (ge_and (ge_not (ge_isi (by rfl) T.blt.isinstance bb_isinstance (by rfl) T.blt.bool bb_bool (gv 0))) (ge_one (ge_chain op_le s_le op_le s_le (gv 1) (gv 0) (gv 2)))))))
theorem ok_is_form (T : Txt K mg ca) (F_is_int : FnD P w K mg base ca 1 "is_int" 3 m_is_int) : FnD P w K mg base ca 2 "is_form" 1 m_is_form :=
  fnAt (k := 1) (N := N_is_form) T.d_is_form sc_is_form fun f cdv A outer s H E hr =>
    (gss_cons (gs_if (PW.pt (gw_or (gt_not (gt_val (ge_isi (by rfl) T.blt.isinstance bb_isinstance (by rfl) T.blt.list bb_list (gv 0)))) (gw_or1 (gt_cmp (op_notInA (hu65 hr)) s_notIn (ge_callB call_len c_len (by rfl) T.blt.len bb_len (ga_cons (gv 0) ga_nil)) (ge_gtupE (by rfl) T.c_LENGTHS) (by rfl))))) (gss_one (gs_ret ge_bl)) gss_nil)
    (gss_one (gs_ret (ge_callB (cr_all rfl) c_all (by rfl) T.blt.all bb_all (ga_cons (ge_lc rfl sc_is_form.nd (tgOk_name 1) (gi_seq (gv 0)) (blkOk_by (N := N_is_form) (sc := defScope s_is_form) (own := [("part", 1)]) (by decide +kernel)) (fun _ _ _ _ _ => (pg_name (i := 1) sc_is_form.nd rfl (Or.inl rfl))) (fun _ _ _ _ _ => gts_nil) (fun _ _ _ _ _ => (ge_callD F_is_int hr (by decide) (by rfl) passL (ga_cons (gv 1) (ga_cons (ge_un un_neg s_neg (ge_gintE (by rfl) T.c_MOST_PART)) (ga_cons (ge_gintE (by rfl) T.c_MOST_PART) ga_nil)))))) ga_nil)))))
theorem ok_check_form (T : Txt K mg ca) (F_is_form : FnD P w K mg base ca 2 "is_form" 1 m_is_form) : FnD P w K mg base ca 3 "check_form" 1 m_check_form :=
  fnAt (k := 2) (N := N_check_form) T.d_check_form sc_check_form fun f cdv A outer s H E hr =>
    (gss_one (gs_if (gt_not (gt_val (ge_callD F_is_form hr (by decide) (by rfl) psX (ga_cons (gv 0) ga_nil)))) (gss_one (gs_raiseE (c := 2) rfl tkX T.e_BadForm (by rfl))) gss_nil))
theorem ok_is_kept (T : Txt K mg ca) (F_is_int : FnD P w K mg base ca 1 "is_int" 3 m_is_int) : FnD P w K mg base ca 2 "is_kept" 2 m_is_kept :=
  fnAt (k := 1) (N := N_is_kept) T.d_is_kept sc_is_kept fun f cdv A outer s H E hr =>
    (gss_cons (gs_if (PW.pt (gw_or (gt_not (gt_val (ge_isi (by rfl) T.blt.isinstance bb_isinstance (by rfl) T.blt.tuple bb_tuple (gv 1)))) (gw_or1 (gt_not (gt_val (ge_callB (cr_all rfl) c_all (by rfl) T.blt.all bb_all (ga_cons (ge_lc rfl sc_is_kept.nd (tgOk_name 3) (gi_seq (gv 1)) (blkOk_by (N := N_is_kept) (sc := defScope s_is_kept) (own := [("number", 3)]) (by decide +kernel)) (fun _ _ _ _ _ => (pg_name (i := 3) sc_is_kept.nd rfl (Or.inl rfl))) (fun _ _ _ _ _ => gts_nil) (fun _ _ _ _ _ => (ge_callD F_is_int hr (by decide) (by rfl) passL (ga_cons (gv 3) (ga_cons ge_int (ga_cons (ge_op op_sub s_sub (ge_callB call_len c_len (by rfl) T.blt.len bb_len (ga_cons (gv 0) ga_nil)) ge_int) ga_nil)))))) ga_nil))))))) (gss_one (gs_ret ge_bl)) gss_nil)
    (gss_one (gs_ret (ge_callB (cr_all rfl) c_all (by rfl) T.blt.all bb_all (ga_cons (ge_lc rfl sc_is_kept.nd (tgOk_name 2) (gi_range1 (by rfl) T.blt.range (ga_cons (ge_op op_sub s_sub (ge_callB call_len c_len (by rfl) T.blt.len bb_len (ga_cons (gv 1) ga_nil)) ge_int) ga_nil)) (blkOk_by (N := N_is_kept) (sc := defScope s_is_kept) (own := [("k", 2)]) (by decide +kernel)) (fun _ _ _ _ _ => (pg_name (i := 2) sc_is_kept.nd rfl (Or.inl rfl))) (fun _ _ _ _ _ => gts_nil) (fun _ _ _ _ _ => (ge_cmp op_lt s_lt (ge_ix (gv 1) (gv 2) (fun _ _ => rfl)) (ge_ix (gv 1) (ge_op op_addA s_add (gv 2) ge_int) (fun _ _ => rfl)) (nomark _)))) ga_nil)))))
theorem ok_check_kept (T : Txt K mg ca) (F_is_kept : FnD P w K mg base ca 2 "is_kept" 2 m_is_kept) : FnD P w K mg base ca 3 "check_kept" 2 m_check_kept :=
  fnAt (k := 2) (N := N_check_kept) T.d_check_kept sc_check_kept fun f cdv A outer s H E hr =>
    (gss_one (gs_if (gt_not (gt_val (ge_callD F_is_kept hr (by decide) (by rfl) psX (ga_cons (gv 0) (ga_cons (gv 1) ga_nil))))) (gss_one (gs_raiseE (c := 4) rfl tkX T.e_BadKept (by rfl))) gss_nil))
theorem ok_common (T : Txt K mg ca) : FnD P w K mg base ca 1 "common" 2 m_common :=
  fnAt (k := 0) (N := N_common) T.d_common sc_common fun f cdv A outer s H E hr =>
    (gss_cons (gs_par (i := 0) (j := 1) (by rfl) sc_common.nd rfl rfl (by decide) rfl rfl (ga_cons (ge_callB call_abs c_abs (by rfl) T.blt.abs bb_abs (ga_cons (gv 0) ga_nil)) (ga_cons (ge_callB call_abs c_abs (by rfl) T.blt.abs bb_abs (ga_cons (gv 1) ga_nil)) ga_nil)) (by rfl))
    (gss_cons (gs_while 63 poX (gt_cmp (op_neD hr.units) s_ne (gv 1) ge_int (nomark _)) (gss_one (gs_par (i := 0) (j := 1) (by rfl) sc_common.nd rfl rfl (by decide) rfl rfl (ga_cons (gv 1) (ga_cons (ge_op op_mod s_mod (gv 0) (gv 1)) ga_nil)) (by rfl))))
    (gss_one (gs_ret (gv 0)))))
theorem ok_lowest (T : Txt K mg ca) (F_common : FnD P w K mg base ca 1 "common" 2 m_common) : FnD P w K mg base ca 2 "lowest" 2 m_lowest :=
  fnAt (k := 1) (N := N_lowest) T.d_lowest sc_lowest fun f cdv A outer s H E hr =>
    (gss_cons (gs_set (i := 2) sc_lowest.nd rfl (Or.inl rfl) (ge_callD F_common hr (by decide) (by rfl) psX (ga_cons (gv 0) (ga_cons (gv 1) ga_nil))))
    (gss_one (gs_ret (ge_tup (ga_cons (ge_op op_fdiv s_fdiv (gv 0) (gv 2)) (ga_cons (ge_op op_fdiv s_fdiv (gv 1) (gv 2)) ga_nil))))))
theorem ok_plus (T : Txt K mg ca) (F_lowest : FnD P w K mg base ca 2 "lowest" 2 m_lowest) : FnD P w K mg base ca 3 "plus" 2 m_plus :=
  fnAt (k := 2) (N := N_plus) T.d_plus sc_plus fun f cdv A outer s H E hr =>
    (gss_one (gs_ret (ge_callD F_lowest hr (by decide) (by rfl) psX (ga_cons (ge_op op_addA s_add (ge_op op_mulA s_mul (ge_ix (gv 0) ge_int (fun _ _ => rfl)) (ge_ix (gv 1) ge_int (fun _ _ => rfl))) (ge_op op_mulA s_mul (ge_ix (gv 1) ge_int (fun _ _ => rfl)) (ge_ix (gv 0) ge_int (fun _ _ => rfl)))) (ga_cons (ge_op op_mulA s_mul (ge_ix (gv 0) ge_int (fun _ _ => rfl)) (ge_ix (gv 1) ge_int (fun _ _ => rfl))) ga_nil)))))
theorem ok_less (T : Txt K mg ca) : FnD P w K mg base ca 1 "less" 2 m_less :=
  fnAt (k := 0) (N := N_less) T.d_less sc_less fun f cdv A outer s H E hr =>
    (gss_one (gs_ret (ge_cmp op_lt s_lt (ge_op op_mulA s_mul (ge_ix (gv 0) ge_int (fun _ _ => rfl)) (ge_ix (gv 1) ge_int (fun _ _ => rfl))) (ge_op op_mulA s_mul (ge_ix (gv 1) ge_int (fun _ _ => rfl)) (ge_ix (gv 0) ge_int (fun _ _ => rfl))) (nomark _))))
theorem ok_total (T : Txt K mg ca) (F_plus : FnD P w K mg base ca 3 "plus" 2 m_plus) : FnD P w K mg base ca 4 "total" 1 m_total :=
  fnAt (k := 3) (N := N_total) T.d_total sc_total fun f cdv A outer s H E hr =>
    (gss_cons (gs_set (i := 1) sc_total.nd rfl (Or.inl rfl) (ge_tup (ga_cons ge_int (ga_cons ge_int ga_nil))))
    (gss_cons (gs_for poX rfl (gi_seq (gv 0)) (gg_name (i := 2) sc_total.nd rfl (Or.inl rfl)) (gss_one (gs_set (i := 1) sc_total.nd rfl (Or.inl rfl) (ge_callD F_plus hr (by decide) (by rfl) psX (ga_cons (gv 1) (ga_cons (gv 2) ga_nil))))))
    (gss_one (gs_ret (gv 1)))))
theorem ok_block_size (T : Txt K mg ca) : FnD P w K mg base ca 1 "block_size" 2 m_block_size :=
  fnAt (k := 0) (N := N_block_size) T.d_block_size sc_block_size fun f cdv A outer s H E hr =>
    (gss_cons (gs_set (i := 2) sc_block_size.nd rfl (Or.inl rfl) (gv 0))
    (gss_cons (gs_while 40 poX (gt_cmp op_gt s_gt (gv 1) ge_int (nomark _)) (gss_cons (gs_aug (i := 1) iop_fdiv s_fdiv sc_block_size.nd rfl (Or.inl rfl) ge_int)
    (gss_one (gs_aug (i := 2) iop_fdiv s_fdiv sc_block_size.nd rfl (Or.inl rfl) ge_int))))
    (gss_one (gs_ret (gv 2)))))
theorem ok_share_of (T : Txt K mg ca) (F_lowest : FnD P w K mg base ca 2 "lowest" 2 m_lowest) (F_block_size : FnD P w K mg base ca 1 "block_size" 2 m_block_size) : FnD P w K mg base ca 3 "share_of" 2 m_share_of :=
  fnAt (k := 2) (N := N_share_of) T.d_share_of sc_share_of fun f cdv A outer s H E hr =>
    (gss_cons (gs_if (gt_cmp (op_eqD hr.units) s_eq (gv 1) ge_int (nomark _)) (gss_one (gs_ret (ge_callD F_lowest hr (by decide) (by rfl) psX (ga_cons (ge_op op_mulA s_mul (ge_ix (gv 0) ge_int (fun _ _ => rfl)) (ge_ix (gv 0) ge_int (fun _ _ => rfl))) (ga_cons (ge_callB call_len c_len (by rfl) T.blt.len bb_len (ga_cons (gv 0) ga_nil)) ga_nil))))) gss_nil)
    (gss_one (gs_ret (ge_callD F_lowest hr (by decide) (by rfl) psX (ga_cons (ge_op op_mulA s_mul (ge_ix (gv 0) (gv 1) (fun _ _ => rfl)) (ge_ix (gv 0) (gv 1) (fun _ _ => rfl))) (ga_cons (ge_callD F_block_size hr (by decide) (by rfl) psX (ga_cons (ge_callB call_len c_len (by rfl) T.blt.len bb_len (ga_cons (gv 0) ga_nil)) (ga_cons (gv 1) ga_nil))) ga_nil))))))
theorem ok_left_out (T : Txt K mg ca) (F_check_form : FnD P w K mg base ca 3 "check_form" 1 m_check_form) (F_check_kept : FnD P w K mg base ca 3 "check_kept" 2 m_check_kept) (F_share_of : FnD P w K mg base ca 3 "share_of" 2 m_share_of) (F_total : FnD P w K mg base ca 4 "total" 1 m_total) : FnD P w K mg base ca 5 "left_out" 2 m_left_out :=
  fnAt (k := 4) (N := N_left_out) T.d_left_out sc_left_out fun f cdv A outer s H E hr =>
    (gss_cons (gs_expr (ge_callD F_check_form hr (by decide) (by rfl) psX (ga_cons (gv 0) ga_nil)))
    (gss_cons (gs_expr (ge_callD F_check_kept hr (by decide) (by rfl) psX (ga_cons (gv 0) (ga_cons (gv 1) ga_nil))))
    (gss_one (gs_ret (ge_callD F_total hr (by decide) (by rfl) psX (ga_cons (ge_lc rfl sc_left_out.nd (tgOk_name 2) (gi_range2 (by rfl) T.blt.range (ga_cons ge_int (ga_cons (ge_callB call_len c_len (by rfl) T.blt.len bb_len (ga_cons (gv 0) ga_nil)) ga_nil))) (blkOk_by (N := N_left_out) (sc := defScope s_left_out) (own := [("number", 2)]) (by decide +kernel)) (fun _ _ _ _ _ => (pg_name (i := 2) sc_left_out.nd rfl (Or.inl rfl))) (fun _ _ _ _ _ => (gts_one (gt_cmp (op_notInA (hu65 hr)) s_notIn (gv 2) (gv 1) (by rfl)))) (fun _ _ _ _ _ => (ge_callD F_share_of hr (by decide) (by rfl) passL (ga_cons (gv 0) (ga_cons (gv 2) ga_nil))))) ga_nil))))))
theorem ok_in_order (T : Txt K mg ca) (F_share_of : FnD P w K mg base ca 3 "share_of" 2 m_share_of) (F_less : FnD P w K mg base ca 1 "less" 2 m_less) : FnD P w K mg base ca 4 "in_order" 1 m_in_order :=
  fnAt (k := 3) (N := N_in_order) T.d_in_order sc_in_order fun f cdv A outer s H E hr =>
    (gss_cons (gs_set (i := 1) sc_in_order.nd rfl (Or.inl rfl) (ge_lst ga_nil))
    (gss_cons (gs_for poX rfl (gi_range2 (by rfl) T.blt.range (ga_cons ge_int (ga_cons (ge_callB call_len c_len (by rfl) T.blt.len bb_len (ga_cons (gv 0) ga_nil)) ga_nil))) (gg_name (i := 2) sc_in_order.nd rfl (Or.inl rfl)) (gss_cons (gs_set (i := 3) sc_in_order.nd rfl (Or.inr rfl) (ge_callD F_share_of hr (by decide) (by rfl) psX (ga_cons (gv 0) (ga_cons (gv 2) ga_nil))))
    (gss_cons (gs_set (i := 4) sc_in_order.nd rfl (Or.inl rfl) (ge_callB call_len c_len (by rfl) T.blt.len bb_len (ga_cons (ge_lc rfl sc_in_order.nd (tgOk_name 5) (gi_seq (gv 1)) (blkOk_by (N := N_in_order) (sc := defScope s_in_order) (own := [("other", 5)]) (by decide +kernel)) (fun _ _ _ _ _ => (pg_name (i := 5) sc_in_order.nd rfl (Or.inl rfl))) (fun _ _ _ _ _ => (gts_one (gt_not (gt_val (ge_callD F_less hr (by decide) (by rfl) passL (ga_cons (ge_callD F_share_of hr (by decide) (by rfl) passL (ga_cons (gv 0) (ga_cons (gv 5) ga_nil))) (ga_cons (gv 3) ga_nil))))))) (fun _ _ _ _ _ => (gv 5))) ga_nil)))
    (gss_one (gs_set (i := 1) sc_in_order.nd rfl (Or.inl rfl) (ge_op op_addA s_add (ge_op op_addA s_add (ge_slice (gv 1) go_none (go_some (gv 4))) (ge_lst (ga_cons (gv 2) ga_nil))) (ge_slice (gv 1) (go_some (gv 4)) go_none)))))))
    (gss_one (gs_ret (gv 1)))))
theorem ok_by_share (T : Txt K mg ca) (F_check_form : FnD P w K mg base ca 3 "check_form" 1 m_check_form) (F_in_order : FnD P w K mg base ca 4 "in_order" 1 m_in_order) : FnD P w K mg base ca 5 "by_share" 1 m_by_share :=
  fnAt (k := 4) (N := N_by_share) T.d_by_share sc_by_share fun f cdv A outer s H E hr =>
    (gss_cons (gs_expr (ge_callD F_check_form hr (by decide) (by rfl) psX (ga_cons (gv 0) ga_nil)))
    (gss_one (gs_ret (ge_callD F_in_order hr (by decide) (by rfl) psX (ga_cons (gv 0) ga_nil)))))
theorem ok_check_many (T : Txt K mg ca) (F_is_int : FnD P w K mg base ca 1 "is_int" 3 m_is_int) : FnD P w K mg base ca 2 "check_many" 2 m_check_many :=
  fnAt (k := 1) (N := N_check_many) T.d_check_many sc_check_many fun f cdv A outer s H E hr =>
    (gss_one (gs_if (gt_not (gt_val (ge_callD F_is_int hr (by decide) (by rfl) psX (ga_cons (gv 1) (ga_cons ge_int (ga_cons (ge_op op_sub s_sub (ge_callB call_len c_len (by rfl) T.blt.len bb_len (ga_cons (gv 0) ga_nil)) ge_int) ga_nil)))))) (gss_one (gs_raiseE (c := 3) rfl tkX T.e_BadNumber (by rfl))) gss_nil))
theorem ok_with_kept (T : Txt K mg ca) : FnD P w K mg base ca 1 "with_kept" 2 m_with_kept :=
  fnAt (k := 0) (N := N_with_kept) T.d_with_kept sc_with_kept fun f cdv A outer s H E hr =>
    (gss_one (gs_ret (ge_lc rfl sc_with_kept.nd (tgOk_name 2) (gi_range1 (by rfl) T.blt.range (ga_cons (ge_callB call_len c_len (by rfl) T.blt.len bb_len (ga_cons (gv 0) ga_nil)) ga_nil)) (blkOk_by (N := N_with_kept) (sc := defScope s_with_kept) (own := [("number", 2)]) (by decide +kernel)) (fun _ _ _ _ _ => (pg_name (i := 2) sc_with_kept.nd rfl (Or.inl rfl))) (fun _ _ _ _ _ => gts_nil) (fun _ _ _ _ _ => (ge_if (PW.pt (gw_or (gt_cmp (op_eqD hr.units) s_eq (gv 2) ge_int (nomark _)) (gw_or1 (gt_cmp (op_inA (hu65 hr)) s_in (gv 2) (gv 1) (by rfl))))) (ge_ix (gv 0) (gv 2) (fun _ _ => rfl)) ge_int)))))
theorem ok_only (T : Txt K mg ca) (F_check_form : FnD P w K mg base ca 3 "check_form" 1 m_check_form) (F_check_kept : FnD P w K mg base ca 3 "check_kept" 2 m_check_kept) (F_with_kept : FnD P w K mg base ca 1 "with_kept" 2 m_with_kept) : FnD P w K mg base ca 4 "only" 2 m_only :=
  fnAt (k := 3) (N := N_only) T.d_only sc_only fun f cdv A outer s H E hr =>
    (gss_cons (gs_expr (ge_callD F_check_form hr (by decide) (by rfl) psX (ga_cons (gv 0) ga_nil)))
    (gss_cons (gs_expr (ge_callD F_check_kept hr (by decide) (by rfl) psX (ga_cons (gv 0) (ga_cons (gv 1) ga_nil))))
    (gss_one (gs_ret (ge_callD F_with_kept hr (by decide) (by rfl) psX (ga_cons (gv 0) (ga_cons (gv 1) ga_nil)))))))
theorem ok_best_kept (T : Txt K mg ca) (F_check_form : FnD P w K mg base ca 3 "check_form" 1 m_check_form) (F_check_many : FnD P w K mg base ca 2 "check_many" 2 m_check_many) (F_in_order : FnD P w K mg base ca 4 "in_order" 1 m_in_order) : FnD P w K mg base ca 5 "best_kept" 2 m_best_kept :=
  fnAt (k := 4) (N := N_best_kept) T.d_best_kept sc_best_kept fun f cdv A outer s H E hr =>
    (gss_cons (gs_expr (ge_callD F_check_form hr (by decide) (by rfl) psX (ga_cons (gv 0) ga_nil)))
    (gss_cons (gs_expr (ge_callD F_check_many hr (by decide) (by rfl) psX (ga_cons (gv 0) (ga_cons (gv 1) ga_nil))))
    (gss_one (gs_ret (ge_callTy call_tuple_of c_tuple (by rfl) T.blt.tuple bb_tuple (ga_cons (ge_callB cr_sorted c_sorted (by rfl) T.blt.sorted bb_sorted (ga_cons (ge_slice (ge_callD F_in_order hr (by decide) (by rfl) psX (ga_cons (gv 0) ga_nil)) go_none (go_some (gv 1))) ga_nil)) ga_nil))))))
theorem ok_least_error (T : Txt K mg ca) (F_check_form : FnD P w K mg base ca 3 "check_form" 1 m_check_form) (F_check_many : FnD P w K mg base ca 2 "check_many" 2 m_check_many) (F_in_order : FnD P w K mg base ca 4 "in_order" 1 m_in_order) (F_share_of : FnD P w K mg base ca 3 "share_of" 2 m_share_of) (F_total : FnD P w K mg base ca 4 "total" 1 m_total) : FnD P w K mg base ca 5 "least_error" 2 m_least_error :=
  fnAt (k := 4) (N := N_least_error) T.d_least_error sc_least_error fun f cdv A outer s H E hr =>
    (gss_cons (gs_expr (ge_callD F_check_form hr (by decide) (by rfl) psX (ga_cons (gv 0) ga_nil)))
    (gss_cons (gs_expr (ge_callD F_check_many hr (by decide) (by rfl) psX (ga_cons (gv 0) (ga_cons (gv 1) ga_nil))))
    (gss_one (gs_ret (ge_callD F_total hr (by decide) (by rfl) psX (ga_cons (ge_lc rfl sc_least_error.nd (tgOk_name 2) (gi_seq (ge_slice (ge_callD F_in_order hr (by decide) (by rfl) psX (ga_cons (gv 0) ga_nil)) (go_some (gv 1)) go_none)) (blkOk_by (N := N_least_error) (sc := defScope s_least_error) (own := [("number", 2)]) (by decide +kernel)) (fun _ _ _ _ _ => (pg_name (i := 2) sc_least_error.nd rfl (Or.inl rfl))) (fun _ _ _ _ _ => gts_nil) (fun _ _ _ _ _ => (ge_callD F_share_of hr (by decide) (by rfl) passL (ga_cons (gv 0) (ga_cons (gv 2) ga_nil))))) ga_nil))))))
theorem ok_ties (T : Txt K mg ca) (F_in_order : FnD P w K mg base ca 4 "in_order" 1 m_in_order) (F_share_of : FnD P w K mg base ca 3 "share_of" 2 m_share_of) : FnD P w K mg base ca 5 "ties" 2 m_ties :=
  fnAt (k := 4) (N := N_ties) T.d_ties sc_ties fun f cdv A outer s H E hr =>
    (gss_cons (gs_set (i := 2) sc_ties.nd rfl (Or.inl rfl) (ge_callD F_in_order hr (by decide) (by rfl) psX (ga_cons (gv 0) ga_nil)))
    (gss_cons (gs_if (gt_cmp (op_eqD hr.units) s_eq (gv 1) ge_int (nomark _)) (gss_one (gs_ret (ge_tup (ga_cons ge_int (ga_cons ge_int ga_nil))))) gss_nil)
    (gss_cons (gs_set (i := 3) sc_ties.nd rfl (Or.inr rfl) (ge_callD F_share_of hr (by decide) (by rfl) psX (ga_cons (gv 0) (ga_cons (ge_ix (gv 2) (ge_op op_sub s_sub (gv 1) ge_int) (fun _ _ => rfl)) ga_nil))))
    (gss_cons (gs_setLc (i := 4) rfl sc_ties.nd rfl rfl (sw_true rfl rfl rfl (by decide +kernel)) (tgOk_name 5) (gi_seq (gv 2)) (blkOk_by (N := N_ties) (sc := defScope s_ties) (own := [("number", 5)]) (by decide +kernel)) (fun _ _ _ _ _ => (pg_name (i := 5) sc_ties.nd rfl (Or.inl rfl))) (fun _ _ _ _ _ => (gts_one (gt_cmp (op_eqD hr.units) s_eq (ge_callD F_share_of hr (by decide) (by rfl) passL (ga_cons (gv 0) (ga_cons (gv 5) ga_nil))) (gv 3) (nomark _)))) (fun _ _ _ _ _ => (gv 5)))
    (gss_one (gs_ret (ge_tup (ga_cons (ge_callB call_len c_len (by rfl) T.blt.len bb_len (ga_cons (ge_lc rfl sc_ties.nd (tgOk_name 5) (gi_seq (ge_slice (gv 2) go_none (go_some (gv 1)))) (blkOk_by (N := N_ties) (sc := defScope s_ties) (own := [("number", 5)]) (by decide +kernel)) (fun _ _ _ _ _ => (pg_name (i := 5) sc_ties.nd rfl (Or.inl rfl))) (fun _ _ _ _ _ => (gts_one (gt_cmp (op_eqD hr.units) s_eq (ge_callD F_share_of hr (by decide) (by rfl) passL (ga_cons (gv 0) (ga_cons (gv 5) ga_nil))) (gv 3) (nomark _)))) (fun _ _ _ _ _ => (gv 5))) ga_nil)) (ga_cons (ge_callB call_len c_len (by rfl) T.blt.len bb_len (ga_cons (gv 4) ga_nil)) ga_nil)))))))))
theorem ok_choose (T : Txt K mg ca) : FnD P w K mg base ca 1 "choose" 2 m_choose :=
  fnAt (k := 0) (N := N_choose) T.d_choose sc_choose fun f cdv A outer s H E hr =>
    (gss_cons (gs_set (i := 2) sc_choose.nd rfl (Or.inl rfl) ge_int)
    (gss_cons (gs_for poX rfl (gi_range1 (by rfl) T.blt.range (ga_cons (gv 0) ga_nil)) (gg_name (i := 3) sc_choose.nd rfl (Or.inl rfl)) (gss_one (gs_set (i := 2) sc_choose.nd rfl (Or.inl rfl) (ge_op op_fdiv s_fdiv (ge_op op_mulA s_mul (gv 2) (ge_op op_sub s_sub (gv 1) (gv 3))) (ge_op op_addA s_add (gv 3) ge_int)))))
    (gss_one (gs_ret (gv 2)))))
theorem ok_count_best (T : Txt K mg ca) (F_check_form : FnD P w K mg base ca 3 "check_form" 1 m_check_form) (F_check_many : FnD P w K mg base ca 2 "check_many" 2 m_check_many) (F_ties : FnD P w K mg base ca 5 "ties" 2 m_ties) (F_choose : FnD P w K mg base ca 1 "choose" 2 m_choose) : FnD P w K mg base ca 6 "count_best" 2 m_count_best :=
  fnAt (k := 5) (N := N_count_best) T.d_count_best sc_count_best fun f cdv A outer s H E hr =>
    (gss_cons (gs_expr (ge_callD F_check_form hr (by decide) (by rfl) psX (ga_cons (gv 0) ga_nil)))
    (gss_cons (gs_expr (ge_callD F_check_many hr (by decide) (by rfl) psX (ga_cons (gv 0) (ga_cons (gv 1) ga_nil))))
    (gss_cons (gs_asg (ge_callD F_ties hr (by decide) (by rfl) psX (ga_cons (gv 0) (ga_cons (gv 1) ga_nil))) (gg_tup (by rfl) (ggs_cons (gg_name (i := 2) sc_count_best.nd rfl (Or.inl rfl)) (ggs_cons (gg_name (i := 3) sc_count_best.nd rfl (Or.inl rfl)) ggs_nil)) (tgCons_len (tgCons_len tgNil_len))))
    (gss_one (gs_ret (ge_callD F_choose hr (by decide) (by rfl) psX (ga_cons (gv 2) (ga_cons (gv 3) ga_nil))))))))
theorem ok_is_best (T : Txt K mg ca) (F_check_form : FnD P w K mg base ca 3 "check_form" 1 m_check_form) (F_check_kept : FnD P w K mg base ca 3 "check_kept" 2 m_check_kept) (F_share_of : FnD P w K mg base ca 3 "share_of" 2 m_share_of) (F_total : FnD P w K mg base ca 4 "total" 1 m_total) (F_in_order : FnD P w K mg base ca 4 "in_order" 1 m_in_order) : FnD P w K mg base ca 5 "is_best" 2 m_is_best :=
  fnAt (k := 4) (N := N_is_best) T.d_is_best sc_is_best fun f cdv A outer s H E hr =>
    (gss_cons (gs_expr (ge_callD F_check_form hr (by decide) (by rfl) psX (ga_cons (gv 0) ga_nil)))
    (gss_cons (gs_expr (ge_callD F_check_kept hr (by decide) (by rfl) psX (ga_cons (gv 0) (ga_cons (gv 1) ga_nil))))
    (gss_cons (gs_set (i := 2) sc_is_best.nd rfl (Or.inl rfl) (ge_callD F_total hr (by decide) (by rfl) psX (ga_cons (ge_lc rfl sc_is_best.nd (tgOk_name 3) (gi_seq (gv 1)) (blkOk_by (N := N_is_best) (sc := defScope s_is_best) (own := [("number", 3)]) (by decide +kernel)) (fun _ _ _ _ _ => (pg_name (i := 3) sc_is_best.nd rfl (Or.inl rfl))) (fun _ _ _ _ _ => gts_nil) (fun _ _ _ _ _ => (ge_callD F_share_of hr (by decide) (by rfl) passL (ga_cons (gv 0) (ga_cons (gv 3) ga_nil))))) ga_nil)))
    (gss_one (gs_ret (ge_cmp (op_eqD hr.units) s_eq (gv 2) (ge_callD F_total hr (by decide) (by rfl) psX (ga_cons (ge_lc rfl sc_is_best.nd (tgOk_name 3) (gi_seq (ge_slice (ge_callD F_in_order hr (by decide) (by rfl) psX (ga_cons (gv 0) ga_nil)) go_none (go_some (ge_callB call_len c_len (by rfl) T.blt.len bb_len (ga_cons (gv 1) ga_nil))))) (blkOk_by (N := N_is_best) (sc := defScope s_is_best) (own := [("number", 3)]) (by decide +kernel)) (fun _ _ _ _ _ => (pg_name (i := 3) sc_is_best.nd rfl (Or.inl rfl))) (fun _ _ _ _ _ => gts_nil) (fun _ _ _ _ _ => (ge_callD F_share_of hr (by decide) (by rfl) passL (ga_cons (gv 0) (ga_cons (gv 3) ga_nil))))) ga_nil)) (nomark _)))))))
theorem ok_law_start (T : Txt K mg ca) : FnD P w K mg base ca 1 "_law_start" 1 m_law_start :=
  fnAt (k := 0) (N := N_law_start) T.d_law_start sc_law_start fun f cdv A outer s H E hr =>
    (gss_one (gs_ret (ge_obj (gf_lst (ga_cons (ge_obj (gf_if (gt_cmp (op_neD hr.units) s_ne (gv 0) (ge_lst ga_nil) (nomark _)) (gf_list (by rfl) T.blt.list bb_list (ga_cons (gv 0) ga_nil)) (gf_lst (ga_cons ge_int ga_nil)))) (ga_cons ge_int ga_nil))))))
theorem ok_law_draw (T : Txt K mg ca) : FnD P w K mg base ca 1 "_law_draw" 2 m_law_draw :=
  fnAt (k := 0) (N := N_law_draw) T.d_law_draw sc_law_draw fun f cdv A outer s H E hr =>
    (gss_cons (gs_set (i := 2) sc_law_draw.nd rfl (Or.inl rfl) (ge_ix (gv 0) ge_int (fun _ _ => rfl)))
    (gss_cons (gs_setB (gv 0) ge_int (ge_op op_addA s_add (ge_ix (gv 0) ge_int (fun _ _ => rfl)) ge_int))
    (gss_cons (gs_set (i := 3) sc_law_draw.nd rfl (Or.inl rfl) (ge_op op_mod s_mod (ge_ix (gv 0) ge_int (fun _ _ => rfl)) (ge_callB call_len c_len (by rfl) T.blt.len bb_len (ga_cons (gv 2) ga_nil))))
    (gss_cons (gs_set (i := 4) sc_law_draw.nd rfl (Or.inl rfl) (ge_ix (gv 2) (gv 3) (fun _ _ => rfl)))
    (gss_cons (gs_if (gt_cmp op_ge s_ge (gv 4) ge_int (nomark _)) (gss_cons (gs_setB (gv 2) (gv 3) (ge_op op_fdiv s_fdiv (gv 4) (gv 1)))
    (gss_one (gs_ret (ge_op op_mod s_mod (gv 4) (gv 1))))) gss_nil)
    (gss_cons (gs_set (i := 5) sc_law_draw.nd rfl (Or.inl rfl) (ge_op op_mod s_mod (ge_op op_addA s_add (gv 4) (ge_op op_mulA s_mul ge_int (ge_ix (gv 0) ge_int (fun _ _ => rfl)))) ge_int))
    (gss_cons (gs_set (i := 5) sc_law_draw.nd rfl (Or.inl rfl) (ge_op op_mod s_mod (ge_op op_pow s_pow (gv 5) ge_int) ge_int))
    (gss_one (gs_ret (ge_op op_mod s_mod (ge_op op_fdiv s_fdiv (ge_op op_mod s_mod (ge_op op_addA s_add (ge_op op_mulA s_mul (ge_op op_fdiv s_fdiv (gv 5) ge_int) ge_int) (gv 5)) ge_int) ge_int) (gv 1)))))))))))
theorem ok_law_pick (T : Txt K mg ca) (F_law_draw : FnD P w K mg base ca 1 "_law_draw" 2 m_law_draw) : FnD P w K mg base ca 2 "_law_pick" 2 m_law_pick :=
  fnAt (k := 1) (N := N_law_pick) T.d_law_pick sc_law_pick fun f cdv A outer s H E hr =>
    (gss_one (gs_ret (ge_ix (gv 1) (ge_callD F_law_draw hr (by decide) (by rfl) psX (ga_cons (gv 0) (ga_cons (ge_callB call_len c_len (by rfl) T.blt.len bb_len (ga_cons (gv 1) ga_nil)) ga_nil))) (fun _ _ => rfl))))
theorem ok_law_true (T : Txt K mg ca) : FnD P w K mg base ca 1 "_law_true" 2 m_law_true :=
  fnAt (k := 0) (N := N_law_true) T.d_law_true sc_law_true fun f cdv A outer s H E hr =>
    (gss_one (gs_ret (ge_and (ge_isi (by rfl) T.blt.isinstance bb_isinstance (by rfl) T.blt.bool bb_bool (gv 0)) (ge_one (ge_cmp (op_eqD hr.units) s_eq (gv 0) (gv 1) (nomark _))))))
theorem ok_law_form (T : Txt K mg ca) (F_law_pick : FnD P w K mg base ca 2 "_law_pick" 2 m_law_pick) (F_law_draw : FnD P w K mg base ca 1 "_law_draw" 2 m_law_draw) : FnD P w K mg base ca 3 "_law_form" 1 m_law_form :=
  fnAt (k := 2) (N := N_law_form) T.d_law_form sc_law_form fun f cdv A outer s H E hr =>
    (gss_cons (gs_set (i := 1) sc_law_form.nd rfl (Or.inl rfl) (ge_callD F_law_pick hr (by decide) (by rfl) psX (ga_cons (gv 0) (ga_cons (ge_lst (ga_cons ge_int (ga_cons ge_int (ga_cons ge_int (ga_cons ge_int (ga_cons ge_int (ga_cons ge_int ga_nil))))))) ga_nil))))
    (gss_cons (gs_set (i := 2) sc_law_form.nd rfl (Or.inr rfl) (ge_callD F_law_pick hr (by decide) (by rfl) psX (ga_cons (gv 0) (ga_cons (ge_lst (ga_cons ge_int (ga_cons ge_int (ga_cons ge_int ga_nil)))) ga_nil))))
    (gss_one (gs_ret (ge_lc rfl sc_law_form.nd (tgOk_name 3) (gi_range1 (by rfl) T.blt.range (ga_cons (gv 1) ga_nil)) (blkOk_by (N := N_law_form) (sc := defScope s_law_form) (own := [("k", 3)]) (by decide +kernel)) (fun _ _ _ _ _ => (pg_name (i := 3) sc_law_form.nd rfl (Or.inl rfl))) (fun _ _ _ _ _ => gts_nil) (fun _ _ _ _ _ => (ge_op op_sub s_sub (ge_callD F_law_draw hr (by decide) (by rfl) passL (ga_cons (gv 0) (ga_cons (ge_op op_addA s_add (ge_op op_mulA s_mul ge_int (gv 2)) ge_int) ga_nil))) (gv 2))))))))
theorem ok_law_span (T : Txt K mg ca) : FnD P w K mg base ca 1 "_law_span" 2 m_law_span :=
  fnAt (k := 0) (N := N_law_span) T.d_law_span sc_law_span fun f cdv A outer s H E hr =>
    (gss_cons (gs_set (i := 2) sc_law_span.nd rfl (Or.inl rfl) (ge_lst ga_nil))
    (gss_cons (gs_while 40 poX (gt_cmp op_gt s_gt (gv 1) ge_int (nomark _)) (gss_cons (gs_set (i := 2) sc_law_span.nd rfl (Or.inl rfl) (ge_op op_addA s_add (ge_lst (ga_cons (ge_op op_mod s_mod (gv 1) ge_int) ga_nil)) (gv 2)))
    (gss_one (gs_set (i := 1) sc_law_span.nd rfl (Or.inl rfl) (ge_op op_fdiv s_fdiv (gv 1) ge_int)))))
    (gss_cons (gs_par (i := 4) (j := 5) (by rfl) sc_law_span.nd rfl rfl (by decide) rfl rfl (ga_cons ge_int (ga_cons (gv 0) ga_nil)) (by rfl))
    (gss_cons (gs_for poX rfl (gi_seq (gv 2)) (gg_name (i := 3) sc_law_span.nd rfl (Or.inl rfl)) (gss_cons (gs_set (i := 6) sc_law_span.nd rfl (Or.inl rfl) (ge_op op_fdiv s_fdiv (ge_op op_addA s_add (gv 4) (gv 5)) ge_int))
    (gss_one (gs_asg (ge_if (gt_cmp (op_eqD hr.units) s_eq (gv 3) ge_int (nomark _)) (ge_tup (ga_cons (gv 4) (ga_cons (gv 6) ga_nil))) (ge_tup (ga_cons (gv 6) (ga_cons (gv 5) ga_nil)))) (gg_tup (by rfl) (ggs_cons (gg_name (i := 4) sc_law_span.nd rfl (Or.inl rfl)) (ggs_cons (gg_name (i := 5) sc_law_span.nd rfl (Or.inl rfl)) ggs_nil)) (tgCons_len (tgCons_len tgNil_len)))))))
    (gss_one (gs_ret (ge_tup (ga_cons (gv 4) (ga_cons (gv 5) ga_nil)))))))))
theorem ok_law_low (T : Txt K mg ca) : FnD P w K mg base ca 1 "_law_low" 2 m_law_low :=
  fnAt (k := 0) (N := N_law_low) T.d_law_low sc_law_low fun f cdv A outer s H E hr =>
    (gss_cons (gs_par (i := 2) (j := 3) (by rfl) sc_law_low.nd rfl rfl (by decide) rfl rfl (ga_cons (ge_callB call_abs c_abs (by rfl) T.blt.abs bb_abs (ga_cons (gv 0) ga_nil)) (ga_cons (gv 1) ga_nil)) (by rfl))
    (gss_cons (gs_while 63 poX (gt_cmp (op_neD hr.units) s_ne (gv 3) ge_int (nomark _)) (gss_one (gs_par (i := 2) (j := 3) (by rfl) sc_law_low.nd rfl rfl (by decide) rfl rfl (ga_cons (gv 3) (ga_cons (ge_op op_mod s_mod (gv 2) (gv 3)) ga_nil)) (by rfl))))
    (gss_one (gs_ret (ge_tup (ga_cons (ge_op op_fdiv s_fdiv (gv 0) (gv 2)) (ga_cons (ge_op op_fdiv s_fdiv (gv 1) (gv 2)) ga_nil)))))))
theorem ok_law_add (T : Txt K mg ca) (F_law_low : FnD P w K mg base ca 1 "_law_low" 2 m_law_low) : FnD P w K mg base ca 2 "_law_add" 2 m_law_add :=
  fnAt (k := 1) (N := N_law_add) T.d_law_add sc_law_add fun f cdv A outer s H E hr =>
    (gss_one (gs_ret (ge_callD F_law_low hr (by decide) (by rfl) psX (ga_cons (ge_op op_addA s_add (ge_op op_mulA s_mul (ge_ix (gv 0) ge_int (fun _ _ => rfl)) (ge_ix (gv 1) ge_int (fun _ _ => rfl))) (ge_op op_mulA s_mul (ge_ix (gv 1) ge_int (fun _ _ => rfl)) (ge_ix (gv 0) ge_int (fun _ _ => rfl)))) (ga_cons (ge_op op_mulA s_mul (ge_ix (gv 0) ge_int (fun _ _ => rfl)) (ge_ix (gv 1) ge_int (fun _ _ => rfl))) ga_nil)))))
theorem ok_law_below (T : Txt K mg ca) : FnD P w K mg base ca 1 "_law_below" 2 m_law_below :=
  fnAt (k := 0) (N := N_law_below) T.d_law_below sc_law_below fun f cdv A outer s H E hr =>
    (gss_one (gs_ret (ge_cmp op_lt s_lt (ge_op op_mulA s_mul (ge_ix (gv 0) ge_int (fun _ _ => rfl)) (ge_ix (gv 1) ge_int (fun _ _ => rfl))) (ge_op op_mulA s_mul (ge_ix (gv 1) ge_int (fun _ _ => rfl)) (ge_ix (gv 0) ge_int (fun _ _ => rfl))) (nomark _))))
theorem ok_law_share (T : Txt K mg ca) (F_law_span : FnD P w K mg base ca 1 "_law_span" 2 m_law_span) (F_law_low : FnD P w K mg base ca 1 "_law_low" 2 m_law_low) : FnD P w K mg base ca 2 "_law_share" 2 m_law_share :=
  fnAt (k := 1) (N := N_law_share) T.d_law_share sc_law_share fun f cdv A outer s H E hr =>
    (gss_cons (gs_asg (ge_callD F_law_span hr (by decide) (by rfl) psX (ga_cons (ge_callB call_len c_len (by rfl) T.blt.len bb_len (ga_cons (gv 0) ga_nil)) (ga_cons (ge_callB (call_max2 rfl) c_max (by rfl) T.blt.max bb_max (ga_cons ge_int (ga_cons (gv 1) ga_nil))) ga_nil))) (gg_tup (by rfl) (ggs_cons (gg_name (i := 2) sc_law_share.nd rfl (Or.inl rfl)) (ggs_cons (gg_name (i := 3) sc_law_share.nd rfl (Or.inl rfl)) ggs_nil)) (tgCons_len (tgCons_len tgNil_len))))
    (gss_one (gs_ret (ge_callD F_law_low hr (by decide) (by rfl) psX (ga_cons (ge_op op_mulA s_mul (ge_ix (gv 0) (gv 1) (fun _ _ => rfl)) (ge_ix (gv 0) (gv 1) (fun _ _ => rfl))) (ga_cons (ge_op op_sub s_sub (gv 3) (gv 2)) ga_nil))))))
theorem ok_law_total (T : Txt K mg ca) (F_law_add : FnD P w K mg base ca 2 "_law_add" 2 m_law_add) : FnD P w K mg base ca 3 "_law_total" 1 m_law_total :=
  fnAt (k := 2) (N := N_law_total) T.d_law_total sc_law_total fun f cdv A outer s H E hr =>
    (gss_cons (gs_set (i := 1) sc_law_total.nd rfl (Or.inl rfl) (ge_tup (ga_cons ge_int (ga_cons ge_int ga_nil))))
    (gss_cons (gs_for poX rfl (gi_seq (gv 0)) (gg_name (i := 2) sc_law_total.nd rfl (Or.inl rfl)) (gss_one (gs_set (i := 1) sc_law_total.nd rfl (Or.inl rfl) (ge_callD F_law_add hr (by decide) (by rfl) psX (ga_cons (gv 1) (ga_cons (gv 2) ga_nil))))))
    (gss_one (gs_ret (gv 1)))))
theorem ok_law (T : Txt K mg ca) (F_law_start : FnD P w K mg base ca 1 "_law_start" 1 m_law_start) (F_law_form : FnD P w K mg base ca 3 "_law_form" 1 m_law_form) (F_law_share : FnD P w K mg base ca 2 "_law_share" 2 m_law_share) (F_law_draw : FnD P w K mg base ca 1 "_law_draw" 2 m_law_draw) (F_law_total : FnD P w K mg base ca 3 "_law_total" 1 m_law_total) (F_law_below : FnD P w K mg base ca 1 "_law_below" 2 m_law_below) (F_least_error : FnD P w K mg base ca 5 "least_error" 2 m_least_error) (F_count_best : FnD P w K mg base ca 6 "count_best" 2 m_count_best) (F_best_kept : FnD P w K mg base ca 5 "best_kept" 2 m_best_kept) (F_by_share : FnD P w K mg base ca 5 "by_share" 1 m_by_share) (F_left_out : FnD P w K mg base ca 5 "left_out" 2 m_left_out) (F_law_pick : FnD P w K mg base ca 2 "_law_pick" 2 m_law_pick) (F_is_best : FnD P w K mg base ca 5 "is_best" 2 m_is_best) (F_law_true : FnD P w K mg base ca 1 "_law_true" 2 m_law_true) (F_only : FnD P w K mg base ca 4 "only" 2 m_only) {f : Addr} {fd : FuncData} (F : Fun K "law" "law" s_law f fd) : FnOk P w K mg base (L2.CX P w) 7 f fd ["script"] (spD K ca 1 m_law) :=
  fnD (k := 6) (N := N_law) F sc_law fun cdv A outer s H E hr =>
    (gss_cons (gs_set (i := 1) sc_law.nd rfl (Or.inl rfl) (ge_callD F_law_start hr (by decide) (by rfl) psX (ga_cons (gv 0) ga_nil)))
    (gss_cons (gs_set (i := 2) sc_law.nd rfl (Or.inr rfl) (ge_slice (ge_callD F_law_form hr (by decide) (by rfl) psX (ga_cons (gv 1) ga_nil)) go_none (go_some ge_int)))
    (gss_cons (gs_set (i := 3) sc_law.nd rfl (Or.inl rfl) (ge_callB call_len c_len (by rfl) T.blt.len bb_len (ga_cons (gv 2) ga_nil)))
    (gss_cons (gs_set (i := 4) sc_law.nd rfl (Or.inr rfl) (ge_lc rfl sc_law.nd (tgOk_name 6) (gi_range1 (by rfl) T.blt.range (ga_cons (gv 3) ga_nil)) (blkOk_by (N := N_law) (sc := defScope s_law) (own := [("number", 6)]) (by decide +kernel)) (fun _ _ _ _ _ => (pg_name (i := 6) sc_law.nd rfl (Or.inl rfl))) (fun _ _ _ _ _ => gts_nil) (fun _ _ _ _ _ => (ge_callD F_law_share hr (by decide) (by rfl) passL (ga_cons (gv 2) (ga_cons (gv 6) ga_nil))))))
    (gss_cons (gs_set (i := 5) sc_law.nd rfl (Or.inl rfl) (ge_lst (ga_cons (ge_tup ga_nil) ga_nil)))
    (gss_cons (gs_for poX rfl (gi_range2 (by rfl) T.blt.range (ga_cons ge_int (ga_cons (gv 3) ga_nil))) (gg_name (i := 6) sc_law.nd rfl (Or.inr rfl)) (gss_one (gs_set (i := 5) sc_law.nd rfl (Or.inl rfl) (ge_op op_addA s_add (gv 5) (ge_lc rfl sc_law.nd (tgOk_name 9) (gi_seq (gv 5)) (blkOk_by (N := N_law) (sc := defScope s_law) (own := [("one", 9)]) (by decide +kernel)) (fun _ _ _ _ _ => (pg_name (i := 9) sc_law.nd rfl (Or.inl rfl))) (fun _ _ _ _ _ => gts_nil) (fun _ _ _ _ _ => (ge_op op_catA s_catT (gv 9) (ge_tup (ga_cons (gv 6) ga_nil)))))))))
    (gss_cons (gs_set (i := 7) sc_law.nd rfl (Or.inl rfl) (ge_callD F_law_draw hr (by decide) (by rfl) psX (ga_cons (gv 1) (ga_cons (gv 3) ga_nil))))
    (gss_cons (gs_own (i := 8) sc_law.nd rfl (Or.inl rfl) (gf_lst ga_nil))
    (gss_cons (gs_for poX rfl (gi_seq (gv 5)) (gg_name (i := 9) sc_law.nd rfl (Or.inr rfl)) (gss_one (gs_if (gt_cmp (op_eqD hr.units) s_eq (ge_callB call_len c_len (by rfl) T.blt.len bb_len (ga_cons (gv 9) ga_nil)) (gv 7) (nomark _)) (gss_one (gs_app (pv 8) (ge_tup (ga_cons (gv 9) (ga_cons (ge_callD F_law_total hr (by decide) (by rfl) psX (ga_cons (ge_lc rfl sc_law.nd (tgOk_name 6) (gi_range2 (by rfl) T.blt.range (ga_cons ge_int (ga_cons (gv 3) ga_nil))) (blkOk_by (N := N_law) (sc := defScope s_law) (own := [("number", 6)]) (by decide +kernel)) (fun _ _ _ _ _ => (pg_name (i := 6) sc_law.nd rfl (Or.inl rfl))) (fun _ _ _ _ _ => (gts_one (gt_cmp (op_notInA (hu65 hr)) s_notIn (gv 6) (gv 9) (by rfl)))) (fun _ _ _ _ _ => (ge_ix (gv 4) (gv 6) (fun _ _ => rfl)))) ga_nil)) ga_nil))))) gss_nil)))
    (gss_cons (gs_set (i := 10) sc_law.nd rfl (Or.inr rfl) (ge_ix (ge_ownIx (pv 8) ge_int (fun _ _ => rfl)) ge_int (fun _ _ => rfl)))
    (gss_cons (gs_frz 8 (gs_for poX rfl (gi_seq (gv 8)) (gg_tup (by rfl) (ggs_cons (gg_name (i := 9) sc_law.nd rfl (Or.inr rfl)) (ggs_cons (gg_name (i := 13) sc_law.nd rfl (Or.inl rfl)) ggs_nil)) (tgCons_len (tgCons_len tgNil_len))) (gss_one (gs_if (gt_val (ge_callD F_law_below hr (by decide) (by rfl) psX (ga_cons (gv 13) (ga_cons (gv 10) ga_nil)))) (gss_one (gs_set (i := 10) sc_law.nd rfl (Or.inr rfl) (gv 13))) gss_nil))))
    (gss_cons (gs_setLc (i := 11) rfl sc_law.nd rfl rfl (sw_true rfl rfl rfl (by decide +kernel)) (tgOk_pair (j := 9) (k := 13) (by decide)) (gi_seq (gv 8)) (blkOk_by (N := N_law) (sc := defScope s_law) (own := [("one", 9), ("left", 13)]) (by decide +kernel)) (fun _ _ _ _ _ => (pg_tup rfl (pgs_cons (pg_name (i := 9) sc_law.nd rfl (Or.inl rfl)) (pgs_cons (pg_name (i := 13) sc_law.nd rfl (Or.inl rfl)) pgs_nil)))) (fun _ _ _ _ _ => (gts_one (gt_cmp (op_eqD hr.units) s_eq (gv 13) (gv 10) (nomark _)))) (fun _ _ _ _ _ => (gv 9)))
    (gss_cons (gs_if (PW.pt (gw_or (gt_cmp (op_neD hr.units) s_ne (ge_callD F_least_error hr (by decide) (by rfl) psX (ga_cons (gv 2) (ga_cons (gv 7) ga_nil))) (gv 10) (nomark _)) (gw_or (gt_cmp (op_neD hr.units) s_ne (ge_callD F_count_best hr (by decide) (by rfl) psX (ga_cons (gv 2) (ga_cons (gv 7) ga_nil))) (ge_callB call_len c_len (by rfl) T.blt.len bb_len (ga_cons (gv 11) ga_nil)) (nomark _)) (gw_or1 (gt_cmp (op_notInA (hu65 hr)) s_notIn (ge_callD F_best_kept hr (by decide) (by rfl) psX (ga_cons (gv 2) (ga_cons (gv 7) ga_nil))) (gv 11) (by rfl)))))) (gss_one (gs_ret ge_bl)) gss_nil)
    (gss_cons (gs_if (PW.pt (gw_or (gt_cmp (op_neD hr.units) s_ne (ge_callD F_best_kept hr (by decide) (by rfl) psX (ga_cons (gv 2) (ga_cons (gv 7) ga_nil))) (ge_callTy call_tuple_of c_tuple (by rfl) T.blt.tuple bb_tuple (ga_cons (ge_callB cr_sorted c_sorted (by rfl) T.blt.sorted bb_sorted (ga_cons (ge_slice (ge_callD F_by_share hr (by decide) (by rfl) psX (ga_cons (gv 2) ga_nil)) go_none (go_some (gv 7))) ga_nil)) ga_nil)) (nomark _)) (gw_or1 (gt_cmp (op_neD hr.units) s_ne (ge_callD F_left_out hr (by decide) (by rfl) psX (ga_cons (gv 2) (ga_cons (ge_callD F_best_kept hr (by decide) (by rfl) psX (ga_cons (gv 2) (ga_cons (gv 7) ga_nil))) ga_nil))) (gv 10) (nomark _))))) (gss_one (gs_ret ge_bl)) gss_nil)
    (gss_cons (gs_set (i := 9) sc_law.nd rfl (Or.inr rfl) (ge_callD F_law_pick hr (by decide) (by rfl) psX (ga_cons (gv 1) (ga_cons (gv 5) ga_nil))))
    (gss_cons (gs_set (i := 12) sc_law.nd rfl (Or.inl rfl) (ge_callD F_left_out hr (by decide) (by rfl) psX (ga_cons (gv 2) (ga_cons (gv 9) ga_nil))))
    (gss_cons (gs_if (gt_not (gt_val (ge_callD F_law_true hr (by decide) (by rfl) psX (ga_cons (ge_callD F_is_best hr (by decide) (by rfl) psX (ga_cons (gv 2) (ga_cons (gv 9) ga_nil))) (ga_cons (ge_cmp (op_eqD hr.units) s_eq (gv 12) (ge_callD F_least_error hr (by decide) (by rfl) psX (ga_cons (gv 2) (ga_cons (ge_callB call_len c_len (by rfl) T.blt.len bb_len (ga_cons (gv 9) ga_nil)) ga_nil))) (nomark _)) ga_nil))))) (gss_one (gs_ret ge_bl)) gss_nil)
    (gss_one (gs_ret (ge_and (ge_cmp op_isA s_is (ge_callD F_is_best hr (by decide) (by rfl) psX (ga_cons (gv 2) (ga_cons (ge_callD F_best_kept hr (by decide) (by rfl) psX (ga_cons (gv 2) (ga_cons (gv 7) ga_nil))) ga_nil))) ge_bl (nomark _)) (ge_one (ge_cmp (op_eqD hr.units) s_eq (ge_callD F_only hr (by decide) (by rfl) psX (ga_cons (gv 2) (ga_cons (gv 9) ga_nil))) (ge_lc rfl sc_law.nd (tgOk_name 14) (gi_range1 (by rfl) T.blt.range (ga_cons (gv 3) ga_nil)) (blkOk_by (N := N_law) (sc := defScope s_law) (own := [("k", 14)]) (by decide +kernel)) (fun _ _ _ _ _ => (pg_name (i := 14) sc_law.nd rfl (Or.inl rfl))) (fun _ _ _ _ _ => gts_nil) (fun _ _ _ _ _ => (ge_if (PW.pt (gw_or (gt_cmp (op_eqD hr.units) s_eq (gv 14) ge_int (nomark _)) (gw_or1 (gt_cmp (op_inA (hu65 hr)) s_in (gv 14) (gv 9) (by rfl))))) (ge_ix (gv 2) (gv 14) (fun _ _ => rfl)) ge_int))) (nomark _)))))))))))))))))))))))
theorem chain (T : Txt K mg ca) {f : Addr} {fd : FuncData} (F : Fun K "law" "law" s_law f fd) : FnOk P w K mg base (L2.CX P w) 7 f fd ["script"] (spD K ca 1 m_law) := by
  have F_is_int : FnD P w K mg base ca 1 "is_int" 3 m_is_int := ok_is_int T
  have F_is_form : FnD P w K mg base ca 2 "is_form" 1 m_is_form := ok_is_form T F_is_int
  have F_check_form : FnD P w K mg base ca 3 "check_form" 1 m_check_form := ok_check_form T F_is_form
  have F_is_kept : FnD P w K mg base ca 2 "is_kept" 2 m_is_kept := ok_is_kept T F_is_int
  have F_check_kept : FnD P w K mg base ca 3 "check_kept" 2 m_check_kept := ok_check_kept T F_is_kept
  have F_common : FnD P w K mg base ca 1 "common" 2 m_common := ok_common T
  have F_lowest : FnD P w K mg base ca 2 "lowest" 2 m_lowest := ok_lowest T F_common
  have F_plus : FnD P w K mg base ca 3 "plus" 2 m_plus := ok_plus T F_lowest
  have F_less : FnD P w K mg base ca 1 "less" 2 m_less := ok_less T
  have F_total : FnD P w K mg base ca 4 "total" 1 m_total := ok_total T F_plus
  have F_block_size : FnD P w K mg base ca 1 "block_size" 2 m_block_size := ok_block_size T
  have F_share_of : FnD P w K mg base ca 3 "share_of" 2 m_share_of := ok_share_of T F_lowest F_block_size
  have F_left_out : FnD P w K mg base ca 5 "left_out" 2 m_left_out := ok_left_out T F_check_form F_check_kept F_share_of F_total
  have F_in_order : FnD P w K mg base ca 4 "in_order" 1 m_in_order := ok_in_order T F_share_of F_less
  have F_by_share : FnD P w K mg base ca 5 "by_share" 1 m_by_share := ok_by_share T F_check_form F_in_order
  have F_check_many : FnD P w K mg base ca 2 "check_many" 2 m_check_many := ok_check_many T F_is_int
  have F_with_kept : FnD P w K mg base ca 1 "with_kept" 2 m_with_kept := ok_with_kept T
  have F_only : FnD P w K mg base ca 4 "only" 2 m_only := ok_only T F_check_form F_check_kept F_with_kept
  have F_best_kept : FnD P w K mg base ca 5 "best_kept" 2 m_best_kept := ok_best_kept T F_check_form F_check_many F_in_order
  have F_least_error : FnD P w K mg base ca 5 "least_error" 2 m_least_error := ok_least_error T F_check_form F_check_many F_in_order F_share_of F_total
  have F_ties : FnD P w K mg base ca 5 "ties" 2 m_ties := ok_ties T F_in_order F_share_of
  have F_choose : FnD P w K mg base ca 1 "choose" 2 m_choose := ok_choose T
  have F_count_best : FnD P w K mg base ca 6 "count_best" 2 m_count_best := ok_count_best T F_check_form F_check_many F_ties F_choose
  have F_is_best : FnD P w K mg base ca 5 "is_best" 2 m_is_best := ok_is_best T F_check_form F_check_kept F_share_of F_total F_in_order
  have F_law_start : FnD P w K mg base ca 1 "_law_start" 1 m_law_start := ok_law_start T
  have F_law_draw : FnD P w K mg base ca 1 "_law_draw" 2 m_law_draw := ok_law_draw T
  have F_law_pick : FnD P w K mg base ca 2 "_law_pick" 2 m_law_pick := ok_law_pick T F_law_draw
  have F_law_true : FnD P w K mg base ca 1 "_law_true" 2 m_law_true := ok_law_true T
  have F_law_form : FnD P w K mg base ca 3 "_law_form" 1 m_law_form := ok_law_form T F_law_pick F_law_draw
  have F_law_span : FnD P w K mg base ca 1 "_law_span" 2 m_law_span := ok_law_span T
  have F_law_low : FnD P w K mg base ca 1 "_law_low" 2 m_law_low := ok_law_low T
  have F_law_add : FnD P w K mg base ca 2 "_law_add" 2 m_law_add := ok_law_add T F_law_low
  have F_law_below : FnD P w K mg base ca 1 "_law_below" 2 m_law_below := ok_law_below T
  have F_law_share : FnD P w K mg base ca 2 "_law_share" 2 m_law_share := ok_law_share T F_law_span F_law_low
  have F_law_total : FnD P w K mg base ca 3 "_law_total" 1 m_law_total := ok_law_total T F_law_add
  exact ok_law T F_law_start F_law_form F_law_share F_law_draw F_law_total F_law_below F_least_error F_count_best F_best_kept F_by_share F_left_out F_law_pick F_is_best F_law_true F_only F
end
theorem all_mk {l : PySem.W.OpenLaw} {w : World} {K : PySem.W.Frag} {h : Heap} {mg : Str → Option Value} {fa : Addr} (X : K.In h) (G : h.Ns mainGlobals mg) (hfa : mg "law" = some (.ref fa))
    (hlaw : LawTrue m_law)
    {a_LENGTHS : Addr} {dd_LENGTHS : Option Addr} {n_LENGTHS0 : Nat} {sl_LENGTHS : Array (Option Value)} {t0_LENGTHS t1_LENGTHS t2_LENGTHS t3_LENGTHS t4_LENGTHS : Tok}
    {t_MOST_PART : Tok}
    {C_BadForm : Addr}
    {C_BadKept : Addr}
    {C_BadNumber : Addr}
    {f_is_int : Addr} {od_is_int an_is_int : Option Addr} {sl_is_int : Array (Option Value)} {oc_is_int kV_is_int dc_is_int pm_is_int cd_is_int ct_is_int : Value}
    {f_is_form : Addr} {od_is_form an_is_form : Option Addr} {sl_is_form : Array (Option Value)} {oc_is_form kV_is_form dc_is_form pm_is_form cd_is_form ct_is_form : Value}
    {f_check_form : Addr} {od_check_form an_check_form : Option Addr} {sl_check_form : Array (Option Value)} {oc_check_form kV_check_form dc_check_form pm_check_form cd_check_form ct_check_form : Value}
    {f_is_kept : Addr} {od_is_kept an_is_kept : Option Addr} {sl_is_kept : Array (Option Value)} {oc_is_kept kV_is_kept dc_is_kept pm_is_kept cd_is_kept ct_is_kept : Value}
    {f_check_kept : Addr} {od_check_kept an_check_kept : Option Addr} {sl_check_kept : Array (Option Value)} {oc_check_kept kV_check_kept dc_check_kept pm_check_kept cd_check_kept ct_check_kept : Value}
    {f_common : Addr} {od_common an_common : Option Addr} {sl_common : Array (Option Value)} {oc_common kV_common dc_common pm_common cd_common ct_common : Value}
    {f_lowest : Addr} {od_lowest an_lowest : Option Addr} {sl_lowest : Array (Option Value)} {oc_lowest kV_lowest dc_lowest pm_lowest cd_lowest ct_lowest : Value}
    {f_plus : Addr} {od_plus an_plus : Option Addr} {sl_plus : Array (Option Value)} {oc_plus kV_plus dc_plus pm_plus cd_plus ct_plus : Value}
    {f_less : Addr} {od_less an_less : Option Addr} {sl_less : Array (Option Value)} {oc_less kV_less dc_less pm_less cd_less ct_less : Value}
    {f_total : Addr} {od_total an_total : Option Addr} {sl_total : Array (Option Value)} {oc_total kV_total dc_total pm_total cd_total ct_total : Value}
    {f_block_size : Addr} {od_block_size an_block_size : Option Addr} {sl_block_size : Array (Option Value)} {oc_block_size kV_block_size dc_block_size pm_block_size cd_block_size ct_block_size : Value}
    {f_share_of : Addr} {od_share_of an_share_of : Option Addr} {sl_share_of : Array (Option Value)} {oc_share_of kV_share_of dc_share_of pm_share_of cd_share_of ct_share_of : Value}
    {f_left_out : Addr} {od_left_out an_left_out : Option Addr} {sl_left_out : Array (Option Value)} {oc_left_out kV_left_out dc_left_out pm_left_out cd_left_out ct_left_out : Value}
    {f_in_order : Addr} {od_in_order an_in_order : Option Addr} {sl_in_order : Array (Option Value)} {oc_in_order kV_in_order dc_in_order pm_in_order cd_in_order ct_in_order : Value}
    {f_by_share : Addr} {od_by_share an_by_share : Option Addr} {sl_by_share : Array (Option Value)} {oc_by_share kV_by_share dc_by_share pm_by_share cd_by_share ct_by_share : Value}
    {f_check_many : Addr} {od_check_many an_check_many : Option Addr} {sl_check_many : Array (Option Value)} {oc_check_many kV_check_many dc_check_many pm_check_many cd_check_many ct_check_many : Value}
    {f_with_kept : Addr} {od_with_kept an_with_kept : Option Addr} {sl_with_kept : Array (Option Value)} {oc_with_kept kV_with_kept dc_with_kept pm_with_kept cd_with_kept ct_with_kept : Value}
    {f_only : Addr} {od_only an_only : Option Addr} {sl_only : Array (Option Value)} {oc_only kV_only dc_only pm_only cd_only ct_only : Value}
    {f_best_kept : Addr} {od_best_kept an_best_kept : Option Addr} {sl_best_kept : Array (Option Value)} {oc_best_kept kV_best_kept dc_best_kept pm_best_kept cd_best_kept ct_best_kept : Value}
    {f_least_error : Addr} {od_least_error an_least_error : Option Addr} {sl_least_error : Array (Option Value)} {oc_least_error kV_least_error dc_least_error pm_least_error cd_least_error ct_least_error : Value}
    {f_ties : Addr} {od_ties an_ties : Option Addr} {sl_ties : Array (Option Value)} {oc_ties kV_ties dc_ties pm_ties cd_ties ct_ties : Value}
    {f_choose : Addr} {od_choose an_choose : Option Addr} {sl_choose : Array (Option Value)} {oc_choose kV_choose dc_choose pm_choose cd_choose ct_choose : Value}
    {f_count_best : Addr} {od_count_best an_count_best : Option Addr} {sl_count_best : Array (Option Value)} {oc_count_best kV_count_best dc_count_best pm_count_best cd_count_best ct_count_best : Value}
    {f_is_best : Addr} {od_is_best an_is_best : Option Addr} {sl_is_best : Array (Option Value)} {oc_is_best kV_is_best dc_is_best pm_is_best cd_is_best ct_is_best : Value}
    {f_law_start : Addr} {od_law_start an_law_start : Option Addr} {sl_law_start : Array (Option Value)} {oc_law_start kV_law_start dc_law_start pm_law_start cd_law_start ct_law_start : Value}
    {f_law_draw : Addr} {od_law_draw an_law_draw : Option Addr} {sl_law_draw : Array (Option Value)} {oc_law_draw kV_law_draw dc_law_draw pm_law_draw cd_law_draw ct_law_draw : Value}
    {f_law_pick : Addr} {od_law_pick an_law_pick : Option Addr} {sl_law_pick : Array (Option Value)} {oc_law_pick kV_law_pick dc_law_pick pm_law_pick cd_law_pick ct_law_pick : Value}
    {f_law_true : Addr} {od_law_true an_law_true : Option Addr} {sl_law_true : Array (Option Value)} {oc_law_true kV_law_true dc_law_true pm_law_true cd_law_true ct_law_true : Value}
    {f_law_form : Addr} {od_law_form an_law_form : Option Addr} {sl_law_form : Array (Option Value)} {oc_law_form kV_law_form dc_law_form pm_law_form cd_law_form ct_law_form : Value}
    {f_law_span : Addr} {od_law_span an_law_span : Option Addr} {sl_law_span : Array (Option Value)} {oc_law_span kV_law_span dc_law_span pm_law_span cd_law_span ct_law_span : Value}
    {f_law_low : Addr} {od_law_low an_law_low : Option Addr} {sl_law_low : Array (Option Value)} {oc_law_low kV_law_low dc_law_low pm_law_low cd_law_low ct_law_low : Value}
    {f_law_add : Addr} {od_law_add an_law_add : Option Addr} {sl_law_add : Array (Option Value)} {oc_law_add kV_law_add dc_law_add pm_law_add cd_law_add ct_law_add : Value}
    {f_law_below : Addr} {od_law_below an_law_below : Option Addr} {sl_law_below : Array (Option Value)} {oc_law_below kV_law_below dc_law_below pm_law_below cd_law_below ct_law_below : Value}
    {f_law_share : Addr} {od_law_share an_law_share : Option Addr} {sl_law_share : Array (Option Value)} {oc_law_share kV_law_share dc_law_share pm_law_share cd_law_share ct_law_share : Value}
    {f_law_total : Addr} {od_law_total an_law_total : Option Addr} {sl_law_total : Array (Option Value)} {oc_law_total kV_law_total dc_law_total pm_law_total cd_law_total ct_law_total : Value}
    {f_law : Addr} {od_law an_law : Option Addr} {sl_law : Array (Option Value)} {oc_law kV_law dc_law pm_law cd_law ct_law : Value}
    (z_isinstance : PySem.W.nsIn K mainGlobals "isinstance" = some none)
    (z_int : PySem.W.nsIn K mainGlobals "int" = some none)
    (z_bool : PySem.W.nsIn K mainGlobals "bool" = some none)
    (z_list : PySem.W.nsIn K mainGlobals "list" = some none)
    (z_tuple : PySem.W.nsIn K mainGlobals "tuple" = some none)
    (z_str : PySem.W.nsIn K mainGlobals "str" = some none)
    (z_set : PySem.W.nsIn K mainGlobals "set" = some none)
    (z_len : PySem.W.nsIn K mainGlobals "len" = some none)
    (z_abs : PySem.W.nsIn K mainGlobals "abs" = some none)
    (z_max : PySem.W.nsIn K mainGlobals "max" = some none)
    (z_sum : PySem.W.nsIn K mainGlobals "sum" = some none)
    (z_all : PySem.W.nsIn K mainGlobals "all" = some none)
    (z_sorted : PySem.W.nsIn K mainGlobals "sorted" = some none)
    (z_range : PySem.W.nsIn K mainGlobals "range" = some none)
    (z_zip : PySem.W.nsIn K mainGlobals "zip" = some none)
    (z_enumerate : PySem.W.nsIn K mainGlobals "enumerate" = some none)
    (n_LENGTHS : PySem.W.nsIn K mainGlobals "LENGTHS" = some (some (.ref a_LENGTHS)))
    (l_LENGTHS : K.lookup a_LENGTHS = some ⟨.type "tuple", dd_LENGTHS, .seq #[.int 1 t0_LENGTHS, .int 2 t1_LENGTHS, .int 4 t2_LENGTHS, .int 8 t3_LENGTHS, .int 16 t4_LENGTHS] n_LENGTHS0, sl_LENGTHS⟩)
    (n_MOST_PART : PySem.W.nsIn K mainGlobals "MOST_PART" = some (some (.int 10000 t_MOST_PART)))
    (n_BadForm : PySem.W.nsIn K mainGlobals "BadForm" = some (some (.ref C_BadForm)))
    (x_BadForm : PySem.W.excIn K C_BadForm [.type "ValueError", .type "Exception", .type "BaseException", .type "object"] "ValueError.__new__" = true)
    (k_BadForm : PySem.W.keepIn K (.ref C_BadForm) = true)
    (b_BadForm : PySem.W.subIn K (.ref C_BadForm) (.type "BaseException") = some true)
    (t_BadForm : PySem.W.typeIn K (.ref C_BadForm) = some (.type "type"))
    (n_BadKept : PySem.W.nsIn K mainGlobals "BadKept" = some (some (.ref C_BadKept)))
    (x_BadKept : PySem.W.excIn K C_BadKept [.type "ValueError", .type "Exception", .type "BaseException", .type "object"] "ValueError.__new__" = true)
    (k_BadKept : PySem.W.keepIn K (.ref C_BadKept) = true)
    (b_BadKept : PySem.W.subIn K (.ref C_BadKept) (.type "BaseException") = some true)
    (t_BadKept : PySem.W.typeIn K (.ref C_BadKept) = some (.type "type"))
    (n_BadNumber : PySem.W.nsIn K mainGlobals "BadNumber" = some (some (.ref C_BadNumber)))
    (x_BadNumber : PySem.W.excIn K C_BadNumber [.type "ValueError", .type "Exception", .type "BaseException", .type "object"] "ValueError.__new__" = true)
    (k_BadNumber : PySem.W.keepIn K (.ref C_BadNumber) = true)
    (b_BadNumber : PySem.W.subIn K (.ref C_BadNumber) (.type "BaseException") = some true)
    (t_BadNumber : PySem.W.typeIn K (.ref C_BadNumber) = some (.type "type"))
    (a_is_int : PySem.W.nsIn K mainGlobals "is_int" = some (some (.ref f_is_int)))
    (l_is_int : K.lookup f_is_int = some ⟨oc_is_int, od_is_int, .func (PySem.W.fnOf "is_int" "is_int" (defArgs s_is_int) (defBody s_is_int) (defScope s_is_int) .none kV_is_int dc_is_int pm_is_int an_is_int cd_is_int ct_is_int), sl_is_int⟩)
    (c_is_int : PySem.W.codeIn K cd_is_int "is_int" = true)
    (k_is_int : PySem.W.keepIn K (.ref f_is_int) = true)
    (a_is_form : PySem.W.nsIn K mainGlobals "is_form" = some (some (.ref f_is_form)))
    (l_is_form : K.lookup f_is_form = some ⟨oc_is_form, od_is_form, .func (PySem.W.fnOf "is_form" "is_form" (defArgs s_is_form) (defBody s_is_form) (defScope s_is_form) .none kV_is_form dc_is_form pm_is_form an_is_form cd_is_form ct_is_form), sl_is_form⟩)
    (c_is_form : PySem.W.codeIn K cd_is_form "is_form" = true)
    (k_is_form : PySem.W.keepIn K (.ref f_is_form) = true)
    (a_check_form : PySem.W.nsIn K mainGlobals "check_form" = some (some (.ref f_check_form)))
    (l_check_form : K.lookup f_check_form = some ⟨oc_check_form, od_check_form, .func (PySem.W.fnOf "check_form" "check_form" (defArgs s_check_form) (defBody s_check_form) (defScope s_check_form) .none kV_check_form dc_check_form pm_check_form an_check_form cd_check_form ct_check_form), sl_check_form⟩)
    (c_check_form : PySem.W.codeIn K cd_check_form "check_form" = true)
    (k_check_form : PySem.W.keepIn K (.ref f_check_form) = true)
    (a_is_kept : PySem.W.nsIn K mainGlobals "is_kept" = some (some (.ref f_is_kept)))
    (l_is_kept : K.lookup f_is_kept = some ⟨oc_is_kept, od_is_kept, .func (PySem.W.fnOf "is_kept" "is_kept" (defArgs s_is_kept) (defBody s_is_kept) (defScope s_is_kept) .none kV_is_kept dc_is_kept pm_is_kept an_is_kept cd_is_kept ct_is_kept), sl_is_kept⟩)
    (c_is_kept : PySem.W.codeIn K cd_is_kept "is_kept" = true)
    (k_is_kept : PySem.W.keepIn K (.ref f_is_kept) = true)
    (a_check_kept : PySem.W.nsIn K mainGlobals "check_kept" = some (some (.ref f_check_kept)))
    (l_check_kept : K.lookup f_check_kept = some ⟨oc_check_kept, od_check_kept, .func (PySem.W.fnOf "check_kept" "check_kept" (defArgs s_check_kept) (defBody s_check_kept) (defScope s_check_kept) .none kV_check_kept dc_check_kept pm_check_kept an_check_kept cd_check_kept ct_check_kept), sl_check_kept⟩)
    (c_check_kept : PySem.W.codeIn K cd_check_kept "check_kept" = true)
    (k_check_kept : PySem.W.keepIn K (.ref f_check_kept) = true)
    (a_common : PySem.W.nsIn K mainGlobals "common" = some (some (.ref f_common)))
    (l_common : K.lookup f_common = some ⟨oc_common, od_common, .func (PySem.W.fnOf "common" "common" (defArgs s_common) (defBody s_common) (defScope s_common) .none kV_common dc_common pm_common an_common cd_common ct_common), sl_common⟩)
    (c_common : PySem.W.codeIn K cd_common "common" = true)
    (k_common : PySem.W.keepIn K (.ref f_common) = true)
    (a_lowest : PySem.W.nsIn K mainGlobals "lowest" = some (some (.ref f_lowest)))
    (l_lowest : K.lookup f_lowest = some ⟨oc_lowest, od_lowest, .func (PySem.W.fnOf "lowest" "lowest" (defArgs s_lowest) (defBody s_lowest) (defScope s_lowest) .none kV_lowest dc_lowest pm_lowest an_lowest cd_lowest ct_lowest), sl_lowest⟩)
    (c_lowest : PySem.W.codeIn K cd_lowest "lowest" = true)
    (k_lowest : PySem.W.keepIn K (.ref f_lowest) = true)
    (a_plus : PySem.W.nsIn K mainGlobals "plus" = some (some (.ref f_plus)))
    (l_plus : K.lookup f_plus = some ⟨oc_plus, od_plus, .func (PySem.W.fnOf "plus" "plus" (defArgs s_plus) (defBody s_plus) (defScope s_plus) .none kV_plus dc_plus pm_plus an_plus cd_plus ct_plus), sl_plus⟩)
    (c_plus : PySem.W.codeIn K cd_plus "plus" = true)
    (k_plus : PySem.W.keepIn K (.ref f_plus) = true)
    (a_less : PySem.W.nsIn K mainGlobals "less" = some (some (.ref f_less)))
    (l_less : K.lookup f_less = some ⟨oc_less, od_less, .func (PySem.W.fnOf "less" "less" (defArgs s_less) (defBody s_less) (defScope s_less) .none kV_less dc_less pm_less an_less cd_less ct_less), sl_less⟩)
    (c_less : PySem.W.codeIn K cd_less "less" = true)
    (k_less : PySem.W.keepIn K (.ref f_less) = true)
    (a_total : PySem.W.nsIn K mainGlobals "total" = some (some (.ref f_total)))
    (l_total : K.lookup f_total = some ⟨oc_total, od_total, .func (PySem.W.fnOf "total" "total" (defArgs s_total) (defBody s_total) (defScope s_total) .none kV_total dc_total pm_total an_total cd_total ct_total), sl_total⟩)
    (c_total : PySem.W.codeIn K cd_total "total" = true)
    (k_total : PySem.W.keepIn K (.ref f_total) = true)
    (a_block_size : PySem.W.nsIn K mainGlobals "block_size" = some (some (.ref f_block_size)))
    (l_block_size : K.lookup f_block_size = some ⟨oc_block_size, od_block_size, .func (PySem.W.fnOf "block_size" "block_size" (defArgs s_block_size) (defBody s_block_size) (defScope s_block_size) .none kV_block_size dc_block_size pm_block_size an_block_size cd_block_size ct_block_size), sl_block_size⟩)
    (c_block_size : PySem.W.codeIn K cd_block_size "block_size" = true)
    (k_block_size : PySem.W.keepIn K (.ref f_block_size) = true)
    (a_share_of : PySem.W.nsIn K mainGlobals "share_of" = some (some (.ref f_share_of)))
    (l_share_of : K.lookup f_share_of = some ⟨oc_share_of, od_share_of, .func (PySem.W.fnOf "share_of" "share_of" (defArgs s_share_of) (defBody s_share_of) (defScope s_share_of) .none kV_share_of dc_share_of pm_share_of an_share_of cd_share_of ct_share_of), sl_share_of⟩)
    (c_share_of : PySem.W.codeIn K cd_share_of "share_of" = true)
    (k_share_of : PySem.W.keepIn K (.ref f_share_of) = true)
    (a_left_out : PySem.W.nsIn K mainGlobals "left_out" = some (some (.ref f_left_out)))
    (l_left_out : K.lookup f_left_out = some ⟨oc_left_out, od_left_out, .func (PySem.W.fnOf "left_out" "left_out" (defArgs s_left_out) (defBody s_left_out) (defScope s_left_out) .none kV_left_out dc_left_out pm_left_out an_left_out cd_left_out ct_left_out), sl_left_out⟩)
    (c_left_out : PySem.W.codeIn K cd_left_out "left_out" = true)
    (k_left_out : PySem.W.keepIn K (.ref f_left_out) = true)
    (a_in_order : PySem.W.nsIn K mainGlobals "in_order" = some (some (.ref f_in_order)))
    (l_in_order : K.lookup f_in_order = some ⟨oc_in_order, od_in_order, .func (PySem.W.fnOf "in_order" "in_order" (defArgs s_in_order) (defBody s_in_order) (defScope s_in_order) .none kV_in_order dc_in_order pm_in_order an_in_order cd_in_order ct_in_order), sl_in_order⟩)
    (c_in_order : PySem.W.codeIn K cd_in_order "in_order" = true)
    (k_in_order : PySem.W.keepIn K (.ref f_in_order) = true)
    (a_by_share : PySem.W.nsIn K mainGlobals "by_share" = some (some (.ref f_by_share)))
    (l_by_share : K.lookup f_by_share = some ⟨oc_by_share, od_by_share, .func (PySem.W.fnOf "by_share" "by_share" (defArgs s_by_share) (defBody s_by_share) (defScope s_by_share) .none kV_by_share dc_by_share pm_by_share an_by_share cd_by_share ct_by_share), sl_by_share⟩)
    (c_by_share : PySem.W.codeIn K cd_by_share "by_share" = true)
    (k_by_share : PySem.W.keepIn K (.ref f_by_share) = true)
    (a_check_many : PySem.W.nsIn K mainGlobals "check_many" = some (some (.ref f_check_many)))
    (l_check_many : K.lookup f_check_many = some ⟨oc_check_many, od_check_many, .func (PySem.W.fnOf "check_many" "check_many" (defArgs s_check_many) (defBody s_check_many) (defScope s_check_many) .none kV_check_many dc_check_many pm_check_many an_check_many cd_check_many ct_check_many), sl_check_many⟩)
    (c_check_many : PySem.W.codeIn K cd_check_many "check_many" = true)
    (k_check_many : PySem.W.keepIn K (.ref f_check_many) = true)
    (a_with_kept : PySem.W.nsIn K mainGlobals "with_kept" = some (some (.ref f_with_kept)))
    (l_with_kept : K.lookup f_with_kept = some ⟨oc_with_kept, od_with_kept, .func (PySem.W.fnOf "with_kept" "with_kept" (defArgs s_with_kept) (defBody s_with_kept) (defScope s_with_kept) .none kV_with_kept dc_with_kept pm_with_kept an_with_kept cd_with_kept ct_with_kept), sl_with_kept⟩)
    (c_with_kept : PySem.W.codeIn K cd_with_kept "with_kept" = true)
    (k_with_kept : PySem.W.keepIn K (.ref f_with_kept) = true)
    (a_only : PySem.W.nsIn K mainGlobals "only" = some (some (.ref f_only)))
    (l_only : K.lookup f_only = some ⟨oc_only, od_only, .func (PySem.W.fnOf "only" "only" (defArgs s_only) (defBody s_only) (defScope s_only) .none kV_only dc_only pm_only an_only cd_only ct_only), sl_only⟩)
    (c_only : PySem.W.codeIn K cd_only "only" = true)
    (k_only : PySem.W.keepIn K (.ref f_only) = true)
    (a_best_kept : PySem.W.nsIn K mainGlobals "best_kept" = some (some (.ref f_best_kept)))
    (l_best_kept : K.lookup f_best_kept = some ⟨oc_best_kept, od_best_kept, .func (PySem.W.fnOf "best_kept" "best_kept" (defArgs s_best_kept) (defBody s_best_kept) (defScope s_best_kept) .none kV_best_kept dc_best_kept pm_best_kept an_best_kept cd_best_kept ct_best_kept), sl_best_kept⟩)
    (c_best_kept : PySem.W.codeIn K cd_best_kept "best_kept" = true)
    (k_best_kept : PySem.W.keepIn K (.ref f_best_kept) = true)
    (a_least_error : PySem.W.nsIn K mainGlobals "least_error" = some (some (.ref f_least_error)))
    (l_least_error : K.lookup f_least_error = some ⟨oc_least_error, od_least_error, .func (PySem.W.fnOf "least_error" "least_error" (defArgs s_least_error) (defBody s_least_error) (defScope s_least_error) .none kV_least_error dc_least_error pm_least_error an_least_error cd_least_error ct_least_error), sl_least_error⟩)
    (c_least_error : PySem.W.codeIn K cd_least_error "least_error" = true)
    (k_least_error : PySem.W.keepIn K (.ref f_least_error) = true)
    (a_ties : PySem.W.nsIn K mainGlobals "ties" = some (some (.ref f_ties)))
    (l_ties : K.lookup f_ties = some ⟨oc_ties, od_ties, .func (PySem.W.fnOf "ties" "ties" (defArgs s_ties) (defBody s_ties) (defScope s_ties) .none kV_ties dc_ties pm_ties an_ties cd_ties ct_ties), sl_ties⟩)
    (c_ties : PySem.W.codeIn K cd_ties "ties" = true)
    (k_ties : PySem.W.keepIn K (.ref f_ties) = true)
    (a_choose : PySem.W.nsIn K mainGlobals "choose" = some (some (.ref f_choose)))
    (l_choose : K.lookup f_choose = some ⟨oc_choose, od_choose, .func (PySem.W.fnOf "choose" "choose" (defArgs s_choose) (defBody s_choose) (defScope s_choose) .none kV_choose dc_choose pm_choose an_choose cd_choose ct_choose), sl_choose⟩)
    (c_choose : PySem.W.codeIn K cd_choose "choose" = true)
    (k_choose : PySem.W.keepIn K (.ref f_choose) = true)
    (a_count_best : PySem.W.nsIn K mainGlobals "count_best" = some (some (.ref f_count_best)))
    (l_count_best : K.lookup f_count_best = some ⟨oc_count_best, od_count_best, .func (PySem.W.fnOf "count_best" "count_best" (defArgs s_count_best) (defBody s_count_best) (defScope s_count_best) .none kV_count_best dc_count_best pm_count_best an_count_best cd_count_best ct_count_best), sl_count_best⟩)
    (c_count_best : PySem.W.codeIn K cd_count_best "count_best" = true)
    (k_count_best : PySem.W.keepIn K (.ref f_count_best) = true)
    (a_is_best : PySem.W.nsIn K mainGlobals "is_best" = some (some (.ref f_is_best)))
    (l_is_best : K.lookup f_is_best = some ⟨oc_is_best, od_is_best, .func (PySem.W.fnOf "is_best" "is_best" (defArgs s_is_best) (defBody s_is_best) (defScope s_is_best) .none kV_is_best dc_is_best pm_is_best an_is_best cd_is_best ct_is_best), sl_is_best⟩)
    (c_is_best : PySem.W.codeIn K cd_is_best "is_best" = true)
    (k_is_best : PySem.W.keepIn K (.ref f_is_best) = true)
    (a_law_start : PySem.W.nsIn K mainGlobals "_law_start" = some (some (.ref f_law_start)))
    (l_law_start : K.lookup f_law_start = some ⟨oc_law_start, od_law_start, .func (PySem.W.fnOf "_law_start" "_law_start" (defArgs s_law_start) (defBody s_law_start) (defScope s_law_start) .none kV_law_start dc_law_start pm_law_start an_law_start cd_law_start ct_law_start), sl_law_start⟩)
    (c_law_start : PySem.W.codeIn K cd_law_start "_law_start" = true)
    (k_law_start : PySem.W.keepIn K (.ref f_law_start) = true)
    (a_law_draw : PySem.W.nsIn K mainGlobals "_law_draw" = some (some (.ref f_law_draw)))
    (l_law_draw : K.lookup f_law_draw = some ⟨oc_law_draw, od_law_draw, .func (PySem.W.fnOf "_law_draw" "_law_draw" (defArgs s_law_draw) (defBody s_law_draw) (defScope s_law_draw) .none kV_law_draw dc_law_draw pm_law_draw an_law_draw cd_law_draw ct_law_draw), sl_law_draw⟩)
    (c_law_draw : PySem.W.codeIn K cd_law_draw "_law_draw" = true)
    (k_law_draw : PySem.W.keepIn K (.ref f_law_draw) = true)
    (a_law_pick : PySem.W.nsIn K mainGlobals "_law_pick" = some (some (.ref f_law_pick)))
    (l_law_pick : K.lookup f_law_pick = some ⟨oc_law_pick, od_law_pick, .func (PySem.W.fnOf "_law_pick" "_law_pick" (defArgs s_law_pick) (defBody s_law_pick) (defScope s_law_pick) .none kV_law_pick dc_law_pick pm_law_pick an_law_pick cd_law_pick ct_law_pick), sl_law_pick⟩)
    (c_law_pick : PySem.W.codeIn K cd_law_pick "_law_pick" = true)
    (k_law_pick : PySem.W.keepIn K (.ref f_law_pick) = true)
    (a_law_true : PySem.W.nsIn K mainGlobals "_law_true" = some (some (.ref f_law_true)))
    (l_law_true : K.lookup f_law_true = some ⟨oc_law_true, od_law_true, .func (PySem.W.fnOf "_law_true" "_law_true" (defArgs s_law_true) (defBody s_law_true) (defScope s_law_true) .none kV_law_true dc_law_true pm_law_true an_law_true cd_law_true ct_law_true), sl_law_true⟩)
    (c_law_true : PySem.W.codeIn K cd_law_true "_law_true" = true)
    (k_law_true : PySem.W.keepIn K (.ref f_law_true) = true)
    (a_law_form : PySem.W.nsIn K mainGlobals "_law_form" = some (some (.ref f_law_form)))
    (l_law_form : K.lookup f_law_form = some ⟨oc_law_form, od_law_form, .func (PySem.W.fnOf "_law_form" "_law_form" (defArgs s_law_form) (defBody s_law_form) (defScope s_law_form) .none kV_law_form dc_law_form pm_law_form an_law_form cd_law_form ct_law_form), sl_law_form⟩)
    (c_law_form : PySem.W.codeIn K cd_law_form "_law_form" = true)
    (k_law_form : PySem.W.keepIn K (.ref f_law_form) = true)
    (a_law_span : PySem.W.nsIn K mainGlobals "_law_span" = some (some (.ref f_law_span)))
    (l_law_span : K.lookup f_law_span = some ⟨oc_law_span, od_law_span, .func (PySem.W.fnOf "_law_span" "_law_span" (defArgs s_law_span) (defBody s_law_span) (defScope s_law_span) .none kV_law_span dc_law_span pm_law_span an_law_span cd_law_span ct_law_span), sl_law_span⟩)
    (c_law_span : PySem.W.codeIn K cd_law_span "_law_span" = true)
    (k_law_span : PySem.W.keepIn K (.ref f_law_span) = true)
    (a_law_low : PySem.W.nsIn K mainGlobals "_law_low" = some (some (.ref f_law_low)))
    (l_law_low : K.lookup f_law_low = some ⟨oc_law_low, od_law_low, .func (PySem.W.fnOf "_law_low" "_law_low" (defArgs s_law_low) (defBody s_law_low) (defScope s_law_low) .none kV_law_low dc_law_low pm_law_low an_law_low cd_law_low ct_law_low), sl_law_low⟩)
    (c_law_low : PySem.W.codeIn K cd_law_low "_law_low" = true)
    (k_law_low : PySem.W.keepIn K (.ref f_law_low) = true)
    (a_law_add : PySem.W.nsIn K mainGlobals "_law_add" = some (some (.ref f_law_add)))
    (l_law_add : K.lookup f_law_add = some ⟨oc_law_add, od_law_add, .func (PySem.W.fnOf "_law_add" "_law_add" (defArgs s_law_add) (defBody s_law_add) (defScope s_law_add) .none kV_law_add dc_law_add pm_law_add an_law_add cd_law_add ct_law_add), sl_law_add⟩)
    (c_law_add : PySem.W.codeIn K cd_law_add "_law_add" = true)
    (k_law_add : PySem.W.keepIn K (.ref f_law_add) = true)
    (a_law_below : PySem.W.nsIn K mainGlobals "_law_below" = some (some (.ref f_law_below)))
    (l_law_below : K.lookup f_law_below = some ⟨oc_law_below, od_law_below, .func (PySem.W.fnOf "_law_below" "_law_below" (defArgs s_law_below) (defBody s_law_below) (defScope s_law_below) .none kV_law_below dc_law_below pm_law_below an_law_below cd_law_below ct_law_below), sl_law_below⟩)
    (c_law_below : PySem.W.codeIn K cd_law_below "_law_below" = true)
    (k_law_below : PySem.W.keepIn K (.ref f_law_below) = true)
    (a_law_share : PySem.W.nsIn K mainGlobals "_law_share" = some (some (.ref f_law_share)))
    (l_law_share : K.lookup f_law_share = some ⟨oc_law_share, od_law_share, .func (PySem.W.fnOf "_law_share" "_law_share" (defArgs s_law_share) (defBody s_law_share) (defScope s_law_share) .none kV_law_share dc_law_share pm_law_share an_law_share cd_law_share ct_law_share), sl_law_share⟩)
    (c_law_share : PySem.W.codeIn K cd_law_share "_law_share" = true)
    (k_law_share : PySem.W.keepIn K (.ref f_law_share) = true)
    (a_law_total : PySem.W.nsIn K mainGlobals "_law_total" = some (some (.ref f_law_total)))
    (l_law_total : K.lookup f_law_total = some ⟨oc_law_total, od_law_total, .func (PySem.W.fnOf "_law_total" "_law_total" (defArgs s_law_total) (defBody s_law_total) (defScope s_law_total) .none kV_law_total dc_law_total pm_law_total an_law_total cd_law_total ct_law_total), sl_law_total⟩)
    (c_law_total : PySem.W.codeIn K cd_law_total "_law_total" = true)
    (k_law_total : PySem.W.keepIn K (.ref f_law_total) = true)
    (a_law : PySem.W.nsIn K mainGlobals "law" = some (some (.ref f_law)))
    (l_law : K.lookup f_law = some ⟨oc_law, od_law, .func (PySem.W.fnOf "law" "law" (defArgs s_law) (defBody s_law) (defScope s_law) .none kV_law dc_law pm_law an_law cd_law ct_law), sl_law⟩)
    (c_law : PySem.W.codeIn K cd_law "law" = true)
    (k_law : PySem.W.keepIn K (.ref f_law) = true) :
    ∃ fd : FuncData, (∀ (s : Shared) (v : Value), BindsTo s fd ⟨[v], []⟩ [("script", v)]) ∧ ∀ base : Heap, K.In base → base.Ns mainGlobals mg → FnOk l.prog w K mg base (L2.CX l.prog w) 7 fa fd ["script"] (spLaw K) := by
  have e := hfa.symm.trans (PySem.W.mg_of X G a_law)
  cases e
  have T : Txt K mg (caOf [0, 0, C_BadForm, C_BadNumber, C_BadKept, 0, 0, 0]) := {
    blt := ⟨PySem.W.mg_none_of X G z_isinstance, PySem.W.mg_none_of X G z_int, PySem.W.mg_none_of X G z_bool, PySem.W.mg_none_of X G z_list, PySem.W.mg_none_of X G z_tuple, PySem.W.mg_none_of X G z_str, PySem.W.mg_none_of X G z_set, PySem.W.mg_none_of X G z_len, PySem.W.mg_none_of X G z_abs, PySem.W.mg_none_of X G z_max, PySem.W.mg_none_of X G z_sum, PySem.W.mg_none_of X G z_all, PySem.W.mg_none_of X G z_sorted, PySem.W.mg_none_of X G z_range, PySem.W.mg_none_of X G z_zip, PySem.W.mg_none_of X G z_enumerate⟩
    c_LENGTHS := ⟨_, PySem.W.mg_of X G n_LENGTHS, ⟨_, _, _, l_LENGTHS, rfl, rfl, (by show 5 ≤ sizeLine; decide), .cons ⟨_, rfl⟩ (.cons ⟨_, rfl⟩ (.cons ⟨_, rfl⟩ (.cons ⟨_, rfl⟩ (.cons ⟨_, rfl⟩ (.nil)))))⟩⟩
    c_MOST_PART := ⟨_, PySem.W.mg_of X G n_MOST_PART⟩
    e_BadForm := ⟨PySem.W.mg_of X G n_BadForm, x_BadForm, k_BadForm, b_BadForm, t_BadForm⟩
    e_BadKept := ⟨PySem.W.mg_of X G n_BadKept, x_BadKept, k_BadKept, b_BadKept, t_BadKept⟩
    e_BadNumber := ⟨PySem.W.mg_of X G n_BadNumber, x_BadNumber, k_BadNumber, b_BadNumber, t_BadNumber⟩
    d_is_int := defAt_mk X G a_is_int l_is_int c_is_int k_is_int (fun _ _ _ _ _ _ us hl => match us, hl with | [_, _, _], _ => rfl)
    d_is_form := defAt_mk X G a_is_form l_is_form c_is_form k_is_form (fun _ _ _ _ _ _ us hl => match us, hl with | [_], _ => rfl)
    d_check_form := defAt_mk X G a_check_form l_check_form c_check_form k_check_form (fun _ _ _ _ _ _ us hl => match us, hl with | [_], _ => rfl)
    d_is_kept := defAt_mk X G a_is_kept l_is_kept c_is_kept k_is_kept (fun _ _ _ _ _ _ us hl => match us, hl with | [_, _], _ => rfl)
    d_check_kept := defAt_mk X G a_check_kept l_check_kept c_check_kept k_check_kept (fun _ _ _ _ _ _ us hl => match us, hl with | [_, _], _ => rfl)
    d_common := defAt_mk X G a_common l_common c_common k_common (fun _ _ _ _ _ _ us hl => match us, hl with | [_, _], _ => rfl)
    d_lowest := defAt_mk X G a_lowest l_lowest c_lowest k_lowest (fun _ _ _ _ _ _ us hl => match us, hl with | [_, _], _ => rfl)
    d_plus := defAt_mk X G a_plus l_plus c_plus k_plus (fun _ _ _ _ _ _ us hl => match us, hl with | [_, _], _ => rfl)
    d_less := defAt_mk X G a_less l_less c_less k_less (fun _ _ _ _ _ _ us hl => match us, hl with | [_, _], _ => rfl)
    d_total := defAt_mk X G a_total l_total c_total k_total (fun _ _ _ _ _ _ us hl => match us, hl with | [_], _ => rfl)
    d_block_size := defAt_mk X G a_block_size l_block_size c_block_size k_block_size (fun _ _ _ _ _ _ us hl => match us, hl with | [_, _], _ => rfl)
    d_share_of := defAt_mk X G a_share_of l_share_of c_share_of k_share_of (fun _ _ _ _ _ _ us hl => match us, hl with | [_, _], _ => rfl)
    d_left_out := defAt_mk X G a_left_out l_left_out c_left_out k_left_out (fun _ _ _ _ _ _ us hl => match us, hl with | [_, _], _ => rfl)
    d_in_order := defAt_mk X G a_in_order l_in_order c_in_order k_in_order (fun _ _ _ _ _ _ us hl => match us, hl with | [_], _ => rfl)
    d_by_share := defAt_mk X G a_by_share l_by_share c_by_share k_by_share (fun _ _ _ _ _ _ us hl => match us, hl with | [_], _ => rfl)
    d_check_many := defAt_mk X G a_check_many l_check_many c_check_many k_check_many (fun _ _ _ _ _ _ us hl => match us, hl with | [_, _], _ => rfl)
    d_with_kept := defAt_mk X G a_with_kept l_with_kept c_with_kept k_with_kept (fun _ _ _ _ _ _ us hl => match us, hl with | [_, _], _ => rfl)
    d_only := defAt_mk X G a_only l_only c_only k_only (fun _ _ _ _ _ _ us hl => match us, hl with | [_, _], _ => rfl)
    d_best_kept := defAt_mk X G a_best_kept l_best_kept c_best_kept k_best_kept (fun _ _ _ _ _ _ us hl => match us, hl with | [_, _], _ => rfl)
    d_least_error := defAt_mk X G a_least_error l_least_error c_least_error k_least_error (fun _ _ _ _ _ _ us hl => match us, hl with | [_, _], _ => rfl)
    d_ties := defAt_mk X G a_ties l_ties c_ties k_ties (fun _ _ _ _ _ _ us hl => match us, hl with | [_, _], _ => rfl)
    d_choose := defAt_mk X G a_choose l_choose c_choose k_choose (fun _ _ _ _ _ _ us hl => match us, hl with | [_, _], _ => rfl)
    d_count_best := defAt_mk X G a_count_best l_count_best c_count_best k_count_best (fun _ _ _ _ _ _ us hl => match us, hl with | [_, _], _ => rfl)
    d_is_best := defAt_mk X G a_is_best l_is_best c_is_best k_is_best (fun _ _ _ _ _ _ us hl => match us, hl with | [_, _], _ => rfl)
    d_law_start := defAt_mk X G a_law_start l_law_start c_law_start k_law_start (fun _ _ _ _ _ _ us hl => match us, hl with | [_], _ => rfl)
    d_law_draw := defAt_mk X G a_law_draw l_law_draw c_law_draw k_law_draw (fun _ _ _ _ _ _ us hl => match us, hl with | [_, _], _ => rfl)
    d_law_pick := defAt_mk X G a_law_pick l_law_pick c_law_pick k_law_pick (fun _ _ _ _ _ _ us hl => match us, hl with | [_, _], _ => rfl)
    d_law_true := defAt_mk X G a_law_true l_law_true c_law_true k_law_true (fun _ _ _ _ _ _ us hl => match us, hl with | [_, _], _ => rfl)
    d_law_form := defAt_mk X G a_law_form l_law_form c_law_form k_law_form (fun _ _ _ _ _ _ us hl => match us, hl with | [_], _ => rfl)
    d_law_span := defAt_mk X G a_law_span l_law_span c_law_span k_law_span (fun _ _ _ _ _ _ us hl => match us, hl with | [_, _], _ => rfl)
    d_law_low := defAt_mk X G a_law_low l_law_low c_law_low k_law_low (fun _ _ _ _ _ _ us hl => match us, hl with | [_, _], _ => rfl)
    d_law_add := defAt_mk X G a_law_add l_law_add c_law_add k_law_add (fun _ _ _ _ _ _ us hl => match us, hl with | [_, _], _ => rfl)
    d_law_below := defAt_mk X G a_law_below l_law_below c_law_below k_law_below (fun _ _ _ _ _ _ us hl => match us, hl with | [_, _], _ => rfl)
    d_law_share := defAt_mk X G a_law_share l_law_share c_law_share k_law_share (fun _ _ _ _ _ _ us hl => match us, hl with | [_, _], _ => rfl)
    d_law_total := defAt_mk X G a_law_total l_law_total c_law_total k_law_total (fun _ _ _ _ _ _ us hl => match us, hl with | [_], _ => rfl)
  }
  exact ⟨PySem.W.fnOf "law" "law" (defArgs s_law) (defBody s_law) (defScope s_law) .none kV_law dc_law pm_law an_law cd_law ct_law, fun s v => .of_eq rfl, fun base _ _ =>
    law_sp hlaw (chain T (fun_mk (st := s_law) l_law c_law k_law))⟩
end DL.K06
set_option Elab.async false
set_option linter.all false
set_option maxRecDepth 100000
set_option maxHeartbeats 4000000
open PySem PySem.W PyProof.Rows in
set_option maxRecDepth 100000 in
set_option maxHeartbeats 0 in
theorem PySem.Challenge.cw_haarrows_k06_whole_best_holds : PySem.Challenge.rw_haarrows_k06_whole_best.Holds := by
  w_on; o_law; k_head; (case hw => w_witness2)
  k_fill
  refine DL.walkD (l := PySem.Challenge.rw_haarrows_k06_whole_best) (k := 7) rfl rfl ⟨rfl, by decide, by decide⟩ (fun w h Y => PySem.W.kIn_of Y) ?F
  case F =>
    intro w mg fa h KX G hmg
    refine' DL.K06.all_mk KX G hmg DL.K06.law_true ?z_isinstance ?z_int ?z_bool ?z_list ?z_tuple ?z_str ?z_set ?z_len ?z_abs ?z_max ?z_sum ?z_all ?z_sorted ?z_range ?z_zip ?z_enumerate ?n_LENGTHS ?l_LENGTHS ?n_MOST_PART ?n_BadForm ?x_BadForm ?k_BadForm ?b_BadForm ?t_BadForm ?n_BadKept ?x_BadKept ?k_BadKept ?b_BadKept ?t_BadKept ?n_BadNumber ?x_BadNumber ?k_BadNumber ?b_BadNumber ?t_BadNumber ?a_is_int ?l_is_int ?c_is_int ?k_is_int ?a_is_form ?l_is_form ?c_is_form ?k_is_form ?a_check_form ?l_check_form ?c_check_form ?k_check_form ?a_is_kept ?l_is_kept ?c_is_kept ?k_is_kept ?a_check_kept ?l_check_kept ?c_check_kept ?k_check_kept ?a_common ?l_common ?c_common ?k_common ?a_lowest ?l_lowest ?c_lowest ?k_lowest ?a_plus ?l_plus ?c_plus ?k_plus ?a_less ?l_less ?c_less ?k_less ?a_total ?l_total ?c_total ?k_total ?a_block_size ?l_block_size ?c_block_size ?k_block_size ?a_share_of ?l_share_of ?c_share_of ?k_share_of ?a_left_out ?l_left_out ?c_left_out ?k_left_out ?a_in_order ?l_in_order ?c_in_order ?k_in_order ?a_by_share ?l_by_share ?c_by_share ?k_by_share ?a_check_many ?l_check_many ?c_check_many ?k_check_many ?a_with_kept ?l_with_kept ?c_with_kept ?k_with_kept ?a_only ?l_only ?c_only ?k_only ?a_best_kept ?l_best_kept ?c_best_kept ?k_best_kept ?a_least_error ?l_least_error ?c_least_error ?k_least_error ?a_ties ?l_ties ?c_ties ?k_ties ?a_choose ?l_choose ?c_choose ?k_choose ?a_count_best ?l_count_best ?c_count_best ?k_count_best ?a_is_best ?l_is_best ?c_is_best ?k_is_best ?a_law_start ?l_law_start ?c_law_start ?k_law_start ?a_law_draw ?l_law_draw ?c_law_draw ?k_law_draw ?a_law_pick ?l_law_pick ?c_law_pick ?k_law_pick ?a_law_true ?l_law_true ?c_law_true ?k_law_true ?a_law_form ?l_law_form ?c_law_form ?k_law_form ?a_law_span ?l_law_span ?c_law_span ?k_law_span ?a_law_low ?l_law_low ?c_law_low ?k_law_low ?a_law_add ?l_law_add ?c_law_add ?k_law_add ?a_law_below ?l_law_below ?c_law_below ?k_law_below ?a_law_share ?l_law_share ?c_law_share ?k_law_share ?a_law_total ?l_law_total ?c_law_total ?k_law_total ?a_law ?l_law ?c_law ?k_law
    (case z_isinstance => k_is)
    (case z_int => k_is)
    (case z_bool => k_is)
    (case z_list => k_is)
    (case z_tuple => k_is)
    (case z_str => k_is)
    (case z_set => k_is)
    (case z_len => k_is)
    (case z_abs => k_is)
    (case z_max => k_is)
    (case z_sum => k_is)
    (case z_all => k_is)
    (case z_sorted => k_is)
    (case z_range => k_is)
    (case z_zip => k_is)
    (case z_enumerate => k_is)
    (case n_LENGTHS => k_is)
    (case l_LENGTHS => k_is)
    (case n_MOST_PART => k_is)
    (case n_BadForm => k_is)
    (case x_BadForm => first | k_exc | k_is)
    (case k_BadForm => k_is)
    (case b_BadForm => k_is)
    (case t_BadForm => k_is)
    (case n_BadKept => k_is)
    (case x_BadKept => first | k_exc | k_is)
    (case k_BadKept => k_is)
    (case b_BadKept => k_is)
    (case t_BadKept => k_is)
    (case n_BadNumber => k_is)
    (case x_BadNumber => first | k_exc | k_is)
    (case k_BadNumber => k_is)
    (case b_BadNumber => k_is)
    (case t_BadNumber => k_is)
    (case a_is_int => k_is)
    (case l_is_int => k_is)
    (case c_is_int => k_is)
    (case k_is_int => k_is)
    (case a_is_form => k_is)
    (case l_is_form => k_is)
    (case c_is_form => k_is)
    (case k_is_form => k_is)
    (case a_check_form => k_is)
    (case l_check_form => k_is)
    (case c_check_form => k_is)
    (case k_check_form => k_is)
    (case a_is_kept => k_is)
    (case l_is_kept => k_is)
    (case c_is_kept => k_is)
    (case k_is_kept => k_is)
    (case a_check_kept => k_is)
    (case l_check_kept => k_is)
    (case c_check_kept => k_is)
    (case k_check_kept => k_is)
    (case a_common => k_is)
    (case l_common => k_is)
    (case c_common => k_is)
    (case k_common => k_is)
    (case a_lowest => k_is)
    (case l_lowest => k_is)
    (case c_lowest => k_is)
    (case k_lowest => k_is)
    (case a_plus => k_is)
    (case l_plus => k_is)
    (case c_plus => k_is)
    (case k_plus => k_is)
    (case a_less => k_is)
    (case l_less => k_is)
    (case c_less => k_is)
    (case k_less => k_is)
    (case a_total => k_is)
    (case l_total => k_is)
    (case c_total => k_is)
    (case k_total => k_is)
    (case a_block_size => k_is)
    (case l_block_size => k_is)
    (case c_block_size => k_is)
    (case k_block_size => k_is)
    (case a_share_of => k_is)
    (case l_share_of => k_is)
    (case c_share_of => k_is)
    (case k_share_of => k_is)
    (case a_left_out => k_is)
    (case l_left_out => k_is)
    (case c_left_out => k_is)
    (case k_left_out => k_is)
    (case a_in_order => k_is)
    (case l_in_order => k_is)
    (case c_in_order => k_is)
    (case k_in_order => k_is)
    (case a_by_share => k_is)
    (case l_by_share => k_is)
    (case c_by_share => k_is)
    (case k_by_share => k_is)
    (case a_check_many => k_is)
    (case l_check_many => k_is)
    (case c_check_many => k_is)
    (case k_check_many => k_is)
    (case a_with_kept => k_is)
    (case l_with_kept => k_is)
    (case c_with_kept => k_is)
    (case k_with_kept => k_is)
    (case a_only => k_is)
    (case l_only => k_is)
    (case c_only => k_is)
    (case k_only => k_is)
    (case a_best_kept => k_is)
    (case l_best_kept => k_is)
    (case c_best_kept => k_is)
    (case k_best_kept => k_is)
    (case a_least_error => k_is)
    (case l_least_error => k_is)
    (case c_least_error => k_is)
    (case k_least_error => k_is)
    (case a_ties => k_is)
    (case l_ties => k_is)
    (case c_ties => k_is)
    (case k_ties => k_is)
    (case a_choose => k_is)
    (case l_choose => k_is)
    (case c_choose => k_is)
    (case k_choose => k_is)
    (case a_count_best => k_is)
    (case l_count_best => k_is)
    (case c_count_best => k_is)
    (case k_count_best => k_is)
    (case a_is_best => k_is)
    (case l_is_best => k_is)
    (case c_is_best => k_is)
    (case k_is_best => k_is)
    (case a_law_start => k_is)
    (case l_law_start => k_is)
    (case c_law_start => k_is)
    (case k_law_start => k_is)
    (case a_law_draw => k_is)
    (case l_law_draw => k_is)
    (case c_law_draw => k_is)
    (case k_law_draw => k_is)
    (case a_law_pick => k_is)
    (case l_law_pick => k_is)
    (case c_law_pick => k_is)
    (case k_law_pick => k_is)
    (case a_law_true => k_is)
    (case l_law_true => k_is)
    (case c_law_true => k_is)
    (case k_law_true => k_is)
    (case a_law_form => k_is)
    (case l_law_form => k_is)
    (case c_law_form => k_is)
    (case k_law_form => k_is)
    (case a_law_span => k_is)
    (case l_law_span => k_is)
    (case c_law_span => k_is)
    (case k_law_span => k_is)
    (case a_law_low => k_is)
    (case l_law_low => k_is)
    (case c_law_low => k_is)
    (case k_law_low => k_is)
    (case a_law_add => k_is)
    (case l_law_add => k_is)
    (case c_law_add => k_is)
    (case k_law_add => k_is)
    (case a_law_below => k_is)
    (case l_law_below => k_is)
    (case c_law_below => k_is)
    (case k_law_below => k_is)
    (case a_law_share => k_is)
    (case l_law_share => k_is)
    (case c_law_share => k_is)
    (case k_law_share => k_is)
    (case a_law_total => k_is)
    (case l_law_total => k_is)
    (case c_law_total => k_is)
    (case k_law_total => k_is)
    (case a_law => k_is)
    (case l_law => k_is)
    (case c_law => k_is)
    (case k_law => k_is)
