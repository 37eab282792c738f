import PyProof.Rows.All
import Wide.All
import OpenK.AllK
import Wide.FinOn
import HandS.ForMost
import HandS.ForExc
import HandS.Iter
import HandS.Style
import HandS.IsInst
import HandS.Deep
import HandS.Conv
import HandS.TupAny
import HandS.ExcIs
import HandS.ExcValue
import KE.SortData
import HandS.SetFor
import HandS.Strs
import HandS.FStr
import PySem.Challenge.RW_haarrows_k18_errors
set_option Elab.async false
set_option linter.all false
set_option maxRecDepth 100000
set_option maxHeartbeats 1000000
namespace DL
open PySem L2
inductive D where
  | non
  | bl (b : Bool)
  | int (i : Int)
  | str (x : Str)
  | lst (xs : List D)
  | tup (xs : List D)
  | obj (n : Nat)
  | exc (c : Nat)
  | fls (xs : List D)
  deriving Inhabited
inductive OB where
  | lst (xs : List D)
  | dT (kvs : List (List Key × D))
  | dK (kvs : List (Key × D))
  | ins (c : Nat) (fs : List (Str × D))
abbrev Store := List OB
inductive Out where
  | ok (d : D) (S : Store)
  | exc (c : Nat) (S : Store)
  | bad
@[reducible] def Out.bind (o : Out) (k : D → Store → Out) : Out := match o with
  | .ok d S => k d S
  | .exc c S => .exc c S
  | .bad => .bad
inductive OutL where
  | ok (ds : List D) (S : Store)
  | exc (c : Nat) (S : Store)
  | bad
inductive Slot where
  | emp
  | val (d : D)
  | own (ds : List D)
abbrev DEnv := List Slot
abbrev DE := DEnv → Store → Out
abbrev DA := DEnv → Store → OutL
/-- what an exception object of the class at C looks like -/
def ExcO (C a : Addr) : HO := .ext fun h => ∃ o, h.get? a = some o ∧ Zc (.ref C) none o ∧ ∃ vs, o.data = .fields vs
mutual
inductive Rep (K : PySem.W.Frag) (ca : Nat → Addr) (A : List Addr) (F : Hp) : V → D → Prop
  | non : Rep K ca A F .non .non
  | bl (b : Bool) : Rep K ca A F (.bl b) (.bl b)
  | int (i : Int) : Rep K ca A F (.int i) (.int i)
  | str (x : Str) : Rep K ca A F (.str x) (.str x)
  | lst {a : Addr} {xs : List V} {ds : List D} : F a = some (.lst xs) → RepAll K ca A F xs ds → Rep K ca A F (.ref a) (.lst ds)
  | fls {a : Addr} {xs : List V} {ds : List D} : SqL K F a xs → RepAll K ca A F xs ds → Rep K ca A F (.ref a) (.fls ds)
  | tup {a : Addr} {xs : List V} {ds : List D} : SqT K F a xs → RepAll K ca A F xs ds → Rep K ca A F (.ref a) (.tup ds)
  | obj {a : Addr} {n : Nat} : A[n]? = some a → Rep K ca A F (.ref a) (.obj n)
  | exc {a : Addr} {c : Nat} : F a = some (ExcO (ca c) a) → Rep K ca A F (.ref a) (.exc c)
inductive RepAll (K : PySem.W.Frag) (ca : Nat → Addr) (A : List Addr) (F : Hp) : List V → List D → Prop
  | nil : RepAll K ca A F [] []
  | cons {v : V} {vs : List V} {d : D} {ds : List D} : Rep K ca A F v d → RepAll K ca A F vs ds → RepAll K ca A F (v :: vs) (d :: ds)
end
structure G where
  F : Hp
  A : List Addr
  H : Hp
theorem same_t {K : PySem.W.Frag} {H H' : Hp} {a : Addr} {xs : List V} (e : Same H H') (h : SqT K H a xs) : SqT K H' a xs := by
  rcases h with (h | ⟨o, h⟩) | h
  · exact .inl (.inl (e _ _ h))
  · exact .inl (.inr ⟨o, e _ _ h⟩)
  · exact .inr h
section
variable {K : PySem.W.Frag} {ca : Nat → Addr}
mutual
theorem Rep.mono {A A' : List Addr} {F F' : Hp} (hA : ∃ m, A' = A ++ m) (hF : Same F F') : ∀ (d : D) (v : V), Rep K ca A F v d → Rep K ca A' F' v d
  | .non, _, h => by cases h; exact .non
  | .bl b, _, h => by cases h; exact .bl b
  | .int i, _, h => by cases h; exact .int i
  | .str x, _, h => by cases h; exact .str x
  | .lst ds, _, h => by
    cases h with
    | lst hs ha => exact .lst (hF _ _ hs) (RepAll.mono hA hF ds _ ha)
  | .fls ds, _, h => by
    cases h with
    | fls hs ha => exact .fls (hF.seq hs) (RepAll.mono hA hF ds _ ha)
  | .tup ds, _, h => by
    cases h with
    | tup hs ha => exact .tup (same_t hF hs) (RepAll.mono hA hF ds _ ha)
  | .obj n, _, h => by
    cases h with
    | obj e =>
      obtain ⟨m, rfl⟩ := hA
      refine .obj ?_
      rw [List.getElem?_append_left (List.getElem?_eq_some_iff.mp e).1]
      exact e
  | .exc c, _, h => by
    cases h with
    | exc e => exact .exc (hF _ _ e)
theorem RepAll.mono {A A' : List Addr} {F F' : Hp} (hA : ∃ m, A' = A ++ m) (hF : Same F F') : ∀ (ds : List D) (vs : List V), RepAll K ca A F vs ds → RepAll K ca A' F' vs ds
  | [], _, h => by cases h; exact .nil
  | d :: ds, _, h => by
    cases h with
    | cons h1 h2 => exact .cons (Rep.mono hA hF d _ h1) (RepAll.mono hA hF ds _ h2)
end
theorem RepAll.length {A : List Addr} {F : Hp} : ∀ {vs : List V} {ds : List D}, RepAll K ca A F vs ds → vs.length = ds.length
  | _, _, .nil => rfl
  | _, _, .cons _ t => by rw [List.length_cons, List.length_cons, RepAll.length t]
theorem RepAll.get' {A : List Addr} {F : Hp} : ∀ {vs : List V} {ds : List D} {i : Nat} {d : D}, RepAll K ca A F vs ds → ds[i]? = some d → ∃ v, vs[i]? = some v ∧ Rep K ca A F v d
  | _, _, _, _, .nil, e => by simp at e
  | _, _, 0, _, .cons r _, e => by
    simp at e
    subst e
    exact ⟨_, rfl, r⟩
  | _, _, i + 1, v, .cons _ t, e => by
    obtain ⟨d, h1, h2⟩ := RepAll.get' (i := i) (d := v) t (by simpa using e)
    exact ⟨d, by simpa using h1, h2⟩
theorem RepAll.append {A : List Addr} {F : Hp} : ∀ {vs ws : List V} {ds es : List D}, RepAll K ca A F vs ds → RepAll K ca A F ws es → RepAll K ca A F (vs ++ ws) (ds ++ es)
  | _, _, _, _, .nil, s => s
  | _, _, _, _, .cons r t, s => .cons r (RepAll.append t s)
theorem RepAll.take {A : List Addr} {F : Hp} : ∀ {vs : List V} {ds : List D} (n : Nat), RepAll K ca A F vs ds → RepAll K ca A F (vs.take n) (ds.take n)
  | _, _, 0, _ => .nil
  | _, _, _ + 1, .nil => .nil
  | _, _, n + 1, .cons r t => .cons r (RepAll.take n t)
theorem RepAll.drop {A : List Addr} {F : Hp} : ∀ {vs : List V} {ds : List D} (n : Nat), RepAll K ca A F vs ds → RepAll K ca A F (vs.drop n) (ds.drop n)
  | _, _, 0, r => r
  | _, _, _ + 1, .nil => .nil
  | _, _, n + 1, .cons _ t => RepAll.drop n t
theorem RepAll.set {A : List Addr} {F : Hp} {v : V} {d : D} (r : Rep K ca A F v d) : ∀ {vs : List V} {ds : List D} (i : Nat), RepAll K ca A F vs ds → RepAll K ca A F (vs.set i v) (ds.set i d)
  | _, _, _, .nil => .nil
  | _, _, 0, .cons _ t => .cons r t
  | _, _, i + 1, .cons q t => .cons q (RepAll.set r i t)
theorem RepAll.reverse {A : List Addr} {F : Hp} : ∀ {vs : List V} {ds : List D}, RepAll K ca A F vs ds → RepAll K ca A F vs.reverse ds.reverse
  | _, _, .nil => .nil
  | _, _, .cons r t => by
    rw [List.reverse_cons, List.reverse_cons]
    exact RepAll.append (RepAll.reverse t) (.cons r .nil)
theorem RepAll.replicate {A : List Addr} {F : Hp} {v : V} {d : D} (r : Rep K ca A F v d) : ∀ n : Nat, RepAll K ca A F (List.replicate n v) (List.replicate n d)
  | 0 => .nil
  | n + 1 => .cons r (RepAll.replicate r n)
/-- values whose data is all ints (bools, texts) -/
theorem RepAll.ints {A : List Addr} {F : Hp} : ∀ {ns : List Int} {vs : List V}, RepAll K ca A F vs (ns.map D.int) → vs = ns.map V.int
  | [], _, h => by cases h; rfl
  | n :: ns, _, h => by
    cases h with
    | cons h1 h2 =>
      cases h1
      rw [List.map_cons, RepAll.ints h2]
theorem RepAll.ofInts {A : List Addr} {F : Hp} : ∀ (ns : List Int), RepAll K ca A F (ns.map V.int) (ns.map D.int)
  | [] => .nil
  | n :: ns => .cons (.int n) (RepAll.ofInts ns)
theorem RepAll.bls {A : List Addr} {F : Hp} : ∀ {ns : List Bool} {vs : List V}, RepAll K ca A F vs (ns.map D.bl) → vs = ns.map V.bl
  | [], _, h => by cases h; rfl
  | n :: ns, _, h => by
    cases h with
    | cons h1 h2 =>
      cases h1
      rw [List.map_cons, RepAll.bls h2]
theorem RepAll.strs {A : List Addr} {F : Hp} : ∀ {ns : List Str} {vs : List V}, RepAll K ca A F vs (ns.map D.str) → vs = ns.map V.str
  | [], _, h => by cases h; rfl
  | n :: ns, _, h => by
    cases h with
    | cons h1 h2 =>
      cases h1
      rw [List.map_cons, RepAll.strs h2]
end
section
variable (K : PySem.W.Frag) (ca : Nat → Addr)
abbrev RepG (g : G) : V → D → Prop := Rep K ca g.A g.F
def RepO (A : List Addr) (F : Hp) : HO → OB → Prop
  | .lst xs, .lst ds => RepAll K ca A F xs ds
  | .dT kvs, .dT kds => Paired (fun (p : List Key × V) (q : List Key × D) => p.1 = q.1 ∧ Rep K ca A F p.2 q.2) kvs kds
  | .dK kvs, .dK kds => Paired (fun (p : Key × V) (q : Key × D) => p.1 = q.1 ∧ Rep K ca A F p.2 q.2) kvs kds
  | .ins C _ fs, .ins c fds => C = ca c ∧ Paired (fun (p : Str × V) (q : Str × D) => p.1 = q.1 ∧ Rep K ca A F p.2 q.2) fs fds
  | _, _ => False
structure Ok (g : G) (S : Store) : Prop where
  sub : Same g.F g.H
  len : g.A.length = S.length
  nd : g.A.Nodup
  fr : ∀ a ∈ g.A, g.F a = none
  ob : ∀ (n : Nat) (o : OB), S[n]? = some o → ∃ a ho, g.A[n]? = some a ∧ g.H a = some ho ∧ RepO K ca g.A g.F ho o
structure EnvR (g0 g : G) (σ : L2.St) (ρ : DEnv) : Prop where
  len : σ.length = ρ.length
  val : ∀ (i : Nat) (d : D), ρ[i]? = some (.val d) → ∃ v, σ[i]? = some (some v) ∧ RepG K ca g v d
  own : ∀ (i : Nat) (ds : List D), ρ[i]? = some (.own ds) → ∃ p xs, σ[i]? = some (some (.ref p)) ∧ g0.H p = none ∧ g.F p = none ∧ p ∉ g.A ∧ g.H p = some (.lst xs) ∧ RepAll K ca g.A g.F xs ds
  sep : ∀ (i j : Nat) (ds es : List D) (p : Addr), ρ[i]? = some (.own ds) → ρ[j]? = some (.own es) → σ[i]? = some (some (.ref p)) → σ[j]? = some (some (.ref p)) → i = j
end
structure Ext (g g' : G) : Prop where
  F : Same g.F g'.F
  A : ∃ m, g'.A = g.A ++ m ∧ ∀ a ∈ m, g.H a = none
  H : ∀ a o, a ∉ g.A → g.H a = some o → g'.H a = some o
  kp : ∀ a, g.H a ≠ none → g'.H a ≠ none
  nf : ∀ a, g.H a ≠ none → g.F a = none → g'.F a = none
theorem Ext.refl (g : G) : Ext g g := ⟨Same.refl _, ⟨[], by simp, fun _ h => nomatch h⟩, fun _ _ _ h => h, fun _ h => h, fun _ _ h => h⟩
theorem Ext.pre {g g' : G} (e : Ext g g') : ∃ m, g'.A = g.A ++ m := let ⟨m, h, _⟩ := e.A; ⟨m, h⟩
theorem Ext.out {g g' : G} (e : Ext g g') {a : Addr} (h : a ∉ g.A) (q : g.H a ≠ none) : a ∉ g'.A := by
  obtain ⟨m, h1, h2⟩ := e.A
  rw [h1, List.mem_append]
  rintro (z | z)
  · exact h z
  · exact q (h2 a z)
theorem Ext.trans {g g1 g2 : G} (a : Ext g g1) (b : Ext g1 g2) : Ext g g2 where
  F := a.F.trans b.F
  A := by
    obtain ⟨m, h1, h2⟩ := a.A
    obtain ⟨n, k1, k2⟩ := b.A
    refine ⟨m ++ n, by rw [k1, h1, List.append_assoc], fun x hx => ?_⟩
    rcases List.mem_append.mp hx with z | z
    · exact h2 x z
    · cases e : g.H x with
      | none => rfl
      | some o => exact absurd (k2 x z) (a.kp x (by rw [e]; exact fun q => nomatch q))
  H := fun x o h q => b.H x o (a.out h (by rw [q]; exact fun q => nomatch q)) (a.H x o h q)
  kp := fun x h => b.kp x (a.kp x h)
  nf := fun x h q => b.nf x (a.kp x h) (a.nf x h q)
section
variable {K : PySem.W.Frag} {ca : Nat → Addr}
theorem Rep.ext {g g' : G} (e : Ext g g') {v : V} {d : D} (h : RepG K ca g v d) : RepG K ca g' v d := Rep.mono e.pre e.F d v h
theorem RepAll.ext {g g' : G} (e : Ext g g') {vs : List V} {ds : List D} (h : RepAll K ca g.A g.F vs ds) : RepAll K ca g'.A g'.F vs ds := RepAll.mono e.pre e.F ds vs h
theorem some_ne {α : Type} {o : Option α} {x : α} (h : o = some x) : o ≠ none := by rw [h]; exact fun q => nomatch q
theorem EnvR.ext {g0 g g' : G} {σ : L2.St} {ρ : DEnv} (e : Ext g g') (h : EnvR K ca g0 g σ ρ) : EnvR K ca g0 g' σ ρ where
  len := h.len
  val := fun i d q => let ⟨v, a, b⟩ := h.val i d q; ⟨v, a, b.ext e⟩
  own := fun i ds q => by
    obtain ⟨p, xs, a, b, c, d, f, r⟩ := h.own i ds q
    exact ⟨p, xs, a, b, e.nf p (some_ne f) c, e.out d (some_ne f), e.H p _ d f, r.ext e⟩
  sep := h.sep
theorem paired_mono {κ : Type} {A A' : List Addr} {F F' : Hp} (hA : ∃ m, A' = A ++ m) (hF : Same F F') : ∀ {xs : List (κ × V)} {ys : List (κ × D)}, Paired (fun (p : κ × V) (q : κ × D) => p.1 = q.1 ∧ Rep K ca A F p.2 q.2) xs ys → Paired (fun (p : κ × V) (q : κ × D) => p.1 = q.1 ∧ Rep K ca A' F' p.2 q.2) xs ys
  | _, _, .nil => .nil
  | _, _, .cons h t => .cons ⟨h.1, Rep.mono hA hF _ _ h.2⟩ (paired_mono hA hF t)
theorem RepO.mono {A A' : List Addr} {F F' : Hp} (hA : ∃ m, A' = A ++ m) (hF : Same F F') {ho : HO} {o : OB} (h : RepO K ca A F ho o) : RepO K ca A' F' ho o := by
  cases o with
  | lst ds =>
    cases ho with
    | lst xs => exact RepAll.mono hA hF ds xs h
    | _ => exact h.elim
  | dT kds =>
    cases ho with
    | dT kvs => exact paired_mono hA hF h
    | _ => exact h.elim
  | dK kds =>
    cases ho with
    | dK kvs => exact paired_mono hA hF h
    | _ => exact h.elim
  | ins c fds =>
    cases ho with
    | ins C dx fs => exact ⟨h.1, paired_mono hA hF h.2⟩
    | _ => exact h.elim
theorem Ok.there {g : G} {S : Store} (ok : Ok K ca g S) {a : Addr} (h : a ∈ g.A) : g.H a ≠ none := by
  obtain ⟨n, hn⟩ := List.mem_iff_getElem?.mp h
  have hl : n < S.length := by rw [← ok.len]; exact (List.getElem?_eq_some_iff.mp hn).1
  obtain ⟨a', ho, e1, e2, _⟩ := ok.ob n S[n] (by simp [hl])
  rw [hn] at e1
  cases e1
  exact some_ne e2
theorem Ok.ffree {g : G} {S : Store} (ok : Ok K ca g S) {p : Addr} (h : g.H p = none) : g.F p = none := Same.free ok.sub h
theorem same_upd {F : Hp} {p : Addr} {o : HO} (h : F p = none) : Same F (upd F p o) := fun b u e => by
  rw [upd_ne (ne_of_none e h)]
  exact e
/-- a new object that never changes -/
def G.frz (g : G) (p : Addr) (o : HO) : G := ⟨upd g.F p o, g.A, upd g.H p o⟩
/-- a new object that one holds alone -/
def G.put (g : G) (p : Addr) (o : HO) : G := ⟨g.F, g.A, upd g.H p o⟩
/-- a new object of the store -/
def G.reg (g : G) (p : Addr) (o : HO) : G := ⟨g.F, g.A ++ [p], upd g.H p o⟩
theorem ext_frz {g : G} {S : Store} (ok : Ok K ca g S) {p : Addr} {o : HO} (h : g.H p = none) : Ext g (g.frz p o) where
  F := same_upd (ok.ffree h)
  A := ⟨[], by simp [G.frz], fun _ q => nomatch q⟩
  H := fun a u _ e => by
    show upd g.H p o a = some u
    rw [upd_ne (ne_of_none e h)]
    exact e
  kp := fun a e => by
    show upd g.H p o a ≠ none
    unfold upd
    split
    · exact fun q => nomatch q
    · exact e
  nf := fun a e f => by
    show upd g.F p o a = none
    rw [upd_ne (fun q => e (by rw [q]; exact h))]
    exact f
theorem ok_frz {g : G} {S : Store} (ok : Ok K ca g S) {p : Addr} {o : HO} (h : g.H p = none) : Ok K ca (g.frz p o) S where
  sub := fun b u e => by
    have e' : upd g.F p o b = some u := e
    show upd g.H p o b = some u
    by_cases hb : b = p
    · subst hb
      rw [upd_same] at e'
      rw [upd_same]
      exact e'
    · rw [upd_ne hb] at e'
      rw [upd_ne hb]
      exact ok.sub b u e'
  len := ok.len
  nd := ok.nd
  fr := fun a ha => by
    show upd g.F p o a = none
    rw [upd_ne (fun q => ok.there ha (by rw [q]; exact h))]
    exact ok.fr a ha
  ob := fun n o' e => by
    obtain ⟨a, ho, e1, e2, e3⟩ := ok.ob n o' e
    refine ⟨a, ho, e1, ?_, RepO.mono ⟨[], by simp [G.frz]⟩ (same_upd (ok.ffree h)) e3⟩
    show upd g.H p o a = some ho
    rw [upd_ne (ne_of_none e2 h)]
    exact e2
theorem ext_put {g : G} {p : Addr} {o : HO} (h : g.H p = none) : Ext g (g.put p o) where
  F := Same.refl _
  A := ⟨[], by simp [G.put], fun _ q => nomatch q⟩
  H := fun a u _ e => by
    show upd g.H p o a = some u
    rw [upd_ne (ne_of_none e h)]
    exact e
  kp := fun a e => by
    show upd g.H p o a ≠ none
    unfold upd
    split
    · exact fun q => nomatch q
    · exact e
  nf := fun a e f => f
theorem ok_put {g : G} {S : Store} (ok : Ok K ca g S) {p : Addr} {o : HO} (h : g.F p = none) (hA : p ∉ g.A) : Ok K ca (g.put p o) S where
  sub := fun b u e => by
    show upd g.H p o b = some u
    rw [upd_ne (fun q => by rw [q] at e; rw [show g.F p = some u from e] at h; cases h)]
    exact ok.sub b u e
  len := ok.len
  nd := ok.nd
  fr := ok.fr
  ob := fun n o' e => by
    obtain ⟨a, ho, e1, e2, e3⟩ := ok.ob n o' e
    refine ⟨a, ho, e1, ?_, e3⟩
    show upd g.H p o a = some ho
    rw [upd_ne (fun q => hA (by rw [← q]; exact List.mem_iff_getElem?.mpr ⟨n, e1⟩))]
    exact e2
theorem ext_reg {g : G} {S : Store} (ok : Ok K ca g S) {p : Addr} {o : HO} (h : g.H p = none) : Ext g (g.reg p o) where
  F := Same.refl _
  A := ⟨[p], rfl, fun a q => by
    obtain rfl : a = p := by simpa using q
    exact h⟩
  H := fun a u _ e => by
    show upd g.H p o a = some u
    rw [upd_ne (ne_of_none e h)]
    exact e
  kp := fun a e => by
    show upd g.H p o a ≠ none
    unfold upd
    split
    · exact fun q => nomatch q
    · exact e
  nf := fun a e f => f
theorem ok_reg {g : G} {S : Store} (ok : Ok K ca g S) {p : Addr} {o : HO} {ob : OB} (h : g.H p = none) (r : RepO K ca g.A g.F o ob) : Ok K ca (g.reg p o) (S ++ [ob]) where
  sub := fun b u e => by
    show upd g.H p o b = some u
    rw [upd_ne (ne_of_none (ok.sub b u e) h)]
    exact ok.sub b u e
  len := by
    show (g.A ++ [p]).length = _
    rw [List.length_append, List.length_append, ok.len]
    rfl
  nd := by
    show (g.A ++ [p]).Nodup
    rw [List.nodup_append]
    refine ⟨ok.nd, by simp, fun a ha b hb => ?_⟩
    obtain rfl : b = p := by simpa using hb
    rintro rfl
    exact ok.there ha h
  fr := fun a ha => by
    rcases List.mem_append.mp (show a ∈ g.A ++ [p] from ha) with z | z
    · exact ok.fr a z
    · obtain rfl : a = p := by simpa using z
      exact ok.ffree h
  ob := fun n o' e => by
    show ∃ a ho, (g.A ++ [p])[n]? = some a ∧ upd g.H p o a = some ho ∧ RepO K ca (g.A ++ [p]) g.F ho o'
    by_cases hn : n < S.length
    · rw [List.getElem?_append_left hn] at e
      obtain ⟨a, ho, e1, e2, e3⟩ := ok.ob n o' e
      refine ⟨a, ho, ?_, ?_, RepO.mono ⟨[p], rfl⟩ (Same.refl _) e3⟩
      · rw [List.getElem?_append_left (by rw [ok.len]; exact hn)]
        exact e1
      · rw [upd_ne (ne_of_none e2 h)]
        exact e2
    · have hn' : n = S.length := by
        have := (List.getElem?_eq_some_iff.mp e).1
        rw [List.length_append, List.length_singleton] at this
        omega
      subst hn'
      rw [List.getElem?_append_right (Nat.le_refl _)] at e
      simp at e
      subst e
      refine ⟨p, o, ?_, upd_same, RepO.mono ⟨[p], rfl⟩ (Same.refl _) r⟩
      rw [← ok.len, List.getElem?_append_right (Nat.le_refl _)]
      simp
end
end DL
set_option Elab.async false
set_option linter.all false
set_option maxRecDepth 100000
set_option maxHeartbeats 1000000
namespace DL
open PySem PySem.Spec PyProof.Rows L2
inductive OutS where
  | nx (ρ : DEnv) (S : Store)
  | ret (d : D) (S : Store)
  | brk (ρ : DEnv) (S : Store)
  | cnt (ρ : DEnv) (S : Store)
  | exc (c : Nat) (S : Store)
  | bad
abbrev DS := DEnv → Store → OutS
def OutL.bind (o : OutL) (k : List D → Store → Out) : Out := match o with
  | .ok d S => k d S
  | .exc c S => .exc c S
  | .bad => .bad
def Out.bindA (o : Out) (k : D → Store → OutL) : OutL := match o with
  | .ok d S => k d S
  | .exc c S => .exc c S
  | .bad => .bad
def OutL.bindA (o : OutL) (k : List D → Store → OutL) : OutL := match o with
  | .ok d S => k d S
  | .exc c S => .exc c S
  | .bad => .bad
def Out.bindS (o : Out) (k : D → Store → OutS) : OutS := match o with
  | .ok d S => k d S
  | .exc c S => .exc c S
  | .bad => .bad
def Grow (g g' : G) : Prop := Same g.F g'.F ∧ ∃ m, g'.A = g.A ++ m
theorem Grow.refl (g : G) : Grow g g := ⟨Same.refl _, [], by simp⟩
theorem Grow.trans {g g1 g2 : G} (a : Grow g g1) (b : Grow g1 g2) : Grow g g2 := by
  obtain ⟨a1, m, a2⟩ := a
  obtain ⟨b1, n, b2⟩ := b
  exact ⟨a1.trans b1, m ++ n, by rw [b2, a2, List.append_assoc]⟩
theorem Ext.grow {g g' : G} (e : Ext g g') : Grow g g' := ⟨e.F, e.pre⟩
section
variable (K : PySem.W.Frag) (ca : Nat → Addr)
def PostE (E : XK) (g : G) (o : Out) (Q : VK) : Prop := match o with
  | .ok d S => ∀ v g', Ext g g' → Ok K ca g' S → RepG K ca g' v d → Q v g'.H
  | .exc c S => ∀ g', Ext g g' → Ok K ca g' S → E (.ref (ca c)) none g'.H
  | .bad => False
/-- a new list that nobody else holds -/
def PostF (E : XK) (g : G) (o : Out) (Q : VK) : Prop := match o with
  | .ok (.lst ds) S => ∀ p xs g', Ext g g' → Ok K ca g' S → g.H p = none → g'.F p = none → p ∉ g'.A → g'.H p = some (.lst xs) → RepAll K ca g'.A g'.F xs ds → Q (.ref p) g'.H
  | .ok _ _ => False
  | .exc c S => ∀ g', Ext g g' → Ok K ca g' S → E (.ref (ca c)) none g'.H
  | .bad => False
def PostA (n : Nat) (E : XK) (g : G) (o : OutL) (Q : List V → Hp → Prop) : Prop := match o with
  | .ok ds S => ∀ vs g', Ext g g' → Ok K ca g' S → RepAll K ca g'.A g'.F vs ds → vs.length = n → Q vs g'.H
  | .exc c S => ∀ g', Ext g g' → Ok K ca g' S → E (.ref (ca c)) none g'.H
  | .bad => False
def PostS (E : XK) (g0 g : G) (o : OutS) (Dn : Ends) : Prop := match o with
  | .nx ρ S => ∀ σ g', Ext g0 g' → Grow g g' → Ok K ca g' S → EnvR K ca g0 g' σ ρ → Dn.nx σ g'.H
  | .ret d S => ∀ v g', Ext g0 g' → Ok K ca g' S → RepG K ca g' v d → Dn.rt v g'.H
  | .brk ρ S => ∀ σ g', Ext g0 g' → Grow g g' → Ok K ca g' S → EnvR K ca g0 g' σ ρ → Dn.bk σ g'.H
  | .cnt ρ S => ∀ σ g', Ext g0 g' → Grow g g' → Ok K ca g' S → EnvR K ca g0 g' σ ρ → Dn.ct σ g'.H
  | .exc c S => ∀ g', Ext g0 g' → Ok K ca g' S → E (.ref (ca c)) none g'.H
  | .bad => False
def rdE (E : XK) (f : DE) : TE := fun σ H Q => ∃ g0 g ρ S, g.H = H ∧ Ok K ca g S ∧ EnvR K ca g0 g σ ρ ∧ PostE K ca E g (f ρ S) Q
def rdF (E : XK) (f : DE) : TE := fun σ H Q => ∃ g0 g ρ S, g.H = H ∧ Ok K ca g S ∧ EnvR K ca g0 g σ ρ ∧ PostF K ca E g (f ρ S) Q
def rdT (E : XK) (f : DE) : TT := fun σ H Q => ∃ g0 g ρ S, g.H = H ∧ Ok K ca g S ∧ EnvR K ca g0 g σ ρ ∧ PostE K ca E g (f ρ S) fun v H' => ∃ b, v = .bl b ∧ Q b H'
def rdA (n : Nat) (E : XK) (f : DA) : TA := fun σ H Q => ∃ g0 g ρ S, g.H = H ∧ Ok K ca g S ∧ EnvR K ca g0 g σ ρ ∧ PostA K ca n E g (f ρ S) Q
def rdS (E : XK) (f : DS) : TS := fun Dn σ H => ∃ g0 g ρ S, g.H = H ∧ Ext g0 g ∧ Ok K ca g S ∧ EnvR K ca g0 g σ ρ ∧ PostS K ca E g0 g (f ρ S) Dn
end
section
variable {X : Cx}
theorem wkE {e : Expr} {t t' : TE} (h : PE X e t) (k : ∀ σ H Q, t' σ H Q → t σ H Q) : PE X e t' := ⟨fun pins s σ H Q I q => h.run pins s σ H Q I (k σ H Q q)⟩
theorem wkT {e : Expr} {t t' : TT} (h : PT X e t) (k : ∀ σ H Q, t' σ H Q → t σ H Q) : PT X e t' := ⟨fun pins s σ H Q I q => h.run pins s σ H Q I (k σ H Q q)⟩
theorem wkW {e : Expr} {t t' : TT} (h : PW X e t) (k : ∀ σ H Q, t' σ H Q → t σ H Q) : PW X e t' := ⟨fun w pins s σ H Q I q => h.run w pins s σ H Q I (k σ H Q q)⟩
theorem wkA {es : List Expr} {t t' : TA} (h : PA X es t) (k : ∀ σ H Q, t' σ H Q → t σ H Q) : PA X es t' := ⟨fun pos pins s σ H Q I q => h.run pos pins s σ H Q I (k σ H Q q)⟩
theorem wkS {st : Stmt} {t t' : TS} (h : PS X st t) (k : ∀ Dn σ H, t' Dn σ H → t Dn σ H) : PS X st t' := ⟨fun pins s σ H Dn I q => h.run pins s σ H Dn I (k Dn σ H q)⟩
theorem wkSs {st : List Stmt} {t t' : TS} (h : PSs X st t) (k : ∀ Dn σ H, t' Dn σ H → t Dn σ H) : PSs X st t' := ⟨fun pins s σ H Dn I q => h.run pins s σ H Dn I (k Dn σ H q)⟩
end
section
variable {K : PySem.W.Frag} {ca : Nat → Addr} {E : XK} {g g1 : G} {Q R : VK}
theorem PostE.ext {o : Out} (e : Ext g g1) (h : PostE K ca E g o Q) : PostE K ca E g1 o Q := by
  cases o with
  | ok d S => exact fun v g' a b c => h v g' (e.trans a) b c
  | exc c S => exact fun g' a b => h g' (e.trans a) b
  | bad => exact h
theorem PostF.ext {o : Out} (e : Ext g g1) (h : PostF K ca E g o Q) : PostF K ca E g1 o Q := by
  cases o with
  | ok d S =>
    cases d with
    | lst ds => exact fun p xs g' a b c => h p xs g' (e.trans a) b (by
        cases q : g.H p with
        | none => rfl
        | some o => exact absurd c (e.kp p (some_ne q)))
    | _ => exact h
  | exc c S => exact fun g' a b => h g' (e.trans a) b
  | bad => exact h
theorem PostA.ext {n : Nat} {o : OutL} {Q : List V → Hp → Prop} (e : Ext g g1) (h : PostA K ca n E g o Q) : PostA K ca n E g1 o Q := by
  cases o with
  | ok d S => exact fun v g' a b c => h v g' (e.trans a) b c
  | exc c S => exact fun g' a b => h g' (e.trans a) b
  | bad => exact h
theorem PostS.grow {g0 : G} {o : OutS} {Dn : Ends} (e : Grow g g1) (h : PostS K ca E g0 g o Dn) : PostS K ca E g0 g1 o Dn := by
  cases o with
  | nx ρ S => exact fun σ g' a b c d => h σ g' a (e.trans b) c d
  | ret d S => exact h
  | brk ρ S => exact fun σ g' a b c d => h σ g' a (e.trans b) c d
  | cnt ρ S => exact fun σ g' a b c d => h σ g' a (e.trans b) c d
  | exc c S => exact h
  | bad => exact h
/-- THE STEP: from what is wanted behind both to what is wanted behind the first -/
theorem PostE.bind {o : Out} {k : D → Store → Out} (h : PostE K ca E g (o.bind k) Q)
    (hk : ∀ d S v g', Ext g g' → Ok K ca g' S → RepG K ca g' v d → PostE K ca E g' (k d S) Q → R v g'.H) : PostE K ca E g o R := by
  cases o with
  | ok d S => exact fun v g' a b c => hk d S v g' a b c (PostE.ext a h)
  | exc c S => exact h
  | bad => exact h
theorem PostF.of_bind {o : Out} {k : D → Store → Out} (h : PostF K ca E g (o.bind k) Q)
    (hk : ∀ d S v g', Ext g g' → Ok K ca g' S → RepG K ca g' v d → PostF K ca E g' (k d S) Q → R v g'.H) : PostE K ca E g o R := by
  cases o with
  | ok d S => exact fun v g' a b c => hk d S v g' a b c (PostF.ext a h)
  | exc c S => exact h
  | bad => exact h
theorem PostA.of_bindE {n : Nat} {o : Out} {k : D → Store → OutL} {Q : List V → Hp → Prop} (h : PostA K ca n E g (o.bindA k) Q)
    (hk : ∀ d S v g', Ext g g' → Ok K ca g' S → RepG K ca g' v d → PostA K ca n E g' (k d S) Q → R v g'.H) : PostE K ca E g o R := by
  cases o with
  | ok d S => exact fun v g' a b c => hk d S v g' a b c (PostA.ext a h)
  | exc c S => exact h
  | bad => exact h
theorem PostA.of_bindA {n m : Nat} {o : OutL} {k : List D → Store → OutL} {Q R : List V → Hp → Prop} (h : PostA K ca n E g (o.bindA k) Q)
    (hk : ∀ ds S vs g', Ext g g' → Ok K ca g' S → RepAll K ca g'.A g'.F vs ds → vs.length = m → PostA K ca n E g' (k ds S) Q → R vs g'.H) : PostA K ca m E g o R := by
  cases o with
  | ok d S => exact fun v g' a b c l => hk d S v g' a b c l (PostA.ext a h)
  | exc c S => exact h
  | bad => exact h
theorem PostE.bindL {m : Nat} {o : OutL} {k : List D → Store → Out} {R : List V → Hp → Prop} (h : PostE K ca E g (o.bind k) Q)
    (hk : ∀ ds S vs g', Ext g g' → Ok K ca g' S → RepAll K ca g'.A g'.F vs ds → vs.length = m → PostE K ca E g' (k ds S) Q → R vs g'.H) : PostA K ca m E g o R := by
  cases o with
  | ok d S => exact fun v g' a b c l => hk d S v g' a b c l (PostE.ext a h)
  | exc c S => exact h
  | bad => exact h
theorem PostF.bindL {m : Nat} {o : OutL} {k : List D → Store → Out} {R : List V → Hp → Prop} (h : PostF K ca E g (o.bind k) Q)
    (hk : ∀ ds S vs g', Ext g g' → Ok K ca g' S → RepAll K ca g'.A g'.F vs ds → vs.length = m → PostF K ca E g' (k ds S) Q → R vs g'.H) : PostA K ca m E g o R := by
  cases o with
  | ok d S => exact fun v g' a b c l => hk d S v g' a b c l (PostF.ext a h)
  | exc c S => exact h
  | bad => exact h
theorem PostS.bindE {g0 : G} {o : Out} {k : D → Store → OutS} {Dn : Ends} (h0 : Ext g0 g) (h : PostS K ca E g0 g (o.bindS k) Dn)
    (hk : ∀ d S v g', Ext g g' → Ok K ca g' S → RepG K ca g' v d → PostS K ca E g0 g' (k d S) Dn → R v g'.H) : PostE K ca E g o R := by
  cases o with
  | ok d S => exact fun v g' a b c => hk d S v g' a b c (PostS.grow a.grow h)
  | exc c S => exact fun g' a b => h g' (h0.trans a) b
  | bad => exact h
theorem PostE.here {d : D} {S : Store} {v : V} (h : PostE K ca E g (.ok d S) Q) (ok : Ok K ca g S) (r : RepG K ca g v d) : Q v g.H := h v g (Ext.refl g) ok r
/-- what a new list, held by nobody else, is as plain data -/
theorem PostE.fresh {o : Out} (h : PostE K ca E g o Q) (hl : ∀ d S, o = .ok d S → ∃ ds, d = .lst ds) : PostF K ca E g o Q := by
  cases o with
  | ok d S =>
    obtain ⟨ds, rfl⟩ := hl d S rfl
    intro p xs g' e ok np fp pA hp r
    have fs : Same g'.F (upd g'.F p (.lst xs)) := same_upd fp
    have q := h (.ref p) ⟨upd g'.F p (.lst xs), g'.A, g'.H⟩ ?_ ?_ (.lst upd_same (RepAll.mono ⟨[], by simp⟩ fs ds xs r))
    · exact q
    · refine ⟨e.F.trans fs, e.A, e.H, e.kp, fun a ha fa => ?_⟩
      show upd g'.F p (.lst xs) a = none
      rw [upd_ne (fun z => ha (by rw [z]; exact np))]
      exact e.nf a ha fa
    · refine ⟨fun b u q => ?_, ok.len, ok.nd, fun a ha => ?_, fun n o' q => ?_⟩
      · have q' : upd g'.F p (.lst xs) b = some u := q
        by_cases hb : b = p
        · subst hb
          rw [upd_same] at q'
          exact hp.trans q'
        · rw [upd_ne hb] at q'
          exact ok.sub b u q'
      · show upd g'.F p (.lst xs) a = none
        rw [upd_ne (fun z => pA (by rw [← z]; exact ha))]
        exact ok.fr a ha
      · obtain ⟨a, ho, e1, e2, e3⟩ := ok.ob n o' q
        exact ⟨a, ho, e1, e2, RepO.mono ⟨[], by simp⟩ fs e3⟩
  | exc c S => exact h
  | bad => exact h
end
def eVar (i : Nat) : DE := fun ρ S => match ρ[i]? with
  | some (.val d) => .ok d S
  | _ => .bad
def eC (d : D) : DE := fun _ S => .ok d S
section
variable {X : Cx} {ca : Nat → Addr} {E : XK}
theorem ge_tvar (i : Nat) {x : Str} {pos : Pos} (h : PE X (.Name x pos) (tVar i)) : PE X (.Name x pos) (rdE X.K ca E (eVar i)) := wkE h fun σ H Q q => by
  obtain ⟨g0, g, ρ, S, rfl, ok, env, post⟩ := q
  unfold eVar at post
  cases e : ρ[i]? with
  | none => rw [e] at post; exact post.elim
  | some s =>
    cases s with
    | emp => rw [e] at post; exact post.elim
    | own ds => rw [e] at post; exact post.elim
    | val d =>
      rw [e] at post
      obtain ⟨v, h1, h2⟩ := env.val i d e
      exact ⟨v, h1, post.here ok h2⟩
theorem ge_tc {e : Expr} {v : V} {d : D} (h : PE X e (tC v)) (r : ∀ A F, Rep X.K ca A F v d) : PE X e (rdE X.K ca E (eC d)) := wkE h fun σ H Q q => by
  obtain ⟨g0, g, ρ, S, rfl, ok, env, post⟩ := q
  exact PostE.here post ok (r _ _)
theorem ge_int {i j pos} : PE X (.Constant (.int i) j pos) (rdE X.K ca E (eC (.int i))) := ge_tc pe_int fun _ _ => .int i
theorem ge_bl {b j pos} : PE X (.Constant (.bool b) j pos) (rdE X.K ca E (eC (.bl b))) := ge_tc pe_bl fun _ _ => .bl b
theorem ge_non {j pos} : PE X (.Constant .none j pos) (rdE X.K ca E (eC .non)) := ge_tc pe_non fun _ _ => .non
theorem ge_str {x j pos} : PE X (.Constant (.str x) j pos) (rdE X.K ca E (eC (.str x))) := ge_tc pe_str fun _ _ => .str x
end
/-- the name that stands in the i-th slot -/
theorem gv (i : Nat) {X : Cx} {ca : Nat → Addr} {E : XK} {x : Str} {pos : Pos} (hN : X.N[i]? = some x := by rfl) (hv : Vis X.env.scope x := by first | exact Or.inl rfl | exact Or.inr (Or.inl rfl) | exact Or.inr (Or.inr rfl))
    (hd : (x == ("__debug__" : Str)) = false := by decide) (hcd : (x == ("__classdict__" : Str)) = false := by decide) : PE X (.Name x pos) (rdE X.K ca E (eVar i)) := ge_tvar i (pe_var hN hv hd hcd)
abbrev D2 := D → D → Store → Out
abbrev D1 := D → Store → Out
def eBin (op : D2) (a b : DE) : DE := fun ρ S => (a ρ S).bind fun x S1 => (b ρ S1).bind fun y S2 => op x y S2
def eUn (op : D1) (a : DE) : DE := fun ρ S => (a ρ S).bind fun x S1 => op x S1
/-- an operation on values follows one on data -/
def OpS (K : PySem.W.Frag) (ca : Nat → Addr) (E : XK) (r : R2) (op : D2) : Prop :=
  ∀ g S v w d1 d2 Q, Ok K ca g S → RepG K ca g v d1 → RepG K ca g w d2 → PostE K ca E g (op d1 d2 S) Q → r v w g.H Q
def UnS (K : PySem.W.Frag) (ca : Nat → Addr) (E : XK) (r : V → Hp → VK → Prop) (op : D1) : Prop :=
  ∀ g S v d Q, Ok K ca g S → RepG K ca g v d → PostE K ca E g (op d S) Q → r v g.H Q
section
variable {X : Cx} {ca : Nat → Addr} {E : XK} {a b c : Expr} {fa fb fc : DE} {pos : Pos}
theorem rd_bin {r : R2} {op : D2} (hr : OpS X.K ca E r op) (σ : L2.St) (H : Hp) (Q : VK) (q : rdE X.K ca E (eBin op fa fb) σ H Q) : tOp r (rdE X.K ca E fa) (rdE X.K ca E fb) σ H Q := by
  obtain ⟨g0, g, ρ, S, rfl, ok, env, post⟩ := q
  refine ⟨g0, g, ρ, S, rfl, ok, env, PostE.bind post fun d1 S1 v g1 e1 ok1 r1 post1 => ?_⟩
  refine ⟨g0, g1, ρ, S1, rfl, ok1, env.ext e1, PostE.bind post1 fun d2 S2 w g2 e2 ok2 r2 post2 => ?_⟩
  exact hr g2 S2 v w d1 d2 Q ok2 (r1.ext e2) r2 post2
theorem ge_op {op : Operator} {r : R2} {o2 : D2} (ho : OpR X (binaryOp op) r) (hr : OpS X.K ca E r o2) (ha : PE X a (rdE X.K ca E fa)) (hb : PE X b (rdE X.K ca E fb)) : PE X (.BinOp a op b pos) (rdE X.K ca E (eBin o2 fa fb)) := wkE (pe_op ho ha hb) (rd_bin hr)
theorem ge_cmp {op : CmpOp} {r : R2} {o2 : D2} (ho : OpR X (compareOp op) r) (hr : OpS X.K ca E r o2) (ha : PE X a (rdE X.K ca E fa)) (hb : PE X b (rdE X.K ca E fb)) (hm : behindInMarks op b = false) : PE X (.Compare a [op] [b] pos) (rdE X.K ca E (eBin o2 fa fb)) := wkE (pe_cmpR ho ha hb hm) (rd_bin hr)
theorem rd_test {t : DE} (σ : L2.St) (H : Hp) (Q : Bool → Hp → Prop) (q : rdT X.K ca E t σ H Q) : tTest (rdE X.K ca E t) σ H Q := by
  obtain ⟨g0, g, ρ, S, rfl, ok, env, post⟩ := q
  exact ⟨g0, g, ρ, S, rfl, ok, env, post⟩
theorem rd_testB {t : DE} (σ : L2.St) (H : Hp) (Q : Bool → Hp → Prop) (q : rdT X.K ca E t σ H Q) : tB (rdE X.K ca E t) σ H Q := by
  obtain ⟨g0, g, ρ, S, rfl, ok, env, post⟩ := q
  exact ⟨g0, g, ρ, S, rfl, ok, env, post⟩
theorem gt_cmp {op : CmpOp} {r : R2} {o2 : D2} (ho : OpR X (compareOp op) r) (hr : OpS X.K ca E r o2) (ha : PE X a (rdE X.K ca E fa)) (hb : PE X b (rdE X.K ca E fb)) (hm : behindInMarks op b = false) : PT X (.Compare a [op] [b] pos) (rdT X.K ca E (eBin o2 fa fb)) :=
  wkT (pt_cmpR ho ha hb hm) fun σ H Q q => rd_bin hr σ H _ (rd_test σ H Q q)
theorem gt_val {e : Expr} {f : DE} (h : PE X e (rdE X.K ca E f)) (he : ∀ whole, isTrue e X.env whole = (do let v ← whole; standAt e.pos; holding [v] (truthy v)) := by intro _; rfl) : PT X e (rdT X.K ca E f) := wkT (pt_val h he) rd_testB
theorem ge_un {op : UnaryOp} {r : V → Hp → VK → Prop} {o1 : D1} (ho : UnR X (unaryOp op) r) (hr : UnS X.K ca E r o1) (ha : PE X a (rdE X.K ca E fa)) : PE X (.UnaryOp op a pos) (rdE X.K ca E (eUn o1 fa)) := wkE (pe_un ho ha) fun σ H Q q => by
  obtain ⟨g0, g, ρ, S, rfl, ok, env, post⟩ := q
  exact ⟨g0, g, ρ, S, rfl, ok, env, PostE.bind post fun d1 S1 v g1 e1 ok1 r1 post1 => hr g1 S1 v d1 Q ok1 r1 post1⟩
def eChain (o o' : D2) (a b c : DE) : DE := fun ρ S => (a ρ S).bind fun x S1 => (b ρ S1).bind fun y S2 => (o x y S2).bind fun k S3 => match k with
  | .bl true => (c ρ S3).bind fun z S4 => o' y z S4
  | .bl false => .ok (.bl false) S3
  | _ => .bad
end
def eAnd (a b : DE) : DE := fun ρ S => (a ρ S).bind fun x S1 => match x with
  | .bl true => b ρ S1
  | .bl false => .ok (.bl false) S1
  | _ => .bad
def eOr (a b : DE) : DE := fun ρ S => (a ρ S).bind fun x S1 => match x with
  | .bl true => .ok (.bl true) S1
  | .bl false => b ρ S1
  | _ => .bad
def oNot : D1 := fun x S => match x with
  | .bl b => .ok (.bl (!b)) S
  | _ => .bad
def eNot (a : DE) : DE := eUn oNot a
def eIf (c a b : DE) : DE := fun ρ S => (c ρ S).bind fun x S1 => match x with
  | .bl true => a ρ S1
  | .bl false => b ρ S1
  | _ => .bad
section
variable {X : Cx} {ca : Nat → Addr} {E : XK} {a b c : Expr} {fa fb fc : DE} {pos : Pos} {rest : List Expr}
theorem gw_and1 (ha : PT X a (rdT X.K ca E fa)) : PW X (.BoolOp .And [a] pos) (rdT X.K ca E fa) := pw_and1 ha
theorem gw_or1 (ha : PT X a (rdT X.K ca E fa)) : PW X (.BoolOp .Or [a] pos) (rdT X.K ca E fa) := pw_or1 ha
theorem gw_and (ha : PT X a (rdT X.K ca E fa)) (hb : PW X (.BoolOp .And (b :: rest) pos) (rdT X.K ca E fb)) : PW X (.BoolOp .And (a :: b :: rest) pos) (rdT X.K ca E (eAnd fa fb)) := wkW (pw_and ha hb) fun σ H Q q => by
  obtain ⟨g0, g, ρ, S, rfl, ok, env, post⟩ := q
  refine ⟨g0, g, ρ, S, rfl, ok, env, PostE.bind post fun d1 S1 v g1 e1 ok1 r1 post1 => ?_⟩
  cases r1 with
  | bl k =>
    refine ⟨k, rfl, ?_⟩
    cases k with
    | true => exact iteT ⟨g0, g1, ρ, S1, rfl, ok1, env.ext e1, post1⟩
    | false =>
      refine iteF ?_
      obtain ⟨b', e', q'⟩ := PostE.here post1 ok1 (.bl false)
      cases e'
      exact q'
  | _ => exact post1.elim
theorem gw_or (ha : PT X a (rdT X.K ca E fa)) (hb : PW X (.BoolOp .Or (b :: rest) pos) (rdT X.K ca E fb)) : PW X (.BoolOp .Or (a :: b :: rest) pos) (rdT X.K ca E (eOr fa fb)) := wkW (pw_or ha hb) fun σ H Q q => by
  obtain ⟨g0, g, ρ, S, rfl, ok, env, post⟩ := q
  refine ⟨g0, g, ρ, S, rfl, ok, env, PostE.bind post fun d1 S1 v g1 e1 ok1 r1 post1 => ?_⟩
  cases r1 with
  | bl k =>
    refine ⟨k, rfl, ?_⟩
    cases k with
    | false => exact iteF ⟨g0, g1, ρ, S1, rfl, ok1, env.ext e1, post1⟩
    | true =>
      refine iteT ?_
      obtain ⟨b', e', q'⟩ := PostE.here post1 ok1 (.bl true)
      cases e'
      exact q'
  | _ => exact post1.elim
theorem gt_not (ha : PT X a (rdT X.K ca E fa)) : PT X (.UnaryOp .Not a pos) (rdT X.K ca E (eNot fa)) := wkT (pt_not ha) fun σ H Q q => by
  obtain ⟨g0, g, ρ, S, rfl, ok, env, post⟩ := q
  refine ⟨g0, g, ρ, S, rfl, ok, env, PostE.bind post fun d1 S1 v g1 e1 ok1 r1 post1 => ?_⟩
  cases r1 with
  | bl k =>
    refine ⟨k, rfl, ?_⟩
    obtain ⟨b', e', q'⟩ := PostE.here post1 ok1 (.bl (!k))
    cases e'
    exact q'
  | _ => exact post1.elim
theorem ge_and (ha : PE X a (rdE X.K ca E fa)) (hb : PE X (.BoolOp .And (b :: rest) pos) (rdE X.K ca E fb)) : PE X (.BoolOp .And (a :: b :: rest) pos) (rdE X.K ca E (eAnd fa fb)) := wkE (pe_and ha hb) fun σ H Q q => by
  obtain ⟨g0, g, ρ, S, rfl, ok, env, post⟩ := q
  refine ⟨g0, g, ρ, S, rfl, ok, env, PostE.bind post fun d1 S1 v g1 e1 ok1 r1 post1 => ?_⟩
  cases r1 with
  | bl k =>
    refine ⟨k, rfl, ?_⟩
    cases k with
    | true => exact iteT ⟨g0, g1, ρ, S1, rfl, ok1, env.ext e1, post1⟩
    | false => exact iteF (PostE.here post1 ok1 (.bl false))
  | _ => exact post1.elim
theorem ge_one {op} (ha : PE X a (rdE X.K ca E fa)) : PE X (.BoolOp op [a] pos) (rdE X.K ca E fa) := pe_one ha
theorem ge_not (ha : PE X a (rdE X.K ca E fa)) : PE X (.UnaryOp .Not a pos) (rdE X.K ca E (eNot fa)) := wkE (pe_not ha) fun σ H Q q => by
  obtain ⟨g0, g, ρ, S, rfl, ok, env, post⟩ := q
  refine ⟨g0, g, ρ, S, rfl, ok, env, PostE.bind post fun d1 S1 v g1 e1 ok1 r1 post1 => ?_⟩
  cases r1 with
  | bl k => exact ⟨k, rfl, PostE.here post1 ok1 (.bl (!k))⟩
  | _ => exact post1.elim
theorem ge_if (hc : PT X c (rdT X.K ca E fc)) (ha : PE X a (rdE X.K ca E fa)) (hb : PE X b (rdE X.K ca E fb)) : PE X (.IfExp c a b pos) (rdE X.K ca E (eIf fc fa fb)) := wkE (pe_ifExp hc ha hb) fun σ H Q q => by
  obtain ⟨g0, g, ρ, S, rfl, ok, env, post⟩ := q
  refine ⟨g0, g, ρ, S, rfl, ok, env, PostE.bind post fun d1 S1 v g1 e1 ok1 r1 post1 => ?_⟩
  cases r1 with
  | bl k =>
    refine ⟨k, rfl, ?_⟩
    cases k with
    | true => exact iteT ⟨g0, g1, ρ, S1, rfl, ok1, env.ext e1, post1⟩
    | false => exact iteF ⟨g0, g1, ρ, S1, rfl, ok1, env.ext e1, post1⟩
  | _ => exact post1.elim
end
def aNil : DA := fun _ S => .ok [] S
def aCons (a : DE) (r : DA) : DA := fun ρ S => (a ρ S).bindA fun x S1 => (r ρ S1).bindA fun xs S2 => .ok (x :: xs) S2
def eTup (a : DA) : DE := fun ρ S => (a ρ S).bind fun ds S1 => .ok (.tup ds) S1
def eLst (a : DA) : DE := fun ρ S => (a ρ S).bind fun ds S1 => .ok (.lst ds) S1
section
variable {X : Cx} {ca : Nat → Addr} {E : XK} {a : Expr} {es : List Expr} {fa : DE} {fr : DA} {pos : Pos} {n : Nat}
theorem ga_nil : PA X [] (rdA X.K ca 0 E aNil) := wkA pa_nil fun σ H Q q => by
  obtain ⟨g0, g, ρ, S, rfl, ok, env, post⟩ := q
  exact post [] g (Ext.refl g) ok .nil rfl
theorem ga_cons (ha : PE X a (rdE X.K ca E fa)) (hr : PA X es (rdA X.K ca n E fr)) (hs : starEach (a :: es) X.env = (false, eval a X.env) :: starEach es X.env := by rfl) : PA X (a :: es) (rdA X.K ca (n + 1) E (aCons fa fr)) := wkA (pa_cons ha hr hs) fun σ H Q q => by
  obtain ⟨g0, g, ρ, S, rfl, ok, env, post⟩ := q
  refine ⟨g0, g, ρ, S, rfl, ok, env, PostA.of_bindE post fun d1 S1 v g1 e1 ok1 r1 post1 => ?_⟩
  refine ⟨g0, g1, ρ, S1, rfl, ok1, env.ext e1, PostA.of_bindA post1 fun ds S2 vs g2 e2 ok2 r2 hl post2 => ?_⟩
  exact post2 (v :: vs) g2 (Ext.refl _) ok2 (.cons (r1.ext e2) r2) (by rw [List.length_cons, hl])
theorem ge_tup {x1} (h : PA X es (rdA X.K ca n E fr)) (hn : n ≤ 100000 := by decide) : PE X (.Tuple es x1 pos) (rdE X.K ca E (eTup fr)) := wkE (pe_tup h) fun σ H Q q => by
  obtain ⟨g0, g, ρ, S, rfl, ok, env, post⟩ := q
  refine ⟨g0, g, ρ, S, rfl, ok, env, PostE.bindL post fun ds S1 vs g1 e1 ok1 r1 hl post1 => ?_⟩
  refine ⟨by rw [hl]; exact Nat.le_trans hn (by decide), fun p hp => ?_⟩
  exact post1 (.ref p) (g1.frz p (.tup vs)) (ext_frz ok1 hp) (ok_frz ok1 hp) (.tup (SqT.of upd_same) (RepAll.ext (ext_frz ok1 hp) r1))
theorem gf_lst (h : PA X es (rdA X.K ca n E fr)) (hn : n ≤ 100000 := by decide) : PE X (.List es pos) (rdF X.K ca E (eLst fr)) := wkE (pe_lst h) fun σ H Q q => by
  obtain ⟨g0, g, ρ, S, rfl, ok, env, post⟩ := q
  refine ⟨g0, g, ρ, S, rfl, ok, env, PostF.bindL post fun ds S1 vs g1 e1 ok1 r1 hl post1 => ?_⟩
  refine ⟨by rw [hl]; exact Nat.le_trans hn (by decide), fun p hp => ?_⟩
  exact post1 p vs (g1.put p (.lst vs)) (ext_put hp) (ok_put ok1 (ok1.ffree hp) fun z => ok1.there z hp) hp (ok1.ffree hp) (fun z => ok1.there z hp) upd_same r1
/-- a new list as plain data -/
theorem gf_ge {e : Expr} {f : DE} (h : PE X e (rdF X.K ca E f)) (hl : ∀ ρ S d S', f ρ S = .ok d S' → ∃ ds, d = .lst ds) : PE X e (rdE X.K ca E f) := wkE h fun σ H Q q => by
  obtain ⟨g0, g, ρ, S, rfl, ok, env, post⟩ := q
  exact ⟨g0, g, ρ, S, rfl, ok, env, PostE.fresh post (hl ρ S)⟩
theorem eLst_is {fr : DA} : ∀ ρ S d S', eLst fr ρ S = .ok d S' → ∃ ds, d = .lst ds := fun ρ S d S' h => by
  unfold eLst OutL.bind at h
  cases q : fr ρ S with
  | ok ds S1 =>
    rw [q] at h
    injection h with h1 h2
    exact ⟨ds, h1.symm⟩
  | exc c S1 => rw [q] at h; cases h
  | bad => rw [q] at h; cases h
theorem ge_lst (h : PA X es (rdA X.K ca n E fr)) (hn : n ≤ 100000 := by decide) : PE X (.List es pos) (rdE X.K ca E (eLst fr)) := gf_ge (gf_lst h hn) eLst_is
end
def runD (N n : Nat) (fb : DS) (ds : List D) (S : Store) : Out :=
  if ds.length = n then
    match fb (ds.map Slot.val ++ List.replicate (N - n) Slot.emp) S with
    | .nx _ S' => .ok .non S'
    | .ret d S' => .ok d S'
    | .exc c S' => .exc c S'
    | _ => .bad
  else .bad
/-- the promise of a def whose meaning is sem -/
def spD (K : PySem.W.Frag) (ca : Nat → Addr) (n : Nat) (sem : List D → Store → Out) : Sp := fun vs H Q E =>
  ∃ g S ds, g.H = H ∧ Ok K ca g S ∧ RepAll K ca g.A g.F vs ds ∧ vs.length = n ∧ PostE K ca E g (sem ds S) Q
def eCall (sem : List D → Store → Out) (a : DA) : DE := fun ρ S => (a ρ S).bind sem
section
variable {X : Cx} {ca : Nat → Addr} {E : XK} {a : Expr} {es : List Expr} {fr : DA} {CX : CXT} {k n : Nat} {f : Addr} {fd : FuncData} {ps : List Str} {x : Str} {p pos : Pos} {sem : List D → Store → Out}
theorem ge_call (F : FnOk X.prog X.w X.K X.mg X.base CX k f fd ps (spD X.K ca n sem)) (hr : Room k X.A) (hg : Gl X x) (hm : X.mg x = some (.ref f)) (hk : PySem.W.keepIn X.K (.ref f) = true) (hb : Binds X.K fd ps []) (hx : Passes CX X E)
    (ha : PA X (a :: es) (rdA X.K ca n E fr)) (hdb : (x == ("__debug__" : Str)) = false := by decide) (he : starEach (a :: es) X.env = (false, eval a X.env) :: starEach es X.env := by rfl) (hpl : (backTo pos (starEach es X.env)).any (·.1) = false := by rfl) :
    PE X (.Call (.Name x p) (a :: es) [] pos) (rdE X.K ca E (eCall sem fr)) := wkE (pe_call F hr hg hm hk hb .nil hx ha hdb he hpl) fun σ H Q q => by
  obtain ⟨g0, g, ρ, S, rfl, ok, env, post⟩ := q
  refine ⟨g0, g, ρ, S, rfl, ok, env, PostE.bindL post fun ds S1 vs g1 e1 ok1 r1 hl post1 => ?_⟩
  rw [List.append_nil]
  exact ⟨g1, S1, ds, rfl, ok1, r1, hl, post1⟩
end
theorem get_map_val {ds : List D} {m i : Nat} {s : Slot} (h : (ds.map Slot.val ++ List.replicate m Slot.emp)[i]? = some s) : (∃ d, ds[i]? = some d ∧ s = .val d) ∨ s = .emp := by
  by_cases hi : i < ds.length
  · rw [List.getElem?_append_left (by simpa using hi), List.getElem?_map] at h
    cases q : ds[i]? with
    | none =>
      rw [q] at h
      cases h
    | some d =>
      rw [q] at h
      cases h
      exact .inl ⟨d, rfl, rfl⟩
  · rw [List.getElem?_append_right (by simpa using Nat.le_of_not_lt hi), List.getElem?_replicate] at h
    split at h
    · cases h
      exact .inr rfl
    · cases h
/-- the slots at a call -/
theorem env_start {K : PySem.W.Frag} {ca : Nat → Addr} {g : G} {N : List Str} {vs : List V} {ds : List D} {n : Nat} (r : RepAll K ca g.A g.F vs ds) (hn : vs.length = n) :
    EnvR K ca g g (L2.start N vs) (ds.map Slot.val ++ List.replicate (N.length - n) Slot.emp) where
  len := by
    unfold L2.start
    rw [List.length_append, List.length_append, List.length_map, List.length_map, List.length_replicate, List.length_replicate, hn, ← r.length, hn]
  val := fun i d h => by
    rcases get_map_val h with ⟨d', e1, e2⟩ | e
    · cases e2
      obtain ⟨v, e3, e4⟩ := r.get' e1
      refine ⟨v, ?_, e4⟩
      unfold L2.start
      rw [List.getElem?_append_left (by rw [List.length_map]; exact (List.getElem?_eq_some_iff.mp e3).1), List.getElem?_map, e3]
      rfl
    · cases e
  own := fun i d h => by
    rcases get_map_val h with ⟨d', e1, e2⟩ | e
    · cases e2
    · cases e
  sep := fun i j d e p h => by
    rcases get_map_val h with ⟨d', e1, e2⟩ | e
    · cases e2
    · cases e
section
variable {P : Program} {w : World} {K : PySem.W.Frag} {mg : Str → Option Value} {base : Heap} {ca : Nat → Addr}
/-- THE RULE for a def: its body by data -/
theorem fnD {x qual : Str} {st : Stmt} {f : Addr} {fd : FuncData} {N ps : List Str} {k : Nat} {fb : DS} (F : Fun K x qual st f fd) (Sc : FnScope N ps (defScope st))
    (hbody : ∀ (cdv : Value) (A : Around) (outer : List Env) (s : Shared) (H : Hp) (E : XK), Room k (A.deeper (envOfC qual (defScope st) s.heap.objs.size f cdv)) →
      PSs (cxOf (L2.CX P w) P w K mg base N qual (defScope st) f cdv A outer s H E) (defBody st) (rdS K ca E fb)) : FnOk P w K mg base (L2.CX P w) (k + 1) f fd ps (spD K ca ps.length (runD N.length ps.length fb)) := by
  refine F.okX Sc (fun vs H Q E h => ?_) (fun cdv A outer s H vs Q E hr h => ⟨_, hbody cdv A outer s H E hr, ?_⟩)
  · obtain ⟨g, S, ds, _, _, _, hl, _⟩ := h
    exact hl
  · obtain ⟨g, S, ds, rfl, ok, r, hl, post⟩ := h
    refine ⟨g, g, _, S, rfl, Ext.refl g, ok, env_start (N := N) (n := ps.length) r hl, ?_⟩
    have hds : ds.length = ps.length := by rw [← r.length, hl]
    unfold runD at post
    rw [if_pos hds] at post
    cases q : fb (ds.map Slot.val ++ List.replicate (N.length - ps.length) Slot.emp) S with
    | nx ρ S' =>
      rw [q] at post
      exact fun σ g' e _ ok' _ => post .non g' e ok' .non
    | ret d S' =>
      rw [q] at post
      exact fun v g' e ok' r' => post v g' e ok' r'
    | brk ρ S' => rw [q] at post; exact post.elim
    | cnt ρ S' => rw [q] at post; exact post.elim
    | exc c S' =>
      rw [q] at post
      exact fun g' e ok' => post g' e ok'
    | bad => rw [q] at post; exact post.elim
end
end DL
set_option Elab.async false
set_option linter.all false
set_option maxRecDepth 100000
set_option maxHeartbeats 1000000
namespace DL
open PySem PySem.Spec PyProof.Rows L2
section
variable {K : PySem.W.Frag} {ca : Nat → Addr} {g0 g : G} {σ : L2.St} {ρ : DEnv}
theorem set_some {α : Type} {l : List α} {i j : Nat} {x y : α} (h : (l.set i x)[j]? = some y) : (j = i ∧ y = x ∧ i < l.length) ∨ (j ≠ i ∧ l[j]? = some y) := by
  by_cases hj : j = i
  · subst hj
    by_cases hl : j < l.length
    · rw [List.getElem?_set_self hl] at h
      cases h
      exact .inl ⟨rfl, rfl, hl⟩
    · rw [List.getElem?_eq_none (by simpa using hl)] at h
      cases h
  · rw [List.getElem?_set_ne (Ne.symm hj)] at h
    exact .inr ⟨hj, h⟩
theorem EnvR.set (h : EnvR K ca g0 g σ ρ) {v : V} {d : D} (r : RepG K ca g v d) (i : Nat) : EnvR K ca g0 g (σ.set i (some v)) (ρ.set i (.val d)) where
  len := by rw [List.length_set, List.length_set, h.len]
  val := fun j d' e => by
    rcases set_some e with ⟨rfl, q, hl⟩ | ⟨hj, q⟩
    · cases q
      exact ⟨v, by rw [List.getElem?_set_self (by rw [h.len]; exact hl)], r⟩
    · rw [List.getElem?_set_ne (Ne.symm hj)]
      exact h.val j d' q
  own := fun j ds e => by
    rcases set_some e with ⟨rfl, q, hl⟩ | ⟨hj, q⟩
    · cases q
    · rw [List.getElem?_set_ne (Ne.symm hj)]
      exact h.own j ds q
  sep := fun j k ds es p e1 e2 e3 e4 => by
    rcases set_some e1 with ⟨_, q, _⟩ | ⟨hj, q1⟩
    · cases q
    rcases set_some e2 with ⟨_, q, _⟩ | ⟨hk, q2⟩
    · cases q
    rw [List.getElem?_set_ne (Ne.symm hj)] at e3
    rw [List.getElem?_set_ne (Ne.symm hk)] at e4
    exact h.sep j k ds es p q1 q2 e3 e4
theorem EnvR.ownNe (h : EnvR K ca g0 g σ ρ) {p : Addr} (hp : ∀ (j : Nat) (ds : List D), ρ[j]? = some (Slot.own ds) → σ[j]? ≠ some (some (V.ref p))) {xs : List V} {ds : List D} (q0 : g0.H p = none) (q1 : g.F p = none) (q2 : p ∉ g.A) (q3 : g.H p = some (.lst xs)) (q4 : RepAll K ca g.A g.F xs ds) (i : Nat) :
    EnvR K ca g0 g (σ.set i (some (.ref p))) (ρ.set i (.own ds)) where
  len := by rw [List.length_set, List.length_set, h.len]
  val := fun j d' e => by
    rcases set_some e with ⟨rfl, q, hl⟩ | ⟨hj, q⟩
    · cases q
    · rw [List.getElem?_set_ne (Ne.symm hj)]
      exact h.val j d' q
  own := fun j es e => by
    rcases set_some e with ⟨rfl, q, hl⟩ | ⟨hj, q⟩
    · cases q
      exact ⟨p, xs, by rw [List.getElem?_set_self (by rw [h.len]; exact hl)], q0, q1, q2, q3, q4⟩
    · rw [List.getElem?_set_ne (Ne.symm hj)]
      exact h.own j es q
  sep := fun j k es fs p' e1 e2 e3 e4 => by
    rcases set_some e1 with ⟨rfl, z1, hl⟩ | ⟨hj, z1⟩
    · rcases set_some e2 with ⟨rfl, z2, _⟩ | ⟨hk, z2⟩
      · rfl
      · rw [List.getElem?_set_self (by rw [h.len]; exact hl)] at e3
        rw [List.getElem?_set_ne (Ne.symm hk)] at e4
        cases e3
        exact absurd e4 (hp k fs z2)
    · rw [List.getElem?_set_ne (Ne.symm hj)] at e3
      rcases set_some e2 with ⟨rfl, z2, hl⟩ | ⟨hk, z2⟩
      · rw [List.getElem?_set_self (by rw [h.len]; exact hl)] at e4
        cases e4
        exact absurd e3 (hp j es z1)
      · rw [List.getElem?_set_ne (Ne.symm hk)] at e4
        exact h.sep j k es fs p' z1 z2 e3 e4
/-- a new list put into a slot -/
theorem EnvR.setOwn {g' : G} (h : EnvR K ca g0 g σ ρ) (e : Ext g g') (e0 : Ext g0 g) {p : Addr} {xs : List V} {ds : List D} (np : g.H p = none) (q1 : g'.F p = none) (q2 : p ∉ g'.A) (q3 : g'.H p = some (.lst xs)) (q4 : RepAll K ca g'.A g'.F xs ds) (i : Nat) :
    EnvR K ca g0 g' (σ.set i (some (.ref p))) (ρ.set i (.own ds)) := by
  refine (h.ext e).ownNe (fun j es z q => ?_) ?_ q1 q2 q3 q4 i
  · obtain ⟨p', xs', z1, _, _, _, z2, _⟩ := h.own j es z
    rw [z1] at q
    cases q
    rw [np] at z2
    cases z2
  · cases q : g0.H p with
    | none => rfl
    | some o => exact absurd np (e0.kp p (some_ne q))
theorem ext_put0 {p : Addr} {o : HO} (e : Ext g0 g) (h0 : g0.H p = none) : Ext g0 (g.put p o) where
  F := e.F
  A := e.A
  H := fun a u ha q => by
    show upd g.H p o a = some u
    rw [upd_ne (ne_of_none q h0)]
    exact e.H a u ha q
  kp := fun a q => by
    show upd g.H p o a ≠ none
    unfold upd
    split
    · exact fun z => nomatch z
    · exact e.kp a q
  nf := e.nf
theorem grow_put {p : Addr} {o : HO} : Grow g (g.put p o) := ⟨Same.refl _, [], by simp [G.put]⟩
/-- the list of a slot changes -/
theorem EnvR.mut (h : EnvR K ca g0 g σ ρ) {i : Nat} {ds es : List D} {p : Addr} {ys : List V} (hi : ρ[i]? = some (.own ds)) (hp : σ[i]? = some (some (.ref p))) (q0 : g0.H p = none) (q1 : g.F p = none) (q2 : p ∉ g.A) (r : RepAll K ca g.A g.F ys es) :
    EnvR K ca g0 (g.put p (.lst ys)) σ (ρ.set i (.own es)) where
  len := by rw [List.length_set, h.len]
  val := fun j d' e => by
    rcases set_some e with ⟨rfl, q, hl⟩ | ⟨hj, q⟩
    · cases q
    · exact h.val j d' q
  own := fun j fs e => by
    rcases set_some e with ⟨rfl, q, hl⟩ | ⟨hj, q⟩
    · cases q
      exact ⟨p, ys, hp, q0, q1, q2, upd_same, r⟩
    · obtain ⟨p', xs', z1, z2, z3, z4, z5, z6⟩ := h.own j fs q
      refine ⟨p', xs', z1, z2, z3, z4, ?_, z6⟩
      show upd g.H p (.lst ys) p' = some (.lst xs')
      rw [upd_ne (fun z => hj (h.sep j i fs ds p q hi (by rw [z1, z]) hp))]
      exact z5
  sep := fun j k as bs p' e1 e2 e3 e4 => by
    have f1 : ∃ as', ρ[j]? = some (.own as') := by
      rcases set_some e1 with ⟨rfl, _, _⟩ | ⟨_, q⟩
      · exact ⟨ds, hi⟩
      · exact ⟨as, q⟩
    have f2 : ∃ bs', ρ[k]? = some (.own bs') := by
      rcases set_some e2 with ⟨rfl, _, _⟩ | ⟨_, q⟩
      · exact ⟨ds, hi⟩
      · exact ⟨bs, q⟩
    obtain ⟨as', f1⟩ := f1
    obtain ⟨bs', f2⟩ := f2
    exact h.sep j k as' bs' p' f1 f2 e3 e4
/-- the list of a slot becomes plain data -/
theorem EnvR.frz (h : EnvR K ca g0 g σ ρ) {i : Nat} {ds : List D} {p : Addr} {xs : List V} (hi : ρ[i]? = some (.own ds)) (hp : σ[i]? = some (some (.ref p))) (q1 : g.F p = none) (r : RepAll K ca g.A g.F xs ds) :
    EnvR K ca g0 ⟨upd g.F p (.lst xs), g.A, g.H⟩ σ (ρ.set i (.val (.lst ds))) where
  len := by rw [List.length_set, h.len]
  val := fun j d' e => by
    rcases set_some e with ⟨rfl, q, hl⟩ | ⟨hj, q⟩
    · cases q
      exact ⟨_, hp, .lst upd_same (RepAll.mono ⟨[], by simp⟩ (same_upd q1) _ _ r)⟩
    · obtain ⟨v, z1, z2⟩ := h.val j d' q
      exact ⟨v, z1, Rep.mono ⟨[], by simp⟩ (same_upd q1) _ _ z2⟩
  own := fun j fs e => by
    rcases set_some e with ⟨rfl, q, hl⟩ | ⟨hj, q⟩
    · cases q
    · obtain ⟨p', xs', z1, z2, z3, z4, z5, z6⟩ := h.own j fs q
      refine ⟨p', xs', z1, z2, ?_, z4, z5, RepAll.mono ⟨[], by simp⟩ (same_upd q1) _ _ z6⟩
      show upd g.F p (.lst xs) p' = none
      rw [upd_ne (fun z => hj (h.sep j i fs ds p q hi (by rw [z1, z]) hp))]
      exact z3
  sep := fun j k as bs p' e1 e2 e3 e4 => by
    rcases set_some e1 with ⟨_, q, _⟩ | ⟨hj, z1⟩
    · cases q
    rcases set_some e2 with ⟨_, q, _⟩ | ⟨hk, z2⟩
    · cases q
    exact h.sep j k as bs p' z1 z2 e3 e4
theorem ext_frz0 {p : Addr} {xs : List V} (e : Ext g0 g) (h0 : g0.H p = none) (q1 : g.F p = none) : Ext g0 ⟨upd g.F p (.lst xs), g.A, g.H⟩ where
  F := e.F.trans (same_upd q1)
  A := e.A
  H := e.H
  kp := e.kp
  nf := fun a ha fa => by
    show upd g.F p (.lst xs) a = none
    rw [upd_ne (fun z => ha (by rw [z]; exact h0))]
    exact e.nf a ha fa
theorem ok_frz0 {S : Store} (ok : Ok K ca g S) {p : Addr} {xs : List V} (q1 : g.F p = none) (q2 : p ∉ g.A) (q3 : g.H p = some (.lst xs)) : Ok K ca ⟨upd g.F p (.lst xs), g.A, g.H⟩ S where
  sub := fun b u q => by
    have q' : upd g.F p (.lst xs) b = some u := q
    by_cases hb : b = p
    · subst hb
      rw [upd_same] at q'
      exact q3.trans q'
    · rw [upd_ne hb] at q'
      exact ok.sub b u q'
  len := ok.len
  nd := ok.nd
  fr := fun a ha => by
    show upd g.F p (.lst xs) a = none
    rw [upd_ne (fun z => q2 (by rw [← z]; exact ha))]
    exact ok.fr a ha
  ob := fun n o' q => by
    obtain ⟨a, ho, e1, e2, e3⟩ := ok.ob n o' q
    exact ⟨a, ho, e1, e2, RepO.mono ⟨[], by simp⟩ (same_upd q1) e3⟩
end
abbrev DG := D → DEnv → Option DEnv
abbrev DGs := List D → DEnv → Option DEnv
def tgName (i : Nat) : DG := fun d ρ => some (ρ.set i (.val d))
def tgNil : DGs := fun ds ρ => match ds with
  | [] => some ρ
  | _ => none
def tgCons (t : DG) (u : DGs) : DGs := fun ds ρ => match ds with
  | d :: r => match t d ρ with
    | some ρ1 => u r ρ1
    | none => none
  | [] => none
def tgTup (u : DGs) : DG := fun d ρ => match d with
  | .tup ds => u ds ρ
  | _ => none
section
variable (K : PySem.W.Frag) (ca : Nat → Addr)
def rdG (t : DG) : TG := fun v σ H Q => ∃ g0 g ρ d, g.H = H ∧ Same g.F g.H ∧ EnvR K ca g0 g σ ρ ∧ RepG K ca g v d ∧ ∃ ρ', t d ρ = some ρ' ∧ ∀ σ', EnvR K ca g0 g σ' ρ' → Q σ' H
def rdGs (t : DGs) : TGs := fun vs σ H Q => ∃ g0 g ρ ds, g.H = H ∧ Same g.F g.H ∧ EnvR K ca g0 g σ ρ ∧ RepAll K ca g.A g.F vs ds ∧ ∃ ρ', t ds ρ = some ρ' ∧ ∀ σ', EnvR K ca g0 g σ' ρ' → Q σ' H
end
section
variable {X : Cx} {ca : Nat → Addr} {pos : Pos}
theorem wkG {tg : Expr} {t t' : TG} (h : PG X tg t) (k : ∀ v σ H Q, t' v σ H Q → t v σ H Q) : PG X tg t' := ⟨fun pins s σ H v u Q I r q => h.run pins s σ H v u Q I r (k v σ H Q q)⟩
theorem wkGs {tg : List Expr} {t t' : TGs} (h : PGs X tg t) (k : ∀ v σ H Q, t' v σ H Q → t v σ H Q) : PGs X tg t' := ⟨fun pins s σ H v u Q I r q => h.run pins s σ H v u Q I r (k v σ H Q q)⟩
theorem gg_name {i : Nat} {x : Str} (hN : X.N.Nodup) (hi : X.N[i]? = some x) (hx : Loc X.env.scope x) (hf : X.fn x = true ∨ X.env.scope.names.lookup x = some .local := by first | exact .inl rfl | exact .inr rfl | assumption) : PG X (.Name x pos) (rdG X.K ca (tgName i)) :=
  wkG (pg_name hN hi hx hf) fun v σ H Q q => by
    obtain ⟨g0, g, ρ, d, rfl, sm, env, r, ρ', e, k⟩ := q
    cases e
    exact k _ (env.set r i)
theorem ggs_nil : PGs X [] (rdGs X.K ca tgNil) := wkGs pgs_nil fun v σ H Q q => by
  obtain ⟨g0, g, ρ, ds, rfl, sm, env, r, ρ', e, k⟩ := q
  cases r with
  | nil =>
    cases e
    exact ⟨rfl, k _ env⟩
  | cons r1 r2 => cases e
theorem ggs_cons {e : Expr} {es : List Expr} {t : DG} {u : DGs} (h1 : PG X e (rdG X.K ca t)) (h2 : PGs X es (rdGs X.K ca u))
    (hs : (assignEach (e :: es) X.env).map (·.2) = assign e X.env :: (assignEach es X.env).map (·.2) := by rfl) : PGs X (e :: es) (rdGs X.K ca (tgCons t u)) := wkGs (pgs_cons h1 h2 hs) fun v σ H Q q => by
  obtain ⟨g0, g, ρ, ds, rfl, sm, env, r, ρ', e, k⟩ := q
  cases r with
  | nil => cases e
  | cons r1 r2 =>
    rename_i v vs d ds
    unfold tgCons at e
    dsimp only at e
    cases q : t d ρ with
    | none => rw [q] at e; cases e
    | some ρ1 =>
      rw [q] at e
      exact ⟨v, vs, rfl, g0, g, ρ, d, rfl, sm, env, r1, ρ1, q, fun σ1 env1 => ⟨g0, g, ρ1, ds, rfl, sm, env1, r2, ρ', e, k⟩⟩
theorem tgTup_len {u : DGs} {n : Nat} : (∀ ds ρ ρ', u ds ρ = some ρ' → ds.length = n) → ∀ d ρ ρ', tgTup u d ρ = some ρ' → ∃ ds, d = .tup ds ∧ ds.length = n ∧ u ds ρ = some ρ' := fun h d ρ ρ' e => by
  cases d with
  | tup ds => exact ⟨ds, rfl, h ds ρ ρ' e, e⟩
  | _ => cases e
theorem tgNil_len : ∀ ds ρ ρ', tgNil ds ρ = some ρ' → ds.length = 0 := fun ds ρ ρ' e => by
  cases ds with
  | nil => rfl
  | cons => cases e
theorem tgCons_len {t : DG} {u : DGs} {n : Nat} (h : ∀ ds ρ ρ', u ds ρ = some ρ' → ds.length = n) : ∀ ds ρ ρ', tgCons t u ds ρ = some ρ' → ds.length = n + 1 := fun ds ρ ρ' e => by
  cases ds with
  | nil => cases e
  | cons d r =>
    unfold tgCons at e
    dsimp only at e
    cases q : t d ρ with
    | none => rw [q] at e; cases e
    | some ρ1 =>
      rw [q] at e
      rw [List.length_cons, h r ρ1 ρ' e]
theorem gg_tup {es : List Expr} {k : Nat} {t : DGs} {n : Nat} (hc : X.calm = true) (h : PGs X es (rdGs X.K ca t)) (hl : ∀ ds ρ ρ', t ds ρ = some ρ' → ds.length = n)
    (hn : (assignEach es X.env).length = n := by rfl) (hst : (assignEach es X.env).findIdx? (·.1) = none := by rfl) : PG X (.Tuple es k pos) (rdG X.K ca (tgTup t)) := wkG (pg_tup hc h hn hst) fun v σ H Q q => by
  obtain ⟨g0, g, ρ, d, rfl, sm, env, r, ρ', e, k⟩ := q
  obtain ⟨ds, rfl, hds, e⟩ := tgTup_len hl d ρ ρ' e
  cases r with
  | tup hs ha => exact ⟨_, _, rfl, same_t sm hs, by rw [ha.length, hds], g0, g, ρ, ds, rfl, sm, env, ha, ρ', e, k⟩
end
def sSkip : DS := fun ρ S => .nx ρ S
def sSeq (f h : DS) : DS := fun ρ S => match f ρ S with
  | .nx ρ' S' => h ρ' S'
  | o => o
def sAsg (f : DE) (t : DG) : DS := fun ρ S => (f ρ S).bindS fun d S1 => match t d ρ with
  | some ρ' => .nx ρ' S1
  | none => .bad
def sExpr (f : DE) : DS := fun ρ S => (f ρ S).bindS fun _ S1 => .nx ρ S1
def sRet (f : DE) : DS := fun ρ S => (f ρ S).bindS fun d S1 => .ret d S1
def sIf (c : DE) (t u : DS) : DS := fun ρ S => (c ρ S).bindS fun d S1 => match d with
  | .bl true => t ρ S1
  | .bl false => u ρ S1
  | _ => .bad
def sRaise (c : Nat) : DS := fun _ S => .exc c S
/-- a, b = x, y -/
def sPar (i j : Nat) (a : DA) : DS := fun ρ S => match a ρ S with
  | .ok [x, y] S1 => .nx ((ρ.set i (.val x)).set j (.val y)) S1
  | .exc c S1 => .exc c S1
  | _ => .bad
section
variable {X : Cx} {ca : Nat → Addr} {E : XK} {a b c e : Expr} {f fa fb fc : DE} {pos : Pos} {st : Stmt} {rest : List Stmt} {fs fh : DS}
theorem gss_nil : PSs X [] (rdS X.K ca E sSkip) := wkSs pss_nil fun Dn σ H q => by
  obtain ⟨g0, g, ρ, S, rfl, e0, ok, env, post⟩ := q
  exact post σ g e0 (Grow.refl g) ok env
theorem gss_cons (h1 : PS X st (rdS X.K ca E fs)) (h2 : PSs X rest (rdS X.K ca E fh)) : PSs X (st :: rest) (rdS X.K ca E (sSeq fs fh)) := wkSs (pss_cons h1 h2) fun Dn σ H q => by
  obtain ⟨g0, g, ρ, S, rfl, e0, ok, env, post⟩ := q
  refine ⟨g0, g, ρ, S, rfl, e0, ok, env, ?_⟩
  unfold sSeq at post
  cases q : fs ρ S with
  | nx ρ' S' =>
    rw [q] at post
    exact fun σ' g' a b c d => ⟨g0, g', ρ', S', rfl, a, c, d, PostS.grow b post⟩
  | ret d S' => rw [q] at post; exact post
  | brk ρ' S' => rw [q] at post; exact post
  | cnt ρ' S' => rw [q] at post; exact post
  | exc c S' => rw [q] at post; exact post
  | bad => rw [q] at post; exact post
theorem gss_one (h1 : PS X st (rdS X.K ca E fs)) : PSs X [st] (rdS X.K ca E fs) := pss_one h1
theorem rd_asg {t : DG} (Dn : Ends) (σ : L2.St) (H : Hp) (q : rdS X.K ca E (sAsg f t) Dn σ H) : tAsg (rdE X.K ca E f) (rdG X.K ca t) Dn σ H := by
  obtain ⟨g0, g, ρ, S, rfl, e0, ok, env, post⟩ := q
  refine ⟨g0, g, ρ, S, rfl, ok, env, PostS.bindE e0 post fun d S1 v g1 e1 ok1 r1 post1 => ?_⟩
  cases q : t d ρ with
  | none => rw [q] at post1; exact post1.elim
  | some ρ' =>
    rw [q] at post1
    exact ⟨g0, g1, ρ, d, rfl, ok1.sub, env.ext e1, r1, ρ', q, fun σ' env' => post1 σ' g1 (e0.trans e1) (Grow.refl _) ok1 env'⟩
theorem gs_asg {tg : Expr} {t : DG} (he : PE X e (rdE X.K ca E f)) (hg : PG X tg (rdG X.K ca t)) (hs : swapsWithSole [tg] e pos.line X.env = pure false := by rfl) (hw : swappedStores [tg] e X.env = pure none := by rfl)
    (h1 : (assignEach [tg] X.env).map (·.2) = [assign tg X.env] := by rfl) : PS X (.Assign [tg] e pos) (rdS X.K ca E (sAsg f t)) := wkS (ps_asg he hg hs hw h1) rd_asg
theorem gs_set {i : Nat} {x : Str} {pos' : Pos} (hN : X.N.Nodup) (hi : X.N[i]? = some x) (hx : Loc X.env.scope x) (he : PE X e (rdE X.K ca E f)) (hs : swapsWith e (some (.Name x pos')) pos.line X.env = pure false := by rfl) (hf : X.fn x = true ∨ X.env.scope.names.lookup x = some .local := by first | exact .inl rfl | exact .inr rfl | assumption) :
    PS X (.Assign [.Name x pos'] e pos) (rdS X.K ca E (sAsg f (tgName i))) := wkS (ps_set hN hi hx he hs hf) fun Dn σ H q => by
  obtain ⟨g0, g, ρ, S, rfl, e0, ok, env, post⟩ := q
  refine ⟨g0, g, ρ, S, rfl, ok, env, PostS.bindE e0 post fun d S1 v g1 e1 ok1 r1 post1 => ?_⟩
  exact post1 _ g1 (e0.trans e1) (Grow.refl _) ok1 ((env.ext e1).set r1 i)
theorem gs_expr (he : PE X e (rdE X.K ca E f)) (hs : swapsWith e none pos.line X.env = pure false := by rfl) : PS X (.Expr e pos) (rdS X.K ca E (sExpr f)) := wkS (ps_expr he hs) fun Dn σ H q => by
  obtain ⟨g0, g, ρ, S, rfl, e0, ok, env, post⟩ := q
  refine ⟨g0, g, ρ, S, rfl, ok, env, PostS.bindE e0 post fun d S1 v g1 e1 ok1 r1 post1 => ?_⟩
  exact post1 _ g1 (e0.trans e1) (Grow.refl _) ok1 (env.ext e1)
theorem gs_ret (he : PE X e (rdE X.K ca E f)) : PS X (.Return (some e) pos) (rdS X.K ca E (sRet f)) := wkS (ps_ret he) fun Dn σ H q => by
  obtain ⟨g0, g, ρ, S, rfl, e0, ok, env, post⟩ := q
  refine ⟨g0, g, ρ, S, rfl, ok, env, PostS.bindE e0 post fun d S1 v g1 e1 ok1 r1 post1 => ?_⟩
  exact post1 v g1 (e0.trans e1) ok1 r1
theorem gs_if {as bs : List Stmt} (hc : PT X c (rdT X.K ca E fc)) (ha : PSs X as (rdS X.K ca E fs)) (hb : PSs X bs (rdS X.K ca E fh)) : PS X (.If c as bs pos) (rdS X.K ca E (sIf fc fs fh)) := wkS (ps_if hc ha hb) fun Dn σ H q => by
  obtain ⟨g0, g, ρ, S, rfl, e0, ok, env, post⟩ := q
  refine ⟨g0, g, ρ, S, rfl, ok, env, PostS.bindE e0 post fun d S1 v g1 e1 ok1 r1 post1 => ?_⟩
  cases r1 with
  | bl k =>
    refine ⟨k, rfl, ?_⟩
    cases k with
    | true => exact iteT ⟨g0, g1, ρ, S1, rfl, e0.trans e1, ok1, env.ext e1, post1⟩
    | false => exact iteF ⟨g0, g1, ρ, S1, rfl, e0.trans e1, ok1, env.ext e1, post1⟩
  | _ => exact post1.elim
theorem gs_raise {k : Nat} {cls : Value} (hc : X.calm = true) (tk : Takes X (fun cls d _ H => E cls d H)) (he : PMk X e (fun _ H Q => Q (.ref (ca k)) none H)) : PS X (.Raise (some e) none pos) (rdS X.K ca E (sRaise k)) := wkS (ps_raise hc tk he) fun Dn σ H q => by
  obtain ⟨g0, g, ρ, S, rfl, e0, ok, env, post⟩ := q
  exact post g e0 ok
theorem gs_par {i j : Nat} {x y : Str} {fa : DA} {px py pt : Pos} {kt k2 pt2} (hc : X.calm = true) (hN : X.N.Nodup) (hi : X.N[i]? = some x) (hj : X.N[j]? = some y) (hij : i ≠ j)
    (hx : X.env.scope.names.lookup x = some .local) (hy : X.env.scope.names.lookup y = some .local) (ha : PA X [a, b] (rdA X.K ca 2 E fa))
    (hw : swappedStores [.Tuple [.Name x px, .Name y py] kt pt] (.Tuple [a, b] k2 pt2) X.env = pure (some [x, y]))
    (hs : swapsWithSole [.Tuple [.Name x px, .Name y py] kt pt] (.Tuple [a, b] k2 pt2) pos.line X.env = pure false := by rfl) :
    PS X (.Assign [.Tuple [.Name x px, .Name y py] kt pt] (.Tuple [a, b] k2 pt2) pos) (rdS X.K ca E (sPar i j fa)) := wkS (ps_par hc hN hi hj hij hx hy ha hw hs) fun Dn σ H q => by
  obtain ⟨g0, g, ρ, S, rfl, e0, ok, env, post⟩ := q
  refine ⟨g0, g, ρ, S, rfl, ok, env, ?_⟩
  unfold sPar at post
  cases q : fa ρ S with
  | ok ds S1 =>
    rw [q] at post
    intro vs g1 e1 ok1 r1 hl
    cases r1 with
    | nil => cases hl
    | cons ra rr =>
      cases rr with
      | nil => cases hl
      | cons rb rr =>
        cases rr with
        | cons _ _ => exact absurd hl (by simp)
        | nil => exact ⟨_, _, rfl, post _ g1 (e0.trans e1) e1.grow ok1 (((env.ext e1).set ra i).set rb j)⟩
  | exc k S1 =>
    rw [q] at post
    exact fun g' e' ok' => post g' (e0.trans e') ok'
  | bad => rw [q] at post; exact post
end
def sOwn (i : Nat) (f : DE) : DS := fun ρ S => (f ρ S).bindS fun d S1 => match d with
  | .lst ds => .nx (ρ.set i (.own ds)) S1
  | _ => .bad
def sFrz (i : Nat) (f : DS) : DS := fun ρ S => match ρ[i]? with
  | some (.own ds) => f (ρ.set i (.val (.lst ds))) S
  | _ => f ρ S
section
variable {X : Cx} {ca : Nat → Addr} {E : XK} {e : Expr} {f : DE} {pos : Pos} {st : Stmt} {sts : List Stmt} {fs : DS}
theorem own_post {K : PySem.W.Frag} {i : Nat} {g0 g : G} {ρ : DEnv} {σ : L2.St} {o : Out} {Dn : Ends} (e0 : Ext g0 g) (env : EnvR K ca g0 g σ ρ)
    (post : PostS K ca E g0 g (o.bindS fun d S1 => match d with | .lst ds => .nx (ρ.set i (.own ds)) S1 | _ => .bad) Dn) : PostF K ca E g o fun x H1 => Dn.nx (σ.set i (some x)) H1 := by
  cases o with
  | ok d S1 =>
    cases d with
    | lst ds => exact fun p xs g1 e1 ok1 np fp pA hp r => post _ g1 (e0.trans e1) e1.grow ok1 (env.setOwn e1 e0 np fp pA hp r i)
    | _ => exact post
  | exc c S1 => exact fun g' e' ok' => post g' (e0.trans e') ok'
  | bad => exact post
theorem gs_own {i : Nat} {x : Str} {pos' : Pos} (hN : X.N.Nodup) (hi : X.N[i]? = some x) (hx : Loc X.env.scope x) (he : PE X e (rdF X.K ca E f)) (hs : swapsWith e (some (.Name x pos')) pos.line X.env = pure false := by rfl) (hf : X.fn x = true ∨ X.env.scope.names.lookup x = some .local := by first | exact .inl rfl | exact .inr rfl | assumption) :
    PS X (.Assign [.Name x pos'] e pos) (rdS X.K ca E (sOwn i f)) := wkS (ps_set hN hi hx he hs hf) fun Dn σ H q => by
  obtain ⟨g0, g, ρ, S, rfl, e0, ok, env, post⟩ := q
  exact ⟨g0, g, ρ, S, rfl, ok, env, own_post e0 env post⟩
theorem rd_frz {i : Nat} (Dn : Ends) (σ : L2.St) (H : Hp) (q : rdS X.K ca E (sFrz i fs) Dn σ H) : rdS X.K ca E fs Dn σ H := by
  obtain ⟨g0, g, ρ, S, rfl, e0, ok, env, post⟩ := q
  unfold sFrz at post
  split at post
  · rename_i ds hi
    obtain ⟨p, xs, h1, h2, h3, h4, h5, h6⟩ := env.own i ds hi
    exact ⟨g0, ⟨upd g.F p (.lst xs), g.A, g.H⟩, _, S, rfl, ext_frz0 e0 h2 h3, ok_frz0 ok h3 h4 h5, env.frz hi h1 h3 h6, PostS.grow ⟨same_upd h3, [], by simp⟩ post⟩
  · exact ⟨g0, g, ρ, S, rfl, e0, ok, env, post⟩
theorem gs_frz (i : Nat) (h : PS X st (rdS X.K ca E fs)) : PS X st (rdS X.K ca E (sFrz i fs)) := wkS h rd_frz
end
def loopW (c : DE) (b : DS) : Nat → DS
  | 0, _, _ => .bad
  | n + 1, ρ, S => (c ρ S).bindS fun d S1 => match d with
    | .bl true => match b ρ S1 with
      | .nx ρ' S' => loopW c b n ρ' S'
      | .cnt ρ' S' => loopW c b n ρ' S'
      | .brk ρ' S' => .nx ρ' S'
      | .ret d S' => .ret d S'
      | .exc k S' => .exc k S'
      | .bad => .bad
    | .bl false => .nx ρ S1
    | _ => .bad
def sWhile (n : Nat) (c : DE) (b : DS) : DS := fun ρ S => loopW c b n ρ S
section
variable {X : Cx} {ca : Nat → Addr} {E : XK} {c : Expr} {fc : DE} {pos : Pos} {body : List Stmt} {fb : DS}
theorem gs_while (n : Nat) (hp : PassesOwn (model X.prog X.w) X.A X.env X.xe) (hc : PT X c (rdT X.K ca E fc)) (hb : PSs X body (rdS X.K ca E fb)) : PS X (.While c body [] pos) (rdS X.K ca E (sWhile n fc fb)) := wkS (ps_while hp hc hb) fun Dn σ H q => by
  obtain ⟨g0, g, ρ, S, rfl, e0, ok, env, post⟩ := q
  refine ⟨fun m σ' H' => ∃ g' ρ' S', g'.H = H' ∧ Ext g0 g' ∧ Ok X.K ca g' S' ∧ EnvR X.K ca g0 g' σ' ρ' ∧ PostS X.K ca E g0 g' (loopW fc fb m ρ' S') Dn, ⟨n, g, ρ, S, rfl, e0, ok, env, post⟩, ?_⟩
  rintro m σ1 H1 ⟨g1, ρ1, S1, rfl, e1, ok1, env1, post1⟩
  cases m with
  | zero => exact post1.elim
  | succ m =>
    refine ⟨g0, g1, ρ1, S1, rfl, ok1, env1, PostS.bindE e1 post1 fun d S2 v g2 e2 ok2 r2 post2 => ?_⟩
    cases r2 with
    | bl k =>
      refine ⟨k, rfl, ?_⟩
      cases k with
      | false => exact iteF (post2 σ1 g2 (e1.trans e2) (Grow.refl _) ok2 (env1.ext e2))
      | true =>
        refine iteT ⟨fun σ' H' => ∃ g' ρ' S', g'.H = H' ∧ Ext g0 g' ∧ Ok X.K ca g' S' ∧ EnvR X.K ca g0 g' σ' ρ' ∧ PostS X.K ca E g0 g' (loopW fc fb m ρ' S') Dn, fun σ' H' z => ⟨m, Nat.lt_succ_self m, z⟩, g0, g2, ρ1, S2, rfl, e1.trans e2, ok2, env1.ext e2, ?_⟩
        · cases q : fb ρ1 S2 with
          | nx ρ' S' =>
            dsimp only at post2
            rw [q] at post2
            exact fun σ' g' b1 b2 b3 b4 => ⟨g', ρ', S', rfl, b1, b3, b4, PostS.grow b2 post2⟩
          | cnt ρ' S' =>
            dsimp only at post2
            rw [q] at post2
            exact fun σ' g' b1 b2 b3 b4 => ⟨g', ρ', S', rfl, b1, b3, b4, PostS.grow b2 post2⟩
          | brk ρ' S' =>
            dsimp only at post2
            rw [q] at post2
            exact post2
          | ret d S' =>
            dsimp only at post2
            rw [q] at post2
            exact post2
          | exc k S' =>
            dsimp only at post2
            rw [q] at post2
            exact post2
          | bad =>
            dsimp only at post2
            rw [q] at post2
            exact post2
    | _ => exact post2.elim
end
end DL
set_option Elab.async false
set_option linter.all false
set_option maxRecDepth 100000
set_option maxHeartbeats 1000000
namespace DL
open PySem PySem.Spec PyProof.Rows L2
section
variable (K : PySem.W.Frag) (ca : Nat → Addr)
def Walk (g : G) (J : It) (ds : List D) : Prop := ∀ g1 S1, Grow g g1 → Ok K ca g1 S1 → ∀ i : Nat,
  (∀ d, ds[i]? = some d → J.go i g1.H ∧ ∀ x H', J.yld i g1.H x H' → ∃ g2, g2.H = H' ∧ Ext g1 g2 ∧ Ok K ca g2 S1 ∧ RepG K ca g2 x d) ∧ (ds.length ≤ i → J.stop i g1.H)
def PostI (E : XK) (g : G) (o : Out) (R : It → Hp → Prop) : Prop := match o with
  | .ok (.lst ds) S => ∀ J g', Ext g g' → Ok K ca g' S → Walk K ca g' J ds → R J g'.H
  | .ok _ _ => False
  | .exc c S => ∀ g', Ext g g' → Ok K ca g' S → E (.ref (ca c)) none g'.H
  | .bad => False
def rdI (E : XK) (f : DE) : TI := fun σ H R => ∃ g0 g ρ S, g.H = H ∧ Ok K ca g S ∧ EnvR K ca g0 g σ ρ ∧ PostI K ca E g (f ρ S) R
end
section
variable {K : PySem.W.Frag} {ca : Nat → Addr} {E : XK} {g g1 : G}
theorem PostI.ext {o : Out} {R : It → Hp → Prop} (e : Ext g g1) (h : PostI K ca E g o R) : PostI K ca E g1 o R := by
  cases o with
  | ok d S =>
    cases d with
    | lst ds => exact fun J g' a b c => h J g' (e.trans a) b c
    | _ => exact h
  | exc c S => exact fun g' a b => h g' (e.trans a) b
  | bad => exact h
theorem PostI.of_bind {o : Out} {k : D → Store → Out} {Q : VK} {R : It → Hp → Prop} (h : PostI K ca E g (o.bind k) R)
    (hk : ∀ d S v g', Ext g g' → Ok K ca g' S → RepG K ca g' v d → PostI K ca E g' (k d S) R → Q v g'.H) : PostE K ca E g o Q := by
  cases o with
  | ok d S => exact fun v g' a b c => hk d S v g' a b c (PostI.ext a h)
  | exc c S => exact h
  | bad => exact h
theorem PostI.bindL {m : Nat} {o : OutL} {k : List D → Store → Out} {Q : List V → Hp → Prop} {R : It → Hp → Prop} (h : PostI K ca E g (o.bind k) R)
    (hk : ∀ ds S vs g', Ext g g' → Ok K ca g' S → RepAll K ca g'.A g'.F vs ds → vs.length = m → PostI K ca E g' (k ds S) R → Q vs g'.H) : PostA K ca m E g o Q := by
  cases o with
  | ok d S => exact fun v g' a b c l => hk d S v g' a b c l (PostI.ext a h)
  | exc c S => exact h
  | bad => exact h
theorem walk_list {a : Addr} {xs : List V} {ds : List D} (hs : SqL K g.F a xs) (hr : RepAll K ca g.A g.F xs ds) : Walk K ca g (Itl K a) ds := fun g1 S1 gr ok i => by
  have h1 : SqL K g1.H a xs := ok.sub.seq (gr.1.seq hs)
  refine ⟨fun d hd => ?_, fun hl => ⟨xs, h1, by rw [hr.length]; exact hl⟩⟩
  obtain ⟨v, e1, r⟩ := hr.get' hd
  refine ⟨⟨xs, v, h1, e1⟩, fun x H' y => ?_⟩
  obtain ⟨rfl, y⟩ := y
  have e2 := y xs h1
  rw [e1] at e2
  cases e2
  exact ⟨g1, rfl, Ext.refl _, ok, Rep.mono gr.2 gr.1 _ _ r⟩
theorem walk_tup {a : Addr} {xs : List V} {ds : List D} (hs : SqT K g.F a xs) (hr : RepAll K ca g.A g.F xs ds) : Walk K ca g (Itt K a) ds := fun g1 S1 gr ok i => by
  have h1 : SqT K g1.H a xs := same_t ok.sub (same_t gr.1 hs)
  refine ⟨fun d hd => ?_, fun hl => ⟨xs, h1, by rw [hr.length]; exact hl⟩⟩
  obtain ⟨v, e1, r⟩ := hr.get' hd
  refine ⟨⟨xs, v, h1, e1⟩, fun x H' y => ?_⟩
  obtain ⟨rfl, y⟩ := y
  have e2 := y xs h1
  rw [e1] at e2
  cases e2
  exact ⟨g1, rfl, Ext.refl _, ok, Rep.mono gr.2 gr.1 _ _ r⟩
def rangeD (lo c : Int) (n : Nat) : List D := (List.range n).map fun (i : Nat) => D.int (lo + (i : Int) * c)
theorem rangeD_get {lo c : Int} {n i : Nat} {d : D} (h : (rangeD lo c n)[i]? = some d) : i < n ∧ d = .int (lo + (i : Int) * c) := by
  unfold rangeD at h
  rw [List.getElem?_map] at h
  cases q : (List.range n)[i]? with
  | none => rw [q] at h; cases h
  | some j =>
    rw [q] at h
    cases h
    have := List.getElem?_eq_some_iff.mp q
    obtain ⟨l, e⟩ := this
    rw [List.getElem_range] at e
    rw [List.length_range] at l
    subst e
    exact ⟨l, rfl⟩
theorem walk_range {lo : Int} {n : Nat} : Walk K ca g (Itr lo n) (rangeD lo 1 n) := fun g1 S1 gr ok i => by
  refine ⟨fun d hd => ?_, fun hl => by
    unfold rangeD at hl
    rw [List.length_map, List.length_range] at hl
    exact hl⟩
  obtain ⟨h1, rfl⟩ := rangeD_get hd
  refine ⟨h1, fun x H' y => ?_⟩
  obtain ⟨rfl, rfl⟩ := y
  rw [Int.mul_one]
  exact ⟨g1, rfl, Ext.refl _, ok, .int _⟩
def zipD : List D → List D → List D
  | x :: xs, y :: ys => .tup [x, y] :: zipD xs ys
  | _, _ => []
theorem zipD_get : ∀ {xs ys : List D} {i : Nat} {d : D}, (zipD xs ys)[i]? = some d → ∃ x y, xs[i]? = some x ∧ ys[i]? = some y ∧ d = .tup [x, y]
  | [], _, i, d, h => by simp [zipD] at h
  | _ :: _, [], i, d, h => by simp [zipD] at h
  | x :: xs, y :: ys, 0, d, h => by
    simp [zipD] at h
    exact ⟨x, y, rfl, rfl, h.symm⟩
  | x :: xs, y :: ys, i + 1, d, h => by
    have h' : (zipD xs ys)[i]? = some d := by simpa [zipD] using h
    obtain ⟨a, b, e1, e2, e3⟩ := zipD_get h'
    exact ⟨a, b, by simpa using e1, by simpa using e2, e3⟩
theorem zipD_len : ∀ {xs ys : List D} {i : Nat}, (zipD xs ys).length ≤ i → xs.length ≤ i ∨ ys.length ≤ i
  | [], _, i, h => .inl (Nat.zero_le _)
  | _ :: _, [], i, h => .inr (Nat.zero_le _)
  | x :: xs, y :: ys, 0, h => by simp [zipD] at h
  | x :: xs, y :: ys, i + 1, h => by
    have h' : (zipD xs ys).length ≤ i := by simpa [zipD] using h
    rcases zipD_len h' with z | z
    · exact .inl (by rw [List.length_cons]; omega)
    · exact .inr (by rw [List.length_cons]; omega)
theorem walk_zip {a b : Addr} {xs ys : List V} {ds es : List D} (hs : SqL K g.F a xs) (hr : RepAll K ca g.A g.F xs ds) (hs2 : SqL K g.F b ys) (hr2 : RepAll K ca g.A g.F ys es) : Walk K ca g (Itz K a b) (zipD ds es) := fun g1 S1 gr ok i => by
  have h1 : SqL K g1.H a xs := ok.sub.seq (gr.1.seq hs)
  have h2 : SqL K g1.H b ys := ok.sub.seq (gr.1.seq hs2)
  refine ⟨fun d hd => ?_, fun hl => ⟨xs, ys, h1, h2, by rw [hr.length, hr2.length]; exact zipD_len hl⟩⟩
  obtain ⟨d1, d2, f1, f2, rfl⟩ := zipD_get hd
  obtain ⟨v, e1, r⟩ := hr.get' f1
  obtain ⟨w, e2, r2⟩ := hr2.get' f2
  refine ⟨⟨xs, ys, v, w, h1, h2, e1, e2⟩, fun x H' y => ?_⟩
  obtain ⟨T, x1, y1, rfl, hT, rfl, z1, z2⟩ := y
  have k1 := z1 xs h1
  have k2 := z2 ys h2
  rw [e1] at k1
  rw [e2] at k2
  cases k1
  cases k2
  refine ⟨g1.frz T (.tup [v, w]), rfl, ext_frz ok hT, ok_frz ok hT, .tup (SqT.of upd_same) ?_⟩
  exact RepAll.ext (ext_frz ok hT) (.cons (Rep.mono gr.2 gr.1 _ _ r) (.cons (Rep.mono gr.2 gr.1 _ _ r2) .nil))
end
def oSeq : D1 := fun d S => match d with
  | .lst ds => .ok (.lst ds) S
  | .tup ds => .ok (.lst ds) S
  | _ => .bad
def eSeq (f : DE) : DE := eUn oSeq f
def small (i : Int) : Bool := decide (-100000000 < i) && decide (i < 100000000)
def oRng : List D → Store → Out := fun ds S => match ds with
  | [.int j] => if small j then .ok (.lst (rangeD 0 1 j.toNat)) S else .bad
  | [.int i, .int j] => if small i && small j then .ok (.lst (rangeD i 1 (j - i).toNat)) S else .bad
  | [.int i, .int j, .int 2] => if small i && small j then .ok (.lst (rangeD i 2 ((j - i + 1) / 2).toNat)) S else .bad
  | _ => .bad
def eRng (a : DA) : DE := fun ρ S => (a ρ S).bind oRng
def oZip : List D → Store → Out := fun ds S => match ds with
  | [.lst xs, .lst ys] => .ok (.lst (zipD xs ys)) S
  | _ => .bad
def eZip (a : DA) : DE := fun ρ S => (a ρ S).bind oZip
theorem small_of {i : Int} (h : small i = true) : -(2 ^ 62) ≤ i ∧ i < 2 ^ 62 := by
  unfold small at h
  rw [Bool.and_eq_true, decide_eq_true_iff, decide_eq_true_iff] at h
  constructor
  · exact Int.le_trans (by decide) (Int.le_of_lt h.1)
  · exact Int.lt_trans h.2 (by decide)
section
variable {X : Cx} {ca : Nat → Addr} {E : XK} {tg l a b c : Expr} {f : DE} {fa : DA} {p pos : Pos}
theorem wkI {t t' : TI} (h : PI X tg l t) (k : ∀ σ H Q, t' σ H Q → t σ H Q) : PI X tg l t' := ⟨fun pins s σ H Q I q => h.run pins s σ H Q I (k σ H Q q)⟩
/-- a list or a tuple, whichever comes -/
def iSeq (K : PySem.W.Frag) (tl : TE) : TI := fun σ H R => tl σ H fun x H1 => ∃ a, x = .ref a ∧ (((∃ xs, SqL K H1 a xs) ∧ R (Itl K a) H1) ∨ ((∃ xs, SqT K H1 a xs) ∧ R (Itt K a) H1))
theorem pi_seq {tl : TE} (hl : PE X l tl) : PI X tg l (iSeq X.K tl) := by
  constructor
  intro pins s σ H R I h
  refine thn (hl.run pins s σ H _ I h) ?_
  rintro v s1 ⟨x, H1, I1, r1, a, rfl, ⟨⟨xs, hq⟩, q⟩ | ⟨⟨xs, hq⟩, q⟩⟩
  · cases r1
    obtain ⟨its, rv, hp, hz⟩ := I1.list hq
    refine wpAny_pyIter_list hp.isList ⟨_, [s1.heap.objs.size], _, Itl X.K a, H1, rfl, ?_, turn_list a _, ?_, ?_, q⟩
    · exact I1.kept (t' := s1.toks) fun b o e => Heap.get?_push_of_some _ e
    · exact ⟨_, Heap.get?_push_size _ rfl, rfl, rfl⟩
    · intro b hb
      rw [List.mem_singleton] at hb
      rw [hb]
      exact I1.fpOk (Nat.le_refl _) (I1.hok.fresh (Nat.le_refl _))
  · cases r1
    obtain ⟨its, rv, hp, hz⟩ := I1.tuple hq
    refine wpAny_pyIter_tuple hp ⟨_, [s1.heap.objs.size], _, Itt X.K a, H1, rfl, ?_, turn_tuple a _, ?_, ?_, q⟩
    · exact I1.kept (t' := s1.toks) fun b o e => Heap.get?_push_of_some _ e
    · exact ⟨_, Heap.get?_push_size _ rfl, rfl, rfl⟩
    · intro b hb
      rw [List.mem_singleton] at hb
      rw [hb]
      exact I1.fpOk (Nat.le_refl _) (I1.hok.fresh (Nat.le_refl _))
theorem gi_seq (hl : PE X l (rdE X.K ca E f)) : PI X tg l (rdI X.K ca E (eSeq f)) := wkI (pi_seq hl) fun σ H R q => by
  obtain ⟨g0, g, ρ, S, rfl, ok, env, post⟩ := q
  refine ⟨g0, g, ρ, S, rfl, ok, env, PostI.of_bind post fun d S1 v g1 e1 ok1 r1 post1 => ?_⟩
  cases r1 with
  | lst hs hr => exact ⟨_, rfl, .inl ⟨⟨_, SqL.of (ok1.sub _ _ hs)⟩, post1 _ g1 (Ext.refl _) ok1 (walk_list (SqL.of hs) hr)⟩⟩
  | tup hs hr => exact ⟨_, rfl, .inr ⟨⟨_, same_t ok1.sub hs⟩, post1 _ g1 (Ext.refl _) ok1 (walk_tup hs hr)⟩⟩
  | _ => exact post1.elim
theorem gi_range1 (hg : Gl X "range") (hm : X.mg "range" = none) (ha : PA X [a] (rdA X.K ca 1 E fa)) (hs : starEach [a] X.env = [(false, eval a X.env)] := by rfl) : PI X tg (.Call (.Name "range" p) [a] [] pos) (rdI X.K ca E (eRng fa)) := wkI (pi_range1 hg hm ha hs) fun σ H R q => by
  obtain ⟨g0, g, ρ, S, rfl, ok, env, post⟩ := q
  refine ⟨g0, g, ρ, S, rfl, ok, env, PostI.bindL post fun ds S1 vs g1 e1 ok1 r1 hl post1 => ?_⟩
  unfold oRng at post1
  split at post1
  · rename_i j
    split at post1
    · rename_i hj
      cases r1 with
      | cons r2 r3 =>
        cases r2
        cases r3
        exact ⟨j, rfl, (small_of hj).1, (small_of hj).2, post1 _ g1 (Ext.refl _) ok1 walk_range⟩
    · exact post1.elim
  · cases r1 with
    | cons _ r3 => cases r3; cases hl
  · cases r1 with
    | cons _ r3 => cases r3; cases hl
  · exact post1.elim
theorem gi_range2 (hg : Gl X "range") (hm : X.mg "range" = none) (ha : PA X [a, b] (rdA X.K ca 2 E fa)) (hs : starEach [a, b] X.env = [(false, eval a X.env), (false, eval b X.env)] := by rfl) (hs2 : starEach [b] X.env = [(false, eval b X.env)] := by rfl) :
    PI X tg (.Call (.Name "range" p) [a, b] [] pos) (rdI X.K ca E (eRng fa)) := wkI (pi_range2 hg hm ha hs hs2) fun σ H R q => by
  obtain ⟨g0, g, ρ, S, rfl, ok, env, post⟩ := q
  refine ⟨g0, g, ρ, S, rfl, ok, env, PostI.bindL post fun ds S1 vs g1 e1 ok1 r1 hl post1 => ?_⟩
  unfold oRng at post1
  split at post1
  · cases r1 with
    | cons _ r3 => cases r3; cases hl
  · rename_i i j
    split at post1
    · rename_i hj
      rw [Bool.and_eq_true] at hj
      cases r1 with
      | cons r2 r3 =>
        cases r2
        cases r3 with
        | cons r4 r5 =>
          cases r4
          cases r5
          exact ⟨i, j, rfl, ⟨(small_of hj.1).1, (small_of hj.1).2, (small_of hj.2).1, (small_of hj.2).2⟩, post1 _ g1 (Ext.refl _) ok1 walk_range⟩
    · exact post1.elim
  · cases r1 with
    | cons _ r3 =>
      cases r3 with
      | cons _ r4 => cases r4; cases hl
  · exact post1.elim
theorem gi_zip {tpos : Pos} {elts : List Expr} {kk : Nat} (hg : Gl X "zip") (hm : X.mg "zip" = none) (ha : PA X [a, b] (rdA X.K ca 2 E fa)) (hs : starEach [a, b] X.env = (false, eval a X.env) :: starEach [b] X.env := by rfl) (hpl : (backTo pos (starEach [b] X.env)).any (·.1) = false := by rfl) :
    PI X (.Tuple elts kk tpos) (.Call (.Name "zip" p) [a, b] [] pos) (rdI X.K ca E (eZip fa)) := wkI (pi_zip hg hm ha hs hpl) fun σ H R q => by
  obtain ⟨g0, g, ρ, S, rfl, ok, env, post⟩ := q
  refine ⟨g0, g, ρ, S, rfl, ok, env, PostI.bindL post fun ds S1 vs g1 e1 ok1 r1 hl post1 => ?_⟩
  unfold oZip at post1
  split at post1
  · rename_i xs ys
    cases r1 with
    | cons r2 r3 =>
      cases r2 with
      | lst s1 t1 =>
        cases r3 with
        | cons r4 r5 =>
          cases r5
          cases r4 with
          | lst s2 t2 => exact ⟨_, _, _, _, rfl, SqL.of (ok1.sub _ _ s1), SqL.of (ok1.sub _ _ s2), post1 _ g1 (Ext.refl _) ok1 (walk_zip (SqL.of s1) t1 (SqL.of s2) t2)⟩
  · exact post1.elim
end
def loopF (b : D → DS) : List D → DS
  | [], ρ, S => .nx ρ S
  | d :: ds, ρ, S => match b d ρ S with
    | .nx ρ' S' => loopF b ds ρ' S'
    | .cnt ρ' S' => loopF b ds ρ' S'
    | .brk ρ' S' => .nx ρ' S'
    | .ret d S' => .ret d S'
    | .exc k S' => .exc k S'
    | .bad => .bad
def turnF (t : DG) (b : DS) : D → DS := fun d ρ S => match t d ρ with
  | some ρ' => b ρ' S
  | none => .bad
def sFor (it : DE) (t : DG) (b : DS) : DS := fun ρ S => (it ρ S).bindS fun d S1 => match d with
  | .lst ds => loopF (turnF t b) ds ρ S1
  | _ => .bad
theorem drop_cons {α : Type} {l : List α} {i : Nat} {x : α} (h : l[i]? = some x) : l.drop i = x :: l.drop (i + 1) := by
  obtain ⟨hl, e⟩ := List.getElem?_eq_some_iff.mp h
  rw [← e]
  exact List.drop_eq_getElem_cons hl
section
variable {X : Cx} {ca : Nat → Addr} {E : XK} {tg iter : Expr} {f : DE} {t : DG} {fb : DS} {pos : Pos} {body : List Stmt}
theorem gs_for (hp : PassesOwn (model X.prog X.w) X.A X.env X.xe) (hc : X.calm = true) (hi : PI X tg iter (rdI X.K ca E f)) (hg : PG X tg (rdG X.K ca t)) (hb : PSs X body (rdS X.K ca E fb))
    (hs : ∀ x, foldedSetIterable iter X.env x = pure x := by intro _; rfl) : PS X (.For tg iter body [] pos) (rdS X.K ca E (sFor f t fb)) := wkS (ps_for hp hc hi hg hb hs) fun Dn σ H q => by
  obtain ⟨g0, g, ρ, S, rfl, e0, ok, env, post⟩ := q
  refine ⟨g0, g, ρ, S, rfl, ok, env, ?_⟩
  unfold sFor at post
  cases q : f ρ S with
  | bad => rw [q] at post; exact post
  | exc c S1 =>
    rw [q] at post
    exact fun g' e' ok' => post g' (e0.trans e') ok'
  | ok d S1 =>
    rw [q] at post
    cases d with
    | lst ds =>
      intro J gJ eJ okJ wk
      have post0 : PostS X.K ca E g0 gJ (loopF (turnF t fb) ds ρ S1) Dn := PostS.grow eJ.grow post
      refine ⟨fun i m σ' H' => m = ds.length - i ∧ i ≤ ds.length ∧ ∃ g' ρ' S', g'.H = H' ∧ Ext g0 g' ∧ Grow gJ g' ∧ Ok X.K ca g' S' ∧ EnvR X.K ca g0 g' σ' ρ' ∧ PostS X.K ca E g0 g' (loopF (turnF t fb) (ds.drop i) ρ' S') Dn,
        ⟨ds.length, by simp, Nat.zero_le _, gJ, ρ, S1, rfl, e0.trans eJ, Grow.refl _, okJ, env.ext eJ, post0⟩, ?_⟩
      rintro i m σ1 H1 ⟨rfl, hi, g1, ρ1, S2, rfl, e1, w1, ok1, env1, post1⟩
      obtain ⟨wgo, wstop⟩ := wk g1 S2 w1 ok1 i
      by_cases hlt : i < ds.length
      · have hd : ds[i]? = some ds[i] := by simp [hlt]
        obtain ⟨go, yl⟩ := wgo ds[i] hd
        refine .inr ⟨go, fun σ' H' => (ds.length - (i + 1) = ds.length - (i + 1) ∧ i + 1 ≤ ds.length ∧ ∃ g' ρ' S', g'.H = H' ∧ Ext g0 g' ∧ Grow gJ g' ∧ Ok X.K ca g' S' ∧ EnvR X.K ca g0 g' σ' ρ' ∧ PostS X.K ca E g0 g' (loopF (turnF t fb) (ds.drop (i + 1)) ρ' S') Dn), fun σ' H' z => ⟨ds.length - (i + 1), by omega, z⟩, fun x H' y => ?_⟩
        obtain ⟨g2, rfl, e2, ok2, r2⟩ := yl x H' y
        rw [drop_cons hd] at post1
        cases ht : t ds[i] ρ1 with
        | none =>
          unfold loopF turnF at post1
          rw [ht] at post1
          exact post1.elim
        | some ρ2 =>
          have post2 : PostS X.K ca E g0 g2 (match fb ρ2 S2 with
            | .nx ρ' S' => loopF (turnF t fb) (ds.drop (i + 1)) ρ' S'
            | .cnt ρ' S' => loopF (turnF t fb) (ds.drop (i + 1)) ρ' S'
            | .brk ρ' S' => .nx ρ' S'
            | .ret d S' => .ret d S'
            | .exc k S' => .exc k S'
            | .bad => .bad) Dn := by
            have z := PostS.grow e2.grow post1
            have hx : turnF t fb ds[i] ρ1 S2 = fb ρ2 S2 := by
              unfold turnF
              rw [ht]
            rw [loopF, hx] at z
            exact z
          refine ⟨g0, g2, ρ1, ds[i], rfl, ok2.sub, env1.ext e2, r2, ρ2, ht, fun σ2 env2 => ⟨g0, g2, ρ2, S2, rfl, e1.trans e2, ok2, env2, ?_⟩⟩
          cases hfb : fb ρ2 S2 with
          | nx ρ' S' =>
            rw [hfb] at post2
            exact fun σ' g' b1 b2 b3 b4 => ⟨rfl, hlt, g', ρ', S', rfl, b1, (w1.trans e2.grow).trans b2, b3, b4, PostS.grow b2 post2⟩
          | cnt ρ' S' =>
            rw [hfb] at post2
            exact fun σ' g' b1 b2 b3 b4 => ⟨rfl, hlt, g', ρ', S', rfl, b1, (w1.trans e2.grow).trans b2, b3, b4, PostS.grow b2 post2⟩
          | brk ρ' S' => rw [hfb] at post2; exact post2
          | ret d S' => rw [hfb] at post2; exact post2
          | exc k S' => rw [hfb] at post2; exact post2
          | bad => rw [hfb] at post2; exact post2
      · have hn : ds.length ≤ i := Nat.le_of_not_lt hlt
        refine .inl ⟨wstop hn, ?_⟩
        rw [List.drop_eq_nil_of_le hn] at post1
        exact post1 σ1 g1 e1 (Grow.refl _) ok1 env1
    | _ => exact post.elim
end
def loopC (c e : D → Store → Out) : List D → Store → OutL
  | [], S => .ok [] S
  | d :: ds, S => match c d S with
    | .ok (.bl true) S1 => match e d S1 with
      | .ok y S2 => match loopC c e ds S2 with
        | .ok ys S3 => .ok (y :: ys) S3
        | _ => .bad
      | _ => .bad
    | .ok (.bl false) S1 => loopC c e ds S1
    | _ => .bad
def turnC (t : DG) (f : DE) (ρ : DEnv) : D → Store → Out := fun d S => match t d ρ with
  | some ρ' => f ρ' S
  | none => .bad
def eLc (it : DE) (t : DG) (c e : DE) : DE := fun ρ S => (it ρ S).bind fun d S1 => match d with
  | .lst ds => if ds.length ≤ 100000 then (loopC (turnC t c ρ) (turnC t e ρ) ds S1).bind fun ys S2 => .ok (.lst ys) S2 else .bad
  | _ => .bad
def eYes : DE := eC (.bl true)
/-- how a comprehension's target is set in the block's own slots -/
def TgOk (K : PySem.W.Frag) (ca : Nat → Addr) (vs : List Nat) (gt : TG) (t : DG) : Prop :=
  ∀ (g0 g : G) (ρ : DEnv) (σ : L2.St) (x : V) (d : D) (ρ' : DEnv), EnvR K ca g0 g σ ρ → Same g.F g.H → RepG K ca g x d → t d ρ = some ρ' → ∀ R : L2.St → Hp → Prop, (∀ σ2, EnvR K ca g0 g σ2 ρ' → wipe σ2 vs = wipe σ vs → R σ2 g.H) → gt x (wipe σ vs) g.H R
section
variable {K : PySem.W.Frag} {ca : Nat → Addr} {g0 g : G} {ρ : DEnv} {σ : L2.St}
theorem EnvR.wipe1 (h : EnvR K ca g0 g σ ρ) (j : Nat) : EnvR K ca g0 g (σ.set j none) (ρ.set j .emp) where
  len := by rw [List.length_set, List.length_set, h.len]
  val := fun i d e => by
    rcases set_some e with ⟨_, q, _⟩ | ⟨hj, q⟩
    · cases q
    · rw [List.getElem?_set_ne (Ne.symm hj)]
      exact h.val i d q
  own := fun i d e => by
    rcases set_some e with ⟨_, q, _⟩ | ⟨hj, q⟩
    · cases q
    · rw [List.getElem?_set_ne (Ne.symm hj)]
      exact h.own i d q
  sep := fun i k ds es p e1 e2 e3 e4 => by
    rcases set_some e1 with ⟨_, q, _⟩ | ⟨hj, q1⟩
    · cases q
    rcases set_some e2 with ⟨_, q, _⟩ | ⟨hk, q2⟩
    · cases q
    rw [List.getElem?_set_ne (Ne.symm hj)] at e3
    rw [List.getElem?_set_ne (Ne.symm hk)] at e4
    exact h.sep i k ds es p q1 q2 e3 e4
theorem tgOk_name (j : Nat) : TgOk K ca [j] (gName j) (tgName j) := fun g0 g ρ σ x d ρ' env sm r e R k => by
  cases e
  refine k _ ?_ ?_
  · show EnvR K ca g0 g ((σ.set j none).set j (some x)) _
    rw [List.set_set]
    exact env.set r j
  · show (((σ.set j none).set j (some x)).set j none) = σ.set j none
    rw [List.set_set, List.set_set]
theorem set4 {α : Type} (l : List α) {j k : Nat} (h : j ≠ k) (a b x y : α) : ((((l.set k a).set j b).set j x).set k y) = (l.set j x).set k y := by
  rw [List.set_set, List.set_comm _ _ h.symm, List.set_set]
theorem tgOk_pair {j k : Nat} (h : j ≠ k) : TgOk K ca [j, k] (gTup K 2 (gCons (gName j) (gCons (gName k) gNil))) (tgTup (tgCons (tgName j) (tgCons (tgName k) tgNil))) := fun g0 g ρ σ x d ρ' env sm r e R kk => by
  obtain ⟨ds, rfl, hds, e⟩ := tgTup_len (tgCons_len (tgCons_len tgNil_len)) d ρ ρ' e
  cases r with
  | tup hs ha =>
    cases ha with
    | nil => cases hds
    | cons r1 r2 =>
      cases r2 with
      | nil => cases hds
      | cons r3 r4 =>
        cases r4 with
        | cons _ _ => exact absurd hds (by simp)
        | nil =>
          cases e
          refine ⟨_, _, rfl, same_t sm hs, rfl, _, _, rfl, _, _, rfl, rfl, kk _ ?_ ?_⟩
          · show EnvR K ca g0 g ((((σ.set k none).set j none).set j (some _)).set k (some _)) _
            rw [set4 σ h]
            exact (env.set r1 j).set r3 k
          · show ((((((σ.set k none).set j none).set j (some _)).set k (some _)).set k none).set j none) = (σ.set k none).set j none
            rw [List.set_set, List.set_set, List.set_comm _ _ h, List.set_set, List.set_set]
end
section
variable {X : Cx} {ca : Nat → Addr} {E : XK} {f fc fe : DE} {t : DG} {gt : TG} {vs : List Nat}
theorem rd_lc {K : PySem.W.Frag} (ht : TgOk K ca vs gt t) (σ : L2.St) (H : Hp) (Q : VK) (q : rdF K ca E (eLc f t fc fe) σ H Q) : tLc (rdI K ca E f) gt (rdT K ca E0 fc) (rdE K ca E0 fe) vs σ H Q := by
  obtain ⟨g0, g, ρ, S, rfl, ok, env, post⟩ := q
  refine ⟨g0, g, ρ, S, rfl, ok, env, ?_⟩
  unfold eLc at post
  cases q : f ρ S with
  | bad => rw [q] at post; exact post
  | exc c S1 => rw [q] at post; exact post
  | ok d S1 =>
    rw [q] at post
    cases d with
    | lst ds =>
      intro J gJ eJ okJ wk Dl hD
      dsimp only [Out.bind] at post
      by_cases hz : ds.length ≤ 100000
      · rw [if_pos hz] at post
        cases hlc : loopC (turnC t fc ρ) (turnC t fe ρ) ds S1 with
        | bad => rw [hlc] at post; exact post.elim
        | exc c S2 =>
          exfalso
          clear post
          have : ∀ (l : List D) (S : Store) (c : Nat) (S2 : Store), loopC (turnC t fc ρ) (turnC t fe ρ) l S ≠ .exc c S2 := by
            intro l
            induction l with
            | nil => intro S c S2 z; cases z
            | cons d l ih =>
              intro S c S2 z
              unfold loopC at z
              split at z
              · split at z
                · split at z
                  · cases z
                  · cases z
                · cases z
              · exact ih _ _ _ z
              · cases z
          exact this _ _ _ _ hlc
        | ok ys S2 =>
          rw [hlc] at post
          have dF : gJ.F Dl = none := okJ.ffree hD
          have dA : Dl ∉ gJ.A := fun z => okJ.there z hD
          refine ⟨fun i m H' => m = ds.length - i ∧ i ≤ ds.length ∧ ∃ g' S' acc ac zs, g'.H = H' ∧ Ext gJ g' ∧ Ok K ca g' S' ∧ g'.F Dl = none ∧ Dl ∉ g'.A ∧ g'.H Dl = some (.lst acc) ∧ RepAll K ca g'.A g'.F acc ac ∧ ac.length ≤ i ∧ loopC (turnC t fc ρ) (turnC t fe ρ) (ds.drop i) S' = .ok zs S2 ∧ ac ++ zs = ys,
            ⟨ds.length, by simp, Nat.zero_le _, gJ.put Dl (.lst []), S1, [], [], ys, rfl, ext_put hD, ok_put okJ dF dA, dF, dA, upd_same, .nil, Nat.le_refl _, hlc, rfl⟩, ?_⟩
          rintro i m H1 ⟨rfl, hi, g1, S3, acc, ac, zs, rfl, e1, ok1, f1, a1, h1, r1, l1, lp, es⟩
          obtain ⟨wgo, wstop⟩ := wk g1 S3 e1.grow ok1 i
          by_cases hlt : i < ds.length
          · have hd : ds[i]? = some ds[i] := by simp [hlt]
            obtain ⟨go, yl⟩ := wgo ds[i] hd
            refine .inr ⟨go, fun H' => (ds.length - (i + 1) = ds.length - (i + 1) ∧ i + 1 ≤ ds.length ∧ ∃ g' S' acc ac zs, g'.H = H' ∧ Ext gJ g' ∧ Ok K ca g' S' ∧ g'.F Dl = none ∧ Dl ∉ g'.A ∧ g'.H Dl = some (.lst acc) ∧ RepAll K ca g'.A g'.F acc ac ∧ ac.length ≤ i + 1 ∧ loopC (turnC t fc ρ) (turnC t fe ρ) (ds.drop (i + 1)) S' = .ok zs S2 ∧ ac ++ zs = ys), fun H' z => ⟨ds.length - (i + 1), by omega, z⟩, fun x H' y => ?_⟩
            obtain ⟨g2, rfl, e2, ok2, r2⟩ := yl x H' y
            rw [drop_cons hd] at lp
            have env2 : EnvR K ca g0 g2 σ ρ := env.ext ((eJ.trans e1).trans e2)
            have h2 : g2.H Dl = some (.lst acc) := e2.H Dl _ a1 h1
            have f2 : g2.F Dl = none := e2.nf Dl (some_ne h1) f1
            have a2 : Dl ∉ g2.A := e2.out a1 (some_ne h1)
            cases htd : t ds[i] ρ with
            | none =>
              unfold loopC at lp
              have hx : turnC t fc ρ ds[i] S3 = .bad := by
                unfold turnC
                rw [htd]
              rw [hx] at lp
              cases lp
            | some ρ2 =>
              have hx : turnC t fc ρ ds[i] S3 = fc ρ2 S3 := by
                unfold turnC
                rw [htd]
              refine ht g0 g2 ρ σ x ds[i] ρ2 env2 ok2.sub r2 htd _ fun σ2 env3 hw => ⟨hw, g0, g2, ρ2, S3, rfl, ok2, env3, ?_⟩
              unfold loopC at lp
              rw [hx] at lp
              cases hc : fc ρ2 S3 with
              | bad => rw [hc] at lp; cases lp
              | exc c S4 => rw [hc] at lp; cases lp
              | ok d4 S4 =>
                rw [hc] at lp
                intro v4 g4 e4 ok4 r4
                have env4 : EnvR K ca g0 g4 σ2 ρ2 := env3.ext e4
                have h4 : g4.H Dl = some (.lst acc) := e4.H Dl _ a2 h2
                have f4 : g4.F Dl = none := e4.nf Dl (some_ne h2) f2
                have a4 : Dl ∉ g4.A := e4.out a2 (some_ne h2)
                cases r4 with
                | bl b =>
                  refine ⟨b, rfl, ?_⟩
                  cases b with
                  | false => exact iteF ⟨rfl, hlt, g4, S4, acc, ac, zs, rfl, (e1.trans e2).trans e4, ok4, f4, a4, h4, r1.ext (e2.trans e4), Nat.le_succ_of_le l1, lp, es⟩
                  | true =>
                    refine iteT ⟨g0, g4, ρ2, S4, rfl, ok4, env4, ?_⟩
                    dsimp only at lp
                    have hy : turnC t fe ρ ds[i] S4 = fe ρ2 S4 := by
                      unfold turnC
                      rw [htd]
                    rw [hy] at lp
                    cases he : fe ρ2 S4 with
                    | bad => rw [he] at lp; cases lp
                    | exc c S5 => rw [he] at lp; cases lp
                    | ok d5 S5 =>
                      rw [he] at lp
                      dsimp only at lp
                      intro v5 g5 e5 ok5 r5
                      cases hr : loopC (turnC t fc ρ) (turnC t fe ρ) (ds.drop (i + 1)) S5 with
                      | bad => rw [hr] at lp; cases lp
                      | exc c S6 => rw [hr] at lp; cases lp
                      | ok zs' S6 =>
                        rw [hr] at lp
                        injection lp with lp1 lp2
                        subst lp2
                        have h5 : g5.H Dl = some (.lst acc) := e5.H Dl _ a4 h4
                        have f5 : g5.F Dl = none := e5.nf Dl (some_ne h4) f4
                        have a5 : Dl ∉ g5.A := e5.out a4 (some_ne h4)
                        have x5 : Ext gJ g5 := ((e1.trans e2).trans e4).trans e5
                        have ra : RepAll K ca g5.A g5.F acc ac := r1.ext ((e2.trans e4).trans e5)
                        refine ⟨acc, h5, ?_, rfl, hlt, g5.put Dl (.lst (acc ++ [v5])), S5, acc ++ [v5], ac ++ [d5], zs', rfl, ext_put0 x5 hD, ok_put ok5 f5 a5, f5, a5, upd_same, ra.append (.cons r5 .nil), ?_, hr, ?_⟩
                        · rw [ra.length]
                          exact Nat.lt_of_le_of_lt l1 (Nat.lt_of_lt_of_le hlt (Nat.le_trans hz (by decide)))
                        · rw [List.length_append, List.length_singleton]
                          omega
                        · rw [List.append_assoc, List.singleton_append, lp1]
                          exact es
                | _ => cases lp
          · have hn : ds.length ≤ i := Nat.le_of_not_lt hlt
            refine .inl ⟨wstop hn, ?_⟩
            rw [List.drop_eq_nil_of_le hn] at lp
            injection lp with lp1 lp2
            subst lp1 lp2
            rw [List.append_nil] at es
            subst es
            refine post Dl acc g1 (eJ.trans e1) ok1 ?_ f1 a1 h1 r1
            cases z : g.H Dl with
            | none => rfl
            | some o => exact absurd hD (eJ.kp Dl (some_ne z))
      · rw [if_neg hz] at post
        exact post.elim
    | _ => exact post.elim
end
end DL
set_option Elab.async false
set_option linter.all false
set_option maxRecDepth 100000
set_option maxHeartbeats 1000000
namespace DL
open PySem PySem.Spec PyProof.Rows L2
mutual
def D.py : D → PyData
  | .non => .none
  | .bl b => .bool b
  | .int i => .int i
  | .str x => .str x
  | .lst xs => .list (pyAll xs)
  | .tup xs => .tuple (pyAll xs)
  | .fls xs => .list (pyAll xs)
  | .obj _ => .none
  | .exc _ => .none
def pyAll : List D → List PyData
  | [] => []
  | d :: ds => d.py :: pyAll ds
end
/-- plain data, n levels deep -/
def okD : Nat → D → Bool
  | _, .non => true
  | _, .bl _ => true
  | _, .int _ => true
  | _, .str x => PyData.strOk x
  | n + 1, .lst xs => xs.all (okD n)
  | n + 1, .tup xs => xs.all (okD n)
  | n + 1, .fls xs => xs.all (okD n)
  | _, _ => false
mutual
def eqD : D → D → Bool
  | .non, .non => true
  | .bl a, .bl b => a == b
  | .bl a, .int j => (if a then 1 else 0) == j
  | .int i, .bl b => i == (if b then 1 else 0)
  | .int i, .int j => i == j
  | .str x, .str y => x == y
  | .lst xs, .lst ys => eqAll xs ys
  | .lst xs, .fls ys => eqAll xs ys
  | .fls xs, .lst ys => eqAll xs ys
  | .fls xs, .fls ys => eqAll xs ys
  | .tup xs, .tup ys => eqAll xs ys
  | _, _ => false
def eqAll : List D → List D → Bool
  | [], [] => true
  | x :: xs, y :: ys => eqD x y && eqAll xs ys
  | _, _ => false
end
theorem okAll_lay (n : Nat) (ih : ∀ d, okD n d = true → d.py.canLay0 = true ∧ d.py.depth ≤ n) : ∀ (xs : List D), xs.all (okD n) = true → PyData.canLayAll0 (pyAll xs) = true ∧ PyData.depthAll (pyAll xs) ≤ n
  | [], _ => ⟨by simp [pyAll, PyData.canLayAll0], by simp [pyAll, PyData.depthAll]⟩
  | x :: xs, h => by
    rw [List.all_cons, Bool.and_eq_true] at h
    obtain ⟨h1, h2⟩ := h
    obtain ⟨a1, a2⟩ := ih x h1
    obtain ⟨b1, b2⟩ := okAll_lay n ih xs h2
    constructor
    · simp [pyAll, PyData.canLayAll0, a1, b1]
    · simp only [pyAll, PyData.depthAll]
      omega
theorem okD_lay : ∀ (n : Nat) (d : D), okD n d = true → d.py.canLay0 = true ∧ d.py.depth ≤ n := by
  intro n
  induction n with
  | zero =>
    intro d h
    cases d <;> first | (simp [okD] at h; done) | exact ⟨by simpa [D.py, PyData.canLay0, okD] using h, by simp [D.py, PyData.depth]⟩ | exact ⟨by simp [D.py, PyData.canLay0], by simp [D.py, PyData.depth]⟩
  | succ n ih =>
    intro d h
    cases d with
    | lst xs =>
      obtain ⟨a, b⟩ := okAll_lay n ih xs h
      exact ⟨by simp [D.py, PyData.canLay0, a], by simp only [D.py, PyData.depth]; omega⟩
    | tup xs =>
      obtain ⟨a, b⟩ := okAll_lay n ih xs h
      exact ⟨by simp [D.py, PyData.canLay0, a], by simp only [D.py, PyData.depth]; omega⟩
    | fls xs =>
      obtain ⟨a, b⟩ := okAll_lay n ih xs h
      exact ⟨by simp [D.py, PyData.canLay0, a], by simp only [D.py, PyData.depth]; omega⟩
    | obj _ => simp [okD] at h
    | exc _ => simp [okD] at h
    | str x => exact ⟨by simpa [D.py, PyData.canLay0, okD] using h, by simp [D.py, PyData.depth]⟩
    | _ => exact ⟨by simp [D.py, PyData.canLay0], by simp [D.py, PyData.depth]⟩
theorem okD_shaped {n : Nat} (hn : n ≤ 64) {d : D} (h : okD n d = true) : SeqAt.shaped d.py = true := by
  obtain ⟨a, b⟩ := okD_lay n d h
  unfold SeqAt.shaped
  rw [a, decide_eq_true (Nat.le_trans b hn)] <;> rfl
theorem eqAll_py (n : Nat) (ih : ∀ d e, okD n d = true → okD n e = true → eqD d e = PyData.eqv d.py e.py) : ∀ (xs ys : List D), xs.all (okD n) = true → ys.all (okD n) = true → eqAll xs ys = PyData.eqvAll (pyAll xs) (pyAll ys)
  | [], [], _, _ => by simp [eqAll, pyAll, PyData.eqvAll]
  | [], y :: ys, _, _ => by simp [eqAll, pyAll, PyData.eqvAll]
  | x :: xs, [], _, _ => by simp [eqAll, pyAll, PyData.eqvAll]
  | x :: xs, y :: ys, h, h' => by
    rw [List.all_cons, Bool.and_eq_true] at h h'
    simp only [eqAll, pyAll, PyData.eqvAll]
    rw [ih x y h.1 h'.1, eqAll_py n ih xs ys h.2 h'.2]
theorem eqD_py : ∀ (n : Nat) (d e : D), okD n d = true → okD n e = true → eqD d e = PyData.eqv d.py e.py := by
  intro n
  induction n with
  | zero =>
    intro d e hd he
    cases d <;> cases e <;> first
      | (simp [eqD, D.py, PyData.eqv]; done)
      | (simp [okD] at hd; done)
      | (simp [okD] at he; done)
  | succ n ih =>
    intro d e hd he
    cases d <;> cases e <;> first
      | (simp [eqD, D.py, PyData.eqv]; done)
      | (simp [okD] at hd; done)
      | (simp [okD] at he; done)
      | (simp only [eqD, D.py, PyData.eqv]
         exact eqAll_py n ih _ _ hd he)
section
variable {K : PySem.W.Frag} {ca : Nat → Addr} {A : List Addr} {F H : Hp}
mutual
theorem Rep.dp (sm : Same F H) : ∀ (n : Nat) (d : D) (v : V), okD n d = true → Rep K ca A F v d → Dp K H v d.py
  | _, .non, _, _, h => by cases h; exact .non
  | _, .bl b, _, _, h => by cases h; exact .bl b
  | _, .int i, _, _, h => by cases h; exact .int i
  | _, .str x, _, _, h => by cases h; exact .str x
  | n + 1, .lst ds, _, o, h => by
    cases h with
    | lst hs ha => exact .lst (SqL.of (sm _ _ hs)) (RepAll.dp sm n ds _ o ha)
  | n + 1, .fls ds, _, o, h => by
    cases h with
    | fls hs ha => exact .lst (sm.seq hs) (RepAll.dp sm n ds _ o ha)
  | n + 1, .tup ds, _, o, h => by
    cases h with
    | tup hs ha => exact .tup (same_t sm hs) (RepAll.dp sm n ds _ o ha)
  | 0, .lst ds, _, o, h => by simp [okD] at o
  | 0, .fls ds, _, o, h => by simp [okD] at o
  | 0, .tup ds, _, o, h => by simp [okD] at o
  | n, .obj _, _, o, h => by cases n <;> simp [okD] at o
  | n, .exc _, _, o, h => by cases n <;> simp [okD] at o
theorem RepAll.dp (sm : Same F H) : ∀ (n : Nat) (ds : List D) (vs : List V), ds.all (okD n) = true → RepAll K ca A F vs ds → DpAll K H vs (pyAll ds)
  | _, [], _, _, h => by cases h; exact .nil
  | n, d :: ds, _, o, h => by
    cases h with
    | cons h1 h2 =>
      rw [List.all_cons, Bool.and_eq_true] at o
      exact .cons (Rep.dp sm n d _ o.1 h1) (RepAll.dp sm n ds _ o.2 h2)
end
end
theorem OpR.or {X : Cx} {f : Value → Value → Sem Value} {r r' : R2} (h : OpR X f r) (h' : OpR X f r') : OpR X f (fun x y H Q => r x y H Q ∨ r' x y H Q) := fun pins s σ H x y v u Q I rx ry q => q.elim (fun q => h pins s σ H x y v u Q I rx ry q) fun q => h' pins s σ H x y v u Q I rx ry q
def oEq : D2 := fun d e S => if okD 6 d && okD 6 e then .ok (.bl (eqD d e)) S else .bad
def oNe : D2 := fun d e S => if okD 6 d && okD 6 e then .ok (.bl (!eqD d e)) S else .bad
def oLt : D2 := fun d e S => match d, e with
  | .int i, .int j => .ok (.bl (decide (i < j))) S
  | _, _ => .bad
def oLe : D2 := fun d e S => match d, e with
  | .int i, .int j => .ok (.bl (decide (i ≤ j))) S
  | _, _ => .bad
def oGt : D2 := fun d e S => match d, e with
  | .int i, .int j => .ok (.bl (decide (j < i))) S
  | _, _ => .bad
def oGe : D2 := fun d e S => match d, e with
  | .int i, .int j => .ok (.bl (decide (j ≤ i))) S
  | _, _ => .bad
def oSub : D2 := fun d e S => match d, e with
  | .int i, .int j => .ok (.int (i - j)) S
  | _, _ => .bad
def big (i : Int) : Bool := decide (-18446744073709551616 < i) && decide (i < 18446744073709551616)
def oMul : D2 := fun d e S => match d, e with
  | .int i, .int j => if big i || big j then .ok (.int (i * j)) S else .bad
  | .lst xs, .int k => if decide (-100000 ≤ k) && decide (k ≤ 100000) && decide (xs.length * k.toNat ≤ 100000) then .ok (.lst ((List.replicate k.toNat xs).flatten)) S else .bad
  | _, _ => .bad
def oFdiv : D2 := fun d e S => match d, e with
  | .int i, .int j => if decide (0 < j) && decide (j < 1073741824) then .ok (.int (i / j)) S else .bad
  | _, _ => .bad
def oMod : D2 := fun d e S => match d, e with
  | .int i, .int j => if decide (0 < j) then .ok (.int (i % j)) S else .bad
  | _, _ => .bad
def oPow : D2 := fun d e S => match d, e with
  | .int i, .int j => if decide (0 ≤ j) && decide (j ≤ 1000) && big i then .ok (.int (i ^ j.toNat)) S else .bad
  | _, _ => .bad
def oAdd : D2 := fun d e S => match d, e with
  | .int i, .int j => .ok (.int (i + j)) S
  | .lst xs, .lst ys => if xs.length + ys.length ≤ 100000 then .ok (.lst (xs ++ ys)) S else .bad
  | .str x, .str y => if x.length + y.length ≤ 100000 then .ok (.str (x ++ y)) S else .bad
  | _, _ => .bad
def oNeg : D1 := fun d S => match d with
  | .int i => .ok (.int (-i)) S
  | _ => .bad
def isNon : D → Bool
  | .non => true
  | _ => false
def oIs : D2 := fun d e S => match d, e with
  | .bl a, .bl b => .ok (.bl (decide (a = b))) S
  | d, .non => .ok (.bl (isNon d)) S
  | _, _ => .bad
def oIsnt : D2 := fun d e S => match d, e with
  | .bl a, .bl b => .ok (.bl (!decide (a = b))) S
  | d, .non => .ok (.bl (!isNon d)) S
  | _, _ => .bad
theorem sz_of {n : Nat} (h : n ≤ 100000) : n ≤ sizeLine := Nat.le_trans h (by decide)
theorem big_of {i : Int} (h : big i = true) : -(2 ^ 64) < i ∧ i < 2 ^ 64 := by
  unfold big at h
  rw [Bool.and_eq_true, decide_eq_true_iff, decide_eq_true_iff] at h
  exact h
section
variable {X : Cx} {ca : Nat → Addr} {E : XK}
/-- the operators' rules on values -/
def rAddA : R2 := fun x y H Q => (rI0 (fun i j => .int (i + j))) x y H Q ∨ (rCat x y H Q ∨ ∃ i j, x = .str i ∧ y = .str j ∧ i.length + j.length ≤ sizeLine ∧ Q (.str (i ++ j)) H)
theorem op_addA : OpR X (binaryOp .Add) rAddA := OpR.or op_add (OpR.or op_cat op_add_str)
def rMulA : R2 := fun x y H Q => (rI CMul (fun i j => .int (i * j))) x y H Q ∨ rRep x y H Q
theorem op_mulA : OpR X (binaryOp .Mult) rMulA := OpR.or op_mul op_rep
def rIsA : R2 := fun x y H Q => (y = .non ∧ Q (.bl (decide (x = .non))) H) ∨ rIsB x y H Q
theorem op_isA : OpR X (compareOp .Is) rIsA := OpR.or op_isN op_isBl
def rIsntA : R2 := fun x y H Q => (y = .non ∧ Q (.bl (!decide (x = .non))) H) ∨ rNotB x y H Q
theorem op_isntA : OpR X (compareOp .IsNot) rIsntA := OpR.or op_notN op_notBl
variable {K : PySem.W.Frag}
theorem s_eq : OpS K ca E (rEqD K) oEq := fun g S v w d e Q ok r1 r2 post => by
  unfold oEq at post
  split at post
  · rename_i h
    rw [Bool.and_eq_true] at h
    exact ⟨d.py, e.py, Rep.dp ok.sub 6 d v h.1 r1, Rep.dp ok.sub 6 e w h.2 r2, okD_shaped (by decide) h.1, okD_shaped (by decide) h.2, by
      rw [← eqD_py 6 d e h.1 h.2]
      exact PostE.here post ok (.bl _)⟩
  · exact post.elim
theorem s_ne : OpS K ca E (rNeD K) oNe := fun g S v w d e Q ok r1 r2 post => by
  unfold oNe at post
  split at post
  · rename_i h
    rw [Bool.and_eq_true] at h
    exact ⟨d.py, e.py, Rep.dp ok.sub 6 d v h.1 r1, Rep.dp ok.sub 6 e w h.2 r2, okD_shaped (by decide) h.1, okD_shaped (by decide) h.2, by
      rw [← eqD_py 6 d e h.1 h.2]
      exact PostE.here post ok (.bl _)⟩
  · exact post.elim
theorem s_lt : OpS K ca E (rI0 fun i j => .bl (decide (i < j))) oLt := fun g S v w d e Q ok r1 r2 post => by
  unfold oLt at post
  split at post
  · cases r1
    cases r2
    exact ⟨_, _, rfl, rfl, PostE.here post ok (.bl _)⟩
  · exact post.elim
theorem s_le : OpS K ca E (rI0 fun i j => .bl (decide (i ≤ j))) oLe := fun g S v w d e Q ok r1 r2 post => by
  unfold oLe at post
  split at post
  · cases r1
    cases r2
    exact ⟨_, _, rfl, rfl, PostE.here post ok (.bl _)⟩
  · exact post.elim
theorem s_gt : OpS K ca E (rI0 fun i j => .bl (decide (j < i))) oGt := fun g S v w d e Q ok r1 r2 post => by
  unfold oGt at post
  split at post
  · cases r1
    cases r2
    exact ⟨_, _, rfl, rfl, PostE.here post ok (.bl _)⟩
  · exact post.elim
theorem s_ge : OpS K ca E (rI0 fun i j => .bl (decide (j ≤ i))) oGe := fun g S v w d e Q ok r1 r2 post => by
  unfold oGe at post
  split at post
  · cases r1
    cases r2
    exact ⟨_, _, rfl, rfl, PostE.here post ok (.bl _)⟩
  · exact post.elim
theorem s_sub : OpS K ca E (rI0 fun i j => .int (i - j)) oSub := fun g S v w d e Q ok r1 r2 post => by
  unfold oSub at post
  split at post
  · cases r1
    cases r2
    exact ⟨_, _, rfl, rfl, PostE.here post ok (.int _)⟩
  · exact post.elim
theorem flatten_rep {A : List Addr} {F : Hp} {xs : List V} {ds : List D} (r : RepAll K ca A F xs ds) : ∀ n : Nat, RepAll K ca A F (List.replicate n xs).flatten (List.replicate n ds).flatten
  | 0 => .nil
  | n + 1 => by
    rw [List.replicate_succ, List.replicate_succ, List.flatten_cons, List.flatten_cons]
    exact r.append (flatten_rep r n)
theorem new_lst {g : G} {S : Store} {xs : List V} {ds : List D} {Q : VK} (ok : Ok K ca g S) (post : PostE K ca E g (.ok (.lst ds) S) Q) (r : RepAll K ca g.A g.F xs ds) (p : Addr) (hp : g.H p = none) : Q (.ref p) (upd g.H p (.lst xs)) :=
  post (.ref p) (g.frz p (.lst xs)) (ext_frz ok hp) (ok_frz ok hp) (.lst upd_same (r.ext (ext_frz ok hp)))
theorem new_tup {g : G} {S : Store} {xs : List V} {ds : List D} {Q : VK} (ok : Ok K ca g S) (post : PostE K ca E g (.ok (.tup ds) S) Q) (r : RepAll K ca g.A g.F xs ds) (p : Addr) (hp : g.H p = none) : Q (.ref p) (upd g.H p (.tup xs)) :=
  post (.ref p) (g.frz p (.tup xs)) (ext_frz ok hp) (ok_frz ok hp) (.tup (SqT.of upd_same) (r.ext (ext_frz ok hp)))
theorem s_mul : OpS K ca E rMulA oMul := fun g S v w d e Q ok r1 r2 post => by
  unfold oMul at post
  split at post
  · split at post
    · rename_i h
      cases r1
      cases r2
      refine .inl ⟨_, _, rfl, rfl, ?_, PostE.here post ok (.int _)⟩
      rw [Bool.or_eq_true] at h
      rcases h with h | h
      · exact .inl (big_of h)
      · exact .inr (big_of h)
    · exact post.elim
  · rename_i xs k
    split at post
    · rename_i h
      rw [Bool.and_eq_true, Bool.and_eq_true, decide_eq_true_iff, decide_eq_true_iff, decide_eq_true_iff] at h
      cases r2
      cases r1 with
      | lst hs hr =>
        refine .inr ⟨_, k, _, rfl, rfl, ok.sub _ _ hs, ?_, ?_, ?_, fun p hp => ?_⟩
        · have := h.1.1
          omega
        · have := h.1.2
          omega
        · rw [hr.length]
          exact sz_of h.2
        · have z := new_lst ok post (flatten_rep hr k.toNat) p hp
          exact z
    · exact post.elim
  · exact post.elim
theorem s_fdiv : OpS K ca E (rI CDiv fun i j => .int (i / j)) oFdiv := fun g S v w d e Q ok r1 r2 post => by
  unfold oFdiv at post
  split at post
  · split at post
    · rename_i h
      rw [Bool.and_eq_true, decide_eq_true_iff, decide_eq_true_iff] at h
      cases r1
      cases r2
      exact ⟨_, _, rfl, rfl, h, PostE.here post ok (.int _)⟩
    · exact post.elim
  · exact post.elim
theorem s_mod : OpS K ca E (rI (fun _ j => 0 < j) fun i j => .int (i % j)) oMod := fun g S v w d e Q ok r1 r2 post => by
  unfold oMod at post
  split at post
  · split at post
    · rename_i h
      rw [decide_eq_true_iff] at h
      cases r1
      cases r2
      exact ⟨_, _, rfl, rfl, h, PostE.here post ok (.int _)⟩
    · exact post.elim
  · exact post.elim
theorem s_pow : OpS K ca E (rI CPow fun i j => .int (i ^ j.toNat)) oPow := fun g S v w d e Q ok r1 r2 post => by
  unfold oPow at post
  split at post
  · split at post
    · rename_i h
      rw [Bool.and_eq_true, Bool.and_eq_true, decide_eq_true_iff, decide_eq_true_iff] at h
      cases r1
      cases r2
      have b := big_of h.2
      refine ⟨_, _, rfl, rfl, ⟨h.1.1, by have := h.1.2; omega, ?_⟩, PostE.here post ok (.int _)⟩
      omega
    · exact post.elim
  · exact post.elim
theorem s_add : OpS K ca E rAddA oAdd := fun g S v w d e Q ok r1 r2 post => by
  unfold oAdd at post
  split at post
  · cases r1
    cases r2
    exact .inl ⟨_, _, rfl, rfl, PostE.here post ok (.int _)⟩
  · split at post
    · rename_i h
      cases r1 with
      | lst hs hr =>
        cases r2 with
        | lst hs' hr' =>
          refine .inr (.inl ⟨_, _, _, _, rfl, rfl, ok.sub _ _ hs, ok.sub _ _ hs', ?_, fun p hp => new_lst ok post (hr.append hr') p hp⟩)
          rw [hr.length, hr'.length]
          exact sz_of h
    · exact post.elim
  · split at post
    · rename_i h
      cases r1
      cases r2
      exact .inr (.inr ⟨_, _, rfl, rfl, sz_of h, PostE.here post ok (.str _)⟩)
    · exact post.elim
  · exact post.elim
theorem s_neg : UnS K ca E (rU fun i => .int (-i)) oNeg := fun g S v d Q ok r1 post => by
  unfold oNeg at post
  split at post
  · cases r1
    exact ⟨_, rfl, PostE.here post ok (.int _)⟩
  · exact post.elim
theorem Rep.isNon {A : List Addr} {F : Hp} {v : V} {d : D} (r : Rep K ca A F v d) : decide (v = .non) = isNon d := by
  cases r <;> first | rfl | exact decide_eq_false (fun z => nomatch z)
theorem s_is : OpS K ca E rIsA oIs := fun g S v w d e Q ok r1 r2 post => by
  unfold oIs at post
  split at post
  · cases r1
    cases r2
    exact .inr ⟨_, _, rfl, rfl, PostE.here post ok (.bl _)⟩
  · cases r2
    refine .inl ⟨rfl, ?_⟩
    rw [r1.isNon]
    exact PostE.here post ok (.bl _)
  · exact post.elim
theorem s_isnt : OpS K ca E rIsntA oIsnt := fun g S v w d e Q ok r1 r2 post => by
  unfold oIsnt at post
  split at post
  · cases r1
    cases r2
    exact .inr ⟨_, _, rfl, rfl, PostE.here post ok (.bl _)⟩
  · cases r2
    refine .inl ⟨rfl, ?_⟩
    rw [r1.isNon]
    exact PostE.here post ok (.bl _)
  · exact post.elim
end
def flatD : D → Bool
  | .non => true
  | .bl _ => true
  | .int _ => true
  | .str _ => true
  | _ => false
def one? (x : Str) : Option Nat := match x.cps.toList with
  | [c] => some c
  | _ => none
theorem one?_some {x : Str} {c : Nat} (h : one? x = some c) : x = ⟨#[c]⟩ := by
  obtain ⟨⟨l⟩⟩ := x
  unfold one? at h
  split at h
  · rename_i c' e
    cases h
    have e' : l = [c] := e
    rw [e']
  · cases h
/-- x in a list or tuple -/
def inD (x : D) (ds : List D) : Bool := ds.any fun y => eqD y x
def oIn (neg : Bool) : D2 := fun d e S => match e with
  | .tup ds => if flatD d && ds.all flatD then .ok (.bl (if neg then !inD d ds else inD d ds)) S else .bad
  | .lst ds => if flatD d && ds.all flatD then .ok (.bl (if neg then !inD d ds else inD d ds)) S
    else if okD 5 d && ds.all (okD 5) then .ok (.bl (if neg then !inD d ds else inD d ds)) S else .bad
  | .str t => match d with
    | .str x => match one? x with
      | some c => .ok (.bl (if neg then !decide (c ∈ t.cps.toList) else decide (c ∈ t.cps.toList))) S
      | none => .bad
    | _ => .bad
  | _ => .bad
def rInS (neg : Bool) : R2 := fun x y H Q => ∃ (c : Nat) (z : Str), x = .str ⟨#[c]⟩ ∧ y = .str z ∧ Q (.bl (if neg then !decide (c ∈ z.cps.toList) else decide (c ∈ z.cps.toList))) H
section
variable {X : Cx} {ca : Nat → Addr} {E : XK} {K : PySem.W.Frag}
theorem op_inA (hu : X.A.units + 65 < cLine) : OpR X (compareOp .In) (fun x y H Q => rIn X.K false x y H Q ∨ (rInD X.K x y H Q ∨ rInS false x y H Q)) := OpR.or op_in_seq (OpR.or (op_inD hu) op_in_sign)
theorem op_notInA (hu : X.A.units + 65 < cLine) : OpR X (compareOp .NotIn) (fun x y H Q => rIn X.K true x y H Q ∨ (rNotInD X.K x y H Q ∨ rInS true x y H Q)) := OpR.or op_notIn_seq (OpR.or (op_notInD hu) op_notIn_sign)
theorem Rep.flat {A : List Addr} {F : Hp} {v : V} {d : D} (r : Rep K ca A F v d) (h : flatD d = true) : flatV v = true := by
  cases r <;> first | rfl | cases h
theorem Rep.eqV {A : List Addr} {F : Hp} {v w : V} {d e : D} (r : Rep K ca A F v d) (q : Rep K ca A F w e) (h : flatD d = true) (h' : flatD e = true) : L2.eqV v w = eqD d e := by
  cases r <;> first
    | (cases h; done)
    | (cases q <;> first | (cases h'; done) | (simp [L2.eqV, eqD]; done))
theorem RepAll.flat {A : List Addr} {F : Hp} : ∀ {vs : List V} {ds : List D}, RepAll K ca A F vs ds → ds.all flatD = true → vs.all flatV = true
  | _, _, .nil, _ => rfl
  | _, _, .cons r t, h => by
    rw [List.all_cons, Bool.and_eq_true] at h
    rw [List.all_cons, r.flat h.1, RepAll.flat t h.2] <;> rfl
theorem RepAll.inV {A : List Addr} {F : Hp} {w : V} {e : D} (q : Rep K ca A F w e) (h' : flatD e = true) : ∀ {vs : List V} {ds : List D}, RepAll K ca A F vs ds → ds.all flatD = true → L2.inV w vs = inD e ds
  | _, _, .nil, _ => rfl
  | _, _, .cons (v := v) (vs := vs) (d := d) (ds := ds) r t, h => by
    rw [List.all_cons, Bool.and_eq_true] at h
    have ih := RepAll.inV q h' t h.2
    unfold L2.inV inD at *
    rw [List.any_cons, List.any_cons, ih, r.eqV q h.1 h']
theorem inD_py {e : D} (h' : okD 5 e = true) : ∀ (ds : List D), ds.all (okD 5) = true → ((pyAll ds).any fun z => PyData.eqv z e.py) = inD e ds
  | [], _ => rfl
  | d :: ds, h => by
    rw [List.all_cons, Bool.and_eq_true] at h
    have ih := inD_py h' ds h.2
    unfold inD at *
    rw [pyAll, List.any_cons, List.any_cons, ih, eqD_py 5 d e h.1 h']
theorem s_in : OpS K ca E (fun x y H Q => rIn K false x y H Q ∨ (rInD K x y H Q ∨ rInS false x y H Q)) (oIn false) := fun g S v w d e Q ok r1 r2 post => by
  unfold oIn at post
  split at post
  · split at post
    · rename_i ds h
      rw [Bool.and_eq_true] at h
      cases r2 with
      | tup hs hr =>
        refine .inl ⟨_, _, rfl, .inr (same_t ok.sub hs), r1.flat h.1, hr.flat h.2, ?_⟩
        rw [RepAll.inV r1 h.1 hr h.2]
        exact PostE.here post ok (.bl _)
    · exact post.elim
  · rename_i ds
    split at post
    · rename_i h
      rw [Bool.and_eq_true] at h
      cases r2 with
      | lst hs hr =>
        refine .inl ⟨_, _, rfl, .inl (SqL.of (ok.sub _ _ hs)), r1.flat h.1, hr.flat h.2, ?_⟩
        rw [RepAll.inV r1 h.1 hr h.2]
        exact PostE.here post ok (.bl _)
    · split at post
      · rename_i h
        rw [Bool.and_eq_true] at h
        refine .inr (.inl ⟨d.py, pyAll ds, Rep.dp ok.sub 5 d v h.1 r1, Rep.dp ok.sub 6 (.lst ds) w h.2 r2, okD_shaped (by decide) h.1, okD_shaped (n := 6) (by decide) (d := .lst ds) h.2, ?_⟩)
        rw [inD_py h.1 ds h.2]
        exact PostE.here post ok (.bl _)
      · exact post.elim
  · split at post
    · split at post
      · rename_i h
        rw [one?_some h] at r1
        cases r1
        cases r2
        exact .inr (.inr ⟨_, _, rfl, rfl, PostE.here post ok (.bl _)⟩)
      · exact post.elim
    · exact post.elim
  · exact post.elim
theorem s_notIn : OpS K ca E (fun x y H Q => rIn K true x y H Q ∨ (rNotInD K x y H Q ∨ rInS true x y H Q)) (oIn true) := fun g S v w d e Q ok r1 r2 post => by
  unfold oIn at post
  split at post
  · split at post
    · rename_i ds h
      rw [Bool.and_eq_true] at h
      cases r2 with
      | tup hs hr =>
        refine .inl ⟨_, _, rfl, .inr (same_t ok.sub hs), r1.flat h.1, hr.flat h.2, ?_⟩
        rw [RepAll.inV r1 h.1 hr h.2]
        exact PostE.here post ok (.bl _)
    · exact post.elim
  · rename_i ds
    split at post
    · rename_i h
      rw [Bool.and_eq_true] at h
      cases r2 with
      | lst hs hr =>
        refine .inl ⟨_, _, rfl, .inl (SqL.of (ok.sub _ _ hs)), r1.flat h.1, hr.flat h.2, ?_⟩
        rw [RepAll.inV r1 h.1 hr h.2]
        exact PostE.here post ok (.bl _)
    · split at post
      · rename_i h
        rw [Bool.and_eq_true] at h
        refine .inr (.inl ⟨d.py, pyAll ds, Rep.dp ok.sub 5 d v h.1 r1, Rep.dp ok.sub 6 (.lst ds) w h.2 r2, okD_shaped (by decide) h.1, okD_shaped (n := 6) (by decide) (d := .lst ds) h.2, ?_⟩)
        rw [inD_py h.1 ds h.2]
        exact PostE.here post ok (.bl _)
      · exact post.elim
  · split at post
    · split at post
      · rename_i h
        rw [one?_some h] at r1
        cases r1
        cases r2
        exact .inr (.inr ⟨_, _, rfl, rfl, PostE.here post ok (.bl _)⟩)
      · exact post.elim
    · exact post.elim
  · exact post.elim
end
abbrev DC := List D → Store → Out
def CallS (K : PySem.W.Frag) (ca : Nat → Addr) (E : XK) (r : List V → Hp → VK → Prop) (o : DC) : Prop :=
  ∀ g S vs ds Q, Ok K ca g S → RepAll K ca g.A g.F vs ds → PostE K ca E g (o ds S) Q → r vs g.H Q
section
variable {X : Cx} {ca : Nat → Addr} {E : XK} {a : Expr} {es : List Expr} {fr : DA} {n : Nat} {x : Str} {p pos : Pos} {id T : String} {r : List V → Hp → VK → Prop} {o : DC}
theorem rd_call (hr : CallS X.K ca E r o) (σ : L2.St) (H : Hp) (Q : VK) (q : rdE X.K ca E (eCall o fr) σ H Q) : tCB r (rdA X.K ca n E fr) σ H Q := by
  obtain ⟨g0, g, ρ, S, rfl, ok, env, post⟩ := q
  refine ⟨g0, g, ρ, S, rfl, ok, env, PostE.bindL post fun ds S1 vs g1 e1 ok1 r1 hl post1 => ?_⟩
  exact hr g1 S1 vs ds Q ok1 r1 post1
theorem ge_callB (hc : CallR X (.builtin id) r) (hr : CallS X.K ca E r o) (hg : Gl X x) (hm : X.mg x = none) (hv : bootBuiltins x = some (.builtin id)) (ha : PA X (a :: es) (rdA X.K ca n E fr)) (hn : x ≠ "__name__" := by decide) (hdb : (x == ("__debug__" : Str)) = false := by decide)
    (he : starEach (a :: es) X.env = (false, eval a X.env) :: starEach es X.env := by rfl) (hpl : (backTo pos (starEach es X.env)).any (·.1) = false := by rfl) : PE X (.Call (.Name x p) (a :: es) [] pos) (rdE X.K ca E (eCall o fr)) :=
  wkE (pe_callB hc hg hm hv ha hn hdb he hpl) (rd_call hr)
theorem ge_callTy (hc : CallR X (.type T) r) (hr : CallS X.K ca E r o) (hg : Gl X x) (hm : X.mg x = none) (hv : bootBuiltins x = some (.type T)) (ha : PA X (a :: es) (rdA X.K ca n E fr)) (hn : x ≠ "__name__" := by decide) (hdb : (x == ("__debug__" : Str)) = false := by decide)
    (he : starEach (a :: es) X.env = (false, eval a X.env) :: starEach es X.env := by rfl) (hpl : (backTo pos (starEach es X.env)).any (·.1) = false := by rfl) : PE X (.Call (.Name x p) (a :: es) [] pos) (rdE X.K ca E (eCall o fr)) :=
  wkE (pe_callTy hc hg hm hv ha hn hdb he hpl) (rd_call hr)
end
def oLen : DC := fun ds S => match ds with
  | [.lst xs] => .ok (.int xs.length) S
  | [.tup xs] => .ok (.int xs.length) S
  | [.str x] => if x.length ≤ 100000 then .ok (.int x.length) S else .bad
  | [.obj n] => match S[n]? with
    | some (.lst xs) => .ok (.int xs.length) S
    | _ => .bad
  | _ => .bad
def oAbs : DC := fun ds S => match ds with
  | [.int i] => .ok (.int (if i < 0 then -i else i)) S
  | _ => .bad
def asInts : List D → Option (List Int)
  | [] => some []
  | .int i :: ds => (asInts ds).map (i :: ·)
  | _ :: _ => none
def asBls : List D → Option (List Bool)
  | [] => some []
  | .bl i :: ds => (asBls ds).map (i :: ·)
  | _ :: _ => none
theorem asInts_some : ∀ {ds : List D} {ns : List Int}, asInts ds = some ns → ds = ns.map D.int
  | [], ns, h => by cases h; rfl
  | .int i :: ds, ns, h => by
    unfold asInts at h
    cases q : asInts ds with
    | none => rw [q] at h; cases h
    | some ms =>
      rw [q] at h
      cases h
      rw [asInts_some q] <;> rfl
  | .non :: _, _, h => by cases h
  | .bl _ :: _, _, h => by cases h
  | .str _ :: _, _, h => by cases h
  | .lst _ :: _, _, h => by cases h
  | .tup _ :: _, _, h => by cases h
  | .obj _ :: _, _, h => by cases h
  | .exc _ :: _, _, h => by cases h
  | .fls _ :: _, _, h => by cases h
theorem asBls_some : ∀ {ds : List D} {ns : List Bool}, asBls ds = some ns → ds = ns.map D.bl
  | [], ns, h => by cases h; rfl
  | .bl i :: ds, ns, h => by
    unfold asBls at h
    cases q : asBls ds with
    | none => rw [q] at h; cases h
    | some ms =>
      rw [q] at h
      cases h
      rw [asBls_some q] <;> rfl
  | .non :: _, _, h => by cases h
  | .int _ :: _, _, h => by cases h
  | .str _ :: _, _, h => by cases h
  | .lst _ :: _, _, h => by cases h
  | .tup _ :: _, _, h => by cases h
  | .obj _ :: _, _, h => by cases h
  | .exc _ :: _, _, h => by cases h
  | .fls _ :: _, _, h => by cases h
def oSum : DC := fun ds S => match ds with
  | [.lst xs] => match asInts xs with
    | some ns => .ok (.int ns.sum) S
    | none => .bad
  | _ => .bad
def oAll : DC := fun ds S => match ds with
  | [.lst xs] => match asBls xs with
    | some bs => .ok (.bl (bs.all id)) S
    | none => .bad
  | _ => .bad
def oList : DC := fun ds S => match ds with
  | [.lst xs] => .ok (.lst xs) S
  | [.tup xs] => .ok (.lst xs) S
  | [.fls xs] => .ok (.lst xs) S
  | [.obj n] => match S[n]? with
    | some (.lst xs) => .ok (.lst xs) S
    | _ => .bad
  | _ => .bad
def oTuple : DC := fun ds S => match ds with
  | [.lst xs] => .ok (.tup xs) S
  | [.tup xs] => .ok (.tup xs) S
  | _ => .bad
/-- ints in order -/
def insI (x : Int) : List Int → List Int
  | [] => [x]
  | y :: ys => if x ≤ y then x :: y :: ys else y :: insI x ys
def sortI : List Int → List Int
  | [] => []
  | x :: xs => insI x (sortI xs)
def oSorted : DC := fun ds S => match ds with
  | [.lst xs] => match asInts xs with
    | some ns => if ns.length < 64 then .ok (.lst ((sortI ns).map D.int)) S else .bad
    | none => .bad
  | _ => .bad
theorem insI_perm (x : Int) : ∀ (l : List Int), (insI x l).Perm (x :: l)
  | [] => List.Perm.refl _
  | y :: ys => by
    unfold insI
    split
    · exact List.Perm.refl _
    · exact ((insI_perm x ys).cons y).trans (List.Perm.swap x y ys)
theorem sortI_perm : ∀ (l : List Int), (sortI l).Perm l
  | [] => List.Perm.refl _
  | x :: xs => (insI_perm x (sortI xs)).trans ((sortI_perm xs).cons x)
theorem insI_sorted (x : Int) : ∀ (l : List Int), l.Pairwise (· ≤ ·) → (insI x l).Pairwise (· ≤ ·)
  | [], _ => by simp [insI]
  | y :: ys, h => by
    rw [List.pairwise_cons] at h
    unfold insI
    split
    · rename_i hx
      rw [List.pairwise_cons]
      refine ⟨fun z hz => ?_, by rw [List.pairwise_cons]; exact h⟩
      rcases List.mem_cons.mp hz with rfl | hz
      · exact hx
      · exact Int.le_trans hx (h.1 z hz)
    · rename_i hx
      rw [List.pairwise_cons]
      refine ⟨fun z hz => ?_, insI_sorted x ys h.2⟩
      rcases List.mem_cons.mp ((insI_perm x ys).mem_iff.mp hz) with rfl | hz
      · omega
      · exact h.1 z hz
theorem sortI_sorted : ∀ (l : List Int), (sortI l).Pairwise (· ≤ ·)
  | [] => List.Pairwise.nil
  | x :: xs => insI_sorted x _ (sortI_sorted xs)
theorem sortI_unique {l l' : List Int} (hp : l'.Perm l) (hs : l'.Pairwise (· ≤ ·)) : l' = sortI l :=
  List.Perm.eq_of_pairwise (fun a b _ _ h1 h2 => Int.le_antisymm h1 h2) hs (sortI_sorted l) (hp.trans (sortI_perm l).symm)
section
variable {ca : Nat → Addr} {E : XK} {K : PySem.W.Frag}
theorem c_len : CallS K ca E (fun xs H Q => ∃ x n, xs = [x] ∧ LenV K x H n ∧ Q (.int n) H) oLen := fun g S vs ds Q ok r post => by
  unfold oLen at post
  split at post
  · cases r with
    | cons r1 r2 =>
      cases r2
      cases r1 with
      | lst hs hr => exact ⟨_, _, rfl, .inl ⟨_, SqL.of (ok.sub _ _ hs), rfl⟩, by rw [hr.length]; exact PostE.here post ok (.int _)⟩
  · cases r with
    | cons r1 r2 =>
      cases r2
      cases r1 with
      | tup hs hr => exact ⟨_, _, rfl, .inr ⟨_, same_t ok.sub hs, rfl⟩, by rw [hr.length]; exact PostE.here post ok (.int _)⟩
  · split at post
    · rename_i h
      cases r with
      | cons r1 r2 =>
        cases r2
        cases r1
        exact ⟨_, _, rfl, ⟨sz_of h, rfl⟩, PostE.here post ok (.int _)⟩
    · exact post.elim
  · split at post
    · rename_i n xs hS
      cases r with
      | cons r1 r2 =>
        cases r2
        cases r1 with
        | obj hA =>
          obtain ⟨a', ho, e1, e2, e3⟩ := ok.ob _ _ hS
          rw [hA] at e1
          cases e1
          cases ho with
          | lst ys => exact ⟨_, _, rfl, .inl ⟨_, SqL.of e2, rfl⟩, by rw [RepAll.length (K := K) (ca := ca) e3]; exact PostE.here post ok (.int _)⟩
          | _ => exact e3.elim
    · exact post.elim
  · exact post.elim
theorem c_abs : CallS K ca E (fun xs H Q => ∃ i, xs = [.int i] ∧ Q (.int (if i < 0 then -i else i)) H) oAbs := fun g S vs ds Q ok r post => by
  unfold oAbs at post
  split at post
  · cases r with
    | cons r1 r2 =>
      cases r2
      cases r1
      exact ⟨_, rfl, PostE.here post ok (.int _)⟩
  · exact post.elim
theorem c_sum : CallS K ca E (rSum K) oSum := fun g S vs ds Q ok r post => by
  unfold oSum at post
  split at post
  · split at post
    · rename_i xs ns h
      have e := asInts_some h
      subst e
      cases r with
      | cons r1 r2 =>
        cases r2
        cases r1 with
        | lst hs hr =>
          have e := hr.ints
          subst e
          exact ⟨_, ns, rfl, SqL.of (ok.sub _ _ hs), PostE.here post ok (.int _)⟩
    · exact post.elim
  · exact post.elim
theorem c_all : CallS K ca E (rAll K) oAll := fun g S vs ds Q ok r post => by
  unfold oAll at post
  split at post
  · split at post
    · rename_i xs ns h
      have e := asBls_some h
      subst e
      cases r with
      | cons r1 r2 =>
        cases r2
        cases r1 with
        | lst hs hr =>
          have e := hr.bls
          subst e
          exact ⟨_, ns, rfl, SqL.of (ok.sub _ _ hs), PostE.here post ok (.bl _)⟩
    · exact post.elim
  · exact post.elim
theorem c_tuple : CallS K ca E (fun xs H Q => ∃ p ys, xs = [.ref p] ∧ ((SqL K H p ys ∧ ∀ l, H l = none → Q (.ref l) (upd H l (.tup ys))) ∨ (SqT K H p ys ∧ Q (.ref p) H))) oTuple := fun g S vs ds Q ok r post => by
  unfold oTuple at post
  split at post
  · cases r with
    | cons r1 r2 =>
      cases r2
      cases r1 with
      | lst hs hr => exact ⟨_, _, rfl, .inl ⟨SqL.of (ok.sub _ _ hs), fun p hp => new_tup ok post hr p hp⟩⟩
  · cases r with
    | cons r1 r2 =>
      cases r2
      cases r1 with
      | tup hs hr => exact ⟨_, _, rfl, .inr ⟨same_t ok.sub hs, PostE.here post ok (.tup hs hr)⟩⟩
  · exact post.elim
theorem c_sorted : CallS K ca E (rSorted K) oSorted := fun g S vs ds Q ok r post => by
  unfold oSorted at post
  split at post
  · split at post
    · rename_i xs ns h
      split at post
      · rename_i hl
        have e := asInts_some h
        subst e
        cases r with
        | cons r1 r2 =>
          cases r2
          cases r1 with
          | lst hs hr =>
            have e := hr.ints
            subst e
            refine ⟨_, ns, rfl, SqL.of (ok.sub _ _ hs), hl, fun ns' p hp hs' hn => ?_⟩
            rw [sortI_unique hp hs']
            exact new_lst ok post (RepAll.ofInts _) p hn
      · exact post.elim
    · exact post.elim
  · exact post.elim
end
end DL
set_option Elab.async false
set_option linter.all false
set_option maxRecDepth 100000
set_option maxHeartbeats 1000000
namespace DL
open PySem PySem.Spec PyProof.Rows L2
section
variable {X : Cx} {ca : Nat → Addr} {E : XK} {a b c : Expr} {fa fb fc : DE} {pos : Pos}
theorem rd_chain {r r' : R2} {o o' : D2} (h1 : OpS X.K ca E r o) (h2 : OpS X.K ca E r' o') (σ : L2.St) (H : Hp) (Q : VK) (q : rdE X.K ca E (eChain o o' fa fb fc) σ H Q) : tChain r r' (rdE X.K ca E fa) (rdE X.K ca E fb) (rdE X.K ca E fc) σ H Q := by
  obtain ⟨g0, g, ρ, S, rfl, ok, env, post⟩ := q
  refine ⟨g0, g, ρ, S, rfl, ok, env, PostE.bind post fun d1 S1 v1 g1 e1 ok1 r1 post1 => ?_⟩
  refine ⟨g0, g1, ρ, S1, rfl, ok1, env.ext e1, PostE.bind post1 fun d2 S2 v2 g2 e2 ok2 r2 post2 => ?_⟩
  refine h1 g2 S2 v1 v2 d1 d2 _ ok2 (r1.ext e2) r2 (PostE.bind post2 fun d3 S3 v3 g3 e3 ok3 r3 post3 => ?_)
  cases r3 with
  | bl k =>
    refine ⟨k, rfl, ?_⟩
    cases k with
    | false => exact iteF (PostE.here post3 ok3 (.bl false))
    | true =>
      refine iteT ⟨g0, g3, ρ, S3, rfl, ok3, ((env.ext e1).ext e2).ext e3, PostE.bind post3 fun d4 S4 v4 g4 e4 ok4 r4 post4 => ?_⟩
      exact h2 g4 S4 v2 v4 d2 d4 Q ok4 ((r2.ext e3).ext e4) r4 post4
  | _ => exact post3.elim
theorem ge_chain {op op' : CmpOp} {r r' : R2} {o o' : D2} (ho : OpR X (compareOp op) r) (h1 : OpS X.K ca E r o) (ho' : OpR X (compareOp op') r') (h2 : OpS X.K ca E r' o') (ha : PE X a (rdE X.K ca E fa)) (hb : PE X b (rdE X.K ca E fb)) (hc : PE X c (rdE X.K ca E fc))
    (hm : lastMarks [op, op'] [b, c] = false := by with_unfolding_all rfl) : PE X (.Compare a [op, op'] [b, c] pos) (rdE X.K ca E (eChain o o' fa fb fc)) := wkE (pe_chain ho ho' ha hb hc hm) (rd_chain h1 h2)
theorem gt_chain {op op' : CmpOp} {r r' : R2} {o o' : D2} (ho : OpR X (compareOp op) r) (h1 : OpS X.K ca E r o) (ho' : OpR X (compareOp op') r') (h2 : OpS X.K ca E r' o') (ha : PE X a (rdE X.K ca E fa)) (hb : PE X b (rdE X.K ca E fb)) (hc : PE X c (rdE X.K ca E fc))
    (hm : lastMarks [op, op'] [b, c] = false := by with_unfolding_all rfl) : PT X (.Compare a [op, op'] [b, c] pos) (rdT X.K ca E (eChain o o' fa fb fc)) :=
  wkT (pt_chain ho ho' ha hb hc hm) fun σ H Q q => rd_chain h1 h2 σ H _ (rd_test σ H Q q)
end
def viewL (S : Store) : D → Option (List D)
  | .lst xs => some xs
  | .tup xs => some xs
  | .obj n => match S[n]? with
    | some (.lst xs) => some xs
    | _ => none
  | _ => none
def oIx : D2 := fun d e S => match e with
  | .int i => match d with
    | .str x => if x.length ≤ 100000 then match atI x.cps.toList i with
        | some c => .ok (.str ⟨#[c]⟩) S
        | none => .bad
      else .bad
    | d => match viewL S d with
      | some xs => match atI xs i with
        | some y => .ok y S
        | none => .bad
      | none => .bad
  | _ => .bad
section
variable {X : Cx} {ca : Nat → Addr} {E : XK} {a b : Expr} {fa fb : DE} {pos : Pos} {K : PySem.W.Frag}
theorem RepAll.atI {A : List Addr} {F : Hp} {xs : List V} {ds : List D} {i : Int} {d : D} (r : RepAll K ca A F xs ds) (h : L2.atI ds i = some d) : ∃ v, L2.atI xs i = some v ∧ Rep K ca A F v d := by
  unfold L2.atI at *
  rw [r.length]
  cases q : ixN ds.length i with
  | none => rw [q] at h; cases h
  | some j =>
    rw [q] at h
    exact r.get' h
theorem view_sq {g : G} {S : Store} {v : V} {d : D} {ds : List D} (ok : Ok K ca g S) (r : RepG K ca g v d) (h : viewL S d = some ds) : ∃ a xs, v = .ref a ∧ (SqL K g.H a xs ∨ SqT K g.H a xs) ∧ RepAll K ca g.A g.F xs ds := by
  cases r with
  | lst hs hr =>
    cases h
    exact ⟨_, _, rfl, .inl (SqL.of (ok.sub _ _ hs)), hr⟩
  | tup hs hr =>
    cases h
    exact ⟨_, _, rfl, .inr (same_t ok.sub hs), hr⟩
  | obj hA =>
    unfold viewL at h
    dsimp only at h
    split at h
    · rename_i xs hS
      cases h
      obtain ⟨a', ho, e1, e2, e3⟩ := ok.ob _ _ hS
      rw [hA] at e1
      cases e1
      cases ho with
      | lst ys => exact ⟨_, ys, rfl, .inl (SqL.of e2), e3⟩
      | _ => exact e3.elim
    · cases h
  | _ => cases h
theorem s_ix : OpS K ca E (rIx K) oIx := fun g S v w d e Q ok r1 r2 post => by
  unfold oIx at post
  split at post
  · rename_i i
    cases r2
    split at post
    · split at post
      · rename_i h
        split at post
        · rename_i c hc
          cases r1
          exact .inr (.inr ⟨_, _, c, rfl, rfl, sz_of h, hc, PostE.here post ok (.str _)⟩)
        · exact post.elim
      · exact post.elim
    · split at post
      · rename_i xs hv
        split at post
        · rename_i y hy
          obtain ⟨a, vs, rfl, hs, hr⟩ := view_sq ok r1 hv
          obtain ⟨z, hz, rz⟩ := hr.atI hy
          rcases hs with hs | hs
          · exact .inl ⟨a, vs, i, z, rfl, rfl, hs, hz, PostE.here post ok rz⟩
          · exact .inr (.inl ⟨a, vs, i, z, rfl, rfl, hs, hz, PostE.here post ok rz⟩)
        · exact post.elim
      · exact post.elim
  · exact post.elim
theorem ge_ix (ha : PE X a (rdE X.K ca E fa)) (hb : PE X b (rdE X.K ca E fb)) (hs : PlainIx b) : PE X (.Subscript a b pos) (rdE X.K ca E (eBin oIx fa fb)) := wkE (pe_ix ix_seq ha hb hs) (rd_bin s_ix)
end
def cutD (xs : List D) (lo hi : Option Int) : List D := (xs.drop (HT.sIx xs.length 0 lo)).take (HT.sIx xs.length xs.length hi - HT.sIx xs.length 0 lo)
inductive OutO where
  | ok (o : Option Int) (S : Store)
  | exc (c : Nat) (S : Store)
  | bad
abbrev DO := DEnv → Store → OutO
def pNo : DO := fun _ S => .ok none S
def pSome (f : DE) : DO := fun ρ S => match f ρ S with
  | .ok (.int i) S1 => .ok (some i) S1
  | .exc c S1 => .exc c S1
  | _ => .bad
def OutO.bind (o : OutO) (k : Option Int → Store → Out) : Out := match o with
  | .ok d S => k d S
  | .exc c S => .exc c S
  | .bad => .bad
def oSl (d : D) (lo hi : Option Int) (S : Store) : Out := match d with
  | .lst xs => .ok (.lst (cutD xs lo hi)) S
  | .str x => if x.length ≤ 100000 then .ok (.str (cutS x lo hi)) S else .bad
  | _ => .bad
def eSl (f : DE) (l h : DO) : DE := fun ρ S => (f ρ S).bind fun d S1 => (l ρ S1).bind fun lo S2 => (h ρ S2).bind fun hi S3 => oSl d lo hi S3
def oRev : D1 := fun d S => match d with
  | .lst xs => .ok (.lst xs.reverse) S
  | _ => .bad
section
variable (K : PySem.W.Frag) (ca : Nat → Addr)
def PostO (E : XK) (g : G) (o : OutO) (Q : Option Int → Hp → Prop) : Prop := match o with
  | .ok i S => ∀ g', Ext g g' → Ok K ca g' S → Q i g'.H
  | .exc c S => ∀ g', Ext g g' → Ok K ca g' S → E (.ref (ca c)) none g'.H
  | .bad => False
def rdO (E : XK) (f : DO) : TO := fun σ H Q => ∃ g0 g ρ S, g.H = H ∧ Ok K ca g S ∧ EnvR K ca g0 g σ ρ ∧ PostO K ca E g (f ρ S) Q
end
section
variable {X : Cx} {ca : Nat → Addr} {E : XK} {e : Expr} {f : DE} {fl fh : DO} {lo hi : Option Expr} {pos p2 : Pos} {K : PySem.W.Frag}
theorem wkO {t t' : TO} (h : PO X lo t) (k : ∀ σ H Q, t' σ H Q → t σ H Q) : PO X lo t' := ⟨fun pins s σ H Q I q => h.run pins s σ H Q I (k σ H Q q)⟩
theorem go_none : PO X none (rdO X.K ca E pNo) := wkO po_none fun σ H Q q => by
  obtain ⟨g0, g, ρ, S, rfl, ok, env, post⟩ := q
  exact post g (Ext.refl g) ok
theorem go_some (h : PE X e (rdE X.K ca E f)) : PO X (some e) (rdO X.K ca E (pSome f)) := wkO (po_some h) fun σ H Q q => by
  obtain ⟨g0, g, ρ, S, rfl, ok, env, post⟩ := q
  refine ⟨g0, g, ρ, S, rfl, ok, env, ?_⟩
  unfold pSome at post
  cases q : f ρ S with
  | bad => rw [q] at post; exact post
  | exc c S1 => rw [q] at post; exact post
  | ok d S1 =>
    rw [q] at post
    cases d with
    | int i =>
      intro v g1 e1 ok1 r1
      cases r1
      exact ⟨i, rfl, post g1 e1 ok1⟩
    | _ => exact post.elim
theorem PostE.bindO {g : G} {o : OutO} {k : Option Int → Store → Out} {Q : VK} {R : Option Int → Hp → Prop} (h : PostE K ca E g (o.bind k) Q)
    (hk : ∀ i S g', Ext g g' → Ok K ca g' S → PostE K ca E g' (k i S) Q → R i g'.H) : PostO K ca E g o R := by
  cases o with
  | ok d S => exact fun g' a b => hk d S g' a b (PostE.ext a h)
  | exc c S => exact h
  | bad => exact h
theorem RepAll.cut {A : List Addr} {F : Hp} {xs : List V} {ds : List D} (r : RepAll K ca A F xs ds) (l h : Option Int) : RepAll K ca A F (cutV xs l h) (cutD ds l h) := by
  unfold cutV cutD
  rw [r.length]
  exact (r.drop _).take _
theorem ge_slice (he : PE X e (rdE X.K ca E f)) (hl : PO X lo (rdO X.K ca E fl)) (hh : PO X hi (rdO X.K ca E fh)) : PE X (.Subscript e (.Slice lo hi none p2) pos) (rdE X.K ca E (eSl f fl fh)) :=
  wkE (pe_slice (SlR.or sl_list sl_str) he hl hh) fun σ H Q q => by
    obtain ⟨g0, g, ρ, S, rfl, ok, env, post⟩ := q
    refine ⟨g0, g, ρ, S, rfl, ok, env, PostE.bind post fun d1 S1 v1 g1 e1 ok1 r1 post1 => ?_⟩
    refine ⟨g0, g1, ρ, S1, rfl, ok1, env.ext e1, PostE.bindO post1 fun l S2 g2 e2 ok2 post2 => ?_⟩
    refine ⟨g0, g2, ρ, S2, rfl, ok2, (env.ext e1).ext e2, PostE.bindO post2 fun h S3 g3 e3 ok3 post3 => ?_⟩
    have r3 := (r1.ext e2).ext e3
    unfold oSl at post3
    split at post3
    · cases r3 with
      | lst hs hr => exact .inl ⟨_, _, rfl, SqL.of (ok3.sub _ _ hs), fun p hp => new_lst ok3 post3 (hr.cut l h) p hp⟩
    · split at post3
      · rename_i hz
        cases r3
        exact .inr ⟨_, rfl, sz_of hz, PostE.here post3 ok3 (.str _)⟩
      · exact post3.elim
    · exact post3.elim
theorem ge_rev {k : Nat} {p1 p3 p4 : Pos} (he : PE X e (rdE X.K ca E f)) : PE X (.Subscript e (.Slice none none (some (.UnaryOp .USub (.Constant (.int 1) k p1) p3)) p4) pos) (rdE X.K ca E (eUn oRev f)) := wkE (pe_revL he) fun σ H Q q => by
  obtain ⟨g0, g, ρ, S, rfl, ok, env, post⟩ := q
  refine ⟨g0, g, ρ, S, rfl, ok, env, PostE.bind post fun d1 S1 v1 g1 e1 ok1 r1 post1 => ?_⟩
  cases r1 with
  | lst hs hr => exact ⟨_, _, rfl, SqL.of (ok1.sub _ _ hs), fun p hp => new_lst ok1 post1 hr.reverse p hp⟩
  | _ => exact post1.elim
end
def tyD : D → Option String
  | .non => some "NoneType"
  | .bl _ => some "bool"
  | .int _ => some "int"
  | .str _ => some "str"
  | .lst _ => some "list"
  | .tup _ => some "tuple"
  | _ => none
def oIsi (T : String) : D1 := fun d S => match (tyD d).bind fun t => kitB t T with
  | some b => .ok (.bl b) S
  | none => match d with
    | .obj n => match S[n]? with
      | some (.lst _) => match kitB "list" T with
        | some b => .ok (.bl b) S
        | none => .bad
      | _ => .bad
    | _ => .bad
section
variable {X : Cx} {ca : Nat → Addr} {E : XK} {a : Expr} {fa : DE} {pos p p2 : Pos} {K : PySem.W.Frag}
theorem Rep.ty {g : G} {S : Store} {v : V} {d : D} {t : String} (ok : Ok K ca g S) (r : RepG K ca g v d) (h : tyD d = some t) : TyX K g.H v (.type t) := by
  cases r with
  | non => cases h; exact .base .non
  | bl b => cases h; exact .base (.bl b)
  | int i => cases h; exact .base (.int i)
  | str x => cases h; exact .base (.str x)
  | lst hs hr => cases h; exact .base (.lst (ok.sub _ _ hs))
  | tup hs hr =>
    cases h
    rcases hs with (hs | ⟨o, hs⟩) | ⟨o, its, n, h1, h2, h3, _⟩
    · exact .base (.tup (ok.sub _ _ hs))
    · exact .fTuple (ok.sub _ _ hs)
    · exact .kTuple h1 h2
  | _ => cases h
theorem ge_isi {T : String} {x : Str} (hg : Gl X "isinstance") (hm : X.mg "isinstance" = none) (hv : bootBuiltins "isinstance" = some (.builtin "isinstance")) (hgT : Gl X x) (hmT : X.mg x = none) (hvT : bootBuiltins x = some (.type T)) (ha : PE X a (rdE X.K ca E fa)) (hn : x ≠ "__name__" := by decide) (hdx : (x == ("__debug__" : Str)) = false := by decide)
    (h1 : starEach [a, .Name x p2] X.env = (false, eval a X.env) :: starEach [.Name x p2] X.env := by rfl) (h2 : starEach [.Name x p2] X.env = (false, eval (.Name x p2) X.env) :: starEach [] X.env := by rfl)
    (hpl : (backTo pos (starEach [.Name x p2] X.env)).any (·.1) = false := by rfl) : PE X (.Call (.Name "isinstance" p) [a, .Name x p2] [] pos) (rdE X.K ca E (eUn (oIsi T) fa)) :=
  wkE (pe_callB call_isi hg hm hv (pa_cons ha (pa_cons (pe_bltn (v := .ty T) hgT hmT hvT rfl hn hdx) pa_nil h2) h1) (by decide) (by decide) h1 hpl) fun σ H Q q => by
    obtain ⟨g0, g, ρ, S, rfl, ok, env, post⟩ := q
    refine ⟨g0, g, ρ, S, rfl, ok, env, PostE.bind post fun d1 S1 v1 g1 e1 ok1 r1 post1 => ?_⟩
    unfold oIsi at post1
    split at post1
    · rename_i b hb
      cases ht : tyD d1 with
      | none => rw [ht] at hb; cases hb
      | some t =>
        rw [ht] at hb
        exact ⟨v1, .ty T, .type t, .type T, b, rfl, .ty T, Rep.ty ok1 r1 ht, kit_ty hb, PostE.here post1 ok1 (.bl b)⟩
    · split at post1
      · split at post1
        · rename_i n xs hS
          split at post1
          · rename_i b hb
            cases r1 with
            | obj hA =>
              obtain ⟨a', ho, k1, k2, k3⟩ := ok1.ob _ _ hS
              rw [hA] at k1
              cases k1
              cases ho with
              | lst ys => exact ⟨_, .ty T, .type "list", .type T, b, rfl, .ty T, .base (.lst k2), kit_ty hb, PostE.here post1 ok1 (.bl b)⟩
              | _ => exact k3.elim
          · exact post1.elim
        · exact post1.elim
      · exact post1.elim
end
section
variable {X : Cx} {ca : Nat → Addr} {E : XK} {elt tg iter : Expr} {ifs : List Expr} {scope : Scope} {own : List (Str × Nat)} {pos spos : Pos} {f fc fe : DE} {t : DG} {gt : TG}
theorem wkTs {t t' : TT} (h : PTs X ifs t) (k : ∀ σ H Q, t' σ H Q → t σ H Q) : PTs X ifs t' := ⟨fun pins s σ H Q I q => h.run pins s σ H Q I (k σ H Q q)⟩
theorem gts_nil : PTs X [] (rdT X.K ca E eYes) := wkTs pts_nil fun σ H Q q => by
  obtain ⟨g0, g, ρ, S, rfl, ok, env, post⟩ := q
  obtain ⟨b, e, q⟩ := PostE.here post ok (.bl true)
  cases e
  exact q
theorem gts_one {c : Expr} (h : PT X c (rdT X.K ca E fc)) : PTs X [c] (rdT X.K ca E fc) := pts_one h
theorem gf_lc (hc : X.calm = true) (hN : X.N.Nodup) (hT : TgOk X.K ca (own.map (·.2)) gt t) (hi : PI X tg iter (rdI X.K ca E f)) (ok : BlkOk X.N X.env.scope scope own)
    (hg : ∀ (s : Shared) (H : Hp) (C : Addr) (cl : List (Str × Addr)) (fp : List Addr), PG (X.blk s H scope (compEnvC scope cl C X.env) fp) tg gt)
    (ht : ∀ (s : Shared) (H : Hp) (C : Addr) (cl : List (Str × Addr)) (fp : List Addr), PTs (X.blk s H scope (compEnvC scope cl C X.env) fp) ifs (rdT X.K ca E0 fc))
    (he : ∀ (s : Shared) (H : Hp) (C : Addr) (cl : List (Str × Addr)) (fp : List Addr), PE (X.blk s H scope (compEnvC scope cl C X.env) fp) elt (rdE X.K ca E0 fe)) (hs : ∀ x, foldedSetIterable iter X.env x = pure x := by intro _; rfl) :
    PE X (.ListComp elt [⟨tg, iter, ifs, 0⟩] scope pos) (rdF X.K ca E (eLc f t fc fe)) := wkE (pe_lc hc hN hi ok hg ht he hs) (rd_lc hT)
theorem eLc_is : ∀ ρ S d S', eLc f t fc fe ρ S = .ok d S' → ∃ ds, d = .lst ds := fun ρ S d S' h => by
  unfold eLc at h
  cases q : f ρ S with
  | bad => rw [q] at h; cases h
  | exc c S1 => rw [q] at h; cases h
  | ok d1 S1 =>
    rw [q] at h
    dsimp only [Out.bind] at h
    split at h
    · split at h
      · rename_i ds _
        unfold OutL.bind at h
        split at h
        · rename_i ys S2 _
          injection h with h1 h2
          exact ⟨ys, h1.symm⟩
        · cases h
        · cases h
      · cases h
    · cases h
theorem ge_lc (hc : X.calm = true) (hN : X.N.Nodup) (hT : TgOk X.K ca (own.map (·.2)) gt t) (hi : PI X tg iter (rdI X.K ca E f)) (ok : BlkOk X.N X.env.scope scope own)
    (hg : ∀ (s : Shared) (H : Hp) (C : Addr) (cl : List (Str × Addr)) (fp : List Addr), PG (X.blk s H scope (compEnvC scope cl C X.env) fp) tg gt)
    (ht : ∀ (s : Shared) (H : Hp) (C : Addr) (cl : List (Str × Addr)) (fp : List Addr), PTs (X.blk s H scope (compEnvC scope cl C X.env) fp) ifs (rdT X.K ca E0 fc))
    (he : ∀ (s : Shared) (H : Hp) (C : Addr) (cl : List (Str × Addr)) (fp : List Addr), PE (X.blk s H scope (compEnvC scope cl C X.env) fp) elt (rdE X.K ca E0 fe)) (hs : ∀ x, foldedSetIterable iter X.env x = pure x := by intro _; rfl) :
    PE X (.ListComp elt [⟨tg, iter, ifs, 0⟩] scope pos) (rdE X.K ca E (eLc f t fc fe)) := gf_ge (gf_lc hc hN hT hi ok hg ht he hs) eLc_is
theorem rd_setLc {i : Nat} (Dn : Ends) (σ : L2.St) (H : Hp) (q : rdS X.K ca E (sAsg f (tgName i)) Dn σ H) : tAsg (rdE X.K ca E f) (gName i) Dn σ H := by
  obtain ⟨g0, g, ρ, S, rfl, e0, ok, env, post⟩ := q
  refine ⟨g0, g, ρ, S, rfl, ok, env, PostS.bindE e0 post fun d S1 v g1 e1 ok1 r1 post1 => ?_⟩
  exact post1 _ g1 (e0.trans e1) (Grow.refl _) ok1 ((env.ext e1).set r1 i)
/-- name = [..] -/
theorem gs_setLc {i : Nat} {y : Str} {py : Pos} (hc : X.calm = true) (hN : X.N.Nodup) (hy : X.N[i]? = some y) (hyl : X.env.scope.names.lookup y = some .local)
    (hsw : swapsWith (.ListComp elt [⟨tg, iter, ifs, 0⟩] scope pos) (some (.Name y py)) spos.line X.env = pure true) (hT : TgOk X.K ca (own.map (·.2)) gt t) (hi : PI X tg iter (rdI X.K ca E f)) (ok : BlkOk X.N X.env.scope scope own)
    (hg : ∀ (s : Shared) (H : Hp) (C : Addr) (cl : List (Str × Addr)) (fp : List Addr), PG (X.blk s H scope (compEnvC scope cl C X.env) fp) tg gt)
    (ht : ∀ (s : Shared) (H : Hp) (C : Addr) (cl : List (Str × Addr)) (fp : List Addr), PTs (X.blk s H scope (compEnvC scope cl C X.env) fp) ifs (rdT X.K ca E0 fc))
    (he : ∀ (s : Shared) (H : Hp) (C : Addr) (cl : List (Str × Addr)) (fp : List Addr), PE (X.blk s H scope (compEnvC scope cl C X.env) fp) elt (rdE X.K ca E0 fe)) (hs : ∀ x, foldedSetIterable iter X.env x = pure x := by intro _; rfl) :
    PS X (.Assign [.Name y py] (.ListComp elt [⟨tg, iter, ifs, 0⟩] scope pos) spos) (rdS X.K ca E (sAsg (eLc f t fc fe) (tgName i))) :=
  wkS (ps_setLc hc hN hy hyl hsw hi ok hg ht he hs) fun Dn σ H q => by
    have z := rd_setLc Dn σ H q
    obtain ⟨g0, g, ρ, S, e, okk, env, post⟩ := z
    exact rd_lc hT σ H _ ⟨g0, g, ρ, S, e, okk, env, PostE.fresh post (eLc_is ρ S)⟩
end
end DL
set_option Elab.async false
set_option linter.all false
set_option maxRecDepth 100000
set_option maxHeartbeats 1000000
namespace DL
open PySem PySem.Spec PyProof.Rows L2
def oAddI : D2 := fun d e S => match d, e with
  | .int i, .int j => .ok (.int (i + j)) S
  | _, _ => .bad
def oMulI : D2 := fun d e S => match d, e with
  | .int i, .int j => if big i || big j then .ok (.int (i * j)) S else .bad
  | _, _ => .bad
def sAug (i : Nat) (o : D2) (f : DE) : DS := fun ρ S => match ρ[i]? with
  | some (.val x) => (f ρ S).bindS fun y S1 => (o x y S1).bindS fun z S2 => .nx (ρ.set i (.val z)) S2
  | _ => .bad
section
variable {X : Cx} {ca : Nat → Addr} {E : XK} {e : Expr} {f : DE} {pos pos' : Pos} {i : Nat} {x : Str}
theorem gs_aug {op : Operator} {r : R2} {o : D2} (ho : OpR X (inplaceOp op) r) (hr : OpS X.K ca E r o) (hN : X.N.Nodup) (hi : X.N[i]? = some x) (hx : Loc X.env.scope x) (he : PE X e (rdE X.K ca E f)) (hf : X.fn x = true ∨ X.env.scope.names.lookup x = some .local := by first | exact .inl rfl | exact .inr rfl | assumption) :
    PS X (.AugAssign (.Name x pos') op e pos) (rdS X.K ca E (sAug i o f)) := wkS (ps_aug (ti := r) hN hi hx he ho hf) fun Dn σ H q => by
  obtain ⟨g0, g, ρ, S, rfl, e0, ok, env, post⟩ := q
  unfold sAug at post
  split at post
  · rename_i d hd
    obtain ⟨v, hv, rv⟩ := env.val i d hd
    refine ⟨v, hv, g0, g, ρ, S, rfl, ok, env, PostS.bindE e0 post fun d1 S1 v1 g1 e1 ok1 r1 post1 => ?_⟩
    refine hr g1 S1 v v1 d d1 _ ok1 (rv.ext e1) r1 (PostS.bindE (e0.trans e1) post1 fun d2 S2 v2 g2 e2 ok2 r2 post2 => ?_)
    exact post2 _ g2 ((e0.trans e1).trans e2) (Grow.refl _) ok2 (((env.ext e1).ext e2).set r2 i)
  · exact post.elim
theorem iop_addI : OpR X (inplaceOp .Add) (ipI fun i j => i + j) := ip_add
theorem s_iadd {K : PySem.W.Frag} : OpS K ca E (ipI fun i j => i + j) oAddI := fun g S v w d e Q ok r1 r2 post => by
  unfold oAddI at post
  split at post
  · cases r1
    cases r2
    exact ⟨_, _, rfl, rfl, PostE.here post ok (.int _)⟩
  · exact post.elim
theorem s_imul {K : PySem.W.Frag} : OpS K ca E (rI CMul fun i j => .int (i * j)) oMulI := fun g S v w d e Q ok r1 r2 post => by
  unfold oMulI at post
  split at post
  · split at post
    · rename_i h
      cases r1
      cases r2
      refine ⟨_, _, rfl, rfl, ?_, PostE.here post ok (.int _)⟩
      rw [Bool.or_eq_true] at h
      rcases h with h | h
      · exact .inl (big_of h)
      · exact .inr (big_of h)
    · exact post.elim
  · exact post.elim
end
def sApp (i : Nat) (f : DE) : DS := fun ρ S => match ρ[i]? with
  | some (.own ds) => (f ρ S).bindS fun d S1 => if ds.length < 100000 then .nx (ρ.set i (.own (ds ++ [d]))) S1 else .bad
  | _ => .bad
def sSetO (i : Nat) (fi f : DE) : DS := fun ρ S => (f ρ S).bindS fun d S1 => match ρ[i]? with
  | some (.own ds) => (fi ρ S1).bindS fun k S2 => match k with
    | .int n => match ixN ds.length n with
      | some j => .nx (ρ.set i (.own (ds.set j d))) S2
      | none => .bad
    | _ => .bad
  | _ => .bad
def sIaddO (i : Nat) (f : DE) : DS := fun ρ S => match ρ[i]? with
  | some (.own ds) => (f ρ S).bindS fun d S1 => match d with
    | .lst es => if ds.length + es.length ≤ 100000 then .nx (ρ.set i (.own (ds ++ es))) S1 else .bad
    | _ => .bad
  | _ => .bad
/-- x[a], x[b] = e -/
def sSet2 (i : Nat) (fi fj f : DE) : DS := fun ρ S => (f ρ S).bindS fun d S1 => match d with
  | .tup [y, z] => match ρ[i]? with
    | some (.own ds) => (fi ρ S1).bindS fun k S2 => match k with
      | .int n => match ixN ds.length n with
        | some j => (fj (ρ.set i (.own (ds.set j y))) S2).bindS fun k' S3 => match k' with
          | .int n' => match ixN ds.length n' with
            | some j' => .nx (ρ.set i (.own ((ds.set j y).set j' z))) S3
            | none => .bad
          | _ => .bad
        | none => .bad
      | _ => .bad
    | _ => .bad
  | _ => .bad
def eOwnIx (i : Nat) (f : DE) : DE := fun ρ S => match ρ[i]? with
  | some (.own ds) => (f ρ S).bind fun k S1 => match k with
    | .int n => match atI ds n with
      | some d => .ok d S1
      | none => .bad
    | _ => .bad
  | _ => .bad
section
variable {K : PySem.W.Frag} {ca : Nat → Addr} {E : XK} {g0 g : G} {σ : L2.St} {ρ : DEnv} {S : Store} {i : Nat}
/-- the list of slot i is given new items -/
theorem own_put {ds es : List D} {p : Addr} {ys : List V} {Dn : Ends} (e0 : Ext g0 g) (ok : Ok K ca g S) (env : EnvR K ca g0 g σ ρ) (hi : ρ[i]? = some (.own ds)) (hp : σ[i]? = some (some (.ref p))) (r : RepAll K ca g.A g.F ys es)
    (post : PostS K ca E g0 g (.nx (ρ.set i (.own es)) S) Dn) : Dn.nx σ (upd g.H p (.lst ys)) := by
  obtain ⟨p', xs, h1, h2, h3, h4, h5, h6⟩ := env.own i ds hi
  rw [hp] at h1
  cases h1
  exact post σ (g.put p (.lst ys)) (ext_put0 e0 h2) grow_put (ok_put ok h3 h4) (env.mut hi hp h2 h3 h4 r)
end
section
variable {X : Cx} {ca : Nat → Addr} {E : XK} {e b : Expr} {f fi fj : DE} {pos pos' p2 p3 apos cpos : Pos} {i : Nat} {x : Str}
theorem gs_app (h : PE X (.Name x p2) (tVar i)) (he : PE X e (rdE X.K ca E f))
    (hbase : attributeBase (.Name x p2) "append" X.env (eval (.Name x p2) X.env) = eval (.Name x p2) X.env := by rfl)
    (hfew : ((backTo cpos (starEach [e] X.env)).all (fun x => !x.1) && (backToKw cpos (keywordEach [] X.env)).all (fun x => x.1.isSome)
      && decide ([e].length + ([] : List Keyword).length + (if ([] : List Keyword).isEmpty then 0 else 1) < 30)) = true := by rfl)
    (hline : (apos.endLine == cpos.line) = true := by rfl) (hs : starEach [e] X.env = (false, eval e X.env) :: starEach [] X.env := by rfl) (hplain : (backTo cpos (starEach [] X.env)).any (·.1) = false := by rfl)
    (hsw : swapsWith (.Call (.Attribute (.Name x p2) "append" apos) [e] [] cpos) none pos.line X.env = pure false := by rfl) :
    PS X (.Expr (.Call (.Attribute (.Name x p2) "append" apos) [e] [] cpos) pos) (rdS X.K ca E (sApp i f)) :=
  wkS (ps_expr (pe_bm PySem.F.plainAttrs_list PySem.F.slot_list_append PySem.F.type_list_append mt_append h (pa_cons he pa_nil hs) hbase hfew hline hs hplain) hsw) fun Dn σ H q => by
    obtain ⟨g0, g, ρ, S, rfl, e0, ok, env, post⟩ := q
    unfold sApp at post
    split at post
    · rename_i ds hi
      obtain ⟨p, xs, h1, h2, h3, h4, h5, h6⟩ := env.own i ds hi
      refine ⟨.ref p, h1, .inl ⟨rfl, xs, SqL.of h5⟩, g0, g, ρ, S, rfl, ok, env, PostS.bindE e0 post fun d1 S1 v1 g1 e1 ok1 r1 post1 => ?_⟩
      split at post1
      · rename_i hl
        obtain ⟨p', xs', k1, k2, k3, k4, k5, k6⟩ := (env.ext e1).own i ds hi
        rw [h1] at k1
        cases k1
        refine ⟨p, xs', v1, rfl, rfl, k5, ?_, own_put (e0.trans e1) ok1 (env.ext e1) hi h1 (k6.append (.cons r1 .nil)) post1⟩
        rw [k6.length]
        exact Nat.lt_of_lt_of_le hl (by decide)
      · exact post1.elim
    · exact post.elim
theorem gs_setO (h : PE X (.Name x p2) (tVar i)) (hb : PE X b (rdE X.K ca E fi)) (he : PE X e (rdE X.K ca E f)) (hs : swapsWithSole [.Subscript (.Name x p2) b p3] e pos.line X.env = pure false := by rfl) (hw : swappedStores [.Subscript (.Name x p2) b p3] e X.env = pure none := by rfl)
    (h1 : (assignEach [.Subscript (.Name x p2) b p3] X.env).map (·.2) = [assign (.Subscript (.Name x p2) b p3) X.env] := by rfl)
    (ha : ∀ v, assign (.Subscript (.Name x p2) b p3) X.env v = (do
      let ov ← holding [v] (eval (.Name x p2) X.env)
      let iv ← holding [v, ov] (eval b X.env)
      standAt p3
      holding [v, ov, iv] (setItem ov iv v)
      release [v, ov, iv] []) := by intro _; rfl) : PS X (.Assign [.Subscript (.Name x p2) b p3] e pos) (rdS X.K ca E (sSetO i fi f)) :=
  wkS (ps_asg he (pg_sub h hb set_list ha) hs hw h1) fun Dn σ H q => by
    obtain ⟨g0, g, ρ, S, rfl, e0, ok, env, post⟩ := q
    refine ⟨g0, g, ρ, S, rfl, ok, env, PostS.bindE e0 post fun d1 S1 v1 g1 e1 ok1 r1 post1 => ?_⟩
    split at post1
    · rename_i ds hi
      obtain ⟨p, xs, h1, h2, h3, h4, h5, h6⟩ := (env.ext e1).own i ds hi
      refine ⟨.ref p, h1, g0, g1, ρ, S1, rfl, ok1, env.ext e1, PostS.bindE (e0.trans e1) post1 fun d2 S2 v2 g2 e2 ok2 r2 post2 => ?_⟩
      split at post2
      · rename_i n
        split at post2
        · rename_i j hj
          cases r2
          obtain ⟨p', xs', k1, k2, k3, k4, k5, k6⟩ := ((env.ext e1).ext e2).own i ds hi
          rw [h1] at k1
          cases k1
          refine ⟨p, xs', n, j, rfl, rfl, k5, by rw [k6.length]; exact hj, own_put ((e0.trans e1).trans e2) ok2 ((env.ext e1).ext e2) hi h1 (RepAll.set (r1.ext e2) j k6) post2⟩
        · exact post2.elim
      · exact post2.elim
    · exact post1.elim
theorem gs_iaddO (hN : X.N.Nodup) (hi : X.N[i]? = some x) (hx : Loc X.env.scope x) (he : PE X e (rdE X.K ca E f)) (hf : X.fn x = true ∨ X.env.scope.names.lookup x = some .local := by first | exact .inl rfl | exact .inr rfl | assumption) :
    PS X (.AugAssign (.Name x pos') .Add e pos) (rdS X.K ca E (sIaddO i f)) := wkS (ps_aug (ti := rExt2) hN hi hx he iop_ext hf) fun Dn σ H q => by
  obtain ⟨g0, g, ρ, S, rfl, e0, ok, env, post⟩ := q
  unfold sIaddO at post
  split at post
  · rename_i ds hi
    obtain ⟨p, xs, h1, h2, h3, h4, h5, h6⟩ := env.own i ds hi
    refine ⟨.ref p, h1, g0, g, ρ, S, rfl, ok, env, PostS.bindE e0 post fun d1 S1 v1 g1 e1 ok1 r1 post1 => ?_⟩
    split at post1
    · rename_i es
      split at post1
      · rename_i hl
        obtain ⟨p', xs', k1, k2, k3, k4, k5, k6⟩ := (env.ext e1).own i ds hi
        rw [h1] at k1
        cases k1
        cases r1 with
        | lst hs hr =>
          refine ⟨p, _, xs', _, rfl, rfl, k5, ok1.sub _ _ hs, ?_, ?_⟩
          · rw [k6.length, hr.length]
            exact sz_of hl
          · have e9 : σ.set i (some (.ref p)) = σ := by
              obtain ⟨hl, e⟩ := List.getElem?_eq_some_iff.mp h1
              rw [← e]
              exact List.set_getElem_self hl
            have z := own_put (e0.trans e1) ok1 (env.ext e1) hi h1 (k6.append hr) post1
            show Dn.nx (List.set σ i (some (V.ref p))) _
            rw [e9]
            exact z
      · exact post1.elim
    · exact post1.elim
  · exact post.elim
theorem gs_set2 {b' : Expr} {kt : Nat} {pt p4 p5 : Pos} (hc : X.calm = true) (h : PE X (.Name x p2) (tVar i)) (h' : PE X (.Name x p4) (tVar i)) (hb : PE X b (rdE X.K ca E fi)) (hb' : PE X b' (rdE X.K ca E fj)) (he : PE X e (rdE X.K ca E f))
    (hs : swapsWithSole [.Tuple [.Subscript (.Name x p2) b p3, .Subscript (.Name x p4) b' p5] kt pt] e pos.line X.env = pure false := by rfl) (hw : swappedStores [.Tuple [.Subscript (.Name x p2) b p3, .Subscript (.Name x p4) b' p5] kt pt] e X.env = pure none := by rfl)
    (h1 : (assignEach [.Tuple [.Subscript (.Name x p2) b p3, .Subscript (.Name x p4) b' p5] kt pt] X.env).map (·.2) = [assign (.Tuple [.Subscript (.Name x p2) b p3, .Subscript (.Name x p4) b' p5] kt pt) X.env] := by rfl)
    (hn : (assignEach [.Subscript (.Name x p2) b p3, .Subscript (.Name x p4) b' p5] X.env).length = 2 := by rfl) (hst : (assignEach [.Subscript (.Name x p2) b p3, .Subscript (.Name x p4) b' p5] X.env).findIdx? (·.1) = none := by rfl)
    (q1 : (assignEach [.Subscript (.Name x p2) b p3, .Subscript (.Name x p4) b' p5] X.env).map (·.2) = assign (.Subscript (.Name x p2) b p3) X.env :: (assignEach [.Subscript (.Name x p4) b' p5] X.env).map (·.2) := by rfl)
    (q2 : (assignEach [.Subscript (.Name x p4) b' p5] X.env).map (·.2) = assign (.Subscript (.Name x p4) b' p5) X.env :: (assignEach [] X.env).map (·.2) := by rfl)
    (ha : ∀ v, assign (.Subscript (.Name x p2) b p3) X.env v = (do
      let ov ← holding [v] (eval (.Name x p2) X.env)
      let iv ← holding [v, ov] (eval b X.env)
      standAt p3
      holding [v, ov, iv] (setItem ov iv v)
      release [v, ov, iv] []) := by intro _; rfl)
    (ha' : ∀ v, assign (.Subscript (.Name x p4) b' p5) X.env v = (do
      let ov ← holding [v] (eval (.Name x p4) X.env)
      let iv ← holding [v, ov] (eval b' X.env)
      standAt p5
      holding [v, ov, iv] (setItem ov iv v)
      release [v, ov, iv] []) := by intro _; rfl) :
    PS X (.Assign [.Tuple [.Subscript (.Name x p2) b p3, .Subscript (.Name x p4) b' p5] kt pt] e pos) (rdS X.K ca E (sSet2 i fi fj f)) :=
  wkS (ps_asg he (pg_tup hc (pgs_cons (pg_sub h hb set_list ha) (pgs_cons (pg_sub h' hb' set_list ha') pgs_nil q2) q1) hn hst) hs hw h1) fun Dn σ H q => by
    obtain ⟨g0, g, ρ, S, rfl, e0, ok, env, post⟩ := q
    refine ⟨g0, g, ρ, S, rfl, ok, env, PostS.bindE e0 post fun d1 S1 v1 g1 e1 ok1 r1 post1 => ?_⟩
    split at post1
    · rename_i y z
      cases r1 with
      | tup hts htr =>
        cases htr with
        | cons ry htr =>
          cases htr with
          | cons rz htr =>
            cases htr
            refine ⟨_, _, rfl, same_t ok1.sub hts, rfl, _, _, rfl, ?_⟩
            split at post1
            · rename_i ds hi
              have env1 := env.ext e1
              obtain ⟨p, xs, h1, h2, h3, h4, h5, h6⟩ := env1.own i ds hi
              refine ⟨.ref p, h1, g0, g1, ρ, S1, rfl, ok1, env1, PostS.bindE (e0.trans e1) post1 fun d2 S2 v2 g2 e2 ok2 r2 post2 => ?_⟩
              split at post2
              · rename_i n
                split at post2
                · rename_i j hj
                  cases r2
                  have env2 := env1.ext e2
                  obtain ⟨p', xs', k1, k2, k3, k4, k5, k6⟩ := env2.own i ds hi
                  rw [h1] at k1
                  cases k1
                  refine ⟨p, xs', n, j, rfl, rfl, k5, by rw [k6.length]; exact hj, ?_⟩
                  have x2 : Ext g0 g2 := (e0.trans e1).trans e2
                  have ra : RepAll X.K ca g2.A g2.F (xs'.set j _) (ds.set j y) := RepAll.set (ry.ext e2) j k6
                  have env3 : EnvR X.K ca g0 (g2.put p (.lst (xs'.set j _))) σ (ρ.set i (.own (ds.set j y))) := env2.mut hi h1 k2 k3 k4 ra
                  have hi3 : (ρ.set i (.own (ds.set j y)))[i]? = some (.own (ds.set j y)) := List.getElem?_set_self (List.getElem?_eq_some_iff.mp hi).1
                  refine ⟨_, _, rfl, .ref p, h1, g0, g2.put p (.lst (xs'.set j _)), _, S2, rfl, ok_put ok2 k3 k4, env3, PostS.bindE (ext_put0 x2 k2) (PostS.grow grow_put post2) fun d3 S3 v3 g3 e3 ok3 r3 post3 => ?_⟩
                  split at post3
                  · rename_i n'
                    split at post3
                    · rename_i j' hj'
                      cases r3
                      have env4 := env3.ext e3
                      obtain ⟨p'', xs'', m1, m2, m3, m4, m5, m6⟩ := env4.own i _ hi3
                      rw [h1] at m1
                      cases m1
                      have x3 : Ext g0 g3 := (ext_put0 x2 k2).trans e3
                      refine ⟨p, xs'', n', j', rfl, rfl, m5, by rw [m6.length, List.length_set]; exact hj', rfl, ?_⟩
                      have rz3 : RepG X.K ca g3 _ z := (rz.ext e2).ext e3
                      have hset : (ρ.set i (.own (ds.set j y))).set i (.own ((ds.set j y).set j' z)) = ρ.set i (.own ((ds.set j y).set j' z)) := List.set_set ..
                      rw [← hset] at post3
                      exact own_put x3 ok3 env4 hi3 h1 (RepAll.set rz3 j' m6) post3
                    · exact post3.elim
                  · exact post3.elim
                · exact post2.elim
              · exact post2.elim
            · exact post1.elim
    · exact post1.elim
theorem ge_ownIx (h : PE X (.Name x p2) (tVar i)) (hb : PE X b (rdE X.K ca E f)) (hs : PlainIx b) : PE X (.Subscript (.Name x p2) b pos) (rdE X.K ca E (eOwnIx i f)) := wkE (pe_ix ix_list h hb hs) fun σ H Q q => by
  obtain ⟨g0, g, ρ, S, rfl, ok, env, post⟩ := q
  unfold eOwnIx at post
  split at post
  · rename_i ds hi
    obtain ⟨p, xs, h1, h2, h3, h4, h5, h6⟩ := env.own i ds hi
    refine ⟨.ref p, h1, g0, g, ρ, S, rfl, ok, env, PostE.bind post fun d1 S1 v1 g1 e1 ok1 r1 post1 => ?_⟩
    split at post1
    · rename_i n
      split at post1
      · rename_i d hd
        cases r1
        obtain ⟨v, hv, rv⟩ := RepAll.atI (h6.ext e1) hd
        exact ⟨p, xs, n, v, rfl, rfl, SqL.of (e1.H p _ h4 h5), hv, PostE.here post1 ok1 rv⟩
      · exact post1.elim
    · exact post1.elim
  · exact post.elim
/-- list(..), a + b, a if c else b: new lists -/
theorem gf_list {fr : DA} {p : Pos} {a : Expr} (hg : Gl X "list") (hm : X.mg "list" = none) (hv : bootBuiltins "list" = some (.type "list")) (ha : PA X [a] (rdA X.K ca 1 E fr)) (he : starEach [a] X.env = (false, eval a X.env) :: starEach [] X.env := by rfl) (hpl : (backTo pos (starEach [] X.env)).any (·.1) = false := by rfl) :
    PE X (.Call (.Name "list" p) [a] [] pos) (rdF X.K ca E (eCall oList fr)) := wkE (pe_callTy call_list_of hg hm hv ha (by decide) (by decide) he hpl) fun σ H Q q => by
  obtain ⟨g0, g, ρ, S, rfl, ok, env, post⟩ := q
  refine ⟨g0, g, ρ, S, rfl, ok, env, PostF.bindL post fun ds S1 vs g1 e1 ok1 r1 hl post1 => ?_⟩
  have fin : ∀ (xs : List V) (ds : List D), RepAll X.K ca g1.A g1.F xs ds → PostF X.K ca E g1 (.ok (.lst ds) S1) Q → ∀ l, g1.H l = none → Q (.ref l) (upd g1.H l (.lst xs)) := fun xs ds hr po l hl =>
    po l xs (g1.put l (.lst xs)) (ext_put hl) (ok_put ok1 (ok1.ffree hl) fun z => ok1.there z hl) hl (ok1.ffree hl) (fun z => ok1.there z hl) upd_same hr
  unfold oList at post1
  split at post1
  · cases r1 with
    | cons ra rb =>
      cases rb
      cases ra with
      | lst hs hr => exact ⟨_, _, rfl, .inl (SqL.of (ok1.sub _ _ hs)), fin _ _ hr post1⟩
  · cases r1 with
    | cons ra rb =>
      cases rb
      cases ra with
      | tup hs hr => exact ⟨_, _, rfl, .inr (same_t ok1.sub hs), fin _ _ hr post1⟩
  · cases r1 with
    | cons ra rb =>
      cases rb
      cases ra with
      | fls hs hr => exact ⟨_, _, rfl, .inl (ok1.sub.seq hs), fin _ _ hr post1⟩
  · split at post1
    · rename_i n xs hS
      cases r1 with
      | cons ra rb =>
        cases rb
        cases ra with
        | obj hA =>
          obtain ⟨a', ho, k1, k2, k3⟩ := ok1.ob _ _ hS
          rw [hA] at k1
          cases k1
          cases ho with
          | lst ys => exact ⟨_, _, rfl, .inl (SqL.of k2), fin _ _ k3 post1⟩
          | _ => exact k3.elim
    · exact post1.elim
  · exact post1.elim
theorem oList_is {fr : DA} : ∀ ρ S d S', eCall oList fr ρ S = .ok d S' → ∃ ds, d = .lst ds := fun ρ S d S' h => by
  unfold eCall OutL.bind at h
  split at h
  · unfold oList at h
    split at h
    · injection h with h1 h2; exact ⟨_, h1.symm⟩
    · injection h with h1 h2; exact ⟨_, h1.symm⟩
    · injection h with h1 h2; exact ⟨_, h1.symm⟩
    · split at h
      · injection h with h1 h2; exact ⟨_, h1.symm⟩
      · cases h
    · cases h
  · cases h
  · cases h
def eNewAdd (a b : DE) : DE := fun ρ S => (a ρ S).bind fun x S1 => (b ρ S1).bind fun y S2 => match x, y with
  | .lst xs, .lst ys => if xs.length + ys.length ≤ 100000 then .ok (.lst (xs ++ ys)) S2 else .bad
  | _, _ => .bad
theorem gf_add {a : Expr} {fa fb : DE} (ha : PE X a (rdE X.K ca E fa)) (hb : PE X b (rdE X.K ca E fb)) : PE X (.BinOp a .Add b pos) (rdF X.K ca E (eNewAdd fa fb)) := wkE (pe_op op_cat ha hb) fun σ H Q q => by
  obtain ⟨g0, g, ρ, S, rfl, ok, env, post⟩ := q
  refine ⟨g0, g, ρ, S, rfl, ok, env, PostF.of_bind post fun d1 S1 v1 g1 e1 ok1 r1 post1 => ?_⟩
  refine ⟨g0, g1, ρ, S1, rfl, ok1, env.ext e1, PostF.of_bind post1 fun d2 S2 v2 g2 e2 ok2 r2 post2 => ?_⟩
  split at post2
  · split at post2
    · rename_i xs ys h
      cases r1 with
      | lst hs hr =>
        cases r2 with
        | lst hs' hr' =>
          refine ⟨_, _, _, _, rfl, rfl, ok2.sub _ _ (e2.F _ _ hs), ok2.sub _ _ hs', ?_, fun l hl => ?_⟩
          · rw [hr.length, hr'.length]
            exact sz_of h
          · exact post2 l _ (g2.put l (.lst _)) (ext_put hl) (ok_put ok2 (ok2.ffree hl) fun z => ok2.there z hl) hl (ok2.ffree hl) (fun z => ok2.there z hl) upd_same ((hr.ext e2).append hr')
    · exact post2.elim
  · exact post2.elim
theorem gf_if {c a : Expr} {fc fa fb : DE} (hc : PT X c (rdT X.K ca E fc)) (ha : PE X a (rdF X.K ca E fa)) (hb : PE X b (rdF X.K ca E fb)) : PE X (.IfExp c a b pos) (rdF X.K ca E (eIf fc fa fb)) := wkE (pe_ifExp hc ha hb) fun σ H Q q => by
  obtain ⟨g0, g, ρ, S, rfl, ok, env, post⟩ := q
  refine ⟨g0, g, ρ, S, rfl, ok, env, PostF.of_bind post fun d1 S1 v g1 e1 ok1 r1 post1 => ?_⟩
  cases r1 with
  | bl k =>
    refine ⟨k, rfl, ?_⟩
    cases k with
    | true => exact iteT ⟨g0, g1, ρ, S1, rfl, ok1, env.ext e1, post1⟩
    | false => exact iteF ⟨g0, g1, ρ, S1, rfl, ok1, env.ext e1, post1⟩
  | _ => exact post1.elim
end
def eObj (f : DE) : DE := fun ρ S => (f ρ S).bind fun d S1 => match d with
  | .lst ds => .ok (.obj S1.length) (S1 ++ [.lst ds])
  | _ => .bad
def sSetB (fo fi f : DE) : DS := fun ρ S => (f ρ S).bindS fun d S1 => (fo ρ S1).bindS fun o S2 => (fi ρ S2).bindS fun k S3 => match o, k with
  | .obj n, .int m => match S3[n]? with
    | some (.lst xs) => match ixN xs.length m with
      | some j => .nx ρ (S3.set n (.lst (xs.set j d)))
      | none => .bad
    | _ => .bad
  | _, _ => .bad
section
variable {K : PySem.W.Frag} {ca : Nat → Addr} {g0 g : G} {S : Store}
/-- a new object that is told to the store -/
theorem ok_regH (ok : Ok K ca g S) {p : Addr} {o : HO} {ob : OB} (q1 : g.F p = none) (q2 : p ∉ g.A) (q3 : g.H p = some o) (r : RepO K ca g.A g.F o ob) : Ok K ca ⟨g.F, g.A ++ [p], g.H⟩ (S ++ [ob]) where
  sub := ok.sub
  len := by
    show (g.A ++ [p]).length = _
    rw [List.length_append, List.length_append, ok.len]
    rfl
  nd := by
    show (g.A ++ [p]).Nodup
    rw [List.nodup_append]
    refine ⟨ok.nd, by simp, fun a ha b hb => ?_⟩
    obtain rfl : b = p := by simpa using hb
    rintro rfl
    exact q2 ha
  fr := fun a ha => by
    rcases List.mem_append.mp (show a ∈ g.A ++ [p] from ha) with z | z
    · exact ok.fr a z
    · obtain rfl : a = p := by simpa using z
      exact q1
  ob := fun n o' e => by
    show ∃ a ho, (g.A ++ [p])[n]? = some a ∧ g.H a = some ho ∧ RepO K ca (g.A ++ [p]) g.F ho o'
    by_cases hn : n < S.length
    · rw [List.getElem?_append_left hn] at e
      obtain ⟨a, ho, e1, e2, e3⟩ := ok.ob n o' e
      refine ⟨a, ho, ?_, e2, RepO.mono ⟨[p], rfl⟩ (Same.refl _) e3⟩
      rw [List.getElem?_append_left (by rw [ok.len]; exact hn)]
      exact e1
    · have hn' : n = S.length := by
        have := (List.getElem?_eq_some_iff.mp e).1
        rw [List.length_append, List.length_singleton] at this
        omega
      subst hn'
      rw [List.getElem?_append_right (Nat.le_refl _)] at e
      simp at e
      subst e
      refine ⟨p, o, ?_, q3, RepO.mono ⟨[p], rfl⟩ (Same.refl _) r⟩
      rw [← ok.len, List.getElem?_append_right (Nat.le_refl _)]
      simp
theorem ext_regH {g' : G} (e : Ext g g') {p : Addr} (np : g.H p = none) : Ext g ⟨g'.F, g'.A ++ [p], g'.H⟩ where
  F := e.F
  A := by
    obtain ⟨m, h1, h2⟩ := e.A
    refine ⟨m ++ [p], by rw [h1, List.append_assoc], fun a ha => ?_⟩
    rcases List.mem_append.mp ha with z | z
    · exact h2 a z
    · obtain rfl : a = p := by simpa using z
      exact np
  H := e.H
  kp := e.kp
  nf := e.nf
/-- an object of the store changes -/
theorem ok_setH (ok : Ok K ca g S) {n : Nat} {a : Addr} {o : HO} {ob : OB} (hA : g.A[n]? = some a) (r : RepO K ca g.A g.F o ob) : Ok K ca (g.put a o) (S.set n ob) where
  sub := fun b u e => by
    show upd g.H a o b = some u
    rw [upd_ne (fun q => by
      have := ok.fr a (List.mem_iff_getElem?.mpr ⟨n, hA⟩)
      rw [q] at e
      rw [show g.F a = some u from e] at this
      cases this)]
    exact ok.sub b u e
  len := by rw [List.length_set]; exact ok.len
  nd := ok.nd
  fr := ok.fr
  ob := fun m o' e => by
    show ∃ a' ho, g.A[m]? = some a' ∧ upd g.H a o a' = some ho ∧ RepO K ca g.A g.F ho o'
    rcases set_some e with ⟨rfl, rfl, hl⟩ | ⟨hm, q⟩
    · exact ⟨a, o, hA, upd_same, r⟩
    · obtain ⟨a', ho, e1, e2, e3⟩ := ok.ob m o' q
      refine ⟨a', ho, e1, ?_, e3⟩
      rw [upd_ne (fun z : a' = a => hm (nodup_ix' ok.nd e1 (by rw [z]; exact hA)))]
      exact e2
where
  nodup_ix' {l : List Addr} (h : l.Nodup) {i j : Nat} {x : Addr} (a : l[i]? = some x) (b : l[j]? = some x) : i = j := by
    obtain ⟨h1, e1⟩ := List.getElem?_eq_some_iff.mp a
    obtain ⟨h2, e2⟩ := List.getElem?_eq_some_iff.mp b
    exact (List.getElem_inj h).mp (e1.trans e2.symm)
theorem ext_setH (e0 : Ext g0 g) {n : Nat} {a : Addr} {o : HO} (hA : g.A[n]? = some a) : Ext g0 (g.put a o) where
  F := e0.F
  A := e0.A
  H := fun b u hb q => by
    show upd g.H a o b = some u
    rw [upd_ne (fun z : b = a => e0.out hb (some_ne q) (List.mem_iff_getElem?.mpr ⟨n, by rw [z]; exact hA⟩))]
    exact e0.H b u hb q
  kp := fun b q => by
    show upd g.H a o b ≠ none
    unfold upd
    split
    · exact fun z => nomatch z
    · exact e0.kp b q
  nf := e0.nf
theorem env_setH {σ : L2.St} {ρ : DEnv} (env : EnvR K ca g0 g σ ρ) {n : Nat} {a : Addr} {o : HO} (hA : g.A[n]? = some a) : EnvR K ca g0 (g.put a o) σ ρ where
  len := env.len
  val := env.val
  own := fun i ds h => by
    obtain ⟨p, xs, h1, h2, h3, h4, h5, h6⟩ := env.own i ds h
    refine ⟨p, xs, h1, h2, h3, h4, ?_, h6⟩
    show upd g.H a o p = some (.lst xs)
    rw [upd_ne (fun z : p = a => h4 (List.mem_iff_getElem?.mpr ⟨n, by rw [z]; exact hA⟩))]
    exact h5
  sep := env.sep
end
section
variable {X : Cx} {ca : Nat → Addr} {E : XK} {e b o : Expr} {f fi fo : DE} {pos p3 : Pos}
theorem ge_obj (h : PE X e (rdF X.K ca E f)) : PE X e (rdE X.K ca E (eObj f)) := wkE h fun σ H Q q => by
  obtain ⟨g0, g, ρ, S, rfl, ok, env, post⟩ := q
  refine ⟨g0, g, ρ, S, rfl, ok, env, ?_⟩
  unfold eObj at post
  cases q : f ρ S with
  | bad => rw [q] at post; exact post
  | exc c S1 => rw [q] at post; exact post
  | ok d S1 =>
    rw [q] at post
    cases d with
    | lst ds =>
      intro p xs g1 e1 ok1 np fp pA hp r
      refine post (.ref p) ⟨g1.F, g1.A ++ [p], g1.H⟩ (ext_regH e1 np) (ok_regH ok1 fp pA hp (show RepO X.K ca g1.A g1.F (.lst xs) (.lst ds) from r)) (.obj ?_)
      show (g1.A ++ [p])[S1.length]? = some p
      rw [← ok1.len, List.getElem?_append_right (Nat.le_refl _)]
      simp
    | _ => exact post.elim
theorem gs_setB (ho : PE X o (rdE X.K ca E fo)) (hb : PE X b (rdE X.K ca E fi)) (he : PE X e (rdE X.K ca E f)) (hs : swapsWithSole [.Subscript o b p3] e pos.line X.env = pure false := by rfl) (hw : swappedStores [.Subscript o b p3] e X.env = pure none := by rfl)
    (h1 : (assignEach [.Subscript o b p3] X.env).map (·.2) = [assign (.Subscript o b p3) X.env] := by rfl)
    (ha : ∀ v, assign (.Subscript o b p3) X.env v = (do
      let ov ← holding [v] (eval o X.env)
      let iv ← holding [v, ov] (eval b X.env)
      standAt p3
      holding [v, ov, iv] (setItem ov iv v)
      release [v, ov, iv] []) := by intro _; rfl) : PS X (.Assign [.Subscript o b p3] e pos) (rdS X.K ca E (sSetB fo fi f)) :=
  wkS (ps_asg he (pg_sub ho hb set_list ha) hs hw h1) fun Dn σ H q => by
    obtain ⟨g0, g, ρ, S, rfl, e0, ok, env, post⟩ := q
    refine ⟨g0, g, ρ, S, rfl, ok, env, PostS.bindE e0 post fun d1 S1 v1 g1 e1 ok1 r1 post1 => ?_⟩
    refine ⟨g0, g1, ρ, S1, rfl, ok1, env.ext e1, PostS.bindE (e0.trans e1) post1 fun d2 S2 v2 g2 e2 ok2 r2 post2 => ?_⟩
    refine ⟨g0, g2, ρ, S2, rfl, ok2, (env.ext e1).ext e2, PostS.bindE ((e0.trans e1).trans e2) post2 fun d3 S3 v3 g3 e3 ok3 r3 post3 => ?_⟩
    split at post3
    · rename_i n m
      split at post3
      · rename_i xs hS
        split at post3
        · rename_i j hj
          cases r3
          have r2' := r2.ext e3
          cases r2' with
          | obj hA =>
            obtain ⟨a', ho', k1, k2, k3⟩ := ok3.ob _ _ hS
            rw [hA] at k1
            cases k1
            cases ho' with
            | lst ys =>
              have k4 : RepAll X.K ca g3.A g3.F ys xs := k3
              refine ⟨_, ys, m, j, rfl, rfl, k2, by rw [k4.length]; exact hj, ?_⟩
              have rr : RepO X.K ca g3.A g3.F (.lst (ys.set j v1)) (.lst (xs.set j d1)) := RepAll.set ((r1.ext e2).ext e3) j k4
              exact post3 σ (g3.put _ (.lst (ys.set j v1))) (ext_setH (((e0.trans e1).trans e2).trans e3) hA) grow_put (ok_setH ok3 hA rr) (env_setH (((env.ext e1).ext e2).ext e3) hA)
            | _ => exact k3.elim
        · exact post3.elim
      · exact post3.elim
    · exact post3.elim
end
section
variable {X : Cx} {ca : Nat → Addr} {E : XK} {x : Str} {pos : Pos}
theorem ge_gint {n : Int} {t : Tok} (hg : Gl X x) (hm : X.mg x = some (.int n t)) (hd : (x == ("__debug__" : Str)) = false := by decide) : PE X (.Name x pos) (rdE X.K ca E (eC (.int n))) := ge_tc (pe_glob (v := .int n) hg hm ⟨t, rfl⟩ hd) fun _ _ => .int n
/-- a tuple of ints of the written part -/
structure TupK (K : PySem.W.Frag) (a : Addr) (ns : List Int) : Prop where
  ex : ∃ (o : Obj) (its : Array Value) (n : Nat), K.lookup a = some o ∧ o.cls = .type "tuple" ∧ o.data = .seq its n ∧ its.size ≤ sizeLine ∧ Vals (ns.map V.int) its.toList
theorem ge_gtup {a : Addr} {ns : List Int} (hg : Gl X x) (hm : X.mg x = some (.ref a)) (T : TupK X.K a ns) (hd : (x == ("__debug__" : Str)) = false := by decide) : PE X (.Name x pos) (rdE X.K ca E (eC (.tup (ns.map D.int)))) :=
  ge_tc (pe_glob (v := .ref a) hg hm rfl hd) fun A F => .tup (.inr T.ex) (RepAll.ofInts ns)
end
end DL
set_option Elab.async false
set_option linter.all false
set_option maxRecDepth 100000
set_option maxHeartbeats 1000000
namespace DL
open PySem PySem.Spec PyProof.Rows L2
structure DefAt (K : PySem.W.Frag) (mg : Str → Option Value) (x : Str) (st : Stmt) (ps : List Str) : Prop where
  ex : ∃ f fd, mg x = some (.ref f) ∧ Fun K x x st f fd ∧ Binds K fd ps []
structure FnD (P : Program) (w : World) (K : PySem.W.Frag) (mg : Str → Option Value) (base : Heap) (ca : Nat → Addr) (k : Nat) (x : Str) (n : Nat) (sem : DC) : Prop where
  ex : ∃ f fd ps, mg x = some (.ref f) ∧ PySem.W.keepIn K (.ref f) = true ∧ Binds K fd ps [] ∧ FnOk P w K mg base (L2.CX P w) k f fd ps (spD K ca n sem)
section
variable {P : Program} {w : World} {K : PySem.W.Frag} {mg : Str → Option Value} {base : Heap} {ca : Nat → Addr}
theorem defAt_mk {h : Heap} {x : Str} {st : Stmt} {ps : List Str} {f : Addr} {oc : Value} {od an : Option Addr} {osl : Array (Option Value)} {kV doc pm cdv ct : Value} (X : K.In h) (G : h.Ns mainGlobals mg) (a : PySem.W.nsIn K mainGlobals x = some (some (.ref f)))
    (l : K.lookup f = some ⟨oc, od, .func (PySem.W.fnOf x x (defArgs st) (defBody st) (defScope st) .none kV doc pm an cdv ct), osl⟩) (c : PySem.W.codeIn K cdv x = true) (k : PySem.W.keepIn K (.ref f) = true)
    (hb : ∀ (kV doc pm : Value) (an : Option Addr) (cdv ct : Value) (us : List Value), us.length = ps.length → bindArgs (PySem.W.fnOf x x (defArgs st) (defBody st) (defScope st) .none kV doc pm an cdv ct) ⟨us, []⟩ = pure (ps.zip us)) : DefAt K mg x st ps :=
  ⟨f, _, PySem.W.mg_of X G a, fun_mk l c k, (fun_mk l c k).binds hb⟩
theorem fnAt {x : Str} {st : Stmt} {N ps : List Str} {k : Nat} {fb : DS} (F : DefAt K mg x st ps) (Sc : FnScope N ps (defScope st))
    (hbody : ∀ (f : Addr) (cdv : Value) (A : Around) (outer : List Env) (s : Shared) (H : Hp) (E : XK), Room k (A.deeper (envOfC x (defScope st) s.heap.objs.size f cdv)) →
      PSs (cxOf (L2.CX P w) P w K mg base N x (defScope st) f cdv A outer s H E) (defBody st) (rdS K ca E fb)) : FnD P w K mg base ca (k + 1) x ps.length (runD N.length ps.length fb) := by
  obtain ⟨f, fd, h1, h2, h3⟩ := F.ex
  exact ⟨f, fd, ps, h1, h2.kp, h3, fnD h2 Sc (hbody f)⟩
/-- what is raised by a callee leaves the def -/
theorem psX {N : List Str} {qual : Str} {scope : Scope} {f : Addr} {cd : Value} {A : Around} {outer : List Env} {s : Shared} {H : Hp} {E : XK} : Passes (L2.CX P w) (cxOf (L2.CX P w) P w K mg base N qual scope f cd A outer s H E) E :=
  passes_call (takes_of rfl rfl rfl rfl) fun _ _ _ _ h => h
theorem tkX {N : List Str} {qual : Str} {scope : Scope} {f : Addr} {cd : Value} {A : Around} {outer : List Env} {s : Shared} {H : Hp} {E : XK} : Takes (cxOf (L2.CX P w) P w K mg base N qual scope f cd A outer s H E) (fun cls d _ H => E cls d H) :=
  takes_of rfl rfl rfl rfl
theorem poX {N : List Str} {qual : Str} {scope : Scope} {f : Addr} {cd : Value} {A : Around} {outer : List Env} {s : Shared} {H : Hp} {E : XK} :
    PassesOwn (model P w) (A.deeper (envOfC qual scope s.heap.objs.size f cd)) (envOfC qual scope s.heap.objs.size f cd) (cxOf (L2.CX P w) P w K mg base N qual scope f cd A outer s H E).xe :=
  passes_of (X := cxOf (L2.CX P w) P w K mg base N qual scope f cd A outer s H E) rfl
end
section
variable {X : Cx} {ca : Nat → Addr} {E : XK} {a : Expr} {es : List Expr} {fr : DA} {k j n : Nat} {x : Str} {p pos : Pos} {sem : DC}
theorem ge_callD (F : FnD X.prog X.w X.K X.mg X.base ca j x n sem) (hr : Room k X.A) (hj : j ≤ k) (hg : Gl X x) (hx : Passes (L2.CX X.prog X.w) X E)
    (ha : PA X (a :: es) (rdA X.K ca n E fr)) (hdb : (x == ("__debug__" : Str)) = false := by decide) (he : starEach (a :: es) X.env = (false, eval a X.env) :: starEach es X.env := by rfl) (hpl : (backTo pos (starEach es X.env)).any (·.1) = false := by rfl) :
    PE X (.Call (.Name x p) (a :: es) [] pos) (rdE X.K ca E (eCall sem fr)) := by
  obtain ⟨f, fd, ps, h1, h2, h3, h4⟩ := F.ex
  exact ge_call h4 (hr.mono hj) hg h1 h2 h3 hx ha hdb he hpl
end
structure ExcAt (K : PySem.W.Frag) (mg : Str → Option Value) (x : Str) (C : Addr) : Prop where
  g : mg x = some (.ref C)
  q : PySem.W.excIn K C [.type "ValueError", .type "Exception", .type "BaseException", .type "object"] "ValueError.__new__" = true
  k : PySem.W.keepIn K (.ref C) = true
  b : PySem.W.subIn K (.ref C) (.type "BaseException") = some true
  t : PySem.W.typeIn K (.ref C) = some (.type "type")
theorem gs_raiseE {X : Cx} {ca : Nat → Addr} {E : XK} {c : Nat} {x m : Str} {j : Nat} {p p2 p3 pos : Pos} (hc : X.calm = true) (tk : Takes X (fun cls d _ H => E cls d H)) (T : ExcAt X.K X.mg x (ca c)) (hg : Gl X x) (hdb : (x == ("__debug__" : Str)) = false := by decide) :
    PS X (.Raise (some (.Call (.Name x p) [.Constant (.str m) j p2] [] p3)) none pos) (rdS X.K ca E (sRaise c)) :=
  gs_raise (cls := .ref (ca c)) hc tk (pmk_own PySem.F.excBase_ValueError T.q T.g T.k (raises_own T.b T.t) hg hdb)
theorem bb_isinstance : bootBuiltins "isinstance" = some (.builtin "isinstance") := by decide +kernel
theorem bb_int : bootBuiltins "int" = some (.type "int") := by decide +kernel
theorem bb_bool : bootBuiltins "bool" = some (.type "bool") := by decide +kernel
theorem bb_list : bootBuiltins "list" = some (.type "list") := by decide +kernel
theorem bb_tuple : bootBuiltins "tuple" = some (.type "tuple") := by decide +kernel
theorem bb_len : bootBuiltins "len" = some (.builtin "len") := by decide +kernel
theorem bb_abs : bootBuiltins "abs" = some (.builtin "abs") := by decide +kernel
theorem bb_sum : bootBuiltins "sum" = some (.builtin "sum") := by decide +kernel
theorem bb_all : bootBuiltins "all" = some (.builtin "all") := by decide +kernel
theorem bb_sorted : bootBuiltins "sorted" = some (.builtin "sorted") := by decide +kernel
structure Blt (mg : Str → Option Value) : Prop where
  isinstance : mg "isinstance" = none
  int : mg "int" = none
  bool : mg "bool" = none
  list : mg "list" = none
  tuple : mg "tuple" = none
  str : mg "str" = none
  set : mg "set" = none
  len : mg "len" = none
  abs : mg "abs" = none
  max : mg "max" = none
  sum : mg "sum" = none
  all : mg "all" = none
  sorted : mg "sorted" = none
  range : mg "range" = none
  zip : mg "zip" = none
  enumerate : mg "enumerate" = none
def CInt (mg : Str → Option Value) (x : Str) (n : Int) : Prop := ∃ t, mg x = some (.int n t)
def CTup (K : PySem.W.Frag) (mg : Str → Option Value) (x : Str) (ns : List Int) : Prop := ∃ a, mg x = some (.ref a) ∧ TupK K a ns
section
variable {X : Cx} {ca : Nat → Addr} {E : XK} {x : Str} {pos : Pos}
theorem ge_gintE {n : Int} (hg : Gl X x) (h : CInt X.mg x n) (hd : (x == ("__debug__" : Str)) = false := by decide) : PE X (.Name x pos) (rdE X.K ca E (eC (.int n))) := let ⟨_, hm⟩ := h; ge_gint hg hm hd
theorem ge_gtupE {ns : List Int} (hg : Gl X x) (h : CTup X.K X.mg x ns) (hd : (x == ("__debug__" : Str)) = false := by decide) : PE X (.Name x pos) (rdE X.K ca E (eC (.tup (ns.map D.int)))) := let ⟨_, hm, T⟩ := h; ge_gtup hg hm T hd
end
theorem hu65 {k : Nat} {A : Around} (hr : Room k A) : A.units + 65 < cLine := Nat.lt_of_le_of_lt (Nat.le_trans (by omega) (Nat.add_le_add_left (by decide : 65 ≤ 200) (A.units + 16 * k))) hr.un
end DL
set_option Elab.async false
set_option linter.all false
set_option maxRecDepth 100000
set_option maxHeartbeats 1000000
namespace DL
open PySem PySem.Spec PyProof.Rows L2
end DL
set_option Elab.async false
set_option linter.all false
set_option maxRecDepth 100000
set_option maxHeartbeats 1000000
namespace DL
open PySem PySem.Spec PyProof.Rows L2
def idxD (d : D) : List D → Nat → Option Nat
  | [], _ => none
  | y :: ys, j => if eqD y d then some j else idxD d ys (j + 1)
def oIndex (ds : List D) : D1 := fun d S => if okD 5 d && ds.all (okD 5) then match idxD d ds 0 with
    | some j => .ok (.int (j : Nat)) S
    | none => .bad
  else .bad
def eIndex (fa fb : DE) : DE := fun ρ S => (fa ρ S).bind fun x S1 => match x with
  | .lst ds => (fb ρ S1).bind fun d S2 => oIndex ds d S2
  | _ => .bad
theorem idxD_some {d : D} : ∀ {ds : List D} {k j : Nat}, idxD d ds k = some j → k ≤ j ∧ (∃ y, ds[j - k]? = some y ∧ eqD y d = true) ∧ ∀ m y, m < j - k → ds[m]? = some y → eqD y d = false
  | [], k, j, h => by cases h
  | y :: ys, k, j, h => by
    unfold idxD at h
    by_cases e : eqD y d = true
    · rw [if_pos e] at h
      cases h
      exact ⟨Nat.le_refl _, ⟨y, by rw [Nat.sub_self]; rfl, e⟩, fun m z hm => absurd hm (by omega)⟩
    · rw [if_neg e] at h
      obtain ⟨h1, ⟨z, h2, h3⟩, h4⟩ := idxD_some h
      have ej : j - k = (j - (k + 1)) + 1 := by omega
      refine ⟨by omega, ⟨z, by rw [ej]; simpa using h2, h3⟩, fun m z' hm hz => ?_⟩
      cases m with
      | zero =>
        cases hz
        exact Bool.eq_false_iff.mpr e
      | succ m => exact h4 m z' (by omega) (by simpa using hz)
theorem pyAll_get {ds : List D} : ∀ {j : Nat} {z : PyData}, (pyAll ds)[j]? = some z → ∃ d, ds[j]? = some d ∧ z = d.py := by
  induction ds with
  | nil =>
    intro j z h
    simp [pyAll] at h
  | cons d ds ih =>
    intro j z h
    cases j with
    | zero =>
      simp [pyAll] at h
      exact ⟨d, rfl, h.symm⟩
    | succ j =>
      simp [pyAll] at h
      obtain ⟨d', h1, h2⟩ := ih h
      exact ⟨d', by simpa using h1, h2⟩
theorem pyAll_at {ds : List D} : ∀ {j : Nat} {d : D}, ds[j]? = some d → (pyAll ds)[j]? = some d.py := by
  induction ds with
  | nil =>
    intro j z h
    simp at h
  | cons d ds ih =>
    intro j z h
    cases j with
    | zero =>
      simp at h
      subst h
      simp [pyAll]
    | succ j =>
      simp at h
      simp [pyAll, ih h]
section
variable {X : Cx} {ca : Nat → Addr} {E : XK} {a b : Expr} {fa fb : DE} {apos cpos : Pos}
theorem ge_index (hu : X.A.units + 65 < cLine) (ha : PE X a (rdE X.K ca E fa)) (hb : PE X b (rdE X.K ca E fb))
    (hbase : attributeBase a "index" X.env (eval a X.env) = eval a X.env := by rfl)
    (hfew : ((backTo cpos (starEach [b] X.env)).all (fun x => !x.1) && (backToKw cpos (keywordEach [] X.env)).all (fun x => x.1.isSome)
      && decide ([b].length + ([] : List Keyword).length + (if ([] : List Keyword).isEmpty then 0 else 1) < 30)) = true := by rfl)
    (hline : (apos.endLine == cpos.line) = true := by rfl) (hs : starEach [b] X.env = (false, eval b X.env) :: starEach [] X.env := by rfl) (hplain : (backTo cpos (starEach [] X.env)).any (·.1) = false := by rfl) :
    PE X (.Call (.Attribute a "index" apos) [b] [] cpos) (rdE X.K ca E (eIndex fa fb)) :=
  wkE (pe_bm PySem.F.plainAttrs_list PySem.F.slot_list_index PySem.F.type_list_index (mt_indexD hu) ha (pa_cons hb pa_nil hs) hbase hfew hline hs hplain) fun σ H Q q => by
    obtain ⟨g0, g, ρ, S, rfl, ok, env, post⟩ := q
    refine ⟨g0, g, ρ, S, rfl, ok, env, PostE.bind post fun d1 S1 v1 g1 e1 ok1 r1 post1 => ?_⟩
    cases d1 with
    | lst ds =>
      refine ⟨?_, g0, g1, ρ, S1, rfl, ok1, env.ext e1, PostE.bind post1 fun d2 S2 v2 g2 e2 ok2 r2 post2 => ?_⟩
      · cases r1 with
        | lst hs hr => exact .inl ⟨rfl, _, SqL.of (ok1.sub _ _ hs)⟩
      · unfold oIndex at post2
        split at post2
        · rename_i hk
          rw [Bool.and_eq_true] at hk
          split at post2
          · rename_i j hj
            have r1' := r1.ext e2
            obtain ⟨_, ⟨y, hy, hye⟩, hno⟩ := idxD_some hj
            rw [Nat.sub_zero] at hy hno
            have oky : ∀ {m : Nat} {z : D}, ds[m]? = some z → okD 5 z = true := fun hz => List.all_eq_true.mp hk.2 _ (List.mem_of_getElem? hz)
            have dl := Rep.dp ok2.sub 6 (.lst ds) v1 hk.2 r1'
            cases r1 with
            | lst hs hr =>
              refine ⟨_, _, d2.py, pyAll ds, j, y.py, rfl, rfl, dl, Rep.dp ok2.sub 5 d2 v2 hk.1 r2, okD_shaped (n := 6) (by decide) (d := .lst ds) hk.2, okD_shaped (by decide) hk.1, pyAll_at hy, ?_, fun m z hm hz => ?_, PostE.here post2 ok2 (.int _)⟩
              · rw [← eqD_py 5 y d2 (oky hy) hk.1]
                exact hye
              · obtain ⟨z', h1, rfl⟩ := pyAll_get hz
                rw [← eqD_py 5 z' d2 (oky h1) hk.1]
                exact hno m z' hm h1
          · exact post2.elim
        · exact post2.elim
    | _ => exact post1.elim
end
end DL
set_option Elab.async false
set_option linter.all false
set_option maxRecDepth 100000
set_option maxHeartbeats 1000000
namespace DL
open PySem PySem.Spec PyProof.Rows L2
section
variable {X : Cx} {pins : List (Addr × Obj)} {σ : L2.St} {H : Hp} {s : Shared}
/-- a pinned exception becomes a tracked one -/
theorem track {a C : Addr} {ob : Obj} (I : Inv X ((a, ob) :: pins) σ H s) (hz : Zc (.ref C) none ob) (hf : ∃ vs, ob.data = .fields vs) (n0 : X.s_0.heap.get? a = none) (np : ∀ p ∈ X.pn ++ pins, p.1 ≠ a) : Inv X pins σ (upd H a (ExcO C a)) s := by
  obtain ⟨g1, g2, g3, g4, g5⟩ := I.pin (a, ob) (List.mem_append_right _ List.mem_cons_self)
  have g2' : H a = none := g2
  refine ⟨I.ok, I.os, I.bare, ⟨I.base.keep, I.base.slot, fun b o e n x => ?_, I.base.there, fun b xs e => ?_, fun b o u e => ?_, fun b ps e => ?_⟩, I.loc, I.cell, ?_, fun x c e => ?_, fun p hp => ?_, ?_, I.len⟩
  · rw [upd_ne (fun z => by rw [z, n0] at e; cases e)]
    exact I.base.free b o e n x
  · have q := I.base.tups b xs e
    rw [upd_ne (ne_of_none q g2')]
    exact q
  · have q := I.base.frzs b o u e
    rw [upd_ne (ne_of_none q g2')]
    exact q
  · obtain ⟨m, q⟩ := I.base.tbls b ps e
    exact ⟨m, by rw [upd_ne (ne_of_none q g2')]; exact q⟩
  · rw [upd_ne (Ne.symm g3)]
    exact I.free
  · obtain ⟨v, o, h1, h2⟩ := I.cell x c e
    rw [upd_ne (fun z => by
      rw [z, g1] at h1
      cases h1
      exact g5 v h2)]
    exact I.freeC x c e
  · obtain ⟨k1, k2, k3, k4, k5⟩ := I.pin p (by
      rcases List.mem_append.mp hp with z | z
      · exact List.mem_append_left _ z
      · exact List.mem_append_right _ (List.mem_cons_of_mem _ z))
    exact ⟨k1, by rw [upd_ne (np p hp)]; exact k2, k3, k4, k5⟩
  · exact I.hok.laidN (fun _ _ z => z) g2' ⟨⟨ob, g1, hz, hf⟩, ⟨ob, g1⟩, fun h1 h2 ⟨o, q, r⟩ k => ⟨o, k o q, r⟩⟩
end
/-- what the clause wishes of an exception of the body -/
def wKeep (K : PySem.W.Frag) (c : Value) (i k : Nat) (Dn : Ends) : WX := fun cls d σ H =>
  ∃ C, cls = .ref C ∧ d = none ∧ PySem.W.exmOne K cls c = some true ∧ ∀ a, H a = none → Dn.nx (((σ.set i (some (.ref a))).set k (some (.ref a))).set i none) (upd H a (ExcO C a))
/-- an exception that came out of a try's body: sI is the state that it rose in, t the one that it is held in -/
structure Fell (X : Cx) (pins : List (Addr × Obj)) (σ : L2.St) (H : Hp) (sI : Shared) (B : Heap) (a : Addr) (Z : Obj → Prop) (t : Shared) : Prop where
  inv : Inv X pins σ H sI
  below : ∀ b o, sI.heap.get? b = some o → b ∉ frs X.stack → B.get? b = some o
  up : sI.heap.UpToSlots t.heap
  free : H a = none
  os : t.os = sI.os
  bare : AllBare t.gens
  fly : HandSPX.FlyingZ B X.stack a Z t.heap
namespace Fell
section
variable {X : Cx} {pins : List (Addr × Obj)} {σ : L2.St} {H : Hp} {sI t : Shared} {B : Heap} {a : Addr} {Z : Obj → Prop} (F : Fell X pins σ H sI B a Z t)
include F
theorem here : Inv X pins σ H t := F.inv.landed F.below F.fly.1 F.up F.os F.bare
theorem again {h : Heap} (fl : HandSPX.FlyingZ B X.stack a Z h) (u : t.heap.UpToSlots h) : Fell X pins σ H sI B a Z { t with heap := h } := { F with up := F.up.trans u, fly := fl }
theorem noFrame : a ∉ frs X.stack := fun m => by
  have ⟨o, vs, e, _, d⟩ := F.fly.there
  have ⟨_, o', e', no⟩ := F.fly.2.2.1.mem m
  cases e.symm.trans e'
  exact no vs d
/-- it is newer than the state that it rose in -/
theorem newer (o : Obj) : sI.heap.get? a ≠ some o := fun e => nomatch (F.below a o e F.noFrame).symm.trans F.fly.2.1
theorem unpinned (p : Addr × Obj) (hp : p ∈ X.pn ++ pins) : p.1 ≠ a := fun z => F.newer p.2 (z ▸ (F.inv.pin p hp).1)
theorem unborn (hex : X.ex = []) : X.s_0.heap.get? a = none := Option.eq_none_iff_forall_ne_some.mpr fun o q =>
  have ⟨o', e⟩ := F.inv.base.there a o q (hex ▸ List.not_mem_nil)
  F.newer o' e
/-- the clause's suite may start -/
theorem suite (hs : X.stack = X.env :: X.outer) (hf : X.env.frame = some X.env.locals) : ∃ o, Z o ∧ (∃ vs, o.data = .fields vs) ∧ t.heap.get? a = some o ∧ Inv (X.suite a ((a, o) :: (X.pn ++ pins))) [] σ H t := by
  have ⟨o, vs, e, z, d⟩ := F.fly.there
  have all : frs X.stack = X.env.locals :: frs X.outer := by rw [hs]; simp only [frs, List.filterMap_cons, hf]
  have ⟨n1, n2⟩ := not_or.mp (mt List.mem_cons.mpr (all ▸ F.noFrame))
  exact ⟨o, z, ⟨vs, d⟩, e, F.here.suite e d F.free n1 n2⟩
end
end Fell
section
variable {X : Cx} {x n y : Str} {c : Value} {i k : Nat} {body : List Stmt} {np q1 q2 q3 pos pos' : Pos} {tb : WX → TS}
/-- the class that the clause names -/
theorem names_read {a : Addr} {pn : List (Addr × Obj)} {σ : L2.St} {H : Hp} {t : Shared} {Q E : Value → Shared → Prop} (hc : Names X x c) (S : Inv (X.suite a pn) [] σ H t) (q : Q c t) : wpAny (model X.prog X.w) (X.A.mark (some (.ref a))) (eval (.Name x np) X.env) Q E t := by
  rcases hc with ⟨c1, c2, c3 | ⟨c3, c4, c5⟩⟩
  · exact ld_glob (X := X.suite a pn) S c1 c3 q c2
  · exact ld_blt (X := X.suite a pn) S c1 c3 c4 q c5 c2
/-- a suite that does nothing but go on -/
theorem only_next {pins : List (Addr × Obj)} {N : L2.St → Hp → Prop} {fl : Flow} {t : Shared} (out : SP X pins ⟨N, fun _ _ => False, fun _ _ => False, fun _ _ => False⟩ fl t) : fl = .next ∧ ∃ σ H, Inv X pins σ H t ∧ N σ H := by
  cases fl
  case next => exact And.intro rfl out
  case ret => exact (let ⟨_, _, _, _, _, z⟩ := out; z : False).elim
  all_goals exact (let ⟨_, _, _, z⟩ := out; z : False).elim
/-- a try's body that came to its end without an exception -/
theorem body_end {pins pn : List (Addr × Obj)} {Dn : Ends} {fl : Flow} {t u : Shared} {σ : L2.St} {H : Hp} {xe : Value → Shared → Prop} (I : Inv X pins σ H u) (out : SP (X.tr (X.pn ++ pins) xe) [] Dn fl t) : SP X pins Dn fl t := by
  cases fl
  case ret => exact let ⟨v, τ, G, J, r, q⟩ := out; ⟨v, τ, G, J.ofTry I.ok, r, q⟩
  all_goals exact let ⟨τ, G, J, q⟩ := out; ⟨τ, G, J.ofTry I.ok, q⟩
/-- behind the suite the exception is one of the pinned objects -/
theorem suite_over {a : Addr} {o : Obj} {pins : List (Addr × Obj)} {σ : L2.St} {H : Hp} {t u : Shared} {σ0 : L2.St} {H0 : Hp} (I : Inv X pins σ0 H0 u) (S : Inv (X.suite a ((a, o) :: (X.pn ++ pins))) [] σ H t) : Inv X ((a, o) :: pins) σ H t :=
  ⟨I.ok, S.os, S.bare, S.base, S.loc, S.cell, S.free, S.freeC, fun p hp => S.pin p (by
    show p ∈ ((a, o) :: (X.pn ++ pins)) ++ []
    simp only [List.mem_append, List.mem_cons, List.not_mem_nil, or_false] at hp ⊢
    rcases hp with z | z | z
    · exact Or.inr (Or.inl z)
    · exact Or.inl z
    · exact Or.inr (Or.inr z)), S.hok, S.len⟩
theorem ps_try_keep (hs : X.stack = X.env :: X.outer) (hf : X.env.frame = some X.env.locals) (hex : X.ex = []) (hN : X.N.Nodup) (hi : X.N[i]? = some n) (hln : X.env.kindOf n = some .local) (hk : X.N[k]? = some y) (hly : X.env.kindOf y = some .local) (hc : Names X x c)
    (hb : ∀ (W : WX) (pn : List (Addr × Obj)) (xe : Value → Shared → Prop), Takes (X.tr pn xe) W → PSs (X.tr pn xe) body (tb W))
    (hd : (n == ("__debug__" : Str)) = false := by decide) (hcd : (n == ("__classdict__" : Str)) = false := by decide) (hsw : swapsWith (.Name n q2) (some (.Name y q1)) q3.line X.env = pure false := by rfl) :
    PS X (.Try body [.ExceptHandler (some (.Name x np)) (some n) [.Assign [.Name y q1] (.Name n q2) q3] pos'] [] [] pos) (fun Dn σ H => tb (wKeep X.K c i k Dn) Dn σ H) := by
  constructor
  intro pins s σ H Dn I post
  have takes : Takes (X.tr (X.pn ++ pins) (fun ev t1 => wpAny (model X.prog X.w) X.A (noteFrame ev X.env) (fun _ t2 => wpAny (model X.prog X.w) X.A (setFlight ev none) (fun _ t3 =>
      wpAny (model X.prog X.w) X.A (handleBy ev X.env [.ExceptHandler (some (.Name x np)) (some n) [.Assign [.Name y q1] (.Name n q2) q3] pos']) (SP X pins Dn) X.xe t3) X.xe t2) X.xe t1)) (wKeep X.K c i k Dn) := by
    rintro _ t ⟨a, B, sI, pn1, σ1, H1, _, _, rfl, J, nb, up, sky, free, ho, hg, C, rfl, rfl, hm, go⟩
    refine Sky.land (env := X.env) (outer := X.outer) Zc.steady (hs ▸ I.ok.frames) hf (hs ▸ sky) fun h3 fl up3 => ?_
    have F : Fell X pins σ1 H1 sI B a (Zc (.ref C) none) { t with heap := h3 } := ⟨J.ofTry I.ok, nb, up.trans up3, free, ho, hg, hs ▸ fl⟩
    obtain ⟨o3, z3, _, e3, S3⟩ := F.suite hs hf
    have match_ := PySem.W.exm_one (M := model X.prog X.w) F.here.kIn (fun _ _ _ _ old q => wpAny_typeOf_ref (old _ _ e3) (z3.1 ▸ q)) hm
    refine wpAny_handleBy_cons ?_ (fun z => nomatch z)
    apply codeAny_handlers_test
    apply names_read hc S3
    apply match_.here
    refine codeAny_handlers_suite_as (HandSPX.lands_againZ F.fly fun h4 fl4 up4 => ?_)
    have F4 := F.again fl4 up4
    obtain ⟨o4, z4, d4, e4, S4⟩ := F4.suite hs hf
    have named : i < σ1.length := F.inv.len ▸ (List.getElem?_eq_some_iff.mp hi).1
    refine store_ok (X := X.suite a ((a, o4) :: (X.pn ++ pins))) (v := V.ref a) S4 hN hi (Or.inl hln) rfl (fun s5 S5 => ?_) (Or.inr hln)
    have body := pss_one (ps_set (X := X.suite a ((a, o4) :: (X.pn ++ pins))) (i := k) hN hk (Or.inl hly) (pe_var (i := i) (pos := q2) hi (Or.inl hln) hd hcd) hsw (Or.inr hly))
    refine wpAny_mono (body.run [] s5 _ H1 ⟨fun σ6 H6 => σ6 = (σ1.set i (some (.ref a))).set k (some (.ref a)) ∧ H6 = H1, fun _ _ => False, fun _ _ => False, fun _ _ => False⟩ S5 ⟨.ref a, List.getElem?_set_self named, rfl, rfl⟩) (fun fl s6 out => ?_) fun _ _ z => nomatch z
    obtain ⟨rfl, _, _, S6, rfl, rfl⟩ := only_next out
    exact gone_ok (suite_over I S6) hN hi hln fun s7 I7 => ⟨_, _, track I7 z4 d4 (F.unborn hex) F.unpinned, go a free⟩
  refine wpAny_Try_except (thn ((hb _ _ _ takes).run [] s σ H Dn (I.toTry _) post) fun fl s1 out => ?_)
  have out := body_end (pn := []) I out
  cases fl
  case next => exact wpAny_execs_nil out
  all_goals exact out
end
section
variable (K : PySem.W.Frag) (ca : Nat → Addr)
def rdX (E : L2.St → XK) (f : DE) : TE := fun σ H Q => ∃ g0 g ρ S, g.H = H ∧ Ok K ca g S ∧ EnvR K ca g0 g σ ρ ∧ PostE K ca (E σ) g (f ρ S) Q
def PostSX (E : XK) (g0 g : G) (o : OutS) (Dn : Ends) : Prop := match o with
  | .nx ρ S => ∀ σ g', Ext g0 g' → Grow g g' → Ok K ca g' S → EnvR K ca g0 g' σ ρ → Dn.nx σ g'.H
  | .exc c S => ∀ g', Ext g0 g' → Ext g g' → Ok K ca g' S → E (.ref (ca c)) none g'.H
  | _ => False
def rdSX (E : L2.St → XK) (f : DS) : TS := fun Dn σ H => ∃ g0 g ρ S, g.H = H ∧ Ext g0 g ∧ Ok K ca g S ∧ EnvR K ca g0 g σ ρ ∧ PostSX K ca (E σ) g0 g (f ρ S) Dn
end
def eCallN (m : List D → Store → Out) (a : DA) : DE := fun ρ S => match a ρ S with
  | .ok ds S1 => m ds S1
  | _ => .bad
def sIfN (c : DE) (t u : DS) : DS := fun ρ S => match c ρ S with
  | .ok (.bl true) S1 => t ρ S1
  | .ok (.bl false) S1 => u ρ S1
  | _ => .bad
section
variable {X : Cx} {ca : Nat → Addr} {E : L2.St → XK} {a b c e : Expr} {es : List Expr} {fa fb fc f : DE} {fr : DA} {p pos : Pos} {k j m : Nat} {x : Str} {sem : List D → Store → Out}
theorem gx_call (F : FnD X.prog X.w X.K X.mg X.base ca j x m sem) (hr : Room k X.A) (hj : j ≤ k) (hg : Gl X x) (hx : ∀ σ, PassesAt (L2.CX X.prog X.w) X σ (E σ))
    (ha : PA X (a :: es) (rdA X.K ca m E0 fr)) (hdb : (x == ("__debug__" : Str)) = false := by decide) (he : starEach (a :: es) X.env = (false, eval a X.env) :: starEach es X.env := by rfl) (hpl : (backTo pos (starEach es X.env)).any (·.1) = false := by rfl) :
    PE X (.Call (.Name x p) (a :: es) [] pos) (rdX X.K ca E (eCallN sem fr)) := by
  obtain ⟨f, fd, ps, h1, h2, h3, h4⟩ := F.ex
  refine wkE (pe_callS (E := E) h4 (hr.mono hj) hg h1 h2 h3 hx ha hdb he hpl) fun σ H Q q => ?_
  obtain ⟨g0, g, ρ, S, rfl, ok, env, post⟩ := q
  refine ⟨g0, g, ρ, S, rfl, ok, env, ?_⟩
  unfold eCallN at post
  cases q : fr ρ S with
  | ok ds S1 =>
    rw [q] at post
    exact fun vs g1 e1 ok1 r1 hl => ⟨g1, S1, ds, rfl, ok1, r1, hl, PostE.ext e1 post⟩
  | exc c S1 => rw [q] at post; exact post.elim
  | bad => rw [q] at post; exact post.elim
theorem gsx_expr (he : PE X e (rdX X.K ca E f)) (hs : swapsWith e none pos.line X.env = pure false := by rfl) : PS X (.Expr e pos) (rdSX X.K ca E (sExpr f)) := wkS (ps_expr he hs) fun Dn σ H q => by
  obtain ⟨g0, g, ρ, S, rfl, e0, ok, env, post⟩ := q
  refine ⟨g0, g, ρ, S, rfl, ok, env, ?_⟩
  unfold sExpr at post
  cases q : f ρ S with
  | ok d S1 =>
    rw [q] at post
    exact fun v g1 e1 ok1 r1 => post σ g1 (e0.trans e1) e1.grow ok1 (env.ext e1)
  | exc c S1 =>
    rw [q] at post
    exact fun g1 e1 ok1 => post g1 (e0.trans e1) e1 ok1
  | bad => rw [q] at post; exact post
theorem PostSX.ext {K : PySem.W.Frag} {E : XK} {g0 g g1 : G} {o : OutS} {Dn : Ends} (e : Ext g g1) (h : PostSX K ca E g0 g o Dn) : PostSX K ca E g0 g1 o Dn := by
  cases o with
  | nx ρ S => exact fun σ g' a b c d => h σ g' a (e.grow.trans b) c d
  | exc c S => exact fun g' a b c => h g' a (e.trans b) c
  | _ => exact h
theorem gsx_if {st su : List Stmt} {t u : DS} (hc : PT X c (rdT X.K ca E0 fc)) (ht : PSs X st (rdSX X.K ca E t)) (hu : PSs X su (rdSX X.K ca E u)) : PS X (.If c st su pos) (rdSX X.K ca E (sIfN fc t u)) := wkS (ps_if hc ht hu) fun Dn σ H q => by
  obtain ⟨g0, g, ρ, S, rfl, e0, ok, env, post⟩ := q
  refine ⟨g0, g, ρ, S, rfl, ok, env, ?_⟩
  unfold sIfN at post
  cases q : fc ρ S with
  | ok d S1 =>
    rw [q] at post
    intro v g1 e1 ok1 r1
    cases r1 with
    | bl kk =>
      refine ⟨kk, rfl, ?_⟩
      cases kk with
      | true => exact iteT ⟨g0, g1, ρ, S1, rfl, e0.trans e1, ok1, env.ext e1, PostSX.ext e1 post⟩
      | false => exact iteF ⟨g0, g1, ρ, S1, rfl, e0.trans e1, ok1, env.ext e1, PostSX.ext e1 post⟩
    | _ => exact post.elim
  | exc c S1 => rw [q] at post; exact post.elim
  | bad => rw [q] at post; exact post.elim
end
def sTry (k i : Nat) (fb : DS) : DS := fun ρ S => match fb ρ S with
  | .nx ρ' S' => .nx ρ' S'
  | .exc c S' => if decide (1 ≤ c) && decide (c < 7) then .nx (((ρ.set i (.val (.exc c))).set k (.val (.exc c))).set i .emp) S' else .bad
  | _ => .bad
/-- the classes at 1 to 6 are heirs of the one at 0 -/
def Heirs (K : PySem.W.Frag) (ca : Nat → Addr) : Prop := ∀ c, 1 ≤ c → c < 7 → PySem.W.exmOne K (.ref (ca c)) (.ref (ca 0)) = some true
theorem gs_try {X : Cx} {ca : Nat → Addr} {E : XK} {x n y : Str} {i k : Nat} {body : List Stmt} {np q1 q2 q3 pos pos' : Pos} {fb : DS} (hs : X.stack = X.env :: X.outer) (hf : X.env.frame = some X.env.locals) (hex : X.ex = []) (hN : X.N.Nodup) (hi : X.N[i]? = some n) (hln : X.env.kindOf n = some .local) (hk : X.N[k]? = some y) (hly : X.env.kindOf y = some .local)
    (hg : Gl X x) (hm : X.mg x = some (.ref (ca 0))) (hh : Heirs X.K ca)
    (hb : ∀ (W : WX) (pn : List (Addr × Obj)) (xe : Value → Shared → Prop), Takes (X.tr pn xe) W → PSs (X.tr pn xe) body (rdSX X.K ca (WE W) fb))
    (hdx : (x == ("__debug__" : Str)) = false := by decide) (hd : (n == ("__debug__" : Str)) = false := by decide) (hcd : (n == ("__classdict__" : Str)) = false := by decide) (hsw : swapsWith (.Name n q2) (some (.Name y q1)) q3.line X.env = pure false := by rfl) :
    PS X (.Try body [.ExceptHandler (some (.Name x np)) (some n) [.Assign [.Name y q1] (.Name n q2) q3] pos'] [] [] pos) (rdS X.K ca E (sTry k i fb)) := by
  refine wkS (ps_try_keep (c := .ref (ca 0)) (tb := fun W => rdSX X.K ca (WE W) fb) hs hf hex hN hi hln hk hly ⟨hg, hdx, .inl hm⟩ hb hd hcd hsw) fun Dn σ H q => ?_
  obtain ⟨g0, g, ρ, S, rfl, e0, ok, env, post⟩ := q
  refine ⟨g0, g, ρ, S, rfl, e0, ok, env, ?_⟩
  unfold sTry at post
  cases q : fb ρ S with
  | nx ρ' S' => rw [q] at post; exact post
  | exc c S' =>
    rw [q] at post
    simp only at post
    split at post
    · rename_i hc
      rw [Bool.and_eq_true, decide_eq_true_iff, decide_eq_true_iff] at hc
      intro g1 a1 a2 ok1
      refine ⟨ca c, rfl, rfl, hh c hc.1 hc.2, fun a ha => ?_⟩
      have e2 : Ext g1 (g1.frz a (ExcO (ca c) a)) := ext_frz ok1 ha
      have env2 := (env.ext a2).ext e2
      have r : RepG X.K ca (g1.frz a (ExcO (ca c) a)) (.ref a) (.exc c) := .exc upd_same
      exact post _ (g1.frz a (ExcO (ca c) a)) (a1.trans e2) (a2.trans e2).grow (ok_frz ok1 ha) (((env2.set r i).set r k).wipe1 i)
    · exact post.elim
  | ret d S' => rw [q] at post; exact post.elim
  | brk ρ' S' => rw [q] at post; exact post.elim
  | cnt ρ' S' => rw [q] at post; exact post.elim
  | bad => rw [q] at post; exact post.elim
/-- what the error classes say of their instances -/
structure ErrC (K : PySem.W.Frag) (ca : Nat → Addr) : Prop where
  cls : ∀ c, 1 ≤ c → c < 7 → ExcC K (ca c)
  kit : ∀ c j, 1 ≤ c → c < 7 → j < 7 → PySem.W.kitOne K (.ref (ca c)) (.ref (ca j)) = some (decide (c = j) || decide (j = 0))
  val : ∀ c, 1 ≤ c → c < 7 → PySem.W.kitOne K (.ref (ca c)) (.type "ValueError") = some true
def rIsX (K : PySem.W.Frag) : List V → Hp → VK → Prop := fun xs H Q => ∃ (a C : Addr) (v : V) (cv : Value) (b : Bool), xs = [.ref a, v] ∧ H a = some (ExcO C a) ∧ ExcC K C ∧ (∀ u, RelV v u → u = cv) ∧ PySem.W.kitOne K (.ref C) cv = some b ∧ Q (.bl b) H
theorem call_isX {X : Cx} : CallR X (.builtin "isinstance") (rIsX X.K) := by
  intro pins s σ H xs us Q I r h
  obtain ⟨a, C, v, cv, b, rfl, ha, hC, hcv, e, q⟩ := h
  cases r with
  | cons rx rr =>
    cases rr with
    | cons rt rr =>
      cases rr
      cases rx
      have ec := hcv _ rt
      subst ec
      obtain ⟨⟨oe, hget, hz, vs, hv⟩, _⟩ := I.hok a _ ha
      have J : PySem.W.InstAt s.heap a oe C none := by
        obtain ⟨oc, od, oda, osl⟩ := oe
        obtain ⟨z1, z2⟩ := hz
        dsimp only at z1 z2 hv
        subst z1 z2 hv
        exact ⟨hget, rfl, rfl, trivial⟩
      refine PySem.W.kia_one (PySem.W.handS_kitx_exc hC.hg hC.hk hC.hs hC.hd hC.ha hC.hn hC.ht hC.hm) I.kIn J e (fun z => nomatch z) fun tk => ?_
      exact ⟨.bl b, H, I.kept (t' := tk) fun _ _ z => z, rfl, q⟩
def oIsE (j : Nat) : D1 := fun d S => match d with
  | .exc c => if decide (1 ≤ c) && decide (c < 7) && decide (j < 7) then .ok (.bl (decide (c = j) || decide (j = 0))) S else .bad
  | _ => .bad
def oIsV : D1 := fun d S => match d with
  | .exc c => if decide (1 ≤ c) && decide (c < 7) then .ok (.bl true) S else .bad
  | _ => .bad
section
variable {X : Cx} {ca : Nat → Addr} {E : XK} {a : Expr} {fa : DE} {x : Str} {j : Nat} {p p2 pos : Pos}
theorem ge_isE (T : ErrC X.K ca) (hg : Gl X "isinstance") (hm : X.mg "isinstance" = none) (hgT : Gl X x) (hmT : X.mg x = some (.ref (ca j))) (ha : PE X a (rdE X.K ca E fa)) (hdx : (x == ("__debug__" : Str)) = false := by decide)
    (h1 : starEach [a, .Name x p2] X.env = (false, eval a X.env) :: starEach [.Name x p2] X.env := by rfl) (h2 : starEach [.Name x p2] X.env = (false, eval (.Name x p2) X.env) :: starEach [] X.env := by rfl)
    (hpl : (backTo pos (starEach [.Name x p2] X.env)).any (·.1) = false := by rfl) : PE X (.Call (.Name "isinstance" p) [a, .Name x p2] [] pos) (rdE X.K ca E (eUn (oIsE j) fa)) :=
  wkE (pe_callB call_isX hg hm bb_isinstance (pa_cons ha (pa_cons (pe_glob (v := .ref (ca j)) hgT hmT rfl hdx) pa_nil h2) h1) (by decide) (by decide) h1 hpl) fun σ H Q q => by
    obtain ⟨g0, g, ρ, S, rfl, ok, env, post⟩ := q
    refine ⟨g0, g, ρ, S, rfl, ok, env, PostE.bind post fun d1 S1 v1 g1 e1 ok1 r1 post1 => ?_⟩
    unfold oIsE at post1
    split at post1
    · split at post1
      · rename_i c hc
        rw [Bool.and_eq_true, Bool.and_eq_true, decide_eq_true_iff, decide_eq_true_iff, decide_eq_true_iff] at hc
        cases r1 with
        | exc hF => exact ⟨_, ca c, .ref (ca j), .ref (ca j), _, rfl, ok1.sub _ _ hF, T.cls c hc.1.1 hc.1.2, fun u hu => hu, T.kit c j hc.1.1 hc.1.2 hc.2, PostE.here post1 ok1 (.bl _)⟩
      · exact post1.elim
    · exact post1.elim
theorem ge_isV (T : ErrC X.K ca) (hg : Gl X "isinstance") (hm : X.mg "isinstance" = none) (hgT : Gl X "ValueError") (hmT : X.mg "ValueError" = none) (ha : PE X a (rdE X.K ca E fa))
    (h1 : starEach [a, .Name "ValueError" p2] X.env = (false, eval a X.env) :: starEach [.Name "ValueError" p2] X.env := by rfl) (h2 : starEach [.Name "ValueError" p2] X.env = (false, eval (.Name "ValueError" p2) X.env) :: starEach [] X.env := by rfl)
    (hpl : (backTo pos (starEach [.Name "ValueError" p2] X.env)).any (·.1) = false := by rfl) : PE X (.Call (.Name "isinstance" p) [a, .Name "ValueError" p2] [] pos) (rdE X.K ca E (eUn oIsV fa)) :=
  wkE (pe_callB call_isX hg hm bb_isinstance (pa_cons ha (pa_cons (pe_bltn (v := .ty "ValueError") hgT hmT (by decide +kernel) rfl (by decide) (by decide)) pa_nil h2) h1) (by decide) (by decide) h1 hpl) fun σ H Q q => by
    obtain ⟨g0, g, ρ, S, rfl, ok, env, post⟩ := q
    refine ⟨g0, g, ρ, S, rfl, ok, env, PostE.bind post fun d1 S1 v1 g1 e1 ok1 r1 post1 => ?_⟩
    unfold oIsV at post1
    split at post1
    · split at post1
      · rename_i c hc
        rw [Bool.and_eq_true, decide_eq_true_iff, decide_eq_true_iff] at hc
        cases r1 with
        | exc hF => exact ⟨_, ca c, .ty "ValueError", .type "ValueError", _, rfl, ok1.sub _ _ hF, T.cls c hc.1 hc.2, fun u hu => hu, T.val c hc.1 hc.2, PostE.here post1 ok1 (.bl _)⟩
      · exact post1.elim
    · exact post1.elim
end
end DL
set_option Elab.async false
set_option linter.all false
set_option maxRecDepth 100000
set_option maxHeartbeats 1000000
namespace DL
open PySem PySem.Spec PyProof.Rows L2
def rCountF (K : PySem.W.Frag) : V → List V → Hp → VK → Prop := fun x xs H Q => ∃ (a : Addr) (ys : List V) (y : V), x = V.ref a ∧ xs = [y] ∧ SqL K H a ys ∧ flatV y = true ∧ ys.all flatV = true ∧ Q (.int ((ys.countP fun z => eqV z y : Nat) : Int)) H
theorem count_vals {y : V} : ∀ {ys : List V} {us : List Value}, Vals ys us → ys.all flatV = true → us.countP (eqU y) = ys.countP fun z => eqV z y
  | _, _, .nil, _ => rfl
  | z :: ys, u :: us, .cons r t, f => by
    rw [List.all_cons, Bool.and_eq_true] at f
    rw [List.countP_cons, List.countP_cons, count_vals t f.2, eqU_of r f.1]
theorem mt_countF {X : Cx} : MtR X "list.count" (rCountF X.K) := by
  intro pins s σ H x xs v us Q I rx rxs h
  obtain ⟨a, ys, y, rfl, rfl, hs, fy, fys, q⟩ := h
  cases rx
  cases rxs with
  | cons ry rt =>
    rename_i uy ut
    cases rt
    obtain ⟨its, rv, ⟨⟨oc, od, oda, osl⟩, n, ho, c1, c2, c3⟩, _⟩ := I.list hs
    simp only at c1 c3
    subst c1 c3
    refine call_meets PySem.F.slot_list_count ⟨_, ho, rfl⟩ PySem.F.entry_list_count (PySem.F.args_list_count_2 _ _)
      (SeqAt.list_countAt a its.toArray n od osl uy (eqU y)) ⟨ho, fun u' hu' => mem_eqAt ry fy rv fys u' (by simpa using hu'), ?_⟩
    have ec : its.toArray.toList.countP (eqU y) = ys.countP fun z => eqV z y := count_vals rv fys
    refine ⟨.int ((ys.countP fun z => eqV z y : Nat) : Int), H, I.tok _, ⟨s.toks, ?_⟩, q⟩
    rw [ec]
def eCnt (fa fb : DE) : DE := fun ρ S => (fa ρ S).bind fun x S1 => match x with
  | .lst ds => (fb ρ S1).bind fun d S2 => if flatD d && ds.all flatD then .ok (.int ((ds.countP fun z => eqD z d : Nat) : Int)) S2 else .bad
  | _ => .bad
section
variable {X : Cx} {ca : Nat → Addr} {E : XK} {K : PySem.W.Frag} {a b : Expr} {fa fb : DE} {apos cpos : Pos}
theorem RepAll.cnt {A : List Addr} {F : Hp} {w : V} {e : D} (q : Rep K ca A F w e) (h' : flatD e = true) : ∀ {vs : List V} {ds : List D}, RepAll K ca A F vs ds → ds.all flatD = true → (vs.countP fun z => eqV z w) = ds.countP fun z => eqD z e
  | _, _, .nil, _ => rfl
  | _, _, .cons r t, h => by
    rw [List.all_cons, Bool.and_eq_true] at h
    rw [List.countP_cons, List.countP_cons, RepAll.cnt q h' t h.2, r.eqV q h.1 h']
theorem ge_cnt (ha : PE X a (rdE X.K ca E fa)) (hb : PE X b (rdE X.K ca E fb))
    (hbase : attributeBase a "count" X.env (eval a X.env) = eval a X.env := by rfl)
    (hfew : ((backTo cpos (starEach [b] X.env)).all (fun x => !x.1) && (backToKw cpos (keywordEach [] X.env)).all (fun x => x.1.isSome)
      && decide ([b].length + ([] : List Keyword).length + (if ([] : List Keyword).isEmpty then 0 else 1) < 30)) = true := by rfl)
    (hline : (apos.endLine == cpos.line) = true := by rfl) (hs : starEach [b] X.env = (false, eval b X.env) :: starEach [] X.env := by rfl) (hplain : (backTo cpos (starEach [] X.env)).any (·.1) = false := by rfl) :
    PE X (.Call (.Attribute a "count" apos) [b] [] cpos) (rdE X.K ca E (eCnt fa fb)) :=
  wkE (pe_bm PySem.F.plainAttrs_list PySem.F.slot_list_count PySem.F.type_list_count mt_countF ha (pa_cons hb pa_nil hs) hbase hfew hline hs hplain) fun σ H Q q => by
    obtain ⟨g0, g, ρ, S, rfl, ok, env, post⟩ := q
    refine ⟨g0, g, ρ, S, rfl, ok, env, PostE.bind post fun d1 S1 v1 g1 e1 ok1 r1 post1 => ?_⟩
    cases d1 with
    | lst ds =>
      refine ⟨?_, g0, g1, ρ, S1, rfl, ok1, env.ext e1, PostE.bind post1 fun d2 S2 v2 g2 e2 ok2 r2 post2 => ?_⟩
      · cases r1 with
        | lst hs hr => exact .inl ⟨rfl, _, SqL.of (ok1.sub _ _ hs)⟩
      · split at post2
        · rename_i hk
          rw [Bool.and_eq_true] at hk
          have r1' := r1.ext e2
          cases r1' with
          | lst hs hr =>
            refine ⟨_, _, v2, rfl, rfl, SqL.of (ok2.sub _ _ hs), r2.flat hk.1, hr.flat hk.2, ?_⟩
            rw [RepAll.cnt r2 hk.1 hr hk.2]
            exact PostE.here post2 ok2 (.int _)
        · exact post2.elim
    | _ => exact post1.elim
end
def sOwn2 (i j : Nat) (fa fb : DE) : DS := fun ρ S => (fa ρ S).bindS fun d1 S1 => match d1 with
  | .lst xs => (fb ρ S1).bindS fun d2 S2 => match d2 with
    | .lst ys => .nx ((ρ.set i (.own xs)).set j (.own ys)) S2
    | _ => .bad
  | _ => .bad
theorem gs_own2 {X : Cx} {ca : Nat → Addr} {E : XK} {a b : Expr} {fa fb : DE} {pos : Pos} {i j : Nat} {x y : Str} {px py pt : Pos} {kt k2 pt2} (hc : X.calm = true) (hN : X.N.Nodup) (hi : X.N[i]? = some x) (hj : X.N[j]? = some y) (hij : i ≠ j)
    (hx : X.env.scope.names.lookup x = some .local) (hy : X.env.scope.names.lookup y = some .local) (ha : PE X a (rdF X.K ca E fa)) (hb : PE X b (rdF X.K ca E fb))
    (hw : swappedStores [.Tuple [.Name x px, .Name y py] kt pt] (.Tuple [a, b] k2 pt2) X.env = pure (some [x, y]))
    (hs : swapsWithSole [.Tuple [.Name x px, .Name y py] kt pt] (.Tuple [a, b] k2 pt2) pos.line X.env = pure false := by rfl)
    (h1 : starEach [a, b] X.env = (false, eval a X.env) :: starEach [b] X.env := by rfl) (h2 : starEach [b] X.env = (false, eval b X.env) :: starEach [] X.env := by rfl) :
    PS X (.Assign [.Tuple [.Name x px, .Name y py] kt pt] (.Tuple [a, b] k2 pt2) pos) (rdS X.K ca E (sOwn2 i j fa fb)) := wkS (ps_par hc hN hi hj hij hx hy (pa_cons ha (pa_cons hb pa_nil h2) h1) hw hs) fun Dn σ H q => by
  obtain ⟨g0, g, ρ, S, rfl, e0, ok, env, post⟩ := q
  refine ⟨g0, g, ρ, S, rfl, ok, env, ?_⟩
  unfold sOwn2 at post
  cases qa : fa ρ S with
  | bad => rw [qa] at post; exact post
  | exc c S1 => rw [qa] at post; exact fun g' e' ok' => post g' (e0.trans e') ok'
  | ok d1 S1 =>
    rw [qa] at post
    cases d1 with
    | lst xs =>
      intro p ys g1 e1 ok1 np fp pA hp r
      refine ⟨g0, g1, ρ, S1, rfl, ok1, env.ext e1, ?_⟩
      dsimp only [Out.bindS] at post
      cases qb : fb ρ S1 with
      | bad => rw [qb] at post; exact post
      | exc c S2 => rw [qb] at post; exact fun g' e' ok' => post g' (e0.trans (e1.trans e')) ok'
      | ok d2 S2 =>
        rw [qb] at post
        cases d2 with
        | lst zs => exact fun p2 ws g2 e2 ok2 np2 fp2 pA2 hp2 r2 => ⟨_, _, rfl, post _ g2 (e0.trans (e1.trans e2)) (e1.trans e2).grow ok2 ((env.setOwn e1 e0 np fp pA hp r i).setOwn e2 (e0.trans e1) np2 fp2 pA2 hp2 r2 j)⟩
        | _ => exact post
    | _ => exact post
theorem kit_own {K : PySem.W.Frag} {C J : Addr} {b : Bool} (hd : PySem.W.hasDictIn K J = true) (ht : PySem.W.typeIn K (.ref J) = some (.type "type")) (hs : PySem.W.subIn K (.ref C) (.ref J) = some b) (hc : PySem.W.subIn K (.ref C) (.ref C) = some true) : PySem.W.kitOne K (.ref C) (.ref J) = some b := by
  unfold PySem.W.kitOne
  by_cases e : (Value.ref C == Value.ref J) = true
  · rw [if_pos e]
    obtain rfl : C = J := Value.ref.inj (beq_iff_eq.mp e)
    rw [hs] at hc
    exact hc.symm
  · obtain ⟨cd, q, _⟩ := PySem.W.any_some hd
    rw [if_neg e]
    show (if ((PySem.W.clsIn K J).isSome && PySem.W.typeIn K (.ref J) == some (.type "type")) = true then PySem.W.subIn K (.ref C) (.ref J) else none) = some b
    rw [if_pos (by rw [q, ht] <;> rfl)]
    exact hs
theorem kit_val {K : PySem.W.Frag} {C : Addr} {b : Bool} (hs : PySem.W.subIn K (.ref C) (.type "ValueError") = some b) : PySem.W.kitOne K (.ref C) (.type "ValueError") = some b := by
  unfold PySem.W.kitOne
  have ne : ¬ (Value.ref C == Value.type "ValueError") = true := fun z => by
    have e : Value.ref C = Value.type "ValueError" := beq_iff_eq.mp z
    cases e
  rw [if_neg ne]
  show (if PySem.W.kitMeta "ValueError" = true then PySem.W.subIn K (.ref C) (.type "ValueError") else none) = some b
  rw [if_pos (by decide +kernel)]
  exact hs
theorem six {P : Nat → Prop} (h1 : P 1) (h2 : P 2) (h3 : P 3) (h4 : P 4) (h5 : P 5) (h6 : P 6) (c : Nat) (a : 1 ≤ c) (b : c < 7) : P c := by
  obtain rfl | rfl | rfl | rfl | rfl | rfl : c = 1 ∨ c = 2 ∨ c = 3 ∨ c = 4 ∨ c = 5 ∨ c = 6 := by omega
  all_goals assumption
theorem seven {P : Nat → Prop} (h0 : P 0) (h1 : P 1) (h2 : P 2) (h3 : P 3) (h4 : P 4) (h5 : P 5) (h6 : P 6) (c : Nat) (b : c < 7) : P c := by
  obtain rfl | rfl | rfl | rfl | rfl | rfl | rfl : c = 0 ∨ c = 1 ∨ c = 2 ∨ c = 3 ∨ c = 4 ∨ c = 5 ∨ c = 6 := by omega
  all_goals assumption
end DL
set_option Elab.async false
set_option linter.all false
set_option maxRecDepth 100000
set_option maxHeartbeats 1000000
namespace DL
open PySem PySem.Spec PyProof.Rows L2
def putD (f : Str) (d : D) : List (Str × D) → List (Str × D)
  | [] => [(f, d)]
  | (g, x) :: r => if g = f then (g, d) :: r else (g, x) :: putD f d r
section
variable {K : PySem.W.Frag} {ca : Nat → Addr} {A : List Addr} {F : Hp}
abbrev FsR (K : PySem.W.Frag) (ca : Nat → Addr) (A : List Addr) (F : Hp) (p : Str × V) (q : Str × D) : Prop := p.1 = q.1 ∧ Rep K ca A F p.2 q.2
theorem fs_get {f : Str} {d : D} : ∀ {fs : List (Str × V)} {fds : List (Str × D)}, Paired (FsR K ca A F) fs fds → fds.lookup f = some d → ∃ v, fs.lookup f = some v ∧ Rep K ca A F v d
  | _, _, .nil, h => by simp at h
  | (g, v) :: fs, (g', d') :: fds, .cons ⟨h1, h2⟩ t, h => by
    have e : g = g' := h1
    subst e
    rw [List.lookup_cons] at h ⊢
    cases q : f == g with
    | true =>
      rw [q] at h
      cases h
      exact ⟨v, rfl, h2⟩
    | false =>
      rw [q] at h
      exact fs_get t h
theorem fs_put {f : Str} {v : V} {d : D} (r : Rep K ca A F v d) : ∀ {fs : List (Str × V)} {fds : List (Str × D)}, Paired (FsR K ca A F) fs fds → Paired (FsR K ca A F) (putF f v fs) (putD f d fds)
  | _, _, .nil => .cons ⟨rfl, r⟩ .nil
  | (g, x) :: fs, (g', d') :: fds, .cons ⟨h1, h2⟩ t => by
    have e : g = g' := h1
    subst e
    unfold putF putD
    split
    · exact .cons ⟨rfl, r⟩ t
    · exact .cons ⟨rfl, h2⟩ (fs_put r t)
theorem fs_len : ∀ {fs : List (Str × V)} {fds : List (Str × D)}, Paired (FsR K ca A F) fs fds → fs.length = fds.length
  | _, _, .nil => rfl
  | _, _, .cons _ t => by rw [List.length_cons, List.length_cons, fs_len t]
end
def insD (S : Store) (d : D) : Option (Nat × List (Str × D)) := match d with
  | .obj n => match S[n]? with
    | some (.ins c fds) => if c = 7 then some (n, fds) else none
    | _ => none
  | _ => none
theorem insD_some {S : Store} {d : D} {n : Nat} {fds : List (Str × D)} (h : insD S d = some (n, fds)) : d = .obj n ∧ S[n]? = some (.ins 7 fds) := by
  unfold insD at h
  split at h
  · split at h
    · split at h
      · rename_i m c fs q e
        cases h
        subst e
        exact ⟨rfl, q⟩
      · cases h
    · cases h
  · cases h
theorem ins_at {K : PySem.W.Frag} {ca : Nat → Addr} {g : G} {S : Store} {v : V} {d : D} {n : Nat} {fds : List (Str × D)} (ok : Ok K ca g S) (r : RepG K ca g v d) (h : insD S d = some (n, fds)) :
    ∃ a dx fs, v = .ref a ∧ g.A[n]? = some a ∧ g.H a = some (.ins (ca 7) dx fs) ∧ Paired (FsR K ca g.A g.F) fs fds := by
  obtain ⟨rfl, hS⟩ := insD_some h
  cases r with
  | obj hA =>
    obtain ⟨a', ho, k1, k2, k3⟩ := ok.ob _ _ hS
    rw [hA] at k1
    cases k1
    cases ho with
    | ins C dx fs =>
      obtain ⟨rfl, k4⟩ := k3
      exact ⟨_, dx, fs, rfl, hA, k2, k4⟩
    | _ => exact k3.elim
def eFld (f : Str) (fa : DE) : DE := fun ρ S => (fa ρ S).bind fun x S1 => match insD S1 x with
  | some (_, fds) => match fds.lookup f with
    | some d => .ok d S1
    | none => .bad
  | none => .bad
def sFldS (f : Str) (fo fv : DE) : DS := fun ρ S => (fv ρ S).bindS fun d S1 => (fo ρ S1).bindS fun x S2 => match insD S2 x with
  | some (n, fds) => if fds.length < 1000 then .nx ρ (S2.set n (.ins 7 (putD f d fds))) else .bad
  | none => .bad
def eMake (sem : DC) (fa : DA) : DE := fun ρ S => (fa ρ S).bind fun ds S1 => match sem (.obj S1.length :: ds) (S1 ++ [.ins 7 []]) with
  | .ok .non S2 => .ok (.obj S1.length) S2
  | .ok _ _ => .bad
  | .exc c S2 => .exc c S2
  | .bad => .bad
/-- a method, by its name -/
structure FnM (P : Program) (w : World) (K : PySem.W.Frag) (mg : Str → Option Value) (base : Heap) (ca : Nat → Addr) (k : Nat) (m : Str) (n : Nat) (sem : DC) : Prop where
  ex : ∃ f fd ps, Meth K (ca 7) m f ∧ Binds K fd ps [] ∧ FnOk P w K mg base (L2.CX P w) k f fd ps (spD K ca n sem)
structure MethAt (K : PySem.W.Frag) (C : Addr) (m qual : Str) (st : Stmt) (ps : List Str) : Prop where
  ex : ∃ f fd, Meth K C m f ∧ Fun K m qual st f fd ∧ Binds K fd ps []
section
variable {P : Program} {w : World} {K : PySem.W.Frag} {mg : Str → Option Value} {base : Heap} {ca : Nat → Addr}
theorem methAt_mk {C f : Addr} {m qual : Str} {st : Stmt} {ps : List Str} {oc : Value} {od an : Option Addr} {osl : Array (Option Value)} {kV doc pm cdv ct : Value} (a : PySem.W.findIn K (.ref C) m = some (some (.ref f))) (i : PySem.W.isFn K (.ref f) = true)
    (l : K.lookup f = some ⟨oc, od, .func (PySem.W.fnOf m qual (defArgs st) (defBody st) (defScope st) .none kV doc pm an cdv ct), osl⟩) (c : PySem.W.codeIn K cdv qual = true) (k : PySem.W.keepIn K (.ref f) = true)
    (hb : ∀ (kV doc pm : Value) (an : Option Addr) (cdv ct : Value) (us : List Value), us.length = ps.length → bindArgs (PySem.W.fnOf m qual (defArgs st) (defBody st) (defScope st) .none kV doc pm an cdv ct) ⟨us, []⟩ = pure (ps.zip us)) : MethAt K C m qual st ps :=
  ⟨f, _, ⟨a, i, k⟩, fun_mk l c k, (fun_mk l c k).binds hb⟩
theorem fnAtM {m qual : Str} {st : Stmt} {N ps : List Str} {k : Nat} {fb : DS} (F : MethAt K (ca 7) m qual st ps) (Sc : FnScope N ps (defScope st))
    (hbody : ∀ (f : Addr) (cdv : Value) (A : Around) (outer : List Env) (s : Shared) (H : Hp) (E : XK), Room k (A.deeper (envOfC qual (defScope st) s.heap.objs.size f cdv)) →
      PSs (cxOf (L2.CX P w) P w K mg base N qual (defScope st) f cdv A outer s H E) (defBody st) (rdS K ca E fb)) : FnM P w K mg base ca (k + 1) m ps.length (runD N.length ps.length fb) := by
  obtain ⟨f, fd, h1, h2, h3⟩ := F.ex
  exact ⟨f, fd, ps, h1, h3, fnD h2 Sc (hbody f)⟩
end
section
variable {X : Cx} {ca : Nat → Addr} {E : XK} {a o e value : Expr} {es : List Expr} {fo fv fe : DE} {fr : DA} {f m x : Str} {k j n : Nat} {sem : DC} {pos pos' apos p : Pos}
theorem ge_fld (T : Cls X.K (ca 7)) (hn : NoAttr X.K (ca 7) f) (he : PE X e (rdE X.K ca E fe)) (hb : attributeBase e f X.env (eval e X.env) = eval e X.env := by rfl) : PE X (.Attribute e f pos) (rdE X.K ca E (eFld f fe)) := wkE (pe_fld he hb) fun σ H Q q => by
  obtain ⟨g0, g, ρ, S, rfl, ok, env, post⟩ := q
  refine ⟨g0, g, ρ, S, rfl, ok, env, PostE.bind post fun d1 S1 v1 g1 e1 ok1 r1 post1 => ?_⟩
  split at post1
  · rename_i n fds hi
    split at post1
    · rename_i d hl
      obtain ⟨a, dx, fs, rfl, h1, h2, h3⟩ := ins_at ok1 r1 hi
      obtain ⟨v, h4, h5⟩ := fs_get h3 hl
      exact ⟨a, _, dx, fs, v, rfl, h2, T, hn, h4, PostE.here post1 ok1 h5⟩
    · exact post1.elim
  · exact post1.elim
theorem gs_fld (T : Cls X.K (ca 7)) (hn : NoAttr X.K (ca 7) f) (ho : PE X o (rdE X.K ca E fo)) (hv : PE X value (rdE X.K ca E fv)) (hs : swapsWith value (some (.Attribute o f pos')) pos.line X.env = pure false := by rfl) :
    PS X (.Assign [.Attribute o f pos'] value pos) (rdS X.K ca E (sFldS f fo fv)) := wkS (ps_fld ho hv hs) fun Dn σ H q => by
  obtain ⟨g0, g, ρ, S, rfl, e0, ok, env, post⟩ := q
  refine ⟨g0, g, ρ, S, rfl, ok, env, PostS.bindE e0 post fun d1 S1 v1 g1 e1 ok1 r1 post1 => ?_⟩
  refine ⟨g0, g1, ρ, S1, rfl, ok1, env.ext e1, PostS.bindE (e0.trans e1) post1 fun d2 S2 v2 g2 e2 ok2 r2 post2 => ?_⟩
  split at post2
  · rename_i n fds hi
    split at post2
    · rename_i hl
      obtain ⟨a, dx, fs, rfl, h1, h2, h3⟩ := ins_at ok2 r2 hi
      refine ⟨a, _, dx, fs, rfl, h2, T, hn, by rw [fs_len h3]; exact hl, ?_⟩
      have rr : RepO X.K ca g2.A g2.F (.ins (ca 7) dx (putF f v1 fs)) (.ins 7 (putD f d1 fds)) := ⟨rfl, fs_put (r1.ext e2) h3⟩
      exact post2 σ (g2.put a (.ins (ca 7) dx (putF f v1 fs))) (ext_setH ((e0.trans e1).trans e2) h1) grow_put (ok_setH ok2 h1 rr) (env_setH ((env.ext e1).ext e2) h1)
    · exact post2.elim
  · exact post2.elim
structure MakeAt (K : PySem.W.Frag) (mg : Str → Option Value) (x : Str) (C : Addr) : Prop where
  ms : PySem.W.makesIn K C = true
  kp : PySem.W.keepIn K (.ref C) = true
  g : mg x = some (.ref C)
theorem ge_make (T : MakeAt X.K X.mg x (ca 7)) (F : FnM X.prog X.w X.K X.mg X.base ca j "__init__" (n + 1) sem) (hr : Room k X.A) (hj : j + 1 ≤ k) (hg : Gl X x) (hx : Passes (L2.CX X.prog X.w) X E)
    (ha : PA X (e :: es) (rdA X.K ca n E fr)) (hdb : (x == ("__debug__" : Str)) = false := by decide) (he : starEach (e :: es) X.env = (false, eval e X.env) :: starEach es X.env := by rfl) (hpl : (backTo pos (starEach es X.env)).any (·.1) = false := by rfl) :
    PE X (.Call (.Name x p) (e :: es) [] pos) (rdE X.K ca E (eMake sem fr)) := by
  obtain ⟨ff, fd, ps, h1, h3, h4⟩ := F.ex
  refine wkE (pe_make ⟨T.ms, h1.at_, h1.fn, T.kp⟩ h4 (hr.mono hj) hg T.g h3 .nil hx ha hdb he hpl) fun σ H Q q => ?_
  obtain ⟨g0, g, ρ, S, rfl, ok, env, post⟩ := q
  refine ⟨g0, g, ρ, S, rfl, ok, env, PostE.bindL post fun ds S1 vs g1 e1 ok1 r1 hl post1 => ?_⟩
  intro a dx ha hdx hne
  rw [List.append_nil]
  have okp : Ok X.K ca (g1.put dx (.own a)) S1 := ok_put ok1 (ok1.ffree hdx) fun z => ok1.there z hdx
  have ha' : (g1.put dx (.own a)).H a = none := by
    show upd g1.H dx (.own a) a = none
    rw [upd_ne hne.symm]
    exact ha
  have e2 : Ext g1 ((g1.put dx (.own a)).reg a (.ins (ca 7) dx [])) := (ext_put hdx).trans (ext_reg okp ha')
  have ok2 : Ok X.K ca ((g1.put dx (.own a)).reg a (.ins (ca 7) dx [])) (S1 ++ [.ins 7 []]) := ok_reg okp ha' ⟨rfl, .nil⟩
  have ro : RepG X.K ca ((g1.put dx (.own a)).reg a (.ins (ca 7) dx [])) (.ref a) (.obj S1.length) := .obj (by
    show (g1.A ++ [a])[S1.length]? = some a
    rw [← ok1.len, List.getElem?_append_right (Nat.le_refl _), Nat.sub_self]
    rfl)
  refine ⟨_, S1 ++ [.ins 7 []], .obj S1.length :: ds, rfl, ok2, .cons ro (r1.ext e2), by rw [List.length_cons, hl], ?_⟩
  cases qs : sem (.obj S1.length :: ds) (S1 ++ [.ins 7 []]) with
  | ok d S2 =>
    rw [qs] at post1
    cases d with
    | non =>
      intro v g' e' ok' r'
      cases r'
      exact ⟨rfl, post1 (.ref a) g' (e2.trans e') ok' (ro.ext e')⟩
    | _ => exact post1.elim
  | exc c S2 =>
    rw [qs] at post1
    exact fun g' e' ok' => post1 g' (e2.trans e') ok'
  | bad => rw [qs] at post1; exact post1.elim
end
end DL
set_option Elab.async false
set_option linter.all false
set_option maxRecDepth 100000
set_option maxHeartbeats 1000000
namespace DL
open PySem PySem.Spec PyProof.Rows L2
def gSlice (to : TE) (tl th : TO) : TG := fun v σ H Q => to σ H fun x H1 => tl σ H1 fun l H2 => th σ H2 fun u H3 => ∃ (p b : Addr) (xs ys : List V) (a c : Int), x = .ref p ∧ v = .ref b ∧ l = some a ∧ u = some c ∧ H3 p = some (.lst xs) ∧ H3 b = some (.lst ys) ∧ p ≠ b ∧ 0 ≤ a ∧ a ≤ c ∧ c ≤ xs.length ∧ xs.length + ys.length ≤ sizeLine ∧
  Q σ (upd H3 p (.lst (xs.take a.toNat ++ ys ++ xs.drop c.toNat)))
section
variable {X : Cx} {o : Expr} {lo hi : Option Expr} {to : TE} {tl th : TO} {pos sp : Pos}
theorem pg_slice (ho : PE X o to) (hl : PO X lo tl) (hh : PO X hi th)
    (ha : ∀ v, assign (.Subscript o (.Slice lo hi none sp) pos) X.env v = (do
      let ov ← holding [v] (eval o X.env)
      let iv ← holding [v, ov] (eval (.Slice lo hi none sp) X.env)
      standAt pos
      holding [v, ov, iv] (setItem ov iv v)
      release [iv, v, ov] []) := by intro _; rfl) : PG X (.Subscript o (.Slice lo hi none sp) pos) (gSlice to tl th) := by
  refine ⟨fun pins s σ H v u Q I r h => ?_⟩
  rw [ha]
  refine wpAny_bind (wpAny_holding (thn (ho.run pins s σ H _ I h) fun ov s1 ⟨x, H1, I1, r1, k1⟩ => wpAny_bind (wpAny_holding (wpAny_Slice (thn (hl.run pins s1 σ H1 _ I1 k1) fun vl s2 ⟨l, H2, I2, pl, k2⟩ => thn (hh.run pins s2 σ H2 _ I2 k2) fun vu s3 ⟨w, H3, I3, pu, k3⟩ => ?_)))))
  rw [evalPart_none]
  refine wpAny_pure ?_
  obtain ⟨p, b, xs, ys, a, c, rfl, rfl, rfl, rfl, hp, hb, hne, h0, hac, hc, hz, q⟩ := k3
  have I4 : Inv X pins σ H3 { s3 with heap := s3.heap.push { cls := .type "slice", data := .fields #[vl, vu, .none] } } := I3.kept (t' := s3.toks) fun _ _ e => Heap.get?_push_of_some _ e
  cases r1
  cases r
  have ra : RelV (.int a) vl := by
    cases pl
    exact ⟨_, rfl⟩
  have rc : RelV (.int c) vu := by
    cases pu
    exact ⟨_, rfl⟩
  refine wpAny_bind (wpAny_standAt (wpAny_bind (wpAny_holding (set_slice I4 hp hb hne (Heap.IsSliceOf.new ..) ra rc h0 hac hc hz fun s5 I5 => ?_))))
  exact wpAny_release ⟨σ, _, I5, q⟩
end
def sSlO (i : Nat) (fl fh fv : DE) : DS := fun ρ S => (fv ρ S).bindS fun d S1 => match d, ρ[i]? with
  | .lst ys, some (.own xs) => (fl ρ S1).bindS fun l S2 => match l with
    | .int a => (fh ρ S2).bindS fun u S3 => match u with
      | .int c => if decide (0 ≤ a) && decide (a ≤ c) && decide (c ≤ xs.length) && decide (xs.length + ys.length ≤ 100000) then .nx (ρ.set i (.own (xs.take a.toNat ++ ys ++ xs.drop c.toNat))) S3 else .bad
      | _ => .bad
    | _ => .bad
  | _, _ => .bad
theorem gs_slO {X : Cx} {ca : Nat → Addr} {E : XK} {x : Str} {i : Nat} {lo hi e : Expr} {fl fh fv : DE} {p2 p3 sp pos : Pos} (h : PE X (.Name x p2) (tVar i)) (hl : PE X lo (rdE X.K ca E fl)) (hh : PE X hi (rdE X.K ca E fh)) (he : PE X e (rdE X.K ca E fv))
    (hs : swapsWithSole [.Subscript (.Name x p2) (.Slice (some lo) (some hi) none sp) p3] e pos.line X.env = pure false := by rfl) (hw : swappedStores [.Subscript (.Name x p2) (.Slice (some lo) (some hi) none sp) p3] e X.env = pure none := by rfl)
    (h1 : (assignEach [.Subscript (.Name x p2) (.Slice (some lo) (some hi) none sp) p3] X.env).map (·.2) = [assign (.Subscript (.Name x p2) (.Slice (some lo) (some hi) none sp) p3) X.env] := by rfl) 
    (ha : ∀ v, assign (.Subscript (.Name x p2) (.Slice (some lo) (some hi) none sp) p3) X.env v = (do
      let ov ← holding [v] (eval (.Name x p2) X.env)
      let iv ← holding [v, ov] (eval (.Slice (some lo) (some hi) none sp) X.env)
      standAt p3
      holding [v, ov, iv] (setItem ov iv v)
      release [iv, v, ov] []) := by intro _; rfl) :
    PS X (.Assign [.Subscript (.Name x p2) (.Slice (some lo) (some hi) none sp) p3] e pos) (rdS X.K ca E (sSlO i fl fh fv)) := wkS (ps_asg he (pg_slice h (po_some hl) (po_some hh) ha) hs hw h1) fun Dn σ H q => by
  obtain ⟨g0, g, ρ, S, rfl, e0, ok, env, post⟩ := q
  refine ⟨g0, g, ρ, S, rfl, ok, env, PostS.bindE e0 post fun d1 S1 v1 g1 e1 ok1 r1 post1 => ?_⟩
  split at post1
  · rename_i ys xs hx
    obtain ⟨p, zs, k1, k2, k3, k4, k5, k6⟩ := (env.ext e1).own i xs hx
    refine ⟨.ref p, k1, g0, g1, ρ, S1, rfl, ok1, env.ext e1, PostS.bindE (e0.trans e1) post1 fun d2 S2 v2 g2 e2 ok2 r2 post2 => ?_⟩
    cases d2 with
    | int a =>
      cases r2
      refine ⟨a, rfl, g0, g2, ρ, S2, rfl, ok2, (env.ext e1).ext e2, PostS.bindE ((e0.trans e1).trans e2) post2 fun d3 S3 v3 g3 e3 ok3 r3 post3 => ?_⟩
      cases d3 with
      | int c =>
        cases r3
        dsimp only at post3
        split at post3
        · rename_i hc
          rw [Bool.and_eq_true, Bool.and_eq_true, Bool.and_eq_true, decide_eq_true_iff, decide_eq_true_iff, decide_eq_true_iff, decide_eq_true_iff] at hc
          obtain ⟨⟨⟨c1, c2⟩, c3⟩, c4⟩ := hc
          have env3 := ((env.ext e1).ext e2).ext e3
          obtain ⟨p', zs', m1, m2, m3, m4, m5, m6⟩ := env3.own i xs hx
          rw [k1] at m1
          cases m1
          have r1' := (r1.ext e2).ext e3
          cases r1' with
          | lst hF hr =>
            refine ⟨c, rfl, p, _, zs', _, a, c, rfl, rfl, rfl, rfl, m5, ok3.sub _ _ hF, (fun z => by rw [z, hF] at m3; cases m3), c1, c2, by rw [m6.length]; exact c3, ?_, ?_⟩
            · rw [m6.length, hr.length]
              exact sz_of c4
            · exact own_put (((e0.trans e1).trans e2).trans e3) ok3 env3 hx k1 (((m6.take _).append hr).append (m6.drop _)) post3
        · exact post3.elim
      | _ => exact post3.elim
    | _ => exact post2.elim
  · exact post1.elim
def oStr : DC := fun ds S => match ds with
  | [.int i] => if i.natAbs.log2 < 1920 then .ok (.str (Str.ofString (toString i))) S else .bad
  | _ => .bad
section
variable {X : Cx} {ca : Nat → Addr} {E : XK} {K : PySem.W.Frag}
theorem c_str : CallS K ca E (fun xs H Q => ∃ i : Int, xs = [.int i] ∧ i.natAbs.log2 < 1920 ∧ Q (.str (toString i)) H) oStr := fun g S vs ds Q ok r post => by
  unfold oStr at post
  split at post
  · split at post
    · rename_i i h
      cases r with
      | cons r1 r2 =>
        cases r2
        cases r1
        exact ⟨i, rfl, h, PostE.here post ok (.str _)⟩
    · exact post.elim
  · exact post.elim
end
def asStrs : List D → Option (List Str)
  | [] => some []
  | .str x :: r => (asStrs r).map (x :: ·)
  | _ => none
theorem asStrs_some : ∀ {ds : List D} {xs : List Str}, asStrs ds = some xs → ds = xs.map D.str
  | [], xs, h => by cases h; rfl
  | d :: r, xs, h => by
    cases d with
    | str x =>
      unfold asStrs at h
      cases q : asStrs r with
      | none => rw [q] at h; cases h
      | some ys =>
        rw [q] at h
        cases h
        rw [asStrs_some q]
        rfl
    | _ => cases h
def oJoin (a : Str) : D1 := fun y S => match y with
  | .lst ds => match asStrs ds with
    | some xs => if (xs.map (·.length)).sum + xs.length * a.length ≤ 16777216 then .ok (.str (Txt.join a xs)) S else .bad
    | none => .bad
  | _ => .bad
def eJoin (fa fb : DE) : DE := fun ρ S => (fa ρ S).bind fun x S1 => match x with
  | .str a => (fb ρ S1).bind fun d S2 => oJoin a d S2
  | _ => .bad
section
variable {X : Cx} {ca : Nat → Addr} {E : XK} {a b : Expr} {fa fb : DE} {apos cpos : Pos}
theorem ge_join (ha : PE X a (rdE X.K ca E fa)) (hb : PE X b (rdE X.K ca E fb))
    (hs : starEach [b] X.env = [(false, eval b X.env)] := by rfl) (hbase : attributeBase a "join" X.env (eval a X.env) = eval a X.env := by rfl) (hline : (apos.endLine == cpos.line) = true := by rfl) :
    PE X (.Call (.Attribute a "join" apos) [b] [] cpos) (rdE X.K ca E (eJoin fa fb)) :=
  wkE (pe_join ha hb hs hbase hline) fun σ H Q q => by
    obtain ⟨g0, g, ρ, S, rfl, ok, env, post⟩ := q
    refine ⟨g0, g, ρ, S, rfl, ok, env, PostE.bind post fun d1 S1 v1 g1 e1 ok1 r1 post1 => ?_⟩
    cases d1 with
    | str t =>
      cases r1
      refine ⟨⟨_, rfl⟩, g0, g1, ρ, S1, rfl, ok1, env.ext e1, PostE.bind post1 fun d2 S2 v2 g2 e2 ok2 r2 post2 => ?_⟩
      unfold oJoin at post2
      split at post2
      · split at post2
        · rename_i ds xs hx
          have e := asStrs_some hx
          subst e
          split at post2
          · rename_i hz
            cases r2 with
            | lst hF hr =>
              have e := hr.strs
              subst e
              exact ⟨_, _, xs, rfl, rfl, .inl (SqL.of (ok2.sub _ _ hF)), hz, PostE.here post2 ok2 (.str _)⟩
          · exact post2.elim
        · exact post2.elim
      · exact post2.elim
    | _ => exact post1.elim
end
theorem bb_strN : bootBuiltins "str" = some (.type "str") := by decide +kernel
end DL
set_option Elab.async false
set_option linter.all false
set_option maxRecDepth 100000
set_option maxHeartbeats 1000000
namespace DL
open PySem PySem.Spec PyProof.Rows L2
section
variable {X : Cx} {ca : Nat → Addr} {E : XK} {K : PySem.W.Frag}
theorem RepAll.mem {A : List Addr} {F : Hp} : ∀ {xs : List V} {ds : List D}, RepAll K ca A F xs ds → ∀ p ∈ xs.zip ds, Rep K ca A F p.1 p.2
  | _, _, .nil, p, h => by simp at h
  | _, _, .cons r1 r2, p, h => by
    rw [List.zip_cons_cons] at h
    rcases List.mem_cons.mp h with rfl | h
    · exact r1
    · exact RepAll.mem r2 p h
end
end DL
set_option Elab.async false
set_option linter.all false
set_option maxRecDepth 100000
set_option maxHeartbeats 4000000
namespace DL
open PySem PySem.Spec PyProof.Rows L2
section
variable {X : Cx} {ca : Nat → Addr} {E : XK} {K : PySem.W.Frag}
def dd : List Int → List Int
  | [] => []
  | x :: r => if x ∈ r then dd r else x :: dd r
end
end DL
set_option Elab.async false
set_option linter.all false
set_option maxRecDepth 100000
set_option maxHeartbeats 1000000
namespace DL
open PySem PySem.Spec PyProof.Rows L2
def keyI (ns : List Int) : List Key := ns.map Sum.inl
section
variable {κ : Type} [DecidableEq κ]
def valD (kds : List (κ × D)) (k : κ) : Option D := (kds.find? fun kv => decide (kv.1 = k)).map (·.2)
def putKD (kds : List (κ × D)) (k : κ) (d : D) : List (κ × D) :=
  if (kds.any fun kv => decide (kv.1 = k)) = true then kds.map (fun kv => if kv.1 = k then (kv.1, d) else kv) else kds ++ [(k, d)]
theorem valD_pos {p : κ × D} {r : List (κ × D)} {k : κ} (e : p.1 = k) : valD (p :: r) k = some p.2 := by simp [valD, List.find?_cons, e]
theorem valD_neg {p : κ × D} {r : List (κ × D)} {k : κ} (e : ¬ p.1 = k) : valD (p :: r) k = valD r k := by simp [valD, List.find?_cons, e]
end
end DL
set_option Elab.async false
set_option linter.all false
set_option maxRecDepth 100000
set_option maxHeartbeats 1000000
namespace DL
open PySem PySem.Spec PyProof.Rows L2
/-- leaves the store as it is -/
def Keeps (f : DE) : Prop := ∀ ρ S d S', f ρ S = .ok d S' → S = S'
section
variable (K : PySem.W.Frag) (ca : Nat → Addr)
def WalkO (n : Nat) (g : G) (J : It) (ds : List D) : Prop := ∀ g1 S1, Grow g g1 → Ok K ca g1 S1 → S1[n]? = some (.lst ds) → ∀ i : Nat,
  (∀ d, ds[i]? = some d → J.go i g1.H ∧ ∀ x H', J.yld i g1.H x H' → ∃ g2, g2.H = H' ∧ Ext g1 g2 ∧ Ok K ca g2 S1 ∧ RepG K ca g2 x d) ∧ (ds.length ≤ i → J.stop i g1.H)
def PostIO (E : XK) (g : G) (o : Out) (R : It → Hp → Prop) : Prop := match o with
  | .ok (.obj n) S => ∀ J ds g', S[n]? = some (.lst ds) → Ext g g' → Ok K ca g' S → WalkO K ca n g' J ds → R J g'.H
  | .ok _ _ => False
  | .exc c S => ∀ g', Ext g g' → Ok K ca g' S → E (.ref (ca c)) none g'.H
  | .bad => False
def rdIO (E : XK) (f : DE) : TI := fun σ H R => ∃ g0 g ρ S, g.H = H ∧ Ok K ca g S ∧ EnvR K ca g0 g σ ρ ∧ PostIO K ca E g (f ρ S) R
end
def eLcO (it : DE) (t : DG) (c e : DE) : DE := fun ρ S => (it ρ S).bind fun d S1 => match d with
  | .obj n => match S1[n]? with
    | some (.lst ds) => if ds.length ≤ 100000 then (loopC (turnC t c ρ) (turnC t e ρ) ds S1).bind fun ys S2 => .ok (.lst ys) S2 else .bad
    | _ => .bad
  | _ => .bad
/-- what may be walked as an object of the store -/
def oObjL : D1 := fun d S => match d with
  | .obj n => match S[n]? with
    | some (.lst _) => .ok (.obj n) S
    | _ => .bad
  | _ => .bad
section
variable {X : Cx} {ca : Nat → Addr} {E : XK} {f fc fe : DE} {t : DG} {gt : TG} {vs : List Nat}
theorem walk_obj {K : PySem.W.Frag} {g : G} {n : Nat} {a : Addr} {ds : List D} (hA : g.A[n]? = some a) : WalkO K ca n g (Itl K a) ds := fun g1 S1 gr ok hS i => by
  obtain ⟨a', ho, k1, k2, k3⟩ := ok.ob _ _ hS
  have hA1 : g1.A[n]? = some a := by
    obtain ⟨m, e⟩ := gr.2
    rw [e, List.getElem?_append_left (List.getElem?_eq_some_iff.mp hA).1]
    exact hA
  rw [hA1] at k1
  cases k1
  cases ho with
  | lst xs =>
    have hr : RepAll K ca g1.A g1.F xs ds := k3
    have h1 : SqL K g1.H a xs := SqL.of k2
    refine ⟨fun d hd => ?_, fun hl => ⟨xs, h1, by rw [hr.length]; exact hl⟩⟩
    obtain ⟨v, e1, r⟩ := hr.get' hd
    refine ⟨⟨xs, v, h1, e1⟩, fun x H' y => ?_⟩
    obtain ⟨rfl, y⟩ := y
    have e2 := y xs h1
    rw [e1] at e2
    cases e2
    exact ⟨g1, rfl, Ext.refl _, ok, r⟩
  | _ => exact k3.elim
theorem PostIO.ext {K : PySem.W.Frag} {g g1 : G} {o : Out} {R : It → Hp → Prop} (e : Ext g g1) (h : PostIO K ca E g o R) : PostIO K ca E g1 o R := by
  cases o with
  | ok d S =>
    cases d with
    | obj n => exact fun J ds g' z a b c => h J ds g' z (e.trans a) b c
    | _ => exact h
  | exc c S => exact fun g' a b => h g' (e.trans a) b
  | bad => exact h
theorem PostIO.of_bind {K : PySem.W.Frag} {g : G} {o : Out} {k : D → Store → Out} {Q : VK} {R : It → Hp → Prop} (h : PostIO K ca E g (o.bind k) R)
    (hk : ∀ d S v g', Ext g g' → Ok K ca g' S → RepG K ca g' v d → PostIO K ca E g' (k d S) R → Q v g'.H) : PostE K ca E g o Q := by
  cases o with
  | ok d S => exact fun v g' a b c => hk d S v g' a b c (PostIO.ext a h)
  | exc c S => exact h
  | bad => exact h
theorem gi_obj {tg l : Expr} (hl : PE X l (rdE X.K ca E f)) : PI X tg l (rdIO X.K ca E (eUn oObjL f)) := wkI (pi_seq hl) fun σ H R q => by
  obtain ⟨g0, g, ρ, S, rfl, ok, env, post⟩ := q
  refine ⟨g0, g, ρ, S, rfl, ok, env, PostIO.of_bind post fun d S1 v g1 e1 ok1 r1 post1 => ?_⟩
  unfold oObjL at post1
  split at post1
  · rename_i n
    split at post1
    · rename_i ds hS
      cases r1 with
      | obj hA =>
        obtain ⟨a', ho, k1, k2, k3⟩ := ok1.ob _ _ hS
        rw [hA] at k1
        cases k1
        cases ho with
        | lst xs => exact ⟨_, rfl, .inl ⟨⟨xs, SqL.of k2⟩, post1 _ ds g1 hS (Ext.refl _) ok1 (walk_obj hA)⟩⟩
        | _ => exact k3.elim
    · exact post1.elim
  · exact post1.elim
theorem rd_lcO {K : PySem.W.Frag} (kc : Keeps fc) (ke : Keeps fe) (ht : TgOk K ca vs gt t) (σ : L2.St) (H : Hp) (Q : VK) (q : rdF K ca E (eLcO f t fc fe) σ H Q) : tLc (rdIO K ca E f) gt (rdT K ca E0 fc) (rdE K ca E0 fe) vs σ H Q := by
  obtain ⟨g0, g, ρ, S, rfl, ok, env, post⟩ := q
  refine ⟨g0, g, ρ, S, rfl, ok, env, ?_⟩
  unfold eLcO at post
  cases q : f ρ S with
  | bad => rw [q] at post; exact post
  | exc c S1 => rw [q] at post; exact post
  | ok d S1 =>
    rw [q] at post
    cases d with
    | obj n =>
      dsimp only [Out.bind] at post
      split at post
      case h_2 => exact post.elim
      rename_i ds hS
      intro J ds' gJ hS' eJ okJ wk Dl hD
      rw [hS] at hS'
      cases hS'
      by_cases hz : ds.length ≤ 100000
      · rw [if_pos hz] at post
        cases hlc : loopC (turnC t fc ρ) (turnC t fe ρ) ds S1 with
        | bad => rw [hlc] at post; exact post.elim
        | exc c S2 =>
          exfalso
          clear post
          have : ∀ (l : List D) (S : Store) (c : Nat) (S2 : Store), loopC (turnC t fc ρ) (turnC t fe ρ) l S ≠ .exc c S2 := by
            intro l
            induction l with
            | nil => intro S c S2 z; cases z
            | cons d l ih =>
              intro S c S2 z
              unfold loopC at z
              split at z
              · split at z
                · split at z
                  · cases z
                  · cases z
                · cases z
              · exact ih _ _ _ z
              · cases z
          exact this _ _ _ _ hlc
        | ok ys S2 =>
          rw [hlc] at post
          have dF : gJ.F Dl = none := okJ.ffree hD
          have dA : Dl ∉ gJ.A := fun z => okJ.there z hD
          refine ⟨fun i m H' => m = ds.length - i ∧ i ≤ ds.length ∧ ∃ g' S' acc ac zs, S'[n]? = some (.lst ds) ∧ g'.H = H' ∧ Ext gJ g' ∧ Ok K ca g' S' ∧ g'.F Dl = none ∧ Dl ∉ g'.A ∧ g'.H Dl = some (.lst acc) ∧ RepAll K ca g'.A g'.F acc ac ∧ ac.length ≤ i ∧ loopC (turnC t fc ρ) (turnC t fe ρ) (ds.drop i) S' = .ok zs S2 ∧ ac ++ zs = ys,
            ⟨ds.length, by simp, Nat.zero_le _, gJ.put Dl (.lst []), S1, [], [], ys, hS, rfl, ext_put hD, ok_put okJ dF dA, dF, dA, upd_same, .nil, Nat.le_refl _, hlc, rfl⟩, ?_⟩
          rintro i m H1 ⟨rfl, hi, g1, S3, acc, ac, zs, hS3, rfl, e1, ok1, f1, a1, h1, r1, l1, lp, es⟩
          obtain ⟨wgo, wstop⟩ := wk g1 S3 e1.grow ok1 hS3 i
          by_cases hlt : i < ds.length
          · have hd : ds[i]? = some ds[i] := by simp [hlt]
            obtain ⟨go, yl⟩ := wgo ds[i] hd
            refine .inr ⟨go, fun H' => (ds.length - (i + 1) = ds.length - (i + 1) ∧ i + 1 ≤ ds.length ∧ ∃ g' S' acc ac zs, S'[n]? = some (.lst ds) ∧ g'.H = H' ∧ Ext gJ g' ∧ Ok K ca g' S' ∧ g'.F Dl = none ∧ Dl ∉ g'.A ∧ g'.H Dl = some (.lst acc) ∧ RepAll K ca g'.A g'.F acc ac ∧ ac.length ≤ i + 1 ∧ loopC (turnC t fc ρ) (turnC t fe ρ) (ds.drop (i + 1)) S' = .ok zs S2 ∧ ac ++ zs = ys), fun H' z => ⟨ds.length - (i + 1), by omega, z⟩, fun x H' y => ?_⟩
            obtain ⟨g2, rfl, e2, ok2, r2⟩ := yl x H' y
            rw [drop_cons hd] at lp
            have env2 : EnvR K ca g0 g2 σ ρ := env.ext ((eJ.trans e1).trans e2)
            have h2 : g2.H Dl = some (.lst acc) := e2.H Dl _ a1 h1
            have f2 : g2.F Dl = none := e2.nf Dl (some_ne h1) f1
            have a2 : Dl ∉ g2.A := e2.out a1 (some_ne h1)
            cases htd : t ds[i] ρ with
            | none =>
              unfold loopC at lp
              have hx : turnC t fc ρ ds[i] S3 = .bad := by
                unfold turnC
                rw [htd]
              rw [hx] at lp
              cases lp
            | some ρ2 =>
              have hx : turnC t fc ρ ds[i] S3 = fc ρ2 S3 := by
                unfold turnC
                rw [htd]
              refine ht g0 g2 ρ σ x ds[i] ρ2 env2 ok2.sub r2 htd _ fun σ2 env3 hw => ⟨hw, g0, g2, ρ2, S3, rfl, ok2, env3, ?_⟩
              unfold loopC at lp
              rw [hx] at lp
              cases hc : fc ρ2 S3 with
              | bad => rw [hc] at lp; cases lp
              | exc c S4 => rw [hc] at lp; cases lp
              | ok d4 S4 =>
                rw [hc] at lp
                have hk4 := kc _ _ _ _ hc
                subst hk4
                intro v4 g4 e4 ok4 r4
                have env4 : EnvR K ca g0 g4 σ2 ρ2 := env3.ext e4
                have h4 : g4.H Dl = some (.lst acc) := e4.H Dl _ a2 h2
                have f4 : g4.F Dl = none := e4.nf Dl (some_ne h2) f2
                have a4 : Dl ∉ g4.A := e4.out a2 (some_ne h2)
                cases r4 with
                | bl b =>
                  refine ⟨b, rfl, ?_⟩
                  cases b with
                  | false => exact iteF ⟨rfl, hlt, g4, S3, acc, ac, zs, hS3, rfl, (e1.trans e2).trans e4, ok4, f4, a4, h4, r1.ext (e2.trans e4), Nat.le_succ_of_le l1, lp, es⟩
                  | true =>
                    refine iteT ⟨g0, g4, ρ2, S3, rfl, ok4, env4, ?_⟩
                    dsimp only at lp
                    have hy : turnC t fe ρ ds[i] S3 = fe ρ2 S3 := by
                      unfold turnC
                      rw [htd]
                    rw [hy] at lp
                    cases he : fe ρ2 S3 with
                    | bad => rw [he] at lp; cases lp
                    | exc c S5 => rw [he] at lp; cases lp
                    | ok d5 S5 =>
                      rw [he] at lp
                      dsimp only at lp
                      have hk5 := ke _ _ _ _ he
                      subst hk5
                      intro v5 g5 e5 ok5 r5
                      cases hr : loopC (turnC t fc ρ) (turnC t fe ρ) (ds.drop (i + 1)) S3 with
                      | bad => rw [hr] at lp; cases lp
                      | exc c S6 => rw [hr] at lp; cases lp
                      | ok zs' S6 =>
                        rw [hr] at lp
                        injection lp with lp1 lp2
                        subst lp2
                        have h5 : g5.H Dl = some (.lst acc) := e5.H Dl _ a4 h4
                        have f5 : g5.F Dl = none := e5.nf Dl (some_ne h4) f4
                        have a5 : Dl ∉ g5.A := e5.out a4 (some_ne h4)
                        have x5 : Ext gJ g5 := ((e1.trans e2).trans e4).trans e5
                        have ra : RepAll K ca g5.A g5.F acc ac := r1.ext ((e2.trans e4).trans e5)
                        refine ⟨acc, h5, ?_, rfl, hlt, g5.put Dl (.lst (acc ++ [v5])), S3, acc ++ [v5], ac ++ [d5], zs', hS3, rfl, ext_put0 x5 hD, ok_put ok5 f5 a5, f5, a5, upd_same, ra.append (.cons r5 .nil), ?_, hr, ?_⟩
                        · rw [ra.length]
                          exact Nat.lt_of_le_of_lt l1 (Nat.lt_of_lt_of_le hlt (Nat.le_trans hz (by decide)))
                        · rw [List.length_append, List.length_singleton]
                          omega
                        · rw [List.append_assoc, List.singleton_append, lp1]
                          exact es
                | _ => cases lp
          · have hn : ds.length ≤ i := Nat.le_of_not_lt hlt
            refine .inl ⟨wstop hn, ?_⟩
            rw [List.drop_eq_nil_of_le hn] at lp
            injection lp with lp1 lp2
            subst lp1 lp2
            rw [List.append_nil] at es
            subst es
            refine post Dl acc g1 (eJ.trans e1) ok1 ?_ f1 a1 h1 r1
            cases z : g.H Dl with
            | none => rfl
            | some o => exact absurd hD (eJ.kp Dl (some_ne z))
      · rw [if_neg hz] at post
        exact post.elim
    | _ => exact post.elim
theorem eLcO_is : ∀ ρ S d S', eLcO f t fc fe ρ S = .ok d S' → ∃ ds, d = .lst ds := fun ρ S d S' h => by
  unfold eLcO at h
  cases q : f ρ S with
  | bad => rw [q] at h; cases h
  | exc c S1 => rw [q] at h; cases h
  | ok d1 S1 =>
    rw [q] at h
    dsimp only [Out.bind] at h
    split at h
    · split at h
      · split at h
        · unfold OutL.bind at h
          split at h
          · rename_i ys S2 _
            injection h with h1 h2
            exact ⟨ys, h1.symm⟩
          · cases h
          · cases h
        · cases h
      · cases h
    · cases h
theorem ge_lcO {elt tg iter : Expr} {ifs : List Expr} {scope : Scope} {own : List (Str × Nat)} {pos : Pos} (kc : Keeps fc) (ke : Keeps fe) (hc : X.calm = true) (hN : X.N.Nodup) (hT : TgOk X.K ca (own.map (·.2)) gt t) (hi : PI X tg iter (rdIO X.K ca E f)) (ok : BlkOk X.N X.env.scope scope own)
    (hg : ∀ (s : Shared) (H : Hp) (C : Addr) (cl : List (Str × Addr)) (fp : List Addr), PG (X.blk s H scope (compEnvC scope cl C X.env) fp) tg gt)
    (ht : ∀ (s : Shared) (H : Hp) (C : Addr) (cl : List (Str × Addr)) (fp : List Addr), PTs (X.blk s H scope (compEnvC scope cl C X.env) fp) ifs (rdT X.K ca E0 fc))
    (he : ∀ (s : Shared) (H : Hp) (C : Addr) (cl : List (Str × Addr)) (fp : List Addr), PE (X.blk s H scope (compEnvC scope cl C X.env) fp) elt (rdE X.K ca E0 fe)) (hs : ∀ x, foldedSetIterable iter X.env x = pure x := by intro _; rfl) :
    PE X (.ListComp elt [⟨tg, iter, ifs, 0⟩] scope pos) (rdE X.K ca E (eLcO f t fc fe)) := gf_ge (wkE (pe_lc hc hN hi ok hg ht he hs) (rd_lcO kc ke hT)) eLcO_is
def eAlt (a b : DE) : DE := fun ρ S => match a ρ S with
  | .bad => b ρ S
  | o => o
theorem ge_alt {e : Expr} {fa fb : DE} (ha : PE X e (rdE X.K ca E fa)) (hb : PE X e (rdE X.K ca E fb)) : PE X e (rdE X.K ca E (eAlt fa fb)) := ⟨fun pins s σ H Q I q => by
  obtain ⟨g0, g, ρ, S, rfl, ok, env, post⟩ := q
  unfold eAlt at post
  cases h : fa ρ S with
  | bad =>
    rw [h] at post
    exact hb.run pins s σ _ Q I ⟨g0, g, ρ, S, rfl, ok, env, post⟩
  | ok d S1 =>
    rw [h] at post
    exact ha.run pins s σ _ Q I ⟨g0, g, ρ, S, rfl, ok, env, by rw [h]; exact post⟩
  | exc c S1 =>
    rw [h] at post
    exact ha.run pins s σ _ Q I ⟨g0, g, ρ, S, rfl, ok, env, by rw [h]; exact post⟩⟩
theorem keeps_yes : Keeps eYes := fun ρ S d S' h => by cases h; rfl
end
section
variable (K : PySem.W.Frag) (ca : Nat → Addr)
def PostSF (E : XK) (g0 g : G) (o : OutS) (Dn : Ends) : Prop := match o with
  | .nx ρ S => ∀ σ g', Ext g0 g' → Grow g g' → Ok K ca g' S → EnvR K ca g0 g' σ ρ → Dn.nx σ g'.H
  | .ret (.lst ds) S => ∀ p xs g', Ext g0 g' → Ok K ca g' S → g0.H p = none → g'.F p = none → p ∉ g'.A → g'.H p = some (.lst xs) → RepAll K ca g'.A g'.F xs ds → Dn.rt (.ref p) g'.H
  | .ret _ _ => False
  | .brk ρ S => ∀ σ g', Ext g0 g' → Grow g g' → Ok K ca g' S → EnvR K ca g0 g' σ ρ → Dn.bk σ g'.H
  | .cnt ρ S => ∀ σ g', Ext g0 g' → Grow g g' → Ok K ca g' S → EnvR K ca g0 g' σ ρ → Dn.ct σ g'.H
  | .exc c S => ∀ g', Ext g0 g' → Ok K ca g' S → E (.ref (ca c)) none g'.H
  | .bad => False
end
section
variable {X : Cx} {ca : Nat → Addr} {E : XK} {e : Expr} {f : DE} {pos : Pos} {st : Stmt} {rest : List Stmt} {fs fh : DS}
theorem PostSF.grow {K : PySem.W.Frag} {g0 g g1 : G} {o : OutS} {Dn : Ends} (e : Grow g g1) (h : PostSF K ca E g0 g o Dn) : PostSF K ca E g0 g1 o Dn := by
  cases o with
  | nx ρ S => exact fun σ g' a b c d => h σ g' a (e.trans b) c d
  | ret d S => cases d <;> exact h
  | brk ρ S => exact fun σ g' a b c d => h σ g' a (e.trans b) c d
  | cnt ρ S => exact fun σ g' a b c d => h σ g' a (e.trans b) c d
  | exc c S => exact h
  | bad => exact h
end
end DL
set_option Elab.async false
set_option linter.all false
set_option maxRecDepth 100000
set_option maxHeartbeats 1000000
namespace DL
open PySem PySem.Spec PyProof.Rows L2
theorem note_same {e : Value} {env env' : Env} (h : env.frame = env'.frame) : noteFrame e env = noteFrame e env' := by
  unfold noteFrame PySem.frameOf
  rw [h]
/-- how a block ends: an exception goes on with the block's own env -/
def cpX (M : Model) (A : Around) (E : Value → Shared → Prop) (use : Option (Value → Sem Unit)) (Q : Value → Shared → Prop) (acc : Value) (ce : Env) : Result → Shared → Prop
  | .ok f, t => compPost M A E use Q acc ce.locals (.ok f) t
  | .error x, t => ∃ m, t.heap.Ns ce.locals m ∧ ∀ k, Heap.SameBut ce.locals t.heap k → wpAny M A (PySem.passOn "comprehension.variables-let-go" x ce : Sem Value) (fun _ _ => False) E { t with heap := k }
section
variable {M : Model} {A : Around} {E : Value → Shared → Prop} {s : Shared} {scope : Scope} {env ce : Env}
/-- the block's names are let go, whichever of them and in whatever order -/
theorem lets_go {many : List (Str × NameKind) → List Value} (fn : scope.kind = .function) (uniq : ∀ x ∈ scope.names, x.2 = .local → scope.names.lookup x.1 = some .local) {vs : List (Str × NameKind)} (sub : ∀ x ∈ vs, x ∈ scope.names) {Q : Shared → Prop}
    (after : ∃ m, s.heap.Ns ce.locals m ∧ ∀ k, Heap.SameBut ce.locals s.heap k → Q { s with heap := k }) : wpAny M A (comprehension.letGo { ce with scope := relabel scope env } many vs) (fun _ t => Q t) E s :=
  have ⟨m, ns, q⟩ := after
  wpAny_comp_letGo (cenv := { ce with scope := relabel scope env }) fn vs s m (fun x hx l => lookup_relabel_local (uniq x (sub x hx) l)) ns fun k _ _ sb => q k sb
/-- a comprehension whose block may end with an exception -/
theorem compX {e : Expr} {pos : Pos} {newAcc first : Sem Value} {g : Comprehension} {gs : List Comprehension} {cl : List (Str × Addr)} {use : Option (Value → Sem Unit)} {Q : Value → Shared → Prop}
    (c1 : clausesOf e = g :: gs) (c2 : ∀ x, foldedSetIterable g.iter env x = pure x) (c3 : closureFor scope env = pure cl) (c4 : scope.kind = .function) (c5 : ∀ x ∈ scope.names, x.2 = .local → scope.names.lookup x.1 = some .local)
    (go : wpAny M A first (fun x t1 => wpAny M A (pyIter x) (fun it t2 => wpAny M A newAcc (fun acc t3 => wpAny M A (newFunctionEnv scope env.globals cl [] env.qual none .none (some env)) (fun ce t4 =>
      codeAny M A (.compStart e 0 it acc { ce with scope := relabel scope env }) (cpX M A E use Q acc { ce with scope := relabel scope env }) t4) E t3) E t2) E t1) E s) : wpAny M A (comprehension e scope env pos newAcc false first use) Q E s := by
  have back : ∀ {p : Str × NameKind → Bool}, ∀ x ∈ (scope.names.filter p).reverse, x ∈ scope.names := fun x hx => (List.mem_filter.mp (List.mem_reverse.mp hx)).1
  have turned : ∀ {p : Str × NameKind → Bool}, ∀ x ∈ (scope.names.filter p).reverse.drop 1 ++ (scope.names.filter p).reverse.take 1, x ∈ scope.names := fun x hx =>
    back x ((List.mem_append.mp hx).elim List.mem_of_mem_drop List.mem_of_mem_take)
  unfold comprehension
  rw [c3, c1]
  apply wpAny_bind
  refine thn go fun x t1 go => ?_
  apply wpAny_bind; apply wpAny_standAt
  apply wpAny_bind; refine wpAny_of_eq (c2 x) ?_
  apply wpAny_bind; apply wpAny_holding
  refine thn go fun it t2 go => ?_
  apply wpAny_standIf
  apply wpAny_bind
  refine thn go fun acc t3 go => ?_
  apply wpAny_bind; apply wpAny_pure
  apply wpAny_bind
  refine thn go fun ce t4 go => ?_
  apply wpAny_holding
  apply wpAny_bind; apply wpAny_attempt; apply wpAny_holding
  refine wpAny_run (codeAny_mono go fun r t fin => ?_)
  match r, use, fin with
  | .ok _, none, fin =>
    apply wpAny_bind; apply wpAny_holding
    exact thn (lets_go (env := env) (Q := Q acc) c4 c5 back fin) fun _ _ q => wpAny_pure q
  | .ok _, some u, fin =>
    apply wpAny_bind; apply wpAny_rule
    apply wpAny_bind; apply wpAny_holding
    refine thn fin fun _ t2 fin => wpAny_bind ?_
    exact thn (lets_go (env := env) (Q := Q .none) c4 c5 turned fin) fun _ _ q => wpAny_pure q
  | .error x, _, fin =>
    apply wpAny_bind; apply wpAny_holding
    exact thn (lets_go (env := env) (Q := wpAny M A (PySem.passOn "comprehension.variables-let-go" x { ce with scope := relabel scope env } : Sem Value) (fun _ _ => False) E) c4 c5 back fin) fun _ _ q => thn q fun _ _ no => no.elim
end
theorem funFrames_base {h B B' : Heap} (k : ∀ b, B.get? b = none → B'.get? b = none) : ∀ {l : List Env}, h.FunFrames B l → h.FunFrames B' l
  | [], _ => True.intro
  | _ :: _, ⟨a, ⟨L, o, f1, f2, f3, f4⟩, r⟩ => ⟨a, ⟨L, o, f1, k L f2, f3, f4⟩, funFrames_base k r⟩
theorem hide_none {h : Heap} {C b : Addr} (e : h.get? b = none) : (PySem.W.hideAll h [C]).get? b = none := by
  cases q : (PySem.W.hideAll h [C]).get? b with
  | none => rfl
  | some o => rw [PySem.W.of_hideAll _ q] at e; cases e
theorem hide_get {h : Heap} {C b : Addr} {o : Obj} (e : h.get? b = some o) (n : b ≠ C) : (PySem.W.hideAll h [C]).get? b = some o := PySem.W.hideAll_get _ e (by simpa using n)
theorem hide_ne {h : Heap} {C b : Addr} {o : Obj} (e : (PySem.W.hideAll h [C]).get? b = some o) : b ≠ C ∧ h.get? b = some o := by
  refine ⟨fun z => ?_, PySem.W.of_hideAll _ e⟩
  rw [z, PySem.W.hideAll_none _ (by simp)] at e
  cases e
/-- the state that an exception left, seen without a namespace that nobody holds -/
theorem traced_mono {h h' B B' : Heap} {a : Addr} {Z : Obj → Prop} {fl : Value} (k : ∀ b o, h.get? b = some o → (∃ vs, o.data = .fields vs) → h'.get? b = some o) (kb : ∀ b, B.get? b = none → B'.get? b = none) (x : HandSPX.TracedZ h B a Z fl) : HandSPX.TracedZ h' B' a Z fl := by
  obtain ⟨oe, vs, T, oT, ts, he, hz, hd, h1, hn, hT, h2, hd2, h3⟩ := x
  exact ⟨oe, vs, T, oT, ts, k _ _ he ⟨_, hd⟩, hz, hd, h1, kb _ hn, hT, k _ _ h2 ⟨_, hd2⟩, hd2, h3⟩
section
variable {X : Cx} {E : XK} {pins pins9 : List (Addr × Obj)} {σ σ9 : L2.St} {H3 H9 : Hp} {s3 s9 s' : Shared} {scope : Scope} {ce : Env} {fp : List Addr} {e : Value} {use : Option (Value → Sem Unit)} {Q : Value → Shared → Prop} {acc : Value}
theorem leaves_block (hs : X.stack = X.env :: X.outer) (hf : X.env.frame = some X.env.locals) (tk : Takes X (fun cls d _ H => E cls d H)) (I3 : Inv X pins σ H3 s3) (cL : ce.locals = s3.heap.objs.size) (cF : ce.frame = X.env.frame)
    (f3 : ∀ b ∈ fp, FpOk X pins H3 b) (I9 : Inv (X.blk s3 H3 scope ce fp) pins9 σ9 H9 s9) (c : L2.CX X.prog X.w X.stack H9 s9 E e s') :
    notedBy (model X.prog X.w) X.A ce (fun x t => cpX (model X.prog X.w) X.A X.xe use Q acc ce (.error x) t) e s' := by
  have I9' : Inv X pins σ H9 s9 := I3.call' (ch := fp) I9.os I9.base I9.hok I9.bare fun b hb => ⟨(f3 b hb).2.2.2.1, (f3 b hb).2.1, (f3 b hb).2.2.2.2.1, (f3 b hb).2.2.2.2.2⟩
  have nC : H9 ce.locals = none := I9.free
  have fC : FpOk X pins H9 ce.locals := I3.fpOk (Nat.le_of_eq cL.symm) nC
  obtain ⟨m, hn, _⟩ := I9.loc
  obtain ⟨oC, es, ep, hC, dC, rC⟩ := (show s9.heap.Ns ce.locals m from hn)
  generalize hCe : ce.locals = C at *
  have cS : C ∉ frs X.stack := fun z => by
    rcases List.mem_cons.mp (I3.stkSub C z) with z | z
    · exact fC.2.1 z
    · exact fC.2.2.1 z
  have nf : ∀ vs, oC.data ≠ .fields vs := fun vs q => by rw [dC] at q; cases q
  have Ih : Inv X pins σ H9 { s9 with heap := PySem.W.hideAll s9.heap [C] } := I9'.turned (t' := s9.toks) (it := C) (fun b o hb q => hide_get q hb) fC.1 fC.2.1 fC.2.2.2.1 fC.2.2.2.2.1 fC.2.2.2.2.2
  obtain ⟨a, B, H', cls, d, rfl, fl, hok, ub, na, os, ag, hE⟩ := c
  have nC' : H' C = none := ub.free C oC hC nC
  have BC : B.get? C = some oC := ub.keep C oC hC nC cS
  have sC : s'.heap.get? C = some oC := fl.1 C oC BC
  have rcd : ∀ b o, s'.heap.get? b = some o → (∃ vs, o.data = .fields vs) → (PySem.W.hideAll s'.heap [C]).get? b = some o := fun b o q ⟨vs, dd⟩ => hide_get q fun z => by
    rw [z, sC] at q
    cases q
    exact nf vs dd
  have cx : L2.CX X.prog X.w X.stack H9 { s9 with heap := PySem.W.hideAll s9.heap [C] } E (.ref a) { s' with heap := PySem.W.hideAll s'.heap [C] } := by
    refine ⟨a, PySem.W.hideAll B [C], H', cls, d, rfl, ⟨fun b o q => ?_, hide_none fl.2.1, ?_, traced_mono rcd (fun b q => hide_none q) fl.2.2.2⟩, fun b u q => (hok b u q).stay (fun c v hc r => hide_get r fun z => ?_) (fun _ r => r) fun _ _ r => r, ?_, na, os, ag, hE⟩
    · obtain ⟨n, q⟩ := hide_ne q
      exact hide_get (fl.1 b o q) n
    · have z := funFrames_base (B' := PySem.W.hideAll B [C]) (fun b q => hide_none q) fl.2.2.1
      have cut : ∀ {l : List Env}, (∀ b ∈ frs l, b ≠ C) → s'.heap.FunFrames (PySem.W.hideAll B [C]) l → (PySem.W.hideAll s'.heap [C]).FunFrames (PySem.W.hideAll B [C]) l := by
        intro l
        induction l with
        | nil => exact fun _ _ => True.intro
        | cons env r ih =>
          rintro hm ⟨z1, ⟨L, o, z2, z3, z4, z5⟩, z6⟩
          exact ⟨z1, ⟨L, o, z2, z3, hide_get z4 (hm L (List.mem_filterMap.mpr ⟨env, List.mem_cons_self, z2⟩)), z5⟩, ih (fun b hb => hm b (by
            obtain ⟨e', he', q'⟩ := List.mem_filterMap.mp hb
            exact List.mem_filterMap.mpr ⟨e', List.mem_cons_of_mem _ he', q'⟩)) z6⟩
      exact cut (fun b hb q => cS (by rw [← q]; exact hb)) z
    · subst z
      rcases hc with q1 | q1
      · rw [← q1, nC'] at q; cases q
      · rw [nC'] at q1; cases q1
    · refine ⟨fun b o q n hb => ?_, fun b o q hb => ?_, fun b o q n => ub.free b o (hide_ne q).2 n, fun b o q hb => ?_, ub.tups, ub.frzs, ub.tbls⟩
      · obtain ⟨n1, q⟩ := hide_ne q
        exact hide_get (ub.keep b o q n hb) n1
      · obtain ⟨n1, q⟩ := hide_ne q
        obtain ⟨sl, r⟩ := ub.slot b o q hb
        exact ⟨sl, hide_get r n1⟩
      · obtain ⟨n1, q⟩ := hide_ne q
        obtain ⟨o', r⟩ := ub.there b o q hb
        exact ⟨o', hide_get r n1⟩
  obtain ⟨a', B1, sI, pins1, σ1, H1, cls1, d1, ea, I1, nb, up, sky, na1, os1, ag1, w⟩ := XE.of_call (W := fun cls d _ H => E cls d H) Ih (fun _ _ _ h => h) cx
  cases ea
  have hfr : X.A.frames = some (X.env :: X.outer) := by rw [I3.ok.frames, hs]
  rw [hs] at sky
  have stay : B1.StaysIn (PySem.W.hideAll s'.heap [C]) := by
    rcases sky with z | z | z
    · exact z.1
    · exact z.1
    · exact z.1
  have B1C : B1.get? C = none := by
    cases q : B1.get? C with
    | none => rfl
    | some o => exact absurd rfl (hide_ne (stay C o q)).1
  have sIC : ∀ o, sI.heap.get? C ≠ some o := fun o q => by
    have := nb C o q cS
    rw [B1C] at this
    cases this
  have wide : ∀ b o, (PySem.W.hideAll s'.heap [C]).get? b = some o → s'.heap.get? b = some o := fun b o q => (hide_ne q).2
  have ff : ∀ {h : Heap}, (PySem.W.hideAll s'.heap [C]).FunFrames B1 (X.env :: X.outer) → s'.heap.FunFrames B1 (X.env :: X.outer) := fun {h} z => z.of_keeps fun b o q _ => ⟨o, wide b o q, rfl⟩
  have up1 : sI.heap.UpToSlots s'.heap := up.trans (Heap.UpToSlots.of_keeps wide)
  show wpAny (model X.prog X.w) X.A (noteFrame (.ref a) ce) _ _ s'
  rw [note_same cF]
  have fin : ∀ h1, HandSPX.HeldZ B1 (X.env :: X.outer) a (Zc cls1 d1) X.env.locals h1 → s'.heap.UpToSlots h1 → cpX (model X.prog X.w) X.A X.xe use Q acc ce (.error (.ref a)) { s' with heap := h1 } := fun h1 held u1 => by
    obtain ⟨sl, hC1⟩ := u1 C oC sC nf
    refine ⟨m, ?_, fun k sb => ?_⟩
    · rw [hCe]
      exact ⟨_, es, ep, hC1, dC, rC⟩
    · rw [hCe] at sb
      have hk : ∀ b o, h1.get? b = some o → (∃ vs, o.data = .fields vs) → k.get? b = some o := fun b o q ⟨vs, dd⟩ => (sb.2 b fun z => by
        rw [z, hC1] at q
        cases q
        exact nf vs dd).trans q
      have held2 : HandSPX.HeldZ B1 (X.env :: X.outer) a (Zc cls1 d1) X.env.locals k := by
        refine ⟨fun b o q => (sb.2 b fun z => ?_).trans (held.1 b o q), held.2.1, ?_, traced_mono hk (fun b q => q) held.2.2.2⟩
        · rw [z, B1C] at q
          cases q
        · have cut : ∀ {l : List Env}, (∀ b ∈ frs l, b ≠ C) → h1.FunFrames B1 l → k.FunFrames B1 l := by
            intro l
            induction l with
            | nil => exact fun _ _ => True.intro
            | cons env r ih =>
              rintro hm ⟨z1, ⟨L, o, z2, z3, z4, z5⟩, z6⟩
              exact ⟨z1, ⟨L, o, z2, z3, (sb.2 L (hm L (List.mem_filterMap.mpr ⟨env, List.mem_cons_self, z2⟩))).trans z4, z5⟩, ih (fun b hb => hm b (by
                obtain ⟨e', he', q'⟩ := List.mem_filterMap.mp hb
                exact List.mem_filterMap.mpr ⟨e', List.mem_cons_of_mem _ he', q'⟩)) z6⟩
          exact cut (fun b hb q => cS (by rw [hs, ← q]; exact hb)) held.2.2.1
      have up2 : sI.heap.UpToSlots k := fun b o q hnf => by
        obtain ⟨sl, r⟩ := (up1.trans u1) b o q hnf
        exact ⟨sl, (sb.2 b fun z => sIC o (by rw [← z]; exact q)).trans r⟩
      obtain ⟨oe, vs, T, oT, ts, he, hz, hd, h1', hr⟩ := id held2.2.2.2
      unfold PySem.passOn
      refine wpAny_bind (wpAny_field he hd h1' ?_)
      rw [if_neg (show ¬ ((Value.ref T == Value.none) = true) from by simp)]
      have go : wpAny (model X.prog X.w) X.A (setFlight (.ref a) ce.frame) (fun _ t => wpAny (model X.prog X.w) X.A (throw (.ref a) : Sem Value) (fun _ _ => False) X.xe t) X.xe { s' with heap := k } := by
        rw [cF, hf]
        refine HandSPX.setFlight_onZ held2 fun h4 held4 u4 => wpAny_throw (tk _ _ ?_)
        exact ⟨a, B1, sI, pins1, σ1, H1, cls1, d1, rfl, I1, nb, up2.trans u4, .inr (.inr (by rw [hs]; exact held4)), na1, os1, ag1, w⟩
      first
        | exact wpAny_bind (wpAny_pure (wpAny_bind go))
        | exact wpAny_bind go
  rcases sky with ⟨z1, z2, z3, oe, vs, z4, z5, z6, z7⟩ | z | z
  · exact HandSPX.look_newZ Zc.steady hfr (ff (h := s'.heap) z3) hf (wide _ _ z4) (fun b o q => wide _ _ (z1 b o q)) z2 z6 z7 z5 fun h1 held u1 => fin h1 held u1
  · refine HandSPX.looks_onZ Zc.steady hfr hf ⟨fun b o q => wide _ _ (z.1 b o q), z.2.1, ff (h := s'.heap) z.2.2.1, traced_mono (fun b o q _ => wide b o q) (fun b q => q) z.2.2.2⟩ fun h1 held u1 => fin h1 held u1
  · have held : HandSPX.HeldZ B1 (X.env :: X.outer) a (Zc cls1 d1) X.env.locals s'.heap := ⟨fun b o q => wide _ _ (z.1 b o q), z.2.1, ff (h := s'.heap) z.2.2.1, traced_mono (fun b o q _ => wide b o q) (fun b q => q) z.2.2.2⟩
    exact HandSPX.againZ hf held.2.2.2 (fin s'.heap held (Heap.UpToSlots.refl _))
end
abbrev blkX (X : Cx) (s : Shared) (H : Hp) (scope : Scope) (ce : Env) (fp : List Addr) (xe : Value → Shared → Prop) : Cx := { X.blk s H scope ce fp with xe := xe }
section
variable {X : Cx} {xe : Value → Shared → Prop} {pins : List (Addr × Obj)} {σ : L2.St} {H : Hp} {s : Shared}
theorem reXe (I : Inv X pins σ H s) : Inv { X with xe := xe } pins σ H s :=
  ⟨⟨I.ok.mod, I.ok.kind, I.ok.glob, I.ok.blt, I.ok.above, I.ok.inj, I.ok.has, I.ok.cab, I.ok.hd, I.ok.frames, I.ok.stk, I.ok.exf, I.ok.bs, I.ok.bsz, I.ok.noex, I.ok.exfs, I.ok.funs, I.ok.frf⟩, I.os, I.bare, I.base, I.loc, I.cell, I.free, I.freeC, I.pin, I.hok, I.len⟩
theorem unXe (I : Inv { X with xe := xe } pins σ H s) : Inv X pins σ H s :=
  ⟨⟨I.ok.mod, I.ok.kind, I.ok.glob, I.ok.blt, I.ok.above, I.ok.inj, I.ok.has, I.ok.cab, I.ok.hd, I.ok.frames, I.ok.stk, I.ok.exf, I.ok.bs, I.ok.bsz, I.ok.noex, I.ok.exfs, I.ok.funs, I.ok.frf⟩, I.os, I.bare, I.base, I.loc, I.cell, I.free, I.freeC, I.pin, I.hok, I.len⟩
end
structure Blk (X : Cx) (pins : List (Addr × Obj)) (σ : L2.St) (tg : Expr) (scope : Scope) (base : Shared) (G0 : Hp) (ce : Env) (its : List Addr) (walker : Addr) (J : It) (at_ : Nat → Heap → Prop) : Prop where
  home : Inv X pins σ G0 base
  loc : ce.locals = base.heap.objs.size
  frm : ce.frame = X.env.frame
  free : ∀ a ∈ its, FpOk X pins G0 a
  walk : Turn X.prog X.w X.K tg J its walker at_
namespace Blk
section
variable {X : Cx} {pins ps : List (Addr × Obj)} {σ τ : L2.St} {tg : Expr} {scope : Scope} {base t : Shared} {G0 G1 : Hp} {ce : Env} {its : List Addr} {walker : Addr} {J : It} {at_ : Nat → Heap → Prop} {n : Nat}
abbrev cx (_ : Blk X pins σ tg scope base G0 ce its walker J at_) : Cx := X.blk base G0 scope ce its
variable (B : Blk X pins σ tg scope base G0 ce its walker J at_)
include B
/-- what holds in the block holds in the def -/
theorem back (I : Inv B.cx ps τ G1 t) : Inv X pins σ G1 t := B.home.call' I.os I.base I.hok I.bare fun a ha =>
  have ⟨_, l, _, e, c, p⟩ := B.free a ha
  ⟨e, l, c, p⟩
theorem spot (I : Inv B.cx ps τ G1 t) : FpOk X pins G1 ce.locals := B.home.fpOk (Nat.le_of_eq B.loc.symm) I.free
theorem kept (I : Inv B.cx [] τ G1 t) (z : ∀ a ∈ its, G1 a = none) (a : Addr) (ha : a ∈ its) : FpOk B.cx [] G1 a := by
  obtain ⟨l, c⟩ := I.ok.exf a ha
  exact ⟨z a ha, l, I.ok.exfs a ha, Or.inl ha, c, fun q hq => nomatch hq⟩
/-- nothing is left -/
theorem over (hc : X.calm = true) (I : Inv B.cx [] τ G1 t) (z : ∀ a ∈ its, G1 a = none) (w : at_ n t.heap) (stop : J.stop n G1) {Q : Option Value → Shared → Prop} {R : Value → Shared → Prop} (k : ∀ t', Inv B.cx [] τ G1 t' → Q none t') :
    wpAny (model X.prog X.w) X.A (pyNext (.ref walker)) Q R t :=
  wpAny_mono (B.walk.done B.cx rfl rfl rfl hc n [] t τ G1 R I (B.kept I z) w stop) (fun r t' ⟨e, I'⟩ => e ▸ k t' I') fun _ _ q => q
/-- one item: it is fetched and stored, and the tests are asked -/
theorem fetch (hc : X.calm = true) {ifs : List Expr} {gt : TG} {tt : TT} (store : PG B.cx tg gt) (ask : PTs B.cx ifs tt) (I : Inv B.cx [] τ G1 t) (z : ∀ a ∈ its, G1 a = none) (w : at_ n t.heap) (go : J.go n G1) {P : L2.St → Prop} {K : Bool → L2.St → Hp → Prop}
    (step : ∀ x G2, J.yld n G1 x G2 → gt x τ G2 fun τ2 G3 => P τ2 ∧ tt τ2 G3 fun b G4 => K b τ2 G4) {R : Value → Shared → Prop} {Q : Bool → Shared → Prop}
    (k : ∀ b τ2 G4 h2 t', at_ (n + 1) h2 → Inv B.cx (pinsAt its h2) τ2 G4 t' → P τ2 → K b τ2 G4 → Q b t') {none_ : Shared → Prop} :
    wpAny (model X.prog X.w) X.A (pyNext (.ref walker)) (fun r t1 => match r with
      | none => none_ t1
      | some v => wpAny (model X.prog X.w) X.A (letOwnedTupleGo tg (.ref walker) v) (fun _ t2 => wpAny (model X.prog X.w) X.A (assign tg ce v) (fun _ t3 =>
          wpAny (model X.prog X.w) X.A (forIn ifs true fun c r => if r = true then do let ok ← isTrue c ce (eval c ce); pure (ForInStep.yield ok) else pure (ForInStep.yield r)) Q R t3) R t2) R t1) R t := by
  refine thnF (B.walk.item B.cx rfl rfl rfl hc n [] t τ G1 (fun _ _ => False) I (B.kept I z) w go) ?_
  rintro _ t1 ⟨v, rfl, got⟩
  refine thnF got ?_
  rintro _ t2 ⟨x, G2, I2, rel, yl, w2, z2⟩
  have J2 := I2.pinned (B.kept I2 z2) (B.walk.obj _ _ w2)
  refine thnF (store.run _ t2 τ G2 x v _ J2 rel (step x G2 yl)) ?_
  rintro _ t3 ⟨τ2, G3, J3, p3, q3⟩
  refine thnF (ask.run _ t3 τ2 G3 _ J3 q3) ?_
  rintro b t4 ⟨G4, J4, q4⟩
  exact k b τ2 G4 t2.heap t4 w2 J4 p3 q4
/-- behind a turn: the iterator stands at the next item, the block's own names are wiped -/
theorem settle {own : List Nat} {τ2 : L2.St} {h2 : Heap} (w : at_ (n + 1) h2) (I : Inv B.cx (pinsAt its h2) τ2 G1 t) (e : wipe τ2 own = wipe σ own) :
    Inv B.cx [] (wipe σ own) G1 t ∧ at_ (n + 1) t.heap ∧ ∀ a ∈ its, G1 a = none := by
  have here : ∀ a ∈ its, ∀ o, h2.get? a = some o → t.heap.get? a = some o ∧ G1 a = none := fun a ha o q =>
    have ⟨r1, r2, _⟩ := I.pin (a, o) (List.mem_append_right [] (mem_pinsAt ha q))
    ⟨r1, r2⟩
  refine ⟨?_, B.walk.keep _ _ _ w fun a ha o q => (here a ha o q).1, fun a ha => ?_⟩
  · rw [← e]
    exact (Inv.unpinned (pins := []) (pl := pinsAt its h2) I).weak (wipe_length _ _) fun _ _ q => (wipe_some q).1
  · have ⟨o, q, _⟩ := B.walk.obj _ _ w a ha
    exact (here a ha o q).2
/-- where the loop stands between two turns, and how many turns are left at most -/
abbrev mid (own : List Nat) (W : Nat → Nat → Hp → Prop) (m : Nat) (t : Shared) : Prop := ∃ k G, W k m G ∧ Inv B.cx [] (wipe σ own) G t ∧ at_ k t.heap ∧ ∀ a ∈ its, G a = none
/-- all turns of the block; an element that raises is looked at by the block's env -/
theorem turns (hc : X.calm = true) {own : List Nat} {W : Nat → Nat → Hp → Prop} {elt iter : Expr} {ifs : List Expr} {sc : Scope} {pos : Pos} {gt : TG} {tt : TT} {te : TE} {D : Addr} {R : Result → Shared → Prop} {V : Hp → Prop} (store : PG B.cx tg gt) (ask : PTs B.cx ifs tt)
    (make : PE { B.cx with xe := notedBy (model X.prog X.w) X.A ce fun e u => R (.error e) u } elt te)
    (law : ∀ k m G, W k m G → (J.stop k G ∧ V G) ∨ (J.go k G ∧ ∃ Nx : Hp → Prop, (∀ G', Nx G' → ∃ m', m' < m ∧ W (k + 1) m' G') ∧ ∀ x G', J.yld k G x G' → gt x (wipe σ own) G' fun τ2 G2 => wipe τ2 own = wipe σ own ∧ tt τ2 G2 fun b G3 =>
      if b = true then te τ2 G3 fun y G4 => ∃ ys, G4 D = some (.lst ys) ∧ ys.length < sizeLine ∧ Nx (upd G4 D (.lst (ys ++ [y]))) else Nx G3))
    (close : ∀ G u, Inv B.cx [] (wipe σ own) G u → V G → R (.ok .next) u) {m : Nat} (h : B.mid own W m t) :
    codeAny (model X.prog X.w) X.A (.compLoop (.ListComp elt [⟨tg, iter, ifs, 0⟩] sc pos) 0 (.ref walker) (.ref D) ce) R t := by
  refine compLoop_any (B.mid own W) (fun m u hm => ?_) m h
  obtain ⟨k, G, hw, I, w, z⟩ := hm
  rcases law k m G hw with ⟨stop, q⟩ | ⟨go, Nx, less, step⟩
  · exact B.over hc I z w stop fun t' I' => close G t' I' q
  · refine B.fetch hc store ask I z w go step fun b τ2 G4 h2 t' w2 I4 same q => ?_
    have next : ∀ G5 t5, Inv B.cx (pinsAt its h2) τ2 G5 t5 → Nx G5 → ∃ m', m' < m ∧ B.mid own W m' t5 := fun G5 t5 I5 n5 =>
      have ⟨m', lt, w'⟩ := less G5 n5
      ⟨m', lt, k + 1, G5, w', B.settle w2 I5 same⟩
    cases b
    · exact next G4 t' I4 q
    · refine thn (make.run _ t' τ2 G4 _ (reXe I4) q) ?_
      rintro v t5 ⟨y, G5, I5, rel, ys, have_, short, n5⟩
      exact app_ok (X := B.cx) (unXe (X := B.cx) I5) have_ short rel fun t6 I6 => next _ t6 I6 n5
end
end Blk
/-- the state with a new empty list -/
abbrev withNew (t : Shared) : Shared := { t with heap := t.heap.push { cls := .type "list", data := .seq ([] : List Value).toArray } }
/-- the block's env, and the state that it starts from -/
abbrev envIn (X : Cx) (scope : Scope) (t : Shared) : Env := compEnvC scope (cellsFrom (t.heap.objs.size + 1) scope.names (cloFrom X.env.cells scope.names [])) t.heap.objs.size X.env
abbrev entered (scope : Scope) (t : Shared) : Shared := { t with heap := pushCells (t.heap.push { cls := .type "dict", data := .dict #[] }) scope.names }
section
variable {X : Cx} {pins : List (Addr × Obj)} {σ : L2.St} {G : Hp} {t : Shared} {tg : Expr} {scope : Scope} {own : List (Str × Nat)} {its : List Addr} {walker : Addr} {J : It} {at_ : Nat → Heap → Prop}
theorem newList_inv (I : Inv X pins σ G t) : Inv X pins σ (upd G t.heap.objs.size (.lst [])) (withNew t) :=
  I.laid (t' := t.toks) (fun _ _ q => Heap.get?_push_of_some _ q) (Nat.le_refl _) ⟨Nat.zero_le _, [], 0, .nil, Heap.get?_push_size _ rfl⟩
theorem opens (I : Inv X pins σ G t) (ok : BlkOk X.N X.env.scope scope own) (hN : X.N.Nodup) (T : Turn X.prog X.w X.K tg J its walker at_) (w : at_ 0 t.heap) (f : ∀ a ∈ its, FpOk X pins G a) :
    ∃ B : Blk X pins σ tg scope (withNew t) (upd G t.heap.objs.size (.lst [])) (envIn X scope (withNew t)) its walker J at_,
      Inv B.cx [] (wipe σ (own.map (·.2))) (upd G t.heap.objs.size (.lst [])) (entered scope (withNew t)) ∧ at_ 0 (entered scope (withNew t)).heap ∧ ∀ a ∈ its, upd G t.heap.objs.size (.lst []) a = none := by
  have old : ∀ a ∈ its, a < t.heap.objs.size := fun a ha => have ⟨_, q, _⟩ := T.obj _ _ w a ha; Heap.lt_size q
  have gone : ∀ a ∈ its, upd G t.heap.objs.size (.lst []) a = none := fun a ha => (upd_ne (Nat.ne_of_lt (old a ha))).trans (f a ha).1
  have still : ∀ a ∈ its, FpOk X pins (upd G t.heap.objs.size (.lst [])) a := fun a ha => And.intro (gone a ha) (f a ha).2
  refine ⟨⟨newList_inv I, rfl, rfl, still, T⟩, block_start (newList_inv I) ok hN fun a ha => And.intro (still a ha) ?_, ?_, gone⟩
  · rw [Heap.size_push]
    exact Nat.lt_succ_of_lt (old a ha)
  · exact T.keep _ _ _ w fun a _ o q => pushCells_keeps _ _ _ _ (Heap.get?_push_of_some _ (Heap.get?_push_of_some _ q))
end
section
variable {X : Cx} {E : XK} {elt tg iter : Expr} {ifs : List Expr} {scope : Scope} {own : List (Str × Nat)} {pos : Pos} {wi : TI} {g : TG} {tt : TT} {te : TE}
/-- what a comprehension with a raising element asks of its parts -/
structure Parts (X : Cx) (E : XK) (elt tg iter : Expr) (ifs : List Expr) (scope : Scope) (own : List (Str × Nat)) (wi : TI) (g : TG) (tt : TT) (te : TE) : Prop where
  top : X.stack = X.env :: X.outer
  fr : X.env.frame = some X.env.locals
  tk : Takes X (fun cls d _ H => E cls d H)
  calm : X.calm = true
  nod : X.N.Nodup
  src : PI X tg iter wi
  ok : BlkOk X.N X.env.scope scope own
  tgt : ∀ s H C cl fp, PG (X.blk s H scope (compEnvC scope cl C X.env) fp) tg g
  tst : ∀ s H C cl fp, PTs (X.blk s H scope (compEnvC scope cl C X.env) fp) ifs tt
  el : ∀ s H C cl fp xe, Passes (L2.CX X.prog X.w) (blkX X s H scope (compEnvC scope cl C X.env) fp xe) E → PE (blkX X s H scope (compEnvC scope cl C X.env) fp xe) elt te
  plain : ∀ x, foldedSetIterable iter X.env x = pure x
theorem Parts.run (P : Parts X E elt tg iter ifs scope own wi g tt te) {pins : List (Addr × Obj)} {s : Shared} {σ : L2.St} {H : Hp} {Q : VK} {pos' : Pos} {use : Option (Value → Sem Unit)} {Qf : Value → Shared → Prop} (I : Inv X pins σ H s)
    (h : tLc wi g tt te (own.map (·.2)) σ H Q)
    (fin : ∀ D C u m G, Inv X pins σ G u → Q (.ref D) G → u.heap.Ns C m → FpOk X pins G C → compPost (model X.prog X.w) X.A X.xe use Qf (.ref D) C (.ok .next) u) :
    wpAny (model X.prog X.w) X.A (comprehension (.ListComp elt [⟨tg, iter, ifs, 0⟩] scope pos) scope X.env pos' (newList []) false (eval iter X.env) use) Qf X.xe s := by
  have cells := closure_ok (scope := scope) (env := X.env) fun y hy e => (P.ok.free y hy e).elim (I.ok.has _ ∘ Or.inl) (I.ok.has _ ∘ Or.inr)
  refine compX (use := use) rfl P.plain cells P.ok.kind (fun y hy e => e ▸ P.ok.uniq y hy) ?_
  refine thn (P.src.run pins s σ H _ I h) fun _ _ got => thn got ?_
  rintro _ t ⟨walker, its, at_, J, G, rfl, It, T, w, f, law⟩
  refine wpAny_newObj_type (newEnv_comp ?_) (Nat.zero_le _)
  obtain ⟨W, ⟨m0, w0⟩, law⟩ := law _ (It.hok.fresh (Nat.le_refl _))
  obtain ⟨B, start⟩ := opens It P.ok P.nod T w f
  have loop := B.turns (R := cpX (model X.prog X.w) X.A X.xe use Qf (.ref t.heap.objs.size) (envIn X scope (withNew t))) (iter := iter) (sc := scope) (pos := pos) P.calm (P.tgt _ _ _ _ _) (P.tst _ _ _ _ _) (P.el _ _ _ _ _ _ fun _ _ _ _ _ _ I9 c => leaves_block P.top P.fr P.tk B.home B.loc B.frm B.free (unXe (X := B.cx) I9) c) law
    (fun G' u I' q => have ⟨m, ns, _⟩ := I'.loc; fin _ _ u m G' (B.back I') q ns (B.spot I')) ⟨0, _, w0, start⟩
  exact codeAny_compStart_list loop (T.self X.A 0 _ _ _ start.2.1 loop)
end
end DL
set_option Elab.async false
set_option linter.all false
set_option maxRecDepth 100000
set_option maxHeartbeats 1000000
namespace DL
open PySem PySem.Spec PyProof.Rows L2
end DL
set_option Elab.async false
set_option linter.all false
set_option maxRecDepth 100000
set_option maxHeartbeats 1000000
namespace DL
open PySem PySem.Spec PyProof.Rows L2
section
variable {X : Cx}
theorem call_absB : CallR X (.builtin "abs") (fun xs H Q => ∃ b : Bool, xs = [.bl b] ∧ Q (.int (if b = true then 1 else 0)) H) := fun pins s σ H xs us Q I r h => by
  obtain ⟨b, rfl, q⟩ := h
  obtain ⟨u, rfl, r1⟩ := vals1 r
  cases r1
  refine Calls.call_function_entry kind_abs plain_abs entry_abs (args_abs _) ?_
  unfold Builtin.«abs»
  refine wpAny_bind (m := oneArg "abs" _) (wpAny_pure ?_)
  refine wpAny_bind (m := callSpecial? (.bool b) (Str.ofString "__abs__")) (wpAny_callSpecial?_slot (name := Str.ofString "__abs__") rfl F.slot_bool_abs (wpAny_call_entry F.slot_bool_abs rfl entry_int_abs ?_ (args_int_abs _)))
  cases b with
  | true => exact wpAny_ret_mkInt (wpAny_pure ⟨_, rfl, ⟨.int 1, H, I.tok _, ⟨_, rfl⟩, q⟩⟩)
  | false => exact wpAny_ret_mkInt (wpAny_pure ⟨_, rfl, ⟨.int 0, H, I.tok _, ⟨_, rfl⟩, q⟩⟩)
variable {K : PySem.W.Frag} {ca : Nat → Addr} {E : XK}
def rAbsA : List V → Hp → VK → Prop := fun xs H Q => (∃ i, xs = [.int i] ∧ Q (.int (if i < 0 then -i else i)) H) ∨ ∃ b : Bool, xs = [.bl b] ∧ Q (.int (if b = true then 1 else 0)) H
theorem call_absA : CallR X (.builtin "abs") rAbsA := fun pins s σ H xs us Q I r h => h.elim (fun q => call_abs pins s σ H xs us Q I r q) fun q => call_absB pins s σ H xs us Q I r q
def oAbsB : DC := fun ds S => match ds with
  | [.int i] => .ok (.int (if i < 0 then -i else i)) S
  | [.bl b] => .ok (.int (if b = true then 1 else 0)) S
  | _ => .bad
theorem c_absB : CallS K ca E rAbsA oAbsB := fun g S vs ds Q ok r post => by
  unfold oAbsB at post
  split at post
  · cases r with
    | cons r1 r2 =>
      cases r2
      cases r1
      exact .inl ⟨_, rfl, PostE.here post ok (.int _)⟩
  · cases r with
    | cons r1 r2 =>
      cases r2
      cases r1
      exact .inr ⟨_, rfl, PostE.here post ok (.int _)⟩
  · exact post.elim
end
end DL
set_option Elab.async false
set_option linter.all false
set_option maxRecDepth 100000
set_option maxHeartbeats 1000000
namespace DL
open PySem PySem.Spec PyProof.Rows L2
def caOf (l : List Addr) : Nat → Addr := fun n => l.getD n 0
/-- the law's meaning is True at every script -/
def LawTrue (m : DC) : Prop := ∀ ns : List Int, ns.length ≤ 63 → ∃ S, m [.fls (ns.map D.int)] [] = .ok (.bl true) S
def spLaw (K : PySem.W.Frag) : Sp := fun vs H Q _ => ∃ (a : Addr) (ns : List Int), vs = [.ref a] ∧ SqL K H a (ns.map V.int) ∧ ns.length ≤ 63 ∧ ∀ H', Q (.bl true) H'
theorem law_sp {P : Program} {w : World} {K : PySem.W.Frag} {mg : Str → Option Value} {base : Heap} {CX : CXT} {k : Nat} {f : Addr} {fd : FuncData} {ps : List Str} {ca : Nat → Addr} {m : DC} (hm : LawTrue m) (F : FnOk P w K mg base CX k f fd ps (spD K ca 1 m)) :
    FnOk P w K mg base CX k f fd ps (spLaw K) := F.imp fun vs H Q E q => by
  obtain ⟨a, ns, rfl, hs, hl, k⟩ := q
  obtain ⟨S, e⟩ := hm ns hl
  refine ⟨⟨H, [], H⟩, [], [.fls (ns.map D.int)], rfl, ?_, .cons (.fls hs (RepAll.ofInts ns)) .nil, rfl, ?_⟩
  · exact ⟨Same.refl _, rfl, List.nodup_nil, (fun a h => nomatch h), (fun n o h => by simp at h)⟩
  · rw [e]
    intro v g' _ _ r
    cases r
    exact k _
theorem walkD {l : PySem.W.OpenLaw} {k : Nat} {q : Program} {loose : List Str} {XP : (Str → Option Value) → Heap → Prop} {YP : World → Heap → Prop} {d : DefRec} {K : Params → PySem.W.Frag} (hn : l.most = some 63) (hdf : d.params.defaults = []) (hr : Room k callerA)
    (hY : ∀ (w : World) (h : Heap), YP w h → (K w.params).In h)
    (F : ∀ (w : World) (mg : Str → Option Value) (fa : Addr) (h : Heap), (K w.params).In h → h.Ns mainGlobals mg → mg d.name = some (.ref fa) →
      ∃ fd : FuncData, (∀ (s : Shared) (u : Value), BindsTo s fd ⟨[u], []⟩ [("script", u)]) ∧ ∀ base : Heap, (K w.params).In base → base.Ns mainGlobals mg → FnOk l.prog w (K w.params) mg base (L2.CX l.prog w) k fa fd ["script"] (spLaw (K w.params))) :
    PySem.W.WalkO q loose XP YP l.row.toRowW d [] (fun f vs => PySem.call f vs) :=
  L2.walk_of (n := 63) (k := k) (x := "script") (CX := fun w => L2.CX l.prog w) (sp := fun w => spLaw (K w.params)) hn (by decide) hdf hr hY F (fun _ _ a ns hl _ hS => ⟨a, ns, rfl, hS, hl, fun _ => rfl⟩) fun _ _ _ _ _ z => by
    obtain ⟨_, _, _, _, _, _, _, _, _, _, _, _, z⟩ := z
    exact z
end DL
set_option Elab.async false
set_option linter.all false
set_option maxRecDepth 100000
set_option maxHeartbeats 4000000
namespace DL
open PySem PySem.Spec PyProof.Rows L2
def b_is_int : DS :=
  (sRet (eAnd (eUn (oIsi "int") (eVar 0)) (eAnd (eNot (eUn (oIsi "bool") (eVar 0))) (eChain oLe oLe (eVar 1) (eVar 0) (eVar 2)))))
def m_is_int : DC := runD 3 3 b_is_int
def b_is_form : DS :=
  (sSeq (sIf (eOr (eNot (eUn (oIsi "list") (eVar 0))) (eBin (oIn true) (eCall oLen (aCons (eVar 0) aNil)) (eC (.tup (List.map D.int [1, 2, 4, 8, 16]))))) (sRet (eC (.bl false))) sSkip)
    (sRet (eCall oAll (aCons (eAlt (eLc (eSeq (eVar 0)) (tgName 1) eYes (eCall m_is_int (aCons (eVar 1) (aCons (eUn oNeg (eC (.int 10000))) (aCons (eC (.int 10000)) aNil))))) (eLcO (eUn oObjL (eVar 0)) (tgName 1) eYes (eCall m_is_int (aCons (eVar 1) (aCons (eUn oNeg (eC (.int 10000))) (aCons (eC (.int 10000)) aNil)))))) aNil))))
def m_is_form : DC := runD 2 1 b_is_form
def b_check_form : DS :=
  (sIf (eNot (eCall m_is_form (aCons (eVar 0) aNil))) (sRaise 2) sSkip)
def m_check_form : DC := runD 1 1 b_check_form
def b_check_place : DS :=
  (sIf (eNot (eCall m_is_int (aCons (eVar 1) (aCons (eC (.int 0)) (aCons (eBin oSub (eCall oLen (aCons (eVar 0) aNil)) (eC (.int 1))) aNil))))) (sRaise 3) sSkip)
def m_check_place : DC := runD 2 2 b_check_place
def b_halves : DS :=
  (sRet (eTup (aCons (eBin oFdiv (eBin oAdd (eVar 0) (eVar 1)) (eC (.int 2))) (aCons (eBin oFdiv (eBin oSub (eVar 0) (eVar 1)) (eC (.int 2))) aNil))))
def m_halves : DC := runD 2 2 b_halves
def b_sums_of : DS :=
  (sSeq (sAsg (eCall oLen (aCons (eVar 0) aNil)) (tgName 1))
    (sSeq (sOwn 2 (eNewAdd (eLst (aCons (eC .non) (aCons (eBin oIx (eVar 0) (eC (.int 0))) aNil))) (eBin oMul (eLst (aCons (eC .non) aNil)) (eBin oSub (eBin oMul (eC (.int 2)) (eVar 1)) (eC (.int 2))))))
    (sSeq (sFor (eRng (aCons (eC (.int 1)) (aCons (eVar 1) aNil))) (tgName 3) (sSeq (sIf (eOr (eBin oIs (eOwnIx 2 (eVar 3)) (eC .non)) (eBin oNe (eBin oMod (eBin oAdd (eOwnIx 2 (eVar 3)) (eBin oIx (eVar 0) (eVar 3))) (eC (.int 2))) (eC (.int 0)))) (sFrz 2 (sRet (eTup (aCons (eVar 2) (aCons (eVar 3) aNil))))) sSkip)
    (sSet2 2 (eBin oMul (eC (.int 2)) (eVar 3)) (eBin oAdd (eBin oMul (eC (.int 2)) (eVar 3)) (eC (.int 1))) (eCall m_halves (aCons (eOwnIx 2 (eVar 3)) (aCons (eBin oIx (eVar 0) (eVar 3)) aNil))))))
    (sFrz 2 (sRet (eTup (aCons (eVar 2) (aCons (eC .non) aNil))))))))
def m_sums_of : DC := runD 4 1 b_sums_of
def b_has_row : DS :=
  (sSeq (sExpr (eCall m_check_form (aCons (eVar 0) aNil)))
    (sRet (eBin oIs (eBin oIx (eCall m_sums_of (aCons (eVar 0) aNil)) (eC (.int 1))) (eC .non))))
def m_has_row : DC := runD 1 1 b_has_row
def b_first_odd : DS :=
  (sSeq (sExpr (eCall m_check_form (aCons (eVar 0) aNil)))
    (sRet (eBin oIx (eCall m_sums_of (aCons (eVar 0) aNil)) (eC (.int 1)))))
def m_first_odd : DC := runD 1 1 b_first_odd
def b_list_of : DS :=
  (sSeq (sExpr (eCall m_check_form (aCons (eVar 0) aNil)))
    (sSeq (sAsg (eCall m_sums_of (aCons (eVar 0) aNil)) (tgTup (tgCons (tgName 1) (tgCons (tgName 2) tgNil))))
    (sSeq (sIf (eBin oIsnt (eVar 2) (eC .non)) (sRaise 6) sSkip)
    (sRet (eSl (eVar 1) (pSome (eCall oLen (aCons (eVar 0) aNil))) pNo)))))
def m_list_of : DC := runD 3 1 b_list_of
def b_block_size : DS :=
  (sSeq (sAsg (eVar 0) (tgName 2))
    (sSeq (sWhile 40 (eBin oGt (eVar 1) (eC (.int 1))) (sSeq (sAug 1 oFdiv (eC (.int 2)))
    (sAug 2 oFdiv (eC (.int 2)))))
    (sRet (eVar 2))))
def m_block_size : DC := runD 3 2 b_block_size
def b_place_of : DS :=
  (sSeq (sAsg (eCall m_block_size (aCons (eVar 0) (aCons (eVar 1) aNil))) (tgName 2))
    (sRet (eBin oMul (eBin oSub (eVar 1) (eBin oFdiv (eVar 0) (eVar 2))) (eVar 2))))
def m_place_of : DC := runD 3 2 b_place_of
def b_sign_at : DS :=
  (sSeq (sPar 3 4 (aCons (eCall m_place_of (aCons (eVar 0) (aCons (eVar 1) aNil))) (aCons (eCall m_block_size (aCons (eVar 0) (aCons (eVar 1) aNil))) aNil)))
    (sSeq (sIf (eNot (eChain oLe oLt (eVar 3) (eVar 2) (eBin oAdd (eVar 3) (eVar 4)))) (sRet (eC (.int 0))) sSkip)
    (sRet (eIf (eBin oLt (eVar 2) (eBin oAdd (eVar 3) (eBin oFdiv (eVar 4) (eC (.int 2))))) (eC (.int 1)) (eUn oNeg (eC (.int 1)))))))
def m_sign_at : DC := runD 5 3 b_sign_at
def b_common : DS :=
  (sSeq (sPar 0 1 (aCons (eCall oAbsB (aCons (eVar 0) aNil)) (aCons (eCall oAbsB (aCons (eVar 1) aNil)) aNil)))
    (sSeq (sWhile 63 (eBin oNe (eVar 1) (eC (.int 0))) (sPar 0 1 (aCons (eVar 1) (aCons (eBin oMod (eVar 0) (eVar 1)) aNil))))
    (sRet (eVar 0))))
def m_common : DC := runD 2 2 b_common
def b_lowest : DS :=
  (sSeq (sAsg (eCall m_common (aCons (eVar 0) (aCons (eVar 1) aNil))) (tgName 2))
    (sRet (eTup (aCons (eBin oFdiv (eVar 0) (eVar 2)) (aCons (eBin oFdiv (eVar 1) (eVar 2)) aNil)))))
def m_lowest : DC := runD 3 2 b_lowest
def b_plus : DS :=
  (sRet (eCall m_lowest (aCons (eBin oAdd (eBin oMul (eBin oIx (eVar 0) (eC (.int 0))) (eBin oIx (eVar 1) (eC (.int 1)))) (eBin oMul (eBin oIx (eVar 1) (eC (.int 0))) (eBin oIx (eVar 0) (eC (.int 1))))) (aCons (eBin oMul (eBin oIx (eVar 0) (eC (.int 1))) (eBin oIx (eVar 1) (eC (.int 1)))) aNil))))
def m_plus : DC := runD 2 2 b_plus
def b_value_of : DS :=
  (sSeq (sAsg (eCall oLen (aCons (eVar 0) aNil)) (tgName 2))
    (sSeq (sAsg (eCall m_lowest (aCons (eBin oIx (eVar 0) (eC (.int 0))) (aCons (eVar 2) aNil))) (tgName 3))
    (sSeq (sAsg (eBin oFdiv (eBin oAdd (eVar 2) (eVar 1)) (eC (.int 2))) (tgName 4))
    (sSeq (sWhile 40 (eBin oGt (eVar 4) (eC (.int 0))) (sSeq (sAsg (eCall m_plus (aCons (eVar 3) (aCons (eCall m_lowest (aCons (eBin oMul (eCall m_sign_at (aCons (eVar 2) (aCons (eVar 4) (aCons (eVar 1) aNil)))) (eBin oIx (eVar 0) (eVar 4))) (aCons (eCall m_block_size (aCons (eVar 2) (aCons (eVar 4) aNil))) aNil))) aNil))) (tgName 3))
    (sAug 4 oFdiv (eC (.int 2)))))
    (sRet (eVar 3))))))
def m_value_of : DC := runD 5 2 b_value_of
def b_value_at : DS :=
  (sSeq (sExpr (eCall m_check_form (aCons (eVar 0) aNil)))
    (sSeq (sExpr (eCall m_check_place (aCons (eVar 0) (aCons (eVar 1) aNil))))
    (sRet (eCall m_value_of (aCons (eVar 0) (aCons (eVar 1) aNil))))))
def m_value_at : DC := runD 2 2 b_value_at
def b_all_values : DS :=
  (sSeq (sExpr (eCall m_check_form (aCons (eVar 0) aNil)))
    (sRet (eLc (eRng (aCons (eCall oLen (aCons (eVar 0) aNil)) aNil)) (tgName 1) eYes (eCall m_value_of (aCons (eVar 0) (aCons (eVar 1) aNil))))))
def m_all_values : DC := runD 2 1 b_all_values
def b_law_start : DS :=
  (sRet (eObj (eLst (aCons (eObj (eIf (eBin oNe (eVar 0) (eLst aNil)) (eCall oList (aCons (eVar 0) aNil)) (eLst (aCons (eC (.int 0)) aNil)))) (aCons (eC (.int 0)) aNil)))))
def m_law_start : DC := runD 1 1 b_law_start
def b_law_draw : DS :=
  (sSeq (sAsg (eBin oIx (eVar 0) (eC (.int 0))) (tgName 2))
    (sSeq (sSetB (eVar 0) (eC (.int 1)) (eBin oAdd (eBin oIx (eVar 0) (eC (.int 1))) (eC (.int 1))))
    (sSeq (sAsg (eBin oMod (eBin oIx (eVar 0) (eC (.int 1))) (eCall oLen (aCons (eVar 2) aNil))) (tgName 3))
    (sSeq (sAsg (eBin oIx (eVar 2) (eVar 3)) (tgName 4))
    (sSeq (sIf (eBin oGe (eVar 4) (eC (.int 1000000000000000000))) (sSeq (sSetB (eVar 2) (eVar 3) (eBin oFdiv (eVar 4) (eVar 1)))
    (sRet (eBin oMod (eVar 4) (eVar 1)))) sSkip)
    (sSeq (sAsg (eBin oMod (eBin oAdd (eVar 4) (eBin oMul (eC (.int 104729)) (eBin oIx (eVar 0) (eC (.int 1))))) (eC (.int 4294967291))) (tgName 5))
    (sSeq (sAsg (eBin oMod (eBin oPow (eVar 5) (eC (.int 5))) (eC (.int 4294967279))) (tgName 5))
    (sRet (eBin oMod (eBin oFdiv (eBin oMod (eBin oAdd (eBin oMul (eBin oFdiv (eVar 5) (eC (.int 64))) (eC (.int 69621))) (eVar 5)) (eC (.int 4294967231))) (eC (.int 8))) (eVar 1))))))))))
def m_law_draw : DC := runD 6 2 b_law_draw
def b_law_error : DS :=
  (sSeq (sAsg (eLst (aCons (eUn (oIsE 1) (eVar 0)) (aCons (eUn (oIsE 2) (eVar 0)) (aCons (eUn (oIsE 3) (eVar 0)) aNil)))) (tgName 1))
    (sSeq (sAsg (eBin oAdd (eVar 1) (eLst (aCons (eUn (oIsE 4) (eVar 0)) (aCons (eUn (oIsE 5) (eVar 0)) (aCons (eUn (oIsE 6) (eVar 0)) aNil))))) (tgName 1))
    (sSeq (sIf (eOr (eBin oNe (eCnt (eVar 1) (eC (.bl true))) (eC (.int 1))) (eOr (eNot (eUn (oIsE 0) (eVar 0))) (eNot (eUn oIsV (eVar 0))))) (sRet (eC (.str (Str.ofString "odd")))) sSkip)
    (sRet (eBin oIx (eLst (aCons (eC (.str (Str.ofString "row"))) (aCons (eC (.str (Str.ofString "form"))) (aCons (eC (.str (Str.ofString "number"))) (aCons (eC (.str (Str.ofString "kept"))) (aCons (eC (.str (Str.ofString "text"))) (aCons (eC (.str (Str.ofString "none"))) aNil))))))) (eIndex (eVar 1) (eC (.bl true))))))))
def m_law_error : DC := runD 2 1 b_law_error
def b_sum_from_to : DS :=
  (sSeq (sExpr (eCall m_check_form (aCons (eVar 0) aNil)))
    (sSeq (sIf (eOr (eNot (eCall m_is_int (aCons (eVar 1) (aCons (eC (.int 0)) (aCons (eCall oLen (aCons (eVar 0) aNil)) aNil))))) (eNot (eCall m_is_int (aCons (eVar 2) (aCons (eVar 1) (aCons (eCall oLen (aCons (eVar 0) aNil)) aNil)))))) (sRaise 3) sSkip)
    (sSeq (sAsg (eCall m_lowest (aCons (eBin oMul (eBin oIx (eVar 0) (eC (.int 0))) (eBin oSub (eVar 2) (eVar 1))) (aCons (eCall oLen (aCons (eVar 0) aNil)) aNil))) (tgName 3))
    (sSeq (sFor (eRng (aCons (eC (.int 1)) (aCons (eCall oLen (aCons (eVar 0) aNil)) aNil))) (tgName 4) (sSeq (sAsg (eCall oSum (aCons (eLc (eRng (aCons (eVar 1) (aCons (eVar 2) aNil))) (tgName 6) eYes (eCall m_sign_at (aCons (eCall oLen (aCons (eVar 0) aNil)) (aCons (eVar 4) (aCons (eVar 6) aNil))))) aNil)) (tgName 5))
    (sAsg (eCall m_plus (aCons (eVar 3) (aCons (eCall m_lowest (aCons (eBin oMul (eVar 5) (eBin oIx (eVar 0) (eVar 4))) (aCons (eCall m_block_size (aCons (eCall oLen (aCons (eVar 0) aNil)) (aCons (eVar 4) aNil))) aNil))) aNil))) (tgName 3))))
    (sRet (eVar 3))))))
def m_sum_from_to : DC := runD 7 3 b_sum_from_to
def b_details_for : DS :=
  (sSeq (sExpr (eCall m_check_form (aCons (eVar 0) aNil)))
    (sSeq (sIf (eOr (eNot (eCall m_is_int (aCons (eVar 1) (aCons (eC (.int 0)) (aCons (eCall oLen (aCons (eVar 0) aNil)) aNil))))) (eNot (eCall m_is_int (aCons (eVar 2) (aCons (eVar 1) (aCons (eCall oLen (aCons (eVar 0) aNil)) aNil)))))) (sRaise 3) sSkip)
    (sSeq (sOwn 3 (eLst aNil))
    (sSeq (sFor (eRng (aCons (eC (.int 1)) (aCons (eCall oLen (aCons (eVar 0) aNil)) aNil))) (tgName 4) (sIf (eBin oNe (eCall oSum (aCons (eLc (eRng (aCons (eVar 1) (aCons (eVar 2) aNil))) (tgName 5) eYes (eCall m_sign_at (aCons (eCall oLen (aCons (eVar 0) aNil)) (aCons (eVar 4) (aCons (eVar 5) aNil))))) aNil)) (eC (.int 0))) (sApp 3 (eVar 4)) sSkip))
    (sFrz 3 (sRet (eVar 3)))))))
def m_details_for : DC := runD 6 3 b_details_for
def b_is_kept : DS :=
  (sSeq (sIf (eOr (eNot (eUn (oIsi "tuple") (eVar 1))) (eNot (eCall oAll (aCons (eLc (eSeq (eVar 1)) (tgName 3) eYes (eCall m_is_int (aCons (eVar 3) (aCons (eC (.int 1)) (aCons (eBin oSub (eCall oLen (aCons (eVar 0) aNil)) (eC (.int 1))) aNil))))) aNil)))) (sRet (eC (.bl false))) sSkip)
    (sRet (eCall oAll (aCons (eLc (eRng (aCons (eBin oSub (eCall oLen (aCons (eVar 1) aNil)) (eC (.int 1))) aNil)) (tgName 2) eYes (eBin oLt (eBin oIx (eVar 1) (eVar 2)) (eBin oIx (eVar 1) (eBin oAdd (eVar 2) (eC (.int 1)))))) aNil))))
def m_is_kept : DC := runD 4 2 b_is_kept
def b_check_kept : DS :=
  (sIf (eNot (eCall m_is_kept (aCons (eVar 0) (aCons (eVar 1) aNil)))) (sRaise 4) sSkip)
def m_check_kept : DC := runD 2 2 b_check_kept
def b_less : DS :=
  (sRet (eBin oLt (eBin oMul (eBin oIx (eVar 0) (eC (.int 0))) (eBin oIx (eVar 1) (eC (.int 1)))) (eBin oMul (eBin oIx (eVar 1) (eC (.int 0))) (eBin oIx (eVar 0) (eC (.int 1))))))
def m_less : DC := runD 2 2 b_less
def b_total : DS :=
  (sSeq (sAsg (eTup (aCons (eC (.int 0)) (aCons (eC (.int 1)) aNil))) (tgName 1))
    (sSeq (sFor (eSeq (eVar 0)) (tgName 2) (sAsg (eCall m_plus (aCons (eVar 1) (aCons (eVar 2) aNil))) (tgName 1)))
    (sRet (eVar 1))))
def m_total : DC := runD 3 1 b_total
def b_share_of : DS :=
  (sSeq (sIf (eBin oEq (eVar 1) (eC (.int 0))) (sRet (eCall m_lowest (aCons (eBin oMul (eBin oIx (eVar 0) (eC (.int 0))) (eBin oIx (eVar 0) (eC (.int 0)))) (aCons (eCall oLen (aCons (eVar 0) aNil)) aNil)))) sSkip)
    (sRet (eCall m_lowest (aCons (eBin oMul (eBin oIx (eVar 0) (eVar 1)) (eBin oIx (eVar 0) (eVar 1))) (aCons (eCall m_block_size (aCons (eCall oLen (aCons (eVar 0) aNil)) (aCons (eVar 1) aNil))) aNil)))))
def m_share_of : DC := runD 2 2 b_share_of
def b_share : DS :=
  (sSeq (sExpr (eCall m_check_form (aCons (eVar 0) aNil)))
    (sSeq (sIf (eNot (eCall m_is_int (aCons (eVar 1) (aCons (eC (.int 0)) (aCons (eBin oSub (eCall oLen (aCons (eVar 0) aNil)) (eC (.int 1))) aNil))))) (sRaise 3) sSkip)
    (sRet (eCall m_share_of (aCons (eVar 0) (aCons (eVar 1) aNil))))))
def m_share : DC := runD 2 2 b_share
def b_shares : DS :=
  (sSeq (sExpr (eCall m_check_form (aCons (eVar 0) aNil)))
    (sRet (eLc (eRng (aCons (eCall oLen (aCons (eVar 0) aNil)) aNil)) (tgName 1) eYes (eCall m_share_of (aCons (eVar 0) (aCons (eVar 1) aNil))))))
def m_shares : DC := runD 2 1 b_shares
def b_left_out : DS :=
  (sSeq (sExpr (eCall m_check_form (aCons (eVar 0) aNil)))
    (sSeq (sExpr (eCall m_check_kept (aCons (eVar 0) (aCons (eVar 1) aNil))))
    (sRet (eCall m_total (aCons (eLc (eRng (aCons (eC (.int 1)) (aCons (eCall oLen (aCons (eVar 0) aNil)) aNil))) (tgName 2) (eBin (oIn true) (eVar 2) (eVar 1)) (eCall m_share_of (aCons (eVar 0) (aCons (eVar 2) aNil)))) aNil)))))
def m_left_out : DC := runD 3 2 b_left_out
def b_in_order : DS :=
  (sSeq (sAsg (eLst aNil) (tgName 1))
    (sSeq (sFor (eRng (aCons (eC (.int 1)) (aCons (eCall oLen (aCons (eVar 0) aNil)) aNil))) (tgName 2) (sSeq (sAsg (eCall m_share_of (aCons (eVar 0) (aCons (eVar 2) aNil))) (tgName 3))
    (sSeq (sAsg (eCall oLen (aCons (eLc (eSeq (eVar 1)) (tgName 5) (eNot (eCall m_less (aCons (eCall m_share_of (aCons (eVar 0) (aCons (eVar 5) aNil))) (aCons (eVar 3) aNil)))) (eVar 5)) aNil)) (tgName 4))
    (sAsg (eBin oAdd (eBin oAdd (eSl (eVar 1) pNo (pSome (eVar 4))) (eLst (aCons (eVar 2) aNil))) (eSl (eVar 1) (pSome (eVar 4)) pNo)) (tgName 1)))))
    (sRet (eVar 1))))
def m_in_order : DC := runD 6 1 b_in_order
def b_by_share : DS :=
  (sSeq (sExpr (eCall m_check_form (aCons (eVar 0) aNil)))
    (sRet (eCall m_in_order (aCons (eVar 0) aNil))))
def m_by_share : DC := runD 1 1 b_by_share
def b_with_kept : DS :=
  (sRet (eLc (eRng (aCons (eCall oLen (aCons (eVar 0) aNil)) aNil)) (tgName 2) eYes (eIf (eOr (eBin oEq (eVar 2) (eC (.int 0))) (eBin (oIn false) (eVar 2) (eVar 1))) (eBin oIx (eVar 0) (eVar 2)) (eC (.int 0)))))
def m_with_kept : DC := runD 3 2 b_with_kept
def b_only : DS :=
  (sSeq (sExpr (eCall m_check_form (aCons (eVar 0) aNil)))
    (sSeq (sExpr (eCall m_check_kept (aCons (eVar 0) (aCons (eVar 1) aNil))))
    (sRet (eCall m_with_kept (aCons (eVar 0) (aCons (eVar 1) aNil))))))
def m_only : DC := runD 2 2 b_only
def b_check_many : DS :=
  (sIf (eNot (eCall m_is_int (aCons (eVar 1) (aCons (eC (.int 0)) (aCons (eBin oSub (eCall oLen (aCons (eVar 0) aNil)) (eC (.int 1))) aNil))))) (sRaise 3) sSkip)
def m_check_many : DC := runD 2 2 b_check_many
def b_best_kept : DS :=
  (sSeq (sExpr (eCall m_check_form (aCons (eVar 0) aNil)))
    (sSeq (sExpr (eCall m_check_many (aCons (eVar 0) (aCons (eVar 1) aNil))))
    (sRet (eCall oTuple (aCons (eCall oSorted (aCons (eSl (eCall m_in_order (aCons (eVar 0) aNil)) pNo (pSome (eVar 1))) aNil)) aNil)))))
def m_best_kept : DC := runD 2 2 b_best_kept
def b_least_error : DS :=
  (sSeq (sExpr (eCall m_check_form (aCons (eVar 0) aNil)))
    (sSeq (sExpr (eCall m_check_many (aCons (eVar 0) (aCons (eVar 1) aNil))))
    (sRet (eCall m_total (aCons (eLc (eSeq (eSl (eCall m_in_order (aCons (eVar 0) aNil)) (pSome (eVar 1)) pNo)) (tgName 2) eYes (eCall m_share_of (aCons (eVar 0) (aCons (eVar 2) aNil)))) aNil)))))
def m_least_error : DC := runD 3 2 b_least_error
def b_ties : DS :=
  (sSeq (sAsg (eCall m_in_order (aCons (eVar 0) aNil)) (tgName 2))
    (sSeq (sIf (eBin oEq (eVar 1) (eC (.int 0))) (sRet (eTup (aCons (eC (.int 0)) (aCons (eC (.int 0)) aNil)))) sSkip)
    (sSeq (sAsg (eCall m_share_of (aCons (eVar 0) (aCons (eBin oIx (eVar 2) (eBin oSub (eVar 1) (eC (.int 1)))) aNil))) (tgName 3))
    (sSeq (sAsg (eLc (eSeq (eVar 2)) (tgName 5) (eBin oEq (eCall m_share_of (aCons (eVar 0) (aCons (eVar 5) aNil))) (eVar 3)) (eVar 5)) (tgName 4))
    (sRet (eTup (aCons (eCall oLen (aCons (eLc (eSeq (eSl (eVar 2) pNo (pSome (eVar 1)))) (tgName 5) (eBin oEq (eCall m_share_of (aCons (eVar 0) (aCons (eVar 5) aNil))) (eVar 3)) (eVar 5)) aNil)) (aCons (eCall oLen (aCons (eVar 4) aNil)) aNil))))))))
def m_ties : DC := runD 6 2 b_ties
def b_choose : DS :=
  (sSeq (sAsg (eC (.int 1)) (tgName 2))
    (sSeq (sFor (eRng (aCons (eVar 0) aNil)) (tgName 3) (sAsg (eBin oFdiv (eBin oMul (eVar 2) (eBin oSub (eVar 1) (eVar 3))) (eBin oAdd (eVar 3) (eC (.int 1)))) (tgName 2)))
    (sRet (eVar 2))))
def m_choose : DC := runD 4 2 b_choose
def b_count_best : DS :=
  (sSeq (sExpr (eCall m_check_form (aCons (eVar 0) aNil)))
    (sSeq (sExpr (eCall m_check_many (aCons (eVar 0) (aCons (eVar 1) aNil))))
    (sSeq (sAsg (eCall m_ties (aCons (eVar 0) (aCons (eVar 1) aNil))) (tgTup (tgCons (tgName 2) (tgCons (tgName 3) tgNil))))
    (sRet (eCall m_choose (aCons (eVar 2) (aCons (eVar 3) aNil)))))))
def m_count_best : DC := runD 4 2 b_count_best
def b_is_best : DS :=
  (sSeq (sExpr (eCall m_check_form (aCons (eVar 0) aNil)))
    (sSeq (sExpr (eCall m_check_kept (aCons (eVar 0) (aCons (eVar 1) aNil))))
    (sSeq (sAsg (eCall m_total (aCons (eLc (eSeq (eVar 1)) (tgName 3) eYes (eCall m_share_of (aCons (eVar 0) (aCons (eVar 3) aNil)))) aNil)) (tgName 2))
    (sRet (eBin oEq (eVar 2) (eCall m_total (aCons (eLc (eSeq (eSl (eCall m_in_order (aCons (eVar 0) aNil)) pNo (pSome (eCall oLen (aCons (eVar 1) aNil))))) (tgName 3) eYes (eCall m_share_of (aCons (eVar 0) (aCons (eVar 3) aNil)))) aNil)))))))
def m_is_best : DC := runD 4 2 b_is_best
def b_is_size : DS :=
  (sSeq (sIf (eOr (eNot (eUn (oIsi "tuple") (eVar 0))) (eBin oNe (eCall oLen (aCons (eVar 0) aNil)) (eC (.int 2)))) (sRet (eC (.bl false))) sSkip)
    (sSeq (sIf (eOr (eNot (eCall m_is_int (aCons (eBin oIx (eVar 0) (eC (.int 0))) (aCons (eC (.int 0)) (aCons (eC (.int 1000000000)) aNil))))) (eNot (eCall m_is_int (aCons (eBin oIx (eVar 0) (eC (.int 1))) (aCons (eC (.int 1)) (aCons (eC (.int 1000000000)) aNil)))))) (sRet (eC (.bl false))) sSkip)
    (sRet (eBin oEq (eCall m_common (aCons (eBin oIx (eVar 0) (eC (.int 0))) (aCons (eBin oIx (eVar 0) (eC (.int 1))) aNil))) (eC (.int 1))))))
def m_is_size : DC := runD 1 1 b_is_size
def b_check_size : DS :=
  (sIf (eNot (eCall m_is_size (aCons (eVar 0) aNil))) (sRaise 3) sSkip)
def m_check_size : DC := runD 1 1 b_check_size
def b_fewest_within : DS :=
  (sSeq (sExpr (eCall m_check_form (aCons (eVar 0) aNil)))
    (sSeq (sExpr (eCall m_check_size (aCons (eVar 1) aNil)))
    (sSeq (sAsg (eC (.int 0)) (tgName 2))
    (sSeq (sWhile 40 (eCall m_less (aCons (eVar 1) (aCons (eCall m_total (aCons (eLc (eSeq (eSl (eCall m_in_order (aCons (eVar 0) aNil)) (pSome (eVar 2)) pNo)) (tgName 3) eYes (eCall m_share_of (aCons (eVar 0) (aCons (eVar 3) aNil)))) aNil)) aNil))) (sAug 2 oAddI (eC (.int 1))))
    (sRet (eVar 2))))))
def m_fewest_within : DC := runD 4 2 b_fewest_within
def b_greatest_gap : DS :=
  (sSeq (sExpr (eCall m_check_form (aCons (eVar 0) aNil)))
    (sSeq (sExpr (eCall m_check_kept (aCons (eVar 0) (aCons (eVar 1) aNil))))
    (sSeq (sAsg (eLc (eRng (aCons (eCall oLen (aCons (eVar 0) aNil)) aNil)) (tgName 5) eYes (eIf (eAnd (eBin oGt (eVar 5) (eC (.int 0))) (eBin (oIn true) (eVar 5) (eVar 1))) (eBin oIx (eVar 0) (eVar 5)) (eC (.int 0)))) (tgName 2))
    (sSeq (sAsg (eTup (aCons (eC (.int 0)) (aCons (eC (.int 1)) aNil))) (tgName 3))
    (sSeq (sFor (eRng (aCons (eCall oLen (aCons (eVar 0) aNil)) aNil)) (tgName 4) (sSeq (sAsg (eCall m_value_of (aCons (eVar 2) (aCons (eVar 4) aNil))) (tgTup (tgCons (tgName 6) (tgCons (tgName 7) tgNil))))
    (sAsg (eIf (eCall m_less (aCons (eVar 3) (aCons (eTup (aCons (eCall oAbs (aCons (eVar 6) aNil)) (aCons (eVar 7) aNil))) aNil))) (eTup (aCons (eCall oAbs (aCons (eVar 6) aNil)) (aCons (eVar 7) aNil))) (eVar 3)) (tgName 3))))
    (sRet (eVar 3)))))))
def m_greatest_gap : DC := runD 8 2 b_greatest_gap
def b_means : DS :=
  (sSeq (sExpr (eCall m_check_form (aCons (eVar 0) aNil)))
    (sSeq (sAsg (eC (.int 1)) (tgName 2))
    (sSeq (sFor (eRng (aCons (eIf (eCall m_is_int (aCons (eVar 1) (aCons (eC (.int 0)) (aCons (eC (.int 4)) aNil)))) (eVar 1) (eC (.int 5))) aNil)) (tgName 3) (sAug 2 oMulI (eC (.int 2))))
    (sSeq (sIf (eBin oGt (eVar 2) (eCall oLen (aCons (eVar 0) aNil))) (sRaise 3) sSkip)
    (sSeq (sAsg (eBin oFdiv (eCall oLen (aCons (eVar 0) aNil)) (eVar 2)) (tgName 4))
    (sSeq (sOwn 5 (eLst aNil))
    (sSeq (sFor (eRng (aCons (eVar 2) (aCons (eBin oMul (eC (.int 2)) (eVar 2)) aNil))) (tgName 6) (sSeq (sAsg (eCall m_place_of (aCons (eCall oLen (aCons (eVar 0) aNil)) (aCons (eVar 6) aNil))) (tgName 7))
    (sSeq (sAsg (eCall m_sum_from_to (aCons (eVar 0) (aCons (eVar 7) (aCons (eBin oAdd (eVar 7) (eVar 4)) aNil)))) (tgName 8))
    (sApp 5 (eCall m_lowest (aCons (eBin oIx (eVar 8) (eC (.int 0))) (aCons (eBin oMul (eBin oIx (eVar 8) (eC (.int 1))) (eVar 4)) aNil)))))))
    (sFrz 5 (sRet (eVar 5))))))))))
def m_means : DC := runD 9 2 b_means
def b_checked : DS :=
  (sSeq (sIf (eNot (eCall m_is_form (aCons (eVar 0) aNil))) (sRaise 2) sSkip)
    (sRet (eVar 0)))
def m_checked : DC := runD 1 1 b_checked
def b_changed_form : DS :=
  (sSeq (sExpr (eCall m_check_form (aCons (eVar 0) aNil)))
    (sSeq (sExpr (eCall m_check_place (aCons (eVar 0) (aCons (eVar 1) aNil))))
    (sSeq (sIf (eNot (eCall m_is_int (aCons (eVar 2) (aCons (eUn oNeg (eC (.int 200))) (aCons (eC (.int 200)) aNil))))) (sRaise 3) sSkip)
    (sSeq (sAsg (eCall oLen (aCons (eVar 0) aNil)) (tgName 3))
    (sSeq (sOwn 4 (eLst (aCons (eBin oAdd (eBin oIx (eVar 0) (eC (.int 0))) (eVar 2)) aNil)))
    (sSeq (sFor (eRng (aCons (eC (.int 1)) (aCons (eVar 3) aNil))) (tgName 5) (sApp 4 (eBin oAdd (eBin oIx (eVar 0) (eVar 5)) (eBin oMul (eVar 2) (eCall m_sign_at (aCons (eVar 3) (aCons (eVar 5) (aCons (eVar 1) aNil))))))))
    (sFrz 4 (sRet (eCall m_checked (aCons (eVar 4) aNil))))))))))
def m_changed_form : DC := runD 6 3 b_changed_form
def b_added : DS :=
  (sSeq (sExpr (eCall m_check_form (aCons (eVar 0) aNil)))
    (sSeq (sExpr (eCall m_check_form (aCons (eVar 1) aNil)))
    (sSeq (sIf (eBin oNe (eCall oLen (aCons (eVar 0) aNil)) (eCall oLen (aCons (eVar 1) aNil))) (sRaise 2) sSkip)
    (sRet (eCall m_checked (aCons (eLc (eZip (aCons (eVar 0) (aCons (eVar 1) aNil))) (tgTup (tgCons (tgName 2) (tgCons (tgName 3) tgNil))) eYes (eBin oAdd (eVar 2) (eVar 3))) aNil))))))
def m_added : DC := runD 4 2 b_added
def b_scaled : DS :=
  (sSeq (sExpr (eCall m_check_form (aCons (eVar 0) aNil)))
    (sSeq (sIf (eNot (eCall m_is_int (aCons (eVar 1) (aCons (eUn oNeg (eC (.int 99))) (aCons (eC (.int 99)) aNil))))) (sRaise 3) sSkip)
    (sRet (eCall m_checked (aCons (eLc (eSeq (eVar 0)) (tgName 2) eYes (eBin oMul (eVar 2) (eVar 1))) aNil)))))
def m_scaled : DC := runD 3 2 b_scaled
def b_backward_form : DS :=
  (sSeq (sExpr (eCall m_check_form (aCons (eVar 0) aNil)))
    (sSeq (sAsg (eCall oLen (aCons (eVar 0) aNil)) (tgName 1))
    (sSeq (sOwn 2 (eLst (aCons (eBin oIx (eVar 0) (eC (.int 0))) aNil)))
    (sSeq (sAsg (eC (.int 1)) (tgName 3))
    (sSeq (sWhile 40 (eBin oLt (eVar 3) (eVar 1)) (sSeq (sIaddO 2 (eLc (eSeq (eUn oRev (eSl (eVar 0) (pSome (eVar 3)) (pSome (eBin oMul (eC (.int 2)) (eVar 3)))))) (tgName 4) eYes (eUn oNeg (eVar 4))))
    (sAug 3 oMulI (eC (.int 2)))))
    (sFrz 2 (sRet (eVar 2))))))))
def m_backward_form : DC := runD 5 1 b_backward_form
def b_exchanged : DS :=
  (sSeq (sExpr (eCall m_check_form (aCons (eVar 0) aNil)))
    (sSeq (sIf (eNot (eCall m_is_int (aCons (eVar 1) (aCons (eC (.int 1)) (aCons (eBin oSub (eCall oLen (aCons (eVar 0) aNil)) (eC (.int 1))) aNil))))) (sRaise 3) sSkip)
    (sSeq (sOwn 2 (eCall oList (aCons (eVar 0) aNil)))
    (sSeq (sSetO 2 (eVar 1) (eUn oNeg (eOwnIx 2 (eVar 1))))
    (sSeq (sPar 3 4 (aCons (eBin oMul (eC (.int 2)) (eVar 1)) (aCons (eC (.int 1)) aNil)))
    (sSeq (sWhile 40 (eBin oLt (eVar 3) (eCall oLen (aCons (eVar 0) aNil))) (sSeq (sSlO 2 (eVar 3) (eBin oAdd (eVar 3) (eBin oMul (eC (.int 2)) (eVar 4))) (eBin oAdd (eSl (eVar 0) (pSome (eBin oAdd (eVar 3) (eVar 4))) (pSome (eBin oAdd (eVar 3) (eBin oMul (eC (.int 2)) (eVar 4))))) (eSl (eVar 0) (pSome (eVar 3)) (pSome (eBin oAdd (eVar 3) (eVar 4))))))
    (sPar 3 4 (aCons (eBin oMul (eC (.int 2)) (eVar 3)) (aCons (eBin oMul (eC (.int 2)) (eVar 4)) aNil)))))
    (sFrz 2 (sRet (eVar 2)))))))))
def m_exchanged : DC := runD 5 2 b_exchanged
def b_halves_of : DS :=
  (sSeq (sExpr (eCall m_check_form (aCons (eVar 0) aNil)))
    (sSeq (sAsg (eCall oLen (aCons (eVar 0) aNil)) (tgName 1))
    (sSeq (sIf (eBin oEq (eVar 1) (eC (.int 1))) (sRaise 3) sSkip)
    (sSeq (sIf (eBin oNe (eBin oMod (eBin oAdd (eBin oIx (eVar 0) (eC (.int 0))) (eBin oIx (eVar 0) (eC (.int 1)))) (eC (.int 2))) (eC (.int 0))) (sRaise 3) sSkip)
    (sSeq (sOwn2 3 4 (eLst (aCons (eBin oFdiv (eBin oAdd (eBin oIx (eVar 0) (eC (.int 0))) (eBin oIx (eVar 0) (eC (.int 1)))) (eC (.int 2))) aNil)) (eLst (aCons (eBin oFdiv (eBin oSub (eBin oIx (eVar 0) (eC (.int 0))) (eBin oIx (eVar 0) (eC (.int 1)))) (eC (.int 2))) aNil)))
    (sSeq (sAsg (eC (.int 1)) (tgName 2))
    (sSeq (sWhile 40 (eBin oLt (eBin oMul (eC (.int 2)) (eVar 2)) (eVar 1)) (sSeq (sIaddO 3 (eSl (eVar 0) (pSome (eBin oMul (eC (.int 2)) (eVar 2))) (pSome (eBin oMul (eC (.int 3)) (eVar 2)))))
    (sSeq (sIaddO 4 (eSl (eVar 0) (pSome (eBin oMul (eC (.int 3)) (eVar 2))) (pSome (eBin oMul (eC (.int 4)) (eVar 2)))))
    (sAug 2 oMulI (eC (.int 2))))))
    (sFrz 4 (sFrz 3 (sRet (eTup (aCons (eVar 3) (aCons (eVar 4) aNil)))))))))))))
def m_halves_of : DC := runD 5 1 b_halves_of
def b_Keeper___init__ : DS :=
  (sSeq (sExpr (eCall m_check_form (aCons (eVar 1) aNil)))
    (sSeq (sFldS (Str.ofString "form") (eVar 0) (eCall oList (aCons (eVar 1) aNil)))
    (sFldS (Str.ofString "row") (eVar 0) (eLst aNil))))
def m_Keeper___init__ : DC := runD 2 2 b_Keeper___init__
def b_Keeper_error : DS :=
  (sSeq (sAsg (eTup (aCons (eC (.int 0)) (aCons (eC (.int 1)) aNil))) (tgName 1))
    (sSeq (sFor (eRng (aCons (eC (.int 1)) (aCons (eCall oLen (aCons (eFld (Str.ofString "form") (eVar 0)) aNil)) aNil))) (tgName 2) (sIf (eBin (oIn true) (eVar 2) (eFld (Str.ofString "row") (eVar 0))) (sAsg (eCall m_plus (aCons (eVar 1) (aCons (eCall m_share_of (aCons (eFld (Str.ofString "form") (eVar 0)) (aCons (eVar 2) aNil))) aNil))) (tgName 1)) sSkip))
    (sRet (eVar 1))))
def m_Keeper_error : DC := runD 3 1 b_Keeper_error
def b_Keeper_kept : DS :=
  (sRet (eCall oTuple (aCons (eFld (Str.ofString "row") (eVar 0)) aNil)))
def m_Keeper_kept : DC := runD 1 1 b_Keeper_kept
def b_Keeper_value : DS :=
  (sSeq (sIf (eNot (eCall m_is_int (aCons (eVar 1) (aCons (eC (.int 0)) (aCons (eBin oSub (eCall oLen (aCons (eFld (Str.ofString "form") (eVar 0)) aNil)) (eC (.int 1))) aNil))))) (sRaise 3) sSkip)
    (sSeq (sAsg (eLc (eRng (aCons (eCall oLen (aCons (eFld (Str.ofString "form") (eVar 0)) aNil)) aNil)) (tgName 3) eYes (eIf (eOr (eBin oEq (eVar 3) (eC (.int 0))) (eBin (oIn false) (eVar 3) (eFld (Str.ofString "row") (eVar 0)))) (eBin oIx (eFld (Str.ofString "form") (eVar 0)) (eVar 3)) (eC (.int 0)))) (tgName 2))
    (sRet (eCall m_value_of (aCons (eVar 2) (aCons (eVar 1) aNil))))))
def m_Keeper_value : DC := runD 4 2 b_Keeper_value
def b_Keeper___len__ : DS :=
  (sRet (eCall oLen (aCons (eFld (Str.ofString "row") (eVar 0)) aNil)))
def m_Keeper___len__ : DC := runD 1 1 b_Keeper___len__
def b_format_form : DS :=
  (sSeq (sExpr (eCall m_check_form (aCons (eVar 0) aNil)))
    (sSeq (sOwn 1 (eLst (aCons (eCall oStr (aCons (eBin oIx (eVar 0) (eC (.int 0))) aNil)) aNil)))
    (sSeq (sAsg (eC (.int 1)) (tgName 2))
    (sSeq (sWhile 40 (eBin oLt (eVar 2) (eCall oLen (aCons (eVar 0) aNil))) (sSeq (sApp 1 (eJoin (eC (.str (Str.ofString " "))) (eLc (eSeq (eSl (eVar 0) (pSome (eVar 2)) (pSome (eBin oMul (eC (.int 2)) (eVar 2))))) (tgName 3) eYes (eCall oStr (aCons (eVar 3) aNil)))))
    (sAug 2 oMulI (eC (.int 2)))))
    (sFrz 1 (sRet (eJoin (eC (.str (Str.ofString " | "))) (eVar 1))))))))
def m_format_form : DC := runD 4 1 b_format_form
def b_law_one : DS :=
  (sSeq (sIf (eBin oEq (eVar 0) (eC (.int 0))) (sRet (eCall m_has_row (aCons (eVar 1) aNil))) sSkip)
    (sSeq (sIf (eBin oEq (eVar 0) (eC (.int 1))) (sRet (eCall m_first_odd (aCons (eVar 1) aNil))) sSkip)
    (sSeq (sIf (eBin oEq (eVar 0) (eC (.int 2))) (sRet (eCall m_list_of (aCons (eVar 1) aNil))) sSkip)
    (sSeq (sIf (eBin oEq (eVar 0) (eC (.int 3))) (sRet (eCall m_all_values (aCons (eVar 1) aNil))) sSkip)
    (sSeq (sIf (eBin oEq (eVar 0) (eC (.int 4))) (sRet (eCall m_shares (aCons (eVar 1) aNil))) sSkip)
    (sSeq (sIf (eBin oEq (eVar 0) (eC (.int 5))) (sRet (eCall m_by_share (aCons (eVar 1) aNil))) sSkip)
    (sSeq (sIf (eBin oEq (eVar 0) (eC (.int 6))) (sRet (eCall m_backward_form (aCons (eVar 1) aNil))) sSkip)
    (sSeq (sIf (eBin oEq (eVar 0) (eC (.int 7))) (sRet (eCall m_halves_of (aCons (eVar 1) aNil))) sSkip)
    (sRet (eIf (eBin oEq (eVar 0) (eC (.int 8))) (eCall m_format_form (aCons (eVar 1) aNil)) (eMake m_Keeper___init__ (aCons (eVar 1) aNil))))))))))))
def m_law_one : DC := runD 2 2 b_law_one
def b_law_two : DS :=
  (sSeq (sIf (eBin oEq (eVar 0) (eC (.int 0))) (sRet (eCall m_value_at (aCons (eVar 1) (aCons (eVar 2) aNil)))) sSkip)
    (sSeq (sIf (eBin oEq (eVar 0) (eC (.int 1))) (sRet (eCall m_means (aCons (eVar 1) (aCons (eVar 2) aNil)))) sSkip)
    (sSeq (sIf (eBin oEq (eVar 0) (eC (.int 2))) (sRet (eCall m_share (aCons (eVar 1) (aCons (eVar 2) aNil)))) sSkip)
    (sSeq (sIf (eBin oEq (eVar 0) (eC (.int 3))) (sRet (eCall m_best_kept (aCons (eVar 1) (aCons (eVar 2) aNil)))) sSkip)
    (sSeq (sIf (eBin oEq (eVar 0) (eC (.int 4))) (sRet (eCall m_least_error (aCons (eVar 1) (aCons (eVar 2) aNil)))) sSkip)
    (sSeq (sIf (eBin oEq (eVar 0) (eC (.int 5))) (sRet (eCall m_count_best (aCons (eVar 1) (aCons (eVar 2) aNil)))) sSkip)
    (sSeq (sIf (eBin oEq (eVar 0) (eC (.int 6))) (sRet (eCall m_fewest_within (aCons (eVar 1) (aCons (eVar 2) aNil)))) sSkip)
    (sSeq (sIf (eBin oEq (eVar 0) (eC (.int 7))) (sRet (eCall m_changed_form (aCons (eVar 1) (aCons (eVar 2) (aCons (eC .non) aNil))))) sSkip)
    (sSeq (sIf (eBin oEq (eVar 0) (eC (.int 8))) (sRet (eCall m_scaled (aCons (eVar 1) (aCons (eVar 2) aNil)))) sSkip)
    (sSeq (sIf (eBin oEq (eVar 0) (eC (.int 9))) (sRet (eCall m_exchanged (aCons (eVar 1) (aCons (eVar 2) aNil)))) sSkip)
    (sSeq (sIf (eBin oEq (eVar 0) (eC (.int 10))) (sRet (eCall m_sum_from_to (aCons (eVar 1) (aCons (eVar 2) (aCons (eC (.int 4)) aNil))))) sSkip)
    (sSeq (sIf (eBin oEq (eVar 0) (eC (.int 11))) (sRet (eCall m_details_for (aCons (eVar 1) (aCons (eVar 2) (aCons (eC (.int 4)) aNil))))) sSkip)
    (sSeq (sIf (eBin oEq (eVar 0) (eC (.int 12))) (sRet (eCall m_left_out (aCons (eVar 1) (aCons (eVar 2) aNil)))) sSkip)
    (sSeq (sIf (eBin oEq (eVar 0) (eC (.int 13))) (sRet (eCall m_only (aCons (eVar 1) (aCons (eVar 2) aNil)))) sSkip)
    (sSeq (sIf (eBin oEq (eVar 0) (eC (.int 14))) (sRet (eCall m_greatest_gap (aCons (eVar 1) (aCons (eVar 2) aNil)))) sSkip)
    (sRet (eIf (eBin oEq (eVar 0) (eC (.int 15))) (eCall m_is_best (aCons (eVar 1) (aCons (eVar 2) aNil))) (eCall m_added (aCons (eVar 1) (aCons (eVar 2) aNil))))))))))))))))))))
def m_law_two : DC := runD 3 3 b_law_two
def b_law_asked : DS :=
  (sSeq (sAsg (eC .non) (tgName 4))
    (sSeq (sTry 4 5 (sIfN (eBin oEq (eVar 0) (eC (.int 1))) (sExpr (eCallN m_law_one (aCons (eVar 1) (aCons (eVar 2) aNil)))) (sExpr (eCallN m_law_two (aCons (eVar 1) (aCons (eVar 2) (aCons (eVar 3) aNil)))))))
    (sRet (eIf (eBin oIs (eVar 4) (eC .non)) (eC (.str (Str.ofString "done"))) (eCall m_law_error (aCons (eVar 4) aNil))))))
def m_law_asked : DC := runD 6 4 b_law_asked
def b_law_choices : DS :=
  (sSeq (sFor (eSeq (eLst (aCons (eC .non) (aCons (eC (.int 5)) (aCons (eLst (aCons (eC (.int 1)) aNil)) (aCons (eTup (aCons (eC (.int 0)) aNil)) (aCons (eTup (aCons (eC (.int 4)) aNil)) (aCons (eTup (aCons (eC (.int 1)) (aCons (eC (.int 1)) aNil))) (aCons (eTup (aCons (eC (.int 2)) (aCons (eC (.int 1)) aNil))) (aCons (eTup (aCons (eC (.bl true)) aNil)) (aCons (eTup (aCons (eC (.str (Str.ofString "1"))) aNil)) (aCons (eTup (aCons (eC .non) aNil)) (aCons (eTup (aCons (eBin oSub (eC (.int 0)) (eC (.int 1))) aNil)) aNil))))))))))))) (tgName 2) (sIf (eBin oNe (eLc (eSeq (eTup (aCons (eC (.int 12)) (aCons (eC (.int 13)) (aCons (eC (.int 14)) (aCons (eC (.int 15)) aNil)))))) (tgName 4) eYes (eCall m_law_asked (aCons (eC (.int 2)) (aCons (eVar 4) (aCons (eVar 1) (aCons (eVar 2) aNil)))))) (eBin oMul (eLst (aCons (eC (.str (Str.ofString "kept"))) aNil)) (eC (.int 4)))) (sRet (eC (.bl false))) sSkip))
    (sSeq (sIf (eOr (eBin oNe (eLc (eSeq (eTup (aCons (eC .non) (aCons (eC (.int 4)) (aCons (eBin oSub (eC (.int 0)) (eC (.int 1))) (aCons (eC (.bl true)) (aCons (eC (.int 0)) aNil))))))) (tgName 2) eYes (eCall m_law_asked (aCons (eC (.int 2)) (aCons (eC (.int 7)) (aCons (eVar 1) (aCons (eVar 2) aNil)))))) (eBin oMul (eLst (aCons (eC (.str (Str.ofString "number"))) aNil)) (eC (.int 5)))) (eBin oNe (eLc (eSeq (eTup (aCons (eC (.int 0)) (aCons (eC (.int 1)) aNil)))) (tgName 2) eYes (eCall m_law_asked (aCons (eC (.int 2)) (aCons (eC (.int 9)) (aCons (eLst (aCons (eC (.int 5)) aNil)) (aCons (eVar 2) aNil)))))) (eBin oMul (eLst (aCons (eC (.str (Str.ofString "number"))) aNil)) (eC (.int 2))))) (sRet (eC (.bl false))) sSkip)
    (sSeq (sIf (eOr (eBin oNe (eCall m_law_asked (aCons (eC (.int 2)) (aCons (eC (.int 16)) (aCons (eVar 1) (aCons (eLst (aCons (eC (.int 1)) (aCons (eC (.int 2)) aNil))) aNil))))) (eC (.str (Str.ofString "form")))) (eOr (eBin oNe (eCall m_law_asked (aCons (eC (.int 2)) (aCons (eC (.int 16)) (aCons (eLst (aCons (eC (.int 10000)) aNil)) (aCons (eLst (aCons (eC (.int 1)) aNil)) aNil))))) (eC (.str (Str.ofString "form")))) (eBin oNe (eCall m_law_asked (aCons (eC (.int 2)) (aCons (eC (.int 16)) (aCons (eLst (aCons (eC (.int 9999)) aNil)) (aCons (eLst (aCons (eC (.int 1)) aNil)) aNil))))) (eC (.str (Str.ofString "done")))))) (sRet (eC (.bl false))) sSkip)
    (sSeq (sIf (eOr (eBin oNe (eCall m_law_asked (aCons (eC (.int 2)) (aCons (eC (.int 8)) (aCons (eLst (aCons (eC (.int 5001)) aNil)) (aCons (eC (.int 2)) aNil))))) (eC (.str (Str.ofString "form")))) (eBin oNe (eLc (eSeq (eTup (aCons (eLst (aCons (eC (.int 5)) aNil)) (aCons (eLst (aCons (eC (.int 1)) (aCons (eC (.int 0)) aNil))) (aCons (eLst (aCons (eC (.int 2)) (aCons (eC (.int 0)) aNil))) aNil))))) (tgName 2) eYes (eCall m_law_asked (aCons (eC (.int 1)) (aCons (eC (.int 7)) (aCons (eVar 2) (aCons (eC (.int 0)) aNil)))))) (eLst (aCons (eC (.str (Str.ofString "number"))) (aCons (eC (.str (Str.ofString "number"))) (aCons (eC (.str (Str.ofString "done"))) aNil)))))) (sRet (eC (.bl false))) sSkip)
    (sSeq (sIf (eBin oNe (eLc (eSeq (eTup (aCons (eC .non) (aCons (eC (.int 5)) (aCons (eBin oSub (eC (.int 0)) (eC (.int 1))) (aCons (eC (.bl true)) (aCons (eC (.str (Str.ofString "4"))) (aCons (eC (.int 4)) aNil)))))))) (tgName 2) eYes (eCall m_law_asked (aCons (eC (.int 2)) (aCons (eC (.int 1)) (aCons (eBin oMul (eLst (aCons (eC (.int 0)) aNil)) (eC (.int 16))) (aCons (eVar 2) aNil)))))) (eBin oAdd (eBin oMul (eLst (aCons (eC (.str (Str.ofString "number"))) aNil)) (eC (.int 5))) (eLst (aCons (eC (.str (Str.ofString "done"))) aNil)))) (sRet (eC (.bl false))) sSkip)
    (sSeq (sAsg (eBin oSub (eC (.int 10000)) (eCall m_law_draw (aCons (eVar 0) (aCons (eC (.int 3)) aNil)))) (tgName 3))
    (sRet (eAnd (eBin oIs (eCall m_is_form (aCons (eBin oMul (eLst (aCons (eVar 3) aNil)) (eC (.int 16))) aNil)) (eC (.bl true))) (eAnd (eBin oEq (eCall m_law_asked (aCons (eC (.int 1)) (aCons (eC (.int 2)) (aCons (eLst (aCons (eC (.int 1)) (aCons (eC (.int 0)) aNil))) (aCons (eC (.int 0)) aNil))))) (eC (.str (Str.ofString "none")))) (eBin oEq (eCall m_law_asked (aCons (eC (.int 1)) (aCons (eC (.int 2)) (aCons (eLst (aCons (eBin oSub (eC (.int 0)) (eC (.int 10000))) aNil)) (aCons (eC (.int 0)) aNil))))) (eC (.str (Str.ofString "done")))))))))))))
def m_law_choices : DC := runD 5 2 b_law_choices
theorem is_int_keeps (d : D) (l h : Int) (S : Store) : (∃ k, m_is_int [d, .int l, .int h] S = .ok (.bl k) S) ∨ m_is_int [d, .int l, .int h] S = .bad := by
  cases d with
  | int n =>
    refine .inl ⟨decide (l ≤ n) && decide (n ≤ h), ?_⟩
    by_cases h1 : l ≤ n
    · rw [decide_eq_true h1]
      show (match Out.bindS (eChain oLe oLe (eVar 1) (eVar 0) (eVar 2) [.val (.int n), .val (.int l), .val (.int h)] S) _ with | .nx _ S' => Out.ok .non S' | .ret d S' => .ok d S' | .exc c S' => .exc c S' | _ => .bad) = _
      have : eChain oLe oLe (eVar 1) (eVar 0) (eVar 2) [.val (.int n), .val (.int l), .val (.int h)] S = .ok (.bl (decide (n ≤ h))) S := by
        show (match D.bl (decide (l ≤ n)) with | .bl true => _ | .bl false => _ | _ => _) = _
        rw [decide_eq_true h1]
        rfl
      rw [this]
      rfl
    · rw [decide_eq_false h1]
      show (match Out.bindS (eChain oLe oLe (eVar 1) (eVar 0) (eVar 2) [.val (.int n), .val (.int l), .val (.int h)] S) _ with | .nx _ S' => Out.ok .non S' | .ret d S' => .ok d S' | .exc c S' => .exc c S' | _ => .bad) = _
      have : eChain oLe oLe (eVar 1) (eVar 0) (eVar 2) [.val (.int n), .val (.int l), .val (.int h)] S = .ok (.bl false) S := by
        show (match D.bl (decide (l ≤ n)) with | .bl true => _ | .bl false => _ | _ => _) = _
        rw [decide_eq_false h1]
      rw [this]
      rfl
  | obj n =>
    cases hS : S[n]? with
    | none =>
      refine .inr ?_
      show (match Out.bindS (eAnd (eUn (oIsi "int") (eVar 0)) _ [.val (.obj n), .val (.int l), .val (.int h)] S) _ with | .nx _ S' => Out.ok .non S' | .ret d S' => .ok d S' | .exc c S' => .exc c S' | _ => .bad) = _
      have : oIsi "int" (.obj n) S = .bad := by
        show (match S[n]? with | some (.lst _) => _ | _ => _) = _
        rw [hS]
      have e : ∀ f : DE, eAnd (eUn (oIsi "int") (eVar 0)) f [.val (.obj n), .val (.int l), .val (.int h)] S = .bad := fun f => by
        show Out.bind (oIsi "int" (.obj n) S) _ = _
        rw [this]
      rw [e]
      rfl
    | some o =>
      cases o with
      | lst xs =>
        refine .inl ⟨false, ?_⟩
        have : oIsi "int" (.obj n) S = .ok (.bl false) S := by
          show (match S[n]? with | some (.lst _) => _ | _ => _) = _
          rw [hS]
          rfl
        have e : ∀ f : DE, eAnd (eUn (oIsi "int") (eVar 0)) f [.val (.obj n), .val (.int l), .val (.int h)] S = .ok (.bl false) S := fun f => by
          show Out.bind (oIsi "int" (.obj n) S) _ = _
          rw [this]
        show (match Out.bindS (eAnd (eUn (oIsi "int") (eVar 0)) _ [.val (.obj n), .val (.int l), .val (.int h)] S) _ with | .nx _ S' => Out.ok .non S' | .ret d S' => .ok d S' | .exc c S' => .exc c S' | _ => .bad) = _
        rw [e]
        rfl
      | _ =>
        refine .inr ?_
        show (match Out.bindS (eAnd (eUn (oIsi "int") (eVar 0)) _ [.val (.obj n), .val (.int l), .val (.int h)] S) _ with | .nx _ S' => Out.ok .non S' | .ret d S' => .ok d S' | .exc c S' => .exc c S' | _ => .bad) = _
        have : oIsi "int" (.obj n) S = .bad := by
          show (match S[n]? with | some (.lst _) => _ | _ => _) = _
          rw [hS]
        have e : ∀ f : DE, eAnd (eUn (oIsi "int") (eVar 0)) f [.val (.obj n), .val (.int l), .val (.int h)] S = .bad := fun f => by
          show Out.bind (oIsi "int" (.obj n) S) _ = _
          rw [this]
        rw [e]
        rfl
  | _ => first | exact .inl ⟨_, rfl⟩ | exact .inr rfl
theorem keeps_is_int {i : Nat} {a b : Int} : Keeps (eCall m_is_int (aCons (eVar i) (aCons (eUn oNeg (eC (.int a))) (aCons (eC (.int b)) aNil)))) := fun ρ S d S' h => by
  unfold eCall aCons eVar at h
  cases q : ρ[i]? with
  | none => rw [q] at h; cases h
  | some s =>
    cases s with
    | emp => rw [q] at h; cases h
    | own ds => rw [q] at h; cases h
    | val x =>
      rw [q] at h
      have h : m_is_int [x, .int (-a), .int b] S = .ok d S' := h
      rcases is_int_keeps x (-a) b S with ⟨k, e⟩ | e
      · rw [e] at h
        cases h
        rfl
      · rw [e] at h
        cases h
end DL
set_option Elab.async false
set_option linter.all false
set_option maxRecDepth 100000
set_option maxHeartbeats 4000000
namespace DL.K18
open PySem PySem.Spec PyProof.Rows L2
def b_law_0 : DS :=
  (sAsg (eCall m_law_start (aCons (eVar 0) aNil)) (tgName 1))
def b_law_1 : DS :=
  (sAsg (eLst (aCons (eC .non) (aCons (eC (.int 5)) (aCons (eTup aNil) (aCons (eLst aNil) (aCons (eLst (aCons (eC (.int 1)) (aCons (eC (.int 2)) (aCons (eC (.int 3)) aNil)))) (aCons (eBin oMul (eLst (aCons (eC (.int 0)) aNil)) (eC (.int 5))) (aCons (eBin oMul (eLst (aCons (eC (.int 0)) aNil)) (eC (.int 17))) (aCons (eBin oMul (eLst (aCons (eC (.int 0)) aNil)) (eC (.int 32))) (aCons (eLst (aCons (eC (.int 10001)) aNil)) (aCons (eLst (aCons (eBin oSub (eC (.int 0)) (eC (.int 10001))) aNil)) (aCons (eLst (aCons (eC (.bl true)) aNil)) (aCons (eLst (aCons (eC (.str (Str.ofString "1"))) aNil)) (aCons (eLst (aCons (eC .non) aNil)) (aCons (eTup (aCons (eC (.int 1)) (aCons (eC (.int 2)) aNil))) aNil))))))))))))))) (tgName 2))
def b_law_2 : DS :=
  (sFor (eSeq (eVar 2)) (tgName 3) (sSeq (sIf (eOr (eBin oIsnt (eCall m_is_form (aCons (eVar 3) aNil)) (eC (.bl false))) (eBin oNe (eLc (eRng (aCons (eC (.int 10)) aNil)) (tgName 10) eYes (eCall m_law_asked (aCons (eC (.int 1)) (aCons (eVar 10) (aCons (eVar 3) (aCons (eC (.int 0)) aNil)))))) (eBin oMul (eLst (aCons (eC (.str (Str.ofString "form"))) aNil)) (eC (.int 10))))) (sRet (eC (.bl false))) sSkip)
    (sIf (eOr (eBin oNe (eLc (eRng (aCons (eC (.int 17)) aNil)) (tgName 10) eYes (eCall m_law_asked (aCons (eC (.int 2)) (aCons (eVar 10) (aCons (eVar 3) (aCons (eC .non) aNil)))))) (eBin oMul (eLst (aCons (eC (.str (Str.ofString "form"))) aNil)) (eC (.int 17)))) (eBin oNe (eCall m_law_asked (aCons (eC (.int 2)) (aCons (eC (.int 16)) (aCons (eLst (aCons (eC (.int 1)) (aCons (eC (.int 2)) aNil))) (aCons (eVar 3) aNil))))) (eC (.str (Str.ofString "form"))))) (sRet (eC (.bl false))) sSkip)))
def b_law_3 : DS :=
  (sAsg (eLst (aCons (eC (.int 10)) (aCons (eC (.int 2)) (aCons (eC (.int 4)) (aCons (eC (.int 0)) aNil))))) (tgName 4))
def b_law_4 : DS :=
  (sAsg (eLst (aCons (eTup (aCons (eC (.int 0)) (aCons (eC (.int 0)) (aCons (eC (.int 3)) aNil)))) (aCons (eTup (aCons (eC (.int 1)) (aCons (eC (.int 0)) (aCons (eC (.int 2)) aNil)))) (aCons (eTup (aCons (eC (.int 2)) (aCons (eC (.int 0)) (aCons (eC (.int 3)) aNil)))) (aCons (eTup (aCons (eC (.int 3)) (aCons (eC (.int 0)) (aCons (eC (.int 3)) aNil)))) (aCons (eTup (aCons (eC (.int 4)) (aCons (eC (.int 0)) (aCons (eC (.int 3)) aNil)))) (aCons (eTup (aCons (eC (.int 5)) (aCons (eC (.int 0)) (aCons (eC (.int 3)) aNil)))) (aCons (eTup (aCons (eC (.int 8)) (aCons (eBin oSub (eC (.int 0)) (eC (.int 99))) (aCons (eC (.int 99)) aNil)))) (aCons (eTup (aCons (eC (.int 9)) (aCons (eC (.int 1)) (aCons (eC (.int 3)) aNil)))) (aCons (eTup (aCons (eC (.int 10)) (aCons (eC (.int 0)) (aCons (eC (.int 4)) aNil)))) (aCons (eTup (aCons (eC (.int 11)) (aCons (eC (.int 0)) (aCons (eC (.int 4)) aNil)))) aNil))))))))))) (tgName 5))
def b_law_5 : DS :=
  (sFor (eSeq (eVar 5)) (tgTup (tgCons (tgName 6) (tgCons (tgName 7) (tgCons (tgName 8) tgNil)))) (sSeq (sIf (eBin oNe (eLc (eSeq (eTup (aCons (eC .non) (aCons (eBin oSub (eVar 7) (eC (.int 1))) (aCons (eBin oAdd (eVar 8) (eC (.int 1))) (aCons (eC (.bl true)) (aCons (eCall oStr (aCons (eVar 7) aNil)) aNil))))))) (tgName 3) eYes (eCall m_law_asked (aCons (eC (.int 2)) (aCons (eVar 6) (aCons (eVar 4) (aCons (eVar 3) aNil)))))) (eBin oMul (eLst (aCons (eC (.str (Str.ofString "number"))) aNil)) (eC (.int 5)))) (sRet (eC (.bl false))) sSkip)
    (sIf (eBin oNe (eLc (eSeq (eTup (aCons (eVar 7) (aCons (eVar 8) aNil)))) (tgName 9) eYes (eCall m_law_asked (aCons (eC (.int 2)) (aCons (eVar 6) (aCons (eVar 4) (aCons (eVar 9) aNil)))))) (eBin oMul (eLst (aCons (eC (.str (Str.ofString "done"))) aNil)) (eC (.int 2)))) (sRet (eC (.bl false))) sSkip)))
def b_law_6 : DS :=
  (sFor (eSeq (eLst (aCons (eC .non) (aCons (eC (.int 5)) (aCons (eTup (aCons (eC (.int 1)) aNil)) (aCons (eLst (aCons (eC (.int 1)) (aCons (eC (.int 2)) aNil))) (aCons (eTup (aCons (eC (.int 1)) (aCons (eC (.int 0)) aNil))) (aCons (eTup (aCons (eC (.int 2)) (aCons (eC (.int 4)) aNil))) (aCons (eTup (aCons (eBin oSub (eC (.int 0)) (eC (.int 1))) (aCons (eC (.int 2)) aNil))) (aCons (eTup (aCons (eC (.bl true)) (aCons (eC (.int 1)) aNil))) (aCons (eTup (aCons (eC (.int 1000000001)) (aCons (eC (.int 1)) aNil))) (aCons (eTup (aCons (eC (.int 1)) (aCons (eC (.int 1000000001)) aNil))) aNil)))))))))))) (tgName 3) (sIf (eBin oNe (eCall m_law_asked (aCons (eC (.int 2)) (aCons (eC (.int 6)) (aCons (eVar 4) (aCons (eVar 3) aNil))))) (eC (.str (Str.ofString "number")))) (sRet (eC (.bl false))) sSkip))
def b_law_7 : DS :=
  (sIf (eBin oNe (eLc (eSeq (eTup (aCons (eTup (aCons (eC (.int 0)) (aCons (eC (.int 1)) aNil))) (aCons (eTup (aCons (eC (.int 1000000000)) (aCons (eC (.int 1)) aNil))) (aCons (eTup (aCons (eC (.int 1)) (aCons (eC (.int 1000000000)) aNil))) aNil))))) (tgName 9) eYes (eCall m_law_asked (aCons (eC (.int 2)) (aCons (eC (.int 6)) (aCons (eVar 4) (aCons (eVar 9) aNil)))))) (eBin oMul (eLst (aCons (eC (.str (Str.ofString "done"))) aNil)) (eC (.int 3)))) (sRet (eC (.bl false))) sSkip)
def b_law_8 : DS :=
  (sRet (eCall m_law_choices (aCons (eVar 1) (aCons (eVar 4) aNil))))
def b_law : DS :=
  (sSeq b_law_0 (sSeq b_law_1 (sSeq b_law_2 (sSeq b_law_3 (sSeq b_law_4 (sSeq b_law_5 (sSeq b_law_6 (sSeq b_law_7 b_law_8))))))))
def m_law : DC := runD 11 1 b_law
end DL.K18
set_option Elab.async false
set_option linter.all false
set_option maxRecDepth 100000
set_option maxHeartbeats 1000000
namespace DL
open PySem L2
section
variable {ρ ρ' : DEnv} {S S1 S2 S3 S4 : Store} {i j : Nat} {d x y z : D} {a b c f : DE} {r : DA} {ds xs ys : List D} {k : Bool} {R : Out} {RS : OutS}
theorem eVar_ok (h : ρ[i]? = some (.val d)) : eVar i ρ S = .ok d S := by unfold eVar; rw [h]
theorem eC_ok : eC d ρ S = .ok d S := rfl
theorem eBin_ok {o : D2} (ha : a ρ S = .ok x S1) (hb : b ρ S1 = .ok y S2) (ho : o x y S2 = R) : eBin o a b ρ S = R := by
  unfold eBin
  rw [ha]
  simp only [Out.bind]
  rw [hb]
  exact ho
theorem eIf_t (hc : c ρ S = .ok (.bl true) S1) (ha : a ρ S1 = R) : eIf c a b ρ S = R := by
  unfold eIf
  rw [hc]
  exact ha
theorem eIf_f (hc : c ρ S = .ok (.bl false) S1) (hb : b ρ S1 = R) : eIf c a b ρ S = R := by
  unfold eIf
  rw [hc]
  exact hb
theorem aNil_ok : aNil ρ S = .ok [] S := rfl
theorem aCons_ok (ha : a ρ S = .ok x S1) (hr : r ρ S1 = .ok xs S2) : aCons a r ρ S = .ok (x :: xs) S2 := by
  unfold aCons
  rw [ha]
  simp only [Out.bindA]
  rw [hr]
  rfl
theorem eLst_ok (h : r ρ S = .ok ds S1) : eLst r ρ S = .ok (.lst ds) S1 := by
  unfold eLst
  rw [h]
  rfl
theorem eCall_ok {m : DC} (h : r ρ S = .ok ds S1) (hm : m ds S1 = R) : eCall m r ρ S = R := by
  unfold eCall
  rw [h]
  exact hm
theorem sRet_ok (h : f ρ S = .ok d S1) : sRet f ρ S = .ret d S1 := by
  unfold sRet
  rw [h]
  rfl
theorem sAsg_ok {t : DG} (h : f ρ S = .ok d S1) (ht : t d ρ = some ρ') : sAsg f t ρ S = .nx ρ' S1 := by
  unfold sAsg
  rw [h]
  simp only [Out.bindS]
  rw [ht]
theorem sIf_t {t u : DS} (hc : c ρ S = .ok (.bl true) S1) (ht : t ρ S1 = RS) : sIf c t u ρ S = RS := by
  unfold sIf
  rw [hc]
  exact ht
theorem sIf_f {t u : DS} (hc : c ρ S = .ok (.bl false) S1) (hu : u ρ S1 = RS) : sIf c t u ρ S = RS := by
  unfold sIf
  rw [hc]
  exact hu
theorem sSkip_ok : sSkip ρ S = .nx ρ S := rfl
theorem sSeq_ok {f h : DS} (hf : f ρ S = .nx ρ' S1) (hh : h ρ' S1 = RS) : sSeq f h ρ S = RS := by
  unfold sSeq
  rw [hf]
  exact hh
theorem sSeq_ret {f h : DS} (hf : f ρ S = .ret d S1) : sSeq f h ρ S = .ret d S1 := by
  unfold sSeq
  rw [hf]
theorem runD_ret {N n : Nat} {fb : DS} (hl : ds.length = n) (h : fb (ds.map Slot.val ++ List.replicate (N - n) Slot.emp) S = .ret d S1) : runD N n fb ds S = .ok d S1 := by
  unfold runD
  rw [if_pos hl, h]
end
section
variable {i j : Int} {S : Store}
theorem oAdd_ii : oAdd (.int i) (.int j) S = .ok (.int (i + j)) S := rfl
theorem oSub_ii : oSub (.int i) (.int j) S = .ok (.int (i - j)) S := rfl
theorem oGe_ii : oGe (.int i) (.int j) S = .ok (.bl (decide (j ≤ i))) S := rfl
theorem oFdiv_ii (h1 : 0 < j) (h2 : j < 1073741824) : oFdiv (.int i) (.int j) S = .ok (.int (i / j)) S := by
  unfold oFdiv
  simp only []
  rw [if_pos (by rw [decide_eq_true h1, decide_eq_true h2]; rfl)]
theorem oMod_ii (h1 : 0 < j) : oMod (.int i) (.int j) S = .ok (.int (i % j)) S := by
  unfold oMod
  simp only []
  rw [if_pos (decide_eq_true h1)]
theorem bigI {i : Int} (h : i.natAbs < 18446744073709551616) : big i = true := by
  unfold big
  rw [Bool.and_eq_true, decide_eq_true_iff, decide_eq_true_iff]
  omega
theorem oMul_l (h : big i = true) : oMul (.int i) (.int j) S = .ok (.int (i * j)) S := by
  unfold oMul
  simp only []
  rw [if_pos (by rw [h]; rfl)]
theorem oMul_r (h : big j = true) : oMul (.int i) (.int j) S = .ok (.int (i * j)) S := by
  unfold oMul
  simp only []
  rw [if_pos (by rw [h, Bool.or_true])]
end
end DL
set_option Elab.async false
set_option linter.all false
set_option maxRecDepth 100000
set_option maxHeartbeats 1000000
namespace DL
open PySem L2
abbrev L (ns : List Int) : D := .lst (ns.map D.int)
theorem okD_all {α : Type} {n : Nat} (f : α → D) (h : ∀ x, okD n (f x) = true) (xs : List α) : (xs.map f).all (okD n) = true := by
  rw [List.all_map, List.all_eq_true]
  intro x _
  exact h x
theorem okD_int (n : Nat) (i : Int) : okD n (.int i) = true := by cases n <;> rfl
theorem oNe_of {d e : D} {S : Store} (h1 : okD 6 d = true) (h2 : okD 6 e = true) : oNe d e S = .ok (.bl (!eqD d e)) S := by simp [oNe, h1, h2]
abbrev fr (q : Rat) : D := .tup [.int q.num, .int (q.den : Int)]
end DL
set_option Elab.async false
set_option linter.all false
set_option maxRecDepth 100000
set_option maxHeartbeats 1000000
namespace DL
open PySem L2
/-- q is n / 2 ^ k with |n| ≤ B -/
def Dy (k : Nat) (B : Nat) (q : Rat) : Prop := ∃ n : Int, n.natAbs ≤ B ∧ q = (n : Rat) / ((2 ^ k : Nat) : Rat)
theorem pow_ne (k : Nat) : ((2 ^ k : Nat) : Rat) ≠ 0 := by
  have h : (2 ^ k : Nat) ≠ 0 := Nat.pos_iff_ne_zero.mp (Nat.two_pow_pos k)
  intro z
  exact h (by exact_mod_cast z)
theorem Dy.mono {k B C : Nat} {p : Rat} (h : Dy k B p) (hl : B ≤ C) : Dy k C p := by
  obtain ⟨n, hn, rfl⟩ := h
  exact ⟨n, by omega, rfl⟩
theorem Dy.up {k B : Nat} {p : Rat} (h : Dy k B p) : Dy (k + 1) (2 * B) p := by
  obtain ⟨n, hn, rfl⟩ := h
  refine ⟨2 * n, by omega, ?_⟩
  have h1 := pow_ne k
  have e : ((2 ^ (k + 1) : Nat) : Rat) = ((2 ^ k : Nat) : Rat) * 2 := by rw [Nat.pow_succ]; simp
  rw [e]
  grind
theorem Dy.int (k : Nat) (i : Int) : Dy k (i.natAbs * 2 ^ k) (i : Rat) := by
  refine ⟨i * (2 ^ k : Nat), ?_, ?_⟩
  · rw [Int.natAbs_mul]
    exact Nat.le_refl _
  · have h1 := pow_ne k
    have e : ((i * ((2 ^ k : Nat) : Int) : Int) : Rat) = (i : Rat) * ((2 ^ k : Nat) : Rat) := by simp
    rw [e]
    grind
end DL
set_option Elab.async false
set_option linter.all false
set_option maxRecDepth 100000
set_option maxHeartbeats 1000000
namespace DL
open PySem L2
section
variable {ρ : DEnv} {S S1 S2 S3 : Store}
theorem sSetB_ok {fo fi f : DE} {d : D} {n j : Nat} {m : Int} {xs : List D} (h : f ρ S = .ok d S1) (ho : fo ρ S1 = .ok (.obj n) S2) (hi : fi ρ S2 = .ok (.int m) S3) (hS : S3[n]? = some (.lst xs)) (hj : ixN xs.length m = some j) :
    sSetB fo fi f ρ S = .nx ρ (S3.set n (.lst (xs.set j d))) := by
  unfold sSetB
  rw [h]
  simp only [Out.bindS]
  rw [ho]
  simp only []
  rw [hi]
  simp only []
  rw [hS]
  simp only []
  rw [hj]
theorem eObj_ok {f : DE} {ds : List D} (h : f ρ S = .ok (.lst ds) S1) : eObj f ρ S = .ok (.obj S1.length) (S1 ++ [.lst ds]) := by
  unfold eObj
  rw [h]
end
def Dr (nums : List Int) (c : Int) (R : Store) : Store := .lst (nums.map D.int) :: .lst [.obj 0, .int c] :: R
def IsDr (R S : Store) : Prop := ∃ nums c, nums ≠ [] ∧ S = Dr nums c R
theorem start_b (ns : List Int) : ∃ nums, nums ≠ [] ∧ b_law_start [.val (.fls (ns.map D.int))] [] = .ret (.obj 1) (Dr nums 0 []) := by
  have key : ∀ nums : List Int, (eIf (eBin oNe (eVar 0) (eLst aNil)) (eCall oList (aCons (eVar 0) aNil)) (eLst (aCons (eC (.int 0)) aNil))) [.val (.fls (ns.map D.int))] [] = .ok (.lst (nums.map D.int)) [] →
      b_law_start [.val (.fls (ns.map D.int))] [] = .ret (.obj 1) (Dr nums 0 []) := fun nums h =>
    sRet_ok (eObj_ok (eLst_ok (aCons_ok (eObj_ok h) (aCons_ok eC_ok aNil_ok))))
  have hne : oNe (.fls (ns.map D.int)) (.lst []) [] = .ok (.bl (!decide (ns = []))) [] := by
    have h1 : okD 6 (.fls (ns.map D.int)) = true := okD_all _ (okD_int 5) ns
    rw [oNe_of h1 rfl]
    cases ns with
    | nil => rfl
    | cons n ns => rfl
  by_cases hn : ns = []
  · refine ⟨[0], by simp, key [0] (eIf_f (S1 := []) (eBin_ok (eVar_ok rfl) (eLst_ok aNil_ok) ?_) (eLst_ok (aCons_ok eC_ok aNil_ok)))⟩
    rw [hne, decide_eq_true hn]
    rfl
  · refine ⟨ns, hn, key ns (eIf_t (S1 := []) (eBin_ok (eVar_ok rfl) (eLst_ok aNil_ok) ?_) (eCall_ok (aCons_ok (eVar_ok rfl) aNil_ok) rfl))⟩
    rw [hne, decide_eq_false hn]
    rfl
theorem start_is (ns : List Int) : ∃ S, m_law_start [.fls (ns.map D.int)] [] = .ok (.obj 1) S ∧ IsDr [] S := by
  obtain ⟨nums, h1, h2⟩ := start_b ns
  exact ⟨_, runD_ret rfl h2, nums, 0, h1, rfl⟩
theorem ixN_of {n : Nat} {i : Int} (h0 : 0 ≤ i) (h1 : i < n) : ixN n i = some i.toNat := by
  unfold ixN
  rw [if_pos h0, if_pos h1]
theorem atI_of {α : Type} {xs : List α} {i : Int} {y : α} (h0 : 0 ≤ i) (h1 : xs[i.toNat]? = some y) : atI xs i = some y := by
  unfold atI
  rw [ixN_of h0 (by have := (List.getElem?_eq_some_iff.mp h1).1; omega)]
  exact h1
theorem dr_ix0 (nums : List Int) (c : Int) (R : Store) : oIx (.obj 1) (.int 0) (Dr nums c R) = .ok (.obj 0) (Dr nums c R) := rfl
theorem dr_ix1 (nums : List Int) (c : Int) (R : Store) : oIx (.obj 1) (.int 1) (Dr nums c R) = .ok (.int c) (Dr nums c R) := rfl
theorem dr_len (nums : List Int) (c : Int) (R : Store) : oLen [.obj 0] (Dr nums c R) = .ok (.int (nums.length : Int)) (Dr nums c R) := by
  show Out.ok (.int ((nums.map D.int).length : Int)) _ = _
  rw [List.length_map]
theorem dr_at (nums : List Int) (c : Int) (R : Store) {i y : Int} (h0 : 0 ≤ i) (h1 : nums[i.toNat]? = some y) : oIx (.obj 0) (.int i) (Dr nums c R) = .ok (.int y) (Dr nums c R) := by
  have h : atI (nums.map D.int) i = some (.int y) := atI_of h0 (by rw [List.getElem?_map, h1]; rfl)
  show (match atI (nums.map D.int) i with
        | some y => Out.ok y (Dr nums c R)
        | none => .bad) = _
  rw [h]
theorem mod_bounds (x : Int) {m : Int} (h : 0 < m) : 0 ≤ x % m ∧ x % m < m := ⟨Int.emod_nonneg x (by omega), Int.emod_lt_of_pos x h⟩
theorem oPow_ii {i j : Int} {S : Store} (h1 : 0 ≤ j) (h2 : j ≤ 1000) (h : big i = true) : oPow (.int i) (.int j) S = .ok (.int (i ^ j.toNat)) S := by
  unfold oPow
  simp only []
  rw [if_pos (by rw [decide_eq_true h1, decide_eq_true h2, h]; rfl)]
theorem draw_b {nums : List Int} (hn : nums ≠ []) (c : Int) (R : Store) {lim : Int} (hl : 0 < lim) (hl2 : lim < 1073741824) :
    ∃ v nums', nums' ≠ [] ∧ 0 ≤ v ∧ v < lim ∧ b_law_draw [.val (.obj 1), .val (.int lim), .emp, .emp, .emp, .emp] (Dr nums c R) = .ret (.int v) (Dr nums' (c + 1) R) := by
  have hlen : (0 : Int) < (nums.length : Int) := by
    have := List.length_pos_iff.mpr hn
    omega
  obtain ⟨a0, a1⟩ := mod_bounds (c + 1) hlen
  have hat : ((c + 1) % (nums.length : Int)).toNat < nums.length := by omega
  have hcell : nums[((c + 1) % (nums.length : Int)).toNat]? = some nums[((c + 1) % (nums.length : Int)).toNat] := by simp [hat]
  generalize hC : nums[((c + 1) % (nums.length : Int)).toNat] = cell at hcell
  generalize hA : (c + 1) % (nums.length : Int) = at' at *
  -- the first four rows
  have pre : ∀ {rest : DS} {RS : OutS}, rest [.val (.obj 1), .val (.int lim), .val (.obj 0), .val (.int at'), .val (.int cell), .emp] (Dr nums (c + 1) R) = RS →
      (sSeq (sAsg (eBin oIx (eVar 0) (eC (.int 0))) (tgName 2)) (sSeq (sSetB (eVar 0) (eC (.int 1)) (eBin oAdd (eBin oIx (eVar 0) (eC (.int 1))) (eC (.int 1))))
        (sSeq (sAsg (eBin oMod (eBin oIx (eVar 0) (eC (.int 1))) (eCall oLen (aCons (eVar 2) aNil))) (tgName 3)) (sSeq (sAsg (eBin oIx (eVar 2) (eVar 3)) (tgName 4)) rest)))) [.val (.obj 1), .val (.int lim), .emp, .emp, .emp, .emp] (Dr nums c R) = RS := by
    intro rest RS h
    refine sSeq_ok (sAsg_ok (eBin_ok (eVar_ok rfl) eC_ok (dr_ix0 nums c R)) rfl) ?_
    refine sSeq_ok (sSetB_ok (j := 1) (eBin_ok (eBin_ok (eVar_ok rfl) eC_ok (dr_ix1 nums c R)) eC_ok oAdd_ii) (eVar_ok rfl) eC_ok rfl rfl) ?_
    refine sSeq_ok (S1 := Dr nums (c + 1) R) (sAsg_ok (eBin_ok (eBin_ok (eVar_ok rfl) eC_ok (dr_ix1 nums (c + 1) R)) (eCall_ok (aCons_ok (eVar_ok rfl) aNil_ok) (dr_len nums (c + 1) R)) (oMod_ii hlen)) rfl) ?_
    rw [hA]
    exact sSeq_ok (sAsg_ok (eBin_ok (eVar_ok rfl) (eVar_ok rfl) (dr_at nums (c + 1) R a0 hcell)) rfl) h
  unfold b_law_draw
  by_cases hbig : (1000000000000000000 : Int) ≤ cell
  · obtain ⟨v0, v1⟩ := mod_bounds cell hl
    refine ⟨cell % lim, nums.set at'.toNat (cell / lim), by simpa using hn, v0, v1, pre (sSeq_ret (sIf_t (S1 := Dr nums (c + 1) R) (eBin_ok (eVar_ok rfl) eC_ok (by rw [oGe_ii, decide_eq_true hbig])) ?_))⟩
    have hj : ixN (nums.map D.int).length at' = some at'.toNat := ixN_of a0 (by rw [List.length_map]; exact a1)
    refine sSeq_ok (sSetB_ok (n := 0) (eBin_ok (eVar_ok rfl) (eVar_ok rfl) (oFdiv_ii hl hl2)) (eVar_ok rfl) (eVar_ok rfl) rfl hj) ?_
    have e : (Dr nums (c + 1) R).set 0 (.lst ((nums.map D.int).set at'.toNat (.int (cell / lim)))) = Dr (nums.set at'.toNat (cell / lim)) (c + 1) R := by
      unfold Dr
      rw [List.set_cons_zero, List.map_set]
    rw [e]
    exact sRet_ok (eBin_ok (eVar_ok rfl) (eVar_ok rfl) (oMod_ii hl))
  · have m1 := mod_bounds (cell + 104729 * (c + 1)) (m := 4294967291) (by decide)
    have m2 := mod_bounds ((((cell + 104729 * (c + 1)) % 4294967291)) ^ 5) (m := 4294967279) (by decide)
    generalize hx : (cell + 104729 * (c + 1)) % 4294967291 = x at *
    generalize hy : x ^ 5 % 4294967279 = y at *
    obtain ⟨v0, v1⟩ := mod_bounds ((y / 64 * 69621 + y) % 4294967231 / 8) hl
    refine ⟨_, nums, hn, v0, v1, pre (sSeq_ok (sIf_f (S1 := Dr nums (c + 1) R) (eBin_ok (eVar_ok rfl) eC_ok (by rw [oGe_ii, decide_eq_false hbig])) sSkip_ok) ?_)⟩
    refine sSeq_ok (S1 := Dr nums (c + 1) R) (sAsg_ok (eBin_ok (eBin_ok (eVar_ok rfl) (eBin_ok eC_ok (eBin_ok (eVar_ok rfl) eC_ok (dr_ix1 nums (c + 1) R)) (oMul_l (bigI (by decide)))) oAdd_ii) eC_ok (oMod_ii (by decide))) rfl) ?_
    rw [hx]
    refine sSeq_ok (S1 := Dr nums (c + 1) R) (sAsg_ok (eBin_ok (eBin_ok (eVar_ok rfl) eC_ok (oPow_ii (by decide) (by decide) (bigI (by omega)))) eC_ok (oMod_ii (by decide))) rfl) ?_
    show sRet _ [.val (.obj 1), .val (.int lim), .val (.obj 0), .val (.int at'), .val (.int cell), .val (.int (x ^ 5 % 4294967279))] _ = _
    rw [hy]
    exact sRet_ok (eBin_ok (eBin_ok (eBin_ok (eBin_ok (eBin_ok (eBin_ok (eVar_ok rfl) eC_ok (oFdiv_ii (by decide) (by decide))) eC_ok (oMul_r (bigI (by decide)))) (eVar_ok rfl) oAdd_ii) eC_ok (oMod_ii (by decide))) eC_ok (oFdiv_ii (by decide) (by decide))) (eVar_ok rfl) (oMod_ii hl))
theorem draw_is {R S : Store} (h : IsDr R S) {lim : Int} (hl : 0 < lim) (hl2 : lim < 1073741824) : ∃ v S', m_law_draw [.obj 1, .int lim] S = .ok (.int v) S' ∧ 0 ≤ v ∧ v < lim ∧ IsDr R S' := by
  obtain ⟨nums, c, hn, rfl⟩ := h
  obtain ⟨v, nums', h1, h2, h3, h4⟩ := draw_b hn c R hl hl2
  exact ⟨v, _, runD_ret rfl h4, h2, h3, nums', c + 1, h1, rfl⟩
/-- a row, a form: 1, 2, 4, 8 or 16 ints -/
def Len16 (n : Nat) : Prop := n = 1 ∨ n = 2 ∨ n = 4 ∨ n = 8 ∨ n = 16
end DL
set_option Elab.async false
set_option linter.all false
set_option maxRecDepth 100000
set_option maxHeartbeats 1000000
namespace DL
open PySem L2
/-- the size and the first place of block n in a row of length l -/
def bsz (l n : Nat) : Nat := l / 2 ^ Nat.log2 n
def fst (l n : Nat) : Nat := (n - 2 ^ Nat.log2 n) * bsz l n
/-- 1 in the first half, -1 in the second half, 0 elsewhere -/
def sgn (l n p : Nat) : Int := if fst l n ≤ p ∧ p < fst l n + bsz l n then (if p < fst l n + bsz l n / 2 then 1 else -1) else 0
end DL
set_option Elab.async false
set_option linter.all false
set_option maxRecDepth 100000
set_option maxHeartbeats 1000000
namespace DL
open PySem L2
/-- a list that is a form -/
structure Fm (f : List Int) : Prop where
  len : Len16 f.length
  all : ∀ y ∈ f, -10000 ≤ y ∧ y ≤ 10000
end DL
set_option Elab.async false
set_option linter.all false
set_option maxRecDepth 100000
set_option maxHeartbeats 1000000
namespace DL
open PySem L2
end DL
set_option Elab.async false
set_option linter.all false
set_option maxRecDepth 100000
set_option maxHeartbeats 1000000
namespace DL
open PySem L2
/-- the part with a number -/
def pt (f : List Int) (n : Nat) : Int := f.getD n 0
theorem pt_get {f : List Int} {n : Nat} (h : n < f.length) : f[n]? = some (pt f n) := by
  unfold pt
  rw [List.getD_eq_getElem?_getD, List.getElem?_eq_getElem h]
  rfl
theorem pt_mem {f : List Int} {n : Nat} (h : n < f.length) : pt f n ∈ f := List.mem_of_getElem? (pt_get h)
theorem Fm.pt {f : List Int} (h : Fm f) {n : Nat} (hn : n < f.length) : (pt f n).natAbs ≤ 10000 := by
  have := h.all _ (pt_mem hn)
  omega
end DL
set_option Elab.async false
set_option linter.all false
set_option maxRecDepth 100000
set_option maxHeartbeats 1000000
namespace DL
open PySem L2
/-- the detail n's part of the value at p -/
def gp (f : List Int) (p n : Nat) : Rat := ((sgn f.length n p * pt f n : Int) : Rat) / (((bsz f.length n : Nat) : Int) : Rat)
/-- along n, n / 2, n / 4 .. 1 -/
def ch (g : Nat → Rat) : Nat → Nat → Rat
  | 0, _ => 0
  | k + 1, n => if n = 0 then 0 else g n + ch g k (n / 2)
def f0v (f : List Int) : Rat := ((pt f 0 : Int) : Rat) / (((f.length : Nat) : Int) : Rat)
def val (f : List Int) (p : Nat) : Rat := f0v f + ch (gp f p) 5 ((f.length + p) / 2)
end DL
set_option Elab.async false
set_option linter.all false
set_option maxRecDepth 100000
set_option maxHeartbeats 1000000
namespace DL
open PySem L2
/-- tuples of ints -/
abbrev T (ns : List Int) : D := .tup (ns.map D.int)
/-- the numbers of the blocks with a place -/
def has (l p n : Nat) : Bool := decide (fst l n ≤ p) && decide (p < fst l n + bsz l n)
end DL
set_option Elab.async false
set_option linter.all false
set_option maxRecDepth 100000
set_option maxHeartbeats 1000000
namespace DL
open PySem L2
/-- g 1 + .. + g k -/
def sm (g : Nat → Rat) : Nat → Rat
  | 0 => 0
  | k + 1 => sm g k + g (k + 1)
/-- the sum of a list of fractions -/
def rs : List Rat → Rat
  | [] => 0
  | q :: qs => q + rs qs
end DL
set_option Elab.async false
set_option linter.all false
set_option maxRecDepth 100000
set_option maxHeartbeats 1000000
namespace DL
open PySem L2
/-- the signs of block n from a up to b together -/
def ss (l n a b : Nat) : Int := ((List.range (b - a)).map fun i => sgn l n (a + i)).sum
/-- detail n's part of the sum from a up to b -/
def gs (f : List Int) (a b n : Nat) : Rat := ((ss f.length n a b * pt f n : Int) : Rat) / (((bsz f.length n : Nat) : Int) : Rat)
/-- the details that a stretch hangs on -/
def nd (l a b k : Nat) : List Int := ((List.range k).filter fun i => !decide (ss l (i + 1) a b = 0)).map fun i => ((i + 1 : Nat) : Int)
end DL
set_option Elab.async false
set_option linter.all false
set_option maxRecDepth 100000
set_option maxHeartbeats 1000000
namespace DL
open PySem L2
/-- the form with all other details 0 -/
def kp (f : List Int) (ks : List Int) : List Int := (List.range f.length).map fun (n : Nat) => if n = 0 ∨ ((n : Nat) : Int) ∈ ks then pt f n else 0
end DL
set_option Elab.async false
set_option linter.all false
set_option maxRecDepth 100000
set_option maxHeartbeats 1000000
namespace DL
open PySem L2
end DL
set_option Elab.async false
set_option linter.all false
set_option maxRecDepth 100000
set_option maxHeartbeats 1000000
namespace DL
open PySem L2
end DL
set_option Elab.async false
set_option linter.all false
set_option maxRecDepth 100000
set_option maxHeartbeats 1000000
namespace DL
open PySem L2
/-- the share of part n -/
def sh (f : List Int) (n : Nat) : Rat := ((pt f n * pt f n : Int) : Rat) / (((bsz f.length (max 1 n) : Nat) : Int) : Rat)
/-- over p < l -/
def pl (g : Nat → Rat) (l : Nat) : Rat := rs ((List.range l).map g)
end DL
set_option Elab.async false
set_option linter.all false
set_option maxRecDepth 100000
set_option maxHeartbeats 1000000
namespace DL
open PySem L2
structure Kept (l : Nat) (ks : List Int) : Prop where
  asc : ks.Pairwise (· < ·)
  mem : ∀ k ∈ ks, 1 ≤ k ∧ k < l
theorem asc_len : ∀ (ks : List Int) (a b : Int), ks.Pairwise (· < ·) → (∀ k ∈ ks, a ≤ k ∧ k < b) → a ≤ b → (ks.length : Int) ≤ b - a
  | [], a, b, _, _, h => by simp; omega
  | k :: ks, a, b, h1, h2, h => by
    obtain ⟨h3, h4⟩ := List.pairwise_cons.mp h1
    obtain ⟨h5, h6⟩ := h2 k List.mem_cons_self
    have := asc_len ks (k + 1) b h4 (fun x hx => ⟨by have := h3 x hx; omega, (h2 x (List.mem_cons_of_mem _ hx)).2⟩) (by omega)
    rw [List.length_cons]
    omega
theorem Kept.len {l : Nat} {ks : List Int} (h : Kept l ks) (hl : 1 ≤ l) : ks.length < l := by
  have := asc_len ks 1 l h.asc h.mem (by omega)
  omega
/-- what a choice leaves out -/
def lo (f ks : List Int) : Rat := sm (fun n => if !decide (((n : Nat) : Int) ∈ ks) then sh f n else 0) (f.length - 1)
abbrev iL (xs : List Nat) : List Int := xs.map fun n => ((n : Nat) : Int)
def ordK (f : List Int) : Nat → List Nat
  | 0 => []
  | k + 1 => (ordK f k).take (((ordK f k).filter fun m => !decide (sh f m < sh f (k + 1))).length) ++ [k + 1] ++ (ordK f k).drop (((ordK f k).filter fun m => !decide (sh f m < sh f (k + 1))).length)
abbrev ord (f : List Int) : List Nat := ordK f (f.length - 1)
end DL
set_option Elab.async false
set_option linter.all false
set_option maxRecDepth 100000
set_option maxHeartbeats 1000000
namespace DL
open PySem L2
end DL
set_option Elab.async false
set_option linter.all false
set_option maxRecDepth 100000
set_option maxHeartbeats 1000000
namespace DL
open PySem L2
end DL
set_option Elab.async false
set_option linter.all false
set_option maxRecDepth 100000
set_option maxHeartbeats 1000000
namespace DL
open PySem L2
/-- what the first m by share leave out -/
def er (f : List Int) (m : Nat) : Rat := rs (((ord f).drop m).map (sh f))
/-- what the first m by share make up -/
def up (f : List Int) (m : Nat) : Rat := rs (((ord f).take m).map (sh f))
/-- the first m by share, as a choice -/
def bk (f : List Int) (m : Nat) : List Int := sortI (iL ((ord f).take m))
end DL
set_option Elab.async false
set_option linter.all false
set_option maxRecDepth 100000
set_option maxHeartbeats 1000000
namespace DL
open PySem L2
def rt (n : Nat) : Nat := n + 2 ^ (Nat.log2 n + 1)
end DL
set_option Elab.async false
set_option linter.all false
set_option maxRecDepth 100000
set_option maxHeartbeats 1000000
namespace DL
open PySem L2
end DL
set_option Elab.async false
set_option linter.all false
set_option maxRecDepth 100000
set_option maxHeartbeats 4000000
namespace DL
open PySem L2
end DL
set_option Elab.async false
set_option linter.all false
set_option maxRecDepth 100000
set_option maxHeartbeats 4000000
namespace DL
open PySem L2
def xm (n0 m : Nat) : Nat :=
  if n0 < m ∧ m / 2 ^ (Nat.log2 m - Nat.log2 n0) = n0 then (if m % 2 ^ (Nat.log2 m - Nat.log2 n0) < 2 ^ (Nat.log2 m - Nat.log2 n0 - 1) then m + 2 ^ (Nat.log2 m - Nat.log2 n0 - 1) else m - 2 ^ (Nat.log2 m - Nat.log2 n0 - 1)) else m
def xe (n0 m : Nat) : Int := if m = n0 then -1 else 1
def exc (f : List Int) (n0 : Nat) : List Int := (List.range f.length).map fun m => if m = n0 then -pt f n0 else pt f (xm n0 m)
end DL
set_option Elab.async false
set_option linter.all false
set_option maxRecDepth 100000
set_option maxHeartbeats 4000000
namespace DL
open PySem L2
end DL
set_option Elab.async false
set_option linter.all false
set_option maxRecDepth 100000
set_option maxHeartbeats 4000000
namespace DL
open PySem L2
end DL
set_option Elab.async false
set_option linter.all false
set_option maxRecDepth 100000
set_option maxHeartbeats 4000000
namespace DL
open PySem L2
end DL
set_option Elab.async false
set_option linter.all false
set_option maxRecDepth 100000
set_option maxHeartbeats 4000000
namespace DL
open PySem L2
end DL
set_option Elab.async false
set_option linter.all false
set_option maxRecDepth 100000
set_option maxHeartbeats 4000000
namespace DL
open PySem L2
end DL
set_option Elab.async false
set_option linter.all false
set_option maxRecDepth 100000
set_option maxHeartbeats 4000000
namespace DL
open PySem L2
end DL
set_option Elab.async false
set_option linter.all false
set_option maxRecDepth 100000
set_option maxHeartbeats 1000000
namespace DL
open PySem L2
def isum (f : Nat → Int) : Nat → Int
  | 0 => 0
  | n + 1 => isum f n + f n
def tmv (c : Int → Int) (s : Int) (b : Nat) (k : Nat) : Int :=
  if (s + (-(b : Int) + (k : Int))) % 2 = 0 then c ((s + (-(b : Int) + (k : Int))) / 2) * c ((s - (-(b : Int) + (k : Int))) / 2) else 0
/-- lists of 2 ^ j integers with a sum, all details within b -/
def cnt : Nat → Int → Nat → Int
  | 0, _, _ => 1
  | j + 1, s, b => isum (tmv (fun x => cnt j x b) s b) (2 * b + 1)
def kk (j : Nat) (s : Int) : List Key := keyI [((2 ^ j : Nat) : Int), s]
def Good (b : Nat) (kds : List (List Key × D)) : Prop := ∀ kv ∈ kds, ∃ j s, kv = (kk j s, D.int (cnt j s b))
theorem kk_inj {i j : Nat} {s t : Int} (h : kk i s = kk j t) : i = j ∧ s = t := by
  unfold kk keyI at h
  simp only [List.map_cons, List.map_nil, List.cons.injEq, Sum.inl.injEq, and_true] at h
  exact ⟨(Nat.pow_right_inj (by decide)).mp (Int.ofNat.inj h.1), h.2⟩
theorem Good.val {b : Nat} : ∀ {kds : List (List Key × D)}, Good b kds → ∀ (j : Nat) (s : Int), valD kds (kk j s) = none ∨ valD kds (kk j s) = some (.int (cnt j s b))
  | [], _, _, _ => .inl rfl
  | p :: r, h, j, s => by
    by_cases e : p.1 = kk j s
    · refine .inr ?_
      obtain ⟨j', s', q⟩ := h p List.mem_cons_self
      rw [valD_pos e, q]
      rw [q] at e
      obtain ⟨rfl, rfl⟩ := kk_inj e
      rfl
    · rw [valD_neg e]
      exact Good.val (fun kv hk => h kv (List.mem_cons_of_mem _ hk)) j s
theorem Good.put {b : Nat} {kds : List (List Key × D)} (h : Good b kds) (j : Nat) (s : Int) : Good b (putKD kds (kk j s) (.int (cnt j s b))) := fun kv hk => by
  unfold putKD at hk
  split at hk
  · obtain ⟨p, hp, e⟩ := List.mem_map.mp hk
    split at e
    · rename_i e2
      exact ⟨j, s, by rw [← e, e2]⟩
    · rw [← e]
      exact h p hp
  · rcases List.mem_append.mp hk with z | z
    · exact h kv z
    · rw [List.mem_singleton] at z
      exact ⟨j, s, z⟩
end DL
set_option Elab.async false
set_option linter.all false
set_option maxRecDepth 100000
set_option maxHeartbeats 1000000
namespace DL
open PySem L2
end DL
set_option Elab.async false
set_option linter.all false
set_option maxRecDepth 100000
set_option maxHeartbeats 1000000
namespace DL
open PySem L2
def bs (f : List Int) (n : Nat) : Int :=
  if h : n ≤ 1 then pt f 0 else if n % 2 = 0 then (bs f (n / 2) + pt f (n / 2)) / 2 else (bs f (n / 2) - pt f (n / 2)) / 2
termination_by n
decreasing_by all_goals omega
end DL
set_option Elab.async false
set_option linter.all false
set_option maxRecDepth 100000
set_option maxHeartbeats 4000000
namespace DL.K18
open PySem L2
abbrev ODD : List D := [.non, .int 5, .tup [], .lst [], .lst [.int 1, .int 2, .int 3], .lst (List.replicate 5 (.int 0)), .lst (List.replicate 17 (.int 0)), .lst (List.replicate 32 (.int 0)), .lst [.int 10001], .lst [.int (-10001)], .lst [.bl true], .lst [.str (Str.ofString "1")], .lst [.non], .tup [.int 1, .int 2]]
abbrev LIMS : List D := [.tup [.int 0, .int (0), .int 3], .tup [.int 1, .int (0), .int 2], .tup [.int 2, .int (0), .int 3], .tup [.int 3, .int (0), .int 3], .tup [.int 4, .int (0), .int 3], .tup [.int 5, .int (0), .int 3], .tup [.int 8, .int (-99), .int 99], .tup [.int 9, .int (1), .int 3], .tup [.int 10, .int (0), .int 4], .tup [.int 11, .int (0), .int 4]]
abbrev PARTS : D := .lst [.int 10, .int 2, .int 4, .int 0]
theorem st_1 (d : D) (S : Store) : b_law_1 [.val d, .val (.obj 1), .emp, .emp, .emp, .emp, .emp, .emp, .emp, .emp, .emp] S = .nx [.val d, .val (.obj 1), .val (.lst ODD), .emp, .emp, .emp, .emp, .emp, .emp, .emp, .emp] S := by kernel_rfl
theorem st_2 (d : D) (nums : List Int) (c : Int) : b_law_2 [.val d, .val (.obj 1), .val (.lst ODD), .emp, .emp, .emp, .emp, .emp, .emp, .emp, .emp] (Dr nums c []) = .nx [.val d, .val (.obj 1), .val (.lst ODD), .val (.tup [.int 1, .int 2]), .emp, .emp, .emp, .emp, .emp, .emp, .emp] (Dr nums c (List.replicate 14 (.ins 7 []))) := by kernel_rfl
theorem st_3 (d : D) (S : Store) : b_law_3 [.val d, .val (.obj 1), .val (.lst ODD), .val (.tup [.int 1, .int 2]), .emp, .emp, .emp, .emp, .emp, .emp, .emp] S = .nx [.val d, .val (.obj 1), .val (.lst ODD), .val (.tup [.int 1, .int 2]), .val (PARTS), .emp, .emp, .emp, .emp, .emp, .emp] S := by kernel_rfl
theorem st_4 (d : D) (S : Store) : b_law_4 [.val d, .val (.obj 1), .val (.lst ODD), .val (.tup [.int 1, .int 2]), .val (PARTS), .emp, .emp, .emp, .emp, .emp, .emp] S = .nx [.val d, .val (.obj 1), .val (.lst ODD), .val (.tup [.int 1, .int 2]), .val (PARTS), .val (.lst LIMS), .emp, .emp, .emp, .emp, .emp] S := by kernel_rfl
theorem st_5 (d : D) (S : Store) : b_law_5 [.val d, .val (.obj 1), .val (.lst ODD), .val (.tup [.int 1, .int 2]), .val (PARTS), .val (.lst LIMS), .emp, .emp, .emp, .emp, .emp] S = .nx [.val d, .val (.obj 1), .val (.lst ODD), .val (.tup [.int 1, .int 2]), .val (PARTS), .val (.lst LIMS), .val (.int 11), .val (.int 0), .val (.int 4), .emp, .emp] S := by kernel_rfl
theorem st_6 (d : D) (S : Store) : b_law_6 [.val d, .val (.obj 1), .val (.lst ODD), .val (.tup [.int 1, .int 2]), .val (PARTS), .val (.lst LIMS), .val (.int 11), .val (.int 0), .val (.int 4), .emp, .emp] S = .nx [.val d, .val (.obj 1), .val (.lst ODD), .val (.tup [.int 1, .int 1000000001]), .val (PARTS), .val (.lst LIMS), .val (.int 11), .val (.int 0), .val (.int 4), .emp, .emp] S := by kernel_rfl
theorem st_7 (d : D) (S : Store) : b_law_7 [.val d, .val (.obj 1), .val (.lst ODD), .val (.tup [.int 1, .int 1000000001]), .val (PARTS), .val (.lst LIMS), .val (.int 11), .val (.int 0), .val (.int 4), .emp, .emp] S = .nx [.val d, .val (.obj 1), .val (.lst ODD), .val (.tup [.int 1, .int 1000000001]), .val (PARTS), .val (.lst LIMS), .val (.int 11), .val (.int 0), .val (.int 4), .emp, .emp] S := by kernel_rfl
theorem choices_is {R S : Store} (h : IsDr R S) : ∃ S', m_law_choices [.obj 1, PARTS] S = .ok (.bl true) S' := by
  obtain ⟨v, S', h1, h2, h3, h4⟩ := draw_is h (lim := 3) (by decide) (by decide)
  refine ⟨S', runD_ret rfl (sSeq_ok (S1 := S) (ρ' := [.val (.obj 1), .val PARTS, .val (.tup [.int (-1)]), .emp, .emp]) (by kernel_rfl) (sSeq_ok (S1 := S) (ρ' := [.val (.obj 1), .val PARTS, .val (.tup [.int (-1)]), .emp, .emp]) (by kernel_rfl) (sSeq_ok (S1 := S) (ρ' := [.val (.obj 1), .val PARTS, .val (.tup [.int (-1)]), .emp, .emp]) (by kernel_rfl) (sSeq_ok (S1 := S) (ρ' := [.val (.obj 1), .val PARTS, .val (.tup [.int (-1)]), .emp, .emp]) (by kernel_rfl) (sSeq_ok (S1 := S) (ρ' := [.val (.obj 1), .val PARTS, .val (.tup [.int (-1)]), .emp, .emp]) (by kernel_rfl) (sSeq_ok (sAsg_ok (eBin_ok eC_ok (eCall_ok (aCons_ok (eVar_ok rfl) (aCons_ok eC_ok aNil_ok)) h1) oSub_ii) rfl) ?_))))))⟩
  have hv : v = 0 ∨ v = 1 ∨ v = 2 := by omega
  rcases hv with rfl | rfl | rfl <;> kernel_rfl
theorem law_true : LawTrue m_law := by
  intro ns _
  obtain ⟨S1, a1, a2⟩ := start_is ns
  obtain ⟨nums, c, hn, rfl⟩ := a2
  obtain ⟨S2, b1⟩ := choices_is (R := List.replicate 14 (.ins 7 [])) ⟨nums, c, hn, rfl⟩
  exact ⟨S2, runD_ret rfl (sSeq_ok (sAsg_ok (eCall_ok (aCons_ok (eVar_ok rfl) aNil_ok) a1) rfl) (sSeq_ok (st_1 _ _) (sSeq_ok (st_2 _ nums c) (sSeq_ok (st_3 _ _) (sSeq_ok (st_4 _ _) (sSeq_ok (st_5 _ _) (sSeq_ok (st_6 _ _) (sSeq_ok (st_7 _ _) (sRet_ok (eCall_ok (aCons_ok (eVar_ok rfl) (aCons_ok (eVar_ok rfl) aNil_ok)) b1))))))))))⟩
end DL.K18
set_option Elab.async false
set_option linter.all false
set_option maxRecDepth 100000
set_option maxHeartbeats 4000000
namespace DL.K18
open PySem PySem.Spec PyProof.Rows L2 DL
def top (i : Nat) : Stmt := PySem.Challenge.pw_haarrows_k18_errors.main.body.getD i (.Pass ⟨0, 0, 0, 0⟩)
abbrev s_is_int : Stmt := top 11
abbrev N_is_int : List Str := ["value", "low", "high"]
theorem sc_is_int : FnScope N_is_int ["value", "low", "high"] (defScope s_is_int) := ⟨rfl, rfl, rfl, by decide +kernel, rfl, by decide +kernel, by decide +kernel⟩
abbrev s_is_form : Stmt := top 12
abbrev N_is_form : List Str := ["value", "part"]
theorem sc_is_form : FnScope N_is_form ["value"] (defScope s_is_form) := ⟨rfl, rfl, rfl, by decide +kernel, rfl, by decide +kernel, by decide +kernel⟩
abbrev s_check_form : Stmt := top 13
abbrev N_check_form : List Str := ["value"]
theorem sc_check_form : FnScope N_check_form ["value"] (defScope s_check_form) := ⟨rfl, rfl, rfl, by decide +kernel, rfl, by decide +kernel, by decide +kernel⟩
abbrev s_check_place : Stmt := top 14
abbrev N_check_place : List Str := ["row", "place"]
theorem sc_check_place : FnScope N_check_place ["row", "place"] (defScope s_check_place) := ⟨rfl, rfl, rfl, by decide +kernel, rfl, by decide +kernel, by decide +kernel⟩
abbrev s_is_kept : Stmt := top 15
abbrev N_is_kept : List Str := ["form", "value", "k", "number"]
theorem sc_is_kept : FnScope N_is_kept ["form", "value"] (defScope s_is_kept) := ⟨rfl, rfl, rfl, by decide +kernel, rfl, by decide +kernel, by decide +kernel⟩
abbrev s_check_kept : Stmt := top 16
abbrev N_check_kept : List Str := ["form", "value"]
theorem sc_check_kept : FnScope N_check_kept ["form", "value"] (defScope s_check_kept) := ⟨rfl, rfl, rfl, by decide +kernel, rfl, by decide +kernel, by decide +kernel⟩
abbrev s_halves : Stmt := top 18
abbrev N_halves : List Str := ["sum_of", "detail"]
theorem sc_halves : FnScope N_halves ["sum_of", "detail"] (defScope s_halves) := ⟨rfl, rfl, rfl, by decide +kernel, rfl, by decide +kernel, by decide +kernel⟩
abbrev s_sums_of : Stmt := top 19
abbrev N_sums_of : List Str := ["form_in", "size", "found", "number"]
theorem sc_sums_of : FnScope N_sums_of ["form_in"] (defScope s_sums_of) := ⟨rfl, rfl, rfl, by decide +kernel, rfl, by decide +kernel, by decide +kernel⟩
abbrev s_has_row : Stmt := top 20
abbrev N_has_row : List Str := ["form_in"]
theorem sc_has_row : FnScope N_has_row ["form_in"] (defScope s_has_row) := ⟨rfl, rfl, rfl, by decide +kernel, rfl, by decide +kernel, by decide +kernel⟩
abbrev s_first_odd : Stmt := top 21
abbrev N_first_odd : List Str := ["form_in"]
theorem sc_first_odd : FnScope N_first_odd ["form_in"] (defScope s_first_odd) := ⟨rfl, rfl, rfl, by decide +kernel, rfl, by decide +kernel, by decide +kernel⟩
abbrev s_list_of : Stmt := top 22
abbrev N_list_of : List Str := ["form_in", "found", "odd"]
theorem sc_list_of : FnScope N_list_of ["form_in"] (defScope s_list_of) := ⟨rfl, rfl, rfl, by decide +kernel, rfl, by decide +kernel, by decide +kernel⟩
abbrev s_block_size : Stmt := top 24
abbrev N_block_size : List Str := ["length", "number", "found"]
theorem sc_block_size : FnScope N_block_size ["length", "number"] (defScope s_block_size) := ⟨rfl, rfl, rfl, by decide +kernel, rfl, by decide +kernel, by decide +kernel⟩
abbrev s_place_of : Stmt := top 25
abbrev N_place_of : List Str := ["length", "number", "size"]
theorem sc_place_of : FnScope N_place_of ["length", "number"] (defScope s_place_of) := ⟨rfl, rfl, rfl, by decide +kernel, rfl, by decide +kernel, by decide +kernel⟩
abbrev s_sign_at : Stmt := top 26
abbrev N_sign_at : List Str := ["length", "number", "place", "first", "size"]
theorem sc_sign_at : FnScope N_sign_at ["length", "number", "place"] (defScope s_sign_at) := ⟨rfl, rfl, rfl, by decide +kernel, rfl, by decide +kernel, by decide +kernel⟩
abbrev s_common : Stmt := top 29
abbrev N_common : List Str := ["one", "other"]
theorem sc_common : FnScope N_common ["one", "other"] (defScope s_common) := ⟨rfl, rfl, rfl, by decide +kernel, rfl, by decide +kernel, by decide +kernel⟩
abbrev s_lowest : Stmt := top 30
abbrev N_lowest : List Str := ["top", "below", "divisor"]
theorem sc_lowest : FnScope N_lowest ["top", "below"] (defScope s_lowest) := ⟨rfl, rfl, rfl, by decide +kernel, rfl, by decide +kernel, by decide +kernel⟩
abbrev s_plus : Stmt := top 31
abbrev N_plus : List Str := ["one", "other"]
theorem sc_plus : FnScope N_plus ["one", "other"] (defScope s_plus) := ⟨rfl, rfl, rfl, by decide +kernel, rfl, by decide +kernel, by decide +kernel⟩
abbrev s_less : Stmt := top 32
abbrev N_less : List Str := ["one", "other"]
theorem sc_less : FnScope N_less ["one", "other"] (defScope s_less) := ⟨rfl, rfl, rfl, by decide +kernel, rfl, by decide +kernel, by decide +kernel⟩
abbrev s_total : Stmt := top 33
abbrev N_total : List Str := ["some", "found", "one"]
theorem sc_total : FnScope N_total ["some"] (defScope s_total) := ⟨rfl, rfl, rfl, by decide +kernel, rfl, by decide +kernel, by decide +kernel⟩
abbrev s_is_size : Stmt := top 34
abbrev N_is_size : List Str := ["value"]
theorem sc_is_size : FnScope N_is_size ["value"] (defScope s_is_size) := ⟨rfl, rfl, rfl, by decide +kernel, rfl, by decide +kernel, by decide +kernel⟩
abbrev s_check_size : Stmt := top 35
abbrev N_check_size : List Str := ["value"]
theorem sc_check_size : FnScope N_check_size ["value"] (defScope s_check_size) := ⟨rfl, rfl, rfl, by decide +kernel, rfl, by decide +kernel, by decide +kernel⟩
abbrev s_value_of : Stmt := top 37
abbrev N_value_of : List Str := ["form", "place", "size", "found", "number"]
theorem sc_value_of : FnScope N_value_of ["form", "place"] (defScope s_value_of) := ⟨rfl, rfl, rfl, by decide +kernel, rfl, by decide +kernel, by decide +kernel⟩
abbrev s_value_at : Stmt := top 38
abbrev N_value_at : List Str := ["form", "place"]
theorem sc_value_at : FnScope N_value_at ["form", "place"] (defScope s_value_at) := ⟨rfl, rfl, rfl, by decide +kernel, rfl, by decide +kernel, by decide +kernel⟩
abbrev s_all_values : Stmt := top 39
abbrev N_all_values : List Str := ["form", "place"]
theorem sc_all_values : FnScope N_all_values ["form"] (defScope s_all_values) := ⟨rfl, rfl, rfl, by decide +kernel, rfl, by decide +kernel, by decide +kernel⟩
abbrev s_sum_from_to : Stmt := top 40
abbrev N_sum_from_to : List Str := ["form", "first", "last", "found", "number", "signs", "place"]
theorem sc_sum_from_to : FnScope N_sum_from_to ["form", "first", "last"] (defScope s_sum_from_to) := ⟨rfl, rfl, rfl, by decide +kernel, rfl, by decide +kernel, by decide +kernel⟩
abbrev s_details_for : Stmt := top 41
abbrev N_details_for : List Str := ["form", "first", "last", "found", "number", "place"]
theorem sc_details_for : FnScope N_details_for ["form", "first", "last"] (defScope s_details_for) := ⟨rfl, rfl, rfl, by decide +kernel, rfl, by decide +kernel, by decide +kernel⟩
abbrev s_means : Stmt := top 42
abbrev N_means : List Str := ["form", "level", "many", "turn", "size", "found", "number", "first", "part"]
theorem sc_means : FnScope N_means ["form", "level"] (defScope s_means) := ⟨rfl, rfl, rfl, by decide +kernel, rfl, by decide +kernel, by decide +kernel⟩
abbrev s_share_of : Stmt := top 44
abbrev N_share_of : List Str := ["form", "number"]
theorem sc_share_of : FnScope N_share_of ["form", "number"] (defScope s_share_of) := ⟨rfl, rfl, rfl, by decide +kernel, rfl, by decide +kernel, by decide +kernel⟩
abbrev s_share : Stmt := top 45
abbrev N_share : List Str := ["form", "number"]
theorem sc_share : FnScope N_share ["form", "number"] (defScope s_share) := ⟨rfl, rfl, rfl, by decide +kernel, rfl, by decide +kernel, by decide +kernel⟩
abbrev s_shares : Stmt := top 46
abbrev N_shares : List Str := ["form", "number"]
theorem sc_shares : FnScope N_shares ["form"] (defScope s_shares) := ⟨rfl, rfl, rfl, by decide +kernel, rfl, by decide +kernel, by decide +kernel⟩
abbrev s_left_out : Stmt := top 47
abbrev N_left_out : List Str := ["form", "kept", "number"]
theorem sc_left_out : FnScope N_left_out ["form", "kept"] (defScope s_left_out) := ⟨rfl, rfl, rfl, by decide +kernel, rfl, by decide +kernel, by decide +kernel⟩
abbrev s_in_order : Stmt := top 49
abbrev N_in_order : List Str := ["form", "found", "number", "own", "place", "other"]
theorem sc_in_order : FnScope N_in_order ["form"] (defScope s_in_order) := ⟨rfl, rfl, rfl, by decide +kernel, rfl, by decide +kernel, by decide +kernel⟩
abbrev s_by_share : Stmt := top 48
abbrev N_by_share : List Str := ["form"]
theorem sc_by_share : FnScope N_by_share ["form"] (defScope s_by_share) := ⟨rfl, rfl, rfl, by decide +kernel, rfl, by decide +kernel, by decide +kernel⟩
abbrev s_check_many : Stmt := top 51
abbrev N_check_many : List Str := ["form", "many"]
theorem sc_check_many : FnScope N_check_many ["form", "many"] (defScope s_check_many) := ⟨rfl, rfl, rfl, by decide +kernel, rfl, by decide +kernel, by decide +kernel⟩
abbrev s_with_kept : Stmt := top 52
abbrev N_with_kept : List Str := ["form", "kept", "number"]
theorem sc_with_kept : FnScope N_with_kept ["form", "kept"] (defScope s_with_kept) := ⟨rfl, rfl, rfl, by decide +kernel, rfl, by decide +kernel, by decide +kernel⟩
abbrev s_only : Stmt := top 53
abbrev N_only : List Str := ["form", "kept"]
theorem sc_only : FnScope N_only ["form", "kept"] (defScope s_only) := ⟨rfl, rfl, rfl, by decide +kernel, rfl, by decide +kernel, by decide +kernel⟩
abbrev s_best_kept : Stmt := top 54
abbrev N_best_kept : List Str := ["form", "many"]
theorem sc_best_kept : FnScope N_best_kept ["form", "many"] (defScope s_best_kept) := ⟨rfl, rfl, rfl, by decide +kernel, rfl, by decide +kernel, by decide +kernel⟩
abbrev s_least_error : Stmt := top 55
abbrev N_least_error : List Str := ["form", "many", "number"]
theorem sc_least_error : FnScope N_least_error ["form", "many"] (defScope s_least_error) := ⟨rfl, rfl, rfl, by decide +kernel, rfl, by decide +kernel, by decide +kernel⟩
abbrev s_ties : Stmt := top 56
abbrev N_ties : List Str := ["form", "many", "order", "last", "alike", "number"]
theorem sc_ties : FnScope N_ties ["form", "many"] (defScope s_ties) := ⟨rfl, rfl, rfl, by decide +kernel, rfl, by decide +kernel, by decide +kernel⟩
abbrev s_choose : Stmt := top 57
abbrev N_choose : List Str := ["many", "of_all", "found", "step"]
theorem sc_choose : FnScope N_choose ["many", "of_all"] (defScope s_choose) := ⟨rfl, rfl, rfl, by decide +kernel, rfl, by decide +kernel, by decide +kernel⟩
abbrev s_count_best : Stmt := top 58
abbrev N_count_best : List Str := ["form", "many", "some", "alike"]
theorem sc_count_best : FnScope N_count_best ["form", "many"] (defScope s_count_best) := ⟨rfl, rfl, rfl, by decide +kernel, rfl, by decide +kernel, by decide +kernel⟩
abbrev s_fewest_within : Stmt := top 59
abbrev N_fewest_within : List Str := ["form", "size", "many", "number"]
theorem sc_fewest_within : FnScope N_fewest_within ["form", "size"] (defScope s_fewest_within) := ⟨rfl, rfl, rfl, by decide +kernel, rfl, by decide +kernel, by decide +kernel⟩
abbrev s_greatest_gap : Stmt := top 60
abbrev N_greatest_gap : List Str := ["form", "kept", "other", "found", "place", "number", "top", "below"]
theorem sc_greatest_gap : FnScope N_greatest_gap ["form", "kept"] (defScope s_greatest_gap) := ⟨rfl, rfl, rfl, by decide +kernel, rfl, by decide +kernel, by decide +kernel⟩
abbrev s_is_best : Stmt := top 61
abbrev N_is_best : List Str := ["form", "kept", "own", "number"]
theorem sc_is_best : FnScope N_is_best ["form", "kept"] (defScope s_is_best) := ⟨rfl, rfl, rfl, by decide +kernel, rfl, by decide +kernel, by decide +kernel⟩
abbrev s_checked : Stmt := top 64
abbrev N_checked : List Str := ["found"]
theorem sc_checked : FnScope N_checked ["found"] (defScope s_checked) := ⟨rfl, rfl, rfl, by decide +kernel, rfl, by decide +kernel, by decide +kernel⟩
abbrev s_changed_form : Stmt := top 63
abbrev N_changed_form : List Str := ["form_in", "place", "by", "size", "found", "number"]
theorem sc_changed_form : FnScope N_changed_form ["form_in", "place", "by"] (defScope s_changed_form) := ⟨rfl, rfl, rfl, by decide +kernel, rfl, by decide +kernel, by decide +kernel⟩
abbrev s_added : Stmt := top 65
abbrev N_added : List Str := ["one", "other", "a", "b"]
theorem sc_added : FnScope N_added ["one", "other"] (defScope s_added) := ⟨rfl, rfl, rfl, by decide +kernel, rfl, by decide +kernel, by decide +kernel⟩
abbrev s_scaled : Stmt := top 66
abbrev N_scaled : List Str := ["form_in", "by", "part"]
theorem sc_scaled : FnScope N_scaled ["form_in", "by"] (defScope s_scaled) := ⟨rfl, rfl, rfl, by decide +kernel, rfl, by decide +kernel, by decide +kernel⟩
abbrev s_backward_form : Stmt := top 67
abbrev N_backward_form : List Str := ["form_in", "size", "found", "many", "part"]
theorem sc_backward_form : FnScope N_backward_form ["form_in"] (defScope s_backward_form) := ⟨rfl, rfl, rfl, by decide +kernel, rfl, by decide +kernel, by decide +kernel⟩
abbrev s_exchanged : Stmt := top 68
abbrev N_exchanged : List Str := ["form_in", "number", "found", "first", "many"]
theorem sc_exchanged : FnScope N_exchanged ["form_in", "number"] (defScope s_exchanged) := ⟨rfl, rfl, rfl, by decide +kernel, rfl, by decide +kernel, by decide +kernel⟩
abbrev s_halves_of : Stmt := top 69
abbrev N_halves_of : List Str := ["form_in", "size", "many", "one", "other"]
theorem sc_halves_of : FnScope N_halves_of ["form_in"] (defScope s_halves_of) := ⟨rfl, rfl, rfl, by decide +kernel, rfl, by decide +kernel, by decide +kernel⟩
abbrev s_Keeper___init__ : Stmt := inClass (top 71) 0
abbrev N_Keeper___init__ : List Str := ["self", "form"]
theorem sc_Keeper___init__ : FnScope N_Keeper___init__ ["self", "form"] (defScope s_Keeper___init__) := ⟨rfl, rfl, rfl, by decide +kernel, rfl, by decide +kernel, by decide +kernel⟩
abbrev s_Keeper_error : Stmt := inClass (top 71) 5
abbrev N_Keeper_error : List Str := ["self", "found", "number"]
theorem sc_Keeper_error : FnScope N_Keeper_error ["self"] (defScope s_Keeper_error) := ⟨rfl, rfl, rfl, by decide +kernel, rfl, by decide +kernel, by decide +kernel⟩
abbrev s_Keeper_kept : Stmt := inClass (top 71) 6
abbrev N_Keeper_kept : List Str := ["self"]
theorem sc_Keeper_kept : FnScope N_Keeper_kept ["self"] (defScope s_Keeper_kept) := ⟨rfl, rfl, rfl, by decide +kernel, rfl, by decide +kernel, by decide +kernel⟩
abbrev s_Keeper_value : Stmt := inClass (top 71) 7
abbrev N_Keeper_value : List Str := ["self", "place", "left", "k"]
theorem sc_Keeper_value : FnScope N_Keeper_value ["self", "place"] (defScope s_Keeper_value) := ⟨rfl, rfl, rfl, by decide +kernel, rfl, by decide +kernel, by decide +kernel⟩
abbrev s_Keeper___len__ : Stmt := inClass (top 71) 8
abbrev N_Keeper___len__ : List Str := ["self"]
theorem sc_Keeper___len__ : FnScope N_Keeper___len__ ["self"] (defScope s_Keeper___len__) := ⟨rfl, rfl, rfl, by decide +kernel, rfl, by decide +kernel, by decide +kernel⟩
abbrev s_format_form : Stmt := top 73
abbrev N_format_form : List Str := ["form", "words", "many", "part"]
theorem sc_format_form : FnScope N_format_form ["form"] (defScope s_format_form) := ⟨rfl, rfl, rfl, by decide +kernel, rfl, by decide +kernel, by decide +kernel⟩
abbrev s_law_start : Stmt := top 75
abbrev N_law_start : List Str := ["script"]
theorem sc_law_start : FnScope N_law_start ["script"] (defScope s_law_start) := ⟨rfl, rfl, rfl, by decide +kernel, rfl, by decide +kernel, by decide +kernel⟩
abbrev s_law_draw : Stmt := top 76
abbrev N_law_draw : List Str := ["draws", "limit", "numbers", "at", "cell", "mixed"]
theorem sc_law_draw : FnScope N_law_draw ["draws", "limit"] (defScope s_law_draw) := ⟨rfl, rfl, rfl, by decide +kernel, rfl, by decide +kernel, by decide +kernel⟩
abbrev s_law_error : Stmt := top 77
abbrev N_law_error : List Str := ["caught", "kinds"]
theorem sc_law_error : FnScope N_law_error ["caught"] (defScope s_law_error) := ⟨rfl, rfl, rfl, by decide +kernel, rfl, by decide +kernel, by decide +kernel⟩
abbrev s_law_one : Stmt := top 78
abbrev N_law_one : List Str := ["kind", "thing"]
theorem sc_law_one : FnScope N_law_one ["kind", "thing"] (defScope s_law_one) := ⟨rfl, rfl, rfl, by decide +kernel, rfl, by decide +kernel, by decide +kernel⟩
abbrev s_law_two : Stmt := top 79
abbrev N_law_two : List Str := ["kind", "parts", "thing"]
theorem sc_law_two : FnScope N_law_two ["kind", "parts", "thing"] (defScope s_law_two) := ⟨rfl, rfl, rfl, by decide +kernel, rfl, by decide +kernel, by decide +kernel⟩
abbrev s_law_asked : Stmt := top 80
abbrev N_law_asked : List Str := ["group", "kind", "parts", "thing", "caught", "e"]
theorem sc_law_asked : FnScope N_law_asked ["group", "kind", "parts", "thing"] (defScope s_law_asked) := ⟨rfl, rfl, rfl, by decide +kernel, rfl, by decide +kernel, by decide +kernel⟩
abbrev s_law_choices : Stmt := top 81
abbrev N_law_choices : List Str := ["draws", "parts", "bad", "top", "k"]
theorem sc_law_choices : FnScope N_law_choices ["draws", "parts"] (defScope s_law_choices) := ⟨rfl, rfl, rfl, by decide +kernel, rfl, by decide +kernel, by decide +kernel⟩
abbrev s_law : Stmt := top 82
abbrev N_law : List Str := ["script", "draws", "odd", "bad", "parts", "limits", "kind", "low", "high", "good", "k"]
theorem sc_law : FnScope N_law ["script"] (defScope s_law) := ⟨rfl, rfl, rfl, by decide +kernel, rfl, by decide +kernel, by decide +kernel⟩
structure Txt (K : PySem.W.Frag) (mg : Str → Option Value) (ca : Nat → Addr) : Prop where
  blt : Blt mg
  c_LENGTHS : CTup K mg "LENGTHS" [1, 2, 4, 8, 16]
  c_MOST_PART : CInt mg "MOST_PART" 10000
  c_MOST : CInt mg "MOST" 1000000000
  e_BadRow : ExcAt K mg "BadRow" (ca 1)
  e_BadForm : ExcAt K mg "BadForm" (ca 2)
  e_BadNumber : ExcAt K mg "BadNumber" (ca 3)
  e_BadKept : ExcAt K mg "BadKept" (ca 4)
  e_BadText : ExcAt K mg "BadText" (ca 5)
  e_NotFound : ExcAt K mg "NotFound" (ca 6)
  h_HaarError : mg "HaarError" = some (.ref (ca 0))
  n_ValueError : mg "ValueError" = none
  er : ErrC K ca
  heirs : Heirs K ca
  k_cls : Cls K (ca 7)
  k_form : NoAttr K (ca 7) "form"
  k_row : NoAttr K (ca 7) "row"
  k_make : MakeAt K mg "Keeper" (ca 7)
  d_is_int : DefAt K mg "is_int" s_is_int ["value", "low", "high"]
  d_is_form : DefAt K mg "is_form" s_is_form ["value"]
  d_check_form : DefAt K mg "check_form" s_check_form ["value"]
  d_check_place : DefAt K mg "check_place" s_check_place ["row", "place"]
  d_is_kept : DefAt K mg "is_kept" s_is_kept ["form", "value"]
  d_check_kept : DefAt K mg "check_kept" s_check_kept ["form", "value"]
  d_halves : DefAt K mg "halves" s_halves ["sum_of", "detail"]
  d_sums_of : DefAt K mg "sums_of" s_sums_of ["form_in"]
  d_has_row : DefAt K mg "has_row" s_has_row ["form_in"]
  d_first_odd : DefAt K mg "first_odd" s_first_odd ["form_in"]
  d_list_of : DefAt K mg "list_of" s_list_of ["form_in"]
  d_block_size : DefAt K mg "block_size" s_block_size ["length", "number"]
  d_place_of : DefAt K mg "place_of" s_place_of ["length", "number"]
  d_sign_at : DefAt K mg "sign_at" s_sign_at ["length", "number", "place"]
  d_common : DefAt K mg "common" s_common ["one", "other"]
  d_lowest : DefAt K mg "lowest" s_lowest ["top", "below"]
  d_plus : DefAt K mg "plus" s_plus ["one", "other"]
  d_less : DefAt K mg "less" s_less ["one", "other"]
  d_total : DefAt K mg "total" s_total ["some"]
  d_is_size : DefAt K mg "is_size" s_is_size ["value"]
  d_check_size : DefAt K mg "check_size" s_check_size ["value"]
  d_value_of : DefAt K mg "value_of" s_value_of ["form", "place"]
  d_value_at : DefAt K mg "value_at" s_value_at ["form", "place"]
  d_all_values : DefAt K mg "all_values" s_all_values ["form"]
  d_sum_from_to : DefAt K mg "sum_from_to" s_sum_from_to ["form", "first", "last"]
  d_details_for : DefAt K mg "details_for" s_details_for ["form", "first", "last"]
  d_means : DefAt K mg "means" s_means ["form", "level"]
  d_share_of : DefAt K mg "share_of" s_share_of ["form", "number"]
  d_share : DefAt K mg "share" s_share ["form", "number"]
  d_shares : DefAt K mg "shares" s_shares ["form"]
  d_left_out : DefAt K mg "left_out" s_left_out ["form", "kept"]
  d_in_order : DefAt K mg "in_order" s_in_order ["form"]
  d_by_share : DefAt K mg "by_share" s_by_share ["form"]
  d_check_many : DefAt K mg "check_many" s_check_many ["form", "many"]
  d_with_kept : DefAt K mg "with_kept" s_with_kept ["form", "kept"]
  d_only : DefAt K mg "only" s_only ["form", "kept"]
  d_best_kept : DefAt K mg "best_kept" s_best_kept ["form", "many"]
  d_least_error : DefAt K mg "least_error" s_least_error ["form", "many"]
  d_ties : DefAt K mg "ties" s_ties ["form", "many"]
  d_choose : DefAt K mg "choose" s_choose ["many", "of_all"]
  d_count_best : DefAt K mg "count_best" s_count_best ["form", "many"]
  d_fewest_within : DefAt K mg "fewest_within" s_fewest_within ["form", "size"]
  d_greatest_gap : DefAt K mg "greatest_gap" s_greatest_gap ["form", "kept"]
  d_is_best : DefAt K mg "is_best" s_is_best ["form", "kept"]
  d_checked : DefAt K mg "checked" s_checked ["found"]
  d_changed_form : DefAt K mg "changed_form" s_changed_form ["form_in", "place", "by"]
  d_added : DefAt K mg "added" s_added ["one", "other"]
  d_scaled : DefAt K mg "scaled" s_scaled ["form_in", "by"]
  d_backward_form : DefAt K mg "backward_form" s_backward_form ["form_in"]
  d_exchanged : DefAt K mg "exchanged" s_exchanged ["form_in", "number"]
  d_halves_of : DefAt K mg "halves_of" s_halves_of ["form_in"]
  d_Keeper___init__ : MethAt K (ca 7) "__init__" "Keeper.__init__" s_Keeper___init__ ["self", "form"]
  d_Keeper_error : MethAt K (ca 7) "error" "Keeper.error" s_Keeper_error ["self"]
  d_Keeper_kept : MethAt K (ca 7) "kept" "Keeper.kept" s_Keeper_kept ["self"]
  d_Keeper_value : MethAt K (ca 7) "value" "Keeper.value" s_Keeper_value ["self", "place"]
  d_Keeper___len__ : MethAt K (ca 7) "__len__" "Keeper.__len__" s_Keeper___len__ ["self"]
  d_format_form : DefAt K mg "format_form" s_format_form ["form"]
  d_law_start : DefAt K mg "_law_start" s_law_start ["script"]
  d_law_draw : DefAt K mg "_law_draw" s_law_draw ["draws", "limit"]
  d_law_error : DefAt K mg "_law_error" s_law_error ["caught"]
  d_law_one : DefAt K mg "_law_one" s_law_one ["kind", "thing"]
  d_law_two : DefAt K mg "_law_two" s_law_two ["kind", "parts", "thing"]
  d_law_asked : DefAt K mg "_law_asked" s_law_asked ["group", "kind", "parts", "thing"]
  d_law_choices : DefAt K mg "_law_choices" s_law_choices ["draws", "parts"]
section
variable {P : Program} {w : World} {K : PySem.W.Frag} {mg : Str → Option Value} {base : Heap} {ca : Nat → Addr}
theorem ok_is_int (T : Txt K mg ca) : FnD P w K mg base ca 1 "is_int" 3 m_is_int :=
  fnAt (k := 0) (N := N_is_int) T.d_is_int sc_is_int fun f cdv A outer s H E hr =>
    (gss_one (gs_ret (ge_and (ge_isi (by rfl) T.blt.isinstance bb_isinstance (by rfl) T.blt.int bb_int (gv 0)) (ge_and (ge_not (ge_isi (by rfl) T.blt.isinstance bb_isinstance (by rfl) T.blt.bool bb_bool (gv 0))) (ge_one (ge_chain op_le s_le op_le s_le (gv 1) (gv 0) (gv 2)))))))
theorem ok_is_form (T : Txt K mg ca) (F_is_int : FnD P w K mg base ca 1 "is_int" 3 m_is_int) : FnD P w K mg base ca 2 "is_form" 1 m_is_form :=
  fnAt (k := 1) (N := N_is_form) T.d_is_form sc_is_form fun f cdv A outer s H E hr =>
    (gss_cons (gs_if (PW.pt (gw_or (gt_not (gt_val (ge_isi (by rfl) T.blt.isinstance bb_isinstance (by rfl) T.blt.list bb_list (gv 0)))) (gw_or1 (gt_cmp (op_notInA (hu65 hr)) s_notIn (ge_callB call_len c_len (by rfl) T.blt.len bb_len (ga_cons (gv 0) ga_nil)) (ge_gtupE (by rfl) T.c_LENGTHS) (by rfl))))) (gss_one (gs_ret ge_bl)) gss_nil)
    (gss_one (gs_ret (ge_callB (cr_all rfl) c_all (by rfl) T.blt.all bb_all (ga_cons (ge_alt (ge_lc rfl sc_is_form.nd (tgOk_name 1) (gi_seq (gv 0)) (blkOk_by (N := N_is_form) (sc := defScope s_is_form) (own := [("part", 1)]) (by decide +kernel)) (fun _ _ _ _ _ => (pg_name (i := 1) sc_is_form.nd rfl (Or.inl rfl))) (fun _ _ _ _ _ => gts_nil) (fun _ _ _ _ _ => (ge_callD F_is_int hr (by decide) (by rfl) passL (ga_cons (gv 1) (ga_cons (ge_un un_neg s_neg (ge_gintE (by rfl) T.c_MOST_PART)) (ga_cons (ge_gintE (by rfl) T.c_MOST_PART) ga_nil)))))) (ge_lcO keeps_yes keeps_is_int rfl sc_is_form.nd (tgOk_name 1) (gi_obj (gv 0)) (blkOk_by (N := N_is_form) (sc := defScope s_is_form) (own := [("part", 1)]) (by decide +kernel)) (fun _ _ _ _ _ => (pg_name (i := 1) sc_is_form.nd rfl (Or.inl rfl))) (fun _ _ _ _ _ => gts_nil) (fun _ _ _ _ _ => (ge_callD F_is_int hr (by decide) (by rfl) passL (ga_cons (gv 1) (ga_cons (ge_un un_neg s_neg (ge_gintE (by rfl) T.c_MOST_PART)) (ga_cons (ge_gintE (by rfl) T.c_MOST_PART) ga_nil))))))) ga_nil)))))
theorem ok_check_form (T : Txt K mg ca) (F_is_form : FnD P w K mg base ca 2 "is_form" 1 m_is_form) : FnD P w K mg base ca 3 "check_form" 1 m_check_form :=
  fnAt (k := 2) (N := N_check_form) T.d_check_form sc_check_form fun f cdv A outer s H E hr =>
    (gss_one (gs_if (gt_not (gt_val (ge_callD F_is_form hr (by decide) (by rfl) psX (ga_cons (gv 0) ga_nil)))) (gss_one (gs_raiseE (c := 2) rfl tkX T.e_BadForm (by rfl))) gss_nil))
theorem ok_check_place (T : Txt K mg ca) (F_is_int : FnD P w K mg base ca 1 "is_int" 3 m_is_int) : FnD P w K mg base ca 2 "check_place" 2 m_check_place :=
  fnAt (k := 1) (N := N_check_place) T.d_check_place sc_check_place fun f cdv A outer s H E hr =>
    (gss_one (gs_if (gt_not (gt_val (ge_callD F_is_int hr (by decide) (by rfl) psX (ga_cons (gv 1) (ga_cons ge_int (ga_cons (ge_op op_sub s_sub (ge_callB call_len c_len (by rfl) T.blt.len bb_len (ga_cons (gv 0) ga_nil)) ge_int) ga_nil)))))) (gss_one (gs_raiseE (c := 3) rfl tkX T.e_BadNumber (by rfl))) gss_nil))
theorem ok_is_kept (T : Txt K mg ca) (F_is_int : FnD P w K mg base ca 1 "is_int" 3 m_is_int) : FnD P w K mg base ca 2 "is_kept" 2 m_is_kept :=
  fnAt (k := 1) (N := N_is_kept) T.d_is_kept sc_is_kept fun f cdv A outer s H E hr =>
    (gss_cons (gs_if (PW.pt (gw_or (gt_not (gt_val (ge_isi (by rfl) T.blt.isinstance bb_isinstance (by rfl) T.blt.tuple bb_tuple (gv 1)))) (gw_or1 (gt_not (gt_val (ge_callB (cr_all rfl) c_all (by rfl) T.blt.all bb_all (ga_cons (ge_lc rfl sc_is_kept.nd (tgOk_name 3) (gi_seq (gv 1)) (blkOk_by (N := N_is_kept) (sc := defScope s_is_kept) (own := [("number", 3)]) (by decide +kernel)) (fun _ _ _ _ _ => (pg_name (i := 3) sc_is_kept.nd rfl (Or.inl rfl))) (fun _ _ _ _ _ => gts_nil) (fun _ _ _ _ _ => (ge_callD F_is_int hr (by decide) (by rfl) passL (ga_cons (gv 3) (ga_cons ge_int (ga_cons (ge_op op_sub s_sub (ge_callB call_len c_len (by rfl) T.blt.len bb_len (ga_cons (gv 0) ga_nil)) ge_int) ga_nil)))))) ga_nil))))))) (gss_one (gs_ret ge_bl)) gss_nil)
    (gss_one (gs_ret (ge_callB (cr_all rfl) c_all (by rfl) T.blt.all bb_all (ga_cons (ge_lc rfl sc_is_kept.nd (tgOk_name 2) (gi_range1 (by rfl) T.blt.range (ga_cons (ge_op op_sub s_sub (ge_callB call_len c_len (by rfl) T.blt.len bb_len (ga_cons (gv 1) ga_nil)) ge_int) ga_nil)) (blkOk_by (N := N_is_kept) (sc := defScope s_is_kept) (own := [("k", 2)]) (by decide +kernel)) (fun _ _ _ _ _ => (pg_name (i := 2) sc_is_kept.nd rfl (Or.inl rfl))) (fun _ _ _ _ _ => gts_nil) (fun _ _ _ _ _ => (ge_cmp op_lt s_lt (ge_ix (gv 1) (gv 2) (fun _ _ => rfl)) (ge_ix (gv 1) (ge_op op_addA s_add (gv 2) ge_int) (fun _ _ => rfl)) (nomark _)))) ga_nil)))))
theorem ok_check_kept (T : Txt K mg ca) (F_is_kept : FnD P w K mg base ca 2 "is_kept" 2 m_is_kept) : FnD P w K mg base ca 3 "check_kept" 2 m_check_kept :=
  fnAt (k := 2) (N := N_check_kept) T.d_check_kept sc_check_kept fun f cdv A outer s H E hr =>
    (gss_one (gs_if (gt_not (gt_val (ge_callD F_is_kept hr (by decide) (by rfl) psX (ga_cons (gv 0) (ga_cons (gv 1) ga_nil))))) (gss_one (gs_raiseE (c := 4) rfl tkX T.e_BadKept (by rfl))) gss_nil))
theorem ok_halves (T : Txt K mg ca) : FnD P w K mg base ca 1 "halves" 2 m_halves :=
  fnAt (k := 0) (N := N_halves) T.d_halves sc_halves fun f cdv A outer s H E hr =>
    (gss_one (gs_ret (ge_tup (ga_cons (ge_op op_fdiv s_fdiv (ge_op op_addA s_add (gv 0) (gv 1)) ge_int) (ga_cons (ge_op op_fdiv s_fdiv (ge_op op_sub s_sub (gv 0) (gv 1)) ge_int) ga_nil)))))
theorem ok_sums_of (T : Txt K mg ca) (F_halves : FnD P w K mg base ca 1 "halves" 2 m_halves) : FnD P w K mg base ca 2 "sums_of" 1 m_sums_of :=
  fnAt (k := 1) (N := N_sums_of) T.d_sums_of sc_sums_of fun f cdv A outer s H E hr =>
    (gss_cons (gs_set (i := 1) sc_sums_of.nd rfl (Or.inl rfl) (ge_callB call_len c_len (by rfl) T.blt.len bb_len (ga_cons (gv 0) ga_nil)))
    (gss_cons (gs_own (i := 2) sc_sums_of.nd rfl (Or.inl rfl) (gf_add (ge_lst (ga_cons ge_non (ga_cons (ge_ix (gv 0) ge_int (fun _ _ => rfl)) ga_nil))) (ge_op op_mulA s_mul (ge_lst (ga_cons ge_non ga_nil)) (ge_op op_sub s_sub (ge_op op_mulA s_mul ge_int (gv 1)) ge_int))))
    (gss_cons (gs_for poX rfl (gi_range2 (by rfl) T.blt.range (ga_cons ge_int (ga_cons (gv 1) ga_nil))) (gg_name (i := 3) sc_sums_of.nd rfl (Or.inl rfl)) (gss_cons (gs_if (PW.pt (gw_or (gt_cmp op_isA s_is (ge_ownIx (pv 2) (gv 3) (fun _ _ => rfl)) ge_non (nomark _)) (gw_or1 (gt_cmp (op_neD hr.units) s_ne (ge_op op_mod s_mod (ge_op op_addA s_add (ge_ownIx (pv 2) (gv 3) (fun _ _ => rfl)) (ge_ix (gv 0) (gv 3) (fun _ _ => rfl))) ge_int) ge_int (nomark _))))) (gss_one (gs_frz 2 (gs_ret (ge_tup (ga_cons (gv 2) (ga_cons (gv 3) ga_nil)))))) gss_nil)
    (gss_one (gs_set2 (i := 2) rfl (pv 2) (pv 2) (ge_op op_mulA s_mul ge_int (gv 3)) (ge_op op_addA s_add (ge_op op_mulA s_mul ge_int (gv 3)) ge_int) (ge_callD F_halves hr (by decide) (by rfl) psX (ga_cons (ge_ownIx (pv 2) (gv 3) (fun _ _ => rfl)) (ga_cons (ge_ix (gv 0) (gv 3) (fun _ _ => rfl)) ga_nil)))))))
    (gss_one (gs_frz 2 (gs_ret (ge_tup (ga_cons (gv 2) (ga_cons ge_non ga_nil)))))))))
theorem ok_has_row (T : Txt K mg ca) (F_check_form : FnD P w K mg base ca 3 "check_form" 1 m_check_form) (F_sums_of : FnD P w K mg base ca 2 "sums_of" 1 m_sums_of) : FnD P w K mg base ca 4 "has_row" 1 m_has_row :=
  fnAt (k := 3) (N := N_has_row) T.d_has_row sc_has_row fun f cdv A outer s H E hr =>
    (gss_cons (gs_expr (ge_callD F_check_form hr (by decide) (by rfl) psX (ga_cons (gv 0) ga_nil)))
    (gss_one (gs_ret (ge_cmp op_isA s_is (ge_ix (ge_callD F_sums_of hr (by decide) (by rfl) psX (ga_cons (gv 0) ga_nil)) ge_int (fun _ _ => rfl)) ge_non (nomark _)))))
theorem ok_first_odd (T : Txt K mg ca) (F_check_form : FnD P w K mg base ca 3 "check_form" 1 m_check_form) (F_sums_of : FnD P w K mg base ca 2 "sums_of" 1 m_sums_of) : FnD P w K mg base ca 4 "first_odd" 1 m_first_odd :=
  fnAt (k := 3) (N := N_first_odd) T.d_first_odd sc_first_odd fun f cdv A outer s H E hr =>
    (gss_cons (gs_expr (ge_callD F_check_form hr (by decide) (by rfl) psX (ga_cons (gv 0) ga_nil)))
    (gss_one (gs_ret (ge_ix (ge_callD F_sums_of hr (by decide) (by rfl) psX (ga_cons (gv 0) ga_nil)) ge_int (fun _ _ => rfl)))))
theorem ok_list_of (T : Txt K mg ca) (F_check_form : FnD P w K mg base ca 3 "check_form" 1 m_check_form) (F_sums_of : FnD P w K mg base ca 2 "sums_of" 1 m_sums_of) : FnD P w K mg base ca 4 "list_of" 1 m_list_of :=
  fnAt (k := 3) (N := N_list_of) T.d_list_of sc_list_of fun f cdv A outer s H E hr =>
    (gss_cons (gs_expr (ge_callD F_check_form hr (by decide) (by rfl) psX (ga_cons (gv 0) ga_nil)))
    (gss_cons (gs_asg (ge_callD F_sums_of hr (by decide) (by rfl) psX (ga_cons (gv 0) ga_nil)) (gg_tup (by rfl) (ggs_cons (gg_name (i := 1) sc_list_of.nd rfl (Or.inl rfl)) (ggs_cons (gg_name (i := 2) sc_list_of.nd rfl (Or.inl rfl)) ggs_nil)) (tgCons_len (tgCons_len tgNil_len))))
    (gss_cons (gs_if (gt_cmp op_isntA s_isnt (gv 2) ge_non (nomark _)) (gss_one (gs_raiseE (c := 6) rfl tkX T.e_NotFound (by rfl))) gss_nil)
    (gss_one (gs_ret (ge_slice (gv 1) (go_some (ge_callB call_len c_len (by rfl) T.blt.len bb_len (ga_cons (gv 0) ga_nil))) go_none))))))
theorem ok_block_size (T : Txt K mg ca) : FnD P w K mg base ca 1 "block_size" 2 m_block_size :=
  fnAt (k := 0) (N := N_block_size) T.d_block_size sc_block_size fun f cdv A outer s H E hr =>
    (gss_cons (gs_set (i := 2) sc_block_size.nd rfl (Or.inl rfl) (gv 0))
    (gss_cons (gs_while 40 poX (gt_cmp op_gt s_gt (gv 1) ge_int (nomark _)) (gss_cons (gs_aug (i := 1) iop_fdiv s_fdiv sc_block_size.nd rfl (Or.inl rfl) ge_int)
    (gss_one (gs_aug (i := 2) iop_fdiv s_fdiv sc_block_size.nd rfl (Or.inl rfl) ge_int))))
    (gss_one (gs_ret (gv 2)))))
theorem ok_place_of (T : Txt K mg ca) (F_block_size : FnD P w K mg base ca 1 "block_size" 2 m_block_size) : FnD P w K mg base ca 2 "place_of" 2 m_place_of :=
  fnAt (k := 1) (N := N_place_of) T.d_place_of sc_place_of fun f cdv A outer s H E hr =>
    (gss_cons (gs_set (i := 2) sc_place_of.nd rfl (Or.inl rfl) (ge_callD F_block_size hr (by decide) (by rfl) psX (ga_cons (gv 0) (ga_cons (gv 1) ga_nil))))
    (gss_one (gs_ret (ge_op op_mulA s_mul (ge_op op_sub s_sub (gv 1) (ge_op op_fdiv s_fdiv (gv 0) (gv 2))) (gv 2)))))
theorem ok_sign_at (T : Txt K mg ca) (F_place_of : FnD P w K mg base ca 2 "place_of" 2 m_place_of) (F_block_size : FnD P w K mg base ca 1 "block_size" 2 m_block_size) : FnD P w K mg base ca 3 "sign_at" 3 m_sign_at :=
  fnAt (k := 2) (N := N_sign_at) T.d_sign_at sc_sign_at fun f cdv A outer s H E hr =>
    (gss_cons (gs_par (i := 3) (j := 4) (by rfl) sc_sign_at.nd rfl rfl (by decide) rfl rfl (ga_cons (ge_callD F_place_of hr (by decide) (by rfl) psX (ga_cons (gv 0) (ga_cons (gv 1) ga_nil))) (ga_cons (ge_callD F_block_size hr (by decide) (by rfl) psX (ga_cons (gv 0) (ga_cons (gv 1) ga_nil))) ga_nil)) (by rfl))
    (gss_cons (gs_if (gt_not (gt_chain op_le s_le op_lt s_lt (gv 3) (gv 2) (ge_op op_addA s_add (gv 3) (gv 4)))) (gss_one (gs_ret ge_int)) gss_nil)
    (gss_one (gs_ret (ge_if (gt_cmp op_lt s_lt (gv 2) (ge_op op_addA s_add (gv 3) (ge_op op_fdiv s_fdiv (gv 4) ge_int)) (nomark _)) ge_int (ge_un un_neg s_neg ge_int))))))
theorem ok_common (T : Txt K mg ca) : FnD P w K mg base ca 1 "common" 2 m_common :=
  fnAt (k := 0) (N := N_common) T.d_common sc_common fun f cdv A outer s H E hr =>
    (gss_cons (gs_par (i := 0) (j := 1) (by rfl) sc_common.nd rfl rfl (by decide) rfl rfl (ga_cons (ge_callB call_absA c_absB (by rfl) T.blt.abs bb_abs (ga_cons (gv 0) ga_nil)) (ga_cons (ge_callB call_absA c_absB (by rfl) T.blt.abs bb_abs (ga_cons (gv 1) ga_nil)) ga_nil)) (by rfl))
    (gss_cons (gs_while 63 poX (gt_cmp (op_neD hr.units) s_ne (gv 1) ge_int (nomark _)) (gss_one (gs_par (i := 0) (j := 1) (by rfl) sc_common.nd rfl rfl (by decide) rfl rfl (ga_cons (gv 1) (ga_cons (ge_op op_mod s_mod (gv 0) (gv 1)) ga_nil)) (by rfl))))
    (gss_one (gs_ret (gv 0)))))
theorem ok_lowest (T : Txt K mg ca) (F_common : FnD P w K mg base ca 1 "common" 2 m_common) : FnD P w K mg base ca 2 "lowest" 2 m_lowest :=
  fnAt (k := 1) (N := N_lowest) T.d_lowest sc_lowest fun f cdv A outer s H E hr =>
    (gss_cons (gs_set (i := 2) sc_lowest.nd rfl (Or.inl rfl) (ge_callD F_common hr (by decide) (by rfl) psX (ga_cons (gv 0) (ga_cons (gv 1) ga_nil))))
    (gss_one (gs_ret (ge_tup (ga_cons (ge_op op_fdiv s_fdiv (gv 0) (gv 2)) (ga_cons (ge_op op_fdiv s_fdiv (gv 1) (gv 2)) ga_nil))))))
theorem ok_plus (T : Txt K mg ca) (F_lowest : FnD P w K mg base ca 2 "lowest" 2 m_lowest) : FnD P w K mg base ca 3 "plus" 2 m_plus :=
  fnAt (k := 2) (N := N_plus) T.d_plus sc_plus fun f cdv A outer s H E hr =>
    (gss_one (gs_ret (ge_callD F_lowest hr (by decide) (by rfl) psX (ga_cons (ge_op op_addA s_add (ge_op op_mulA s_mul (ge_ix (gv 0) ge_int (fun _ _ => rfl)) (ge_ix (gv 1) ge_int (fun _ _ => rfl))) (ge_op op_mulA s_mul (ge_ix (gv 1) ge_int (fun _ _ => rfl)) (ge_ix (gv 0) ge_int (fun _ _ => rfl)))) (ga_cons (ge_op op_mulA s_mul (ge_ix (gv 0) ge_int (fun _ _ => rfl)) (ge_ix (gv 1) ge_int (fun _ _ => rfl))) ga_nil)))))
theorem ok_less (T : Txt K mg ca) : FnD P w K mg base ca 1 "less" 2 m_less :=
  fnAt (k := 0) (N := N_less) T.d_less sc_less fun f cdv A outer s H E hr =>
    (gss_one (gs_ret (ge_cmp op_lt s_lt (ge_op op_mulA s_mul (ge_ix (gv 0) ge_int (fun _ _ => rfl)) (ge_ix (gv 1) ge_int (fun _ _ => rfl))) (ge_op op_mulA s_mul (ge_ix (gv 1) ge_int (fun _ _ => rfl)) (ge_ix (gv 0) ge_int (fun _ _ => rfl))) (nomark _))))
theorem ok_total (T : Txt K mg ca) (F_plus : FnD P w K mg base ca 3 "plus" 2 m_plus) : FnD P w K mg base ca 4 "total" 1 m_total :=
  fnAt (k := 3) (N := N_total) T.d_total sc_total fun f cdv A outer s H E hr =>
    (gss_cons (gs_set (i := 1) sc_total.nd rfl (Or.inl rfl) (ge_tup (ga_cons ge_int (ga_cons ge_int ga_nil))))
    (gss_cons (gs_for poX rfl (gi_seq (gv 0)) (gg_name (i := 2) sc_total.nd rfl (Or.inl rfl)) (gss_one (gs_set (i := 1) sc_total.nd rfl (Or.inl rfl) (ge_callD F_plus hr (by decide) (by rfl) psX (ga_cons (gv 1) (ga_cons (gv 2) ga_nil))))))
    (gss_one (gs_ret (gv 1)))))
theorem ok_is_size (T : Txt K mg ca) (F_is_int : FnD P w K mg base ca 1 "is_int" 3 m_is_int) (F_common : FnD P w K mg base ca 1 "common" 2 m_common) : FnD P w K mg base ca 2 "is_size" 1 m_is_size :=
  fnAt (k := 1) (N := N_is_size) T.d_is_size sc_is_size fun f cdv A outer s H E hr =>
    (gss_cons (gs_if (PW.pt (gw_or (gt_not (gt_val (ge_isi (by rfl) T.blt.isinstance bb_isinstance (by rfl) T.blt.tuple bb_tuple (gv 0)))) (gw_or1 (gt_cmp (op_neD hr.units) s_ne (ge_callB call_len c_len (by rfl) T.blt.len bb_len (ga_cons (gv 0) ga_nil)) ge_int (nomark _))))) (gss_one (gs_ret ge_bl)) gss_nil)
    (gss_cons (gs_if (PW.pt (gw_or (gt_not (gt_val (ge_callD F_is_int hr (by decide) (by rfl) psX (ga_cons (ge_ix (gv 0) ge_int (fun _ _ => rfl)) (ga_cons ge_int (ga_cons (ge_gintE (by rfl) T.c_MOST) ga_nil)))))) (gw_or1 (gt_not (gt_val (ge_callD F_is_int hr (by decide) (by rfl) psX (ga_cons (ge_ix (gv 0) ge_int (fun _ _ => rfl)) (ga_cons ge_int (ga_cons (ge_gintE (by rfl) T.c_MOST) ga_nil))))))))) (gss_one (gs_ret ge_bl)) gss_nil)
    (gss_one (gs_ret (ge_cmp (op_eqD hr.units) s_eq (ge_callD F_common hr (by decide) (by rfl) psX (ga_cons (ge_ix (gv 0) ge_int (fun _ _ => rfl)) (ga_cons (ge_ix (gv 0) ge_int (fun _ _ => rfl)) ga_nil))) ge_int (nomark _))))))
theorem ok_check_size (T : Txt K mg ca) (F_is_size : FnD P w K mg base ca 2 "is_size" 1 m_is_size) : FnD P w K mg base ca 3 "check_size" 1 m_check_size :=
  fnAt (k := 2) (N := N_check_size) T.d_check_size sc_check_size fun f cdv A outer s H E hr =>
    (gss_one (gs_if (gt_not (gt_val (ge_callD F_is_size hr (by decide) (by rfl) psX (ga_cons (gv 0) ga_nil)))) (gss_one (gs_raiseE (c := 3) rfl tkX T.e_BadNumber (by rfl))) gss_nil))
theorem ok_value_of (T : Txt K mg ca) (F_lowest : FnD P w K mg base ca 2 "lowest" 2 m_lowest) (F_sign_at : FnD P w K mg base ca 3 "sign_at" 3 m_sign_at) (F_block_size : FnD P w K mg base ca 1 "block_size" 2 m_block_size) (F_plus : FnD P w K mg base ca 3 "plus" 2 m_plus) : FnD P w K mg base ca 4 "value_of" 2 m_value_of :=
  fnAt (k := 3) (N := N_value_of) T.d_value_of sc_value_of fun f cdv A outer s H E hr =>
    (gss_cons (gs_set (i := 2) sc_value_of.nd rfl (Or.inl rfl) (ge_callB call_len c_len (by rfl) T.blt.len bb_len (ga_cons (gv 0) ga_nil)))
    (gss_cons (gs_set (i := 3) sc_value_of.nd rfl (Or.inl rfl) (ge_callD F_lowest hr (by decide) (by rfl) psX (ga_cons (ge_ix (gv 0) ge_int (fun _ _ => rfl)) (ga_cons (gv 2) ga_nil))))
    (gss_cons (gs_set (i := 4) sc_value_of.nd rfl (Or.inl rfl) (ge_op op_fdiv s_fdiv (ge_op op_addA s_add (gv 2) (gv 1)) ge_int))
    (gss_cons (gs_while 40 poX (gt_cmp op_gt s_gt (gv 4) ge_int (nomark _)) (gss_cons (gs_set (i := 3) sc_value_of.nd rfl (Or.inl rfl) (ge_callD F_plus hr (by decide) (by rfl) psX (ga_cons (gv 3) (ga_cons (ge_callD F_lowest hr (by decide) (by rfl) psX (ga_cons (ge_op op_mulA s_mul (ge_callD F_sign_at hr (by decide) (by rfl) psX (ga_cons (gv 2) (ga_cons (gv 4) (ga_cons (gv 1) ga_nil)))) (ge_ix (gv 0) (gv 4) (fun _ _ => rfl))) (ga_cons (ge_callD F_block_size hr (by decide) (by rfl) psX (ga_cons (gv 2) (ga_cons (gv 4) ga_nil))) ga_nil))) ga_nil))))
    (gss_one (gs_aug (i := 4) iop_fdiv s_fdiv sc_value_of.nd rfl (Or.inl rfl) ge_int))))
    (gss_one (gs_ret (gv 3)))))))
theorem ok_value_at (T : Txt K mg ca) (F_check_form : FnD P w K mg base ca 3 "check_form" 1 m_check_form) (F_check_place : FnD P w K mg base ca 2 "check_place" 2 m_check_place) (F_value_of : FnD P w K mg base ca 4 "value_of" 2 m_value_of) : FnD P w K mg base ca 5 "value_at" 2 m_value_at :=
  fnAt (k := 4) (N := N_value_at) T.d_value_at sc_value_at fun f cdv A outer s H E hr =>
    (gss_cons (gs_expr (ge_callD F_check_form hr (by decide) (by rfl) psX (ga_cons (gv 0) ga_nil)))
    (gss_cons (gs_expr (ge_callD F_check_place hr (by decide) (by rfl) psX (ga_cons (gv 0) (ga_cons (gv 1) ga_nil))))
    (gss_one (gs_ret (ge_callD F_value_of hr (by decide) (by rfl) psX (ga_cons (gv 0) (ga_cons (gv 1) ga_nil)))))))
theorem ok_all_values (T : Txt K mg ca) (F_check_form : FnD P w K mg base ca 3 "check_form" 1 m_check_form) (F_value_of : FnD P w K mg base ca 4 "value_of" 2 m_value_of) : FnD P w K mg base ca 5 "all_values" 1 m_all_values :=
  fnAt (k := 4) (N := N_all_values) T.d_all_values sc_all_values fun f cdv A outer s H E hr =>
    (gss_cons (gs_expr (ge_callD F_check_form hr (by decide) (by rfl) psX (ga_cons (gv 0) ga_nil)))
    (gss_one (gs_ret (ge_lc rfl sc_all_values.nd (tgOk_name 1) (gi_range1 (by rfl) T.blt.range (ga_cons (ge_callB call_len c_len (by rfl) T.blt.len bb_len (ga_cons (gv 0) ga_nil)) ga_nil)) (blkOk_by (N := N_all_values) (sc := defScope s_all_values) (own := [("place", 1)]) (by decide +kernel)) (fun _ _ _ _ _ => (pg_name (i := 1) sc_all_values.nd rfl (Or.inl rfl))) (fun _ _ _ _ _ => gts_nil) (fun _ _ _ _ _ => (ge_callD F_value_of hr (by decide) (by rfl) passL (ga_cons (gv 0) (ga_cons (gv 1) ga_nil))))))))
theorem ok_sum_from_to (T : Txt K mg ca) (F_check_form : FnD P w K mg base ca 3 "check_form" 1 m_check_form) (F_is_int : FnD P w K mg base ca 1 "is_int" 3 m_is_int) (F_lowest : FnD P w K mg base ca 2 "lowest" 2 m_lowest) (F_sign_at : FnD P w K mg base ca 3 "sign_at" 3 m_sign_at) (F_block_size : FnD P w K mg base ca 1 "block_size" 2 m_block_size) (F_plus : FnD P w K mg base ca 3 "plus" 2 m_plus) : FnD P w K mg base ca 4 "sum_from_to" 3 m_sum_from_to :=
  fnAt (k := 3) (N := N_sum_from_to) T.d_sum_from_to sc_sum_from_to fun f cdv A outer s H E hr =>
    (gss_cons (gs_expr (ge_callD F_check_form hr (by decide) (by rfl) psX (ga_cons (gv 0) ga_nil)))
    (gss_cons (gs_if (PW.pt (gw_or (gt_not (gt_val (ge_callD F_is_int hr (by decide) (by rfl) psX (ga_cons (gv 1) (ga_cons ge_int (ga_cons (ge_callB call_len c_len (by rfl) T.blt.len bb_len (ga_cons (gv 0) ga_nil)) ga_nil)))))) (gw_or1 (gt_not (gt_val (ge_callD F_is_int hr (by decide) (by rfl) psX (ga_cons (gv 2) (ga_cons (gv 1) (ga_cons (ge_callB call_len c_len (by rfl) T.blt.len bb_len (ga_cons (gv 0) ga_nil)) ga_nil))))))))) (gss_one (gs_raiseE (c := 3) rfl tkX T.e_BadNumber (by rfl))) gss_nil)
    (gss_cons (gs_set (i := 3) sc_sum_from_to.nd rfl (Or.inl rfl) (ge_callD F_lowest hr (by decide) (by rfl) psX (ga_cons (ge_op op_mulA s_mul (ge_ix (gv 0) ge_int (fun _ _ => rfl)) (ge_op op_sub s_sub (gv 2) (gv 1))) (ga_cons (ge_callB call_len c_len (by rfl) T.blt.len bb_len (ga_cons (gv 0) ga_nil)) ga_nil))))
    (gss_cons (gs_for poX rfl (gi_range2 (by rfl) T.blt.range (ga_cons ge_int (ga_cons (ge_callB call_len c_len (by rfl) T.blt.len bb_len (ga_cons (gv 0) ga_nil)) ga_nil))) (gg_name (i := 4) sc_sum_from_to.nd rfl (Or.inr rfl)) (gss_cons (gs_set (i := 5) sc_sum_from_to.nd rfl (Or.inl rfl) (ge_callB (cr_sum rfl) c_sum (by rfl) T.blt.sum bb_sum (ga_cons (ge_lc rfl sc_sum_from_to.nd (tgOk_name 6) (gi_range2 (by rfl) T.blt.range (ga_cons (gv 1) (ga_cons (gv 2) ga_nil))) (blkOk_by (N := N_sum_from_to) (sc := defScope s_sum_from_to) (own := [("place", 6)]) (by decide +kernel)) (fun _ _ _ _ _ => (pg_name (i := 6) sc_sum_from_to.nd rfl (Or.inl rfl))) (fun _ _ _ _ _ => gts_nil) (fun _ _ _ _ _ => (ge_callD F_sign_at hr (by decide) (by rfl) passL (ga_cons (ge_callB call_len c_len (by rfl) T.blt.len bb_len (ga_cons (gv 0) ga_nil)) (ga_cons (gv 4) (ga_cons (gv 6) ga_nil)))))) ga_nil)))
    (gss_one (gs_set (i := 3) sc_sum_from_to.nd rfl (Or.inl rfl) (ge_callD F_plus hr (by decide) (by rfl) psX (ga_cons (gv 3) (ga_cons (ge_callD F_lowest hr (by decide) (by rfl) psX (ga_cons (ge_op op_mulA s_mul (gv 5) (ge_ix (gv 0) (gv 4) (fun _ _ => rfl))) (ga_cons (ge_callD F_block_size hr (by decide) (by rfl) psX (ga_cons (ge_callB call_len c_len (by rfl) T.blt.len bb_len (ga_cons (gv 0) ga_nil)) (ga_cons (gv 4) ga_nil))) ga_nil))) ga_nil)))))))
    (gss_one (gs_ret (gv 3)))))))
theorem ok_details_for (T : Txt K mg ca) (F_check_form : FnD P w K mg base ca 3 "check_form" 1 m_check_form) (F_is_int : FnD P w K mg base ca 1 "is_int" 3 m_is_int) (F_sign_at : FnD P w K mg base ca 3 "sign_at" 3 m_sign_at) : FnD P w K mg base ca 4 "details_for" 3 m_details_for :=
  fnAt (k := 3) (N := N_details_for) T.d_details_for sc_details_for fun f cdv A outer s H E hr =>
    (gss_cons (gs_expr (ge_callD F_check_form hr (by decide) (by rfl) psX (ga_cons (gv 0) ga_nil)))
    (gss_cons (gs_if (PW.pt (gw_or (gt_not (gt_val (ge_callD F_is_int hr (by decide) (by rfl) psX (ga_cons (gv 1) (ga_cons ge_int (ga_cons (ge_callB call_len c_len (by rfl) T.blt.len bb_len (ga_cons (gv 0) ga_nil)) ga_nil)))))) (gw_or1 (gt_not (gt_val (ge_callD F_is_int hr (by decide) (by rfl) psX (ga_cons (gv 2) (ga_cons (gv 1) (ga_cons (ge_callB call_len c_len (by rfl) T.blt.len bb_len (ga_cons (gv 0) ga_nil)) ga_nil))))))))) (gss_one (gs_raiseE (c := 3) rfl tkX T.e_BadNumber (by rfl))) gss_nil)
    (gss_cons (gs_own (i := 3) sc_details_for.nd rfl (Or.inl rfl) (gf_lst ga_nil))
    (gss_cons (gs_for poX rfl (gi_range2 (by rfl) T.blt.range (ga_cons ge_int (ga_cons (ge_callB call_len c_len (by rfl) T.blt.len bb_len (ga_cons (gv 0) ga_nil)) ga_nil))) (gg_name (i := 4) sc_details_for.nd rfl (Or.inr rfl)) (gss_one (gs_if (gt_cmp (op_neD hr.units) s_ne (ge_callB (cr_sum rfl) c_sum (by rfl) T.blt.sum bb_sum (ga_cons (ge_lc rfl sc_details_for.nd (tgOk_name 5) (gi_range2 (by rfl) T.blt.range (ga_cons (gv 1) (ga_cons (gv 2) ga_nil))) (blkOk_by (N := N_details_for) (sc := defScope s_details_for) (own := [("place", 5)]) (by decide +kernel)) (fun _ _ _ _ _ => (pg_name (i := 5) sc_details_for.nd rfl (Or.inl rfl))) (fun _ _ _ _ _ => gts_nil) (fun _ _ _ _ _ => (ge_callD F_sign_at hr (by decide) (by rfl) passL (ga_cons (ge_callB call_len c_len (by rfl) T.blt.len bb_len (ga_cons (gv 0) ga_nil)) (ga_cons (gv 4) (ga_cons (gv 5) ga_nil)))))) ga_nil)) ge_int (nomark _)) (gss_one (gs_app (pv 3) (gv 4))) gss_nil)))
    (gss_one (gs_frz 3 (gs_ret (gv 3))))))))
theorem ok_means (T : Txt K mg ca) (F_check_form : FnD P w K mg base ca 3 "check_form" 1 m_check_form) (F_is_int : FnD P w K mg base ca 1 "is_int" 3 m_is_int) (F_place_of : FnD P w K mg base ca 2 "place_of" 2 m_place_of) (F_sum_from_to : FnD P w K mg base ca 4 "sum_from_to" 3 m_sum_from_to) (F_lowest : FnD P w K mg base ca 2 "lowest" 2 m_lowest) : FnD P w K mg base ca 5 "means" 2 m_means :=
  fnAt (k := 4) (N := N_means) T.d_means sc_means fun f cdv A outer s H E hr =>
    (gss_cons (gs_expr (ge_callD F_check_form hr (by decide) (by rfl) psX (ga_cons (gv 0) ga_nil)))
    (gss_cons (gs_set (i := 2) sc_means.nd rfl (Or.inl rfl) ge_int)
    (gss_cons (gs_for poX rfl (gi_range1 (by rfl) T.blt.range (ga_cons (ge_if (gt_val (ge_callD F_is_int hr (by decide) (by rfl) psX (ga_cons (gv 1) (ga_cons ge_int (ga_cons ge_int ga_nil))))) (gv 1) ge_int) ga_nil)) (gg_name (i := 3) sc_means.nd rfl (Or.inl rfl)) (gss_one (gs_aug (i := 2) iop_mul s_imul sc_means.nd rfl (Or.inl rfl) ge_int)))
    (gss_cons (gs_if (gt_cmp op_gt s_gt (gv 2) (ge_callB call_len c_len (by rfl) T.blt.len bb_len (ga_cons (gv 0) ga_nil)) (nomark _)) (gss_one (gs_raiseE (c := 3) rfl tkX T.e_BadNumber (by rfl))) gss_nil)
    (gss_cons (gs_set (i := 4) sc_means.nd rfl (Or.inl rfl) (ge_op op_fdiv s_fdiv (ge_callB call_len c_len (by rfl) T.blt.len bb_len (ga_cons (gv 0) ga_nil)) (gv 2)))
    (gss_cons (gs_own (i := 5) sc_means.nd rfl (Or.inl rfl) (gf_lst ga_nil))
    (gss_cons (gs_for poX rfl (gi_range2 (by rfl) T.blt.range (ga_cons (gv 2) (ga_cons (ge_op op_mulA s_mul ge_int (gv 2)) ga_nil))) (gg_name (i := 6) sc_means.nd rfl (Or.inl rfl)) (gss_cons (gs_set (i := 7) sc_means.nd rfl (Or.inl rfl) (ge_callD F_place_of hr (by decide) (by rfl) psX (ga_cons (ge_callB call_len c_len (by rfl) T.blt.len bb_len (ga_cons (gv 0) ga_nil)) (ga_cons (gv 6) ga_nil))))
    (gss_cons (gs_set (i := 8) sc_means.nd rfl (Or.inl rfl) (ge_callD F_sum_from_to hr (by decide) (by rfl) psX (ga_cons (gv 0) (ga_cons (gv 7) (ga_cons (ge_op op_addA s_add (gv 7) (gv 4)) ga_nil)))))
    (gss_one (gs_app (pv 5) (ge_callD F_lowest hr (by decide) (by rfl) psX (ga_cons (ge_ix (gv 8) ge_int (fun _ _ => rfl)) (ga_cons (ge_op op_mulA s_mul (ge_ix (gv 8) ge_int (fun _ _ => rfl)) (gv 4)) ga_nil))))))))
    (gss_one (gs_frz 5 (gs_ret (gv 5)))))))))))
theorem ok_share_of (T : Txt K mg ca) (F_lowest : FnD P w K mg base ca 2 "lowest" 2 m_lowest) (F_block_size : FnD P w K mg base ca 1 "block_size" 2 m_block_size) : FnD P w K mg base ca 3 "share_of" 2 m_share_of :=
  fnAt (k := 2) (N := N_share_of) T.d_share_of sc_share_of fun f cdv A outer s H E hr =>
    (gss_cons (gs_if (gt_cmp (op_eqD hr.units) s_eq (gv 1) ge_int (nomark _)) (gss_one (gs_ret (ge_callD F_lowest hr (by decide) (by rfl) psX (ga_cons (ge_op op_mulA s_mul (ge_ix (gv 0) ge_int (fun _ _ => rfl)) (ge_ix (gv 0) ge_int (fun _ _ => rfl))) (ga_cons (ge_callB call_len c_len (by rfl) T.blt.len bb_len (ga_cons (gv 0) ga_nil)) ga_nil))))) gss_nil)
    (gss_one (gs_ret (ge_callD F_lowest hr (by decide) (by rfl) psX (ga_cons (ge_op op_mulA s_mul (ge_ix (gv 0) (gv 1) (fun _ _ => rfl)) (ge_ix (gv 0) (gv 1) (fun _ _ => rfl))) (ga_cons (ge_callD F_block_size hr (by decide) (by rfl) psX (ga_cons (ge_callB call_len c_len (by rfl) T.blt.len bb_len (ga_cons (gv 0) ga_nil)) (ga_cons (gv 1) ga_nil))) ga_nil))))))
theorem ok_share (T : Txt K mg ca) (F_check_form : FnD P w K mg base ca 3 "check_form" 1 m_check_form) (F_is_int : FnD P w K mg base ca 1 "is_int" 3 m_is_int) (F_share_of : FnD P w K mg base ca 3 "share_of" 2 m_share_of) : FnD P w K mg base ca 4 "share" 2 m_share :=
  fnAt (k := 3) (N := N_share) T.d_share sc_share fun f cdv A outer s H E hr =>
    (gss_cons (gs_expr (ge_callD F_check_form hr (by decide) (by rfl) psX (ga_cons (gv 0) ga_nil)))
    (gss_cons (gs_if (gt_not (gt_val (ge_callD F_is_int hr (by decide) (by rfl) psX (ga_cons (gv 1) (ga_cons ge_int (ga_cons (ge_op op_sub s_sub (ge_callB call_len c_len (by rfl) T.blt.len bb_len (ga_cons (gv 0) ga_nil)) ge_int) ga_nil)))))) (gss_one (gs_raiseE (c := 3) rfl tkX T.e_BadNumber (by rfl))) gss_nil)
    (gss_one (gs_ret (ge_callD F_share_of hr (by decide) (by rfl) psX (ga_cons (gv 0) (ga_cons (gv 1) ga_nil)))))))
theorem ok_shares (T : Txt K mg ca) (F_check_form : FnD P w K mg base ca 3 "check_form" 1 m_check_form) (F_share_of : FnD P w K mg base ca 3 "share_of" 2 m_share_of) : FnD P w K mg base ca 4 "shares" 1 m_shares :=
  fnAt (k := 3) (N := N_shares) T.d_shares sc_shares fun f cdv A outer s H E hr =>
    (gss_cons (gs_expr (ge_callD F_check_form hr (by decide) (by rfl) psX (ga_cons (gv 0) ga_nil)))
    (gss_one (gs_ret (ge_lc rfl sc_shares.nd (tgOk_name 1) (gi_range1 (by rfl) T.blt.range (ga_cons (ge_callB call_len c_len (by rfl) T.blt.len bb_len (ga_cons (gv 0) ga_nil)) ga_nil)) (blkOk_by (N := N_shares) (sc := defScope s_shares) (own := [("number", 1)]) (by decide +kernel)) (fun _ _ _ _ _ => (pg_name (i := 1) sc_shares.nd rfl (Or.inl rfl))) (fun _ _ _ _ _ => gts_nil) (fun _ _ _ _ _ => (ge_callD F_share_of hr (by decide) (by rfl) passL (ga_cons (gv 0) (ga_cons (gv 1) ga_nil))))))))
theorem ok_left_out (T : Txt K mg ca) (F_check_form : FnD P w K mg base ca 3 "check_form" 1 m_check_form) (F_check_kept : FnD P w K mg base ca 3 "check_kept" 2 m_check_kept) (F_share_of : FnD P w K mg base ca 3 "share_of" 2 m_share_of) (F_total : FnD P w K mg base ca 4 "total" 1 m_total) : FnD P w K mg base ca 5 "left_out" 2 m_left_out :=
  fnAt (k := 4) (N := N_left_out) T.d_left_out sc_left_out fun f cdv A outer s H E hr =>
    (gss_cons (gs_expr (ge_callD F_check_form hr (by decide) (by rfl) psX (ga_cons (gv 0) ga_nil)))
    (gss_cons (gs_expr (ge_callD F_check_kept hr (by decide) (by rfl) psX (ga_cons (gv 0) (ga_cons (gv 1) ga_nil))))
    (gss_one (gs_ret (ge_callD F_total hr (by decide) (by rfl) psX (ga_cons (ge_lc rfl sc_left_out.nd (tgOk_name 2) (gi_range2 (by rfl) T.blt.range (ga_cons ge_int (ga_cons (ge_callB call_len c_len (by rfl) T.blt.len bb_len (ga_cons (gv 0) ga_nil)) ga_nil))) (blkOk_by (N := N_left_out) (sc := defScope s_left_out) (own := [("number", 2)]) (by decide +kernel)) (fun _ _ _ _ _ => (pg_name (i := 2) sc_left_out.nd rfl (Or.inl rfl))) (fun _ _ _ _ _ => (gts_one (gt_cmp (op_notInA (hu65 hr)) s_notIn (gv 2) (gv 1) (by rfl)))) (fun _ _ _ _ _ => (ge_callD F_share_of hr (by decide) (by rfl) passL (ga_cons (gv 0) (ga_cons (gv 2) ga_nil))))) ga_nil))))))
theorem ok_in_order (T : Txt K mg ca) (F_share_of : FnD P w K mg base ca 3 "share_of" 2 m_share_of) (F_less : FnD P w K mg base ca 1 "less" 2 m_less) : FnD P w K mg base ca 4 "in_order" 1 m_in_order :=
  fnAt (k := 3) (N := N_in_order) T.d_in_order sc_in_order fun f cdv A outer s H E hr =>
    (gss_cons (gs_set (i := 1) sc_in_order.nd rfl (Or.inl rfl) (ge_lst ga_nil))
    (gss_cons (gs_for poX rfl (gi_range2 (by rfl) T.blt.range (ga_cons ge_int (ga_cons (ge_callB call_len c_len (by rfl) T.blt.len bb_len (ga_cons (gv 0) ga_nil)) ga_nil))) (gg_name (i := 2) sc_in_order.nd rfl (Or.inl rfl)) (gss_cons (gs_set (i := 3) sc_in_order.nd rfl (Or.inr rfl) (ge_callD F_share_of hr (by decide) (by rfl) psX (ga_cons (gv 0) (ga_cons (gv 2) ga_nil))))
    (gss_cons (gs_set (i := 4) sc_in_order.nd rfl (Or.inl rfl) (ge_callB call_len c_len (by rfl) T.blt.len bb_len (ga_cons (ge_lc rfl sc_in_order.nd (tgOk_name 5) (gi_seq (gv 1)) (blkOk_by (N := N_in_order) (sc := defScope s_in_order) (own := [("other", 5)]) (by decide +kernel)) (fun _ _ _ _ _ => (pg_name (i := 5) sc_in_order.nd rfl (Or.inl rfl))) (fun _ _ _ _ _ => (gts_one (gt_not (gt_val (ge_callD F_less hr (by decide) (by rfl) passL (ga_cons (ge_callD F_share_of hr (by decide) (by rfl) passL (ga_cons (gv 0) (ga_cons (gv 5) ga_nil))) (ga_cons (gv 3) ga_nil))))))) (fun _ _ _ _ _ => (gv 5))) ga_nil)))
    (gss_one (gs_set (i := 1) sc_in_order.nd rfl (Or.inl rfl) (ge_op op_addA s_add (ge_op op_addA s_add (ge_slice (gv 1) go_none (go_some (gv 4))) (ge_lst (ga_cons (gv 2) ga_nil))) (ge_slice (gv 1) (go_some (gv 4)) go_none)))))))
    (gss_one (gs_ret (gv 1)))))
theorem ok_by_share (T : Txt K mg ca) (F_check_form : FnD P w K mg base ca 3 "check_form" 1 m_check_form) (F_in_order : FnD P w K mg base ca 4 "in_order" 1 m_in_order) : FnD P w K mg base ca 5 "by_share" 1 m_by_share :=
  fnAt (k := 4) (N := N_by_share) T.d_by_share sc_by_share fun f cdv A outer s H E hr =>
    (gss_cons (gs_expr (ge_callD F_check_form hr (by decide) (by rfl) psX (ga_cons (gv 0) ga_nil)))
    (gss_one (gs_ret (ge_callD F_in_order hr (by decide) (by rfl) psX (ga_cons (gv 0) ga_nil)))))
theorem ok_check_many (T : Txt K mg ca) (F_is_int : FnD P w K mg base ca 1 "is_int" 3 m_is_int) : FnD P w K mg base ca 2 "check_many" 2 m_check_many :=
  fnAt (k := 1) (N := N_check_many) T.d_check_many sc_check_many fun f cdv A outer s H E hr =>
    (gss_one (gs_if (gt_not (gt_val (ge_callD F_is_int hr (by decide) (by rfl) psX (ga_cons (gv 1) (ga_cons ge_int (ga_cons (ge_op op_sub s_sub (ge_callB call_len c_len (by rfl) T.blt.len bb_len (ga_cons (gv 0) ga_nil)) ge_int) ga_nil)))))) (gss_one (gs_raiseE (c := 3) rfl tkX T.e_BadNumber (by rfl))) gss_nil))
theorem ok_with_kept (T : Txt K mg ca) : FnD P w K mg base ca 1 "with_kept" 2 m_with_kept :=
  fnAt (k := 0) (N := N_with_kept) T.d_with_kept sc_with_kept fun f cdv A outer s H E hr =>
    (gss_one (gs_ret (ge_lc rfl sc_with_kept.nd (tgOk_name 2) (gi_range1 (by rfl) T.blt.range (ga_cons (ge_callB call_len c_len (by rfl) T.blt.len bb_len (ga_cons (gv 0) ga_nil)) ga_nil)) (blkOk_by (N := N_with_kept) (sc := defScope s_with_kept) (own := [("number", 2)]) (by decide +kernel)) (fun _ _ _ _ _ => (pg_name (i := 2) sc_with_kept.nd rfl (Or.inl rfl))) (fun _ _ _ _ _ => gts_nil) (fun _ _ _ _ _ => (ge_if (PW.pt (gw_or (gt_cmp (op_eqD hr.units) s_eq (gv 2) ge_int (nomark _)) (gw_or1 (gt_cmp (op_inA (hu65 hr)) s_in (gv 2) (gv 1) (by rfl))))) (ge_ix (gv 0) (gv 2) (fun _ _ => rfl)) ge_int)))))
theorem ok_only (T : Txt K mg ca) (F_check_form : FnD P w K mg base ca 3 "check_form" 1 m_check_form) (F_check_kept : FnD P w K mg base ca 3 "check_kept" 2 m_check_kept) (F_with_kept : FnD P w K mg base ca 1 "with_kept" 2 m_with_kept) : FnD P w K mg base ca 4 "only" 2 m_only :=
  fnAt (k := 3) (N := N_only) T.d_only sc_only fun f cdv A outer s H E hr =>
    (gss_cons (gs_expr (ge_callD F_check_form hr (by decide) (by rfl) psX (ga_cons (gv 0) ga_nil)))
    (gss_cons (gs_expr (ge_callD F_check_kept hr (by decide) (by rfl) psX (ga_cons (gv 0) (ga_cons (gv 1) ga_nil))))
    (gss_one (gs_ret (ge_callD F_with_kept hr (by decide) (by rfl) psX (ga_cons (gv 0) (ga_cons (gv 1) ga_nil)))))))
theorem ok_best_kept (T : Txt K mg ca) (F_check_form : FnD P w K mg base ca 3 "check_form" 1 m_check_form) (F_check_many : FnD P w K mg base ca 2 "check_many" 2 m_check_many) (F_in_order : FnD P w K mg base ca 4 "in_order" 1 m_in_order) : FnD P w K mg base ca 5 "best_kept" 2 m_best_kept :=
  fnAt (k := 4) (N := N_best_kept) T.d_best_kept sc_best_kept fun f cdv A outer s H E hr =>
    (gss_cons (gs_expr (ge_callD F_check_form hr (by decide) (by rfl) psX (ga_cons (gv 0) ga_nil)))
    (gss_cons (gs_expr (ge_callD F_check_many hr (by decide) (by rfl) psX (ga_cons (gv 0) (ga_cons (gv 1) ga_nil))))
    (gss_one (gs_ret (ge_callTy call_tuple_of c_tuple (by rfl) T.blt.tuple bb_tuple (ga_cons (ge_callB cr_sorted c_sorted (by rfl) T.blt.sorted bb_sorted (ga_cons (ge_slice (ge_callD F_in_order hr (by decide) (by rfl) psX (ga_cons (gv 0) ga_nil)) go_none (go_some (gv 1))) ga_nil)) ga_nil))))))
theorem ok_least_error (T : Txt K mg ca) (F_check_form : FnD P w K mg base ca 3 "check_form" 1 m_check_form) (F_check_many : FnD P w K mg base ca 2 "check_many" 2 m_check_many) (F_in_order : FnD P w K mg base ca 4 "in_order" 1 m_in_order) (F_share_of : FnD P w K mg base ca 3 "share_of" 2 m_share_of) (F_total : FnD P w K mg base ca 4 "total" 1 m_total) : FnD P w K mg base ca 5 "least_error" 2 m_least_error :=
  fnAt (k := 4) (N := N_least_error) T.d_least_error sc_least_error fun f cdv A outer s H E hr =>
    (gss_cons (gs_expr (ge_callD F_check_form hr (by decide) (by rfl) psX (ga_cons (gv 0) ga_nil)))
    (gss_cons (gs_expr (ge_callD F_check_many hr (by decide) (by rfl) psX (ga_cons (gv 0) (ga_cons (gv 1) ga_nil))))
    (gss_one (gs_ret (ge_callD F_total hr (by decide) (by rfl) psX (ga_cons (ge_lc rfl sc_least_error.nd (tgOk_name 2) (gi_seq (ge_slice (ge_callD F_in_order hr (by decide) (by rfl) psX (ga_cons (gv 0) ga_nil)) (go_some (gv 1)) go_none)) (blkOk_by (N := N_least_error) (sc := defScope s_least_error) (own := [("number", 2)]) (by decide +kernel)) (fun _ _ _ _ _ => (pg_name (i := 2) sc_least_error.nd rfl (Or.inl rfl))) (fun _ _ _ _ _ => gts_nil) (fun _ _ _ _ _ => (ge_callD F_share_of hr (by decide) (by rfl) passL (ga_cons (gv 0) (ga_cons (gv 2) ga_nil))))) ga_nil))))))
theorem ok_ties (T : Txt K mg ca) (F_in_order : FnD P w K mg base ca 4 "in_order" 1 m_in_order) (F_share_of : FnD P w K mg base ca 3 "share_of" 2 m_share_of) : FnD P w K mg base ca 5 "ties" 2 m_ties :=
  fnAt (k := 4) (N := N_ties) T.d_ties sc_ties fun f cdv A outer s H E hr =>
    (gss_cons (gs_set (i := 2) sc_ties.nd rfl (Or.inl rfl) (ge_callD F_in_order hr (by decide) (by rfl) psX (ga_cons (gv 0) ga_nil)))
    (gss_cons (gs_if (gt_cmp (op_eqD hr.units) s_eq (gv 1) ge_int (nomark _)) (gss_one (gs_ret (ge_tup (ga_cons ge_int (ga_cons ge_int ga_nil))))) gss_nil)
    (gss_cons (gs_set (i := 3) sc_ties.nd rfl (Or.inr rfl) (ge_callD F_share_of hr (by decide) (by rfl) psX (ga_cons (gv 0) (ga_cons (ge_ix (gv 2) (ge_op op_sub s_sub (gv 1) ge_int) (fun _ _ => rfl)) ga_nil))))
    (gss_cons (gs_setLc (i := 4) rfl sc_ties.nd rfl rfl (sw_true rfl rfl rfl (by decide +kernel)) (tgOk_name 5) (gi_seq (gv 2)) (blkOk_by (N := N_ties) (sc := defScope s_ties) (own := [("number", 5)]) (by decide +kernel)) (fun _ _ _ _ _ => (pg_name (i := 5) sc_ties.nd rfl (Or.inl rfl))) (fun _ _ _ _ _ => (gts_one (gt_cmp (op_eqD hr.units) s_eq (ge_callD F_share_of hr (by decide) (by rfl) passL (ga_cons (gv 0) (ga_cons (gv 5) ga_nil))) (gv 3) (nomark _)))) (fun _ _ _ _ _ => (gv 5)))
    (gss_one (gs_ret (ge_tup (ga_cons (ge_callB call_len c_len (by rfl) T.blt.len bb_len (ga_cons (ge_lc rfl sc_ties.nd (tgOk_name 5) (gi_seq (ge_slice (gv 2) go_none (go_some (gv 1)))) (blkOk_by (N := N_ties) (sc := defScope s_ties) (own := [("number", 5)]) (by decide +kernel)) (fun _ _ _ _ _ => (pg_name (i := 5) sc_ties.nd rfl (Or.inl rfl))) (fun _ _ _ _ _ => (gts_one (gt_cmp (op_eqD hr.units) s_eq (ge_callD F_share_of hr (by decide) (by rfl) passL (ga_cons (gv 0) (ga_cons (gv 5) ga_nil))) (gv 3) (nomark _)))) (fun _ _ _ _ _ => (gv 5))) ga_nil)) (ga_cons (ge_callB call_len c_len (by rfl) T.blt.len bb_len (ga_cons (gv 4) ga_nil)) ga_nil)))))))))
theorem ok_choose (T : Txt K mg ca) : FnD P w K mg base ca 1 "choose" 2 m_choose :=
  fnAt (k := 0) (N := N_choose) T.d_choose sc_choose fun f cdv A outer s H E hr =>
    (gss_cons (gs_set (i := 2) sc_choose.nd rfl (Or.inl rfl) ge_int)
    (gss_cons (gs_for poX rfl (gi_range1 (by rfl) T.blt.range (ga_cons (gv 0) ga_nil)) (gg_name (i := 3) sc_choose.nd rfl (Or.inl rfl)) (gss_one (gs_set (i := 2) sc_choose.nd rfl (Or.inl rfl) (ge_op op_fdiv s_fdiv (ge_op op_mulA s_mul (gv 2) (ge_op op_sub s_sub (gv 1) (gv 3))) (ge_op op_addA s_add (gv 3) ge_int)))))
    (gss_one (gs_ret (gv 2)))))
theorem ok_count_best (T : Txt K mg ca) (F_check_form : FnD P w K mg base ca 3 "check_form" 1 m_check_form) (F_check_many : FnD P w K mg base ca 2 "check_many" 2 m_check_many) (F_ties : FnD P w K mg base ca 5 "ties" 2 m_ties) (F_choose : FnD P w K mg base ca 1 "choose" 2 m_choose) : FnD P w K mg base ca 6 "count_best" 2 m_count_best :=
  fnAt (k := 5) (N := N_count_best) T.d_count_best sc_count_best fun f cdv A outer s H E hr =>
    (gss_cons (gs_expr (ge_callD F_check_form hr (by decide) (by rfl) psX (ga_cons (gv 0) ga_nil)))
    (gss_cons (gs_expr (ge_callD F_check_many hr (by decide) (by rfl) psX (ga_cons (gv 0) (ga_cons (gv 1) ga_nil))))
    (gss_cons (gs_asg (ge_callD F_ties hr (by decide) (by rfl) psX (ga_cons (gv 0) (ga_cons (gv 1) ga_nil))) (gg_tup (by rfl) (ggs_cons (gg_name (i := 2) sc_count_best.nd rfl (Or.inl rfl)) (ggs_cons (gg_name (i := 3) sc_count_best.nd rfl (Or.inl rfl)) ggs_nil)) (tgCons_len (tgCons_len tgNil_len))))
    (gss_one (gs_ret (ge_callD F_choose hr (by decide) (by rfl) psX (ga_cons (gv 2) (ga_cons (gv 3) ga_nil))))))))
theorem ok_fewest_within (T : Txt K mg ca) (F_check_form : FnD P w K mg base ca 3 "check_form" 1 m_check_form) (F_check_size : FnD P w K mg base ca 3 "check_size" 1 m_check_size) (F_in_order : FnD P w K mg base ca 4 "in_order" 1 m_in_order) (F_share_of : FnD P w K mg base ca 3 "share_of" 2 m_share_of) (F_total : FnD P w K mg base ca 4 "total" 1 m_total) (F_less : FnD P w K mg base ca 1 "less" 2 m_less) : FnD P w K mg base ca 5 "fewest_within" 2 m_fewest_within :=
  fnAt (k := 4) (N := N_fewest_within) T.d_fewest_within sc_fewest_within fun f cdv A outer s H E hr =>
    (gss_cons (gs_expr (ge_callD F_check_form hr (by decide) (by rfl) psX (ga_cons (gv 0) ga_nil)))
    (gss_cons (gs_expr (ge_callD F_check_size hr (by decide) (by rfl) psX (ga_cons (gv 1) ga_nil)))
    (gss_cons (gs_set (i := 2) sc_fewest_within.nd rfl (Or.inl rfl) ge_int)
    (gss_cons (gs_while 40 poX (gt_val (ge_callD F_less hr (by decide) (by rfl) psX (ga_cons (gv 1) (ga_cons (ge_callD F_total hr (by decide) (by rfl) psX (ga_cons (ge_lc rfl sc_fewest_within.nd (tgOk_name 3) (gi_seq (ge_slice (ge_callD F_in_order hr (by decide) (by rfl) psX (ga_cons (gv 0) ga_nil)) (go_some (gv 2)) go_none)) (blkOk_by (N := N_fewest_within) (sc := defScope s_fewest_within) (own := [("number", 3)]) (by decide +kernel)) (fun _ _ _ _ _ => (pg_name (i := 3) sc_fewest_within.nd rfl (Or.inl rfl))) (fun _ _ _ _ _ => gts_nil) (fun _ _ _ _ _ => (ge_callD F_share_of hr (by decide) (by rfl) passL (ga_cons (gv 0) (ga_cons (gv 3) ga_nil))))) ga_nil)) ga_nil)))) (gss_one (gs_aug (i := 2) iop_addI s_iadd sc_fewest_within.nd rfl (Or.inl rfl) ge_int)))
    (gss_one (gs_ret (gv 2)))))))
theorem ok_greatest_gap (T : Txt K mg ca) (F_check_form : FnD P w K mg base ca 3 "check_form" 1 m_check_form) (F_check_kept : FnD P w K mg base ca 3 "check_kept" 2 m_check_kept) (F_value_of : FnD P w K mg base ca 4 "value_of" 2 m_value_of) (F_less : FnD P w K mg base ca 1 "less" 2 m_less) : FnD P w K mg base ca 5 "greatest_gap" 2 m_greatest_gap :=
  fnAt (k := 4) (N := N_greatest_gap) T.d_greatest_gap sc_greatest_gap fun f cdv A outer s H E hr =>
    (gss_cons (gs_expr (ge_callD F_check_form hr (by decide) (by rfl) psX (ga_cons (gv 0) ga_nil)))
    (gss_cons (gs_expr (ge_callD F_check_kept hr (by decide) (by rfl) psX (ga_cons (gv 0) (ga_cons (gv 1) ga_nil))))
    (gss_cons (gs_setLc (i := 2) rfl sc_greatest_gap.nd rfl rfl (sw_true rfl rfl rfl (by decide +kernel)) (tgOk_name 5) (gi_range1 (by rfl) T.blt.range (ga_cons (ge_callB call_len c_len (by rfl) T.blt.len bb_len (ga_cons (gv 0) ga_nil)) ga_nil)) (blkOk_by (N := N_greatest_gap) (sc := defScope s_greatest_gap) (own := [("number", 5)]) (by decide +kernel)) (fun _ _ _ _ _ => (pg_name (i := 5) sc_greatest_gap.nd rfl (Or.inl rfl))) (fun _ _ _ _ _ => gts_nil) (fun _ _ _ _ _ => (ge_if (PW.pt (gw_and (gt_cmp op_gt s_gt (gv 5) ge_int (nomark _)) (gw_and1 (gt_cmp (op_notInA (hu65 hr)) s_notIn (gv 5) (gv 1) (by rfl))))) (ge_ix (gv 0) (gv 5) (fun _ _ => rfl)) ge_int)))
    (gss_cons (gs_set (i := 3) sc_greatest_gap.nd rfl (Or.inl rfl) (ge_tup (ga_cons ge_int (ga_cons ge_int ga_nil))))
    (gss_cons (gs_for poX rfl (gi_range1 (by rfl) T.blt.range (ga_cons (ge_callB call_len c_len (by rfl) T.blt.len bb_len (ga_cons (gv 0) ga_nil)) ga_nil)) (gg_name (i := 4) sc_greatest_gap.nd rfl (Or.inl rfl)) (gss_cons (gs_asg (ge_callD F_value_of hr (by decide) (by rfl) psX (ga_cons (gv 2) (ga_cons (gv 4) ga_nil))) (gg_tup (by rfl) (ggs_cons (gg_name (i := 6) sc_greatest_gap.nd rfl (Or.inl rfl)) (ggs_cons (gg_name (i := 7) sc_greatest_gap.nd rfl (Or.inl rfl)) ggs_nil)) (tgCons_len (tgCons_len tgNil_len))))
    (gss_one (gs_set (i := 3) sc_greatest_gap.nd rfl (Or.inl rfl) (ge_if (gt_val (ge_callD F_less hr (by decide) (by rfl) psX (ga_cons (gv 3) (ga_cons (ge_tup (ga_cons (ge_callB call_abs c_abs (by rfl) T.blt.abs bb_abs (ga_cons (gv 6) ga_nil)) (ga_cons (gv 7) ga_nil))) ga_nil)))) (ge_tup (ga_cons (ge_callB call_abs c_abs (by rfl) T.blt.abs bb_abs (ga_cons (gv 6) ga_nil)) (ga_cons (gv 7) ga_nil))) (gv 3))))))
    (gss_one (gs_ret (gv 3))))))))
theorem ok_is_best (T : Txt K mg ca) (F_check_form : FnD P w K mg base ca 3 "check_form" 1 m_check_form) (F_check_kept : FnD P w K mg base ca 3 "check_kept" 2 m_check_kept) (F_share_of : FnD P w K mg base ca 3 "share_of" 2 m_share_of) (F_total : FnD P w K mg base ca 4 "total" 1 m_total) (F_in_order : FnD P w K mg base ca 4 "in_order" 1 m_in_order) : FnD P w K mg base ca 5 "is_best" 2 m_is_best :=
  fnAt (k := 4) (N := N_is_best) T.d_is_best sc_is_best fun f cdv A outer s H E hr =>
    (gss_cons (gs_expr (ge_callD F_check_form hr (by decide) (by rfl) psX (ga_cons (gv 0) ga_nil)))
    (gss_cons (gs_expr (ge_callD F_check_kept hr (by decide) (by rfl) psX (ga_cons (gv 0) (ga_cons (gv 1) ga_nil))))
    (gss_cons (gs_set (i := 2) sc_is_best.nd rfl (Or.inl rfl) (ge_callD F_total hr (by decide) (by rfl) psX (ga_cons (ge_lc rfl sc_is_best.nd (tgOk_name 3) (gi_seq (gv 1)) (blkOk_by (N := N_is_best) (sc := defScope s_is_best) (own := [("number", 3)]) (by decide +kernel)) (fun _ _ _ _ _ => (pg_name (i := 3) sc_is_best.nd rfl (Or.inl rfl))) (fun _ _ _ _ _ => gts_nil) (fun _ _ _ _ _ => (ge_callD F_share_of hr (by decide) (by rfl) passL (ga_cons (gv 0) (ga_cons (gv 3) ga_nil))))) ga_nil)))
    (gss_one (gs_ret (ge_cmp (op_eqD hr.units) s_eq (gv 2) (ge_callD F_total hr (by decide) (by rfl) psX (ga_cons (ge_lc rfl sc_is_best.nd (tgOk_name 3) (gi_seq (ge_slice (ge_callD F_in_order hr (by decide) (by rfl) psX (ga_cons (gv 0) ga_nil)) go_none (go_some (ge_callB call_len c_len (by rfl) T.blt.len bb_len (ga_cons (gv 1) ga_nil))))) (blkOk_by (N := N_is_best) (sc := defScope s_is_best) (own := [("number", 3)]) (by decide +kernel)) (fun _ _ _ _ _ => (pg_name (i := 3) sc_is_best.nd rfl (Or.inl rfl))) (fun _ _ _ _ _ => gts_nil) (fun _ _ _ _ _ => (ge_callD F_share_of hr (by decide) (by rfl) passL (ga_cons (gv 0) (ga_cons (gv 3) ga_nil))))) ga_nil)) (nomark _)))))))
theorem ok_checked (T : Txt K mg ca) (F_is_form : FnD P w K mg base ca 2 "is_form" 1 m_is_form) : FnD P w K mg base ca 3 "checked" 1 m_checked :=
  fnAt (k := 2) (N := N_checked) T.d_checked sc_checked fun f cdv A outer s H E hr =>
    (gss_cons (gs_if (gt_not (gt_val (ge_callD F_is_form hr (by decide) (by rfl) psX (ga_cons (gv 0) ga_nil)))) (gss_one (gs_raiseE (c := 2) rfl tkX T.e_BadForm (by rfl))) gss_nil)
    (gss_one (gs_ret (gv 0))))
theorem ok_changed_form (T : Txt K mg ca) (F_check_form : FnD P w K mg base ca 3 "check_form" 1 m_check_form) (F_check_place : FnD P w K mg base ca 2 "check_place" 2 m_check_place) (F_is_int : FnD P w K mg base ca 1 "is_int" 3 m_is_int) (F_sign_at : FnD P w K mg base ca 3 "sign_at" 3 m_sign_at) (F_checked : FnD P w K mg base ca 3 "checked" 1 m_checked) : FnD P w K mg base ca 4 "changed_form" 3 m_changed_form :=
  fnAt (k := 3) (N := N_changed_form) T.d_changed_form sc_changed_form fun f cdv A outer s H E hr =>
    (gss_cons (gs_expr (ge_callD F_check_form hr (by decide) (by rfl) psX (ga_cons (gv 0) ga_nil)))
    (gss_cons (gs_expr (ge_callD F_check_place hr (by decide) (by rfl) psX (ga_cons (gv 0) (ga_cons (gv 1) ga_nil))))
    (gss_cons (gs_if (gt_not (gt_val (ge_callD F_is_int hr (by decide) (by rfl) psX (ga_cons (gv 2) (ga_cons (ge_un un_neg s_neg ge_int) (ga_cons ge_int ga_nil)))))) (gss_one (gs_raiseE (c := 3) rfl tkX T.e_BadNumber (by rfl))) gss_nil)
    (gss_cons (gs_set (i := 3) sc_changed_form.nd rfl (Or.inl rfl) (ge_callB call_len c_len (by rfl) T.blt.len bb_len (ga_cons (gv 0) ga_nil)))
    (gss_cons (gs_own (i := 4) sc_changed_form.nd rfl (Or.inl rfl) (gf_lst (ga_cons (ge_op op_addA s_add (ge_ix (gv 0) ge_int (fun _ _ => rfl)) (gv 2)) ga_nil)))
    (gss_cons (gs_for poX rfl (gi_range2 (by rfl) T.blt.range (ga_cons ge_int (ga_cons (gv 3) ga_nil))) (gg_name (i := 5) sc_changed_form.nd rfl (Or.inl rfl)) (gss_one (gs_app (pv 4) (ge_op op_addA s_add (ge_ix (gv 0) (gv 5) (fun _ _ => rfl)) (ge_op op_mulA s_mul (gv 2) (ge_callD F_sign_at hr (by decide) (by rfl) psX (ga_cons (gv 3) (ga_cons (gv 5) (ga_cons (gv 1) ga_nil)))))))))
    (gss_one (gs_frz 4 (gs_ret (ge_callD F_checked hr (by decide) (by rfl) psX (ga_cons (gv 4) ga_nil)))))))))))
theorem ok_added (T : Txt K mg ca) (F_check_form : FnD P w K mg base ca 3 "check_form" 1 m_check_form) (F_checked : FnD P w K mg base ca 3 "checked" 1 m_checked) : FnD P w K mg base ca 4 "added" 2 m_added :=
  fnAt (k := 3) (N := N_added) T.d_added sc_added fun f cdv A outer s H E hr =>
    (gss_cons (gs_expr (ge_callD F_check_form hr (by decide) (by rfl) psX (ga_cons (gv 0) ga_nil)))
    (gss_cons (gs_expr (ge_callD F_check_form hr (by decide) (by rfl) psX (ga_cons (gv 1) ga_nil)))
    (gss_cons (gs_if (gt_cmp (op_neD hr.units) s_ne (ge_callB call_len c_len (by rfl) T.blt.len bb_len (ga_cons (gv 0) ga_nil)) (ge_callB call_len c_len (by rfl) T.blt.len bb_len (ga_cons (gv 1) ga_nil)) (nomark _)) (gss_one (gs_raiseE (c := 2) rfl tkX T.e_BadForm (by rfl))) gss_nil)
    (gss_one (gs_ret (ge_callD F_checked hr (by decide) (by rfl) psX (ga_cons (ge_lc rfl sc_added.nd (tgOk_pair (j := 2) (k := 3) (by decide)) (gi_zip (by rfl) T.blt.zip (ga_cons (gv 0) (ga_cons (gv 1) ga_nil))) (blkOk_by (N := N_added) (sc := defScope s_added) (own := [("a", 2), ("b", 3)]) (by decide +kernel)) (fun _ _ _ _ _ => (pg_tup rfl (pgs_cons (pg_name (i := 2) sc_added.nd rfl (Or.inl rfl)) (pgs_cons (pg_name (i := 3) sc_added.nd rfl (Or.inl rfl)) pgs_nil)))) (fun _ _ _ _ _ => gts_nil) (fun _ _ _ _ _ => (ge_op op_addA s_add (gv 2) (gv 3)))) ga_nil)))))))
theorem ok_scaled (T : Txt K mg ca) (F_check_form : FnD P w K mg base ca 3 "check_form" 1 m_check_form) (F_is_int : FnD P w K mg base ca 1 "is_int" 3 m_is_int) (F_checked : FnD P w K mg base ca 3 "checked" 1 m_checked) : FnD P w K mg base ca 4 "scaled" 2 m_scaled :=
  fnAt (k := 3) (N := N_scaled) T.d_scaled sc_scaled fun f cdv A outer s H E hr =>
    (gss_cons (gs_expr (ge_callD F_check_form hr (by decide) (by rfl) psX (ga_cons (gv 0) ga_nil)))
    (gss_cons (gs_if (gt_not (gt_val (ge_callD F_is_int hr (by decide) (by rfl) psX (ga_cons (gv 1) (ga_cons (ge_un un_neg s_neg ge_int) (ga_cons ge_int ga_nil)))))) (gss_one (gs_raiseE (c := 3) rfl tkX T.e_BadNumber (by rfl))) gss_nil)
    (gss_one (gs_ret (ge_callD F_checked hr (by decide) (by rfl) psX (ga_cons (ge_lc rfl sc_scaled.nd (tgOk_name 2) (gi_seq (gv 0)) (blkOk_by (N := N_scaled) (sc := defScope s_scaled) (own := [("part", 2)]) (by decide +kernel)) (fun _ _ _ _ _ => (pg_name (i := 2) sc_scaled.nd rfl (Or.inl rfl))) (fun _ _ _ _ _ => gts_nil) (fun _ _ _ _ _ => (ge_op op_mulA s_mul (gv 2) (gv 1)))) ga_nil))))))
theorem ok_backward_form (T : Txt K mg ca) (F_check_form : FnD P w K mg base ca 3 "check_form" 1 m_check_form) : FnD P w K mg base ca 4 "backward_form" 1 m_backward_form :=
  fnAt (k := 3) (N := N_backward_form) T.d_backward_form sc_backward_form fun f cdv A outer s H E hr =>
    (gss_cons (gs_expr (ge_callD F_check_form hr (by decide) (by rfl) psX (ga_cons (gv 0) ga_nil)))
    (gss_cons (gs_set (i := 1) sc_backward_form.nd rfl (Or.inl rfl) (ge_callB call_len c_len (by rfl) T.blt.len bb_len (ga_cons (gv 0) ga_nil)))
    (gss_cons (gs_own (i := 2) sc_backward_form.nd rfl (Or.inl rfl) (gf_lst (ga_cons (ge_ix (gv 0) ge_int (fun _ _ => rfl)) ga_nil)))
    (gss_cons (gs_set (i := 3) sc_backward_form.nd rfl (Or.inl rfl) ge_int)
    (gss_cons (gs_while 40 poX (gt_cmp op_lt s_lt (gv 3) (gv 1) (nomark _)) (gss_cons (gs_iaddO (i := 2) sc_backward_form.nd rfl (Or.inl rfl) (ge_lc rfl sc_backward_form.nd (tgOk_name 4) (gi_seq (ge_rev (ge_slice (gv 0) (go_some (gv 3)) (go_some (ge_op op_mulA s_mul ge_int (gv 3)))))) (blkOk_by (N := N_backward_form) (sc := defScope s_backward_form) (own := [("part", 4)]) (by decide +kernel)) (fun _ _ _ _ _ => (pg_name (i := 4) sc_backward_form.nd rfl (Or.inl rfl))) (fun _ _ _ _ _ => gts_nil) (fun _ _ _ _ _ => (ge_un un_neg s_neg (gv 4)))))
    (gss_one (gs_aug (i := 3) iop_mul s_imul sc_backward_form.nd rfl (Or.inl rfl) ge_int))))
    (gss_one (gs_frz 2 (gs_ret (gv 2)))))))))
theorem ok_exchanged (T : Txt K mg ca) (F_check_form : FnD P w K mg base ca 3 "check_form" 1 m_check_form) (F_is_int : FnD P w K mg base ca 1 "is_int" 3 m_is_int) : FnD P w K mg base ca 4 "exchanged" 2 m_exchanged :=
  fnAt (k := 3) (N := N_exchanged) T.d_exchanged sc_exchanged fun f cdv A outer s H E hr =>
    (gss_cons (gs_expr (ge_callD F_check_form hr (by decide) (by rfl) psX (ga_cons (gv 0) ga_nil)))
    (gss_cons (gs_if (gt_not (gt_val (ge_callD F_is_int hr (by decide) (by rfl) psX (ga_cons (gv 1) (ga_cons ge_int (ga_cons (ge_op op_sub s_sub (ge_callB call_len c_len (by rfl) T.blt.len bb_len (ga_cons (gv 0) ga_nil)) ge_int) ga_nil)))))) (gss_one (gs_raiseE (c := 3) rfl tkX T.e_BadNumber (by rfl))) gss_nil)
    (gss_cons (gs_own (i := 2) sc_exchanged.nd rfl (Or.inl rfl) (gf_list (by rfl) T.blt.list bb_list (ga_cons (gv 0) ga_nil)))
    (gss_cons (gs_setO (pv 2) (gv 1) (ge_un un_neg s_neg (ge_ownIx (pv 2) (gv 1) (fun _ _ => rfl))))
    (gss_cons (gs_par (i := 3) (j := 4) (by rfl) sc_exchanged.nd rfl rfl (by decide) rfl rfl (ga_cons (ge_op op_mulA s_mul ge_int (gv 1)) (ga_cons ge_int ga_nil)) (by rfl))
    (gss_cons (gs_while 40 poX (gt_cmp op_lt s_lt (gv 3) (ge_callB call_len c_len (by rfl) T.blt.len bb_len (ga_cons (gv 0) ga_nil)) (nomark _)) (gss_cons (gs_slO (pv 2) (gv 3) (ge_op op_addA s_add (gv 3) (ge_op op_mulA s_mul ge_int (gv 4))) (ge_op op_addA s_add (ge_slice (gv 0) (go_some (ge_op op_addA s_add (gv 3) (gv 4))) (go_some (ge_op op_addA s_add (gv 3) (ge_op op_mulA s_mul ge_int (gv 4))))) (ge_slice (gv 0) (go_some (gv 3)) (go_some (ge_op op_addA s_add (gv 3) (gv 4))))))
    (gss_one (gs_par (i := 3) (j := 4) (by rfl) sc_exchanged.nd rfl rfl (by decide) rfl rfl (ga_cons (ge_op op_mulA s_mul ge_int (gv 3)) (ga_cons (ge_op op_mulA s_mul ge_int (gv 4)) ga_nil)) (by rfl)))))
    (gss_one (gs_frz 2 (gs_ret (gv 2))))))))))
theorem ok_halves_of (T : Txt K mg ca) (F_check_form : FnD P w K mg base ca 3 "check_form" 1 m_check_form) : FnD P w K mg base ca 4 "halves_of" 1 m_halves_of :=
  fnAt (k := 3) (N := N_halves_of) T.d_halves_of sc_halves_of fun f cdv A outer s H E hr =>
    (gss_cons (gs_expr (ge_callD F_check_form hr (by decide) (by rfl) psX (ga_cons (gv 0) ga_nil)))
    (gss_cons (gs_set (i := 1) sc_halves_of.nd rfl (Or.inl rfl) (ge_callB call_len c_len (by rfl) T.blt.len bb_len (ga_cons (gv 0) ga_nil)))
    (gss_cons (gs_if (gt_cmp (op_eqD hr.units) s_eq (gv 1) ge_int (nomark _)) (gss_one (gs_raiseE (c := 3) rfl tkX T.e_BadNumber (by rfl))) gss_nil)
    (gss_cons (gs_if (gt_cmp (op_neD hr.units) s_ne (ge_op op_mod s_mod (ge_op op_addA s_add (ge_ix (gv 0) ge_int (fun _ _ => rfl)) (ge_ix (gv 0) ge_int (fun _ _ => rfl))) ge_int) ge_int (nomark _)) (gss_one (gs_raiseE (c := 3) rfl tkX T.e_BadNumber (by rfl))) gss_nil)
    (gss_cons (gs_own2 (i := 3) (j := 4) (by rfl) sc_halves_of.nd rfl rfl (by decide) rfl rfl (gf_lst (ga_cons (ge_op op_fdiv s_fdiv (ge_op op_addA s_add (ge_ix (gv 0) ge_int (fun _ _ => rfl)) (ge_ix (gv 0) ge_int (fun _ _ => rfl))) ge_int) ga_nil)) (gf_lst (ga_cons (ge_op op_fdiv s_fdiv (ge_op op_sub s_sub (ge_ix (gv 0) ge_int (fun _ _ => rfl)) (ge_ix (gv 0) ge_int (fun _ _ => rfl))) ge_int) ga_nil)) (by rfl))
    (gss_cons (gs_set (i := 2) sc_halves_of.nd rfl (Or.inl rfl) ge_int)
    (gss_cons (gs_while 40 poX (gt_cmp op_lt s_lt (ge_op op_mulA s_mul ge_int (gv 2)) (gv 1) (nomark _)) (gss_cons (gs_iaddO (i := 3) sc_halves_of.nd rfl (Or.inl rfl) (ge_slice (gv 0) (go_some (ge_op op_mulA s_mul ge_int (gv 2))) (go_some (ge_op op_mulA s_mul ge_int (gv 2)))))
    (gss_cons (gs_iaddO (i := 4) sc_halves_of.nd rfl (Or.inl rfl) (ge_slice (gv 0) (go_some (ge_op op_mulA s_mul ge_int (gv 2))) (go_some (ge_op op_mulA s_mul ge_int (gv 2)))))
    (gss_one (gs_aug (i := 2) iop_mul s_imul sc_halves_of.nd rfl (Or.inl rfl) ge_int)))))
    (gss_one (gs_frz 4 (gs_frz 3 (gs_ret (ge_tup (ga_cons (gv 3) (ga_cons (gv 4) ga_nil))))))))))))))
theorem ok_Keeper___init__ (T : Txt K mg ca) (F_check_form : FnD P w K mg base ca 3 "check_form" 1 m_check_form) : FnM P w K mg base ca 4 "__init__" 2 m_Keeper___init__ :=
  fnAtM (k := 3) (N := N_Keeper___init__) T.d_Keeper___init__ sc_Keeper___init__ fun f cdv A outer s H E hr =>
    (gss_cons (gs_expr (ge_callD F_check_form hr (by decide) (by rfl) psX (ga_cons (gv 1) ga_nil)))
    (gss_cons (gs_fld T.k_cls T.k_form (gv 0) (gf_ge (gf_list (by rfl) T.blt.list bb_list (ga_cons (gv 1) ga_nil)) oList_is))
    (gss_one (gs_fld T.k_cls T.k_row (gv 0) (ge_lst ga_nil)))))
theorem ok_Keeper_error (T : Txt K mg ca) (F_share_of : FnD P w K mg base ca 3 "share_of" 2 m_share_of) (F_plus : FnD P w K mg base ca 3 "plus" 2 m_plus) : FnM P w K mg base ca 4 "error" 1 m_Keeper_error :=
  fnAtM (k := 3) (N := N_Keeper_error) T.d_Keeper_error sc_Keeper_error fun f cdv A outer s H E hr =>
    (gss_cons (gs_set (i := 1) sc_Keeper_error.nd rfl (Or.inl rfl) (ge_tup (ga_cons ge_int (ga_cons ge_int ga_nil))))
    (gss_cons (gs_for poX rfl (gi_range2 (by rfl) T.blt.range (ga_cons ge_int (ga_cons (ge_callB call_len c_len (by rfl) T.blt.len bb_len (ga_cons (ge_fld T.k_cls T.k_form (gv 0)) ga_nil)) ga_nil))) (gg_name (i := 2) sc_Keeper_error.nd rfl (Or.inl rfl)) (gss_one (gs_if (gt_cmp (op_notInA (hu65 hr)) s_notIn (gv 2) (ge_fld T.k_cls T.k_row (gv 0)) (by rfl)) (gss_one (gs_set (i := 1) sc_Keeper_error.nd rfl (Or.inl rfl) (ge_callD F_plus hr (by decide) (by rfl) psX (ga_cons (gv 1) (ga_cons (ge_callD F_share_of hr (by decide) (by rfl) psX (ga_cons (ge_fld T.k_cls T.k_form (gv 0)) (ga_cons (gv 2) ga_nil))) ga_nil))))) gss_nil)))
    (gss_one (gs_ret (gv 1)))))
theorem ok_Keeper_kept (T : Txt K mg ca) : FnM P w K mg base ca 1 "kept" 1 m_Keeper_kept :=
  fnAtM (k := 0) (N := N_Keeper_kept) T.d_Keeper_kept sc_Keeper_kept fun f cdv A outer s H E hr =>
    (gss_one (gs_ret (ge_callTy call_tuple_of c_tuple (by rfl) T.blt.tuple bb_tuple (ga_cons (ge_fld T.k_cls T.k_row (gv 0)) ga_nil))))
theorem ok_Keeper_value (T : Txt K mg ca) (F_is_int : FnD P w K mg base ca 1 "is_int" 3 m_is_int) (F_value_of : FnD P w K mg base ca 4 "value_of" 2 m_value_of) : FnM P w K mg base ca 5 "value" 2 m_Keeper_value :=
  fnAtM (k := 4) (N := N_Keeper_value) T.d_Keeper_value sc_Keeper_value fun f cdv A outer s H E hr =>
    (gss_cons (gs_if (gt_not (gt_val (ge_callD F_is_int hr (by decide) (by rfl) psX (ga_cons (gv 1) (ga_cons ge_int (ga_cons (ge_op op_sub s_sub (ge_callB call_len c_len (by rfl) T.blt.len bb_len (ga_cons (ge_fld T.k_cls T.k_form (gv 0)) ga_nil)) ge_int) ga_nil)))))) (gss_one (gs_raiseE (c := 3) rfl tkX T.e_BadNumber (by rfl))) gss_nil)
    (gss_cons (gs_setLc (i := 2) rfl sc_Keeper_value.nd rfl rfl (sw_true rfl rfl rfl (by decide +kernel)) (tgOk_name 3) (gi_range1 (by rfl) T.blt.range (ga_cons (ge_callB call_len c_len (by rfl) T.blt.len bb_len (ga_cons (ge_fld T.k_cls T.k_form (gv 0)) ga_nil)) ga_nil)) (blkOk_by (N := N_Keeper_value) (sc := defScope s_Keeper_value) (own := [("k", 3)]) (by decide +kernel)) (fun _ _ _ _ _ => (pg_name (i := 3) sc_Keeper_value.nd rfl (Or.inl rfl))) (fun _ _ _ _ _ => gts_nil) (fun _ _ _ _ _ => (ge_if (PW.pt (gw_or (gt_cmp (op_eqD hr.units) s_eq (gv 3) ge_int (nomark _)) (gw_or1 (gt_cmp (op_inA (hu65 hr)) s_in (gv 3) (ge_fld T.k_cls T.k_row (gv 0)) (by rfl))))) (ge_ix (ge_fld T.k_cls T.k_form (gv 0)) (gv 3) (fun _ _ => rfl)) ge_int)))
    (gss_one (gs_ret (ge_callD F_value_of hr (by decide) (by rfl) psX (ga_cons (gv 2) (ga_cons (gv 1) ga_nil)))))))
theorem ok_Keeper___len__ (T : Txt K mg ca) : FnM P w K mg base ca 1 "__len__" 1 m_Keeper___len__ :=
  fnAtM (k := 0) (N := N_Keeper___len__) T.d_Keeper___len__ sc_Keeper___len__ fun f cdv A outer s H E hr =>
    (gss_one (gs_ret (ge_callB call_len c_len (by rfl) T.blt.len bb_len (ga_cons (ge_fld T.k_cls T.k_row (gv 0)) ga_nil))))
theorem ok_format_form (T : Txt K mg ca) (F_check_form : FnD P w K mg base ca 3 "check_form" 1 m_check_form) : FnD P w K mg base ca 4 "format_form" 1 m_format_form :=
  fnAt (k := 3) (N := N_format_form) T.d_format_form sc_format_form fun f cdv A outer s H E hr =>
    (gss_cons (gs_expr (ge_callD F_check_form hr (by decide) (by rfl) psX (ga_cons (gv 0) ga_nil)))
    (gss_cons (gs_own (i := 1) sc_format_form.nd rfl (Or.inl rfl) (gf_lst (ga_cons (ge_callTy call_str_int c_str (by rfl) T.blt.str bb_strN (ga_cons (ge_ix (gv 0) ge_int (fun _ _ => rfl)) ga_nil)) ga_nil)))
    (gss_cons (gs_set (i := 2) sc_format_form.nd rfl (Or.inl rfl) ge_int)
    (gss_cons (gs_while 40 poX (gt_cmp op_lt s_lt (gv 2) (ge_callB call_len c_len (by rfl) T.blt.len bb_len (ga_cons (gv 0) ga_nil)) (nomark _)) (gss_cons (gs_app (pv 1) (ge_join ge_str (ge_lc rfl sc_format_form.nd (tgOk_name 3) (gi_seq (ge_slice (gv 0) (go_some (gv 2)) (go_some (ge_op op_mulA s_mul ge_int (gv 2))))) (blkOk_by (N := N_format_form) (sc := defScope s_format_form) (own := [("part", 3)]) (by decide +kernel)) (fun _ _ _ _ _ => (pg_name (i := 3) sc_format_form.nd rfl (Or.inl rfl))) (fun _ _ _ _ _ => gts_nil) (fun _ _ _ _ _ => (ge_callTy call_str_int c_str (by rfl) T.blt.str bb_strN (ga_cons (gv 3) ga_nil))))))
    (gss_one (gs_aug (i := 2) iop_mul s_imul sc_format_form.nd rfl (Or.inl rfl) ge_int))))
    (gss_one (gs_frz 1 (gs_ret (ge_join ge_str (gv 1)))))))))
theorem ok_law_start (T : Txt K mg ca) : FnD P w K mg base ca 1 "_law_start" 1 m_law_start :=
  fnAt (k := 0) (N := N_law_start) T.d_law_start sc_law_start fun f cdv A outer s H E hr =>
    (gss_one (gs_ret (ge_obj (gf_lst (ga_cons (ge_obj (gf_if (gt_cmp (op_neD hr.units) s_ne (gv 0) (ge_lst ga_nil) (nomark _)) (gf_list (by rfl) T.blt.list bb_list (ga_cons (gv 0) ga_nil)) (gf_lst (ga_cons ge_int ga_nil)))) (ga_cons ge_int ga_nil))))))
theorem ok_law_draw (T : Txt K mg ca) : FnD P w K mg base ca 1 "_law_draw" 2 m_law_draw :=
  fnAt (k := 0) (N := N_law_draw) T.d_law_draw sc_law_draw fun f cdv A outer s H E hr =>
    (gss_cons (gs_set (i := 2) sc_law_draw.nd rfl (Or.inl rfl) (ge_ix (gv 0) ge_int (fun _ _ => rfl)))
    (gss_cons (gs_setB (gv 0) ge_int (ge_op op_addA s_add (ge_ix (gv 0) ge_int (fun _ _ => rfl)) ge_int))
    (gss_cons (gs_set (i := 3) sc_law_draw.nd rfl (Or.inl rfl) (ge_op op_mod s_mod (ge_ix (gv 0) ge_int (fun _ _ => rfl)) (ge_callB call_len c_len (by rfl) T.blt.len bb_len (ga_cons (gv 2) ga_nil))))
    (gss_cons (gs_set (i := 4) sc_law_draw.nd rfl (Or.inl rfl) (ge_ix (gv 2) (gv 3) (fun _ _ => rfl)))
    (gss_cons (gs_if (gt_cmp op_ge s_ge (gv 4) ge_int (nomark _)) (gss_cons (gs_setB (gv 2) (gv 3) (ge_op op_fdiv s_fdiv (gv 4) (gv 1)))
    (gss_one (gs_ret (ge_op op_mod s_mod (gv 4) (gv 1))))) gss_nil)
    (gss_cons (gs_set (i := 5) sc_law_draw.nd rfl (Or.inl rfl) (ge_op op_mod s_mod (ge_op op_addA s_add (gv 4) (ge_op op_mulA s_mul ge_int (ge_ix (gv 0) ge_int (fun _ _ => rfl)))) ge_int))
    (gss_cons (gs_set (i := 5) sc_law_draw.nd rfl (Or.inl rfl) (ge_op op_mod s_mod (ge_op op_pow s_pow (gv 5) ge_int) ge_int))
    (gss_one (gs_ret (ge_op op_mod s_mod (ge_op op_fdiv s_fdiv (ge_op op_mod s_mod (ge_op op_addA s_add (ge_op op_mulA s_mul (ge_op op_fdiv s_fdiv (gv 5) ge_int) ge_int) (gv 5)) ge_int) ge_int) (gv 1)))))))))))
theorem ok_law_error (T : Txt K mg ca) : FnD P w K mg base ca 1 "_law_error" 1 m_law_error :=
  fnAt (k := 0) (N := N_law_error) T.d_law_error sc_law_error fun f cdv A outer s H E hr =>
    (gss_cons (gs_set (i := 1) sc_law_error.nd rfl (Or.inl rfl) (ge_lst (ga_cons (ge_isE T.er (by rfl) T.blt.isinstance (by rfl) T.e_BadRow.g (gv 0)) (ga_cons (ge_isE T.er (by rfl) T.blt.isinstance (by rfl) T.e_BadForm.g (gv 0)) (ga_cons (ge_isE T.er (by rfl) T.blt.isinstance (by rfl) T.e_BadNumber.g (gv 0)) ga_nil)))))
    (gss_cons (gs_set (i := 1) sc_law_error.nd rfl (Or.inl rfl) (ge_op op_addA s_add (gv 1) (ge_lst (ga_cons (ge_isE T.er (by rfl) T.blt.isinstance (by rfl) T.e_BadKept.g (gv 0)) (ga_cons (ge_isE T.er (by rfl) T.blt.isinstance (by rfl) T.e_BadText.g (gv 0)) (ga_cons (ge_isE T.er (by rfl) T.blt.isinstance (by rfl) T.e_NotFound.g (gv 0)) ga_nil))))))
    (gss_cons (gs_if (PW.pt (gw_or (gt_cmp (op_neD hr.units) s_ne (ge_cnt (gv 1) ge_bl) ge_int (nomark _)) (gw_or (gt_not (gt_val (ge_isE T.er (by rfl) T.blt.isinstance (by rfl) T.h_HaarError (gv 0)))) (gw_or1 (gt_not (gt_val (ge_isV T.er (by rfl) T.blt.isinstance (by rfl) T.n_ValueError (gv 0)))))))) (gss_one (gs_ret ge_str)) gss_nil)
    (gss_one (gs_ret (ge_ix (ge_lst (ga_cons ge_str (ga_cons ge_str (ga_cons ge_str (ga_cons ge_str (ga_cons ge_str (ga_cons ge_str ga_nil))))))) (ge_index (hu65 hr) (gv 1) ge_bl) (fun _ _ => rfl)))))))
theorem ok_law_one (T : Txt K mg ca) (F_has_row : FnD P w K mg base ca 4 "has_row" 1 m_has_row) (F_first_odd : FnD P w K mg base ca 4 "first_odd" 1 m_first_odd) (F_list_of : FnD P w K mg base ca 4 "list_of" 1 m_list_of) (F_all_values : FnD P w K mg base ca 5 "all_values" 1 m_all_values) (F_shares : FnD P w K mg base ca 4 "shares" 1 m_shares) (F_by_share : FnD P w K mg base ca 5 "by_share" 1 m_by_share) (F_backward_form : FnD P w K mg base ca 4 "backward_form" 1 m_backward_form) (F_halves_of : FnD P w K mg base ca 4 "halves_of" 1 m_halves_of) (F_format_form : FnD P w K mg base ca 4 "format_form" 1 m_format_form) (F_Keeper___init__ : FnM P w K mg base ca 4 "__init__" 2 m_Keeper___init__) : FnD P w K mg base ca 6 "_law_one" 2 m_law_one :=
  fnAt (k := 5) (N := N_law_one) T.d_law_one sc_law_one fun f cdv A outer s H E hr =>
    (gss_cons (gs_if (gt_cmp (op_eqD hr.units) s_eq (gv 0) ge_int (nomark _)) (gss_one (gs_ret (ge_callD F_has_row hr (by decide) (by rfl) psX (ga_cons (gv 1) ga_nil)))) gss_nil)
    (gss_cons (gs_if (gt_cmp (op_eqD hr.units) s_eq (gv 0) ge_int (nomark _)) (gss_one (gs_ret (ge_callD F_first_odd hr (by decide) (by rfl) psX (ga_cons (gv 1) ga_nil)))) gss_nil)
    (gss_cons (gs_if (gt_cmp (op_eqD hr.units) s_eq (gv 0) ge_int (nomark _)) (gss_one (gs_ret (ge_callD F_list_of hr (by decide) (by rfl) psX (ga_cons (gv 1) ga_nil)))) gss_nil)
    (gss_cons (gs_if (gt_cmp (op_eqD hr.units) s_eq (gv 0) ge_int (nomark _)) (gss_one (gs_ret (ge_callD F_all_values hr (by decide) (by rfl) psX (ga_cons (gv 1) ga_nil)))) gss_nil)
    (gss_cons (gs_if (gt_cmp (op_eqD hr.units) s_eq (gv 0) ge_int (nomark _)) (gss_one (gs_ret (ge_callD F_shares hr (by decide) (by rfl) psX (ga_cons (gv 1) ga_nil)))) gss_nil)
    (gss_cons (gs_if (gt_cmp (op_eqD hr.units) s_eq (gv 0) ge_int (nomark _)) (gss_one (gs_ret (ge_callD F_by_share hr (by decide) (by rfl) psX (ga_cons (gv 1) ga_nil)))) gss_nil)
    (gss_cons (gs_if (gt_cmp (op_eqD hr.units) s_eq (gv 0) ge_int (nomark _)) (gss_one (gs_ret (ge_callD F_backward_form hr (by decide) (by rfl) psX (ga_cons (gv 1) ga_nil)))) gss_nil)
    (gss_cons (gs_if (gt_cmp (op_eqD hr.units) s_eq (gv 0) ge_int (nomark _)) (gss_one (gs_ret (ge_callD F_halves_of hr (by decide) (by rfl) psX (ga_cons (gv 1) ga_nil)))) gss_nil)
    (gss_one (gs_ret (ge_if (gt_cmp (op_eqD hr.units) s_eq (gv 0) ge_int (nomark _)) (ge_callD F_format_form hr (by decide) (by rfl) psX (ga_cons (gv 1) ga_nil)) (ge_make T.k_make F_Keeper___init__ hr (by decide) (by rfl) psX (ga_cons (gv 1) ga_nil)))))))))))))
theorem ok_law_two (T : Txt K mg ca) (F_value_at : FnD P w K mg base ca 5 "value_at" 2 m_value_at) (F_means : FnD P w K mg base ca 5 "means" 2 m_means) (F_share : FnD P w K mg base ca 4 "share" 2 m_share) (F_best_kept : FnD P w K mg base ca 5 "best_kept" 2 m_best_kept) (F_least_error : FnD P w K mg base ca 5 "least_error" 2 m_least_error) (F_count_best : FnD P w K mg base ca 6 "count_best" 2 m_count_best) (F_fewest_within : FnD P w K mg base ca 5 "fewest_within" 2 m_fewest_within) (F_changed_form : FnD P w K mg base ca 4 "changed_form" 3 m_changed_form) (F_scaled : FnD P w K mg base ca 4 "scaled" 2 m_scaled) (F_exchanged : FnD P w K mg base ca 4 "exchanged" 2 m_exchanged) (F_sum_from_to : FnD P w K mg base ca 4 "sum_from_to" 3 m_sum_from_to) (F_details_for : FnD P w K mg base ca 4 "details_for" 3 m_details_for) (F_left_out : FnD P w K mg base ca 5 "left_out" 2 m_left_out) (F_only : FnD P w K mg base ca 4 "only" 2 m_only) (F_greatest_gap : FnD P w K mg base ca 5 "greatest_gap" 2 m_greatest_gap) (F_is_best : FnD P w K mg base ca 5 "is_best" 2 m_is_best) (F_added : FnD P w K mg base ca 4 "added" 2 m_added) : FnD P w K mg base ca 7 "_law_two" 3 m_law_two :=
  fnAt (k := 6) (N := N_law_two) T.d_law_two sc_law_two fun f cdv A outer s H E hr =>
    (gss_cons (gs_if (gt_cmp (op_eqD hr.units) s_eq (gv 0) ge_int (nomark _)) (gss_one (gs_ret (ge_callD F_value_at hr (by decide) (by rfl) psX (ga_cons (gv 1) (ga_cons (gv 2) ga_nil))))) gss_nil)
    (gss_cons (gs_if (gt_cmp (op_eqD hr.units) s_eq (gv 0) ge_int (nomark _)) (gss_one (gs_ret (ge_callD F_means hr (by decide) (by rfl) psX (ga_cons (gv 1) (ga_cons (gv 2) ga_nil))))) gss_nil)
    (gss_cons (gs_if (gt_cmp (op_eqD hr.units) s_eq (gv 0) ge_int (nomark _)) (gss_one (gs_ret (ge_callD F_share hr (by decide) (by rfl) psX (ga_cons (gv 1) (ga_cons (gv 2) ga_nil))))) gss_nil)
    (gss_cons (gs_if (gt_cmp (op_eqD hr.units) s_eq (gv 0) ge_int (nomark _)) (gss_one (gs_ret (ge_callD F_best_kept hr (by decide) (by rfl) psX (ga_cons (gv 1) (ga_cons (gv 2) ga_nil))))) gss_nil)
    (gss_cons (gs_if (gt_cmp (op_eqD hr.units) s_eq (gv 0) ge_int (nomark _)) (gss_one (gs_ret (ge_callD F_least_error hr (by decide) (by rfl) psX (ga_cons (gv 1) (ga_cons (gv 2) ga_nil))))) gss_nil)
    (gss_cons (gs_if (gt_cmp (op_eqD hr.units) s_eq (gv 0) ge_int (nomark _)) (gss_one (gs_ret (ge_callD F_count_best hr (by decide) (by rfl) psX (ga_cons (gv 1) (ga_cons (gv 2) ga_nil))))) gss_nil)
    (gss_cons (gs_if (gt_cmp (op_eqD hr.units) s_eq (gv 0) ge_int (nomark _)) (gss_one (gs_ret (ge_callD F_fewest_within hr (by decide) (by rfl) psX (ga_cons (gv 1) (ga_cons (gv 2) ga_nil))))) gss_nil)
    (gss_cons (gs_if (gt_cmp (op_eqD hr.units) s_eq (gv 0) ge_int (nomark _)) (gss_one (gs_ret (ge_callD F_changed_form hr (by decide) (by rfl) psX (ga_cons (gv 1) (ga_cons (gv 2) (ga_cons ge_non ga_nil)))))) gss_nil)
    (gss_cons (gs_if (gt_cmp (op_eqD hr.units) s_eq (gv 0) ge_int (nomark _)) (gss_one (gs_ret (ge_callD F_scaled hr (by decide) (by rfl) psX (ga_cons (gv 1) (ga_cons (gv 2) ga_nil))))) gss_nil)
    (gss_cons (gs_if (gt_cmp (op_eqD hr.units) s_eq (gv 0) ge_int (nomark _)) (gss_one (gs_ret (ge_callD F_exchanged hr (by decide) (by rfl) psX (ga_cons (gv 1) (ga_cons (gv 2) ga_nil))))) gss_nil)
    (gss_cons (gs_if (gt_cmp (op_eqD hr.units) s_eq (gv 0) ge_int (nomark _)) (gss_one (gs_ret (ge_callD F_sum_from_to hr (by decide) (by rfl) psX (ga_cons (gv 1) (ga_cons (gv 2) (ga_cons ge_int ga_nil)))))) gss_nil)
    (gss_cons (gs_if (gt_cmp (op_eqD hr.units) s_eq (gv 0) ge_int (nomark _)) (gss_one (gs_ret (ge_callD F_details_for hr (by decide) (by rfl) psX (ga_cons (gv 1) (ga_cons (gv 2) (ga_cons ge_int ga_nil)))))) gss_nil)
    (gss_cons (gs_if (gt_cmp (op_eqD hr.units) s_eq (gv 0) ge_int (nomark _)) (gss_one (gs_ret (ge_callD F_left_out hr (by decide) (by rfl) psX (ga_cons (gv 1) (ga_cons (gv 2) ga_nil))))) gss_nil)
    (gss_cons (gs_if (gt_cmp (op_eqD hr.units) s_eq (gv 0) ge_int (nomark _)) (gss_one (gs_ret (ge_callD F_only hr (by decide) (by rfl) psX (ga_cons (gv 1) (ga_cons (gv 2) ga_nil))))) gss_nil)
    (gss_cons (gs_if (gt_cmp (op_eqD hr.units) s_eq (gv 0) ge_int (nomark _)) (gss_one (gs_ret (ge_callD F_greatest_gap hr (by decide) (by rfl) psX (ga_cons (gv 1) (ga_cons (gv 2) ga_nil))))) gss_nil)
    (gss_one (gs_ret (ge_if (gt_cmp (op_eqD hr.units) s_eq (gv 0) ge_int (nomark _)) (ge_callD F_is_best hr (by decide) (by rfl) psX (ga_cons (gv 1) (ga_cons (gv 2) ga_nil))) (ge_callD F_added hr (by decide) (by rfl) psX (ga_cons (gv 1) (ga_cons (gv 2) ga_nil)))))))))))))))))))))
theorem ok_law_asked (T : Txt K mg ca) (F_law_one : FnD P w K mg base ca 6 "_law_one" 2 m_law_one) (F_law_two : FnD P w K mg base ca 7 "_law_two" 3 m_law_two) (F_law_error : FnD P w K mg base ca 1 "_law_error" 1 m_law_error) : FnD P w K mg base ca 8 "_law_asked" 4 m_law_asked :=
  fnAt (k := 7) (N := N_law_asked) T.d_law_asked sc_law_asked fun f cdv A outer s H E hr =>
    (gss_cons (gs_set (i := 4) sc_law_asked.nd rfl (Or.inl rfl) ge_non)
    (gss_cons (gs_try (k := 4) (i := 5) rfl rfl rfl sc_law_asked.nd rfl rfl rfl rfl (by rfl) T.h_HaarError T.heirs (fun W pn xe tk => (pss_one (gsx_if (gt_cmp (op_eqD hr.units) s_eq (gv 0) ge_int (nomark _)) (pss_one (gsx_expr (gx_call F_law_one hr (by decide) (by rfl) (fun σ => passAt tk σ) (ga_cons (gv 1) (ga_cons (gv 2) ga_nil))))) (pss_one (gsx_expr (gx_call F_law_two hr (by decide) (by rfl) (fun σ => passAt tk σ) (ga_cons (gv 1) (ga_cons (gv 2) (ga_cons (gv 3) ga_nil))))))))))
    (gss_one (gs_ret (ge_if (gt_cmp op_isA s_is (gv 4) ge_non (nomark _)) ge_str (ge_callD F_law_error hr (by decide) (by rfl) psX (ga_cons (gv 4) ga_nil)))))))
theorem ok_law_choices (T : Txt K mg ca) (F_law_asked : FnD P w K mg base ca 8 "_law_asked" 4 m_law_asked) (F_law_draw : FnD P w K mg base ca 1 "_law_draw" 2 m_law_draw) (F_is_form : FnD P w K mg base ca 2 "is_form" 1 m_is_form) : FnD P w K mg base ca 9 "_law_choices" 2 m_law_choices :=
  fnAt (k := 8) (N := N_law_choices) T.d_law_choices sc_law_choices fun f cdv A outer s H E hr =>
    (gss_cons (gs_for poX rfl (gi_seq (ge_lst (ga_cons ge_non (ga_cons ge_int (ga_cons (ge_lst (ga_cons ge_int ga_nil)) (ga_cons (ge_tup (ga_cons ge_int ga_nil)) (ga_cons (ge_tup (ga_cons ge_int ga_nil)) (ga_cons (ge_tup (ga_cons ge_int (ga_cons ge_int ga_nil))) (ga_cons (ge_tup (ga_cons ge_int (ga_cons ge_int ga_nil))) (ga_cons (ge_tup (ga_cons ge_bl ga_nil)) (ga_cons (ge_tup (ga_cons ge_str ga_nil)) (ga_cons (ge_tup (ga_cons ge_non ga_nil)) (ga_cons (ge_tup (ga_cons (ge_op op_sub s_sub ge_int ge_int) ga_nil)) ga_nil))))))))))))) (gg_name (i := 2) sc_law_choices.nd rfl (Or.inr rfl)) (gss_one (gs_if (gt_cmp (op_neD hr.units) s_ne (ge_lc rfl sc_law_choices.nd (tgOk_name 4) (gi_seq (ge_tup (ga_cons ge_int (ga_cons ge_int (ga_cons ge_int (ga_cons ge_int ga_nil)))))) (blkOk_by (N := N_law_choices) (sc := defScope s_law_choices) (own := [("k", 4)]) (by decide +kernel)) (fun _ _ _ _ _ => (pg_name (i := 4) sc_law_choices.nd rfl (Or.inl rfl))) (fun _ _ _ _ _ => gts_nil) (fun _ _ _ _ _ => (ge_callD F_law_asked hr (by decide) (by rfl) passL (ga_cons ge_int (ga_cons (gv 4) (ga_cons (gv 1) (ga_cons (gv 2) ga_nil))))))) (ge_op op_mulA s_mul (ge_lst (ga_cons ge_str ga_nil)) ge_int) (nomark _)) (gss_one (gs_ret ge_bl)) gss_nil)))
    (gss_cons (gs_if (PW.pt (gw_or (gt_cmp (op_neD hr.units) s_ne (ge_lc rfl sc_law_choices.nd (tgOk_name 2) (gi_seq (ge_tup (ga_cons ge_non (ga_cons ge_int (ga_cons (ge_op op_sub s_sub ge_int ge_int) (ga_cons ge_bl (ga_cons ge_int ga_nil))))))) (blkOk_by (N := N_law_choices) (sc := defScope s_law_choices) (own := [("bad", 2)]) (by decide +kernel)) (fun _ _ _ _ _ => (pg_name (i := 2) sc_law_choices.nd rfl (Or.inl rfl))) (fun _ _ _ _ _ => gts_nil) (fun _ _ _ _ _ => (ge_callD F_law_asked hr (by decide) (by rfl) passL (ga_cons ge_int (ga_cons ge_int (ga_cons (gv 1) (ga_cons (gv 2) ga_nil))))))) (ge_op op_mulA s_mul (ge_lst (ga_cons ge_str ga_nil)) ge_int) (nomark _)) (gw_or1 (gt_cmp (op_neD hr.units) s_ne (ge_lc rfl sc_law_choices.nd (tgOk_name 2) (gi_seq (ge_tup (ga_cons ge_int (ga_cons ge_int ga_nil)))) (blkOk_by (N := N_law_choices) (sc := defScope s_law_choices) (own := [("bad", 2)]) (by decide +kernel)) (fun _ _ _ _ _ => (pg_name (i := 2) sc_law_choices.nd rfl (Or.inl rfl))) (fun _ _ _ _ _ => gts_nil) (fun _ _ _ _ _ => (ge_callD F_law_asked hr (by decide) (by rfl) passL (ga_cons ge_int (ga_cons ge_int (ga_cons (ge_lst (ga_cons ge_int ga_nil)) (ga_cons (gv 2) ga_nil))))))) (ge_op op_mulA s_mul (ge_lst (ga_cons ge_str ga_nil)) ge_int) (nomark _))))) (gss_one (gs_ret ge_bl)) gss_nil)
    (gss_cons (gs_if (PW.pt (gw_or (gt_cmp (op_neD hr.units) s_ne (ge_callD F_law_asked hr (by decide) (by rfl) psX (ga_cons ge_int (ga_cons ge_int (ga_cons (gv 1) (ga_cons (ge_lst (ga_cons ge_int (ga_cons ge_int ga_nil))) ga_nil))))) ge_str (nomark _)) (gw_or (gt_cmp (op_neD hr.units) s_ne (ge_callD F_law_asked hr (by decide) (by rfl) psX (ga_cons ge_int (ga_cons ge_int (ga_cons (ge_lst (ga_cons ge_int ga_nil)) (ga_cons (ge_lst (ga_cons ge_int ga_nil)) ga_nil))))) ge_str (nomark _)) (gw_or1 (gt_cmp (op_neD hr.units) s_ne (ge_callD F_law_asked hr (by decide) (by rfl) psX (ga_cons ge_int (ga_cons ge_int (ga_cons (ge_lst (ga_cons ge_int ga_nil)) (ga_cons (ge_lst (ga_cons ge_int ga_nil)) ga_nil))))) ge_str (nomark _)))))) (gss_one (gs_ret ge_bl)) gss_nil)
    (gss_cons (gs_if (PW.pt (gw_or (gt_cmp (op_neD hr.units) s_ne (ge_callD F_law_asked hr (by decide) (by rfl) psX (ga_cons ge_int (ga_cons ge_int (ga_cons (ge_lst (ga_cons ge_int ga_nil)) (ga_cons ge_int ga_nil))))) ge_str (nomark _)) (gw_or1 (gt_cmp (op_neD hr.units) s_ne (ge_lc rfl sc_law_choices.nd (tgOk_name 2) (gi_seq (ge_tup (ga_cons (ge_lst (ga_cons ge_int ga_nil)) (ga_cons (ge_lst (ga_cons ge_int (ga_cons ge_int ga_nil))) (ga_cons (ge_lst (ga_cons ge_int (ga_cons ge_int ga_nil))) ga_nil))))) (blkOk_by (N := N_law_choices) (sc := defScope s_law_choices) (own := [("bad", 2)]) (by decide +kernel)) (fun _ _ _ _ _ => (pg_name (i := 2) sc_law_choices.nd rfl (Or.inl rfl))) (fun _ _ _ _ _ => gts_nil) (fun _ _ _ _ _ => (ge_callD F_law_asked hr (by decide) (by rfl) passL (ga_cons ge_int (ga_cons ge_int (ga_cons (gv 2) (ga_cons ge_int ga_nil))))))) (ge_lst (ga_cons ge_str (ga_cons ge_str (ga_cons ge_str ga_nil)))) (nomark _))))) (gss_one (gs_ret ge_bl)) gss_nil)
    (gss_cons (gs_if (gt_cmp (op_neD hr.units) s_ne (ge_lc rfl sc_law_choices.nd (tgOk_name 2) (gi_seq (ge_tup (ga_cons ge_non (ga_cons ge_int (ga_cons (ge_op op_sub s_sub ge_int ge_int) (ga_cons ge_bl (ga_cons ge_str (ga_cons ge_int ga_nil)))))))) (blkOk_by (N := N_law_choices) (sc := defScope s_law_choices) (own := [("bad", 2)]) (by decide +kernel)) (fun _ _ _ _ _ => (pg_name (i := 2) sc_law_choices.nd rfl (Or.inl rfl))) (fun _ _ _ _ _ => gts_nil) (fun _ _ _ _ _ => (ge_callD F_law_asked hr (by decide) (by rfl) passL (ga_cons ge_int (ga_cons ge_int (ga_cons (ge_op op_mulA s_mul (ge_lst (ga_cons ge_int ga_nil)) ge_int) (ga_cons (gv 2) ga_nil))))))) (ge_op op_addA s_add (ge_op op_mulA s_mul (ge_lst (ga_cons ge_str ga_nil)) ge_int) (ge_lst (ga_cons ge_str ga_nil))) (nomark _)) (gss_one (gs_ret ge_bl)) gss_nil)
    (gss_cons (gs_set (i := 3) sc_law_choices.nd rfl (Or.inl rfl) (ge_op op_sub s_sub ge_int (ge_callD F_law_draw hr (by decide) (by rfl) psX (ga_cons (gv 0) (ga_cons ge_int ga_nil)))))
    (gss_one (gs_ret (ge_and (ge_cmp op_isA s_is (ge_callD F_is_form hr (by decide) (by rfl) psX (ga_cons (ge_op op_mulA s_mul (ge_lst (ga_cons (gv 3) ga_nil)) ge_int) ga_nil)) ge_bl (nomark _)) (ge_and (ge_cmp (op_eqD hr.units) s_eq (ge_callD F_law_asked hr (by decide) (by rfl) psX (ga_cons ge_int (ga_cons ge_int (ga_cons (ge_lst (ga_cons ge_int (ga_cons ge_int ga_nil))) (ga_cons ge_int ga_nil))))) ge_str (nomark _)) (ge_one (ge_cmp (op_eqD hr.units) s_eq (ge_callD F_law_asked hr (by decide) (by rfl) psX (ga_cons ge_int (ga_cons ge_int (ga_cons (ge_lst (ga_cons (ge_op op_sub s_sub ge_int ge_int) ga_nil)) (ga_cons ge_int ga_nil))))) ge_str (nomark _)))))))))))))
theorem ok_law (T : Txt K mg ca) (F_law_start : FnD P w K mg base ca 1 "_law_start" 1 m_law_start) (F_is_form : FnD P w K mg base ca 2 "is_form" 1 m_is_form) (F_law_asked : FnD P w K mg base ca 8 "_law_asked" 4 m_law_asked) (F_law_choices : FnD P w K mg base ca 9 "_law_choices" 2 m_law_choices) {f : Addr} {fd : FuncData} (F : Fun K "law" "law" s_law f fd) : FnOk P w K mg base (L2.CX P w) 10 f fd ["script"] (spD K ca 1 m_law) :=
  fnD (k := 9) (N := N_law) F sc_law fun cdv A outer s H E hr =>
    (gss_cons (gs_set (i := 1) sc_law.nd rfl (Or.inl rfl) (ge_callD F_law_start hr (by decide) (by rfl) psX (ga_cons (gv 0) ga_nil)))
    (gss_cons (gs_set (i := 2) sc_law.nd rfl (Or.inl rfl) (ge_lst (ga_cons ge_non (ga_cons ge_int (ga_cons (ge_tup ga_nil) (ga_cons (ge_lst ga_nil) (ga_cons (ge_lst (ga_cons ge_int (ga_cons ge_int (ga_cons ge_int ga_nil)))) (ga_cons (ge_op op_mulA s_mul (ge_lst (ga_cons ge_int ga_nil)) ge_int) (ga_cons (ge_op op_mulA s_mul (ge_lst (ga_cons ge_int ga_nil)) ge_int) (ga_cons (ge_op op_mulA s_mul (ge_lst (ga_cons ge_int ga_nil)) ge_int) (ga_cons (ge_lst (ga_cons ge_int ga_nil)) (ga_cons (ge_lst (ga_cons (ge_op op_sub s_sub ge_int ge_int) ga_nil)) (ga_cons (ge_lst (ga_cons ge_bl ga_nil)) (ga_cons (ge_lst (ga_cons ge_str ga_nil)) (ga_cons (ge_lst (ga_cons ge_non ga_nil)) (ga_cons (ge_tup (ga_cons ge_int (ga_cons ge_int ga_nil))) ga_nil))))))))))))))))
    (gss_cons (gs_for poX rfl (gi_seq (gv 2)) (gg_name (i := 3) sc_law.nd rfl (Or.inr rfl)) (gss_cons (gs_if (PW.pt (gw_or (gt_cmp op_isntA s_isnt (ge_callD F_is_form hr (by decide) (by rfl) psX (ga_cons (gv 3) ga_nil)) ge_bl (nomark _)) (gw_or1 (gt_cmp (op_neD hr.units) s_ne (ge_lc rfl sc_law.nd (tgOk_name 10) (gi_range1 (by rfl) T.blt.range (ga_cons ge_int ga_nil)) (blkOk_by (N := N_law) (sc := defScope s_law) (own := [("k", 10)]) (by decide +kernel)) (fun _ _ _ _ _ => (pg_name (i := 10) sc_law.nd rfl (Or.inl rfl))) (fun _ _ _ _ _ => gts_nil) (fun _ _ _ _ _ => (ge_callD F_law_asked hr (by decide) (by rfl) passL (ga_cons ge_int (ga_cons (gv 10) (ga_cons (gv 3) (ga_cons ge_int ga_nil))))))) (ge_op op_mulA s_mul (ge_lst (ga_cons ge_str ga_nil)) ge_int) (nomark _))))) (gss_one (gs_ret ge_bl)) gss_nil)
    (gss_one (gs_if (PW.pt (gw_or (gt_cmp (op_neD hr.units) s_ne (ge_lc rfl sc_law.nd (tgOk_name 10) (gi_range1 (by rfl) T.blt.range (ga_cons ge_int ga_nil)) (blkOk_by (N := N_law) (sc := defScope s_law) (own := [("k", 10)]) (by decide +kernel)) (fun _ _ _ _ _ => (pg_name (i := 10) sc_law.nd rfl (Or.inl rfl))) (fun _ _ _ _ _ => gts_nil) (fun _ _ _ _ _ => (ge_callD F_law_asked hr (by decide) (by rfl) passL (ga_cons ge_int (ga_cons (gv 10) (ga_cons (gv 3) (ga_cons ge_non ga_nil))))))) (ge_op op_mulA s_mul (ge_lst (ga_cons ge_str ga_nil)) ge_int) (nomark _)) (gw_or1 (gt_cmp (op_neD hr.units) s_ne (ge_callD F_law_asked hr (by decide) (by rfl) psX (ga_cons ge_int (ga_cons ge_int (ga_cons (ge_lst (ga_cons ge_int (ga_cons ge_int ga_nil))) (ga_cons (gv 3) ga_nil))))) ge_str (nomark _))))) (gss_one (gs_ret ge_bl)) gss_nil))))
    (gss_cons (gs_set (i := 4) sc_law.nd rfl (Or.inr rfl) (ge_lst (ga_cons ge_int (ga_cons ge_int (ga_cons ge_int (ga_cons ge_int ga_nil))))))
    (gss_cons (gs_set (i := 5) sc_law.nd rfl (Or.inl rfl) (ge_lst (ga_cons (ge_tup (ga_cons ge_int (ga_cons ge_int (ga_cons ge_int ga_nil)))) (ga_cons (ge_tup (ga_cons ge_int (ga_cons ge_int (ga_cons ge_int ga_nil)))) (ga_cons (ge_tup (ga_cons ge_int (ga_cons ge_int (ga_cons ge_int ga_nil)))) (ga_cons (ge_tup (ga_cons ge_int (ga_cons ge_int (ga_cons ge_int ga_nil)))) (ga_cons (ge_tup (ga_cons ge_int (ga_cons ge_int (ga_cons ge_int ga_nil)))) (ga_cons (ge_tup (ga_cons ge_int (ga_cons ge_int (ga_cons ge_int ga_nil)))) (ga_cons (ge_tup (ga_cons ge_int (ga_cons (ge_op op_sub s_sub ge_int ge_int) (ga_cons ge_int ga_nil)))) (ga_cons (ge_tup (ga_cons ge_int (ga_cons ge_int (ga_cons ge_int ga_nil)))) (ga_cons (ge_tup (ga_cons ge_int (ga_cons ge_int (ga_cons ge_int ga_nil)))) (ga_cons (ge_tup (ga_cons ge_int (ga_cons ge_int (ga_cons ge_int ga_nil)))) ga_nil))))))))))))
    (gss_cons (gs_for poX rfl (gi_seq (gv 5)) (gg_tup (by rfl) (ggs_cons (gg_name (i := 6) sc_law.nd rfl (Or.inr rfl)) (ggs_cons (gg_name (i := 7) sc_law.nd rfl (Or.inl rfl)) (ggs_cons (gg_name (i := 8) sc_law.nd rfl (Or.inl rfl)) ggs_nil))) (tgCons_len (tgCons_len (tgCons_len tgNil_len)))) (gss_cons (gs_if (gt_cmp (op_neD hr.units) s_ne (ge_lc rfl sc_law.nd (tgOk_name 3) (gi_seq (ge_tup (ga_cons ge_non (ga_cons (ge_op op_sub s_sub (gv 7) ge_int) (ga_cons (ge_op op_addA s_add (gv 8) ge_int) (ga_cons ge_bl (ga_cons (ge_callTy call_str_int c_str (by rfl) T.blt.str bb_strN (ga_cons (gv 7) ga_nil)) ga_nil))))))) (blkOk_by (N := N_law) (sc := defScope s_law) (own := [("bad", 3)]) (by decide +kernel)) (fun _ _ _ _ _ => (pg_name (i := 3) sc_law.nd rfl (Or.inl rfl))) (fun _ _ _ _ _ => gts_nil) (fun _ _ _ _ _ => (ge_callD F_law_asked hr (by decide) (by rfl) passL (ga_cons ge_int (ga_cons (gv 6) (ga_cons (gv 4) (ga_cons (gv 3) ga_nil))))))) (ge_op op_mulA s_mul (ge_lst (ga_cons ge_str ga_nil)) ge_int) (nomark _)) (gss_one (gs_ret ge_bl)) gss_nil)
    (gss_one (gs_if (gt_cmp (op_neD hr.units) s_ne (ge_lc rfl sc_law.nd (tgOk_name 9) (gi_seq (ge_tup (ga_cons (gv 7) (ga_cons (gv 8) ga_nil)))) (blkOk_by (N := N_law) (sc := defScope s_law) (own := [("good", 9)]) (by decide +kernel)) (fun _ _ _ _ _ => (pg_name (i := 9) sc_law.nd rfl (Or.inl rfl))) (fun _ _ _ _ _ => gts_nil) (fun _ _ _ _ _ => (ge_callD F_law_asked hr (by decide) (by rfl) passL (ga_cons ge_int (ga_cons (gv 6) (ga_cons (gv 4) (ga_cons (gv 9) ga_nil))))))) (ge_op op_mulA s_mul (ge_lst (ga_cons ge_str ga_nil)) ge_int) (nomark _)) (gss_one (gs_ret ge_bl)) gss_nil))))
    (gss_cons (gs_for poX rfl (gi_seq (ge_lst (ga_cons ge_non (ga_cons ge_int (ga_cons (ge_tup (ga_cons ge_int ga_nil)) (ga_cons (ge_lst (ga_cons ge_int (ga_cons ge_int ga_nil))) (ga_cons (ge_tup (ga_cons ge_int (ga_cons ge_int ga_nil))) (ga_cons (ge_tup (ga_cons ge_int (ga_cons ge_int ga_nil))) (ga_cons (ge_tup (ga_cons (ge_op op_sub s_sub ge_int ge_int) (ga_cons ge_int ga_nil))) (ga_cons (ge_tup (ga_cons ge_bl (ga_cons ge_int ga_nil))) (ga_cons (ge_tup (ga_cons ge_int (ga_cons ge_int ga_nil))) (ga_cons (ge_tup (ga_cons ge_int (ga_cons ge_int ga_nil))) ga_nil)))))))))))) (gg_name (i := 3) sc_law.nd rfl (Or.inr rfl)) (gss_one (gs_if (gt_cmp (op_neD hr.units) s_ne (ge_callD F_law_asked hr (by decide) (by rfl) psX (ga_cons ge_int (ga_cons ge_int (ga_cons (gv 4) (ga_cons (gv 3) ga_nil))))) ge_str (nomark _)) (gss_one (gs_ret ge_bl)) gss_nil)))
    (gss_cons (gs_if (gt_cmp (op_neD hr.units) s_ne (ge_lc rfl sc_law.nd (tgOk_name 9) (gi_seq (ge_tup (ga_cons (ge_tup (ga_cons ge_int (ga_cons ge_int ga_nil))) (ga_cons (ge_tup (ga_cons ge_int (ga_cons ge_int ga_nil))) (ga_cons (ge_tup (ga_cons ge_int (ga_cons ge_int ga_nil))) ga_nil))))) (blkOk_by (N := N_law) (sc := defScope s_law) (own := [("good", 9)]) (by decide +kernel)) (fun _ _ _ _ _ => (pg_name (i := 9) sc_law.nd rfl (Or.inl rfl))) (fun _ _ _ _ _ => gts_nil) (fun _ _ _ _ _ => (ge_callD F_law_asked hr (by decide) (by rfl) passL (ga_cons ge_int (ga_cons ge_int (ga_cons (gv 4) (ga_cons (gv 9) ga_nil))))))) (ge_op op_mulA s_mul (ge_lst (ga_cons ge_str ga_nil)) ge_int) (nomark _)) (gss_one (gs_ret ge_bl)) gss_nil)
    (gss_one (gs_ret (ge_callD F_law_choices hr (by decide) (by rfl) psX (ga_cons (gv 1) (ga_cons (gv 4) ga_nil)))))))))))))
theorem chain (T : Txt K mg ca) {f : Addr} {fd : FuncData} (F : Fun K "law" "law" s_law f fd) : FnOk P w K mg base (L2.CX P w) 10 f fd ["script"] (spD K ca 1 m_law) := by
  have F_is_int : FnD P w K mg base ca 1 "is_int" 3 m_is_int := ok_is_int T
  have F_is_form : FnD P w K mg base ca 2 "is_form" 1 m_is_form := ok_is_form T F_is_int
  have F_check_form : FnD P w K mg base ca 3 "check_form" 1 m_check_form := ok_check_form T F_is_form
  have F_check_place : FnD P w K mg base ca 2 "check_place" 2 m_check_place := ok_check_place T F_is_int
  have F_is_kept : FnD P w K mg base ca 2 "is_kept" 2 m_is_kept := ok_is_kept T F_is_int
  have F_check_kept : FnD P w K mg base ca 3 "check_kept" 2 m_check_kept := ok_check_kept T F_is_kept
  have F_halves : FnD P w K mg base ca 1 "halves" 2 m_halves := ok_halves T
  have F_sums_of : FnD P w K mg base ca 2 "sums_of" 1 m_sums_of := ok_sums_of T F_halves
  have F_has_row : FnD P w K mg base ca 4 "has_row" 1 m_has_row := ok_has_row T F_check_form F_sums_of
  have F_first_odd : FnD P w K mg base ca 4 "first_odd" 1 m_first_odd := ok_first_odd T F_check_form F_sums_of
  have F_list_of : FnD P w K mg base ca 4 "list_of" 1 m_list_of := ok_list_of T F_check_form F_sums_of
  have F_block_size : FnD P w K mg base ca 1 "block_size" 2 m_block_size := ok_block_size T
  have F_place_of : FnD P w K mg base ca 2 "place_of" 2 m_place_of := ok_place_of T F_block_size
  have F_sign_at : FnD P w K mg base ca 3 "sign_at" 3 m_sign_at := ok_sign_at T F_place_of F_block_size
  have F_common : FnD P w K mg base ca 1 "common" 2 m_common := ok_common T
  have F_lowest : FnD P w K mg base ca 2 "lowest" 2 m_lowest := ok_lowest T F_common
  have F_plus : FnD P w K mg base ca 3 "plus" 2 m_plus := ok_plus T F_lowest
  have F_less : FnD P w K mg base ca 1 "less" 2 m_less := ok_less T
  have F_total : FnD P w K mg base ca 4 "total" 1 m_total := ok_total T F_plus
  have F_is_size : FnD P w K mg base ca 2 "is_size" 1 m_is_size := ok_is_size T F_is_int F_common
  have F_check_size : FnD P w K mg base ca 3 "check_size" 1 m_check_size := ok_check_size T F_is_size
  have F_value_of : FnD P w K mg base ca 4 "value_of" 2 m_value_of := ok_value_of T F_lowest F_sign_at F_block_size F_plus
  have F_value_at : FnD P w K mg base ca 5 "value_at" 2 m_value_at := ok_value_at T F_check_form F_check_place F_value_of
  have F_all_values : FnD P w K mg base ca 5 "all_values" 1 m_all_values := ok_all_values T F_check_form F_value_of
  have F_sum_from_to : FnD P w K mg base ca 4 "sum_from_to" 3 m_sum_from_to := ok_sum_from_to T F_check_form F_is_int F_lowest F_sign_at F_block_size F_plus
  have F_details_for : FnD P w K mg base ca 4 "details_for" 3 m_details_for := ok_details_for T F_check_form F_is_int F_sign_at
  have F_means : FnD P w K mg base ca 5 "means" 2 m_means := ok_means T F_check_form F_is_int F_place_of F_sum_from_to F_lowest
  have F_share_of : FnD P w K mg base ca 3 "share_of" 2 m_share_of := ok_share_of T F_lowest F_block_size
  have F_share : FnD P w K mg base ca 4 "share" 2 m_share := ok_share T F_check_form F_is_int F_share_of
  have F_shares : FnD P w K mg base ca 4 "shares" 1 m_shares := ok_shares T F_check_form F_share_of
  have F_left_out : FnD P w K mg base ca 5 "left_out" 2 m_left_out := ok_left_out T F_check_form F_check_kept F_share_of F_total
  have F_in_order : FnD P w K mg base ca 4 "in_order" 1 m_in_order := ok_in_order T F_share_of F_less
  have F_by_share : FnD P w K mg base ca 5 "by_share" 1 m_by_share := ok_by_share T F_check_form F_in_order
  have F_check_many : FnD P w K mg base ca 2 "check_many" 2 m_check_many := ok_check_many T F_is_int
  have F_with_kept : FnD P w K mg base ca 1 "with_kept" 2 m_with_kept := ok_with_kept T
  have F_only : FnD P w K mg base ca 4 "only" 2 m_only := ok_only T F_check_form F_check_kept F_with_kept
  have F_best_kept : FnD P w K mg base ca 5 "best_kept" 2 m_best_kept := ok_best_kept T F_check_form F_check_many F_in_order
  have F_least_error : FnD P w K mg base ca 5 "least_error" 2 m_least_error := ok_least_error T F_check_form F_check_many F_in_order F_share_of F_total
  have F_ties : FnD P w K mg base ca 5 "ties" 2 m_ties := ok_ties T F_in_order F_share_of
  have F_choose : FnD P w K mg base ca 1 "choose" 2 m_choose := ok_choose T
  have F_count_best : FnD P w K mg base ca 6 "count_best" 2 m_count_best := ok_count_best T F_check_form F_check_many F_ties F_choose
  have F_fewest_within : FnD P w K mg base ca 5 "fewest_within" 2 m_fewest_within := ok_fewest_within T F_check_form F_check_size F_in_order F_share_of F_total F_less
  have F_greatest_gap : FnD P w K mg base ca 5 "greatest_gap" 2 m_greatest_gap := ok_greatest_gap T F_check_form F_check_kept F_value_of F_less
  have F_is_best : FnD P w K mg base ca 5 "is_best" 2 m_is_best := ok_is_best T F_check_form F_check_kept F_share_of F_total F_in_order
  have F_checked : FnD P w K mg base ca 3 "checked" 1 m_checked := ok_checked T F_is_form
  have F_changed_form : FnD P w K mg base ca 4 "changed_form" 3 m_changed_form := ok_changed_form T F_check_form F_check_place F_is_int F_sign_at F_checked
  have F_added : FnD P w K mg base ca 4 "added" 2 m_added := ok_added T F_check_form F_checked
  have F_scaled : FnD P w K mg base ca 4 "scaled" 2 m_scaled := ok_scaled T F_check_form F_is_int F_checked
  have F_backward_form : FnD P w K mg base ca 4 "backward_form" 1 m_backward_form := ok_backward_form T F_check_form
  have F_exchanged : FnD P w K mg base ca 4 "exchanged" 2 m_exchanged := ok_exchanged T F_check_form F_is_int
  have F_halves_of : FnD P w K mg base ca 4 "halves_of" 1 m_halves_of := ok_halves_of T F_check_form
  have F_Keeper___init__ : FnM P w K mg base ca 4 "__init__" 2 m_Keeper___init__ := ok_Keeper___init__ T F_check_form
  have F_Keeper_error : FnM P w K mg base ca 4 "error" 1 m_Keeper_error := ok_Keeper_error T F_share_of F_plus
  have F_Keeper_kept : FnM P w K mg base ca 1 "kept" 1 m_Keeper_kept := ok_Keeper_kept T
  have F_Keeper_value : FnM P w K mg base ca 5 "value" 2 m_Keeper_value := ok_Keeper_value T F_is_int F_value_of
  have F_Keeper___len__ : FnM P w K mg base ca 1 "__len__" 1 m_Keeper___len__ := ok_Keeper___len__ T
  have F_format_form : FnD P w K mg base ca 4 "format_form" 1 m_format_form := ok_format_form T F_check_form
  have F_law_start : FnD P w K mg base ca 1 "_law_start" 1 m_law_start := ok_law_start T
  have F_law_draw : FnD P w K mg base ca 1 "_law_draw" 2 m_law_draw := ok_law_draw T
  have F_law_error : FnD P w K mg base ca 1 "_law_error" 1 m_law_error := ok_law_error T
  have F_law_one : FnD P w K mg base ca 6 "_law_one" 2 m_law_one := ok_law_one T F_has_row F_first_odd F_list_of F_all_values F_shares F_by_share F_backward_form F_halves_of F_format_form F_Keeper___init__
  have F_law_two : FnD P w K mg base ca 7 "_law_two" 3 m_law_two := ok_law_two T F_value_at F_means F_share F_best_kept F_least_error F_count_best F_fewest_within F_changed_form F_scaled F_exchanged F_sum_from_to F_details_for F_left_out F_only F_greatest_gap F_is_best F_added
  have F_law_asked : FnD P w K mg base ca 8 "_law_asked" 4 m_law_asked := ok_law_asked T F_law_one F_law_two F_law_error
  have F_law_choices : FnD P w K mg base ca 9 "_law_choices" 2 m_law_choices := ok_law_choices T F_law_asked F_law_draw F_is_form
  exact ok_law T F_law_start F_is_form F_law_asked F_law_choices F
end
theorem all_mk {l : PySem.W.OpenLaw} {w : World} {K : PySem.W.Frag} {h : Heap} {mg : Str → Option Value} {fa : Addr} (X : K.In h) (G : h.Ns mainGlobals mg) (hfa : mg "law" = some (.ref fa))
    (hlaw : LawTrue m_law)
    {a_LENGTHS : Addr} {dd_LENGTHS : Option Addr} {n_LENGTHS0 : Nat} {sl_LENGTHS : Array (Option Value)} {t0_LENGTHS t1_LENGTHS t2_LENGTHS t3_LENGTHS t4_LENGTHS : Tok}
    {t_MOST_PART : Tok}
    {t_MOST : Tok}
    {C_BadRow : Addr}
    {C_BadForm : Addr}
    {C_BadNumber : Addr}
    {C_BadKept : Addr}
    {C_BadText : Addr}
    {C_NotFound : Addr}
    {C_HaarError : Addr}
    {C_Keeper : Addr}
    {f_is_int : Addr} {od_is_int an_is_int : Option Addr} {sl_is_int : Array (Option Value)} {oc_is_int kV_is_int dc_is_int pm_is_int cd_is_int ct_is_int : Value}
    {f_is_form : Addr} {od_is_form an_is_form : Option Addr} {sl_is_form : Array (Option Value)} {oc_is_form kV_is_form dc_is_form pm_is_form cd_is_form ct_is_form : Value}
    {f_check_form : Addr} {od_check_form an_check_form : Option Addr} {sl_check_form : Array (Option Value)} {oc_check_form kV_check_form dc_check_form pm_check_form cd_check_form ct_check_form : Value}
    {f_check_place : Addr} {od_check_place an_check_place : Option Addr} {sl_check_place : Array (Option Value)} {oc_check_place kV_check_place dc_check_place pm_check_place cd_check_place ct_check_place : Value}
    {f_is_kept : Addr} {od_is_kept an_is_kept : Option Addr} {sl_is_kept : Array (Option Value)} {oc_is_kept kV_is_kept dc_is_kept pm_is_kept cd_is_kept ct_is_kept : Value}
    {f_check_kept : Addr} {od_check_kept an_check_kept : Option Addr} {sl_check_kept : Array (Option Value)} {oc_check_kept kV_check_kept dc_check_kept pm_check_kept cd_check_kept ct_check_kept : Value}
    {f_halves : Addr} {od_halves an_halves : Option Addr} {sl_halves : Array (Option Value)} {oc_halves kV_halves dc_halves pm_halves cd_halves ct_halves : Value}
    {f_sums_of : Addr} {od_sums_of an_sums_of : Option Addr} {sl_sums_of : Array (Option Value)} {oc_sums_of kV_sums_of dc_sums_of pm_sums_of cd_sums_of ct_sums_of : Value}
    {f_has_row : Addr} {od_has_row an_has_row : Option Addr} {sl_has_row : Array (Option Value)} {oc_has_row kV_has_row dc_has_row pm_has_row cd_has_row ct_has_row : Value}
    {f_first_odd : Addr} {od_first_odd an_first_odd : Option Addr} {sl_first_odd : Array (Option Value)} {oc_first_odd kV_first_odd dc_first_odd pm_first_odd cd_first_odd ct_first_odd : Value}
    {f_list_of : Addr} {od_list_of an_list_of : Option Addr} {sl_list_of : Array (Option Value)} {oc_list_of kV_list_of dc_list_of pm_list_of cd_list_of ct_list_of : Value}
    {f_block_size : Addr} {od_block_size an_block_size : Option Addr} {sl_block_size : Array (Option Value)} {oc_block_size kV_block_size dc_block_size pm_block_size cd_block_size ct_block_size : Value}
    {f_place_of : Addr} {od_place_of an_place_of : Option Addr} {sl_place_of : Array (Option Value)} {oc_place_of kV_place_of dc_place_of pm_place_of cd_place_of ct_place_of : Value}
    {f_sign_at : Addr} {od_sign_at an_sign_at : Option Addr} {sl_sign_at : Array (Option Value)} {oc_sign_at kV_sign_at dc_sign_at pm_sign_at cd_sign_at ct_sign_at : Value}
    {f_common : Addr} {od_common an_common : Option Addr} {sl_common : Array (Option Value)} {oc_common kV_common dc_common pm_common cd_common ct_common : Value}
    {f_lowest : Addr} {od_lowest an_lowest : Option Addr} {sl_lowest : Array (Option Value)} {oc_lowest kV_lowest dc_lowest pm_lowest cd_lowest ct_lowest : Value}
    {f_plus : Addr} {od_plus an_plus : Option Addr} {sl_plus : Array (Option Value)} {oc_plus kV_plus dc_plus pm_plus cd_plus ct_plus : Value}
    {f_less : Addr} {od_less an_less : Option Addr} {sl_less : Array (Option Value)} {oc_less kV_less dc_less pm_less cd_less ct_less : Value}
    {f_total : Addr} {od_total an_total : Option Addr} {sl_total : Array (Option Value)} {oc_total kV_total dc_total pm_total cd_total ct_total : Value}
    {f_is_size : Addr} {od_is_size an_is_size : Option Addr} {sl_is_size : Array (Option Value)} {oc_is_size kV_is_size dc_is_size pm_is_size cd_is_size ct_is_size : Value}
    {f_check_size : Addr} {od_check_size an_check_size : Option Addr} {sl_check_size : Array (Option Value)} {oc_check_size kV_check_size dc_check_size pm_check_size cd_check_size ct_check_size : Value}
    {f_value_of : Addr} {od_value_of an_value_of : Option Addr} {sl_value_of : Array (Option Value)} {oc_value_of kV_value_of dc_value_of pm_value_of cd_value_of ct_value_of : Value}
    {f_value_at : Addr} {od_value_at an_value_at : Option Addr} {sl_value_at : Array (Option Value)} {oc_value_at kV_value_at dc_value_at pm_value_at cd_value_at ct_value_at : Value}
    {f_all_values : Addr} {od_all_values an_all_values : Option Addr} {sl_all_values : Array (Option Value)} {oc_all_values kV_all_values dc_all_values pm_all_values cd_all_values ct_all_values : Value}
    {f_sum_from_to : Addr} {od_sum_from_to an_sum_from_to : Option Addr} {sl_sum_from_to : Array (Option Value)} {oc_sum_from_to kV_sum_from_to dc_sum_from_to pm_sum_from_to cd_sum_from_to ct_sum_from_to : Value}
    {f_details_for : Addr} {od_details_for an_details_for : Option Addr} {sl_details_for : Array (Option Value)} {oc_details_for kV_details_for dc_details_for pm_details_for cd_details_for ct_details_for : Value}
    {f_means : Addr} {od_means an_means : Option Addr} {sl_means : Array (Option Value)} {oc_means kV_means dc_means pm_means cd_means ct_means : Value}
    {f_share_of : Addr} {od_share_of an_share_of : Option Addr} {sl_share_of : Array (Option Value)} {oc_share_of kV_share_of dc_share_of pm_share_of cd_share_of ct_share_of : Value}
    {f_share : Addr} {od_share an_share : Option Addr} {sl_share : Array (Option Value)} {oc_share kV_share dc_share pm_share cd_share ct_share : Value}
    {f_shares : Addr} {od_shares an_shares : Option Addr} {sl_shares : Array (Option Value)} {oc_shares kV_shares dc_shares pm_shares cd_shares ct_shares : Value}
    {f_left_out : Addr} {od_left_out an_left_out : Option Addr} {sl_left_out : Array (Option Value)} {oc_left_out kV_left_out dc_left_out pm_left_out cd_left_out ct_left_out : Value}
    {f_in_order : Addr} {od_in_order an_in_order : Option Addr} {sl_in_order : Array (Option Value)} {oc_in_order kV_in_order dc_in_order pm_in_order cd_in_order ct_in_order : Value}
    {f_by_share : Addr} {od_by_share an_by_share : Option Addr} {sl_by_share : Array (Option Value)} {oc_by_share kV_by_share dc_by_share pm_by_share cd_by_share ct_by_share : Value}
    {f_check_many : Addr} {od_check_many an_check_many : Option Addr} {sl_check_many : Array (Option Value)} {oc_check_many kV_check_many dc_check_many pm_check_many cd_check_many ct_check_many : Value}
    {f_with_kept : Addr} {od_with_kept an_with_kept : Option Addr} {sl_with_kept : Array (Option Value)} {oc_with_kept kV_with_kept dc_with_kept pm_with_kept cd_with_kept ct_with_kept : Value}
    {f_only : Addr} {od_only an_only : Option Addr} {sl_only : Array (Option Value)} {oc_only kV_only dc_only pm_only cd_only ct_only : Value}
    {f_best_kept : Addr} {od_best_kept an_best_kept : Option Addr} {sl_best_kept : Array (Option Value)} {oc_best_kept kV_best_kept dc_best_kept pm_best_kept cd_best_kept ct_best_kept : Value}
    {f_least_error : Addr} {od_least_error an_least_error : Option Addr} {sl_least_error : Array (Option Value)} {oc_least_error kV_least_error dc_least_error pm_least_error cd_least_error ct_least_error : Value}
    {f_ties : Addr} {od_ties an_ties : Option Addr} {sl_ties : Array (Option Value)} {oc_ties kV_ties dc_ties pm_ties cd_ties ct_ties : Value}
    {f_choose : Addr} {od_choose an_choose : Option Addr} {sl_choose : Array (Option Value)} {oc_choose kV_choose dc_choose pm_choose cd_choose ct_choose : Value}
    {f_count_best : Addr} {od_count_best an_count_best : Option Addr} {sl_count_best : Array (Option Value)} {oc_count_best kV_count_best dc_count_best pm_count_best cd_count_best ct_count_best : Value}
    {f_fewest_within : Addr} {od_fewest_within an_fewest_within : Option Addr} {sl_fewest_within : Array (Option Value)} {oc_fewest_within kV_fewest_within dc_fewest_within pm_fewest_within cd_fewest_within ct_fewest_within : Value}
    {f_greatest_gap : Addr} {od_greatest_gap an_greatest_gap : Option Addr} {sl_greatest_gap : Array (Option Value)} {oc_greatest_gap kV_greatest_gap dc_greatest_gap pm_greatest_gap cd_greatest_gap ct_greatest_gap : Value}
    {f_is_best : Addr} {od_is_best an_is_best : Option Addr} {sl_is_best : Array (Option Value)} {oc_is_best kV_is_best dc_is_best pm_is_best cd_is_best ct_is_best : Value}
    {f_checked : Addr} {od_checked an_checked : Option Addr} {sl_checked : Array (Option Value)} {oc_checked kV_checked dc_checked pm_checked cd_checked ct_checked : Value}
    {f_changed_form : Addr} {od_changed_form an_changed_form : Option Addr} {sl_changed_form : Array (Option Value)} {oc_changed_form kV_changed_form dc_changed_form pm_changed_form cd_changed_form ct_changed_form : Value}
    {f_added : Addr} {od_added an_added : Option Addr} {sl_added : Array (Option Value)} {oc_added kV_added dc_added pm_added cd_added ct_added : Value}
    {f_scaled : Addr} {od_scaled an_scaled : Option Addr} {sl_scaled : Array (Option Value)} {oc_scaled kV_scaled dc_scaled pm_scaled cd_scaled ct_scaled : Value}
    {f_backward_form : Addr} {od_backward_form an_backward_form : Option Addr} {sl_backward_form : Array (Option Value)} {oc_backward_form kV_backward_form dc_backward_form pm_backward_form cd_backward_form ct_backward_form : Value}
    {f_exchanged : Addr} {od_exchanged an_exchanged : Option Addr} {sl_exchanged : Array (Option Value)} {oc_exchanged kV_exchanged dc_exchanged pm_exchanged cd_exchanged ct_exchanged : Value}
    {f_halves_of : Addr} {od_halves_of an_halves_of : Option Addr} {sl_halves_of : Array (Option Value)} {oc_halves_of kV_halves_of dc_halves_of pm_halves_of cd_halves_of ct_halves_of : Value}
    {f_Keeper___init__ : Addr} {od_Keeper___init__ an_Keeper___init__ : Option Addr} {sl_Keeper___init__ : Array (Option Value)} {oc_Keeper___init__ kV_Keeper___init__ dc_Keeper___init__ pm_Keeper___init__ cd_Keeper___init__ ct_Keeper___init__ : Value}
    {f_Keeper_error : Addr} {od_Keeper_error an_Keeper_error : Option Addr} {sl_Keeper_error : Array (Option Value)} {oc_Keeper_error kV_Keeper_error dc_Keeper_error pm_Keeper_error cd_Keeper_error ct_Keeper_error : Value}
    {f_Keeper_kept : Addr} {od_Keeper_kept an_Keeper_kept : Option Addr} {sl_Keeper_kept : Array (Option Value)} {oc_Keeper_kept kV_Keeper_kept dc_Keeper_kept pm_Keeper_kept cd_Keeper_kept ct_Keeper_kept : Value}
    {f_Keeper_value : Addr} {od_Keeper_value an_Keeper_value : Option Addr} {sl_Keeper_value : Array (Option Value)} {oc_Keeper_value kV_Keeper_value dc_Keeper_value pm_Keeper_value cd_Keeper_value ct_Keeper_value : Value}
    {f_Keeper___len__ : Addr} {od_Keeper___len__ an_Keeper___len__ : Option Addr} {sl_Keeper___len__ : Array (Option Value)} {oc_Keeper___len__ kV_Keeper___len__ dc_Keeper___len__ pm_Keeper___len__ cd_Keeper___len__ ct_Keeper___len__ : Value}
    {f_format_form : Addr} {od_format_form an_format_form : Option Addr} {sl_format_form : Array (Option Value)} {oc_format_form kV_format_form dc_format_form pm_format_form cd_format_form ct_format_form : Value}
    {f_law_start : Addr} {od_law_start an_law_start : Option Addr} {sl_law_start : Array (Option Value)} {oc_law_start kV_law_start dc_law_start pm_law_start cd_law_start ct_law_start : Value}
    {f_law_draw : Addr} {od_law_draw an_law_draw : Option Addr} {sl_law_draw : Array (Option Value)} {oc_law_draw kV_law_draw dc_law_draw pm_law_draw cd_law_draw ct_law_draw : Value}
    {f_law_error : Addr} {od_law_error an_law_error : Option Addr} {sl_law_error : Array (Option Value)} {oc_law_error kV_law_error dc_law_error pm_law_error cd_law_error ct_law_error : Value}
    {f_law_one : Addr} {od_law_one an_law_one : Option Addr} {sl_law_one : Array (Option Value)} {oc_law_one kV_law_one dc_law_one pm_law_one cd_law_one ct_law_one : Value}
    {f_law_two : Addr} {od_law_two an_law_two : Option Addr} {sl_law_two : Array (Option Value)} {oc_law_two kV_law_two dc_law_two pm_law_two cd_law_two ct_law_two : Value}
    {f_law_asked : Addr} {od_law_asked an_law_asked : Option Addr} {sl_law_asked : Array (Option Value)} {oc_law_asked kV_law_asked dc_law_asked pm_law_asked cd_law_asked ct_law_asked : Value}
    {f_law_choices : Addr} {od_law_choices an_law_choices : Option Addr} {sl_law_choices : Array (Option Value)} {oc_law_choices kV_law_choices dc_law_choices pm_law_choices cd_law_choices ct_law_choices : Value}
    {f_law : Addr} {od_law an_law : Option Addr} {sl_law : Array (Option Value)} {oc_law kV_law dc_law pm_law cd_law ct_law : Value}
    (z_isinstance : PySem.W.nsIn K mainGlobals "isinstance" = some none)
    (z_int : PySem.W.nsIn K mainGlobals "int" = some none)
    (z_bool : PySem.W.nsIn K mainGlobals "bool" = some none)
    (z_list : PySem.W.nsIn K mainGlobals "list" = some none)
    (z_tuple : PySem.W.nsIn K mainGlobals "tuple" = some none)
    (z_str : PySem.W.nsIn K mainGlobals "str" = some none)
    (z_set : PySem.W.nsIn K mainGlobals "set" = some none)
    (z_len : PySem.W.nsIn K mainGlobals "len" = some none)
    (z_abs : PySem.W.nsIn K mainGlobals "abs" = some none)
    (z_max : PySem.W.nsIn K mainGlobals "max" = some none)
    (z_sum : PySem.W.nsIn K mainGlobals "sum" = some none)
    (z_all : PySem.W.nsIn K mainGlobals "all" = some none)
    (z_sorted : PySem.W.nsIn K mainGlobals "sorted" = some none)
    (z_range : PySem.W.nsIn K mainGlobals "range" = some none)
    (z_zip : PySem.W.nsIn K mainGlobals "zip" = some none)
    (z_enumerate : PySem.W.nsIn K mainGlobals "enumerate" = some none)
    (n_LENGTHS : PySem.W.nsIn K mainGlobals "LENGTHS" = some (some (.ref a_LENGTHS)))
    (l_LENGTHS : K.lookup a_LENGTHS = some ⟨.type "tuple", dd_LENGTHS, .seq #[.int 1 t0_LENGTHS, .int 2 t1_LENGTHS, .int 4 t2_LENGTHS, .int 8 t3_LENGTHS, .int 16 t4_LENGTHS] n_LENGTHS0, sl_LENGTHS⟩)
    (n_MOST_PART : PySem.W.nsIn K mainGlobals "MOST_PART" = some (some (.int 10000 t_MOST_PART)))
    (n_MOST : PySem.W.nsIn K mainGlobals "MOST" = some (some (.int 1000000000 t_MOST)))
    (n_BadRow : PySem.W.nsIn K mainGlobals "BadRow" = some (some (.ref C_BadRow)))
    (x_BadRow : PySem.W.excIn K C_BadRow [.type "ValueError", .type "Exception", .type "BaseException", .type "object"] "ValueError.__new__" = true)
    (k_BadRow : PySem.W.keepIn K (.ref C_BadRow) = true)
    (b_BadRow : PySem.W.subIn K (.ref C_BadRow) (.type "BaseException") = some true)
    (t_BadRow : PySem.W.typeIn K (.ref C_BadRow) = some (.type "type"))
    (n_BadForm : PySem.W.nsIn K mainGlobals "BadForm" = some (some (.ref C_BadForm)))
    (x_BadForm : PySem.W.excIn K C_BadForm [.type "ValueError", .type "Exception", .type "BaseException", .type "object"] "ValueError.__new__" = true)
    (k_BadForm : PySem.W.keepIn K (.ref C_BadForm) = true)
    (b_BadForm : PySem.W.subIn K (.ref C_BadForm) (.type "BaseException") = some true)
    (t_BadForm : PySem.W.typeIn K (.ref C_BadForm) = some (.type "type"))
    (n_BadNumber : PySem.W.nsIn K mainGlobals "BadNumber" = some (some (.ref C_BadNumber)))
    (x_BadNumber : PySem.W.excIn K C_BadNumber [.type "ValueError", .type "Exception", .type "BaseException", .type "object"] "ValueError.__new__" = true)
    (k_BadNumber : PySem.W.keepIn K (.ref C_BadNumber) = true)
    (b_BadNumber : PySem.W.subIn K (.ref C_BadNumber) (.type "BaseException") = some true)
    (t_BadNumber : PySem.W.typeIn K (.ref C_BadNumber) = some (.type "type"))
    (n_BadKept : PySem.W.nsIn K mainGlobals "BadKept" = some (some (.ref C_BadKept)))
    (x_BadKept : PySem.W.excIn K C_BadKept [.type "ValueError", .type "Exception", .type "BaseException", .type "object"] "ValueError.__new__" = true)
    (k_BadKept : PySem.W.keepIn K (.ref C_BadKept) = true)
    (b_BadKept : PySem.W.subIn K (.ref C_BadKept) (.type "BaseException") = some true)
    (t_BadKept : PySem.W.typeIn K (.ref C_BadKept) = some (.type "type"))
    (n_BadText : PySem.W.nsIn K mainGlobals "BadText" = some (some (.ref C_BadText)))
    (x_BadText : PySem.W.excIn K C_BadText [.type "ValueError", .type "Exception", .type "BaseException", .type "object"] "ValueError.__new__" = true)
    (k_BadText : PySem.W.keepIn K (.ref C_BadText) = true)
    (b_BadText : PySem.W.subIn K (.ref C_BadText) (.type "BaseException") = some true)
    (t_BadText : PySem.W.typeIn K (.ref C_BadText) = some (.type "type"))
    (n_NotFound : PySem.W.nsIn K mainGlobals "NotFound" = some (some (.ref C_NotFound)))
    (x_NotFound : PySem.W.excIn K C_NotFound [.type "ValueError", .type "Exception", .type "BaseException", .type "object"] "ValueError.__new__" = true)
    (k_NotFound : PySem.W.keepIn K (.ref C_NotFound) = true)
    (b_NotFound : PySem.W.subIn K (.ref C_NotFound) (.type "BaseException") = some true)
    (t_NotFound : PySem.W.typeIn K (.ref C_NotFound) = some (.type "type"))
    (n_HaarError : PySem.W.nsIn K mainGlobals "HaarError" = some (some (.ref C_HaarError)))
    (z_ValueError : PySem.W.nsIn K mainGlobals "ValueError" = some none)
    (ex_n : PySem.W.specialIn K (.builtin "object.__class__") "__get__" = some (some (.builtin "getset_descriptor.__get__")))
    (ex_t : PySem.W.takesIn K (.builtin "object.__class__") = some true)
    (xg_BadRow : PySem.W.findIn K (.ref C_BadRow) "__getattribute__" = some (some (.builtin "BaseException.__getattribute__")))
    (xk_BadRow : PySem.W.findIn K (.ref C_BadRow) "__getattr__" = some none)
    (xd_BadRow : PySem.W.hasDictIn K C_BadRow = true)
    (xa_BadRow : PySem.W.findIn K (.ref C_BadRow) "__class__" = some (some (.builtin "object.__class__")))
    (xm_BadRow : PySem.W.mroIn K C_BadRow (.type "object") = some true)
    (xv_BadRow : PySem.W.subIn K (.ref C_BadRow) (.type "ValueError") = some true)
    (xi_BadRow_HaarError : PySem.W.subIn K (.ref C_BadRow) (.ref C_HaarError) = some true)
    (xi_BadRow_BadRow : PySem.W.subIn K (.ref C_BadRow) (.ref C_BadRow) = some true)
    (xi_BadRow_BadForm : PySem.W.subIn K (.ref C_BadRow) (.ref C_BadForm) = some false)
    (xi_BadRow_BadNumber : PySem.W.subIn K (.ref C_BadRow) (.ref C_BadNumber) = some false)
    (xi_BadRow_BadKept : PySem.W.subIn K (.ref C_BadRow) (.ref C_BadKept) = some false)
    (xi_BadRow_BadText : PySem.W.subIn K (.ref C_BadRow) (.ref C_BadText) = some false)
    (xi_BadRow_NotFound : PySem.W.subIn K (.ref C_BadRow) (.ref C_NotFound) = some false)
    (xg_BadForm : PySem.W.findIn K (.ref C_BadForm) "__getattribute__" = some (some (.builtin "BaseException.__getattribute__")))
    (xk_BadForm : PySem.W.findIn K (.ref C_BadForm) "__getattr__" = some none)
    (xd_BadForm : PySem.W.hasDictIn K C_BadForm = true)
    (xa_BadForm : PySem.W.findIn K (.ref C_BadForm) "__class__" = some (some (.builtin "object.__class__")))
    (xm_BadForm : PySem.W.mroIn K C_BadForm (.type "object") = some true)
    (xv_BadForm : PySem.W.subIn K (.ref C_BadForm) (.type "ValueError") = some true)
    (xi_BadForm_HaarError : PySem.W.subIn K (.ref C_BadForm) (.ref C_HaarError) = some true)
    (xi_BadForm_BadRow : PySem.W.subIn K (.ref C_BadForm) (.ref C_BadRow) = some false)
    (xi_BadForm_BadForm : PySem.W.subIn K (.ref C_BadForm) (.ref C_BadForm) = some true)
    (xi_BadForm_BadNumber : PySem.W.subIn K (.ref C_BadForm) (.ref C_BadNumber) = some false)
    (xi_BadForm_BadKept : PySem.W.subIn K (.ref C_BadForm) (.ref C_BadKept) = some false)
    (xi_BadForm_BadText : PySem.W.subIn K (.ref C_BadForm) (.ref C_BadText) = some false)
    (xi_BadForm_NotFound : PySem.W.subIn K (.ref C_BadForm) (.ref C_NotFound) = some false)
    (xg_BadNumber : PySem.W.findIn K (.ref C_BadNumber) "__getattribute__" = some (some (.builtin "BaseException.__getattribute__")))
    (xk_BadNumber : PySem.W.findIn K (.ref C_BadNumber) "__getattr__" = some none)
    (xd_BadNumber : PySem.W.hasDictIn K C_BadNumber = true)
    (xa_BadNumber : PySem.W.findIn K (.ref C_BadNumber) "__class__" = some (some (.builtin "object.__class__")))
    (xm_BadNumber : PySem.W.mroIn K C_BadNumber (.type "object") = some true)
    (xv_BadNumber : PySem.W.subIn K (.ref C_BadNumber) (.type "ValueError") = some true)
    (xi_BadNumber_HaarError : PySem.W.subIn K (.ref C_BadNumber) (.ref C_HaarError) = some true)
    (xi_BadNumber_BadRow : PySem.W.subIn K (.ref C_BadNumber) (.ref C_BadRow) = some false)
    (xi_BadNumber_BadForm : PySem.W.subIn K (.ref C_BadNumber) (.ref C_BadForm) = some false)
    (xi_BadNumber_BadNumber : PySem.W.subIn K (.ref C_BadNumber) (.ref C_BadNumber) = some true)
    (xi_BadNumber_BadKept : PySem.W.subIn K (.ref C_BadNumber) (.ref C_BadKept) = some false)
    (xi_BadNumber_BadText : PySem.W.subIn K (.ref C_BadNumber) (.ref C_BadText) = some false)
    (xi_BadNumber_NotFound : PySem.W.subIn K (.ref C_BadNumber) (.ref C_NotFound) = some false)
    (xg_BadKept : PySem.W.findIn K (.ref C_BadKept) "__getattribute__" = some (some (.builtin "BaseException.__getattribute__")))
    (xk_BadKept : PySem.W.findIn K (.ref C_BadKept) "__getattr__" = some none)
    (xd_BadKept : PySem.W.hasDictIn K C_BadKept = true)
    (xa_BadKept : PySem.W.findIn K (.ref C_BadKept) "__class__" = some (some (.builtin "object.__class__")))
    (xm_BadKept : PySem.W.mroIn K C_BadKept (.type "object") = some true)
    (xv_BadKept : PySem.W.subIn K (.ref C_BadKept) (.type "ValueError") = some true)
    (xi_BadKept_HaarError : PySem.W.subIn K (.ref C_BadKept) (.ref C_HaarError) = some true)
    (xi_BadKept_BadRow : PySem.W.subIn K (.ref C_BadKept) (.ref C_BadRow) = some false)
    (xi_BadKept_BadForm : PySem.W.subIn K (.ref C_BadKept) (.ref C_BadForm) = some false)
    (xi_BadKept_BadNumber : PySem.W.subIn K (.ref C_BadKept) (.ref C_BadNumber) = some false)
    (xi_BadKept_BadKept : PySem.W.subIn K (.ref C_BadKept) (.ref C_BadKept) = some true)
    (xi_BadKept_BadText : PySem.W.subIn K (.ref C_BadKept) (.ref C_BadText) = some false)
    (xi_BadKept_NotFound : PySem.W.subIn K (.ref C_BadKept) (.ref C_NotFound) = some false)
    (xg_BadText : PySem.W.findIn K (.ref C_BadText) "__getattribute__" = some (some (.builtin "BaseException.__getattribute__")))
    (xk_BadText : PySem.W.findIn K (.ref C_BadText) "__getattr__" = some none)
    (xd_BadText : PySem.W.hasDictIn K C_BadText = true)
    (xa_BadText : PySem.W.findIn K (.ref C_BadText) "__class__" = some (some (.builtin "object.__class__")))
    (xm_BadText : PySem.W.mroIn K C_BadText (.type "object") = some true)
    (xv_BadText : PySem.W.subIn K (.ref C_BadText) (.type "ValueError") = some true)
    (xi_BadText_HaarError : PySem.W.subIn K (.ref C_BadText) (.ref C_HaarError) = some true)
    (xi_BadText_BadRow : PySem.W.subIn K (.ref C_BadText) (.ref C_BadRow) = some false)
    (xi_BadText_BadForm : PySem.W.subIn K (.ref C_BadText) (.ref C_BadForm) = some false)
    (xi_BadText_BadNumber : PySem.W.subIn K (.ref C_BadText) (.ref C_BadNumber) = some false)
    (xi_BadText_BadKept : PySem.W.subIn K (.ref C_BadText) (.ref C_BadKept) = some false)
    (xi_BadText_BadText : PySem.W.subIn K (.ref C_BadText) (.ref C_BadText) = some true)
    (xi_BadText_NotFound : PySem.W.subIn K (.ref C_BadText) (.ref C_NotFound) = some false)
    (xg_NotFound : PySem.W.findIn K (.ref C_NotFound) "__getattribute__" = some (some (.builtin "BaseException.__getattribute__")))
    (xk_NotFound : PySem.W.findIn K (.ref C_NotFound) "__getattr__" = some none)
    (xd_NotFound : PySem.W.hasDictIn K C_NotFound = true)
    (xa_NotFound : PySem.W.findIn K (.ref C_NotFound) "__class__" = some (some (.builtin "object.__class__")))
    (xm_NotFound : PySem.W.mroIn K C_NotFound (.type "object") = some true)
    (xv_NotFound : PySem.W.subIn K (.ref C_NotFound) (.type "ValueError") = some true)
    (xi_NotFound_HaarError : PySem.W.subIn K (.ref C_NotFound) (.ref C_HaarError) = some true)
    (xi_NotFound_BadRow : PySem.W.subIn K (.ref C_NotFound) (.ref C_BadRow) = some false)
    (xi_NotFound_BadForm : PySem.W.subIn K (.ref C_NotFound) (.ref C_BadForm) = some false)
    (xi_NotFound_BadNumber : PySem.W.subIn K (.ref C_NotFound) (.ref C_BadNumber) = some false)
    (xi_NotFound_BadKept : PySem.W.subIn K (.ref C_NotFound) (.ref C_BadKept) = some false)
    (xi_NotFound_BadText : PySem.W.subIn K (.ref C_NotFound) (.ref C_BadText) = some false)
    (xi_NotFound_NotFound : PySem.W.subIn K (.ref C_NotFound) (.ref C_NotFound) = some true)
    (b_HaarError : PySem.W.subIn K (.ref C_HaarError) (.type "BaseException") = some true)
    (xd_HaarError : PySem.W.hasDictIn K C_HaarError = true)
    (t_HaarError : PySem.W.typeIn K (.ref C_HaarError) = some (.type "type"))
    (n_Keeper : PySem.W.nsIn K mainGlobals "Keeper" = some (some (.ref C_Keeper)))
    (kp_pg : PySem.W.plainGet K C_Keeper Str.empty = true)
    (kp_hd : PySem.W.hasDictIn K C_Keeper = true)
    (kp_po : PySem.W.plainOver K C_Keeper = true)
    (kp_sa : PySem.W.findIn K (.ref C_Keeper) "__setattr__" = some (some (.builtin "object.__setattr__")))
    (kp_mk : PySem.W.makesIn K C_Keeper = true)
    (kp_kc : PySem.W.keepIn K (.ref C_Keeper) = true)
    (kp_nf : PySem.W.findIn K (.ref C_Keeper) "form" = some none)
    (kp_nr : PySem.W.findIn K (.ref C_Keeper) "row" = some none)
    (a_is_int : PySem.W.nsIn K mainGlobals "is_int" = some (some (.ref f_is_int)))
    (l_is_int : K.lookup f_is_int = some ⟨oc_is_int, od_is_int, .func (PySem.W.fnOf "is_int" "is_int" (defArgs s_is_int) (defBody s_is_int) (defScope s_is_int) .none kV_is_int dc_is_int pm_is_int an_is_int cd_is_int ct_is_int), sl_is_int⟩)
    (c_is_int : PySem.W.codeIn K cd_is_int "is_int" = true)
    (k_is_int : PySem.W.keepIn K (.ref f_is_int) = true)
    (a_is_form : PySem.W.nsIn K mainGlobals "is_form" = some (some (.ref f_is_form)))
    (l_is_form : K.lookup f_is_form = some ⟨oc_is_form, od_is_form, .func (PySem.W.fnOf "is_form" "is_form" (defArgs s_is_form) (defBody s_is_form) (defScope s_is_form) .none kV_is_form dc_is_form pm_is_form an_is_form cd_is_form ct_is_form), sl_is_form⟩)
    (c_is_form : PySem.W.codeIn K cd_is_form "is_form" = true)
    (k_is_form : PySem.W.keepIn K (.ref f_is_form) = true)
    (a_check_form : PySem.W.nsIn K mainGlobals "check_form" = some (some (.ref f_check_form)))
    (l_check_form : K.lookup f_check_form = some ⟨oc_check_form, od_check_form, .func (PySem.W.fnOf "check_form" "check_form" (defArgs s_check_form) (defBody s_check_form) (defScope s_check_form) .none kV_check_form dc_check_form pm_check_form an_check_form cd_check_form ct_check_form), sl_check_form⟩)
    (c_check_form : PySem.W.codeIn K cd_check_form "check_form" = true)
    (k_check_form : PySem.W.keepIn K (.ref f_check_form) = true)
    (a_check_place : PySem.W.nsIn K mainGlobals "check_place" = some (some (.ref f_check_place)))
    (l_check_place : K.lookup f_check_place = some ⟨oc_check_place, od_check_place, .func (PySem.W.fnOf "check_place" "check_place" (defArgs s_check_place) (defBody s_check_place) (defScope s_check_place) .none kV_check_place dc_check_place pm_check_place an_check_place cd_check_place ct_check_place), sl_check_place⟩)
    (c_check_place : PySem.W.codeIn K cd_check_place "check_place" = true)
    (k_check_place : PySem.W.keepIn K (.ref f_check_place) = true)
    (a_is_kept : PySem.W.nsIn K mainGlobals "is_kept" = some (some (.ref f_is_kept)))
    (l_is_kept : K.lookup f_is_kept = some ⟨oc_is_kept, od_is_kept, .func (PySem.W.fnOf "is_kept" "is_kept" (defArgs s_is_kept) (defBody s_is_kept) (defScope s_is_kept) .none kV_is_kept dc_is_kept pm_is_kept an_is_kept cd_is_kept ct_is_kept), sl_is_kept⟩)
    (c_is_kept : PySem.W.codeIn K cd_is_kept "is_kept" = true)
    (k_is_kept : PySem.W.keepIn K (.ref f_is_kept) = true)
    (a_check_kept : PySem.W.nsIn K mainGlobals "check_kept" = some (some (.ref f_check_kept)))
    (l_check_kept : K.lookup f_check_kept = some ⟨oc_check_kept, od_check_kept, .func (PySem.W.fnOf "check_kept" "check_kept" (defArgs s_check_kept) (defBody s_check_kept) (defScope s_check_kept) .none kV_check_kept dc_check_kept pm_check_kept an_check_kept cd_check_kept ct_check_kept), sl_check_kept⟩)
    (c_check_kept : PySem.W.codeIn K cd_check_kept "check_kept" = true)
    (k_check_kept : PySem.W.keepIn K (.ref f_check_kept) = true)
    (a_halves : PySem.W.nsIn K mainGlobals "halves" = some (some (.ref f_halves)))
    (l_halves : K.lookup f_halves = some ⟨oc_halves, od_halves, .func (PySem.W.fnOf "halves" "halves" (defArgs s_halves) (defBody s_halves) (defScope s_halves) .none kV_halves dc_halves pm_halves an_halves cd_halves ct_halves), sl_halves⟩)
    (c_halves : PySem.W.codeIn K cd_halves "halves" = true)
    (k_halves : PySem.W.keepIn K (.ref f_halves) = true)
    (a_sums_of : PySem.W.nsIn K mainGlobals "sums_of" = some (some (.ref f_sums_of)))
    (l_sums_of : K.lookup f_sums_of = some ⟨oc_sums_of, od_sums_of, .func (PySem.W.fnOf "sums_of" "sums_of" (defArgs s_sums_of) (defBody s_sums_of) (defScope s_sums_of) .none kV_sums_of dc_sums_of pm_sums_of an_sums_of cd_sums_of ct_sums_of), sl_sums_of⟩)
    (c_sums_of : PySem.W.codeIn K cd_sums_of "sums_of" = true)
    (k_sums_of : PySem.W.keepIn K (.ref f_sums_of) = true)
    (a_has_row : PySem.W.nsIn K mainGlobals "has_row" = some (some (.ref f_has_row)))
    (l_has_row : K.lookup f_has_row = some ⟨oc_has_row, od_has_row, .func (PySem.W.fnOf "has_row" "has_row" (defArgs s_has_row) (defBody s_has_row) (defScope s_has_row) .none kV_has_row dc_has_row pm_has_row an_has_row cd_has_row ct_has_row), sl_has_row⟩)
    (c_has_row : PySem.W.codeIn K cd_has_row "has_row" = true)
    (k_has_row : PySem.W.keepIn K (.ref f_has_row) = true)
    (a_first_odd : PySem.W.nsIn K mainGlobals "first_odd" = some (some (.ref f_first_odd)))
    (l_first_odd : K.lookup f_first_odd = some ⟨oc_first_odd, od_first_odd, .func (PySem.W.fnOf "first_odd" "first_odd" (defArgs s_first_odd) (defBody s_first_odd) (defScope s_first_odd) .none kV_first_odd dc_first_odd pm_first_odd an_first_odd cd_first_odd ct_first_odd), sl_first_odd⟩)
    (c_first_odd : PySem.W.codeIn K cd_first_odd "first_odd" = true)
    (k_first_odd : PySem.W.keepIn K (.ref f_first_odd) = true)
    (a_list_of : PySem.W.nsIn K mainGlobals "list_of" = some (some (.ref f_list_of)))
    (l_list_of : K.lookup f_list_of = some ⟨oc_list_of, od_list_of, .func (PySem.W.fnOf "list_of" "list_of" (defArgs s_list_of) (defBody s_list_of) (defScope s_list_of) .none kV_list_of dc_list_of pm_list_of an_list_of cd_list_of ct_list_of), sl_list_of⟩)
    (c_list_of : PySem.W.codeIn K cd_list_of "list_of" = true)
    (k_list_of : PySem.W.keepIn K (.ref f_list_of) = true)
    (a_block_size : PySem.W.nsIn K mainGlobals "block_size" = some (some (.ref f_block_size)))
    (l_block_size : K.lookup f_block_size = some ⟨oc_block_size, od_block_size, .func (PySem.W.fnOf "block_size" "block_size" (defArgs s_block_size) (defBody s_block_size) (defScope s_block_size) .none kV_block_size dc_block_size pm_block_size an_block_size cd_block_size ct_block_size), sl_block_size⟩)
    (c_block_size : PySem.W.codeIn K cd_block_size "block_size" = true)
    (k_block_size : PySem.W.keepIn K (.ref f_block_size) = true)
    (a_place_of : PySem.W.nsIn K mainGlobals "place_of" = some (some (.ref f_place_of)))
    (l_place_of : K.lookup f_place_of = some ⟨oc_place_of, od_place_of, .func (PySem.W.fnOf "place_of" "place_of" (defArgs s_place_of) (defBody s_place_of) (defScope s_place_of) .none kV_place_of dc_place_of pm_place_of an_place_of cd_place_of ct_place_of), sl_place_of⟩)
    (c_place_of : PySem.W.codeIn K cd_place_of "place_of" = true)
    (k_place_of : PySem.W.keepIn K (.ref f_place_of) = true)
    (a_sign_at : PySem.W.nsIn K mainGlobals "sign_at" = some (some (.ref f_sign_at)))
    (l_sign_at : K.lookup f_sign_at = some ⟨oc_sign_at, od_sign_at, .func (PySem.W.fnOf "sign_at" "sign_at" (defArgs s_sign_at) (defBody s_sign_at) (defScope s_sign_at) .none kV_sign_at dc_sign_at pm_sign_at an_sign_at cd_sign_at ct_sign_at), sl_sign_at⟩)
    (c_sign_at : PySem.W.codeIn K cd_sign_at "sign_at" = true)
    (k_sign_at : PySem.W.keepIn K (.ref f_sign_at) = true)
    (a_common : PySem.W.nsIn K mainGlobals "common" = some (some (.ref f_common)))
    (l_common : K.lookup f_common = some ⟨oc_common, od_common, .func (PySem.W.fnOf "common" "common" (defArgs s_common) (defBody s_common) (defScope s_common) .none kV_common dc_common pm_common an_common cd_common ct_common), sl_common⟩)
    (c_common : PySem.W.codeIn K cd_common "common" = true)
    (k_common : PySem.W.keepIn K (.ref f_common) = true)
    (a_lowest : PySem.W.nsIn K mainGlobals "lowest" = some (some (.ref f_lowest)))
    (l_lowest : K.lookup f_lowest = some ⟨oc_lowest, od_lowest, .func (PySem.W.fnOf "lowest" "lowest" (defArgs s_lowest) (defBody s_lowest) (defScope s_lowest) .none kV_lowest dc_lowest pm_lowest an_lowest cd_lowest ct_lowest), sl_lowest⟩)
    (c_lowest : PySem.W.codeIn K cd_lowest "lowest" = true)
    (k_lowest : PySem.W.keepIn K (.ref f_lowest) = true)
    (a_plus : PySem.W.nsIn K mainGlobals "plus" = some (some (.ref f_plus)))
    (l_plus : K.lookup f_plus = some ⟨oc_plus, od_plus, .func (PySem.W.fnOf "plus" "plus" (defArgs s_plus) (defBody s_plus) (defScope s_plus) .none kV_plus dc_plus pm_plus an_plus cd_plus ct_plus), sl_plus⟩)
    (c_plus : PySem.W.codeIn K cd_plus "plus" = true)
    (k_plus : PySem.W.keepIn K (.ref f_plus) = true)
    (a_less : PySem.W.nsIn K mainGlobals "less" = some (some (.ref f_less)))
    (l_less : K.lookup f_less = some ⟨oc_less, od_less, .func (PySem.W.fnOf "less" "less" (defArgs s_less) (defBody s_less) (defScope s_less) .none kV_less dc_less pm_less an_less cd_less ct_less), sl_less⟩)
    (c_less : PySem.W.codeIn K cd_less "less" = true)
    (k_less : PySem.W.keepIn K (.ref f_less) = true)
    (a_total : PySem.W.nsIn K mainGlobals "total" = some (some (.ref f_total)))
    (l_total : K.lookup f_total = some ⟨oc_total, od_total, .func (PySem.W.fnOf "total" "total" (defArgs s_total) (defBody s_total) (defScope s_total) .none kV_total dc_total pm_total an_total cd_total ct_total), sl_total⟩)
    (c_total : PySem.W.codeIn K cd_total "total" = true)
    (k_total : PySem.W.keepIn K (.ref f_total) = true)
    (a_is_size : PySem.W.nsIn K mainGlobals "is_size" = some (some (.ref f_is_size)))
    (l_is_size : K.lookup f_is_size = some ⟨oc_is_size, od_is_size, .func (PySem.W.fnOf "is_size" "is_size" (defArgs s_is_size) (defBody s_is_size) (defScope s_is_size) .none kV_is_size dc_is_size pm_is_size an_is_size cd_is_size ct_is_size), sl_is_size⟩)
    (c_is_size : PySem.W.codeIn K cd_is_size "is_size" = true)
    (k_is_size : PySem.W.keepIn K (.ref f_is_size) = true)
    (a_check_size : PySem.W.nsIn K mainGlobals "check_size" = some (some (.ref f_check_size)))
    (l_check_size : K.lookup f_check_size = some ⟨oc_check_size, od_check_size, .func (PySem.W.fnOf "check_size" "check_size" (defArgs s_check_size) (defBody s_check_size) (defScope s_check_size) .none kV_check_size dc_check_size pm_check_size an_check_size cd_check_size ct_check_size), sl_check_size⟩)
    (c_check_size : PySem.W.codeIn K cd_check_size "check_size" = true)
    (k_check_size : PySem.W.keepIn K (.ref f_check_size) = true)
    (a_value_of : PySem.W.nsIn K mainGlobals "value_of" = some (some (.ref f_value_of)))
    (l_value_of : K.lookup f_value_of = some ⟨oc_value_of, od_value_of, .func (PySem.W.fnOf "value_of" "value_of" (defArgs s_value_of) (defBody s_value_of) (defScope s_value_of) .none kV_value_of dc_value_of pm_value_of an_value_of cd_value_of ct_value_of), sl_value_of⟩)
    (c_value_of : PySem.W.codeIn K cd_value_of "value_of" = true)
    (k_value_of : PySem.W.keepIn K (.ref f_value_of) = true)
    (a_value_at : PySem.W.nsIn K mainGlobals "value_at" = some (some (.ref f_value_at)))
    (l_value_at : K.lookup f_value_at = some ⟨oc_value_at, od_value_at, .func (PySem.W.fnOf "value_at" "value_at" (defArgs s_value_at) (defBody s_value_at) (defScope s_value_at) .none kV_value_at dc_value_at pm_value_at an_value_at cd_value_at ct_value_at), sl_value_at⟩)
    (c_value_at : PySem.W.codeIn K cd_value_at "value_at" = true)
    (k_value_at : PySem.W.keepIn K (.ref f_value_at) = true)
    (a_all_values : PySem.W.nsIn K mainGlobals "all_values" = some (some (.ref f_all_values)))
    (l_all_values : K.lookup f_all_values = some ⟨oc_all_values, od_all_values, .func (PySem.W.fnOf "all_values" "all_values" (defArgs s_all_values) (defBody s_all_values) (defScope s_all_values) .none kV_all_values dc_all_values pm_all_values an_all_values cd_all_values ct_all_values), sl_all_values⟩)
    (c_all_values : PySem.W.codeIn K cd_all_values "all_values" = true)
    (k_all_values : PySem.W.keepIn K (.ref f_all_values) = true)
    (a_sum_from_to : PySem.W.nsIn K mainGlobals "sum_from_to" = some (some (.ref f_sum_from_to)))
    (l_sum_from_to : K.lookup f_sum_from_to = some ⟨oc_sum_from_to, od_sum_from_to, .func (PySem.W.fnOf "sum_from_to" "sum_from_to" (defArgs s_sum_from_to) (defBody s_sum_from_to) (defScope s_sum_from_to) .none kV_sum_from_to dc_sum_from_to pm_sum_from_to an_sum_from_to cd_sum_from_to ct_sum_from_to), sl_sum_from_to⟩)
    (c_sum_from_to : PySem.W.codeIn K cd_sum_from_to "sum_from_to" = true)
    (k_sum_from_to : PySem.W.keepIn K (.ref f_sum_from_to) = true)
    (a_details_for : PySem.W.nsIn K mainGlobals "details_for" = some (some (.ref f_details_for)))
    (l_details_for : K.lookup f_details_for = some ⟨oc_details_for, od_details_for, .func (PySem.W.fnOf "details_for" "details_for" (defArgs s_details_for) (defBody s_details_for) (defScope s_details_for) .none kV_details_for dc_details_for pm_details_for an_details_for cd_details_for ct_details_for), sl_details_for⟩)
    (c_details_for : PySem.W.codeIn K cd_details_for "details_for" = true)
    (k_details_for : PySem.W.keepIn K (.ref f_details_for) = true)
    (a_means : PySem.W.nsIn K mainGlobals "means" = some (some (.ref f_means)))
    (l_means : K.lookup f_means = some ⟨oc_means, od_means, .func (PySem.W.fnOf "means" "means" (defArgs s_means) (defBody s_means) (defScope s_means) .none kV_means dc_means pm_means an_means cd_means ct_means), sl_means⟩)
    (c_means : PySem.W.codeIn K cd_means "means" = true)
    (k_means : PySem.W.keepIn K (.ref f_means) = true)
    (a_share_of : PySem.W.nsIn K mainGlobals "share_of" = some (some (.ref f_share_of)))
    (l_share_of : K.lookup f_share_of = some ⟨oc_share_of, od_share_of, .func (PySem.W.fnOf "share_of" "share_of" (defArgs s_share_of) (defBody s_share_of) (defScope s_share_of) .none kV_share_of dc_share_of pm_share_of an_share_of cd_share_of ct_share_of), sl_share_of⟩)
    (c_share_of : PySem.W.codeIn K cd_share_of "share_of" = true)
    (k_share_of : PySem.W.keepIn K (.ref f_share_of) = true)
    (a_share : PySem.W.nsIn K mainGlobals "share" = some (some (.ref f_share)))
    (l_share : K.lookup f_share = some ⟨oc_share, od_share, .func (PySem.W.fnOf "share" "share" (defArgs s_share) (defBody s_share) (defScope s_share) .none kV_share dc_share pm_share an_share cd_share ct_share), sl_share⟩)
    (c_share : PySem.W.codeIn K cd_share "share" = true)
    (k_share : PySem.W.keepIn K (.ref f_share) = true)
    (a_shares : PySem.W.nsIn K mainGlobals "shares" = some (some (.ref f_shares)))
    (l_shares : K.lookup f_shares = some ⟨oc_shares, od_shares, .func (PySem.W.fnOf "shares" "shares" (defArgs s_shares) (defBody s_shares) (defScope s_shares) .none kV_shares dc_shares pm_shares an_shares cd_shares ct_shares), sl_shares⟩)
    (c_shares : PySem.W.codeIn K cd_shares "shares" = true)
    (k_shares : PySem.W.keepIn K (.ref f_shares) = true)
    (a_left_out : PySem.W.nsIn K mainGlobals "left_out" = some (some (.ref f_left_out)))
    (l_left_out : K.lookup f_left_out = some ⟨oc_left_out, od_left_out, .func (PySem.W.fnOf "left_out" "left_out" (defArgs s_left_out) (defBody s_left_out) (defScope s_left_out) .none kV_left_out dc_left_out pm_left_out an_left_out cd_left_out ct_left_out), sl_left_out⟩)
    (c_left_out : PySem.W.codeIn K cd_left_out "left_out" = true)
    (k_left_out : PySem.W.keepIn K (.ref f_left_out) = true)
    (a_in_order : PySem.W.nsIn K mainGlobals "in_order" = some (some (.ref f_in_order)))
    (l_in_order : K.lookup f_in_order = some ⟨oc_in_order, od_in_order, .func (PySem.W.fnOf "in_order" "in_order" (defArgs s_in_order) (defBody s_in_order) (defScope s_in_order) .none kV_in_order dc_in_order pm_in_order an_in_order cd_in_order ct_in_order), sl_in_order⟩)
    (c_in_order : PySem.W.codeIn K cd_in_order "in_order" = true)
    (k_in_order : PySem.W.keepIn K (.ref f_in_order) = true)
    (a_by_share : PySem.W.nsIn K mainGlobals "by_share" = some (some (.ref f_by_share)))
    (l_by_share : K.lookup f_by_share = some ⟨oc_by_share, od_by_share, .func (PySem.W.fnOf "by_share" "by_share" (defArgs s_by_share) (defBody s_by_share) (defScope s_by_share) .none kV_by_share dc_by_share pm_by_share an_by_share cd_by_share ct_by_share), sl_by_share⟩)
    (c_by_share : PySem.W.codeIn K cd_by_share "by_share" = true)
    (k_by_share : PySem.W.keepIn K (.ref f_by_share) = true)
    (a_check_many : PySem.W.nsIn K mainGlobals "check_many" = some (some (.ref f_check_many)))
    (l_check_many : K.lookup f_check_many = some ⟨oc_check_many, od_check_many, .func (PySem.W.fnOf "check_many" "check_many" (defArgs s_check_many) (defBody s_check_many) (defScope s_check_many) .none kV_check_many dc_check_many pm_check_many an_check_many cd_check_many ct_check_many), sl_check_many⟩)
    (c_check_many : PySem.W.codeIn K cd_check_many "check_many" = true)
    (k_check_many : PySem.W.keepIn K (.ref f_check_many) = true)
    (a_with_kept : PySem.W.nsIn K mainGlobals "with_kept" = some (some (.ref f_with_kept)))
    (l_with_kept : K.lookup f_with_kept = some ⟨oc_with_kept, od_with_kept, .func (PySem.W.fnOf "with_kept" "with_kept" (defArgs s_with_kept) (defBody s_with_kept) (defScope s_with_kept) .none kV_with_kept dc_with_kept pm_with_kept an_with_kept cd_with_kept ct_with_kept), sl_with_kept⟩)
    (c_with_kept : PySem.W.codeIn K cd_with_kept "with_kept" = true)
    (k_with_kept : PySem.W.keepIn K (.ref f_with_kept) = true)
    (a_only : PySem.W.nsIn K mainGlobals "only" = some (some (.ref f_only)))
    (l_only : K.lookup f_only = some ⟨oc_only, od_only, .func (PySem.W.fnOf "only" "only" (defArgs s_only) (defBody s_only) (defScope s_only) .none kV_only dc_only pm_only an_only cd_only ct_only), sl_only⟩)
    (c_only : PySem.W.codeIn K cd_only "only" = true)
    (k_only : PySem.W.keepIn K (.ref f_only) = true)
    (a_best_kept : PySem.W.nsIn K mainGlobals "best_kept" = some (some (.ref f_best_kept)))
    (l_best_kept : K.lookup f_best_kept = some ⟨oc_best_kept, od_best_kept, .func (PySem.W.fnOf "best_kept" "best_kept" (defArgs s_best_kept) (defBody s_best_kept) (defScope s_best_kept) .none kV_best_kept dc_best_kept pm_best_kept an_best_kept cd_best_kept ct_best_kept), sl_best_kept⟩)
    (c_best_kept : PySem.W.codeIn K cd_best_kept "best_kept" = true)
    (k_best_kept : PySem.W.keepIn K (.ref f_best_kept) = true)
    (a_least_error : PySem.W.nsIn K mainGlobals "least_error" = some (some (.ref f_least_error)))
    (l_least_error : K.lookup f_least_error = some ⟨oc_least_error, od_least_error, .func (PySem.W.fnOf "least_error" "least_error" (defArgs s_least_error) (defBody s_least_error) (defScope s_least_error) .none kV_least_error dc_least_error pm_least_error an_least_error cd_least_error ct_least_error), sl_least_error⟩)
    (c_least_error : PySem.W.codeIn K cd_least_error "least_error" = true)
    (k_least_error : PySem.W.keepIn K (.ref f_least_error) = true)
    (a_ties : PySem.W.nsIn K mainGlobals "ties" = some (some (.ref f_ties)))
    (l_ties : K.lookup f_ties = some ⟨oc_ties, od_ties, .func (PySem.W.fnOf "ties" "ties" (defArgs s_ties) (defBody s_ties) (defScope s_ties) .none kV_ties dc_ties pm_ties an_ties cd_ties ct_ties), sl_ties⟩)
    (c_ties : PySem.W.codeIn K cd_ties "ties" = true)
    (k_ties : PySem.W.keepIn K (.ref f_ties) = true)
    (a_choose : PySem.W.nsIn K mainGlobals "choose" = some (some (.ref f_choose)))
    (l_choose : K.lookup f_choose = some ⟨oc_choose, od_choose, .func (PySem.W.fnOf "choose" "choose" (defArgs s_choose) (defBody s_choose) (defScope s_choose) .none kV_choose dc_choose pm_choose an_choose cd_choose ct_choose), sl_choose⟩)
    (c_choose : PySem.W.codeIn K cd_choose "choose" = true)
    (k_choose : PySem.W.keepIn K (.ref f_choose) = true)
    (a_count_best : PySem.W.nsIn K mainGlobals "count_best" = some (some (.ref f_count_best)))
    (l_count_best : K.lookup f_count_best = some ⟨oc_count_best, od_count_best, .func (PySem.W.fnOf "count_best" "count_best" (defArgs s_count_best) (defBody s_count_best) (defScope s_count_best) .none kV_count_best dc_count_best pm_count_best an_count_best cd_count_best ct_count_best), sl_count_best⟩)
    (c_count_best : PySem.W.codeIn K cd_count_best "count_best" = true)
    (k_count_best : PySem.W.keepIn K (.ref f_count_best) = true)
    (a_fewest_within : PySem.W.nsIn K mainGlobals "fewest_within" = some (some (.ref f_fewest_within)))
    (l_fewest_within : K.lookup f_fewest_within = some ⟨oc_fewest_within, od_fewest_within, .func (PySem.W.fnOf "fewest_within" "fewest_within" (defArgs s_fewest_within) (defBody s_fewest_within) (defScope s_fewest_within) .none kV_fewest_within dc_fewest_within pm_fewest_within an_fewest_within cd_fewest_within ct_fewest_within), sl_fewest_within⟩)
    (c_fewest_within : PySem.W.codeIn K cd_fewest_within "fewest_within" = true)
    (k_fewest_within : PySem.W.keepIn K (.ref f_fewest_within) = true)
    (a_greatest_gap : PySem.W.nsIn K mainGlobals "greatest_gap" = some (some (.ref f_greatest_gap)))
    (l_greatest_gap : K.lookup f_greatest_gap = some ⟨oc_greatest_gap, od_greatest_gap, .func (PySem.W.fnOf "greatest_gap" "greatest_gap" (defArgs s_greatest_gap) (defBody s_greatest_gap) (defScope s_greatest_gap) .none kV_greatest_gap dc_greatest_gap pm_greatest_gap an_greatest_gap cd_greatest_gap ct_greatest_gap), sl_greatest_gap⟩)
    (c_greatest_gap : PySem.W.codeIn K cd_greatest_gap "greatest_gap" = true)
    (k_greatest_gap : PySem.W.keepIn K (.ref f_greatest_gap) = true)
    (a_is_best : PySem.W.nsIn K mainGlobals "is_best" = some (some (.ref f_is_best)))
    (l_is_best : K.lookup f_is_best = some ⟨oc_is_best, od_is_best, .func (PySem.W.fnOf "is_best" "is_best" (defArgs s_is_best) (defBody s_is_best) (defScope s_is_best) .none kV_is_best dc_is_best pm_is_best an_is_best cd_is_best ct_is_best), sl_is_best⟩)
    (c_is_best : PySem.W.codeIn K cd_is_best "is_best" = true)
    (k_is_best : PySem.W.keepIn K (.ref f_is_best) = true)
    (a_checked : PySem.W.nsIn K mainGlobals "checked" = some (some (.ref f_checked)))
    (l_checked : K.lookup f_checked = some ⟨oc_checked, od_checked, .func (PySem.W.fnOf "checked" "checked" (defArgs s_checked) (defBody s_checked) (defScope s_checked) .none kV_checked dc_checked pm_checked an_checked cd_checked ct_checked), sl_checked⟩)
    (c_checked : PySem.W.codeIn K cd_checked "checked" = true)
    (k_checked : PySem.W.keepIn K (.ref f_checked) = true)
    (a_changed_form : PySem.W.nsIn K mainGlobals "changed_form" = some (some (.ref f_changed_form)))
    (l_changed_form : K.lookup f_changed_form = some ⟨oc_changed_form, od_changed_form, .func (PySem.W.fnOf "changed_form" "changed_form" (defArgs s_changed_form) (defBody s_changed_form) (defScope s_changed_form) .none kV_changed_form dc_changed_form pm_changed_form an_changed_form cd_changed_form ct_changed_form), sl_changed_form⟩)
    (c_changed_form : PySem.W.codeIn K cd_changed_form "changed_form" = true)
    (k_changed_form : PySem.W.keepIn K (.ref f_changed_form) = true)
    (a_added : PySem.W.nsIn K mainGlobals "added" = some (some (.ref f_added)))
    (l_added : K.lookup f_added = some ⟨oc_added, od_added, .func (PySem.W.fnOf "added" "added" (defArgs s_added) (defBody s_added) (defScope s_added) .none kV_added dc_added pm_added an_added cd_added ct_added), sl_added⟩)
    (c_added : PySem.W.codeIn K cd_added "added" = true)
    (k_added : PySem.W.keepIn K (.ref f_added) = true)
    (a_scaled : PySem.W.nsIn K mainGlobals "scaled" = some (some (.ref f_scaled)))
    (l_scaled : K.lookup f_scaled = some ⟨oc_scaled, od_scaled, .func (PySem.W.fnOf "scaled" "scaled" (defArgs s_scaled) (defBody s_scaled) (defScope s_scaled) .none kV_scaled dc_scaled pm_scaled an_scaled cd_scaled ct_scaled), sl_scaled⟩)
    (c_scaled : PySem.W.codeIn K cd_scaled "scaled" = true)
    (k_scaled : PySem.W.keepIn K (.ref f_scaled) = true)
    (a_backward_form : PySem.W.nsIn K mainGlobals "backward_form" = some (some (.ref f_backward_form)))
    (l_backward_form : K.lookup f_backward_form = some ⟨oc_backward_form, od_backward_form, .func (PySem.W.fnOf "backward_form" "backward_form" (defArgs s_backward_form) (defBody s_backward_form) (defScope s_backward_form) .none kV_backward_form dc_backward_form pm_backward_form an_backward_form cd_backward_form ct_backward_form), sl_backward_form⟩)
    (c_backward_form : PySem.W.codeIn K cd_backward_form "backward_form" = true)
    (k_backward_form : PySem.W.keepIn K (.ref f_backward_form) = true)
    (a_exchanged : PySem.W.nsIn K mainGlobals "exchanged" = some (some (.ref f_exchanged)))
    (l_exchanged : K.lookup f_exchanged = some ⟨oc_exchanged, od_exchanged, .func (PySem.W.fnOf "exchanged" "exchanged" (defArgs s_exchanged) (defBody s_exchanged) (defScope s_exchanged) .none kV_exchanged dc_exchanged pm_exchanged an_exchanged cd_exchanged ct_exchanged), sl_exchanged⟩)
    (c_exchanged : PySem.W.codeIn K cd_exchanged "exchanged" = true)
    (k_exchanged : PySem.W.keepIn K (.ref f_exchanged) = true)
    (a_halves_of : PySem.W.nsIn K mainGlobals "halves_of" = some (some (.ref f_halves_of)))
    (l_halves_of : K.lookup f_halves_of = some ⟨oc_halves_of, od_halves_of, .func (PySem.W.fnOf "halves_of" "halves_of" (defArgs s_halves_of) (defBody s_halves_of) (defScope s_halves_of) .none kV_halves_of dc_halves_of pm_halves_of an_halves_of cd_halves_of ct_halves_of), sl_halves_of⟩)
    (c_halves_of : PySem.W.codeIn K cd_halves_of "halves_of" = true)
    (k_halves_of : PySem.W.keepIn K (.ref f_halves_of) = true)
    (a_Keeper___init__ : PySem.W.findIn K (.ref C_Keeper) "__init__" = some (some (.ref f_Keeper___init__)))
    (i_Keeper___init__ : PySem.W.isFn K (.ref f_Keeper___init__) = true)
    (l_Keeper___init__ : K.lookup f_Keeper___init__ = some ⟨oc_Keeper___init__, od_Keeper___init__, .func (PySem.W.fnOf "__init__" "Keeper.__init__" (defArgs s_Keeper___init__) (defBody s_Keeper___init__) (defScope s_Keeper___init__) .none kV_Keeper___init__ dc_Keeper___init__ pm_Keeper___init__ an_Keeper___init__ cd_Keeper___init__ ct_Keeper___init__), sl_Keeper___init__⟩)
    (c_Keeper___init__ : PySem.W.codeIn K cd_Keeper___init__ "Keeper.__init__" = true)
    (k_Keeper___init__ : PySem.W.keepIn K (.ref f_Keeper___init__) = true)
    (a_Keeper_error : PySem.W.findIn K (.ref C_Keeper) "error" = some (some (.ref f_Keeper_error)))
    (i_Keeper_error : PySem.W.isFn K (.ref f_Keeper_error) = true)
    (l_Keeper_error : K.lookup f_Keeper_error = some ⟨oc_Keeper_error, od_Keeper_error, .func (PySem.W.fnOf "error" "Keeper.error" (defArgs s_Keeper_error) (defBody s_Keeper_error) (defScope s_Keeper_error) .none kV_Keeper_error dc_Keeper_error pm_Keeper_error an_Keeper_error cd_Keeper_error ct_Keeper_error), sl_Keeper_error⟩)
    (c_Keeper_error : PySem.W.codeIn K cd_Keeper_error "Keeper.error" = true)
    (k_Keeper_error : PySem.W.keepIn K (.ref f_Keeper_error) = true)
    (a_Keeper_kept : PySem.W.findIn K (.ref C_Keeper) "kept" = some (some (.ref f_Keeper_kept)))
    (i_Keeper_kept : PySem.W.isFn K (.ref f_Keeper_kept) = true)
    (l_Keeper_kept : K.lookup f_Keeper_kept = some ⟨oc_Keeper_kept, od_Keeper_kept, .func (PySem.W.fnOf "kept" "Keeper.kept" (defArgs s_Keeper_kept) (defBody s_Keeper_kept) (defScope s_Keeper_kept) .none kV_Keeper_kept dc_Keeper_kept pm_Keeper_kept an_Keeper_kept cd_Keeper_kept ct_Keeper_kept), sl_Keeper_kept⟩)
    (c_Keeper_kept : PySem.W.codeIn K cd_Keeper_kept "Keeper.kept" = true)
    (k_Keeper_kept : PySem.W.keepIn K (.ref f_Keeper_kept) = true)
    (a_Keeper_value : PySem.W.findIn K (.ref C_Keeper) "value" = some (some (.ref f_Keeper_value)))
    (i_Keeper_value : PySem.W.isFn K (.ref f_Keeper_value) = true)
    (l_Keeper_value : K.lookup f_Keeper_value = some ⟨oc_Keeper_value, od_Keeper_value, .func (PySem.W.fnOf "value" "Keeper.value" (defArgs s_Keeper_value) (defBody s_Keeper_value) (defScope s_Keeper_value) .none kV_Keeper_value dc_Keeper_value pm_Keeper_value an_Keeper_value cd_Keeper_value ct_Keeper_value), sl_Keeper_value⟩)
    (c_Keeper_value : PySem.W.codeIn K cd_Keeper_value "Keeper.value" = true)
    (k_Keeper_value : PySem.W.keepIn K (.ref f_Keeper_value) = true)
    (a_Keeper___len__ : PySem.W.findIn K (.ref C_Keeper) "__len__" = some (some (.ref f_Keeper___len__)))
    (i_Keeper___len__ : PySem.W.isFn K (.ref f_Keeper___len__) = true)
    (l_Keeper___len__ : K.lookup f_Keeper___len__ = some ⟨oc_Keeper___len__, od_Keeper___len__, .func (PySem.W.fnOf "__len__" "Keeper.__len__" (defArgs s_Keeper___len__) (defBody s_Keeper___len__) (defScope s_Keeper___len__) .none kV_Keeper___len__ dc_Keeper___len__ pm_Keeper___len__ an_Keeper___len__ cd_Keeper___len__ ct_Keeper___len__), sl_Keeper___len__⟩)
    (c_Keeper___len__ : PySem.W.codeIn K cd_Keeper___len__ "Keeper.__len__" = true)
    (k_Keeper___len__ : PySem.W.keepIn K (.ref f_Keeper___len__) = true)
    (a_format_form : PySem.W.nsIn K mainGlobals "format_form" = some (some (.ref f_format_form)))
    (l_format_form : K.lookup f_format_form = some ⟨oc_format_form, od_format_form, .func (PySem.W.fnOf "format_form" "format_form" (defArgs s_format_form) (defBody s_format_form) (defScope s_format_form) .none kV_format_form dc_format_form pm_format_form an_format_form cd_format_form ct_format_form), sl_format_form⟩)
    (c_format_form : PySem.W.codeIn K cd_format_form "format_form" = true)
    (k_format_form : PySem.W.keepIn K (.ref f_format_form) = true)
    (a_law_start : PySem.W.nsIn K mainGlobals "_law_start" = some (some (.ref f_law_start)))
    (l_law_start : K.lookup f_law_start = some ⟨oc_law_start, od_law_start, .func (PySem.W.fnOf "_law_start" "_law_start" (defArgs s_law_start) (defBody s_law_start) (defScope s_law_start) .none kV_law_start dc_law_start pm_law_start an_law_start cd_law_start ct_law_start), sl_law_start⟩)
    (c_law_start : PySem.W.codeIn K cd_law_start "_law_start" = true)
    (k_law_start : PySem.W.keepIn K (.ref f_law_start) = true)
    (a_law_draw : PySem.W.nsIn K mainGlobals "_law_draw" = some (some (.ref f_law_draw)))
    (l_law_draw : K.lookup f_law_draw = some ⟨oc_law_draw, od_law_draw, .func (PySem.W.fnOf "_law_draw" "_law_draw" (defArgs s_law_draw) (defBody s_law_draw) (defScope s_law_draw) .none kV_law_draw dc_law_draw pm_law_draw an_law_draw cd_law_draw ct_law_draw), sl_law_draw⟩)
    (c_law_draw : PySem.W.codeIn K cd_law_draw "_law_draw" = true)
    (k_law_draw : PySem.W.keepIn K (.ref f_law_draw) = true)
    (a_law_error : PySem.W.nsIn K mainGlobals "_law_error" = some (some (.ref f_law_error)))
    (l_law_error : K.lookup f_law_error = some ⟨oc_law_error, od_law_error, .func (PySem.W.fnOf "_law_error" "_law_error" (defArgs s_law_error) (defBody s_law_error) (defScope s_law_error) .none kV_law_error dc_law_error pm_law_error an_law_error cd_law_error ct_law_error), sl_law_error⟩)
    (c_law_error : PySem.W.codeIn K cd_law_error "_law_error" = true)
    (k_law_error : PySem.W.keepIn K (.ref f_law_error) = true)
    (a_law_one : PySem.W.nsIn K mainGlobals "_law_one" = some (some (.ref f_law_one)))
    (l_law_one : K.lookup f_law_one = some ⟨oc_law_one, od_law_one, .func (PySem.W.fnOf "_law_one" "_law_one" (defArgs s_law_one) (defBody s_law_one) (defScope s_law_one) .none kV_law_one dc_law_one pm_law_one an_law_one cd_law_one ct_law_one), sl_law_one⟩)
    (c_law_one : PySem.W.codeIn K cd_law_one "_law_one" = true)
    (k_law_one : PySem.W.keepIn K (.ref f_law_one) = true)
    (a_law_two : PySem.W.nsIn K mainGlobals "_law_two" = some (some (.ref f_law_two)))
    (l_law_two : K.lookup f_law_two = some ⟨oc_law_two, od_law_two, .func (PySem.W.fnOf "_law_two" "_law_two" (defArgs s_law_two) (defBody s_law_two) (defScope s_law_two) .none kV_law_two dc_law_two pm_law_two an_law_two cd_law_two ct_law_two), sl_law_two⟩)
    (c_law_two : PySem.W.codeIn K cd_law_two "_law_two" = true)
    (k_law_two : PySem.W.keepIn K (.ref f_law_two) = true)
    (a_law_asked : PySem.W.nsIn K mainGlobals "_law_asked" = some (some (.ref f_law_asked)))
    (l_law_asked : K.lookup f_law_asked = some ⟨oc_law_asked, od_law_asked, .func (PySem.W.fnOf "_law_asked" "_law_asked" (defArgs s_law_asked) (defBody s_law_asked) (defScope s_law_asked) .none kV_law_asked dc_law_asked pm_law_asked an_law_asked cd_law_asked ct_law_asked), sl_law_asked⟩)
    (c_law_asked : PySem.W.codeIn K cd_law_asked "_law_asked" = true)
    (k_law_asked : PySem.W.keepIn K (.ref f_law_asked) = true)
    (a_law_choices : PySem.W.nsIn K mainGlobals "_law_choices" = some (some (.ref f_law_choices)))
    (l_law_choices : K.lookup f_law_choices = some ⟨oc_law_choices, od_law_choices, .func (PySem.W.fnOf "_law_choices" "_law_choices" (defArgs s_law_choices) (defBody s_law_choices) (defScope s_law_choices) .none kV_law_choices dc_law_choices pm_law_choices an_law_choices cd_law_choices ct_law_choices), sl_law_choices⟩)
    (c_law_choices : PySem.W.codeIn K cd_law_choices "_law_choices" = true)
    (k_law_choices : PySem.W.keepIn K (.ref f_law_choices) = true)
    (a_law : PySem.W.nsIn K mainGlobals "law" = some (some (.ref f_law)))
    (l_law : K.lookup f_law = some ⟨oc_law, od_law, .func (PySem.W.fnOf "law" "law" (defArgs s_law) (defBody s_law) (defScope s_law) .none kV_law dc_law pm_law an_law cd_law ct_law), sl_law⟩)
    (c_law : PySem.W.codeIn K cd_law "law" = true)
    (k_law : PySem.W.keepIn K (.ref f_law) = true) :
    ∃ fd : FuncData, (∀ (s : Shared) (v : Value), BindsTo s fd ⟨[v], []⟩ [("script", v)]) ∧ ∀ base : Heap, K.In base → base.Ns mainGlobals mg → FnOk l.prog w K mg base (L2.CX l.prog w) 10 fa fd ["script"] (spLaw K) := by
  have e := hfa.symm.trans (PySem.W.mg_of X G a_law)
  cases e
  have T : Txt K mg (caOf [C_HaarError, C_BadRow, C_BadForm, C_BadNumber, C_BadKept, C_BadText, C_NotFound, C_Keeper]) := {
    blt := ⟨PySem.W.mg_none_of X G z_isinstance, PySem.W.mg_none_of X G z_int, PySem.W.mg_none_of X G z_bool, PySem.W.mg_none_of X G z_list, PySem.W.mg_none_of X G z_tuple, PySem.W.mg_none_of X G z_str, PySem.W.mg_none_of X G z_set, PySem.W.mg_none_of X G z_len, PySem.W.mg_none_of X G z_abs, PySem.W.mg_none_of X G z_max, PySem.W.mg_none_of X G z_sum, PySem.W.mg_none_of X G z_all, PySem.W.mg_none_of X G z_sorted, PySem.W.mg_none_of X G z_range, PySem.W.mg_none_of X G z_zip, PySem.W.mg_none_of X G z_enumerate⟩
    c_LENGTHS := ⟨_, PySem.W.mg_of X G n_LENGTHS, ⟨_, _, _, l_LENGTHS, rfl, rfl, (by show 5 ≤ sizeLine; decide), .cons ⟨_, rfl⟩ (.cons ⟨_, rfl⟩ (.cons ⟨_, rfl⟩ (.cons ⟨_, rfl⟩ (.cons ⟨_, rfl⟩ (.nil)))))⟩⟩
    c_MOST_PART := ⟨_, PySem.W.mg_of X G n_MOST_PART⟩
    c_MOST := ⟨_, PySem.W.mg_of X G n_MOST⟩
    h_HaarError := PySem.W.mg_of X G n_HaarError
    n_ValueError := PySem.W.mg_none_of X G z_ValueError
    heirs := six (PySem.W.exm_ref b_HaarError xd_HaarError t_HaarError xi_BadRow_HaarError) (PySem.W.exm_ref b_HaarError xd_HaarError t_HaarError xi_BadForm_HaarError) (PySem.W.exm_ref b_HaarError xd_HaarError t_HaarError xi_BadNumber_HaarError) (PySem.W.exm_ref b_HaarError xd_HaarError t_HaarError xi_BadKept_HaarError) (PySem.W.exm_ref b_HaarError xd_HaarError t_HaarError xi_BadText_HaarError) (PySem.W.exm_ref b_HaarError xd_HaarError t_HaarError xi_NotFound_HaarError)
    er := ⟨six (P := fun c => ExcC K (caOf [C_HaarError, C_BadRow, C_BadForm, C_BadNumber, C_BadKept, C_BadText, C_NotFound, C_Keeper] c)) ⟨xg_BadRow, xk_BadRow, b_BadRow, xd_BadRow, xa_BadRow, ex_n, ex_t, xm_BadRow⟩ ⟨xg_BadForm, xk_BadForm, b_BadForm, xd_BadForm, xa_BadForm, ex_n, ex_t, xm_BadForm⟩ ⟨xg_BadNumber, xk_BadNumber, b_BadNumber, xd_BadNumber, xa_BadNumber, ex_n, ex_t, xm_BadNumber⟩ ⟨xg_BadKept, xk_BadKept, b_BadKept, xd_BadKept, xa_BadKept, ex_n, ex_t, xm_BadKept⟩ ⟨xg_BadText, xk_BadText, b_BadText, xd_BadText, xa_BadText, ex_n, ex_t, xm_BadText⟩ ⟨xg_NotFound, xk_NotFound, b_NotFound, xd_NotFound, xa_NotFound, ex_n, ex_t, xm_NotFound⟩, fun c j a b d => six (P := fun c => ∀ j, j < 7 → PySem.W.kitOne K (.ref (caOf [C_HaarError, C_BadRow, C_BadForm, C_BadNumber, C_BadKept, C_BadText, C_NotFound, C_Keeper] c)) (.ref (caOf [C_HaarError, C_BadRow, C_BadForm, C_BadNumber, C_BadKept, C_BadText, C_NotFound, C_Keeper] j)) = some (decide (c = j) || decide (j = 0))) (seven (kit_own xd_HaarError t_HaarError xi_BadRow_HaarError xi_BadRow_BadRow) (kit_own xd_BadRow t_BadRow xi_BadRow_BadRow xi_BadRow_BadRow) (kit_own xd_BadForm t_BadForm xi_BadRow_BadForm xi_BadRow_BadRow) (kit_own xd_BadNumber t_BadNumber xi_BadRow_BadNumber xi_BadRow_BadRow) (kit_own xd_BadKept t_BadKept xi_BadRow_BadKept xi_BadRow_BadRow) (kit_own xd_BadText t_BadText xi_BadRow_BadText xi_BadRow_BadRow) (kit_own xd_NotFound t_NotFound xi_BadRow_NotFound xi_BadRow_BadRow)) (seven (kit_own xd_HaarError t_HaarError xi_BadForm_HaarError xi_BadForm_BadForm) (kit_own xd_BadRow t_BadRow xi_BadForm_BadRow xi_BadForm_BadForm) (kit_own xd_BadForm t_BadForm xi_BadForm_BadForm xi_BadForm_BadForm) (kit_own xd_BadNumber t_BadNumber xi_BadForm_BadNumber xi_BadForm_BadForm) (kit_own xd_BadKept t_BadKept xi_BadForm_BadKept xi_BadForm_BadForm) (kit_own xd_BadText t_BadText xi_BadForm_BadText xi_BadForm_BadForm) (kit_own xd_NotFound t_NotFound xi_BadForm_NotFound xi_BadForm_BadForm)) (seven (kit_own xd_HaarError t_HaarError xi_BadNumber_HaarError xi_BadNumber_BadNumber) (kit_own xd_BadRow t_BadRow xi_BadNumber_BadRow xi_BadNumber_BadNumber) (kit_own xd_BadForm t_BadForm xi_BadNumber_BadForm xi_BadNumber_BadNumber) (kit_own xd_BadNumber t_BadNumber xi_BadNumber_BadNumber xi_BadNumber_BadNumber) (kit_own xd_BadKept t_BadKept xi_BadNumber_BadKept xi_BadNumber_BadNumber) (kit_own xd_BadText t_BadText xi_BadNumber_BadText xi_BadNumber_BadNumber) (kit_own xd_NotFound t_NotFound xi_BadNumber_NotFound xi_BadNumber_BadNumber)) (seven (kit_own xd_HaarError t_HaarError xi_BadKept_HaarError xi_BadKept_BadKept) (kit_own xd_BadRow t_BadRow xi_BadKept_BadRow xi_BadKept_BadKept) (kit_own xd_BadForm t_BadForm xi_BadKept_BadForm xi_BadKept_BadKept) (kit_own xd_BadNumber t_BadNumber xi_BadKept_BadNumber xi_BadKept_BadKept) (kit_own xd_BadKept t_BadKept xi_BadKept_BadKept xi_BadKept_BadKept) (kit_own xd_BadText t_BadText xi_BadKept_BadText xi_BadKept_BadKept) (kit_own xd_NotFound t_NotFound xi_BadKept_NotFound xi_BadKept_BadKept)) (seven (kit_own xd_HaarError t_HaarError xi_BadText_HaarError xi_BadText_BadText) (kit_own xd_BadRow t_BadRow xi_BadText_BadRow xi_BadText_BadText) (kit_own xd_BadForm t_BadForm xi_BadText_BadForm xi_BadText_BadText) (kit_own xd_BadNumber t_BadNumber xi_BadText_BadNumber xi_BadText_BadText) (kit_own xd_BadKept t_BadKept xi_BadText_BadKept xi_BadText_BadText) (kit_own xd_BadText t_BadText xi_BadText_BadText xi_BadText_BadText) (kit_own xd_NotFound t_NotFound xi_BadText_NotFound xi_BadText_BadText)) (seven (kit_own xd_HaarError t_HaarError xi_NotFound_HaarError xi_NotFound_NotFound) (kit_own xd_BadRow t_BadRow xi_NotFound_BadRow xi_NotFound_NotFound) (kit_own xd_BadForm t_BadForm xi_NotFound_BadForm xi_NotFound_NotFound) (kit_own xd_BadNumber t_BadNumber xi_NotFound_BadNumber xi_NotFound_NotFound) (kit_own xd_BadKept t_BadKept xi_NotFound_BadKept xi_NotFound_NotFound) (kit_own xd_BadText t_BadText xi_NotFound_BadText xi_NotFound_NotFound) (kit_own xd_NotFound t_NotFound xi_NotFound_NotFound xi_NotFound_NotFound)) c a b j d, six (kit_val xv_BadRow) (kit_val xv_BadForm) (kit_val xv_BadNumber) (kit_val xv_BadKept) (kit_val xv_BadText) (kit_val xv_NotFound)⟩
    e_BadRow := ⟨PySem.W.mg_of X G n_BadRow, x_BadRow, k_BadRow, b_BadRow, t_BadRow⟩
    e_BadForm := ⟨PySem.W.mg_of X G n_BadForm, x_BadForm, k_BadForm, b_BadForm, t_BadForm⟩
    e_BadNumber := ⟨PySem.W.mg_of X G n_BadNumber, x_BadNumber, k_BadNumber, b_BadNumber, t_BadNumber⟩
    e_BadKept := ⟨PySem.W.mg_of X G n_BadKept, x_BadKept, k_BadKept, b_BadKept, t_BadKept⟩
    e_BadText := ⟨PySem.W.mg_of X G n_BadText, x_BadText, k_BadText, b_BadText, t_BadText⟩
    e_NotFound := ⟨PySem.W.mg_of X G n_NotFound, x_NotFound, k_NotFound, b_NotFound, t_NotFound⟩
    k_cls := ⟨kp_pg, kp_hd, kp_po, kp_sa⟩
    k_form := kp_nf
    k_row := kp_nr
    k_make := ⟨kp_mk, kp_kc, PySem.W.mg_of X G n_Keeper⟩
    d_is_int := defAt_mk X G a_is_int l_is_int c_is_int k_is_int (fun _ _ _ _ _ _ us hl => match us, hl with | [_, _, _], _ => rfl)
    d_is_form := defAt_mk X G a_is_form l_is_form c_is_form k_is_form (fun _ _ _ _ _ _ us hl => match us, hl with | [_], _ => rfl)
    d_check_form := defAt_mk X G a_check_form l_check_form c_check_form k_check_form (fun _ _ _ _ _ _ us hl => match us, hl with | [_], _ => rfl)
    d_check_place := defAt_mk X G a_check_place l_check_place c_check_place k_check_place (fun _ _ _ _ _ _ us hl => match us, hl with | [_, _], _ => rfl)
    d_is_kept := defAt_mk X G a_is_kept l_is_kept c_is_kept k_is_kept (fun _ _ _ _ _ _ us hl => match us, hl with | [_, _], _ => rfl)
    d_check_kept := defAt_mk X G a_check_kept l_check_kept c_check_kept k_check_kept (fun _ _ _ _ _ _ us hl => match us, hl with | [_, _], _ => rfl)
    d_halves := defAt_mk X G a_halves l_halves c_halves k_halves (fun _ _ _ _ _ _ us hl => match us, hl with | [_, _], _ => rfl)
    d_sums_of := defAt_mk X G a_sums_of l_sums_of c_sums_of k_sums_of (fun _ _ _ _ _ _ us hl => match us, hl with | [_], _ => rfl)
    d_has_row := defAt_mk X G a_has_row l_has_row c_has_row k_has_row (fun _ _ _ _ _ _ us hl => match us, hl with | [_], _ => rfl)
    d_first_odd := defAt_mk X G a_first_odd l_first_odd c_first_odd k_first_odd (fun _ _ _ _ _ _ us hl => match us, hl with | [_], _ => rfl)
    d_list_of := defAt_mk X G a_list_of l_list_of c_list_of k_list_of (fun _ _ _ _ _ _ us hl => match us, hl with | [_], _ => rfl)
    d_block_size := defAt_mk X G a_block_size l_block_size c_block_size k_block_size (fun _ _ _ _ _ _ us hl => match us, hl with | [_, _], _ => rfl)
    d_place_of := defAt_mk X G a_place_of l_place_of c_place_of k_place_of (fun _ _ _ _ _ _ us hl => match us, hl with | [_, _], _ => rfl)
    d_sign_at := defAt_mk X G a_sign_at l_sign_at c_sign_at k_sign_at (fun _ _ _ _ _ _ us hl => match us, hl with | [_, _, _], _ => rfl)
    d_common := defAt_mk X G a_common l_common c_common k_common (fun _ _ _ _ _ _ us hl => match us, hl with | [_, _], _ => rfl)
    d_lowest := defAt_mk X G a_lowest l_lowest c_lowest k_lowest (fun _ _ _ _ _ _ us hl => match us, hl with | [_, _], _ => rfl)
    d_plus := defAt_mk X G a_plus l_plus c_plus k_plus (fun _ _ _ _ _ _ us hl => match us, hl with | [_, _], _ => rfl)
    d_less := defAt_mk X G a_less l_less c_less k_less (fun _ _ _ _ _ _ us hl => match us, hl with | [_, _], _ => rfl)
    d_total := defAt_mk X G a_total l_total c_total k_total (fun _ _ _ _ _ _ us hl => match us, hl with | [_], _ => rfl)
    d_is_size := defAt_mk X G a_is_size l_is_size c_is_size k_is_size (fun _ _ _ _ _ _ us hl => match us, hl with | [_], _ => rfl)
    d_check_size := defAt_mk X G a_check_size l_check_size c_check_size k_check_size (fun _ _ _ _ _ _ us hl => match us, hl with | [_], _ => rfl)
    d_value_of := defAt_mk X G a_value_of l_value_of c_value_of k_value_of (fun _ _ _ _ _ _ us hl => match us, hl with | [_, _], _ => rfl)
    d_value_at := defAt_mk X G a_value_at l_value_at c_value_at k_value_at (fun _ _ _ _ _ _ us hl => match us, hl with | [_, _], _ => rfl)
    d_all_values := defAt_mk X G a_all_values l_all_values c_all_values k_all_values (fun _ _ _ _ _ _ us hl => match us, hl with | [_], _ => rfl)
    d_sum_from_to := defAt_mk X G a_sum_from_to l_sum_from_to c_sum_from_to k_sum_from_to (fun _ _ _ _ _ _ us hl => match us, hl with | [_, _, _], _ => rfl)
    d_details_for := defAt_mk X G a_details_for l_details_for c_details_for k_details_for (fun _ _ _ _ _ _ us hl => match us, hl with | [_, _, _], _ => rfl)
    d_means := defAt_mk X G a_means l_means c_means k_means (fun _ _ _ _ _ _ us hl => match us, hl with | [_, _], _ => rfl)
    d_share_of := defAt_mk X G a_share_of l_share_of c_share_of k_share_of (fun _ _ _ _ _ _ us hl => match us, hl with | [_, _], _ => rfl)
    d_share := defAt_mk X G a_share l_share c_share k_share (fun _ _ _ _ _ _ us hl => match us, hl with | [_, _], _ => rfl)
    d_shares := defAt_mk X G a_shares l_shares c_shares k_shares (fun _ _ _ _ _ _ us hl => match us, hl with | [_], _ => rfl)
    d_left_out := defAt_mk X G a_left_out l_left_out c_left_out k_left_out (fun _ _ _ _ _ _ us hl => match us, hl with | [_, _], _ => rfl)
    d_in_order := defAt_mk X G a_in_order l_in_order c_in_order k_in_order (fun _ _ _ _ _ _ us hl => match us, hl with | [_], _ => rfl)
    d_by_share := defAt_mk X G a_by_share l_by_share c_by_share k_by_share (fun _ _ _ _ _ _ us hl => match us, hl with | [_], _ => rfl)
    d_check_many := defAt_mk X G a_check_many l_check_many c_check_many k_check_many (fun _ _ _ _ _ _ us hl => match us, hl with | [_, _], _ => rfl)
    d_with_kept := defAt_mk X G a_with_kept l_with_kept c_with_kept k_with_kept (fun _ _ _ _ _ _ us hl => match us, hl with | [_, _], _ => rfl)
    d_only := defAt_mk X G a_only l_only c_only k_only (fun _ _ _ _ _ _ us hl => match us, hl with | [_, _], _ => rfl)
    d_best_kept := defAt_mk X G a_best_kept l_best_kept c_best_kept k_best_kept (fun _ _ _ _ _ _ us hl => match us, hl with | [_, _], _ => rfl)
    d_least_error := defAt_mk X G a_least_error l_least_error c_least_error k_least_error (fun _ _ _ _ _ _ us hl => match us, hl with | [_, _], _ => rfl)
    d_ties := defAt_mk X G a_ties l_ties c_ties k_ties (fun _ _ _ _ _ _ us hl => match us, hl with | [_, _], _ => rfl)
    d_choose := defAt_mk X G a_choose l_choose c_choose k_choose (fun _ _ _ _ _ _ us hl => match us, hl with | [_, _], _ => rfl)
    d_count_best := defAt_mk X G a_count_best l_count_best c_count_best k_count_best (fun _ _ _ _ _ _ us hl => match us, hl with | [_, _], _ => rfl)
    d_fewest_within := defAt_mk X G a_fewest_within l_fewest_within c_fewest_within k_fewest_within (fun _ _ _ _ _ _ us hl => match us, hl with | [_, _], _ => rfl)
    d_greatest_gap := defAt_mk X G a_greatest_gap l_greatest_gap c_greatest_gap k_greatest_gap (fun _ _ _ _ _ _ us hl => match us, hl with | [_, _], _ => rfl)
    d_is_best := defAt_mk X G a_is_best l_is_best c_is_best k_is_best (fun _ _ _ _ _ _ us hl => match us, hl with | [_, _], _ => rfl)
    d_checked := defAt_mk X G a_checked l_checked c_checked k_checked (fun _ _ _ _ _ _ us hl => match us, hl with | [_], _ => rfl)
    d_changed_form := defAt_mk X G a_changed_form l_changed_form c_changed_form k_changed_form (fun _ _ _ _ _ _ us hl => match us, hl with | [_, _, _], _ => rfl)
    d_added := defAt_mk X G a_added l_added c_added k_added (fun _ _ _ _ _ _ us hl => match us, hl with | [_, _], _ => rfl)
    d_scaled := defAt_mk X G a_scaled l_scaled c_scaled k_scaled (fun _ _ _ _ _ _ us hl => match us, hl with | [_, _], _ => rfl)
    d_backward_form := defAt_mk X G a_backward_form l_backward_form c_backward_form k_backward_form (fun _ _ _ _ _ _ us hl => match us, hl with | [_], _ => rfl)
    d_exchanged := defAt_mk X G a_exchanged l_exchanged c_exchanged k_exchanged (fun _ _ _ _ _ _ us hl => match us, hl with | [_, _], _ => rfl)
    d_halves_of := defAt_mk X G a_halves_of l_halves_of c_halves_of k_halves_of (fun _ _ _ _ _ _ us hl => match us, hl with | [_], _ => rfl)
    d_Keeper___init__ := methAt_mk a_Keeper___init__ i_Keeper___init__ l_Keeper___init__ c_Keeper___init__ k_Keeper___init__ (fun _ _ _ _ _ _ us hl => match us, hl with | [_, _], _ => rfl)
    d_Keeper_error := methAt_mk a_Keeper_error i_Keeper_error l_Keeper_error c_Keeper_error k_Keeper_error (fun _ _ _ _ _ _ us hl => match us, hl with | [_], _ => rfl)
    d_Keeper_kept := methAt_mk a_Keeper_kept i_Keeper_kept l_Keeper_kept c_Keeper_kept k_Keeper_kept (fun _ _ _ _ _ _ us hl => match us, hl with | [_], _ => rfl)
    d_Keeper_value := methAt_mk a_Keeper_value i_Keeper_value l_Keeper_value c_Keeper_value k_Keeper_value (fun _ _ _ _ _ _ us hl => match us, hl with | [_, _], _ => rfl)
    d_Keeper___len__ := methAt_mk a_Keeper___len__ i_Keeper___len__ l_Keeper___len__ c_Keeper___len__ k_Keeper___len__ (fun _ _ _ _ _ _ us hl => match us, hl with | [_], _ => rfl)
    d_format_form := defAt_mk X G a_format_form l_format_form c_format_form k_format_form (fun _ _ _ _ _ _ us hl => match us, hl with | [_], _ => rfl)
    d_law_start := defAt_mk X G a_law_start l_law_start c_law_start k_law_start (fun _ _ _ _ _ _ us hl => match us, hl with | [_], _ => rfl)
    d_law_draw := defAt_mk X G a_law_draw l_law_draw c_law_draw k_law_draw (fun _ _ _ _ _ _ us hl => match us, hl with | [_, _], _ => rfl)
    d_law_error := defAt_mk X G a_law_error l_law_error c_law_error k_law_error (fun _ _ _ _ _ _ us hl => match us, hl with | [_], _ => rfl)
    d_law_one := defAt_mk X G a_law_one l_law_one c_law_one k_law_one (fun _ _ _ _ _ _ us hl => match us, hl with | [_, _], _ => rfl)
    d_law_two := defAt_mk X G a_law_two l_law_two c_law_two k_law_two (fun _ _ _ _ _ _ us hl => match us, hl with | [_, _, _], _ => rfl)
    d_law_asked := defAt_mk X G a_law_asked l_law_asked c_law_asked k_law_asked (fun _ _ _ _ _ _ us hl => match us, hl with | [_, _, _, _], _ => rfl)
    d_law_choices := defAt_mk X G a_law_choices l_law_choices c_law_choices k_law_choices (fun _ _ _ _ _ _ us hl => match us, hl with | [_, _], _ => rfl)
  }
  exact ⟨PySem.W.fnOf "law" "law" (defArgs s_law) (defBody s_law) (defScope s_law) .none kV_law dc_law pm_law an_law cd_law ct_law, fun s v => .of_eq rfl, fun base _ _ =>
    law_sp hlaw (chain T (fun_mk (st := s_law) l_law c_law k_law))⟩
end DL.K18
set_option Elab.async false
set_option linter.all false
set_option maxRecDepth 100000
set_option maxHeartbeats 4000000
open PySem PySem.W PyProof.Rows in
set_option maxRecDepth 100000 in
set_option maxHeartbeats 0 in
theorem PySem.Challenge.cw_haarrows_k18_errors_holds : PySem.Challenge.rw_haarrows_k18_errors.Holds := by
  w_on; o_law; k_head; (case hw => w_witness2)
  k_fill
  refine DL.walkD (l := PySem.Challenge.rw_haarrows_k18_errors) (k := 10) rfl rfl ⟨rfl, by decide, by decide⟩ (fun w h Y => PySem.W.kIn_of Y) ?F
  case F =>
    intro w mg fa h KX G hmg
    refine' DL.K18.all_mk KX G hmg DL.K18.law_true ?z_isinstance ?z_int ?z_bool ?z_list ?z_tuple ?z_str ?z_set ?z_len ?z_abs ?z_max ?z_sum ?z_all ?z_sorted ?z_range ?z_zip ?z_enumerate ?n_LENGTHS ?l_LENGTHS ?n_MOST_PART ?n_MOST ?n_BadRow ?x_BadRow ?k_BadRow ?b_BadRow ?t_BadRow ?n_BadForm ?x_BadForm ?k_BadForm ?b_BadForm ?t_BadForm ?n_BadNumber ?x_BadNumber ?k_BadNumber ?b_BadNumber ?t_BadNumber ?n_BadKept ?x_BadKept ?k_BadKept ?b_BadKept ?t_BadKept ?n_BadText ?x_BadText ?k_BadText ?b_BadText ?t_BadText ?n_NotFound ?x_NotFound ?k_NotFound ?b_NotFound ?t_NotFound ?n_HaarError ?z_ValueError ?ex_n ?ex_t ?xg_BadRow ?xk_BadRow ?xd_BadRow ?xa_BadRow ?xm_BadRow ?xv_BadRow ?xi_BadRow_HaarError ?xi_BadRow_BadRow ?xi_BadRow_BadForm ?xi_BadRow_BadNumber ?xi_BadRow_BadKept ?xi_BadRow_BadText ?xi_BadRow_NotFound ?xg_BadForm ?xk_BadForm ?xd_BadForm ?xa_BadForm ?xm_BadForm ?xv_BadForm ?xi_BadForm_HaarError ?xi_BadForm_BadRow ?xi_BadForm_BadForm ?xi_BadForm_BadNumber ?xi_BadForm_BadKept ?xi_BadForm_BadText ?xi_BadForm_NotFound ?xg_BadNumber ?xk_BadNumber ?xd_BadNumber ?xa_BadNumber ?xm_BadNumber ?xv_BadNumber ?xi_BadNumber_HaarError ?xi_BadNumber_BadRow ?xi_BadNumber_BadForm ?xi_BadNumber_BadNumber ?xi_BadNumber_BadKept ?xi_BadNumber_BadText ?xi_BadNumber_NotFound ?xg_BadKept ?xk_BadKept ?xd_BadKept ?xa_BadKept ?xm_BadKept ?xv_BadKept ?xi_BadKept_HaarError ?xi_BadKept_BadRow ?xi_BadKept_BadForm ?xi_BadKept_BadNumber ?xi_BadKept_BadKept ?xi_BadKept_BadText ?xi_BadKept_NotFound ?xg_BadText ?xk_BadText ?xd_BadText ?xa_BadText ?xm_BadText ?xv_BadText ?xi_BadText_HaarError ?xi_BadText_BadRow ?xi_BadText_BadForm ?xi_BadText_BadNumber ?xi_BadText_BadKept ?xi_BadText_BadText ?xi_BadText_NotFound ?xg_NotFound ?xk_NotFound ?xd_NotFound ?xa_NotFound ?xm_NotFound ?xv_NotFound ?xi_NotFound_HaarError ?xi_NotFound_BadRow ?xi_NotFound_BadForm ?xi_NotFound_BadNumber ?xi_NotFound_BadKept ?xi_NotFound_BadText ?xi_NotFound_NotFound ?b_HaarError ?xd_HaarError ?t_HaarError ?n_Keeper ?kp_pg ?kp_hd ?kp_po ?kp_sa ?kp_mk ?kp_kc ?kp_nf ?kp_nr ?a_is_int ?l_is_int ?c_is_int ?k_is_int ?a_is_form ?l_is_form ?c_is_form ?k_is_form ?a_check_form ?l_check_form ?c_check_form ?k_check_form ?a_check_place ?l_check_place ?c_check_place ?k_check_place ?a_is_kept ?l_is_kept ?c_is_kept ?k_is_kept ?a_check_kept ?l_check_kept ?c_check_kept ?k_check_kept ?a_halves ?l_halves ?c_halves ?k_halves ?a_sums_of ?l_sums_of ?c_sums_of ?k_sums_of ?a_has_row ?l_has_row ?c_has_row ?k_has_row ?a_first_odd ?l_first_odd ?c_first_odd ?k_first_odd ?a_list_of ?l_list_of ?c_list_of ?k_list_of ?a_block_size ?l_block_size ?c_block_size ?k_block_size ?a_place_of ?l_place_of ?c_place_of ?k_place_of ?a_sign_at ?l_sign_at ?c_sign_at ?k_sign_at ?a_common ?l_common ?c_common ?k_common ?a_lowest ?l_lowest ?c_lowest ?k_lowest ?a_plus ?l_plus ?c_plus ?k_plus ?a_less ?l_less ?c_less ?k_less ?a_total ?l_total ?c_total ?k_total ?a_is_size ?l_is_size ?c_is_size ?k_is_size ?a_check_size ?l_check_size ?c_check_size ?k_check_size ?a_value_of ?l_value_of ?c_value_of ?k_value_of ?a_value_at ?l_value_at ?c_value_at ?k_value_at ?a_all_values ?l_all_values ?c_all_values ?k_all_values ?a_sum_from_to ?l_sum_from_to ?c_sum_from_to ?k_sum_from_to ?a_details_for ?l_details_for ?c_details_for ?k_details_for ?a_means ?l_means ?c_means ?k_means ?a_share_of ?l_share_of ?c_share_of ?k_share_of ?a_share ?l_share ?c_share ?k_share ?a_shares ?l_shares ?c_shares ?k_shares ?a_left_out ?l_left_out ?c_left_out ?k_left_out ?a_in_order ?l_in_order ?c_in_order ?k_in_order ?a_by_share ?l_by_share ?c_by_share ?k_by_share ?a_check_many ?l_check_many ?c_check_many ?k_check_many ?a_with_kept ?l_with_kept ?c_with_kept ?k_with_kept ?a_only ?l_only ?c_only ?k_only ?a_best_kept ?l_best_kept ?c_best_kept ?k_best_kept ?a_least_error ?l_least_error ?c_least_error ?k_least_error ?a_ties ?l_ties ?c_ties ?k_ties ?a_choose ?l_choose ?c_choose ?k_choose ?a_count_best ?l_count_best ?c_count_best ?k_count_best ?a_fewest_within ?l_fewest_within ?c_fewest_within ?k_fewest_within ?a_greatest_gap ?l_greatest_gap ?c_greatest_gap ?k_greatest_gap ?a_is_best ?l_is_best ?c_is_best ?k_is_best ?a_checked ?l_checked ?c_checked ?k_checked ?a_changed_form ?l_changed_form ?c_changed_form ?k_changed_form ?a_added ?l_added ?c_added ?k_added ?a_scaled ?l_scaled ?c_scaled ?k_scaled ?a_backward_form ?l_backward_form ?c_backward_form ?k_backward_form ?a_exchanged ?l_exchanged ?c_exchanged ?k_exchanged ?a_halves_of ?l_halves_of ?c_halves_of ?k_halves_of ?a_Keeper___init__ ?i_Keeper___init__ ?l_Keeper___init__ ?c_Keeper___init__ ?k_Keeper___init__ ?a_Keeper_error ?i_Keeper_error ?l_Keeper_error ?c_Keeper_error ?k_Keeper_error ?a_Keeper_kept ?i_Keeper_kept ?l_Keeper_kept ?c_Keeper_kept ?k_Keeper_kept ?a_Keeper_value ?i_Keeper_value ?l_Keeper_value ?c_Keeper_value ?k_Keeper_value ?a_Keeper___len__ ?i_Keeper___len__ ?l_Keeper___len__ ?c_Keeper___len__ ?k_Keeper___len__ ?a_format_form ?l_format_form ?c_format_form ?k_format_form ?a_law_start ?l_law_start ?c_law_start ?k_law_start ?a_law_draw ?l_law_draw ?c_law_draw ?k_law_draw ?a_law_error ?l_law_error ?c_law_error ?k_law_error ?a_law_one ?l_law_one ?c_law_one ?k_law_one ?a_law_two ?l_law_two ?c_law_two ?k_law_two ?a_law_asked ?l_law_asked ?c_law_asked ?k_law_asked ?a_law_choices ?l_law_choices ?c_law_choices ?k_law_choices ?a_law ?l_law ?c_law ?k_law
    (case z_isinstance => k_is)
    (case z_int => k_is)
    (case z_bool => k_is)
    (case z_list => k_is)
    (case z_tuple => k_is)
    (case z_str => k_is)
    (case z_set => k_is)
    (case z_len => k_is)
    (case z_abs => k_is)
    (case z_max => k_is)
    (case z_sum => k_is)
    (case z_all => k_is)
    (case z_sorted => k_is)
    (case z_range => k_is)
    (case z_zip => k_is)
    (case z_enumerate => k_is)
    (case n_LENGTHS => k_is)
    (case l_LENGTHS => k_is)
    (case n_MOST_PART => k_is)
    (case n_MOST => k_is)
    (case n_BadRow => k_is)
    (case x_BadRow => first | k_exc | k_is)
    (case k_BadRow => k_is)
    (case b_BadRow => k_is)
    (case t_BadRow => k_is)
    (case n_BadForm => k_is)
    (case x_BadForm => first | k_exc | k_is)
    (case k_BadForm => k_is)
    (case b_BadForm => k_is)
    (case t_BadForm => k_is)
    (case n_BadNumber => k_is)
    (case x_BadNumber => first | k_exc | k_is)
    (case k_BadNumber => k_is)
    (case b_BadNumber => k_is)
    (case t_BadNumber => k_is)
    (case n_BadKept => k_is)
    (case x_BadKept => first | k_exc | k_is)
    (case k_BadKept => k_is)
    (case b_BadKept => k_is)
    (case t_BadKept => k_is)
    (case n_BadText => k_is)
    (case x_BadText => first | k_exc | k_is)
    (case k_BadText => k_is)
    (case b_BadText => k_is)
    (case t_BadText => k_is)
    (case n_NotFound => k_is)
    (case x_NotFound => first | k_exc | k_is)
    (case k_NotFound => k_is)
    (case b_NotFound => k_is)
    (case t_NotFound => k_is)
    (case n_HaarError => k_is)
    (case z_ValueError => k_is)
    (case ex_n => k_is)
    (case ex_t => k_is)
    (case xg_BadRow => k_is)
    (case xk_BadRow => k_is)
    (case xd_BadRow => k_is)
    (case xa_BadRow => k_is)
    (case xm_BadRow => k_is)
    (case xv_BadRow => k_is)
    (case xi_BadRow_HaarError => k_is)
    (case xi_BadRow_BadRow => k_is)
    (case xi_BadRow_BadForm => k_is)
    (case xi_BadRow_BadNumber => k_is)
    (case xi_BadRow_BadKept => k_is)
    (case xi_BadRow_BadText => k_is)
    (case xi_BadRow_NotFound => k_is)
    (case xg_BadForm => k_is)
    (case xk_BadForm => k_is)
    (case xd_BadForm => k_is)
    (case xa_BadForm => k_is)
    (case xm_BadForm => k_is)
    (case xv_BadForm => k_is)
    (case xi_BadForm_HaarError => k_is)
    (case xi_BadForm_BadRow => k_is)
    (case xi_BadForm_BadForm => k_is)
    (case xi_BadForm_BadNumber => k_is)
    (case xi_BadForm_BadKept => k_is)
    (case xi_BadForm_BadText => k_is)
    (case xi_BadForm_NotFound => k_is)
    (case xg_BadNumber => k_is)
    (case xk_BadNumber => k_is)
    (case xd_BadNumber => k_is)
    (case xa_BadNumber => k_is)
    (case xm_BadNumber => k_is)
    (case xv_BadNumber => k_is)
    (case xi_BadNumber_HaarError => k_is)
    (case xi_BadNumber_BadRow => k_is)
    (case xi_BadNumber_BadForm => k_is)
    (case xi_BadNumber_BadNumber => k_is)
    (case xi_BadNumber_BadKept => k_is)
    (case xi_BadNumber_BadText => k_is)
    (case xi_BadNumber_NotFound => k_is)
    (case xg_BadKept => k_is)
    (case xk_BadKept => k_is)
    (case xd_BadKept => k_is)
    (case xa_BadKept => k_is)
    (case xm_BadKept => k_is)
    (case xv_BadKept => k_is)
    (case xi_BadKept_HaarError => k_is)
    (case xi_BadKept_BadRow => k_is)
    (case xi_BadKept_BadForm => k_is)
    (case xi_BadKept_BadNumber => k_is)
    (case xi_BadKept_BadKept => k_is)
    (case xi_BadKept_BadText => k_is)
    (case xi_BadKept_NotFound => k_is)
    (case xg_BadText => k_is)
    (case xk_BadText => k_is)
    (case xd_BadText => k_is)
    (case xa_BadText => k_is)
    (case xm_BadText => k_is)
    (case xv_BadText => k_is)
    (case xi_BadText_HaarError => k_is)
    (case xi_BadText_BadRow => k_is)
    (case xi_BadText_BadForm => k_is)
    (case xi_BadText_BadNumber => k_is)
    (case xi_BadText_BadKept => k_is)
    (case xi_BadText_BadText => k_is)
    (case xi_BadText_NotFound => k_is)
    (case xg_NotFound => k_is)
    (case xk_NotFound => k_is)
    (case xd_NotFound => k_is)
    (case xa_NotFound => k_is)
    (case xm_NotFound => k_is)
    (case xv_NotFound => k_is)
    (case xi_NotFound_HaarError => k_is)
    (case xi_NotFound_BadRow => k_is)
    (case xi_NotFound_BadForm => k_is)
    (case xi_NotFound_BadNumber => k_is)
    (case xi_NotFound_BadKept => k_is)
    (case xi_NotFound_BadText => k_is)
    (case xi_NotFound_NotFound => k_is)
    (case b_HaarError => k_is)
    (case xd_HaarError => k_is)
    (case t_HaarError => k_is)
    (case n_Keeper => k_is)
    (case kp_pg => k_is)
    (case kp_hd => k_is)
    (case kp_po => k_is)
    (case kp_sa => k_is)
    (case kp_mk => k_is)
    (case kp_kc => k_is)
    (case kp_nf => k_is)
    (case kp_nr => k_is)
    (case a_is_int => k_is)
    (case l_is_int => k_is)
    (case c_is_int => k_is)
    (case k_is_int => k_is)
    (case a_is_form => k_is)
    (case l_is_form => k_is)
    (case c_is_form => k_is)
    (case k_is_form => k_is)
    (case a_check_form => k_is)
    (case l_check_form => k_is)
    (case c_check_form => k_is)
    (case k_check_form => k_is)
    (case a_check_place => k_is)
    (case l_check_place => k_is)
    (case c_check_place => k_is)
    (case k_check_place => k_is)
    (case a_is_kept => k_is)
    (case l_is_kept => k_is)
    (case c_is_kept => k_is)
    (case k_is_kept => k_is)
    (case a_check_kept => k_is)
    (case l_check_kept => k_is)
    (case c_check_kept => k_is)
    (case k_check_kept => k_is)
    (case a_halves => k_is)
    (case l_halves => k_is)
    (case c_halves => k_is)
    (case k_halves => k_is)
    (case a_sums_of => k_is)
    (case l_sums_of => k_is)
    (case c_sums_of => k_is)
    (case k_sums_of => k_is)
    (case a_has_row => k_is)
    (case l_has_row => k_is)
    (case c_has_row => k_is)
    (case k_has_row => k_is)
    (case a_first_odd => k_is)
    (case l_first_odd => k_is)
    (case c_first_odd => k_is)
    (case k_first_odd => k_is)
    (case a_list_of => k_is)
    (case l_list_of => k_is)
    (case c_list_of => k_is)
    (case k_list_of => k_is)
    (case a_block_size => k_is)
    (case l_block_size => k_is)
    (case c_block_size => k_is)
    (case k_block_size => k_is)
    (case a_place_of => k_is)
    (case l_place_of => k_is)
    (case c_place_of => k_is)
    (case k_place_of => k_is)
    (case a_sign_at => k_is)
    (case l_sign_at => k_is)
    (case c_sign_at => k_is)
    (case k_sign_at => k_is)
    (case a_common => k_is)
    (case l_common => k_is)
    (case c_common => k_is)
    (case k_common => k_is)
    (case a_lowest => k_is)
    (case l_lowest => k_is)
    (case c_lowest => k_is)
    (case k_lowest => k_is)
    (case a_plus => k_is)
    (case l_plus => k_is)
    (case c_plus => k_is)
    (case k_plus => k_is)
    (case a_less => k_is)
    (case l_less => k_is)
    (case c_less => k_is)
    (case k_less => k_is)
    (case a_total => k_is)
    (case l_total => k_is)
    (case c_total => k_is)
    (case k_total => k_is)
    (case a_is_size => k_is)
    (case l_is_size => k_is)
    (case c_is_size => k_is)
    (case k_is_size => k_is)
    (case a_check_size => k_is)
    (case l_check_size => k_is)
    (case c_check_size => k_is)
    (case k_check_size => k_is)
    (case a_value_of => k_is)
    (case l_value_of => k_is)
    (case c_value_of => k_is)
    (case k_value_of => k_is)
    (case a_value_at => k_is)
    (case l_value_at => k_is)
    (case c_value_at => k_is)
    (case k_value_at => k_is)
    (case a_all_values => k_is)
    (case l_all_values => k_is)
    (case c_all_values => k_is)
    (case k_all_values => k_is)
    (case a_sum_from_to => k_is)
    (case l_sum_from_to => k_is)
    (case c_sum_from_to => k_is)
    (case k_sum_from_to => k_is)
    (case a_details_for => k_is)
    (case l_details_for => k_is)
    (case c_details_for => k_is)
    (case k_details_for => k_is)
    (case a_means => k_is)
    (case l_means => k_is)
    (case c_means => k_is)
    (case k_means => k_is)
    (case a_share_of => k_is)
    (case l_share_of => k_is)
    (case c_share_of => k_is)
    (case k_share_of => k_is)
    (case a_share => k_is)
    (case l_share => k_is)
    (case c_share => k_is)
    (case k_share => k_is)
    (case a_shares => k_is)
    (case l_shares => k_is)
    (case c_shares => k_is)
    (case k_shares => k_is)
    (case a_left_out => k_is)
    (case l_left_out => k_is)
    (case c_left_out => k_is)
    (case k_left_out => k_is)
    (case a_in_order => k_is)
    (case l_in_order => k_is)
    (case c_in_order => k_is)
    (case k_in_order => k_is)
    (case a_by_share => k_is)
    (case l_by_share => k_is)
    (case c_by_share => k_is)
    (case k_by_share => k_is)
    (case a_check_many => k_is)
    (case l_check_many => k_is)
    (case c_check_many => k_is)
    (case k_check_many => k_is)
    (case a_with_kept => k_is)
    (case l_with_kept => k_is)
    (case c_with_kept => k_is)
    (case k_with_kept => k_is)
    (case a_only => k_is)
    (case l_only => k_is)
    (case c_only => k_is)
    (case k_only => k_is)
    (case a_best_kept => k_is)
    (case l_best_kept => k_is)
    (case c_best_kept => k_is)
    (case k_best_kept => k_is)
    (case a_least_error => k_is)
    (case l_least_error => k_is)
    (case c_least_error => k_is)
    (case k_least_error => k_is)
    (case a_ties => k_is)
    (case l_ties => k_is)
    (case c_ties => k_is)
    (case k_ties => k_is)
    (case a_choose => k_is)
    (case l_choose => k_is)
    (case c_choose => k_is)
    (case k_choose => k_is)
    (case a_count_best => k_is)
    (case l_count_best => k_is)
    (case c_count_best => k_is)
    (case k_count_best => k_is)
    (case a_fewest_within => k_is)
    (case l_fewest_within => k_is)
    (case c_fewest_within => k_is)
    (case k_fewest_within => k_is)
    (case a_greatest_gap => k_is)
    (case l_greatest_gap => k_is)
    (case c_greatest_gap => k_is)
    (case k_greatest_gap => k_is)
    (case a_is_best => k_is)
    (case l_is_best => k_is)
    (case c_is_best => k_is)
    (case k_is_best => k_is)
    (case a_checked => k_is)
    (case l_checked => k_is)
    (case c_checked => k_is)
    (case k_checked => k_is)
    (case a_changed_form => k_is)
    (case l_changed_form => k_is)
    (case c_changed_form => k_is)
    (case k_changed_form => k_is)
    (case a_added => k_is)
    (case l_added => k_is)
    (case c_added => k_is)
    (case k_added => k_is)
    (case a_scaled => k_is)
    (case l_scaled => k_is)
    (case c_scaled => k_is)
    (case k_scaled => k_is)
    (case a_backward_form => k_is)
    (case l_backward_form => k_is)
    (case c_backward_form => k_is)
    (case k_backward_form => k_is)
    (case a_exchanged => k_is)
    (case l_exchanged => k_is)
    (case c_exchanged => k_is)
    (case k_exchanged => k_is)
    (case a_halves_of => k_is)
    (case l_halves_of => k_is)
    (case c_halves_of => k_is)
    (case k_halves_of => k_is)
    (case a_Keeper___init__ => k_is)
    (case i_Keeper___init__ => k_is)
    (case l_Keeper___init__ => k_is)
    (case c_Keeper___init__ => k_is)
    (case k_Keeper___init__ => k_is)
    (case a_Keeper_error => k_is)
    (case i_Keeper_error => k_is)
    (case l_Keeper_error => k_is)
    (case c_Keeper_error => k_is)
    (case k_Keeper_error => k_is)
    (case a_Keeper_kept => k_is)
    (case i_Keeper_kept => k_is)
    (case l_Keeper_kept => k_is)
    (case c_Keeper_kept => k_is)
    (case k_Keeper_kept => k_is)
    (case a_Keeper_value => k_is)
    (case i_Keeper_value => k_is)
    (case l_Keeper_value => k_is)
    (case c_Keeper_value => k_is)
    (case k_Keeper_value => k_is)
    (case a_Keeper___len__ => k_is)
    (case i_Keeper___len__ => k_is)
    (case l_Keeper___len__ => k_is)
    (case c_Keeper___len__ => k_is)
    (case k_Keeper___len__ => k_is)
    (case a_format_form => k_is)
    (case l_format_form => k_is)
    (case c_format_form => k_is)
    (case k_format_form => k_is)
    (case a_law_start => k_is)
    (case l_law_start => k_is)
    (case c_law_start => k_is)
    (case k_law_start => k_is)
    (case a_law_draw => k_is)
    (case l_law_draw => k_is)
    (case c_law_draw => k_is)
    (case k_law_draw => k_is)
    (case a_law_error => k_is)
    (case l_law_error => k_is)
    (case c_law_error => k_is)
    (case k_law_error => k_is)
    (case a_law_one => k_is)
    (case l_law_one => k_is)
    (case c_law_one => k_is)
    (case k_law_one => k_is)
    (case a_law_two => k_is)
    (case l_law_two => k_is)
    (case c_law_two => k_is)
    (case k_law_two => k_is)
    (case a_law_asked => k_is)
    (case l_law_asked => k_is)
    (case c_law_asked => k_is)
    (case k_law_asked => k_is)
    (case a_law_choices => k_is)
    (case l_law_choices => k_is)
    (case c_law_choices => k_is)
    (case k_law_choices => k_is)
    (case a_law => k_is)
    (case l_law => k_is)
    (case c_law => k_is)
    (case k_law => k_is)
