import PyProof.Rows.All
import Wide.All
import OpenK.AllK
import Wide.FinOn
import HandS.ForMost
import HandS.Exc
import HandS.ExcOwn
import HandS.ExcSuper
import HandS.Wide
import HandS.EndBits
import HandS.Walk
import HandS.IsInst
import HandS.TryOnly
import HandS.Flow
import HandS.WordsExc
import KE.SortData
import HandS.TupAny
import HandS.TupLe
import HandS.Deep
import HandS.Zip
import HandS.Conv
import KE.GoesMore
import PyProof.EnumMake
import HandS.RaiseMore
import PySem.Challenge.RW_halffilled_k21_broken_rules
set_option Elab.async false
set_option linter.all false
set_option maxRecDepth 100000
set_option maxHeartbeats 4000000
/-! DL: data values, a store of lists, combinators, and what they say of the text's code. -/
namespace DL
open PySem PySem.Spec PyProof.Rows L2

/-! ### values, cells, results -/
inductive D where
  | non | bl (b : Bool) | int (i : Int) | str (x : Str) | tup (xs : List D) | rol (xs : List D) | loc (l : Nat)
inductive Cell where
  | lst (xs : List D)
abbrev Store := List Cell
structure Exn where
  cls : Str
  fs : List (Str × D)
inductive Res (α : Type) where
  | ok (a : α) (S : Store) | ex (e : Exn) (S : Store) | no
def Res.bind {α β : Type} (r : Res α) (k : α → Store → Res β) : Res β := match r with
  | .ok a S => k a S
  | .ex e S => .ex e S
  | .no => .no
@[simp] theorem Res.bind_ok {α β : Type} (a : α) (S : Store) (k : α → Store → Res β) : (Res.ok a S).bind k = k a S := rfl
@[simp] theorem Res.bind_ex {α β : Type} (e : Exn) (S : Store) (k : α → Store → Res β) : (Res.ex e S : Res α).bind k = .ex e S := rfl
@[simp] theorem Res.bind_no {α β : Type} (k : α → Store → Res β) : (Res.no : Res α).bind k = .no := rfl
abbrev Sg := List (Option D)
abbrev DE := Sg → Store → Res D
abbrev DT := Sg → Store → Res Bool
abbrev DA := Sg → Store → Res (List D)
inductive SR where
  | nx (σ : Sg) (S : Store) | rt (d : D) (S : Store) | bk (σ : Sg) (S : Store) | ct (σ : Sg) (S : Store) | ex (e : Exn) (σ : Sg) (S : Store) | no
abbrev DS := Sg → Store → SR
abbrev K1 := D → Store → Res D
abbrev K2 := D → D → Store → Res D
abbrev KA := List D → Store → Res D

/-! ### what they stand for -/
/-- what never changes -/
def imm : HO → Prop
  | .tup _ => True
  | .frz _ _ => True
  | _ => False
/-- a list that stays: locked, or one of the text's own -/
def SqI (K : PySem.W.Frag) (H : Hp) (a : Addr) (xs : List V) : Prop :=
  (∃ o, H a = some (.frz o (.lst xs))) ∨
    ∃ (o : Obj) (its : Array Value) (n : Nat), K.lookup a = some o ∧ o.cls = .type "list" ∧ o.dict = none ∧ o.data = .seq its n ∧ its.size ≤ sizeLine ∧ Vals xs its.toList
theorem SqI.sq {K : PySem.W.Frag} {H : Hp} {a : Addr} {xs : List V} (h : SqI K H a xs) : SqL K H a xs := by
  rcases h with ⟨o, h⟩ | h
  · exact .inl (.inr ⟨o, h⟩)
  · exact .inr h
mutual
inductive R (K : PySem.W.Frag) (μ : List Addr) (H : Hp) : D → V → Prop
  | non : R K μ H .non .non
  | bl (b : Bool) : R K μ H (.bl b) (.bl b)
  | int (i : Int) : R K μ H (.int i) (.int i)
  | str (x : Str) : R K μ H (.str x) (.str x)
  | tup {a : Addr} {vs : List V} {xs : List D} : SqT K H a vs → vs.length ≤ sizeLine → RL K μ H xs vs → R K μ H (.tup xs) (.ref a)
  | rol {a : Addr} {vs : List V} {xs : List D} : SqI K H a vs → vs.length ≤ sizeLine → RL K μ H xs vs → R K μ H (.rol xs) (.ref a)
  | loc {l : Nat} {a : Addr} : μ[l]? = some a → R K μ H (.loc l) (.ref a)
inductive RL (K : PySem.W.Frag) (μ : List Addr) (H : Hp) : List D → List V → Prop
  | nil : RL K μ H [] []
  | cons {x : D} {v : V} {xs : List D} {vs : List V} : R K μ H x v → RL K μ H xs vs → RL K μ H (x :: xs) (v :: vs)
end
def CellR (K : PySem.W.Frag) (μ : List Addr) (H : Hp) (a : Addr) : Cell → Prop
  | .lst xs => ∃ vs, H a = some (.lst vs) ∧ vs.length ≤ sizeLine ∧ RL K μ H xs vs
structure Ok (K : PySem.W.Frag) (μ : List Addr) (H : Hp) (S : Store) : Prop where
  len : μ.length = S.length
  nd : μ.Nodup
  cell : ∀ (l : Nat) (a : Addr) (c : Cell), μ[l]? = some a → S[l]? = some c → CellR K μ H a c
structure Ext (μ : List Addr) (H : Hp) (μ' : List Addr) (H' : Hp) : Prop where
  pre : ∃ ν, μ' = μ ++ ν
  keep : ∀ b o, H b = some o → (b ∈ μ → imm o) → H' b = some o
  new : ∀ a, a ∈ μ' → a ∉ μ → H a = none

section
variable {K : PySem.W.Frag} {μ μ1 μ2 : List Addr} {H H1 H2 : Hp}
theorem Ext.refl (μ : List Addr) (H : Hp) : Ext μ H μ H := ⟨⟨[], by simp⟩, fun _ _ e _ => e, fun a h h' => absurd h h'⟩
theorem Ext.trans (a : Ext μ H μ1 H1) (b : Ext μ1 H1 μ2 H2) : Ext μ H μ2 H2 := by
  obtain ⟨ν, e⟩ := a.pre
  obtain ⟨ν', e'⟩ := b.pre
  refine ⟨⟨ν ++ ν', by rw [e', e, List.append_assoc]⟩, fun c o h hc => b.keep c o (a.keep c o h hc) fun hm => ?_, fun c h1 h2 => ?_⟩
  · by_cases hμ : c ∈ μ
    · exact hc hμ
    · rw [a.new c hm hμ] at h; cases h
  · by_cases h3 : c ∈ μ1
    · exact a.new c h3 h2
    · have z := b.new c h1 h3
      cases q : H c with
      | none => rfl
      | some o => rw [a.keep c o q fun hm => absurd hm h2] at z; cases z
theorem Ext.tup (a : Ext μ H μ1 H1) {b : Addr} {vs : List V} (h : H b = some (.tup vs)) : H1 b = some (.tup vs) := a.keep _ _ h fun _ => trivial
theorem Ext.frz (a : Ext μ H μ1 H1) {b : Addr} {o : Obj} {u : HO} (h : H b = some (.frz o u)) : H1 b = some (.frz o u) := a.keep _ _ h fun _ => trivial
/-- what never changes is kept -/
structure Sub (μ : List Addr) (H : Hp) (μ' : List Addr) (H' : Hp) : Prop where
  pre : ∃ ν, μ' = μ ++ ν
  imm : ∀ b o, H b = some o → imm o → H' b = some o
theorem Ext.sub (a : Ext μ H μ1 H1) : Sub μ H μ1 H1 := ⟨a.pre, fun b o h i => a.keep b o h fun _ => i⟩
theorem Sub.sqT (x : Sub μ H μ1 H1) {a : Addr} {vs : List V} (h : SqT K H a vs) : SqT K H1 a vs := by
  rcases h with (h | ⟨o, h⟩) | h
  · exact .inl (.inl (x.imm _ _ h trivial))
  · exact .inl (.inr ⟨o, x.imm _ _ h trivial⟩)
  · exact .inr h
theorem Ext.sqT (x : Ext μ H μ1 H1) {a : Addr} {vs : List V} (h : SqT K H a vs) : SqT K H1 a vs := x.sub.sqT h
theorem Sub.at (x : Sub μ H μ1 H1) {l : Nat} {a : Addr} (h : μ[l]? = some a) : μ1[l]? = some a := by
  obtain ⟨ν, e⟩ := x.pre
  rw [e, List.getElem?_append_left (List.getElem?_eq_some_iff.mp h).1]
  exact h
theorem Ext.at (x : Ext μ H μ1 H1) {l : Nat} {a : Addr} (h : μ[l]? = some a) : μ1[l]? = some a := x.sub.at h
theorem Sub.sqI (x : Sub μ H μ1 H1) {a : Addr} {vs : List V} (h : SqI K H a vs) : SqI K H1 a vs := by
  rcases h with ⟨o, h⟩ | h
  · exact .inl ⟨o, x.imm _ _ h trivial⟩
  · exact .inr h
theorem Ext.sqI (x : Ext μ H μ1 H1) {a : Addr} {vs : List V} (h : SqI K H a vs) : SqI K H1 a vs := x.sub.sqI h
mutual
theorem R.subM (x : Sub μ H μ1 H1) : ∀ {d : D} {v : V}, R K μ H d v → R K μ1 H1 d v
  | _, _, .non => .non
  | _, _, .bl b => .bl b
  | _, _, .int i => .int i
  | _, _, .str z => .str z
  | _, _, .tup h l r => .tup (x.sqT h) l (RL.subM x r)
  | _, _, .rol h l r => .rol (x.sqI h) l (RL.subM x r)
  | _, _, .loc h => .loc (x.at h)
theorem RL.subM (x : Sub μ H μ1 H1) : ∀ {ds : List D} {vs : List V}, RL K μ H ds vs → RL K μ1 H1 ds vs
  | _, _, .nil => .nil
  | _, _, .cons r t => .cons (R.subM x r) (RL.subM x t)
end
theorem R.mono (x : Ext μ H μ1 H1) {d : D} {v : V} (r : R K μ H d v) : R K μ1 H1 d v := r.subM x.sub
theorem RL.mono (x : Ext μ H μ1 H1) {ds : List D} {vs : List V} (r : RL K μ H ds vs) : RL K μ1 H1 ds vs := r.subM x.sub
theorem RL.length : ∀ {ds : List D} {vs : List V}, RL K μ H ds vs → ds.length = vs.length
  | _, _, .nil => rfl
  | _, _, .cons _ t => by rw [List.length_cons, List.length_cons, RL.length t]
theorem RL.get : ∀ {ds : List D} {vs : List V} {i : Nat} {d : D}, RL K μ H ds vs → ds[i]? = some d → ∃ v, vs[i]? = some v ∧ R K μ H d v
  | _, _, _, _, .nil, e => by simp at e
  | _, _, 0, _, .cons r _, e => by simp at e; subst e; exact ⟨_, rfl, r⟩
  | _, _, i + 1, _, .cons _ t, e => by
    obtain ⟨v, h1, h2⟩ := RL.get (i := i) t (by simpa using e)
    exact ⟨v, by simpa using h1, h2⟩
theorem RL.getV : ∀ {ds : List D} {vs : List V} {i : Nat} {v : V}, RL K μ H ds vs → vs[i]? = some v → ∃ d, ds[i]? = some d ∧ R K μ H d v
  | _, _, _, _, .nil, e => by simp at e
  | _, _, 0, _, .cons r _, e => by simp at e; subst e; exact ⟨_, rfl, r⟩
  | _, _, i + 1, _, .cons _ t, e => by
    obtain ⟨v, h1, h2⟩ := RL.getV (i := i) t (by simpa using e)
    exact ⟨v, by simpa using h1, h2⟩
theorem RL.set {d : D} {v : V} (r : R K μ H d v) : ∀ {ds : List D} {vs : List V} (i : Nat), RL K μ H ds vs → RL K μ H (ds.set i d) (vs.set i v)
  | _, _, _, .nil => .nil
  | _, _, 0, .cons _ t => .cons r t
  | _, _, i + 1, .cons q t => .cons q (RL.set r i t)
theorem RL.append : ∀ {ds es : List D} {vs ws : List V}, RL K μ H ds vs → RL K μ H es ws → RL K μ H (ds ++ es) (vs ++ ws)
  | _, _, _, _, .nil, s => s
  | _, _, _, _, .cons r t, s => .cons r (RL.append t s)
theorem RL.take : ∀ {ds : List D} {vs : List V} (n : Nat), RL K μ H ds vs → RL K μ H (ds.take n) (vs.take n)
  | _, _, 0, _ => .nil
  | _, _, _ + 1, .nil => .nil
  | _, _, n + 1, .cons r t => .cons r (RL.take n t)
theorem RL.drop : ∀ {ds : List D} {vs : List V} (n : Nat), RL K μ H ds vs → RL K μ H (ds.drop n) (vs.drop n)
  | _, _, 0, r => r
  | _, _, _ + 1, .nil => .nil
  | _, _, n + 1, .cons _ t => RL.drop n t
theorem RL.eraseIdx : ∀ {ds : List D} {vs : List V} (n : Nat), RL K μ H ds vs → RL K μ H (ds.eraseIdx n) (vs.eraseIdx n)
  | _, _, _, .nil => .nil
  | _, _, 0, .cons _ t => t
  | _, _, n + 1, .cons r t => .cons r (RL.eraseIdx n t)
theorem RL.reverse : ∀ {ds : List D} {vs : List V}, RL K μ H ds vs → RL K μ H ds.reverse vs.reverse
  | _, _, .nil => .nil
  | _, _, .cons r t => by
    rw [List.reverse_cons, List.reverse_cons]
    exact RL.append (RL.reverse t) (.cons r .nil)
theorem RL.dropLast : ∀ {ds : List D} {vs : List V}, RL K μ H ds vs → RL K μ H ds.dropLast vs.dropLast := fun {ds vs} r => by
  rw [List.dropLast_eq_take, List.dropLast_eq_take, r.length]
  exact r.take _
theorem RL.ints : ∀ (ns : List Int), RL K μ H (ns.map D.int) (ns.map V.int)
  | [] => .nil
  | n :: r => .cons (.int n) (RL.ints r)
theorem RL.intsV : ∀ {ns : List Int} {vs : List V}, RL K μ H (ns.map D.int) vs → vs = ns.map V.int
  | [], _, .nil => rfl
  | n :: r, _, .cons h t => by
    cases h
    rw [RL.intsV t]; rfl
theorem CellR.subM (x : Sub μ H μ1 H1) {a : Addr} (hk : ∀ o, H a = some o → H1 a = some o) : ∀ {c : Cell}, CellR K μ H a c → CellR K μ1 H1 a c
  | .lst _, ⟨vs, h, l, r⟩ => ⟨vs, hk _ h, l, r.subM x⟩
theorem CellR.mono (x : Ext μ H μ1 H1) {a : Addr} (hk : ∀ o, H a = some o → H1 a = some o) {c : Cell} (h : CellR K μ H a c) : CellR K μ1 H1 a c := h.subM x.sub hk
end

/-! ### the store's steps -/
section
variable {K : PySem.W.Frag} {μ : List Addr} {H : Hp} {S : Store}
theorem Ok.at (ok : Ok K μ H S) {l : Nat} {c : Cell} (h : S[l]? = some c) : ∃ a, μ[l]? = some a ∧ CellR K μ H a c := by
  have hl : l < μ.length := by rw [ok.len]; exact (List.getElem?_eq_some_iff.mp h).1
  exact ⟨μ[l], by simp [hl], ok.cell l _ c (by simp [hl]) h⟩
theorem Ok.lst (ok : Ok K μ H S) {a : Addr} (h : a ∈ μ) : ∃ vs, H a = some (.lst vs) := by
  obtain ⟨l, hl, e⟩ := List.getElem_of_mem h
  have hs : l < S.length := by rw [← ok.len]; exact hl
  have z := ok.cell l a S[l] (by simp [hl, e]) (by simp [hs])
  cases q : S[l] with
  | lst xs =>
    rw [q] at z
    obtain ⟨vs, h, _⟩ := z
    exact ⟨vs, h⟩
theorem ext_new {p : Addr} {o : HO} (h : H p = none) : Ext μ H μ (upd H p o) := ⟨⟨[], by simp⟩, fun b o' e _ => by rw [upd_ne (ne_of_none e h)]; exact e, fun a h1 h2 => absurd h1 h2⟩
/-- something that the store does not tell of -/
theorem Ok.ext (ok : Ok K μ H S) {H' : Hp} (x : Ext μ H μ H') (hk : ∀ a ∈ μ, ∀ o, H a = some o → H' a = some o) : Ok K μ H' S :=
  ⟨ok.len, ok.nd, fun l a c h1 h2 => (ok.cell l a c h1 h2).mono x fun o e => hk a (List.mem_of_getElem? h1) o e⟩
theorem Ok.laid (ok : Ok K μ H S) {p : Addr} {o : HO} (h : H p = none) : Ok K μ (upd H p o) S :=
  ok.ext (ext_new h) fun a _ o' e => by rw [upd_ne (ne_of_none e h)]; exact e
theorem Ok.notin (ok : Ok K μ H S) {p : Addr} (h : H p = none) : p ∉ μ := fun hm => by
  obtain ⟨vs, e⟩ := ok.lst hm
  rw [h] at e; cases e
/-- a list is laid -/
theorem ext_add {p : Addr} {o : HO} (h : H p = none) : Ext μ H (μ ++ [p]) (upd H p o) := ⟨⟨[p], rfl⟩, fun b o' e _ => by rw [upd_ne (ne_of_none e h)]; exact e, fun a h1 h2 => by
  rcases List.mem_append.mp h1 with z | z
  · exact absurd z h2
  · rw [List.mem_singleton.mp z]; exact h⟩
theorem Ok.add (ok : Ok K μ H S) {p : Addr} {vs : List V} {xs : List D} (h : H p = none) (l : vs.length ≤ sizeLine) (r : RL K μ H xs vs) : Ok K (μ ++ [p]) (upd H p (.lst vs)) (S ++ [.lst xs]) := by
  have x : Ext μ H (μ ++ [p]) (upd H p (.lst vs)) := ext_add h
  refine ⟨by rw [List.length_append, List.length_append, ok.len]; rfl, ?_, fun i a c h1 h2 => ?_⟩
  · rw [List.nodup_append]
    refine ⟨ok.nd, by simp, fun a ha b hb e => ?_⟩
    rw [List.mem_singleton.mp hb] at e
    rw [e] at ha
    exact ok.notin h ha
  · by_cases hi : i < μ.length
    · rw [List.getElem?_append_left hi] at h1
      rw [List.getElem?_append_left (by rw [← ok.len]; exact hi)] at h2
      exact (ok.cell i a c h1 h2).mono x fun o e => by rw [upd_ne (ne_of_none e h)]; exact e
    · rw [List.getElem?_append_right (by omega)] at h1
      rw [List.getElem?_append_right (by rw [← ok.len]; omega)] at h2
      have e0 : i - μ.length = 0 := by
        have := (List.getElem?_eq_some_iff.mp h1).1
        simp at this
        omega
      have e1 : i - S.length = 0 := by rw [← ok.len]; exact e0
      rw [e0] at h1
      rw [e1] at h2
      simp at h1 h2
      subst h1 h2
      exact ⟨vs, upd_same, l, r.mono x⟩
/-- a list is changed -/
theorem ext_set {a : Addr} {o : HO} (hm : a ∈ μ) (hi : ∀ o, H a = some o → ¬ imm o) : Ext μ H μ (upd H a o) := ⟨⟨[], by simp⟩, fun b o' e hb => by
  by_cases z : b = a
  · subst z
    exact absurd (hb hm) (hi _ e)
  · rw [upd_ne z]; exact e, fun a h1 h2 => absurd h1 h2⟩
theorem Ok.set (ok : Ok K μ H S) {i : Nat} {a : Addr} {vs : List V} {xs : List D} (h : μ[i]? = some a) (l : vs.length ≤ sizeLine) (r : RL K μ H xs vs) : Ext μ H μ (upd H a (.lst vs)) ∧ Ok K μ (upd H a (.lst vs)) (S.set i (.lst xs)) := by
  have hm := List.mem_of_getElem? h
  obtain ⟨ws, hw⟩ := ok.lst hm
  have x : Ext μ H μ (upd H a (.lst vs)) := ext_set hm fun o e => by rw [hw] at e; cases e; exact fun z => z
  refine ⟨x, ⟨by rw [List.length_set]; exact ok.len, ok.nd, fun j b c h1 h2 => ?_⟩⟩
  by_cases hj : i = j
  · subst hj
    rw [h] at h1; cases h1
    have hi : i < S.length := by rw [← ok.len]; exact (List.getElem?_eq_some_iff.mp h).1
    rw [List.getElem?_set_self hi] at h2
    cases h2
    exact ⟨vs, upd_same, l, r.mono x⟩
  · rw [List.getElem?_set_ne hj] at h2
    have hb : b ≠ a := fun e => hj (by
      subst e
      obtain ⟨l1, e1⟩ := List.getElem?_eq_some_iff.mp h
      obtain ⟨l2, e2⟩ := List.getElem?_eq_some_iff.mp h1
      exact (List.getElem_inj ok.nd).mp (e1.trans e2.symm))
    exact (ok.cell j b c h1 h2).mono x fun o e => by rw [upd_ne hb]; exact e
end

/-! ### what is wanted behind -/
inductive FR (K : PySem.W.Frag) (μ : List Addr) (H : Hp) : List (Str × D) → List (Str × V) → Prop
  | nil : FR K μ H [] []
  | cons {n : Str} {x : D} {v : V} {xs : List (Str × D)} {vs : List (Str × V)} : R K μ H x v → FR K μ H xs vs → FR K μ H ((n, x) :: xs) ((n, v) :: vs)
/-- an exception of a class of the text, its fields -/
def ExR (K : PySem.W.Frag) (mg : Str → Option Value) (μ : List Addr) (H : Hp) (e : Exn) (cls : Value) (dx : Option Addr) : Prop :=
  ∃ C da vs, mg e.cls = some (.ref C) ∧ cls = .ref C ∧ dx = some da ∧ H da = some (.xd vs) ∧ da ∉ μ ∧ FR K μ H e.fs vs
section
variable {α β γ δ : Type} (K : PySem.W.Frag) (mg : Str → Option Value) (W : WX)
def Post (RA : List Addr → Hp → α → β → Prop) (μ : List Addr) (H : Hp) (σV : L2.St) (r : Res α) (Q : β → Hp → Prop) : Prop := match r with
  | .ok a S' => ∀ μ' H' b, Ext μ H μ' H' → Ok K μ' H' S' → RA μ' H' a b → Q b H'
  | .ex e S' => ∀ μ' H' cls dx, Ext μ H μ' H' → Ok K μ' H' S' → ExR K mg μ' H' e cls dx → W cls dx σV H'
  | .no => False
end
section
variable {α β γ δ : Type} {K : PySem.W.Frag} {mg : Str → Option Value} {W : WX} {μ μ1 : List Addr} {H H1 : Hp} {σV : L2.St}
  {RA : List Addr → Hp → α → β → Prop} {RC : List Addr → Hp → γ → δ → Prop}
theorem Post.mono (x : Ext μ H μ1 H1) {r : Res α} {Q : β → Hp → Prop} (h : Post K mg W RA μ H σV r Q) : Post K mg W RA μ1 H1 σV r Q := by
  cases r with
  | ok a S => exact fun μ' H' b e => h μ' H' b (x.trans e)
  | ex e S => exact fun μ' H' c d e => h μ' H' c d (x.trans e)
  | no => exact h
theorem Post.bind {r : Res α} {k : α → Store → Res γ} {Q : δ → Hp → Prop} {Q1 : β → Hp → Prop} (h : Post K mg W RC μ H σV (r.bind k) Q)
    (hk : ∀ a S1 μ1 H1 b, Ext μ H μ1 H1 → Ok K μ1 H1 S1 → RA μ1 H1 a b → Post K mg W RC μ1 H1 σV (k a S1) Q → Q1 b H1) : Post K mg W RA μ H σV r Q1 := by
  cases r with
  | ok a S => exact fun μ' H' b x ok ra => hk a S μ' H' b x ok ra (Post.mono x h)
  | ex e S => exact h
  | no => exact h
theorem Post.imp {r : Res α} {Q Q' : β → Hp → Prop} (h : Post K mg W RA μ H σV r Q) (hq : ∀ b H', Q b H' → Q' b H') : Post K mg W RA μ H σV r Q' := by
  cases r with
  | ok a S => exact fun μ' H' b e o ra => hq _ _ (h μ' H' b e o ra)
  | ex e S => exact h
  | no => exact h
end
abbrev RB : List Addr → Hp → Bool → Bool → Prop := fun _ _ a b => a = b
/-- the slots -/
structure EnvR (K : PySem.W.Frag) (μ : List Addr) (H : Hp) (σ : Sg) (σV : L2.St) : Prop where
  len : σ.length = σV.length
  get : ∀ (i : Nat) (d : D), σ[i]? = some (some d) → ∃ v, σV[i]? = some (some v) ∧ R K μ H d v
theorem EnvR.mono {K : PySem.W.Frag} {μ μ1 : List Addr} {H H1 : Hp} {σ : Sg} {σV : L2.St} (x : Ext μ H μ1 H1) (e : EnvR K μ H σ σV) : EnvR K μ1 H1 σ σV := ⟨e.len, fun i d h => by
  obtain ⟨v, h1, r⟩ := e.get i d h
  exact ⟨v, h1, r.mono x⟩⟩
theorem EnvR.set {K : PySem.W.Frag} {μ : List Addr} {H : Hp} {σ : Sg} {σV : L2.St} {d : D} {v : V} (e : EnvR K μ H σ σV) (i : Nat) (r : R K μ H d v) : EnvR K μ H (σ.set i (some d)) (σV.set i (some v)) := by
  refine ⟨by rw [List.length_set, List.length_set]; exact e.len, fun j d' h => ?_⟩
  by_cases hj : i = j
  · subst hj
    have hi : i < σ.length := by
      have := (List.getElem?_eq_some_iff.mp h).1
      rwa [List.length_set] at this
    rw [List.getElem?_set_self hi] at h
    cases h
    exact ⟨v, List.getElem?_set_self (by rw [← e.len]; exact hi), r⟩
  · rw [List.getElem?_set_ne hj] at h ⊢
    exact e.get j d' h
/-! ### the readings -/
section
variable (K : PySem.W.Frag) (mg : Str → Option Value) (W : WX)
def tG {α β : Type} (RA : List Addr → Hp → α → β → Prop) (f : Sg → Store → Res α) (σV : L2.St) (H : Hp) (Q : β → Hp → Prop) : Prop :=
  ∃ μ σ S, Ok K μ H S ∧ EnvR K μ H σ σV ∧ Post K mg W RA μ H σV (f σ S) Q
abbrev tE (f : DE) : TE := tG K mg W (R K) f
abbrev tT (f : DT) : TT := tG K mg W RB f
abbrev tA (f : DA) : TA := tG K mg W (RL K) f
/-- behind a statement -/
def SPost (μ : List Addr) (H : Hp) (r : SR) (Dn : Ends) : Prop := match r with
  | .nx σ S => ∀ μ' H' σV', Ext μ H μ' H' → Ok K μ' H' S → EnvR K μ' H' σ σV' → Dn.nx σV' H'
  | .rt d S => ∀ μ' H' v, Ext μ H μ' H' → Ok K μ' H' S → R K μ' H' d v → Dn.rt v H'
  | .bk σ S => ∀ μ' H' σV', Ext μ H μ' H' → Ok K μ' H' S → EnvR K μ' H' σ σV' → Dn.bk σV' H'
  | .ct σ S => ∀ μ' H' σV', Ext μ H μ' H' → Ok K μ' H' S → EnvR K μ' H' σ σV' → Dn.ct σV' H'
  | .ex e σ S => ∀ μ' H' σV' cls dx, Ext μ H μ' H' → Ok K μ' H' S → EnvR K μ' H' σ σV' → ExR K mg μ' H' e cls dx → W cls dx σV' H'
  | .no => False
def tS (f : DS) : TS := fun Dn σV H => ∃ μ σ S, Ok K μ H S ∧ EnvR K μ H σ σV ∧ SPost K mg W μ H (f σ S) Dn
end
theorem SPost.mono {K : PySem.W.Frag} {mg : Str → Option Value} {W : WX} {μ μ1 : List Addr} {H H1 : Hp} {r : SR} {Dn : Ends} (x : Ext μ H μ1 H1) (h : SPost K mg W μ H r Dn) : SPost K mg W μ1 H1 r Dn := by
  cases r with
  | nx σ S => exact fun μ' H' s e => h μ' H' s (x.trans e)
  | rt d S => exact fun μ' H' s e => h μ' H' s (x.trans e)
  | bk σ S => exact fun μ' H' s e => h μ' H' s (x.trans e)
  | ct σ S => exact fun μ' H' s e => h μ' H' s (x.trans e)
  | ex e σ S => exact fun μ' H' s c d e => h μ' H' s c d (x.trans e)
  | no => exact h
theorem PE.weak {X : Cx} {e : Expr} {t t' : TE} (h : PE X e t) (w : ∀ σ H Q, t' σ H Q → t σ H Q) : PE X e t' := ⟨fun pins s σ H Q I q => h.run pins s σ H Q I (w σ H Q q)⟩
theorem PT.weak {X : Cx} {e : Expr} {t t' : TT} (h : PT X e t) (w : ∀ σ H Q, t' σ H Q → t σ H Q) : PT X e t' := ⟨fun pins s σ H Q I q => h.run pins s σ H Q I (w σ H Q q)⟩
theorem PA.weak {X : Cx} {e : List Expr} {t t' : TA} (h : PA X e t) (w : ∀ σ H Q, t' σ H Q → t σ H Q) : PA X e t' := ⟨fun pos pins s σ H Q I q => h.run pos pins s σ H Q I (w σ H Q q)⟩
theorem PS.weak {X : Cx} {e : Stmt} {t t' : TS} (h : PS X e t) (w : ∀ D σ H, t' D σ H → t D σ H) : PS X e t' := ⟨fun pins s σ H D I q => h.run pins s σ H D I (w D σ H q)⟩
theorem PSs.weak {X : Cx} {e : List Stmt} {t t' : TS} (h : PSs X e t) (w : ∀ D σ H, t' D σ H → t D σ H) : PSs X e t' := ⟨fun pins s σ H D I q => h.run pins s σ H D I (w D σ H q)⟩
end DL

namespace DL
open PySem PySem.Spec PyProof.Rows L2

/-! ### operations on values -/
abbrev O1 := D → Store → Option (D × Store)
abbrev O2 := D → D → Store → Option (D × Store)
abbrev OA := List D → Store → Option (D × Store)
def Res.of {α : Type} : Option (α × Store) → Res α
  | some (a, S) => .ok a S
  | none => .no
@[simp] theorem Res.of_some {α : Type} (a : α) (S : Store) : Res.of (some (a, S)) = .ok a S := rfl
@[simp] theorem Res.of_none {α : Type} : (Res.of none : Res α) = .no := rfl
def PV {α β : Type} (K : PySem.W.Frag) (RA : List Addr → Hp → α → β → Prop) (μ : List Addr) (H : Hp) (r : Option (α × Store)) (Q : β → Hp → Prop) : Prop := match r with
  | some (a, S') => ∀ μ' H' b, Ext μ H μ' H' → Ok K μ' H' S' → RA μ' H' a b → Q b H'
  | none => False
theorem Post.of {α β : Type} {K : PySem.W.Frag} {mg : Str → Option Value} {W : WX} {RA : List Addr → Hp → α → β → Prop} {μ : List Addr} {H : Hp} {σV : L2.St} {r : Option (α × Store)} {Q : β → Hp → Prop} (h : Post K mg W RA μ H σV (Res.of r) Q) : PV K RA μ H r Q := by
  cases r with
  | none => exact h
  | some p => exact h
theorem PV.same {α β : Type} {K : PySem.W.Frag} {RA : List Addr → Hp → α → β → Prop} {μ : List Addr} {H : Hp} {S : Store} {a : α} {b : β} {Q : β → Hp → Prop} (h : PV K RA μ H (some (a, S)) Q) (ok : Ok K μ H S) (r : RA μ H a b) : Q b H := h μ H b (Ext.refl _ _) ok r
/-- a new tuple -/
theorem PV.tup {K : PySem.W.Frag} {μ : List Addr} {H : Hp} {S : Store} {xs : List D} {vs : List V} {Q : V → Hp → Prop} (h : PV K (R K) μ H (some (D.tup xs, S)) Q) (ok : Ok K μ H S) (l : vs.length ≤ sizeLine) (r : RL K μ H xs vs) : ∀ p, H p = none → Q (.ref p) (upd H p (.tup vs)) := fun p hp =>
  h μ _ _ (ext_new hp) (ok.laid hp) (.tup (.inl (.inl upd_same)) l (r.mono (ext_new hp)))
/-- a new list -/
theorem PV.lst {K : PySem.W.Frag} {μ : List Addr} {H : Hp} {S : Store} {xs : List D} {vs : List V} {Q : V → Hp → Prop} (h : PV K (R K) μ H (some (D.loc S.length, S ++ [.lst xs])) Q) (ok : Ok K μ H S) (l : vs.length ≤ sizeLine) (r : RL K μ H xs vs) : ∀ p, H p = none → Q (.ref p) (upd H p (.lst vs)) := fun p hp =>
  h _ _ _ (ext_add hp) (ok.add hp l r) (.loc (by rw [← ok.len, List.getElem?_append_right (Nat.le_refl _)]; simp))

def r1 (K : PySem.W.Frag) (k : O1) : V → Hp → VK → Prop := fun v H Q => ∃ μ S x, Ok K μ H S ∧ R K μ H x v ∧ PV K (R K) μ H (k x S) Q
def r2 (K : PySem.W.Frag) (k : O2) : R2 := fun v u H Q => ∃ μ S x y, Ok K μ H S ∧ R K μ H x v ∧ R K μ H y u ∧ PV K (R K) μ H (k x y S) Q
def rA (K : PySem.W.Frag) (k : OA) : List V → Hp → VK → Prop := fun vs H Q => ∃ μ S xs, Ok K μ H S ∧ RL K μ H xs vs ∧ PV K (R K) μ H (k xs S) Q

/-! ### combinators: expressions -/
def cVar (i : Nat) : DE := fun σ S => match σ[i]? with
  | some (some d) => .ok d S
  | _ => .no
def cK (d : D) : DE := fun _ S => .ok d S
def cUn (k : O1) (f : DE) : DE := fun σ S => (f σ S).bind fun x S1 => Res.of (k x S1)
def cBin (k : O2) (f g : DE) : DE := fun σ S => (f σ S).bind fun x S1 => (g σ S1).bind fun y S2 => Res.of (k x y S2)
def aNil : DA := fun _ S => .ok [] S
def aCons (f : DE) (g : DA) : DA := fun σ S => (f σ S).bind fun x S1 => (g σ S1).bind fun xs S2 => .ok (x :: xs) S2
def cArg (k : OA) (a : DA) : DE := fun σ S => (a σ S).bind fun xs S1 => Res.of (k xs S1)
/-- a value that is a bool, as a test -/
def cTest (f : DE) : DT := fun σ S => (f σ S).bind fun x S1 => match x with
  | .bl b => .ok b S1
  | _ => .no
def dTru (x : D) (S : Store) : Option Bool := match x with
  | .non => some false
  | .bl b => some b
  | .int i => some (i != 0)
  | .str y => if y.length ≤ sizeLine then some ((y.length : Int) != 0) else none
  | .tup xs => some (!xs.isEmpty)
  | .rol xs => some (!xs.isEmpty)
  | .loc l => match S[l]? with
    | some (.lst xs) => some (!xs.isEmpty)
    | none => none
def cTru (f : DE) : DT := fun σ S => (f σ S).bind fun x S1 => Res.of ((dTru x S1).map fun b => (b, S1))
def cAnd (f g : DT) : DT := fun σ S => (f σ S).bind fun b S1 => if b = true then g σ S1 else .ok false S1
def cOr (f g : DT) : DT := fun σ S => (f σ S).bind fun b S1 => if b = true then .ok true S1 else g σ S1
def cNot (f : DT) : DT := fun σ S => (f σ S).bind fun b S1 => .ok (!b) S1
def cIf (t : DT) (f g : DE) : DE := fun σ S => (t σ S).bind fun b S1 => if b = true then f σ S1 else g σ S1
/-- as values, by truth -/
def cAndV (f g : DE) : DE := fun σ S => (f σ S).bind fun x S1 => match dTru x S1 with
  | some true => g σ S1
  | some false => .ok x S1
  | none => .no
def cOrV (f g : DE) : DE := fun σ S => (f σ S).bind fun x S1 => match dTru x S1 with
  | some true => .ok x S1
  | some false => g σ S1
  | none => .no
def cNotV (f : DE) : DE := fun σ S => (f σ S).bind fun x S1 => match dTru x S1 with
  | some b => .ok (.bl (!b)) S1
  | none => .no

section
variable {X : Cx} {W : WX} {pos : Pos} {a b c e : Expr} {es : List Expr} {f g h : DE} {t u : DT} {fa : DA}
variable {K : PySem.W.Frag} {mg : Str → Option Value}

/-! ### rules: expressions -/
theorem tE_var {i : Nat} {σ : L2.St} {H : Hp} {Q : VK} (h : tE K mg W (cVar i) σ H Q) : tVar i σ H Q := by
  obtain ⟨μ, σD, S, ok, en, h⟩ := h
  unfold cVar at h
  cases q : σD[i]? with
  | none => rw [q] at h; exact h.elim
  | some o =>
    cases o with
    | none => rw [q] at h; exact h.elim
    | some d =>
      rw [q] at h
      obtain ⟨v, hv, r⟩ := en.get i d q
      exact ⟨v, hv, h μ H v (Ext.refl _ _) ok r⟩
theorem e_var (i : Nat) {x : Str} (hN : X.N[i]? = some x := by rfl) (hv : Vis X.env.scope x := by first | exact Or.inl rfl | exact Or.inr (Or.inl rfl) | exact Or.inr (Or.inr rfl)) (hd : (x == ("__debug__" : Str)) = false := by decide)
    (hcd : (x == ("__classdict__" : Str)) = false := by decide) : PE X (.Name x pos) (tE X.K X.mg W (cVar i)) := PE.weak (pv i hN hv hd hcd) fun _ _ _ => tE_var
theorem tE_const {d : D} {v : V} (r : ∀ μ H, R K μ H d v) {σ : L2.St} {H : Hp} {Q : VK} (h : tE K mg W (cK d) σ H Q) : tC v σ H Q := by
  obtain ⟨μ, σD, S, ok, en, h⟩ := h
  exact h μ H v (Ext.refl _ _) ok (r μ H)
theorem e_int {i : Int} {j} : PE X (.Constant (.int i) j pos) (tE X.K X.mg W (cK (.int i))) := PE.weak pe_int fun _ _ _ => tE_const fun _ _ => .int i
theorem e_bl {i : Bool} {j} : PE X (.Constant (.bool i) j pos) (tE X.K X.mg W (cK (.bl i))) := PE.weak pe_bl fun _ _ _ => tE_const fun _ _ => .bl i
theorem e_non {j} : PE X (.Constant .none j pos) (tE X.K X.mg W (cK .non)) := PE.weak pe_non fun _ _ _ => tE_const fun _ _ => .non
theorem e_str {x : Str} {j} : PE X (.Constant (.str x) j pos) (tE X.K X.mg W (cK (.str x))) := PE.weak pe_str fun _ _ _ => tE_const fun _ _ => .str x
/-- a constant of the text -/
theorem e_glob {x : Str} {d : D} {v : V} {u : Value} (hg : Gl X x) (hm : X.mg x = some u) (rv : RelV v u) (r : ∀ μ H, R X.K μ H d v) (hd : (x == ("__debug__" : Str)) = false := by decide) : PE X (.Name x pos) (tE X.K X.mg W (cK d)) :=
  PE.weak (pe_glob hg hm rv hd) fun _ _ _ => tE_const r
/-- two expressions, one after the other -/
theorem tG2 {α β γ δ ε ζ : Type} {RA : List Addr → Hp → α → β → Prop} {RB : List Addr → Hp → γ → δ → Prop} {RC : List Addr → Hp → ε → ζ → Prop} {f : Sg → Store → Res α} {g : Sg → Store → Res γ} {k : α → γ → Store → Res ε}
    (mono : ∀ μ H μ1 H1 x v, Ext μ H μ1 H1 → RA μ H x v → RA μ1 H1 x v)
    {σ : L2.St} {H : Hp} {Q : ζ → Hp → Prop} {Q2 : β → δ → Hp → Prop}
    (h : tG K mg W RC (fun σ S => (f σ S).bind fun x S1 => (g σ S1).bind fun y S2 => k x y S2) σ H Q)
    (hk : ∀ x y S μ H v u, Ok K μ H S → RA μ H x v → RB μ H y u → Post K mg W RC μ H σ (k x y S) Q → Q2 v u H) :
    tG K mg W RA f σ H fun v H1 => tG K mg W RB g σ H1 fun u H2 => Q2 v u H2 := by
  obtain ⟨μ, σD, S, ok, en, h⟩ := h
  refine ⟨μ, σD, S, ok, en, Post.bind h fun x S1 μ1 H1 v x1 ok1 rx h1 => ⟨μ1, σD, S1, ok1, en.mono x1, Post.bind h1 fun y S2 μ2 H2 u x2 ok2 ry h2 => hk x y S2 μ2 H2 v u ok2 (mono _ _ _ _ _ _ x2 rx) ry h2⟩⟩
theorem tG1 {α β ε ζ : Type} {RA : List Addr → Hp → α → β → Prop} {RC : List Addr → Hp → ε → ζ → Prop} {f : Sg → Store → Res α} {k : α → Store → Res ε}
    {σ : L2.St} {H : Hp} {Q : ζ → Hp → Prop} {Q2 : β → Hp → Prop}
    (h : tG K mg W RC (fun σ S => (f σ S).bind fun x S1 => k x S1) σ H Q)
    (hk : ∀ x S μ H v, Ok K μ H S → RA μ H x v → Post K mg W RC μ H σ (k x S) Q → Q2 v H) : tG K mg W RA f σ H Q2 := by
  obtain ⟨μ, σD, S, ok, en, h⟩ := h
  exact ⟨μ, σD, S, ok, en, Post.bind h fun x S1 μ1 H1 v x1 ok1 rx h1 => hk x S1 μ1 H1 v ok1 rx h1⟩
/-- .. and the slots are still there -/
theorem tG1e {α β ε ζ : Type} {RA : List Addr → Hp → α → β → Prop} {RC : List Addr → Hp → ε → ζ → Prop} {f : Sg → Store → Res α} {k : Sg → α → Store → Res ε}
    {σ : L2.St} {H : Hp} {Q : ζ → Hp → Prop} {Q2 : β → Hp → Prop}
    (h : tG K mg W RC (fun σ S => (f σ S).bind fun x S1 => k σ x S1) σ H Q)
    (hk : ∀ σD x S μ H v, Ok K μ H S → EnvR K μ H σD σ → RA μ H x v → Post K mg W RC μ H σ (k σD x S) Q → Q2 v H) : tG K mg W RA f σ H Q2 := by
  obtain ⟨μ, σD, S, ok, en, h⟩ := h
  exact ⟨μ, σD, S, ok, en, Post.bind h fun x S1 μ1 H1 v x1 ok1 rx h1 => hk σD x S1 μ1 H1 v ok1 (en.mono x1) rx h1⟩
theorem tE_bin {k : O2} {σ : L2.St} {H : Hp} {Q : VK} (h : tE K mg W (cBin k f g) σ H Q) : tOp (r2 K k) (tE K mg W f) (tE K mg W g) σ H Q :=
  tG2 (RA := R K) (RB := R K) (fun _ _ _ _ _ _ x r => r.mono x) h fun x y S μ H v u ok rx ry h => ⟨μ, S, x, y, ok, rx, ry, h.of⟩
theorem tE_un {k : O1} {σ : L2.St} {H : Hp} {Q : VK} (h : tE K mg W (cUn k f) σ H Q) : tUn (r1 K k) (tE K mg W f) σ H Q :=
  tG1 (RA := R K) h fun x S μ H v ok rx h => ⟨μ, S, x, ok, rx, h.of⟩
theorem e_bin {op : Operator} {k : O2} (ho : OpR X (binaryOp op) (r2 X.K k)) (ha : PE X a (tE X.K X.mg W f)) (hb : PE X b (tE X.K X.mg W g)) : PE X (.BinOp a op b pos) (tE X.K X.mg W (cBin k f g)) := PE.weak (pe_op ho ha hb) fun _ _ _ => tE_bin
theorem e_un {op : UnaryOp} {k : O1} (ho : UnR X (unaryOp op) (r1 X.K k)) (ha : PE X a (tE X.K X.mg W f)) : PE X (.UnaryOp op a pos) (tE X.K X.mg W (cUn k f)) := PE.weak (pe_un ho ha) fun _ _ _ => tE_un
theorem e_cmp {op : CmpOp} {k : O2} (ho : OpR X (compareOp op) (r2 X.K k)) (ha : PE X a (tE X.K X.mg W f)) (hb : PE X b (tE X.K X.mg W g)) (hm : behindInMarks op b = false := by first | exact nomark _ | rfl) : PE X (.Compare a [op] [b] pos) (tE X.K X.mg W (cBin k f g)) :=
  PE.weak (pe_cmpR ho ha hb hm) fun _ _ _ => tE_bin
theorem t_cmp {op : CmpOp} {k : O2} (ho : OpR X (compareOp op) (r2 X.K k)) (ha : PE X a (tE X.K X.mg W f)) (hb : PE X b (tE X.K X.mg W g)) (hm : behindInMarks op b = false := by first | exact nomark _ | rfl) : PT X (.Compare a [op] [b] pos) (tT X.K X.mg W (cTest (cBin k f g))) := by
  refine PT.weak (pt_cmpR ho ha hb hm) fun σ H Q h => ?_
  have h1 : tE X.K X.mg W (cBin k f g) σ H fun v H1 => ∃ k, v = .bl k ∧ Q k H1 := tG1 (RA := R X.K) h fun x S μ H v ok rx h => by
    cases x with
    | bl b =>
      cases rx
      exact ⟨b, rfl, h μ H b (Ext.refl _ _) ok rfl⟩
    | _ => exact h.elim
  exact tE_bin h1
def cChain (k k' : O2) (f g h : DE) : DE := fun σ S => (f σ S).bind fun x S1 => (g σ S1).bind fun y S2 => (Res.of (k x y S2)).bind fun z S3 => match z with
  | .bl true => (h σ S3).bind fun w S4 => Res.of (k' y w S4)
  | .bl false => .ok (.bl false) S3
  | _ => .no
/-- an argument list -/
theorem tA_nil {σ : L2.St} {H : Hp} {Q : List V → Hp → Prop} (h : tA K mg W aNil σ H Q) : tNil σ H Q := by
  obtain ⟨μ, σD, S, ok, en, h⟩ := h
  exact h μ H [] (Ext.refl _ _) ok .nil
theorem tA_cons {σ : L2.St} {H : Hp} {Q : List V → Hp → Prop} (h : tA K mg W (aCons f fa) σ H Q) : tCons (tE K mg W f) (tA K mg W fa) σ H Q :=
  tG2 (RA := R K) (RB := RL K) (fun _ _ _ _ _ _ x r => r.mono x) h fun x y S μ H v u ok rx ry h => h μ H _ (Ext.refl _ _) ok (.cons rx ry)
theorem a_nil : PA X [] (tA X.K X.mg W aNil) := PA.weak pa_nil fun _ _ _ => tA_nil
theorem a_cons (ha : PE X e (tE X.K X.mg W f)) (hr : PA X es (tA X.K X.mg W fa)) (hs : starEach (e :: es) X.env = (false, eval e X.env) :: starEach es X.env := by rfl) : PA X (e :: es) (tA X.K X.mg W (aCons f fa)) :=
  PA.weak (pa_cons ha hr hs) fun _ _ _ => tA_cons
theorem tE_arg {k : OA} {σ : L2.St} {H : Hp} {Q : VK} (h : tE K mg W (cArg k fa) σ H Q) : tA K mg W fa σ H fun vs H1 => rA K k vs H1 Q :=
  tG1 (RA := RL K) h fun x S μ H v ok rx h => ⟨μ, S, x, ok, rx, h.of⟩
/-- f(..), f a built-in function or type -/
theorem e_callB {x : Str} {id : String} {k : OA} {p : Pos} (hc : CallR X (.builtin id) (rA X.K k)) (hm : X.mg x = none) (hv : bootBuiltins x = some (.builtin id)) (ha : PA X (e :: es) (tA X.K X.mg W fa)) (hg : Gl X x := by rfl) (hn : x ≠ "__name__" := by decide) (hdb : (x == ("__debug__" : Str)) = false := by decide)
    (he : starEach (e :: es) X.env = (false, eval e X.env) :: starEach es X.env := by rfl) (hpl : (backTo pos (starEach es X.env)).any (·.1) = false := by rfl) : PE X (.Call (.Name x p) (e :: es) [] pos) (tE X.K X.mg W (cArg k fa)) :=
  PE.weak (pe_callB hc hg hm hv ha hn hdb he hpl) fun _ _ _ => tE_arg
theorem e_callTy {x : Str} {T : String} {k : OA} {p : Pos} (hc : CallR X (.type T) (rA X.K k)) (hm : X.mg x = none) (hv : bootBuiltins x = some (.type T)) (ha : PA X (e :: es) (tA X.K X.mg W fa)) (hg : Gl X x := by rfl) (hn : x ≠ "__name__" := by decide) (hdb : (x == ("__debug__" : Str)) = false := by decide)
    (he : starEach (e :: es) X.env = (false, eval e X.env) :: starEach es X.env := by rfl) (hpl : (backTo pos (starEach es X.env)).any (·.1) = false := by rfl) : PE X (.Call (.Name x p) (e :: es) [] pos) (tE X.K X.mg W (cArg k fa)) :=
  PE.weak (pe_callTy hc hg hm hv ha hn hdb he hpl) fun _ _ _ => tE_arg
/-- displays -/
def oTup : OA := fun xs S => if xs.length ≤ sizeLine then some (.tup xs, S) else none
def oLst : OA := fun xs S => if xs.length ≤ sizeLine then some (.loc S.length, S ++ [.lst xs]) else none
theorem e_tup {x1} (ha : PA X es (tA X.K X.mg W fa)) : PE X (.Tuple es x1 pos) (tE X.K X.mg W (cArg oTup fa)) := by
  refine PE.weak (pe_tup ha) fun σ H Q h => ?_
  refine tG1 (RA := RL X.K) h fun x S μ H v ok rx h => ?_
  have h := h.of
  unfold oTup at h
  split at h
  · rename_i hl
    have hl' : v.length ≤ sizeLine := by rw [← rx.length]; exact hl
    exact ⟨hl', h.tup ok hl' rx⟩
  · exact h.elim
theorem e_lst (ha : PA X es (tA X.K X.mg W fa)) : PE X (.List es pos) (tE X.K X.mg W (cArg oLst fa)) := by
  refine PE.weak (pe_lst ha) fun σ H Q h => ?_
  refine tG1 (RA := RL X.K) h fun x S μ H v ok rx h => ?_
  have h := h.of
  unfold oLst at h
  split at h
  · rename_i hl
    have hl' : v.length ≤ sizeLine := by rw [← rx.length]; exact hl
    exact ⟨hl', h.lst ok hl' rx⟩
  · exact h.elim
/-! ### tests -/
theorem dTru_ok {μ : List Addr} {H : Hp} {S : Store} {x : D} {v : V} {k : Bool} (ok : Ok K μ H S) (r : R K μ H x v) (h : dTru x S = some k) : TruV K v H k := by
  cases r with
  | non => cases h; rfl
  | bl b => cases h; rfl
  | int i => cases h; rfl
  | str y =>
    simp only [dTru] at h
    split at h
    · rename_i hl; cases h; exact ⟨hl, rfl⟩
    · cases h
  | @tup a vs xs hs l rr =>
    cases h
    refine .inr (.inl ⟨vs, hs, ?_⟩)
    cases rr <;> rfl
  | @rol a vs xs hs l rr =>
    cases h
    refine .inl ⟨vs, hs.sq, ?_⟩
    cases rr <;> rfl
  | @loc l a ha =>
    simp only [dTru] at h
    cases q : S[l]? with
    | none => rw [q] at h; cases h
    | some c =>
      rw [q] at h
      obtain ⟨a', h1, hc⟩ := ok.at q
      rw [ha] at h1; cases h1
      cases c with
      | lst xs =>
        obtain ⟨vs, hv, _, rr⟩ := hc
        cases h
        refine .inl ⟨vs, .inl (.inl hv), ?_⟩
        cases rr <;> rfl
theorem t_tru (ha : PE X a (tE X.K X.mg W f)) (he : ∀ whole, isTrue a X.env whole = (do let v ← whole; standAt a.pos; holding [v] (truthy v)) := by intro _; rfl) : PT X a (tT X.K X.mg W (cTru f)) := by
  refine PT.weak (pt_truth ha he) fun σ H Q h => ?_
  refine tG1 (RA := R X.K) h fun x S μ H v ok rx h => ?_
  have h := h.of
  cases q : dTru x S with
  | none => rw [q] at h; exact h.elim
  | some b =>
    rw [q] at h
    exact ⟨b, dTru_ok ok rx q, h μ H b (Ext.refl _ _) ok rfl⟩
theorem tT_and {σ : L2.St} {H : Hp} {Q : Bool → Hp → Prop} (h : tT K mg W (cAnd t u) σ H Q) : tAnd (tT K mg W t) (tT K mg W u) σ H Q :=
  tG1e (k := fun σ b S1 => if b = true then u σ S1 else .ok false S1) (RA := RB) h fun σD x S μ H v ok en rx h => by
    cases rx
    cases x with
    | true => exact ⟨μ, σD, S, ok, en, h⟩
    | false => exact h μ H false (Ext.refl _ _) ok rfl
theorem tT_or {σ : L2.St} {H : Hp} {Q : Bool → Hp → Prop} (h : tT K mg W (cOr t u) σ H Q) : tOr (tT K mg W t) (tT K mg W u) σ H Q :=
  tG1e (k := fun σ b S1 => if b = true then .ok true S1 else u σ S1) (RA := RB) h fun σD x S μ H v ok en rx h => by
    cases rx
    cases x with
    | false => exact ⟨μ, σD, S, ok, en, h⟩
    | true => exact h μ H true (Ext.refl _ _) ok rfl
theorem PW.weak {X : Cx} {e : Expr} {t t' : TT} (h : PW X e t) (w : ∀ σ H Q, t' σ H Q → t σ H Q) : PW X e t' := ⟨fun wh pins s σ H Q I q => h.run wh pins s σ H Q I (w σ H Q q)⟩
theorem w_and1 (ha : PT X a (tT X.K X.mg W t)) : PW X (.BoolOp .And [a] pos) (tT X.K X.mg W t) := pw_and1 ha
theorem w_or1 (ha : PT X a (tT X.K X.mg W t)) : PW X (.BoolOp .Or [a] pos) (tT X.K X.mg W t) := pw_or1 ha
theorem w_and {rest : List Expr} (ha : PT X a (tT X.K X.mg W t)) (hb : PW X (.BoolOp .And (b :: rest) pos) (tT X.K X.mg W u)) : PW X (.BoolOp .And (a :: b :: rest) pos) (tT X.K X.mg W (cAnd t u)) := PW.weak (pw_and ha hb) fun _ _ _ => tT_and
theorem w_or {rest : List Expr} (ha : PT X a (tT X.K X.mg W t)) (hb : PW X (.BoolOp .Or (b :: rest) pos) (tT X.K X.mg W u)) : PW X (.BoolOp .Or (a :: b :: rest) pos) (tT X.K X.mg W (cOr t u)) := PW.weak (pw_or ha hb) fun _ _ _ => tT_or
theorem t_not (ha : PT X a (tT X.K X.mg W t)) : PT X (.UnaryOp .Not a pos) (tT X.K X.mg W (cNot t)) := PT.weak (pt_not ha) fun σ H Q h => tG1 (RA := RB) h fun x S μ H v ok rx h => by
  cases rx
  exact h μ H _ (Ext.refl _ _) ok rfl
theorem e_if (hc : PT X c (tT X.K X.mg W t)) (ha : PE X a (tE X.K X.mg W f)) (hb : PE X b (tE X.K X.mg W g)) : PE X (.IfExp c a b pos) (tE X.K X.mg W (cIf t f g)) := PE.weak (pe_ifExp hc ha hb) fun σ H Q h =>
  tG1e (k := fun σ b S1 => if b = true then f σ S1 else g σ S1) (RA := RB) h fun σD x S μ H v ok en rx h => by
    cases rx
    cases x with
    | false => exact ⟨μ, σD, S, ok, en, h⟩
    | true => exact ⟨μ, σD, S, ok, en, h⟩
theorem e_one {op} (h : PE X a (tE X.K X.mg W f)) : PE X (.BoolOp op [a] pos) (tE X.K X.mg W f) := pe_one h
theorem e_and {rest : List Expr} (ha : PE X a (tE X.K X.mg W f)) (hb : PE X (.BoolOp .And (b :: rest) pos) (tE X.K X.mg W g)) : PE X (.BoolOp .And (a :: b :: rest) pos) (tE X.K X.mg W (cAndV f g)) := PE.weak (pe_andT ha hb) fun σ H Q h =>
  tG1e (k := fun σ x S1 => match dTru x S1 with
    | some true => g σ S1
    | some false => .ok x S1
    | none => .no) (RA := R X.K) h fun σD x S μ H v ok en rx h => by
    cases q : dTru x S with
    | none => rw [q] at h; exact h.elim
    | some b =>
      rw [q] at h
      refine ⟨b, dTru_ok ok rx q, ?_⟩
      cases b with
      | true => exact ⟨μ, σD, S, ok, en, h⟩
      | false => exact h μ H v (Ext.refl _ _) ok rx
theorem e_or {rest : List Expr} (ha : PE X a (tE X.K X.mg W f)) (hb : PE X (.BoolOp .Or (b :: rest) pos) (tE X.K X.mg W g)) : PE X (.BoolOp .Or (a :: b :: rest) pos) (tE X.K X.mg W (cOrV f g)) := PE.weak (pe_orT ha hb) fun σ H Q h =>
  tG1e (k := fun σ x S1 => match dTru x S1 with
    | some true => .ok x S1
    | some false => g σ S1
    | none => .no) (RA := R X.K) h fun σD x S μ H v ok en rx h => by
    cases q : dTru x S with
    | none => rw [q] at h; exact h.elim
    | some b =>
      rw [q] at h
      refine ⟨b, dTru_ok ok rx q, ?_⟩
      cases b with
      | false => exact ⟨μ, σD, S, ok, en, h⟩
      | true => exact h μ H v (Ext.refl _ _) ok rx
theorem e_not (ha : PE X a (tE X.K X.mg W f)) : PE X (.UnaryOp .Not a pos) (tE X.K X.mg W (cNotV f)) := PE.weak (pe_notT ha) fun σ H Q h => tG1 (RA := R X.K) h fun x S μ H v ok rx h => by
  cases q : dTru x S with
  | none => rw [q] at h; exact h.elim
  | some b =>
    rw [q] at h
    exact ⟨b, dTru_ok ok rx q, h μ H _ (Ext.refl _ _) ok (.bl _)⟩
end
end DL

namespace DL
open PySem PySem.Spec PyProof.Rows L2

section
variable {X : Cx}
/-! ### ints -/
theorem o2_int {f : Value → Value → Sem Value} {C : Int → Int → Prop} [∀ i j, Decidable (C i j)] {gv : Int → Int → V} {gd : Int → Int → D} (h : OpR X f (rI C gv)) (hg : ∀ μ H i j, R X.K μ H (gd i j) (gv i j))
    {k : O2} (hk : ∀ x y S r, k x y S = some r → ∃ i j, x = .int i ∧ y = .int j ∧ C i j ∧ r = (gd i j, S)) : OpR X f (r2 X.K k) := by
  intro pins s σ H x y v u Q I rx ry hr
  obtain ⟨μ, S, a, b, ok, ra, rb, hp⟩ := hr
  cases q : k a b S with
  | none => rw [q] at hp; exact hp.elim
  | some r =>
    obtain ⟨i, j, rfl, rfl, c, rfl⟩ := hk a b S r q
    rw [q] at hp
    cases ra
    cases rb
    exact h pins s σ H _ _ v u Q I rx ry ⟨i, j, rfl, rfl, c, hp.same ok (hg _ _ _ _)⟩
def MulOk (i j : Int) : Prop := CMul i j ∨ CMulW i j
instance (i j : Int) : Decidable (MulOk i j) := by unfold MulOk CMul CMulW; infer_instance
def DivOk (j : Int) : Prop := (0 < j ∧ j < 1073741824) ∨ CDivW 0 j
instance (j : Int) : Decidable (DivOk j) := by unfold DivOk CDivW; infer_instance
def PowOk (i j : Int) : Prop := CPow i j
instance (i j : Int) : Decidable (PowOk i j) := by unfold PowOk CPow; infer_instance
def oSub : O2 := fun x y S => match x, y with
  | .int i, .int j => some (.int (i - j), S)
  | _, _ => none
def oMod : O2 := fun x y S => match x, y with
  | .int i, .int j => if 0 < j then some (.int (i % j), S) else none
  | _, _ => none
def oDiv : O2 := fun x y S => match x, y with
  | .int i, .int j => if DivOk j then some (.int (i / j), S) else none
  | _, _ => none
def oPow : O2 := fun x y S => match x, y with
  | .int i, .int j => if PowOk i j then some (.int (i ^ j.toNat), S) else none
  | _, _ => none
def oNeg : O1 := fun x S => match x with
  | .int i => some (.int (-i), S)
  | _ => none
theorem op_mul' {i j : Int} (h : MulOk i j) : IntMulOk i j := h.elim CMul.ok CMulW.ok
theorem two_ints {k : O2} {gd : Int → Int → D} {x y : D} {S : Store} {r : D × Store} {C : Int → Int → Prop} [∀ i j, Decidable (C i j)]
    (h : (match x, y with | .int i, .int j => if C i j then some (gd i j, S) else none | _, _ => none) = some r) : ∃ i j, x = .int i ∧ y = .int j ∧ C i j ∧ r = (gd i j, S) := by
  cases x with
  | int i =>
    cases y with
    | int j =>
      simp only at h
      split at h
      · rename_i hc
        cases h
        exact ⟨i, j, rfl, rfl, hc, rfl⟩
      · cases h
    | _ => simp at h
  | _ => simp at h
theorem d_sub : OpR X (binaryOp .Sub) (r2 X.K oSub) := o2_int (C := fun _ _ => True) (gv := fun i j => .int (i - j)) (gd := fun i j => .int (i - j)) (opI fun _ _ _ _ _ _ _ _ q => sub_int q) (fun _ _ _ _ => .int _) fun x y S r h => by
  cases x with
  | int i =>
    cases y with
    | int j => cases h; exact ⟨i, j, rfl, rfl, trivial, rfl⟩
    | _ => cases h
  | _ => cases h
theorem d_isub : OpR X (inplaceOp .Sub) (r2 X.K oSub) := o2_int (C := fun _ _ => True) (gv := fun i j => .int (i - j)) (gd := fun i j => .int (i - j)) (opI fun _ _ _ _ _ _ _ _ q => isub_int q) (fun _ _ _ _ => .int _) fun x y S r h => by
  cases x with
  | int i =>
    cases y with
    | int j => cases h; exact ⟨i, j, rfl, rfl, trivial, rfl⟩
    | _ => cases h
  | _ => cases h
theorem d_mod : OpR X (binaryOp .Mod) (r2 X.K oMod) := o2_int (C := fun _ j => 0 < j) (gd := fun i j => .int (i % j)) op_mod (fun _ _ _ _ => .int _) fun x y S r h => two_ints (k := oMod) (gd := fun i j => .int (i % j)) (C := fun _ j => 0 < j) h
theorem d_pow : OpR X (binaryOp .Pow) (r2 X.K oPow) := o2_int (C := PowOk) (gd := fun i j => .int (i ^ j.toNat)) op_pow (fun _ _ _ _ => .int _) fun x y S r h => two_ints (k := oPow) (gd := fun i j => .int (i ^ j.toNat)) (C := PowOk) h
theorem op_div : OpR X (binaryOp .FloorDiv) (rI (fun _ j => DivOk j) fun i j => .int (i / j)) := by
  intro pins s σ H x y v u Q I rx ry h
  obtain ⟨i, j, rfl, rfl, c, q⟩ := h
  rcases c with c | c
  · exact op_fdiv pins s σ H _ _ v u Q I rx ry ⟨i, j, rfl, rfl, c, q⟩
  · exact op_fdivW pins s σ H _ _ v u Q I rx ry ⟨i, j, rfl, rfl, c, q⟩
theorem iop_div : OpR X (inplaceOp .FloorDiv) (rI (fun _ j => 0 < j ∧ j < 1073741824) fun i j => .int (i / j)) := iop_fdiv
theorem d_div : OpR X (binaryOp .FloorDiv) (r2 X.K oDiv) := o2_int (C := fun _ j => DivOk j) (gd := fun i j => .int (i / j)) op_div (fun _ _ _ _ => .int _) fun x y S r h => two_ints (k := oDiv) (gd := fun i j => .int (i / j)) (C := fun _ j => DivOk j) h
theorem d_neg : UnR X (unaryOp .USub) (r1 X.K oNeg) := by
  intro pins s σ H x v Q I rx hr
  obtain ⟨μ, S, a, ok, ra, hp⟩ := hr
  cases ra with
  | int i => exact un_neg pins s σ H _ v Q I rx ⟨i, rfl, hp.same ok (.int _)⟩
  | _ => exact hp.elim
/-! ### + and * of several kinds -/
def catL (S : Store) (xs ys : List D) : Option (D × Store) := if xs.length + ys.length ≤ sizeLine then some (.loc S.length, S ++ [.lst (xs ++ ys)]) else none
def oAdd : O2 := fun x y S => match x, y with
  | .int i, .int j => some (.int (i + j), S)
  | .str a, .str b => if a.length + b.length ≤ sizeLine then some (.str (a ++ b), S) else none
  | .tup xs, .tup ys => if xs.length + ys.length ≤ sizeLine then some (.tup (xs ++ ys), S) else none
  | .loc l, .loc m => match S[l]?, S[m]? with
    | some (.lst xs), some (.lst ys) => catL S xs ys
    | _, _ => none
  | _, _ => none
theorem RL.nil_iff {K : PySem.W.Frag} {μ : List Addr} {H : Hp} {xs : List D} {vs : List V} (r : RL K μ H xs vs) : xs = [] ↔ vs = [] := by
  cases r with
  | nil => simp
  | cons _ _ => simp
theorem d_add : OpR X (binaryOp .Add) (r2 X.K oAdd) := by
  intro pins s σ H x y v u Q I rx ry hr
  obtain ⟨μ, S, a, b, ok, ra, rb, hp⟩ := hr
  cases ra with
  | int i =>
    cases rb with
    | int j => exact op_add pins s σ H _ _ v u Q I rx ry ⟨i, j, rfl, rfl, hp.same ok (.int _)⟩
    | _ => exact hp.elim
  | str i =>
    cases rb with
    | str j =>
      simp only [oAdd] at hp
      split at hp
      · rename_i hl
        exact op_add_str pins s σ H _ _ v u Q I rx ry ⟨i, j, rfl, rfl, hl, hp.same ok (.str _)⟩
      · exact hp.elim
    | _ => exact hp.elim
  | @tup p vs xs hs hl rr =>
    cases rb with
    | @tup q ws ys hs' hl' rr' =>
      simp only [oAdd] at hp
      split at hp
      · rename_i hz
        rw [rr.length, rr'.length] at hz
        refine op_catA pins s σ H _ _ v u Q I rx ry ⟨p, q, vs, ws, rfl, rfl, hs, hs', hz, fun e => ?_, fun _ e => ?_, fun _ _ => hp.tup ok (by rw [List.length_append]; exact hz) (rr.append rr')⟩
        · subst e
          have e2 := rr.nil_iff.mpr rfl
          subst e2
          exact hp.same ok (.tup hs' hl' rr')
        · subst e
          have e2 := rr'.nil_iff.mpr rfl
          subst e2
          rw [List.append_nil] at hp
          exact hp.same ok (.tup hs hl rr)
      · exact hp.elim
    | _ => exact hp.elim
  | @loc l p hp1 =>
    cases rb with
    | @loc m q hq1 =>
      simp only [oAdd] at hp
      cases e1 : S[l]? with
      | none => rw [e1] at hp; exact hp.elim
      | some c1 =>
        cases e2 : S[m]? with
        | none => rw [e1, e2] at hp; cases c1; exact hp.elim
        | some c2 =>
          obtain ⟨p', h1, hc1⟩ := ok.at e1
          obtain ⟨q', h2, hc2⟩ := ok.at e2
          rw [hp1] at h1; cases h1
          rw [hq1] at h2; cases h2
          cases c1 with
          | lst xs =>
            cases c2 with
            | lst ys =>
              obtain ⟨vs, hv, lv, rv⟩ := hc1
              obtain ⟨ws, hw, lw, rw'⟩ := hc2
              rw [e1, e2] at hp
              simp only [catL] at hp
              split at hp
              · rename_i hz
                rw [rv.length, rw'.length] at hz
                exact op_cat pins s σ H _ _ v u Q I rx ry ⟨p, q, vs, ws, rfl, rfl, hv, hw, hz, hp.lst ok (by rw [List.length_append]; exact hz) (rv.append rw')⟩
              · exact hp.elim
    | _ => exact hp.elim
  | _ => exact hp.elim
/-- += of ints and texts -/
def oIAdd : O2 := fun x y S => match x, y with
  | .int i, .int j => some (.int (i + j), S)
  | .str a, .str b => if a.length + b.length ≤ sizeLine then some (.str (a ++ b), S) else none
  | _, _ => none
theorem d_iadd : OpR X (inplaceOp .Add) (r2 X.K oIAdd) := by
  intro pins s σ H x y v u Q I rx ry hr
  obtain ⟨μ, S, a, b, ok, ra, rb, hp⟩ := hr
  cases ra with
  | int i =>
    cases rb with
    | int j => exact iop_add pins s σ H _ _ v u Q I rx ry ⟨i, j, rfl, rfl, hp.same ok (.int _)⟩
    | _ => exact hp.elim
  | str i =>
    cases rb with
    | str j =>
      simp only [oIAdd] at hp
      split at hp
      · rename_i hl
        exact iop_add_str pins s σ H _ _ v u Q I rx ry ⟨i, j, rfl, rfl, hl, hp.same ok (.str _)⟩
      · exact hp.elim
    | _ => exact hp.elim
  | _ => exact hp.elim
/-- ints, a list by a number -/
def oMul : O2 := fun x y S => match x, y with
  | .int i, .int j => if MulOk i j then some (.int (i * j), S) else none
  | .loc l, .int k => match S[l]? with
    | some (.lst xs) => if -(2 ^ 63) ≤ k ∧ k < 2 ^ 63 ∧ xs.length * k.toNat ≤ sizeLine then some (.loc S.length, S ++ [.lst (List.replicate k.toNat xs).flatten]) else none
    | none => none
  | _, _ => none
theorem RL.rep {K : PySem.W.Frag} {μ : List Addr} {H : Hp} {xs : List D} {vs : List V} (r : RL K μ H xs vs) : ∀ k : Nat, RL K μ H (List.replicate k xs).flatten (List.replicate k vs).flatten
  | 0 => .nil
  | k + 1 => by
    rw [List.replicate_succ, List.replicate_succ, List.flatten_cons, List.flatten_cons]
    exact r.append (RL.rep r k)
theorem d_mul : OpR X (binaryOp .Mult) (r2 X.K oMul) := by
  intro pins s σ H x y v u Q I rx ry hr
  obtain ⟨μ, S, a, b, ok, ra, rb, hp⟩ := hr
  cases ra with
  | int i =>
    cases rb with
    | int j =>
      simp only [oMul] at hp
      split at hp
      · rename_i hm
        rcases hm with hm | hm
        · exact op_mul pins s σ H _ _ v u Q I rx ry ⟨i, j, rfl, rfl, hm, hp.same ok (.int _)⟩
        · exact op_mulW pins s σ H _ _ v u Q I rx ry ⟨i, j, rfl, rfl, hm, hp.same ok (.int _)⟩
      · exact hp.elim
    | _ => exact hp.elim
  | @loc l p hp1 =>
    cases rb with
    | int k =>
      simp only [oMul] at hp
      cases e1 : S[l]? with
      | none => rw [e1] at hp; exact hp.elim
      | some c1 =>
        obtain ⟨p', h1, hc1⟩ := ok.at e1
        rw [hp1] at h1; cases h1
        cases c1 with
        | lst xs =>
          obtain ⟨vs, hv, lv, rv⟩ := hc1
          rw [e1] at hp
          simp only at hp
          split at hp
          · rename_i hz
            obtain ⟨z1, z2, z3⟩ := hz
            rw [rv.length] at z3
            refine op_rep pins s σ H _ _ v u Q I rx ry ⟨p, k, vs, rfl, rfl, hv, z1, z2, z3, hp.lst ok ?_ (rv.rep _)⟩
            rw [List.length_flatten, List.map_replicate, List.sum_replicate_nat, Nat.mul_comm]
            exact z3
          · exact hp.elim
    | _ => exact hp.elim
  | _ => exact hp.elim
end
end DL

namespace DL
open PySem PySem.Spec PyProof.Rows L2

/-! ### data, compared -/
mutual
def D.py : D → PyData
  | .non => .none
  | .bl b => .bool b
  | .int i => .int i
  | .str x => .str x
  | .tup xs => .tuple (D.pys xs)
  | .rol xs => .list (D.pys xs)
  | .loc _ => .none
def D.pys : List D → List PyData
  | [] => []
  | x :: xs => x.py :: D.pys xs
end
mutual
/-- no list of the store in it, the texts in order -/
def D.fits : D → Bool
  | .str x => PyData.strOk x
  | .tup xs => D.fitsL xs
  | .rol xs => D.fitsL xs
  | .loc _ => false
  | _ => true
def D.fitsL : List D → Bool
  | [] => true
  | x :: xs => x.fits && D.fitsL xs
end
mutual
def D.dep : D → Nat
  | .tup xs => D.depL xs + 1
  | .rol xs => D.depL xs + 1
  | _ => 0
def D.depL : List D → Nat
  | [] => 0
  | x :: xs => max x.dep (D.depL xs)
end
mutual
def D.eqv : D → D → Bool
  | .non, .non => true
  | .bl a, .bl b => a == b
  | .bl a, .int j => decide ((if a then 1 else 0) = j)
  | .int i, .bl b => decide (i = (if b then 1 else 0))
  | .int i, .int j => decide (i = j)
  | .str x, .str y => decide (x = y)
  | .tup xs, .tup ys => D.eqvL xs ys
  | .rol xs, .rol ys => D.eqvL xs ys
  | _, _ => false
def D.eqvL : List D → List D → Bool
  | [], [] => true
  | x :: xs, y :: ys => D.eqv x y && D.eqvL xs ys
  | _, _ => false
end
mutual
def D.lt : D → D → Bool
  | .bl a, .bl b => decide (PyProof.Rows.b2i a < PyProof.Rows.b2i b)
  | .int i, .int j => decide (i < j)
  | .str x, .str y => decide (x.cps.toList < y.cps.toList)
  | .tup xs, .tup ys => D.ltL xs ys
  | _, _ => false
def D.ltL : List D → List D → Bool
  | [], [] => false
  | [], _ :: _ => true
  | _ :: _, [] => false
  | x :: xs, y :: ys => if D.eqv x y = true then D.ltL xs ys else D.lt x y
end
mutual
def D.le : D → D → Bool
  | .int i, .int j => decide (i ≤ j)
  | .str x, .str y => !decide (y.cps.toList < x.cps.toList)
  | .tup xs, .tup ys => D.leL xs ys
  | _, _ => false
def D.leL : List D → List D → Bool
  | [], _ => true
  | _ :: _, [] => false
  | x :: xs, y :: ys => if D.eqv x y = true then D.leL xs ys else D.le x y
end
mutual
/-- ints, texts, tuples of these, place by place -/
def D.alike : D → D → Bool
  | .non, .non => true
  | .int _, .int _ => true
  | .str _, .str _ => true
  | .tup xs, .tup ys => D.alikeL xs ys
  | _, _ => false
def D.alikeL : List D → List D → Bool
  | x :: xs, y :: ys => D.alike x y && D.alikeL xs ys
  | [], _ => true
  | _ :: _, [] => true
end
theorem D.pys_map : ∀ xs : List D, D.pys xs = xs.map D.py
  | [] => rfl
  | x :: xs => by rw [D.pys, D.pys_map xs]; rfl
mutual
theorem D.canLay : ∀ x : D, x.fits = true → x.py.canLay0 = true
  | .non, _ => by simp only [D.py, PyData.canLay0]
  | .bl _, _ => by simp only [D.py, PyData.canLay0]
  | .int _, _ => by simp only [D.py, PyData.canLay0]
  | .str x, h => by
    simp only [D.py, PyData.canLay0]
    simpa [D.fits] using h
  | .tup xs, h => by
    simp only [D.py, PyData.canLay0]
    exact D.canLayL xs (by simpa [D.fits] using h)
  | .rol xs, h => by
    simp only [D.py, PyData.canLay0]
    exact D.canLayL xs (by simpa [D.fits] using h)
  | .loc _, h => by simp [D.fits] at h
theorem D.canLayL : ∀ xs : List D, D.fitsL xs = true → PyData.canLayAll0 (D.pys xs) = true
  | [], _ => by simp only [D.pys, PyData.canLayAll0]
  | x :: xs, h => by
    simp only [D.fitsL, Bool.and_eq_true] at h
    simp only [D.pys, PyData.canLayAll0, D.canLay x h.1, D.canLayL xs h.2, Bool.and_self]
end
mutual
theorem D.depth : ∀ x : D, x.fits = true → x.py.depth = x.dep
  | .non, _ => by simp only [D.py, D.dep, PyData.depth]
  | .bl _, _ => by simp only [D.py, D.dep, PyData.depth]
  | .int _, _ => by simp only [D.py, D.dep, PyData.depth]
  | .str x, h => by simp only [D.py, D.dep, PyData.depth]
  | .tup xs, h => by
    simp only [D.py, D.dep, PyData.depth]
    rw [D.depthL xs (by simpa [D.fits] using h)]
  | .rol xs, h => by
    simp only [D.py, D.dep, PyData.depth]
    rw [D.depthL xs (by simpa [D.fits] using h)]
  | .loc _, h => by simp [D.fits] at h
theorem D.depthL : ∀ xs : List D, D.fitsL xs = true → PyData.depthAll (D.pys xs) = D.depL xs
  | [], _ => by simp only [D.pys, D.depL, PyData.depthAll]
  | x :: xs, h => by
    simp only [D.fitsL, Bool.and_eq_true] at h
    simp only [D.pys, D.depL, PyData.depthAll, D.depth x h.1, D.depthL xs h.2]
end
theorem str_beq (x y : Str) : (x == y) = decide (x = y) := by
  by_cases h : x = y
  · subst h; simp
  · rw [decide_eq_false h]; exact beq_eq_false_iff_ne.mpr h
mutual
theorem D.eqv_py : ∀ x y : D, x.fits = true → y.fits = true → PyData.eqv x.py y.py = D.eqv x y
  | .non, y, _, hy => by cases y <;> simp_all [D.py, D.eqv, PyData.eqv, D.fits]
  | .bl _, y, _, hy => by
    cases y <;> simp_all [D.py, D.eqv, PyData.eqv, D.fits]
    exact Bool.beq_eq_decide_eq _ _
  | .int _, y, _, hy => by
    cases y <;> simp_all [D.py, D.eqv, PyData.eqv, D.fits]
    all_goals exact Bool.beq_eq_decide_eq _ _
  | .str x, y, _, hy => by
    cases y <;> simp_all [D.py, D.eqv, PyData.eqv, D.fits, str_beq]
  | .tup xs, y, hx, hy => by
    cases y with
    | tup ys =>
      simp only [D.py, D.eqv, PyData.eqv]
      exact D.eqvL_py xs ys (by simpa [D.fits] using hx) (by simpa [D.fits] using hy)
    | _ => simp_all [D.py, D.eqv, PyData.eqv, D.fits]
  | .rol xs, y, hx, hy => by
    cases y with
    | rol ys =>
      simp only [D.py, D.eqv, PyData.eqv]
      exact D.eqvL_py xs ys (by simpa [D.fits] using hx) (by simpa [D.fits] using hy)
    | _ => simp_all [D.py, D.eqv, PyData.eqv, D.fits]
  | .loc _, _, h, _ => by simp [D.fits] at h
theorem D.eqvL_py : ∀ xs ys : List D, D.fitsL xs = true → D.fitsL ys = true → PyData.eqvAll (D.pys xs) (D.pys ys) = D.eqvL xs ys
  | [], [], _, _ => by simp only [D.pys, D.eqvL, PyData.eqvAll]
  | [], _ :: _, _, _ => by simp only [D.pys, D.eqvL, PyData.eqvAll]
  | _ :: _, [], _, _ => by simp only [D.pys, D.eqvL, PyData.eqvAll]
  | x :: xs, y :: ys, h, h' => by
    simp only [D.fitsL, Bool.and_eq_true] at h h'
    simp only [D.pys, D.eqvL, PyData.eqvAll, D.eqv_py x y h.1 h'.1, D.eqvL_py xs ys h.2 h'.2]
end
section
variable {K : PySem.W.Frag} {μ : List Addr} {H : Hp}
mutual
theorem R.dp : ∀ {x : D} {v : V}, R K μ H x v → x.fits = true → Dp K H v x.py
  | _, _, .non, _ => .non
  | _, _, .bl b, _ => .bl b
  | _, _, .int i, _ => .int i
  | _, _, .str x, _ => .str x
  | _, _, .tup h l r, f => by
    rw [D.py]
    exact .tup h (RL.dp r (by simpa [D.fits] using f))
  | _, _, .rol h l r, f => by
    rw [D.py]
    exact .lst h.sq (RL.dp r (by simpa [D.fits] using f))
  | _, _, .loc h, f => by simp [D.fits] at f
theorem RL.dp : ∀ {xs : List D} {vs : List V}, RL K μ H xs vs → D.fitsL xs = true → DpAll K H vs (D.pys xs)
  | _, _, .nil, _ => by rw [D.pys]; exact .nil
  | _, _, .cons r t, f => by
    simp only [D.fitsL, Bool.and_eq_true] at f
    rw [D.pys]
    exact .cons (R.dp r f.1) (RL.dp t f.2)
end
end
theorem D.fits_shaped {x : D} (f : x.fits = true) (d : x.dep ≤ 64) : SeqAt.shaped x.py = true := by
  unfold SeqAt.shaped
  rw [D.canLay x f, D.depth x f, decide_eq_true d]; rfl
section
variable {X : Cx} {pins : List (Addr × Obj)} {σ : L2.St} {H : Hp} {s : Shared} {μ : List Addr}
theorem R.reads (I : Inv X pins σ H s) {x : D} {v : V} {u : Value} (r : R X.K μ H x v) (f : x.fits = true) (rv : RelV v u) : ∃ as, Reads s.heap u x.py as := Dp.reads I x.py v u (r.dp f) rv
theorem eqAtD {A : Around} {s : Shared} {x y : D} {u w : Value} {as bs : List Addr} (rx : Reads s.heap u x.py as) (ry : Reads s.heap w y.py bs) (fx : x.fits = true) (fy : y.fits = true) (hu : A.units + min x.dep y.dep < cLine) : SeqAt.EqAt A s u w (D.eqv x y) := by
  rw [← D.eqv_py x y fx fy]
  exact SeqAt.eqAt_reads _ _ A s u w as bs rx ry (D.canLay x fx) (D.canLay y fy) (by rw [D.depth x fx, D.depth y fy]; exact hu)
end
/-- == of data -/
def okEq (x y : D) : Prop := x.fits = true ∧ y.fits = true ∧ min x.dep y.dep ≤ 64
instance (x y : D) : Decidable (okEq x y) := by unfold okEq; infer_instance
def oEq : O2 := fun x y S => match x, y with
  | .int i, .int j => some (.bl (decide (i = j)), S)
  | .str i, .str j => some (.bl (decide (i = j)), S)
  | x, y => if okEq x y then some (.bl (D.eqv x y), S) else none
def oNe : O2 := fun x y S => match x, y with
  | .int i, .int j => some (.bl (!decide (i = j)), S)
  | .str i, .str j => some (.bl (!decide (i = j)), S)
  | x, y => if okEq x y then some (.bl (!D.eqv x y), S) else none
theorem dec_int' {i j : Int} : decide (V.int i = V.int j) = decide (i = j) := by
  by_cases h : i = j
  · subst h; simp
  · rw [decide_eq_false h, decide_eq_false (fun e => h (V.int.inj e))]
theorem dec_str' {i j : Str} : decide (V.str i = V.str j) = decide (i = j) := by
  by_cases h : i = j
  · subst h; simp
  · rw [decide_eq_false h, decide_eq_false (fun e => h (V.str.inj e))]
section
variable {X : Cx}
theorem d_eq (hu : X.A.units + 64 < cLine) : OpR X (compareOp .Eq) (r2 X.K oEq) := by
  intro pins s σ H x y v u Q I rx ry hr
  obtain ⟨μ, S, a, b, ok, ra, rb, hp⟩ := hr
  have gen : okEq a b → PV X.K (R X.K) μ H (some (.bl (D.eqv a b), S)) Q → wpAny (model X.prog X.w) X.A (compareOp .Eq v u) (EP X pins σ Q) X.xe s := fun ho hp => by
    obtain ⟨fa, fb, hd⟩ := ho
    obtain ⟨as, r1⟩ := ra.reads I fa rx
    obtain ⟨bs, r2⟩ := rb.reads I fb ry
    refine SeqAt.compareEq_reads r1 r2 (D.canLay a fa) (D.canLay b fb) (by rw [D.depth a fa, D.depth b fb]; omega) ⟨.bl _, H, I, rfl, ?_⟩
    rw [D.eqv_py a b fa fb]
    exact hp.same ok (.bl _)
  unfold oEq at hp
  split at hp
  · cases ra
    cases rb
    exact op_eq pins s σ H _ _ v u Q I rx ry ⟨rfl, by rw [dec_int']; exact hp.same ok (.bl _)⟩
  · cases ra
    cases rb
    exact op_eq pins s σ H _ _ v u Q I rx ry ⟨rfl, by rw [dec_str']; exact hp.same ok (.bl _)⟩
  · split at hp
    · rename_i ho
      exact gen ho hp
    · exact hp.elim
theorem d_ne (hu : X.A.units + 64 < cLine) : OpR X (compareOp .NotEq) (r2 X.K oNe) := by
  intro pins s σ H x y v u Q I rx ry hr
  obtain ⟨μ, S, a, b, ok, ra, rb, hp⟩ := hr
  have gen : okEq a b → PV X.K (R X.K) μ H (some (.bl (!D.eqv a b), S)) Q → wpAny (model X.prog X.w) X.A (compareOp .NotEq v u) (EP X pins σ Q) X.xe s := fun ho hp => by
    obtain ⟨fa, fb, hd⟩ := ho
    obtain ⟨as, r1⟩ := ra.reads I fa rx
    obtain ⟨bs, r2⟩ := rb.reads I fb ry
    refine SeqAt.compareNe_reads r1 r2 (D.canLay a fa) (D.canLay b fb) (by rw [D.depth a fa, D.depth b fb]; omega) ⟨.bl _, H, I, rfl, ?_⟩
    rw [D.eqv_py a b fa fb]
    exact hp.same ok (.bl _)
  unfold oNe at hp
  split at hp
  · cases ra
    cases rb
    exact op_ne pins s σ H _ _ v u Q I rx ry ⟨rfl, by rw [dec_int']; exact hp.same ok (.bl _)⟩
  · cases ra
    cases rb
    exact op_ne pins s σ H _ _ v u Q I rx ry ⟨rfl, by rw [dec_str']; exact hp.same ok (.bl _)⟩
  · split at hp
    · rename_i ho
      exact gen ho hp
    · exact hp.elim
end
/-! ### the order -/
theorem readsAll_get {h : Heap} : ∀ {us : List Value} {ds : List PyData} {as : List Addr} {j : Nat} {u : Value} {d : PyData}, ReadsAll h us ds as → us[j]? = some u → ds[j]? = some d → ∃ bs, Reads h u d bs
  | _, _, _, _, _, _, .nil, e, _ => by simp at e
  | _, _, _, 0, _, _, .cons r _, e, e' => by
    simp at e e'
    subst e e'
    exact ⟨_, r⟩
  | _, _, _, j + 1, _, _, .cons _ t, e, e' => readsAll_get (j := j) t (by simpa using e) (by simpa using e')
theorem depL_get : ∀ {xs : List D} {j : Nat} {x : D}, xs[j]? = some x → x.dep ≤ D.depL xs
  | [], _, _, e => by simp at e
  | y :: xs, 0, x, e => by
    simp at e
    subst e
    rw [D.depL]
    exact Nat.le_max_left _ _
  | y :: xs, j + 1, x, e => by
    rw [D.depL]
    exact Nat.le_trans (depL_get (j := j) (by simpa using e)) (Nat.le_max_right _ _)
theorem fitsL_get : ∀ {xs : List D} {j : Nat} {x : D}, D.fitsL xs = true → xs[j]? = some x → x.fits = true
  | [], _, _, _, e => by simp at e
  | y :: xs, 0, x, f, e => by
    simp at e
    subst e
    rw [D.fitsL, Bool.and_eq_true] at f
    exact f.1
  | y :: xs, j + 1, x, f, e => by
    rw [D.fitsL, Bool.and_eq_true] at f
    exact fitsL_get (j := j) f.2 (by simpa using e)
def lexO (f : D → D → Bool) (z : Nat → Nat → Bool) : List D → List D → Bool
  | [], ys => z 0 ys.length
  | x :: xs, [] => z (xs.length + 1) 0
  | x :: xs, y :: ys => if D.eqv x y = true then lexO f z xs ys else f x y
theorem lexAt_O {f : D → D → Bool} {z : Nat → Nat → Bool} (hz : ∀ a b, z (a + 1) (b + 1) = z a b) (e r : Nat → Bool) : ∀ (xs ys : List D) (i : Nat),
    (∀ (j : Nat) (x y : D), xs[j]? = some x → ys[j]? = some y → e (i + j) = D.eqv x y ∧ r (i + j) = f x y) →
    Ob.lexAt e r (z xs.length ys.length) i (min xs.length ys.length) = lexO f z xs ys
  | [], ys, i, h => by
    rw [List.length_nil, Nat.zero_min]
    rfl
  | x :: xs, [], i, h => by
    rw [List.length_nil, Nat.min_zero]
    rfl
  | x :: xs, y :: ys, i, h => by
    have h0 := h 0 x y rfl rfl
    rw [Nat.add_zero] at h0
    rw [lexO]
    rw [List.length_cons, List.length_cons, show min (xs.length + 1) (ys.length + 1) = min xs.length ys.length + 1 by omega, Ob.lexAt_succ, h0.1]
    by_cases q : D.eqv x y = true
    · rw [if_pos q, if_pos q, hz]
      exact lexAt_O hz e r xs ys (i + 1) fun j x' y' hx hy => by
        have := h (j + 1) x' y' (by simpa using hx) (by simpa using hy)
        rw [show i + (j + 1) = i + 1 + j by omega] at this
        exact this
    · rw [if_neg q, if_neg q]
      exact h0.2
theorem ltL_O : ∀ xs ys : List D, D.ltL xs ys = lexO D.lt (fun a b => decide (a < b)) xs ys
  | [], [] => by rw [D.ltL, lexO]; rfl
  | [], y :: ys => by rw [D.ltL, lexO, List.length_cons]; simp
  | x :: xs, [] => by rw [D.ltL, lexO]; rfl
  | x :: xs, y :: ys => by rw [D.ltL, lexO, ltL_O xs ys]
theorem leL_O : ∀ xs ys : List D, D.leL xs ys = lexO D.le (fun a b => decide (a ≤ b)) xs ys
  | [], ys => by rw [D.leL, lexO]; simp
  | x :: xs, [] => by rw [D.leL, lexO]; simp
  | x :: xs, y :: ys => by rw [D.leL, lexO, leL_O xs ys]
theorem alikeL_get : ∀ {xs ys : List D} {j : Nat} {x y : D}, D.alikeL xs ys = true → xs[j]? = some x → ys[j]? = some y → D.alike x y = true
  | [], _, _, _, _, _, e, _ => by simp at e
  | _ :: _, [], _, _, _, _, _, e => by simp at e
  | a :: xs, b :: ys, 0, x, y, f, e, e' => by
    simp at e e'
    subst e e'
    rw [D.alikeL, Bool.and_eq_true] at f
    exact f.1
  | a :: xs, b :: ys, j + 1, x, y, f, e, e' => by
    rw [D.alikeL, Bool.and_eq_true] at f
    exact alikeL_get (j := j) f.2 (by simpa using e) (by simpa using e')
theorem tupRc {op : CmpOp} {A : Around} {s : Shared} {f : D → D → Bool} {z : Nat → Nat → Bool} (hz : ∀ a b, z (a + 1) (b + 1) = z a b) {xs ys : List D} {a b : Addr} {vs ws : Array Value} {as bs : List Addr}
    (rule : ∀ (e r : Nat → Bool), (∀ j (h1 : j < vs.size) (h2 : j < ws.size), SeqAt.EqAt A.in1 s vs[j] ws[j] (e j)) → (∀ j (h1 : j < vs.size) (h2 : j < ws.size), e j = false → Ob.RcOp op A.in1 s vs[j] ws[j] (r j)) →
      Ob.RcOp op A s (.ref a) (.ref b) (Ob.lexAt e r (z vs.size ws.size) 0 (min vs.size ws.size)))
    (r1 : ReadsAll s.heap vs.toList (D.pys xs) as) (r2 : ReadsAll s.heap ws.toList (D.pys ys) bs) (f1 : D.fitsL xs = true) (f2 : D.fitsL ys = true) (hu : A.in1.units + min (D.depL xs) (D.depL ys) < cLine)
    (ih : ∀ (j : Nat) (x y : D) (u w : Value) (as bs : List Addr), xs[j]? = some x → ys[j]? = some y → Reads s.heap u x.py as → Reads s.heap w y.py bs → D.eqv x y = false → Ob.RcOp op A.in1 s u w (f x y)) :
    Ob.RcOp op A s (.ref a) (.ref b) (lexO f z xs ys) := by
  have n1 : vs.size = xs.length := by
    have := SeqAt.ReadsAll.length _ _ _ r1
    rw [D.pys_map, List.length_map] at this
    simpa using this
  have n2 : ws.size = ys.length := by
    have := SeqAt.ReadsAll.length _ _ _ r2
    rw [D.pys_map, List.length_map] at this
    simpa using this
  have key : ∀ j (h1 : j < vs.size) (h2 : j < ws.size), ∃ x y as bs, xs[j]? = some x ∧ ys[j]? = some y ∧ Reads s.heap vs[j] x.py as ∧ Reads s.heap ws[j] y.py bs := fun j h1 h2 => by
    have g1 : xs[j]? = some (xs[j]'(by omega)) := List.getElem?_eq_getElem (by omega)
    have g2 : ys[j]? = some (ys[j]'(by omega)) := List.getElem?_eq_getElem (by omega)
    obtain ⟨as', q1⟩ := readsAll_get r1 (j := j) (u := vs[j]) (by simp [h1]) (by rw [D.pys_map, List.getElem?_map, g1]; rfl)
    obtain ⟨bs', q2⟩ := readsAll_get r2 (j := j) (u := ws[j]) (by simp [h2]) (by rw [D.pys_map, List.getElem?_map, g2]; rfl)
    exact ⟨_, _, as', bs', g1, g2, q1, q2⟩
  have q := rule (fun j => D.eqv (xs.getD j .non) (ys.getD j .non)) (fun j => f (xs.getD j .non) (ys.getD j .non)) (fun j h1 h2 => ?_) (fun j h1 h2 he => ?_)
  · rw [n1, n2, lexAt_O hz _ _ xs ys 0 fun j x y hx hy => ?_] at q
    · exact q
    · rw [Nat.zero_add, List.getD_eq_getElem?_getD, List.getD_eq_getElem?_getD, hx, hy]
      exact ⟨rfl, rfl⟩
  · obtain ⟨x, y, as', bs', g1, g2, q1, q2⟩ := key j h1 h2
    rw [List.getD_eq_getElem?_getD, List.getD_eq_getElem?_getD, g1, g2]
    show SeqAt.EqAt _ _ _ _ (D.eqv x y)
    refine eqAtD q1 q2 (fitsL_get f1 g1) (fitsL_get f2 g2) ?_
    have d1 := depL_get g1
    have d2 := depL_get g2
    omega
  · obtain ⟨x, y, as', bs', g1, g2, q1, q2⟩ := key j h1 h2
    rw [List.getD_eq_getElem?_getD, List.getD_eq_getElem?_getD, g1, g2] at he ⊢
    exact ih j x y _ _ as' bs' g1 g2 q1 q2 he
theorem units_in {A : Around} {a b : Nat} (h : A.units + min (a + 1) (b + 1) < cLine) : A.in1.units + min a b < cLine := SeqAt.room_in h
mutual
theorem ltAtD : ∀ (x y : D) (A : Around) (s : Shared) (u w : Value) (as bs : List Addr), Reads s.heap u x.py as → Reads s.heap w y.py bs → x.fits = true → y.fits = true → D.alike x y = true → D.eqv x y = false → A.units + min x.dep y.dep < cLine → Ob.RcOp .Lt A s u w (D.lt x y)
  | .int i, y, A, s, u, w, as, bs, r1, r2, f1, f2, al, ne, hu => by
    cases y with
    | int j =>
      rw [D.py] at r1 r2
      cases r1
      cases r2
      rw [D.lt]
      exact Ob.RcOp.lt_int _ _ _ _
    | _ => simp [D.alike] at al
  | .str i, y, A, s, u, w, as, bs, r1, r2, f1, f2, al, ne, hu => by
    cases y with
    | str j =>
      rw [D.py] at r1 r2
      cases r1
      cases r2
      rw [D.lt]
      exact fun _ _ _ _ h => P.lt_str h
    | _ => simp [D.alike] at al
  | .tup xs, y, A, s, u, w, as, bs, r1, r2, f1, f2, al, ne, hu => by
    cases y with
    | tup ys =>
      rw [D.py] at r1 r2
      simp only [D.fits] at f1 f2
      simp only [D.alike] at al
      simp only [D.dep] at hu
      rw [D.lt, ltL_O]
      cases r1 with
      | @tuple a o vs n _ as₁ h1 h2 h3 h4 =>
        cases r2 with
        | @tuple b o' ws n' _ bs₁ k1 k2 k3 k4 =>
          exact tupRc (by intro a b; simp) (fun e r he hr => Ob.RcOp.tuples_lt ⟨_, h1, h2, _, h3⟩ ⟨_, k1, k2, _, k3⟩ (SeqAt.room_here hu) he hr) h4 k4 f1 f2 (units_in hu) (ltAtDL xs ys A.in1 s f1 f2 al (units_in hu))
    | _ => simp [D.alike] at al
  | .non, y, A, s, u, w, as, bs, r1, r2, f1, f2, al, ne, hu => by cases y <;> simp_all [D.alike, D.eqv]
  | .bl _, y, A, s, u, w, as, bs, r1, r2, f1, f2, al, ne, hu => by cases y <;> simp_all [D.alike, D.eqv]
  | .rol _, y, A, s, u, w, as, bs, r1, r2, f1, f2, al, ne, hu => by cases y <;> simp_all [D.alike, D.eqv]
  | .loc _, y, A, s, u, w, as, bs, r1, r2, f1, f2, al, ne, hu => by cases y <;> simp_all [D.alike, D.eqv]
theorem ltAtDL : ∀ (xs ys : List D) (A : Around) (s : Shared), D.fitsL xs = true → D.fitsL ys = true → D.alikeL xs ys = true → A.units + min (D.depL xs) (D.depL ys) < cLine →
    ∀ (j : Nat) (x y : D) (u w : Value) (as bs : List Addr), xs[j]? = some x → ys[j]? = some y → Reads s.heap u x.py as → Reads s.heap w y.py bs → D.eqv x y = false → Ob.RcOp .Lt A s u w (D.lt x y)
  | [], _, _, _, _, _, _, _, _, _, _, _, _, _, _, e, _, _, _, _ => by simp at e
  | _ :: _, [], _, _, _, _, _, _, _, _, _, _, _, _, _, _, e, _, _, _ => by simp at e
  | a :: xs, b :: ys, A, s, f1, f2, al, hu, j, x, y, u, w, as, bs, e, e', r1, r2, ne => by
    rw [D.fitsL, Bool.and_eq_true] at f1 f2
    rw [D.alikeL, Bool.and_eq_true] at al
    rw [D.depL, D.depL] at hu
    cases j with
    | zero =>
      simp at e e'
      subst e e'
      exact ltAtD a b A s u w as bs r1 r2 f1.1 f2.1 al.1 ne (SeqAt.room_head hu)
    | succ j => exact ltAtDL xs ys A s f1.2 f2.2 al.2 (SeqAt.room_tail hu) j x y u w as bs (by simpa using e) (by simpa using e') r1 r2 ne
end
mutual
theorem leAtD : ∀ (x y : D) (A : Around) (s : Shared) (u w : Value) (as bs : List Addr), Reads s.heap u x.py as → Reads s.heap w y.py bs → x.fits = true → y.fits = true → D.alike x y = true → D.eqv x y = false → A.units + min x.dep y.dep < cLine → Ob.RcOp .LtE A s u w (D.le x y)
  | .int i, y, A, s, u, w, as, bs, r1, r2, f1, f2, al, ne, hu => by
    cases y with
    | int j =>
      rw [D.py] at r1 r2
      cases r1
      cases r2
      rw [D.le]
      exact Ob.RcOp.le_int _ _ _ _
    | _ => simp [D.alike] at al
  | .str i, y, A, s, u, w, as, bs, r1, r2, f1, f2, al, ne, hu => by
    cases y with
    | str j =>
      rw [D.py] at r1 r2
      cases r1
      cases r2
      rw [D.le]
      exact fun _ _ _ _ h => P.le_str h
    | _ => simp [D.alike] at al
  | .tup xs, y, A, s, u, w, as, bs, r1, r2, f1, f2, al, ne, hu => by
    cases y with
    | tup ys =>
      rw [D.py] at r1 r2
      simp only [D.fits] at f1 f2
      simp only [D.alike] at al
      simp only [D.dep] at hu
      rw [D.le, leL_O]
      cases r1 with
      | @tuple a o vs n _ as₁ h1 h2 h3 h4 =>
        cases r2 with
        | @tuple b o' ws n' _ bs₁ k1 k2 k3 k4 =>
          exact tupRc (by intro a b; simp) (fun e r he hr => Ob.RcOp.tuples_le ⟨_, h1, h2, _, h3⟩ ⟨_, k1, k2, _, k3⟩ (SeqAt.room_here hu) he hr) h4 k4 f1 f2 (units_in hu) (leAtDL xs ys A.in1 s f1 f2 al (units_in hu))
    | _ => simp [D.alike] at al
  | .non, y, A, s, u, w, as, bs, r1, r2, f1, f2, al, ne, hu => by cases y <;> simp_all [D.alike, D.eqv]
  | .bl _, y, A, s, u, w, as, bs, r1, r2, f1, f2, al, ne, hu => by cases y <;> simp_all [D.alike, D.eqv]
  | .rol _, y, A, s, u, w, as, bs, r1, r2, f1, f2, al, ne, hu => by cases y <;> simp_all [D.alike, D.eqv]
  | .loc _, y, A, s, u, w, as, bs, r1, r2, f1, f2, al, ne, hu => by cases y <;> simp_all [D.alike, D.eqv]
theorem leAtDL : ∀ (xs ys : List D) (A : Around) (s : Shared), D.fitsL xs = true → D.fitsL ys = true → D.alikeL xs ys = true → A.units + min (D.depL xs) (D.depL ys) < cLine →
    ∀ (j : Nat) (x y : D) (u w : Value) (as bs : List Addr), xs[j]? = some x → ys[j]? = some y → Reads s.heap u x.py as → Reads s.heap w y.py bs → D.eqv x y = false → Ob.RcOp .LtE A s u w (D.le x y)
  | [], _, _, _, _, _, _, _, _, _, _, _, _, _, _, e, _, _, _, _ => by simp at e
  | _ :: _, [], _, _, _, _, _, _, _, _, _, _, _, _, _, _, e, _, _, _ => by simp at e
  | a :: xs, b :: ys, A, s, f1, f2, al, hu, j, x, y, u, w, as, bs, e, e', r1, r2, ne => by
    rw [D.fitsL, Bool.and_eq_true] at f1 f2
    rw [D.alikeL, Bool.and_eq_true] at al
    rw [D.depL, D.depL] at hu
    cases j with
    | zero =>
      simp at e e'
      subst e e'
      exact leAtD a b A s u w as bs r1 r2 f1.1 f2.1 al.1 ne (SeqAt.room_head hu)
    | succ j => exact leAtDL xs ys A s f1.2 f2.2 al.2 (SeqAt.room_tail hu) j x y u w as bs (by simpa using e) (by simpa using e') r1 r2 ne
end
end DL

namespace DL
open PySem PySem.Spec PyProof.Rows L2

/-! ### the order of ints, texts, tuples -/
def okCmp (xs ys : List D) : Prop := D.fitsL xs = true ∧ D.fitsL ys = true ∧ D.alikeL xs ys = true ∧ min (D.depL xs) (D.depL ys) ≤ 60
instance (xs ys : List D) : Decidable (okCmp xs ys) := by unfold okCmp; infer_instance
def oLt : O2 := fun x y S => match x, y with
  | .int i, .int j => some (.bl (decide (i < j)), S)
  | .str i, .str j => some (.bl (decide (i.cps.toList < j.cps.toList)), S)
  | .tup xs, .tup ys => if okCmp xs ys then some (.bl (D.ltL xs ys), S) else none
  | _, _ => none
def oLe : O2 := fun x y S => match x, y with
  | .int i, .int j => some (.bl (decide (i ≤ j)), S)
  | .str i, .str j => some (.bl (!decide (j.cps.toList < i.cps.toList)), S)
  | .tup xs, .tup ys => if okCmp xs ys then some (.bl (D.leL xs ys), S) else none
  | _, _ => none
def oGt : O2 := fun x y S => match x, y with
  | .int i, .int j => some (.bl (decide (j < i)), S)
  | _, _ => none
def oGe : O2 := fun x y S => match x, y with
  | .int i, .int j => some (.bl (decide (j ≤ i)), S)
  | _, _ => none
/-- the items of what is read -/
def itemsOf (S : Store) : D → Option (List D)
  | .tup xs => some xs
  | .rol xs => some xs
  | .loc l => match S[l]? with
    | some (.lst xs) => some xs
    | none => none
  | _ => none
section
variable {K : PySem.W.Frag} {μ : List Addr} {H : Hp} {S : Store}
theorem itemsOf_ok (ok : Ok K μ H S) {x : D} {v : V} {xs : List D} (r : R K μ H x v) (h : itemsOf S x = some xs) : ∃ p vs, v = .ref p ∧ (SqL K H p vs ∨ SqT K H p vs) ∧ vs.length ≤ sizeLine ∧ RL K μ H xs vs := by
  cases r with
  | @tup p vs ys hs l rr => cases h; exact ⟨p, vs, rfl, .inr hs, l, rr⟩
  | @rol p vs ys hs l rr => cases h; exact ⟨p, vs, rfl, .inl hs.sq, l, rr⟩
  | @loc l p hp =>
    simp only [itemsOf] at h
    cases q : S[l]? with
    | none => rw [q] at h; cases h
    | some c =>
      rw [q] at h
      obtain ⟨p', h1, hc⟩ := ok.at q
      rw [hp] at h1; cases h1
      cases c with
      | lst ys =>
        cases h
        obtain ⟨vs, hv, l, rr⟩ := hc
        exact ⟨p, vs, rfl, .inl (.inl (.inl hv)), l, rr⟩
  | _ => cases h
end
section
variable {X : Cx}
theorem d_lt (hu : X.A.units + 64 < cLine) : OpR X (compareOp .Lt) (r2 X.K oLt) := by
  intro pins s σ H x y v u Q I rx ry hr
  obtain ⟨μ, S, a, b, ok, ra, rb, hp⟩ := hr
  unfold oLt at hp
  split at hp
  · cases ra
    cases rb
    exact op_lt pins s σ H _ _ v u Q I rx ry ⟨_, _, rfl, rfl, hp.same ok (.bl _)⟩
  · cases ra
    cases rb
    exact op_lt_str pins s σ H _ _ v u Q I rx ry ⟨_, _, rfl, rfl, hp.same ok (.bl _)⟩
  · rename_i xs ys
    split at hp
    · rename_i hc
      obtain ⟨f1, f2, al, hd⟩ := hc
      obtain ⟨as, r1⟩ := ra.reads I (by simpa [D.fits] using f1) rx
      obtain ⟨bs, r2⟩ := rb.reads I (by simpa [D.fits] using f2) ry
      have hu2 : X.A.in1.units + min (D.depL xs) (D.depL ys) < cLine := by
        have : X.A.in1.units = X.A.units + 1 := rfl
        omega
      rw [D.py] at r1 r2
      cases r1 with
      | @tuple a o vs n _ as₁ h1 h2 h3 h4 =>
        cases r2 with
        | @tuple b o' ws n' _ bs₁ k1 k2 k3 k4 =>
          rw [ltL_O] at hp
          have z := tupRc (A := X.A) (s := s) (a := a) (b := b) (f := D.lt) (z := fun a b => decide (a < b)) (by intro a b; simp) (fun e r he hr => Ob.RcOp.tuples_lt ⟨_, h1, h2, _, h3⟩ ⟨_, k1, k2, _, k3⟩ (by omega) he hr) h4 k4 f1 f2 hu2 (ltAtDL xs ys X.A.in1 s f1 f2 al hu2)
          exact z X.prog X.w X.xe (EP X pins σ Q) ⟨.bl _, H, I, rfl, hp.same ok (.bl _)⟩
    · exact hp.elim
  · exact hp.elim
theorem d_le (hu : X.A.units + 64 < cLine) : OpR X (compareOp .LtE) (r2 X.K oLe) := by
  intro pins s σ H x y v u Q I rx ry hr
  obtain ⟨μ, S, a, b, ok, ra, rb, hp⟩ := hr
  unfold oLe at hp
  split at hp
  · cases ra
    cases rb
    exact op_le pins s σ H _ _ v u Q I rx ry ⟨_, _, rfl, rfl, hp.same ok (.bl _)⟩
  · cases ra
    cases rb
    exact op_le_str pins s σ H _ _ v u Q I rx ry ⟨_, _, rfl, rfl, hp.same ok (.bl _)⟩
  · rename_i xs ys
    split at hp
    · rename_i hc
      obtain ⟨f1, f2, al, hd⟩ := hc
      obtain ⟨as, r1⟩ := ra.reads I (by simpa [D.fits] using f1) rx
      obtain ⟨bs, r2⟩ := rb.reads I (by simpa [D.fits] using f2) ry
      have hu2 : X.A.in1.units + min (D.depL xs) (D.depL ys) < cLine := by
        have : X.A.in1.units = X.A.units + 1 := rfl
        omega
      rw [D.py] at r1 r2
      cases r1 with
      | @tuple a o vs n _ as₁ h1 h2 h3 h4 =>
        cases r2 with
        | @tuple b o' ws n' _ bs₁ k1 k2 k3 k4 =>
          rw [leL_O] at hp
          have z := tupRc (A := X.A) (s := s) (a := a) (b := b) (f := D.le) (z := fun a b => decide (a ≤ b)) (by intro a b; simp) (fun e r he hr => Ob.RcOp.tuples_le ⟨_, h1, h2, _, h3⟩ ⟨_, k1, k2, _, k3⟩ (by omega) he hr) h4 k4 f1 f2 hu2 (leAtDL xs ys X.A.in1 s f1 f2 al hu2)
          exact z X.prog X.w X.xe (EP X pins σ Q) ⟨.bl _, H, I, rfl, hp.same ok (.bl _)⟩
    · exact hp.elim
  · exact hp.elim
theorem d_gt : OpR X (compareOp .Gt) (r2 X.K oGt) := by
  intro pins s σ H x y v u Q I rx ry hr
  obtain ⟨μ, S, a, b, ok, ra, rb, hp⟩ := hr
  unfold oGt at hp
  split at hp
  · cases ra
    cases rb
    exact op_gt pins s σ H _ _ v u Q I rx ry ⟨_, _, rfl, rfl, hp.same ok (.bl _)⟩
  · exact hp.elim
theorem d_ge : OpR X (compareOp .GtE) (r2 X.K oGe) := by
  intro pins s σ H x y v u Q I rx ry hr
  obtain ⟨μ, S, a, b, ok, ra, rb, hp⟩ := hr
  unfold oGe at hp
  split at hp
  · cases ra
    cases rb
    exact op_ge pins s σ H _ _ v u Q I rx ry ⟨_, _, rfl, rfl, hp.same ok (.bl _)⟩
  · exact hp.elim
/-! ### is None -/
def isBl (b : Bool) : D → Bool
  | .bl a => a == b
  | _ => false
def oIs : O2 := fun x y S => match y with
  | .non => some (.bl (match x with | .non => true | _ => false), S)
  | .bl b => some (.bl (isBl b x), S)
  | _ => none
def oIsNot : O2 := fun x y S => match y with
  | .non => some (.bl (match x with | .non => false | _ => true), S)
  | .bl b => some (.bl (!isBl b x), S)
  | _ => none
theorem is_bl {pins : List (Addr × Obj)} {s : Shared} {σ : L2.St} {H : Hp} {μ : List Addr} {x : D} {v : V} {u : Value} {b : Bool} (I : Inv X pins σ H s) (r : R X.K μ H x v) (rx : RelV v u) : PySem.plainIs u (.bool b) = true ∧ (u == Value.bool b) = isBl b x := by
  cases r with
  | bl a =>
    cases rx
    refine ⟨rfl, ?_⟩
    cases a <;> cases b <;> rfl
  | non => cases rx; exact ⟨rfl, rfl⟩
  | int i => obtain ⟨t, rfl⟩ := rx; exact ⟨rfl, rfl⟩
  | str i => obtain ⟨t, rfl⟩ := rx; exact ⟨rfl, rfl⟩
  | tup h1 h2 h3 => cases rx; exact ⟨rfl, rfl⟩
  | rol h1 h2 h3 => cases rx; exact ⟨rfl, rfl⟩
  | loc h1 => cases rx; exact ⟨rfl, rfl⟩
theorem d_is : OpR X (compareOp .Is) (r2 X.K oIs) := by
  intro pins s σ H x y v u Q I rx ry hr
  obtain ⟨μ, S, a, b, ok, ra, rb, hp⟩ := hr
  cases rb with
  | non =>
    refine op_isN pins s σ H _ _ v u Q I rx ry ⟨rfl, ?_⟩
    cases ra <;> exact hp.same ok (.bl _)
  | bl b =>
    cases ry
    obtain ⟨h1, h2⟩ := is_bl (b := b) I ra rx
    exact PySem.wpAny_is_plain h1 (by rw [h2]; exact ⟨.bl _, H, I, rfl, hp.same ok (.bl _)⟩)
  | _ => exact hp.elim
theorem d_isnot : OpR X (compareOp .IsNot) (r2 X.K oIsNot) := by
  intro pins s σ H x y v u Q I rx ry hr
  obtain ⟨μ, S, a, b, ok, ra, rb, hp⟩ := hr
  cases rb with
  | non =>
    refine op_notN pins s σ H _ _ v u Q I rx ry ⟨rfl, ?_⟩
    cases ra <;> exact hp.same ok (.bl _)
  | bl b =>
    cases ry
    obtain ⟨h1, h2⟩ := is_bl (b := b) I ra rx
    exact PySem.wpAny_isNot_plain h1 (by rw [h2]; exact ⟨.bl _, H, I, rfl, hp.same ok (.bl _)⟩)
  | _ => exact hp.elim
/-! ### in -/
def okIn (x : D) (xs : List D) : Prop := x.fits = true ∧ D.fitsL xs = true ∧ min (D.depL xs) x.dep ≤ 60
instance (x : D) (xs : List D) : Decidable (okIn x xs) := by unfold okIn; infer_instance
def inL (x : D) (xs : List D) : Bool := xs.any fun z => D.eqv z x
def oIn : O2 := fun x y S => match itemsOf S y with
  | some xs => if okIn x xs then some (.bl (inL x xs), S) else none
  | none => match x, y with
    | .str i, .str j => some (.bl (!(Builtin.Str.occurrences j i 0 j.length 1).isEmpty), S)
    | _, _ => none
def oNotIn : O2 := fun x y S => match itemsOf S y with
  | some xs => if okIn x xs then some (.bl (!inL x xs), S) else none
  | none => match x, y with
    | .str i, .str j => some (.bl (!(!(Builtin.Str.occurrences j i 0 j.length 1).isEmpty)), S)
    | _, _ => none
theorem any_pys (x : D) (fx : x.fits = true) : ∀ xs : List D, D.fitsL xs = true → (D.pys xs).any (fun z => PyData.eqv z x.py) = inL x xs
  | [], _ => rfl
  | y :: xs, f => by
    rw [D.fitsL, Bool.and_eq_true] at f
    have ih := any_pys x fx xs f.2
    unfold inL at ih ⊢
    rw [D.pys, List.any_cons, List.any_cons, ih, D.eqv_py y x f.1 fx]
theorem inItems {pins : List (Addr × Obj)} {s : Shared} {σ : L2.St} {H : Hp} {μ : List Addr} (hu : X.A.units + 64 < cLine) (I : Inv X pins σ H s) {x : D} {xs : List D} {vs : List V} {v : V} {u : Value} {its : List Value} (rx : R X.K μ H x v) (ru : RelV v u) (rr : RL X.K μ H xs vs) (rv : Vals vs its) (h : okIn x xs) :
    ∃ e : Value → Bool, (∀ y, y ∈ its.toArray → SeqAt.EqAt X.A.in1 s y u (e y)) ∧ its.toArray.any e = inL x xs := by
  obtain ⟨fx, fl, hd⟩ := h
  obtain ⟨as, r1⟩ := rx.reads I fx ru
  obtain ⟨bs, r2⟩ := Dp.readsAll I _ _ _ (rr.dp fl) rv
  refine ⟨fun y => PyData.eqv (SeqAt.readOf s.heap y) x.py, SeqAt.items_eqAt r2 r1 (D.canLayL xs fl) (D.canLay x fx) (by rw [D.depthL xs fl, D.depth x fx]; omega), ?_⟩
  rw [← any_pys x fx xs fl, ← SeqAt.readsAll_map _ _ _ (D.canLayL xs fl) r2]
  simp [List.any_map, Function.comp_def]
theorem d_in (hu : X.A.units + 64 < cLine) : OpR X (compareOp .In) (r2 X.K oIn) := by
  intro pins s σ H x y v u Q I rx ry hr
  obtain ⟨μ, S, a, b, ok, ra, rb, hp⟩ := hr
  unfold oIn at hp
  cases q : itemsOf S b with
  | some xs =>
    rw [q] at hp
    simp only at hp
    split at hp
    · rename_i hc
      obtain ⟨p, vs, rfl, hs, hl, rr⟩ := itemsOf_ok ok rb q
      cases ry
      rcases hs with hs | hs
      · obtain ⟨its, rv, pl, _⟩ := I.list hs
        obtain ⟨e, he, ha⟩ := inItems hu I ra rx rr rv hc
        exact SeqAt.in_listAt e pl.isList he ⟨.bl _, H, I, rfl, by rw [ha]; exact hp.same ok (.bl _)⟩
      · obtain ⟨its, rv, pl, _⟩ := I.tuple hs
        obtain ⟨e, he, ha⟩ := inItems hu I ra rx rr rv hc
        exact SeqAt.in_tupleAt e pl he ⟨.bl _, H, I, rfl, by rw [ha]; exact hp.same ok (.bl _)⟩
    · exact hp.elim
  | none =>
    rw [q] at hp
    simp only at hp
    split at hp
    · cases ra
      cases rb
      exact op_in_str pins s σ H _ _ v u Q I rx ry ⟨_, _, rfl, rfl, hp.same ok (.bl _)⟩
    · exact hp.elim
theorem d_notin (hu : X.A.units + 64 < cLine) : OpR X (compareOp .NotIn) (r2 X.K oNotIn) := by
  intro pins s σ H x y v u Q I rx ry hr
  obtain ⟨μ, S, a, b, ok, ra, rb, hp⟩ := hr
  unfold oNotIn at hp
  cases q : itemsOf S b with
  | some xs =>
    rw [q] at hp
    simp only at hp
    split at hp
    · rename_i hc
      obtain ⟨p, vs, rfl, hs, hl, rr⟩ := itemsOf_ok ok rb q
      cases ry
      rcases hs with hs | hs
      · obtain ⟨its, rv, pl, _⟩ := I.list hs
        obtain ⟨e, he, ha⟩ := inItems hu I ra rx rr rv hc
        exact SeqAt.notIn_listAt e pl.isList he ⟨.bl _, H, I, rfl, by rw [ha]; exact hp.same ok (.bl _)⟩
      · obtain ⟨its, rv, pl, _⟩ := I.tuple hs
        obtain ⟨e, he, ha⟩ := inItems hu I ra rx rr rv hc
        exact SeqAt.notIn_tupleAt e pl he ⟨.bl _, H, I, rfl, by rw [ha]; exact hp.same ok (.bl _)⟩
    · exact hp.elim
  | none =>
    rw [q] at hp
    simp only at hp
    split at hp
    · cases ra
      cases rb
      exact op_notin_str pins s σ H _ _ v u Q I rx ry ⟨_, _, rfl, rfl, hp.same ok (.bl _)⟩
    · exact hp.elim
/-! ### subscripts, slices -/
def oIx : O2 := fun x y S => match y with
  | .int i => match itemsOf S x with
    | some xs => match atI xs i with
      | some d => some (d, S)
      | none => none
    | none => match x with
      | .str z => if z.length ≤ sizeLine then match atI z.cps.toList i with
          | some c => some (.str ⟨#[c]⟩, S)
          | none => none
        else none
      | _ => none
  | _ => none
theorem RL.atI {K : PySem.W.Frag} {μ : List Addr} {H : Hp} {xs : List D} {vs : List V} {i : Int} {d : D} (r : RL K μ H xs vs) (h : atI xs i = some d) : ∃ v, L2.atI vs i = some v ∧ R K μ H d v := by
  unfold L2.atI at h ⊢
  rw [← r.length]
  cases q : ixN xs.length i with
  | none => rw [q] at h; cases h
  | some j =>
    rw [q] at h
    exact r.get h
theorem d_ix : IxR X (r2 X.K oIx) := by
  intro value slice pins s σ H x y v u Q I rx ry hr hsub
  obtain ⟨μ, S, a, b, ok, ra, rb, hp⟩ := hr
  cases rb with
  | int i =>
    simp only [oIx] at hp
    cases q : itemsOf S a with
    | some xs =>
      rw [q] at hp
      simp only at hp
      cases q2 : atI xs i with
      | none => rw [q2] at hp; exact hp.elim
      | some d =>
        rw [q2] at hp
        obtain ⟨p, vs, rfl, hs, hl, rr⟩ := itemsOf_ok ok ra q
        obtain ⟨w, hw, rw'⟩ := rr.atI q2
        rcases hs with hs | hs
        · exact ix_list value slice pins s σ H _ _ v u Q I rx ry ⟨p, vs, i, w, rfl, rfl, hs, hw, hp.same ok rw'⟩ hsub
        · exact ix_tup value slice pins s σ H _ _ v u Q I rx ry ⟨p, vs, i, w, rfl, rfl, hs, hw, hp.same ok rw'⟩ hsub
    | none =>
      rw [q] at hp
      simp only at hp
      cases ra with
      | str z =>
        simp only at hp
        split at hp
        · rename_i hl
          cases q2 : atI z.cps.toList i with
          | none => rw [q2] at hp; exact hp.elim
          | some c =>
            rw [q2] at hp
            exact ix_str value slice pins s σ H _ _ v u Q I rx ry ⟨z, i, c, rfl, rfl, hl, q2, hp.same ok (.str _)⟩ hsub
        · exact hp.elim
      | _ => exact hp.elim
  | _ => exact hp.elim
variable {W : WX} {pos : Pos} {a b c e : Expr} {es : List Expr} {f g h : DE}
theorem e_ix (ha : PE X a (tE X.K X.mg W f)) (hb : PE X b (tE X.K X.mg W g)) (hs : PlainIx b := by exact fun _ _ => rfl) : PE X (.Subscript a b pos) (tE X.K X.mg W (cBin oIx f g)) := PE.weak (pe_ix d_ix ha hb hs) fun _ _ _ => tE_bin
abbrev DO := Sg → Store → Res (Option Int)
def cNoPart : DO := fun _ S => .ok none S
def cPart (f : DE) : DO := fun σ S => (f σ S).bind fun x S1 => match x with
  | .int i => .ok (some i) S1
  | _ => .no
abbrev RO : List Addr → Hp → Option Int → Option Int → Prop := fun _ _ a b => a = b
abbrev tO (K : PySem.W.Frag) (mg : Str → Option Value) (W : WX) (f : DO) : TO := tG K mg W RO f
theorem PO.weak {X : Cx} {e : Option Expr} {t t' : TO} (h : PO X e t) (w : ∀ σ H Q, t' σ H Q → t σ H Q) : PO X e t' := ⟨fun pins s σ H Q I q => h.run pins s σ H Q I (w σ H Q q)⟩
theorem o_none : PO X none (tO X.K X.mg W cNoPart) := PO.weak po_none fun σ H Q h => by
  obtain ⟨μ, σD, S, ok, en, h⟩ := h
  exact h μ H none (Ext.refl _ _) ok rfl
theorem o_some (he : PE X e (tE X.K X.mg W f)) : PO X (some e) (tO X.K X.mg W (cPart f)) := PO.weak (po_some he) fun σ H Q h => tG1 (RA := R X.K) h fun x S μ H v ok rx h => by
  cases rx with
  | int i => exact ⟨i, rfl, h μ H (some i) (Ext.refl _ _) ok rfl⟩
  | _ => exact h.elim
def cutD (xs : List D) (lo hi : Option Int) : List D := (xs.drop (HT.sIx xs.length 0 lo)).take (HT.sIx xs.length xs.length hi - HT.sIx xs.length 0 lo)
def oCut (x : D) (lo hi : Option Int) (S : Store) : Option (D × Store) := match x with
  | .tup xs => some (.tup (cutD xs lo hi), S)
  | .str z => if z.length ≤ sizeLine then some (.str (cutS z lo hi), S) else none
  | x => match itemsOf S x with
    | some xs => some (.loc S.length, S ++ [.lst (cutD xs lo hi)])
    | none => none
def cCut (f : DE) (l u : DO) : DE := fun σ S => (f σ S).bind fun x S1 => (l σ S1).bind fun lo S2 => (u σ S2).bind fun hi S3 => Res.of (oCut x lo hi S3)
theorem RL.cut {K : PySem.W.Frag} {μ : List Addr} {H : Hp} {xs : List D} {vs : List V} {lo hi : Option Int} (r : RL K μ H xs vs) : RL K μ H (cutD xs lo hi) (cutV vs lo hi) := by
  unfold cutD cutV
  rw [r.length]
  exact (r.drop _).take _
end
end DL

namespace DL
open PySem PySem.Spec PyProof.Rows L2
section
variable {X : Cx} {W : WX} {pos : Pos} {a b c e : Expr} {es : List Expr} {f g h : DE} {K : PySem.W.Frag} {mg : Str → Option Value}
/-! ### slices -/
def rSl (K : PySem.W.Frag) : V → Option Int → Option Int → Hp → VK → Prop := fun v lo hi H Q => ∃ μ S x, Ok K μ H S ∧ R K μ H x v ∧ PV K (R K) μ H (oCut x lo hi S) Q
theorem d_cut : SlR X (rSl X.K) := by
  intro pins s σ H x v vl vu lo hi sl Q I rx hs pl pu hr
  obtain ⟨μ, S, d, ok, rd, hp⟩ := hr
  cases rd with
  | @tup p vs xs ht l rr =>
    refine sl_tupA pins s σ H _ v vl vu lo hi sl Q I rx hs pl pu ⟨p, vs, rfl, ht, fun hw => ?_, fun _ => hp.tup ok (Nat.le_trans (cutV_length _ _ _) l) rr.cut⟩
    have e : cutD xs lo hi = xs := by
      unfold cutD
      rw [rr.length, hw.1, hw.2, List.drop_zero, Nat.sub_zero, ← rr.length, List.take_length]
    rw [oCut, e] at hp
    exact hp.same ok (.tup ht l rr)
  | str z =>
    simp only [oCut] at hp
    split at hp
    · rename_i hl
      exact sl_str pins s σ H _ v vl vu lo hi sl Q I rx hs pl pu ⟨z, rfl, hl, hp.same ok (.str _)⟩
    · exact hp.elim
  | @rol p vs xs ht l rr =>
    exact sl_list pins s σ H _ v vl vu lo hi sl Q I rx hs pl pu ⟨p, vs, rfl, ht.sq, PV.lst hp ok (Nat.le_trans (cutV_length _ _ _) l) rr.cut⟩
  | @loc l p hl =>
    simp only [oCut] at hp
    cases q : itemsOf S (.loc l) with
    | none => rw [q] at hp; exact hp.elim
    | some xs =>
      rw [q] at hp
      obtain ⟨p', vs, e1, hs', hz, rr⟩ := itemsOf_ok ok (R.loc hl) q
      cases e1
      rcases hs' with hs' | hs'
      · exact sl_list pins s σ H _ v vl vu lo hi sl Q I rx hs pl pu ⟨p, vs, rfl, hs', PV.lst hp ok (Nat.le_trans (cutV_length _ _ _) hz) rr.cut⟩
      · obtain ⟨ws, hw⟩ := ok.lst (List.mem_of_getElem? hl)
        rcases hs' with (z | ⟨o, z⟩) | ⟨o, its, n, hk, hc, _⟩
        · rw [hw] at z; cases z
        · rw [hw] at z; cases z
        · obtain ⟨_, its', n', _, e⟩ := I.hok _ _ hw
          have := I.kIn _ _ hk
          rw [e] at this
          cases this
          exact absurd hc (by simp)
  | _ => exact hp.elim
theorem e_cut {lo hi : Option Expr} {p2 : Pos} {l u : DO} (he : PE X e (tE X.K X.mg W f)) (hl : PO X lo (tO X.K X.mg W l)) (hu : PO X hi (tO X.K X.mg W u)) : PE X (.Subscript e (.Slice lo hi none p2) pos) (tE X.K X.mg W (cCut f l u)) := by
  refine PE.weak (pe_slice d_cut he hl hu) fun σ H Q hh => ?_
  refine tG1e (k := fun σ x S1 => (l σ S1).bind fun lo S2 => (u σ S2).bind fun hi S3 => Res.of (oCut x lo hi S3)) (RA := R X.K) hh fun σD x S μ H v ok en rx hh => ?_
  refine ⟨μ, σD, S, ok, en, Post.bind hh fun lo S2 μ2 H2 lo' x2 ok2 rl hh => ?_⟩
  cases rl
  refine ⟨μ2, σD, S2, ok2, en.mono x2, Post.bind hh fun hi S3 μ3 H3 hi' x3 ok3 ru hh => ?_⟩
  cases ru
  exact ⟨μ3, S3, x, ok3, (rx.mono x2).mono x3, hh.of⟩
/-! ### calls of built-in functions -/
def oLen : OA := fun xs S => match xs with
  | [x] => match itemsOf S x with
    | some ys => some (.int ys.length, S)
    | none => match x with
      | .str z => if z.length ≤ sizeLine then some (.int z.length, S) else none
      | _ => none
  | _ => none
theorem RL.one {μ : List Addr} {H : Hp} {x : D} {vs : List V} (r : RL K μ H [x] vs) : ∃ v, vs = [v] ∧ R K μ H x v := by
  cases r with
  | cons r t => cases t; exact ⟨_, rfl, r⟩
theorem RL.two {μ : List Addr} {H : Hp} {x y : D} {vs : List V} (r : RL K μ H [x, y] vs) : ∃ v u, vs = [v, u] ∧ R K μ H x v ∧ R K μ H y u := by
  cases r with
  | cons r t =>
    obtain ⟨u, rfl, r2⟩ := t.one
    exact ⟨_, u, rfl, r, r2⟩
theorem d_len : CallR X (.builtin "len") (rA X.K oLen) := by
  intro pins s σ H xs us Q I r hr
  obtain ⟨μ, S, ds, ok, rd, hp⟩ := hr
  unfold oLen at hp
  split at hp
  · rename_i x
    obtain ⟨v, rfl, rx⟩ := rd.one
    cases q : itemsOf S x with
    | some ys =>
      rw [q] at hp
      obtain ⟨p, vs, rfl, hs, hl, rr⟩ := itemsOf_ok ok rx q
      refine call_len_seq pins s σ H _ us Q I r ⟨p, vs, rfl, hs, ?_⟩
      rw [← rr.length]
      exact hp.same ok (.int _)
    | none =>
      rw [q] at hp
      simp only at hp
      cases rx with
      | str z =>
        simp only at hp
        split at hp
        · rename_i hl
          exact call_len_str pins s σ H _ us Q I r ⟨z, rfl, hl, hp.same ok (.int _)⟩
        · exact hp.elim
      | _ => exact hp.elim
  · exact hp.elim
def oInt : OA := fun xs S => match xs with
  | [.int i] => some (.int i, S)
  | [.bl b] => some (.int (if b then 1 else 0), S)
  | _ => none
theorem d_int : CallR X (.type "int") (rA X.K oInt) := by
  intro pins s σ H xs us Q I r hr
  obtain ⟨μ, S, ds, ok, rd, hp⟩ := hr
  unfold oInt at hp
  split at hp
  · obtain ⟨v, rfl, rx⟩ := rd.one
    cases rx
    exact call_int1 pins s σ H _ us Q I r (.inl ⟨_, rfl, hp.same ok (.int _)⟩)
  · obtain ⟨v, rfl, rx⟩ := rd.one
    cases rx
    exact call_int1 pins s σ H _ us Q I r (.inr ⟨_, rfl, hp.same ok (.int _)⟩)
  · exact hp.elim
def oAbs : OA := fun xs S => match xs with
  | [.int i] => some (.int (if i < 0 then -i else i), S)
  | _ => none
theorem d_abs : CallR X (.builtin "abs") (rA X.K oAbs) := by
  intro pins s σ H xs us Q I r hr
  obtain ⟨μ, S, ds, ok, rd, hp⟩ := hr
  unfold oAbs at hp
  split at hp
  · obtain ⟨v, rfl, rx⟩ := rd.one
    cases rx
    exact call_abs pins s σ H _ us Q I r ⟨_, rfl, hp.same ok (.int _)⟩
  · exact hp.elim
/-- max, min of two ints -/
def oMax : OA := fun xs S => match xs with
  | [.int i, .int j] => some (.int (if j > i then j else i), S)
  | _ => none
def oMin : OA := fun xs S => match xs with
  | [.int i, .int j] => some (.int (if j < i then j else i), S)
  | _ => none
theorem d_max (hc : X.calm = true) : CallR X (.builtin "max") (rA X.K oMax) := by
  intro pins s σ H xs us Q I r hr
  obtain ⟨μ, S, ds, ok, rd, hp⟩ := hr
  unfold oMax at hp
  split at hp
  · obtain ⟨v, u, rfl, rx, ry⟩ := rd.two
    cases rx
    cases ry
    exact call_max2 hc pins s σ H _ us Q I r ⟨_, _, rfl, hp.same ok (.int _)⟩
  · exact hp.elim
theorem d_min (hc : X.calm = true) : CallR X (.builtin "min") (rA X.K oMin) := by
  intro pins s σ H xs us Q I r hr
  obtain ⟨μ, S, ds, ok, rd, hp⟩ := hr
  unfold oMin at hp
  split at hp
  · obtain ⟨v, u, rfl, rx, ry⟩ := rd.two
    cases rx
    cases ry
    exact call_min2 hc pins s σ H _ us Q I r ⟨_, _, rfl, hp.same ok (.int _)⟩
  · exact hp.elim
def oTuple : OA := fun xs S => match xs with
  | [x] => match itemsOf S x with
    | some ys => some (.tup ys, S)
    | none => none
  | _ => none
def oList : OA := fun xs S => match xs with
  | [x] => match itemsOf S x with
    | some ys => some (.loc S.length, S ++ [.lst ys])
    | none => none
  | _ => none
/-- a list at an address that is tracked is no tuple -/
theorem loc_notT {pins : List (Addr × Obj)} {s : Shared} {σ : L2.St} {H : Hp} {p : Addr} {ws vs : List V} (I : Inv X pins σ H s) (hw : H p = some (.lst ws)) (h : SqT X.K H p vs) : False := by
  rcases h with (z | ⟨o, z⟩) | ⟨o, its, n, hk, hc, _⟩
  · rw [hw] at z; cases z
  · rw [hw] at z; cases z
  · obtain ⟨_, its', n', _, e⟩ := I.hok _ _ hw
    have := I.kIn _ _ hk
    rw [e] at this
    cases this
    exact absurd hc (by simp)
theorem d_tuple : CallR X (.type "tuple") (rA X.K oTuple) := by
  intro pins s σ H xs us Q I r hr
  obtain ⟨μ, S, ds, ok, rd, hp⟩ := hr
  unfold oTuple at hp
  split at hp
  · rename_i x
    obtain ⟨v, rfl, rx⟩ := rd.one
    cases q : itemsOf S x with
    | none => rw [q] at hp; exact hp.elim
    | some ys =>
      rw [q] at hp
      simp only at hp
      cases rx with
      | @tup p vs zs hs l rr =>
        cases q
        exact call_tuple_of pins s σ H _ us Q I r ⟨p, vs, rfl, .inr ⟨hs, hp.same ok (.tup hs l rr)⟩⟩
      | @rol p vs zs hs l rr =>
        cases q
        exact call_tuple_of pins s σ H _ us Q I r ⟨p, vs, rfl, .inl ⟨hs.sq, hp.tup ok l rr⟩⟩
      | @loc l p hl =>
        obtain ⟨p', vs, e1, hs', hz, rr⟩ := itemsOf_ok ok (R.loc hl) q
        cases e1
        rcases hs' with hs' | hs'
        · exact call_tuple_of pins s σ H _ us Q I r ⟨p, vs, rfl, .inl ⟨hs', hp.tup ok hz rr⟩⟩
        · obtain ⟨ws, hw⟩ := ok.lst (List.mem_of_getElem? hl)
          exact (loc_notT I hw hs').elim
      | _ => cases q
  · exact hp.elim
theorem d_list : CallR X (.type "list") (rA X.K oList) := by
  intro pins s σ H xs us Q I r hr
  obtain ⟨μ, S, ds, ok, rd, hp⟩ := hr
  unfold oList at hp
  split at hp
  · rename_i x
    obtain ⟨v, rfl, rx⟩ := rd.one
    cases q : itemsOf S x with
    | none => rw [q] at hp; exact hp.elim
    | some ys =>
      rw [q] at hp
      simp only at hp
      obtain ⟨p, vs, rfl, hs, hl, rr⟩ := itemsOf_ok ok rx q
      exact call_list_of pins s σ H _ us Q I r ⟨p, vs, rfl, hs, hp.lst ok hl rr⟩
  · exact hp.elim
/-- sum of ints, any and all of bools -/
def intsOf : List D → Option (List Int)
  | [] => some []
  | .int i :: r => (intsOf r).map (i :: ·)
  | _ :: _ => none
def bolsOf : List D → Option (List Bool)
  | [] => some []
  | .bl i :: r => (bolsOf r).map (i :: ·)
  | _ :: _ => none
theorem intsOf_eq : ∀ {xs : List D} {ns : List Int}, intsOf xs = some ns → xs = ns.map D.int
  | [], ns, h => by cases h; rfl
  | .int i :: r, ns, h => by
    rw [intsOf] at h
    cases q : intsOf r with
    | none => rw [q] at h; cases h
    | some ms => rw [q] at h; cases h; rw [intsOf_eq q]; rfl
  | .non :: _, _, h => by simp [intsOf] at h
  | .bl _ :: _, _, h => by simp [intsOf] at h
  | .str _ :: _, _, h => by simp [intsOf] at h
  | .tup _ :: _, _, h => by simp [intsOf] at h
  | .rol _ :: _, _, h => by simp [intsOf] at h
  | .loc _ :: _, _, h => by simp [intsOf] at h
theorem intsOf_map : ∀ ns : List Int, intsOf (ns.map D.int) = some ns
  | [] => rfl
  | n :: r => by rw [List.map_cons, intsOf, intsOf_map r]; rfl
theorem bolsOf_map : ∀ ns : List Bool, bolsOf (ns.map D.bl) = some ns
  | [] => rfl
  | n :: r => by rw [List.map_cons, bolsOf, bolsOf_map r]; rfl
theorem bolsOf_eq : ∀ {xs : List D} {ns : List Bool}, bolsOf xs = some ns → xs = ns.map D.bl
  | [], ns, h => by cases h; rfl
  | .bl i :: r, ns, h => by
    rw [bolsOf] at h
    cases q : bolsOf r with
    | none => rw [q] at h; cases h
    | some ms => rw [q] at h; cases h; rw [bolsOf_eq q]; rfl
  | .non :: _, _, h => by simp [bolsOf] at h
  | .int _ :: _, _, h => by simp [bolsOf] at h
  | .str _ :: _, _, h => by simp [bolsOf] at h
  | .tup _ :: _, _, h => by simp [bolsOf] at h
  | .rol _ :: _, _, h => by simp [bolsOf] at h
  | .loc _ :: _, _, h => by simp [bolsOf] at h
theorem RL.bolsV {μ : List Addr} {H : Hp} : ∀ {ns : List Bool} {vs : List V}, RL K μ H (ns.map D.bl) vs → vs = ns.map V.bl
  | [], _, .nil => rfl
  | n :: r, _, .cons h t => by
    cases h
    rw [RL.bolsV t]; rfl
/-- a list (no tuple) -/
def listOf (S : Store) : D → Option (List D)
  | .rol xs => some xs
  | .loc l => match S[l]? with
    | some (.lst xs) => some xs
    | none => none
  | _ => none
theorem listOf_ok {μ : List Addr} {H : Hp} {S : Store} (ok : Ok K μ H S) {x : D} {v : V} {xs : List D} (r : R K μ H x v) (h : listOf S x = some xs) : ∃ p vs, v = .ref p ∧ SqL K H p vs ∧ vs.length ≤ sizeLine ∧ RL K μ H xs vs := by
  cases r with
  | @rol p vs ys hs l rr => cases h; exact ⟨p, vs, rfl, hs.sq, l, rr⟩
  | @loc l p hp =>
    simp only [listOf] at h
    cases q : S[l]? with
    | none => rw [q] at h; cases h
    | some c =>
      rw [q] at h
      obtain ⟨p', h1, hc⟩ := ok.at q
      rw [hp] at h1; cases h1
      cases c with
      | lst ys =>
        cases h
        obtain ⟨vs, hv, l, rr⟩ := hc
        exact ⟨p, vs, rfl, .inl (.inl hv), l, rr⟩
  | _ => cases h
def oSum : OA := fun xs S => match xs with
  | [x] => match (listOf S x).bind intsOf with
    | some ns => some (.int ns.sum, S)
    | none => none
  | _ => none
def oAny : OA := fun xs S => match xs with
  | [x] => match (listOf S x).bind bolsOf with
    | some ns => some (.bl (ns.any id), S)
    | none => none
  | _ => none
def oAll : OA := fun xs S => match xs with
  | [x] => match (listOf S x).bind bolsOf with
    | some ns => some (.bl (ns.all id), S)
    | none => none
  | _ => none
theorem listInts {μ : List Addr} {H : Hp} {S : Store} (ok : Ok K μ H S) {x : D} {v : V} {ns : List Int} (r : R K μ H x v) (h : (listOf S x).bind intsOf = some ns) : ∃ p, v = .ref p ∧ SqL K H p (ns.map V.int) := by
  cases q : listOf S x with
  | none => rw [q] at h; cases h
  | some ys =>
    rw [q] at h
    obtain ⟨p, vs, rfl, hs, hl, rr⟩ := listOf_ok ok r q
    have e := intsOf_eq (show intsOf ys = some ns from h)
    subst e
    rw [rr.intsV] at hs
    exact ⟨p, rfl, hs⟩
theorem listBols {μ : List Addr} {H : Hp} {S : Store} (ok : Ok K μ H S) {x : D} {v : V} {ns : List Bool} (r : R K μ H x v) (h : (listOf S x).bind bolsOf = some ns) : ∃ p, v = .ref p ∧ SqL K H p (ns.map V.bl) := by
  cases q : listOf S x with
  | none => rw [q] at h; cases h
  | some ys =>
    rw [q] at h
    obtain ⟨p, vs, rfl, hs, hl, rr⟩ := listOf_ok ok r q
    have e := bolsOf_eq (show bolsOf ys = some ns from h)
    subst e
    rw [rr.bolsV] at hs
    exact ⟨p, rfl, hs⟩
theorem d_sum (hc : X.calm = true) : CallR X (.builtin "sum") (rA X.K oSum) := by
  intro pins s σ H xs us Q I r hr
  obtain ⟨μ, S, ds, ok, rd, hp⟩ := hr
  unfold oSum at hp
  split at hp
  · obtain ⟨v, rfl, rx⟩ := rd.one
    split at hp
    · rename_i ns q
      obtain ⟨p, rfl, hs⟩ := listInts ok rx q
      exact cr_sum hc pins s σ H _ us Q I r ⟨p, ns, rfl, hs, hp.same ok (.int _)⟩
    · exact hp.elim
  · exact hp.elim
theorem d_any (hc : X.calm = true) : CallR X (.builtin "any") (rA X.K oAny) := by
  intro pins s σ H xs us Q I r hr
  obtain ⟨μ, S, ds, ok, rd, hp⟩ := hr
  unfold oAny at hp
  split at hp
  · obtain ⟨v, rfl, rx⟩ := rd.one
    split at hp
    · rename_i ns q
      obtain ⟨p, rfl, hs⟩ := listBols ok rx q
      exact cr_any hc pins s σ H _ us Q I r ⟨p, ns, rfl, hs, hp.same ok (.bl _)⟩
    · exact hp.elim
  · exact hp.elim
theorem d_all (hc : X.calm = true) : CallR X (.builtin "all") (rA X.K oAll) := by
  intro pins s σ H xs us Q I r hr
  obtain ⟨μ, S, ds, ok, rd, hp⟩ := hr
  unfold oAll at hp
  split at hp
  · obtain ⟨v, rfl, rx⟩ := rd.one
    split at hp
    · rename_i ns q
      obtain ⟨p, rfl, hs⟩ := listBols ok rx q
      exact cr_all hc pins s σ H _ us Q I r ⟨p, ns, rfl, hs, hp.same ok (.bl _)⟩
    · exact hp.elim
  · exact hp.elim
/-! ### sorted -/
def okSort (xs : List D) : Prop := D.fitsL xs = true ∧ D.depL xs ≤ 60 ∧ (∀ x ∈ xs, ∀ y ∈ xs, PySem.W.alike x.py y.py = true) ∧ PySem.W.Sortable (xs.map D.py)
noncomputable def sortD (xs : List D) : List D := xs.mergeSort (PySem.W.dataLe false D.py)
open Classical in
noncomputable def oSorted : OA := fun xs S => match xs with
  | [x] => match listOf S x with
    | some ys => if okSort ys then some (.loc S.length, S ++ [.lst (sortD ys)]) else none
    | none => none
  | _ => none
theorem each_of {pins : List (Addr × Obj)} {s : Shared} {σ : L2.St} {H : Hp} {μ : List Addr} (I : Inv X pins σ H s) : ∀ {xs : List D} {vs : List V} {us : List Value}, RL X.K μ H xs vs → Vals vs us → D.fitsL xs = true →
    PySem.W.EachIs (fun (u : Value) (d : D) => ∃ v, RelV v u ∧ R X.K μ H d v) us xs ∧ PySem.W.EachIs (fun (u : Value) (d : D) => ∃ as, Reads s.heap u d.py as) us xs
  | _, _, _, .nil, .nil, _ => ⟨.nil, .nil⟩
  | _, _, _, .cons r t, .cons q qs, f => by
    rw [D.fitsL, Bool.and_eq_true] at f
    obtain ⟨h1, h2⟩ := each_of I t qs f.2
    exact ⟨.cons ⟨_, q, r⟩ h1, .cons (r.reads I f.1 q) h2⟩
theorem of_each {H : Hp} {μ : List Addr} : ∀ {xs : List D} {us : List Value}, PySem.W.EachIs (fun (u : Value) (d : D) => ∃ v, RelV v u ∧ R X.K μ H d v) us xs → ∃ vs, RL X.K μ H xs vs ∧ Vals vs us
  | _, _, .nil => ⟨[], .nil, .nil⟩
  | _, _, .cons ⟨v, r, q⟩ t => by
    obtain ⟨vs, h1, h2⟩ := of_each t
    exact ⟨v :: vs, .cons q h1, .cons r h2⟩
theorem depL_mem {xs : List D} {x : D} (h : x ∈ xs) : x.dep ≤ D.depL xs := by
  obtain ⟨j, hj, e⟩ := List.getElem_of_mem h
  exact depL_get (j := j) (by rw [List.getElem?_eq_getElem hj, e])
theorem fitsL_mem {xs : List D} {x : D} (f : D.fitsL xs = true) (h : x ∈ xs) : x.fits = true := by
  obtain ⟨j, hj, e⟩ := List.getElem_of_mem h
  exact fitsL_get (j := j) f (by rw [List.getElem?_eq_getElem hj, e])
theorem d_sorted (hu : X.A.units + 64 < cLine) : CallR X (.builtin "sorted") (rA X.K oSorted) := by
  intro pins s σ H xs us Q I r hr
  obtain ⟨μ, S, ds, ok, rd, hp⟩ := hr
  unfold oSorted at hp
  split at hp
  · rename_i x
    obtain ⟨v, rfl, rx⟩ := rd.one
    cases q : listOf S x with
    | none => rw [q] at hp; exact hp.elim
    | some ys =>
      rw [q] at hp
      simp only at hp
      split at hp
      · rename_i hk
        obtain ⟨hf, hd, hal, hso⟩ := hk
        obtain ⟨p, vs, rfl, hs, hl, rr⟩ := listOf_ok ok rx q
        obtain ⟨u, rfl, ru⟩ := vals1 r
        cases ru
        obtain ⟨its, rv, pl, _⟩ := I.list hs
        obtain ⟨e1, e2⟩ := each_of I rr rv hf
        refine PySem.W.sorted_data (enc := D.py) (bs := ys) pl.isList e1 e2 (fun d h1 d' h2 => ?_) hso (by rw [rr.length]; exact hl) (fun b hb => ?_) fun out ho hout => ?_
        · obtain ⟨x, hx, rfl⟩ := List.mem_map.mp h1
          obtain ⟨y, hy, rfl⟩ := List.mem_map.mp h2
          exact hal x hx y hy
        · rw [D.depth b (fitsL_mem hf hb)]
          have := depL_mem hb
          omega
        · obtain ⟨ws, h1, h2⟩ := of_each hout
          obtain ⟨n, hn⟩ := sortedAll_at s.heap its out.toArray
          have hfr : H (s.heap.objs.size + 1) = none := I.hok.fresh (Nat.le_succ _)
          have hlen : ws.length ≤ sizeLine := by
            rw [← h1.length, List.length_mergeSort, rr.length]
            exact hl
          exact ⟨.ref (s.heap.objs.size + 1), _, I.laid (t' := s.toks) (fun _ _ => sortedAll_old) (Nat.le_succ _) (show ObjOk X.prog X.w _ _ _ (.lst ws) from ⟨hlen, out, n, h2, hn⟩), rfl, PV.lst hp ok hlen h1 _ hfr⟩
      · exact hp.elim
  · exact hp.elim
/-! ### isinstance with a built-in type -/
def tyName : D → String
  | .non => "NoneType"
  | .bl _ => "bool"
  | .int _ => "int"
  | .str _ => "str"
  | .tup _ => "tuple"
  | .rol _ => "list"
  | .loc _ => "list"
theorem ty_of {H : Hp} {μ : List Addr} {S : Store} (ok : Ok X.K μ H S) {x : D} {v : V} (r : R X.K μ H x v) : TyX X.K H v (.type (tyName x)) := by
  cases r with
  | non => exact .base .non
  | bl b => exact .base (.bl b)
  | int i => exact .base (.int i)
  | str z => exact .base (.str z)
  | @tup p vs xs hs l rr =>
    rcases hs with (h | ⟨o, h⟩) | ⟨o, its, n, hk, hc, _⟩
    · exact .base (.tup h)
    · exact .fTuple h
    · exact .kTuple hk hc
  | @rol p vs xs hs l rr =>
    rcases hs with ⟨o, h⟩ | ⟨o, its, n, hk, hc, _⟩
    · exact .base (.frz h)
    · exact .kList hk hc
  | @loc l p hl =>
    obtain ⟨ws, hw⟩ := ok.lst (List.mem_of_getElem? hl)
    exact .base (.lst hw)
def cIsi (T : String) (f : DE) : DE := fun σ S => (f σ S).bind fun x S1 => match kitB (tyName x) T with
  | some b => .ok (.bl b) S1
  | none => .no
theorem e_isi {T : Str} {n : String} {p p2 : Pos} (hm : X.mg "isinstance" = none) (hm2 : X.mg T = none) (hv : bootBuiltins T = some (.type n)) (ha : PE X e (tE X.K X.mg W f)) (hg : Gl X "isinstance" := by rfl) (hg2 : Gl X T := by rfl) (hn : T ≠ "__name__" := by decide) (hdb : (T == ("__debug__" : Str)) = false := by decide)
    (he : starEach [e, .Name T p2] X.env = (false, eval e X.env) :: starEach [.Name T p2] X.env := by rfl) (he2 : starEach [.Name T p2] X.env = (false, eval (.Name T p2) X.env) :: starEach [] X.env := by rfl) (hpl : (backTo pos (starEach [.Name T p2] X.env)).any (·.1) = false := by rfl) :
    PE X (.Call (.Name "isinstance" p) [e, .Name T p2] [] pos) (tE X.K X.mg W (cIsi n f)) := by
  refine PE.weak (pe_callB (pos := pos) (p := p) call_isi hg hm (by decide +kernel) (pa_cons ha (pa_cons (pe_bltn (v := .ty n) hg2 hm2 hv rfl hn hdb) pa_nil he2) he) (by decide) (by decide) he hpl) fun σ H Q hh => ?_
  refine tG1 (RA := R X.K) hh fun x S μ H v ok rx hh => ?_
  cases q : kitB (tyName x) n with
  | none => rw [q] at hh; exact hh.elim
  | some b =>
    rw [q] at hh
    exact ⟨v, .ty n, _, _, b, rfl, .ty n, ty_of ok rx, kit_ty q, hh μ H _ (Ext.refl _ _) ok (.bl _)⟩
end
end DL

namespace DL
open PySem PySem.Spec PyProof.Rows L2
/-! ### methods of a list -/
def isL : D → Bool
  | .rol _ => true
  | .loc _ => true
  | _ => false
abbrev OM := D → List D → Store → Option (D × Store)
def cMeth (isT : D → Bool) (k : OM) (f : DE) (a : DA) : DE := fun σ S => (f σ S).bind fun x S1 => if isT x = true then (a σ S1).bind fun xs S2 => Res.of (k x xs S2) else .no
def rM (K : PySem.W.Frag) (k : OM) : V → List V → Hp → VK → Prop := fun v vs H Q => ∃ μ S x xs, Ok K μ H S ∧ R K μ H x v ∧ RL K μ H xs vs ∧ PV K (R K) μ H (k x xs S) Q
/-- a list of the store that is changed -/
def upL (l : Nat) (S : Store) (ys : List D) : Option (D × Store) := if ys.length ≤ sizeLine then some (.non, S.set l (.lst ys)) else none
def mAppend : OM := fun x xs S => match x, xs with
  | .loc l, [d] => match S[l]? with
    | some (.lst ys) => upL l S (ys ++ [d])
    | none => none
  | _, _ => none
def mExtend : OM := fun x xs S => match x, xs with
  | .loc l, [.loc m] => match S[l]?, S[m]? with
    | some (.lst ys), some (.lst zs) => upL l S (ys ++ zs)
    | _, _ => none
  | _, _ => none
def mPop : OM := fun x xs S => match x, xs with
  | .loc l, [] => match S[l]? with
    | some (.lst ys) => match ys[ys.length - 1]? with
      | some d => some (d, S.set l (.lst ys.dropLast))
      | none => none
    | none => none
  | .loc l, [.int i] => match S[l]? with
    | some (.lst ys) => match ixN ys.length i with
      | some k => match ys[k]? with
        | some d => some (d, S.set l (.lst (ys.eraseIdx k)))
        | none => none
      | none => none
    | none => none
  | _, _ => none
def mReverse : OM := fun x xs S => match x, xs with
  | .loc l, [] => match S[l]? with
    | some (.lst ys) => some (.non, S.set l (.lst ys.reverse))
    | none => none
  | _, _ => none
section
variable {X : Cx} {W : WX} {pos : Pos} {a b c e o : Expr} {es : List Expr} {f g h : DE} {fa : DA} {K : PySem.W.Frag} {mg : Str → Option Value}
theorem tyL {H : Hp} {μ : List Addr} {S : Store} (ok : Ok K μ H S) {x : D} {v : V} (r : R K μ H x v) (h : isL x = true) : tyV K "list" v H := by
  cases r with
  | @rol p vs xs hs l rr => exact .inl ⟨rfl, vs, hs.sq⟩
  | @loc l p hl =>
    obtain ⟨ws, hw⟩ := ok.lst (List.mem_of_getElem? hl)
    exact .inl ⟨rfl, ws, .inl (.inl hw)⟩
  | _ => cases h
def isS : D → Bool
  | .str _ => true
  | _ => false
theorem tyS {H : Hp} {μ : List Addr} {S : Store} (ok : Ok K μ H S) {x : D} {v : V} (r : R K μ H x v) (h : isS x = true) : tyV K "str" v H := by
  cases r with
  | str z => rfl
  | _ => cases h
theorem tE_meth {T : String} {isT : D → Bool} {k : OM} (hT : ∀ {H : Hp} {μ : List Addr} {S : Store}, Ok K μ H S → ∀ {x : D} {v : V}, R K μ H x v → isT x = true → tyV K T v H) {σ : L2.St} {H : Hp} {Q : VK} (hh : tE K mg W (cMeth isT k f fa) σ H Q) :
    tBM K T (rM K k) (tE K mg W f) (tA K mg W fa) σ H Q := by
  refine tG1e (k := fun σ x S1 => if isT x = true then (fa σ S1).bind fun xs S2 => Res.of (k x xs S2) else .no) (RA := R K) hh fun σD x S μ H v ok en rx hh => ?_
  split at hh
  · rename_i ht
    exact ⟨hT ok rx ht, μ, σD, S, ok, en, Post.bind hh fun xs S2 μ2 H2 vs x2 ok2 rxs hh => ⟨μ2, S2, x, xs, ok2, rx.mono x2, rxs, hh.of⟩⟩
  · exact hh.elim
theorem tE_meth0 {T : String} {isT : D → Bool} {k : OM} (hT : ∀ {H : Hp} {μ : List Addr} {S : Store}, Ok K μ H S → ∀ {x : D} {v : V}, R K μ H x v → isT x = true → tyV K T v H) {σ : L2.St} {H : Hp} {Q : VK} (hh : tE K mg W (cMeth isT k f aNil) σ H Q) :
    tBM0 K T (rM K k) (tE K mg W f) σ H Q := by
  refine tG1e (k := fun σ x S1 => if isT x = true then (aNil σ S1).bind fun xs S2 => Res.of (k x xs S2) else .no) (RA := R K) hh fun σD x S μ H v ok en rx hh => ?_
  split at hh
  · rename_i ht
    exact ⟨hT ok rx ht, μ, S, x, [], ok, rx, .nil, hh.of⟩
  · exact hh.elim
theorem upL_ok {μ : List Addr} {H : Hp} {S : Store} (ok : Ok K μ H S) {l : Nat} {p : Addr} (hl : μ[l]? = some p) {ys : List D} {ws : List V} (rr : RL K μ H ys ws) {Q : VK} (hp : PV K (R K) μ H (upL l S ys) Q) : ws.length ≤ sizeLine ∧ Q .non (upd H p (.lst ws)) := by
  unfold upL at hp
  split at hp
  · rename_i hz
    rw [rr.length] at hz
    obtain ⟨x1, ok1⟩ := ok.set hl hz rr
    exact ⟨hz, hp μ _ _ x1 ok1 .non⟩
  · exact hp.elim
theorem loc_at {μ : List Addr} {H : Hp} {S : Store} (ok : Ok K μ H S) {l : Nat} {v : V} (r : R K μ H (.loc l) v) {ys : List D} (q : S[l]? = some (.lst ys)) : ∃ p vs, v = .ref p ∧ μ[l]? = some p ∧ H p = some (.lst vs) ∧ vs.length ≤ sizeLine ∧ RL K μ H ys vs := by
  cases r with
  | @loc _ p hl =>
    obtain ⟨p', h1, hc⟩ := ok.at q
    rw [hl] at h1; cases h1
    obtain ⟨vs, hv, l, rr⟩ := hc
    exact ⟨p, vs, rfl, hl, hv, l, rr⟩
theorem d_append : MtR X "list.append" (rM X.K mAppend) := by
  intro pins s σ H x xs v us Q I rx rs hr
  obtain ⟨μ, S, d, ds, ok, rd, rds, hp⟩ := hr
  unfold mAppend at hp
  split at hp
  · split at hp
    · rename_i l y ys q
      obtain ⟨p, vs, rfl, hl, hv, hz, rr⟩ := loc_at ok rd q
      obtain ⟨w, rfl, rw'⟩ := rds.one
      obtain ⟨hz', hq⟩ := upL_ok ok hl (rr.append (.cons rw' .nil)) hp
      rw [List.length_append] at hz'
      exact mt_append pins s σ H _ _ v us Q I rx rs ⟨p, vs, w, rfl, rfl, hv, Nat.lt_of_lt_of_le (Nat.lt_succ_self _) hz', hq⟩
    · exact hp.elim
  · exact hp.elim
theorem d_extend : MtR X "list.extend" (rM X.K mExtend) := by
  intro pins s σ H x xs v us Q I rx rs hr
  obtain ⟨μ, S, d, ds, ok, rd, rds, hp⟩ := hr
  unfold mExtend at hp
  split at hp
  · split at hp
    · rename_i l m ys zs q1 q2
      obtain ⟨p, vs, rfl, hl, hv, hz, rr⟩ := loc_at ok rd q1
      obtain ⟨w, rfl, rw'⟩ := rds.one
      obtain ⟨p2, ws, rfl, hl2, hv2, hz2, rr2⟩ := loc_at ok rw' q2
      obtain ⟨hz', hq⟩ := upL_ok ok hl (rr.append rr2) hp
      rw [List.length_append] at hz'
      exact mt_extend pins s σ H _ _ v us Q I rx rs ⟨p, p2, vs, ws, rfl, rfl, hv, hv2, hz', hq⟩
    · exact hp.elim
  · exact hp.elim
theorem d_pop : MtR X "list.pop" (rM X.K mPop) := by
  intro pins s σ H x xs v us Q I rx rs hr
  obtain ⟨μ, S, d, ds, ok, rd, rds, hp⟩ := hr
  unfold mPop at hp
  split at hp
  · split at hp
    · rename_i l ys q
      split at hp
      · rename_i d' qd
        obtain ⟨p, vs, rfl, hl, hv, hz, rr⟩ := loc_at ok rd q
        cases rds
        obtain ⟨w, hw, rw'⟩ := rr.get qd
        obtain ⟨x1, ok1⟩ := ok.set hl (vs := vs.dropLast) (by rw [List.length_dropLast]; omega) rr.dropLast
        exact mt_pop pins s σ H _ _ v us Q I rx rs ⟨p, vs, w, rfl, rfl, hv, by rw [← rr.length]; exact hw, hp μ _ _ x1 ok1 (rw'.mono x1)⟩
      · exact hp.elim
    · exact hp.elim
  · split at hp
    · rename_i l i _ ys q
      split at hp
      · rename_i k qk
        split at hp
        · rename_i d' qd
          obtain ⟨p, vs, rfl, hl, hv, hz, rr⟩ := loc_at ok rd q
          obtain ⟨w0, rfl, rw0⟩ := rds.one
          cases rw0
          obtain ⟨w, hw, rw'⟩ := rr.get qd
          obtain ⟨h1, h2, h3, h4⟩ := ixN_seq qk
          rw [rr.length] at h1 h2 h3 h4
          obtain ⟨x1, ok1⟩ := ok.set hl (vs := vs.eraseIdx k) (Nat.le_trans (len_erase _ _) hz) (rr.eraseIdx k)
          have hs := sizeLine_eq
          exact mt_popAt pins s σ H _ _ v us Q I rx rs ⟨p, vs, i, k, w, rfl, rfl, hv, by omega, by omega, h1, hw, hp μ _ _ x1 ok1 (rw'.mono x1)⟩
        · exact hp.elim
      · exact hp.elim
    · exact hp.elim
  · exact hp.elim
theorem d_reverse : MtR X "list.reverse" (rM X.K mReverse) := by
  intro pins s σ H x xs v us Q I rx rs hr
  obtain ⟨μ, S, d, ds, ok, rd, rds, hp⟩ := hr
  unfold mReverse at hp
  split at hp
  · split at hp
    · rename_i l ys q
      obtain ⟨p, vs, rfl, hl, hv, hz, rr⟩ := loc_at ok rd q
      cases rds
      obtain ⟨x1, ok1⟩ := ok.set hl (vs := vs.reverse) (by rw [List.length_reverse]; exact hz) rr.reverse
      exact mt_reverse pins s σ H _ _ v us Q I rx rs ⟨p, vs, rfl, rfl, hv, hp μ _ _ x1 ok1 .non⟩
    · exact hp.elim
  · exact hp.elim
theorem e_append (ho : PE X o (tE X.K X.mg W f)) (ha : PA X (e :: es) (tA X.K X.mg W fa)) {apos : Pos} (hbase : attributeBase o "append" X.env (eval o X.env) = eval o X.env := by rfl)
    (hfew : ((backTo pos (starEach (e :: es) X.env)).all (fun x => !x.1) && (backToKw pos (keywordEach [] X.env)).all (fun x => x.1.isSome) && decide ((e :: es).length + ([] : List Keyword).length + (if ([] : List Keyword).isEmpty then 0 else 1) < 30)) = true := by rfl)
    (hline : (apos.endLine == pos.line) = true := by rfl) (hs : starEach (e :: es) X.env = (false, eval e X.env) :: starEach es X.env := by rfl) (hplain : (backTo pos (starEach es X.env)).any (·.1) = false := by rfl) :
    PE X (.Call (.Attribute o "append" apos) (e :: es) [] pos) (tE X.K X.mg W (cMeth isL mAppend f fa)) :=
  PE.weak (pe_bm PySem.F.plainAttrs_list PySem.F.slot_list_append PySem.F.type_list_append d_append ho ha hbase hfew hline hs hplain) fun _ _ _ => tE_meth tyL
theorem e_extend (ho : PE X o (tE X.K X.mg W f)) (ha : PA X (e :: es) (tA X.K X.mg W fa)) {apos : Pos} (hbase : attributeBase o "extend" X.env (eval o X.env) = eval o X.env := by rfl)
    (hfew : ((backTo pos (starEach (e :: es) X.env)).all (fun x => !x.1) && (backToKw pos (keywordEach [] X.env)).all (fun x => x.1.isSome) && decide ((e :: es).length + ([] : List Keyword).length + (if ([] : List Keyword).isEmpty then 0 else 1) < 30)) = true := by rfl)
    (hline : (apos.endLine == pos.line) = true := by rfl) (hs : starEach (e :: es) X.env = (false, eval e X.env) :: starEach es X.env := by rfl) (hplain : (backTo pos (starEach es X.env)).any (·.1) = false := by rfl) :
    PE X (.Call (.Attribute o "extend" apos) (e :: es) [] pos) (tE X.K X.mg W (cMeth isL mExtend f fa)) :=
  PE.weak (pe_bm PySem.F.plainAttrs_list PySem.F.slot_list_extend PySem.F.type_list_extend d_extend ho ha hbase hfew hline hs hplain) fun _ _ _ => tE_meth tyL
theorem e_popAt (ho : PE X o (tE X.K X.mg W f)) (ha : PA X (e :: es) (tA X.K X.mg W fa)) {apos : Pos} (hbase : attributeBase o "pop" X.env (eval o X.env) = eval o X.env := by rfl)
    (hfew : ((backTo pos (starEach (e :: es) X.env)).all (fun x => !x.1) && (backToKw pos (keywordEach [] X.env)).all (fun x => x.1.isSome) && decide ((e :: es).length + ([] : List Keyword).length + (if ([] : List Keyword).isEmpty then 0 else 1) < 30)) = true := by rfl)
    (hline : (apos.endLine == pos.line) = true := by rfl) (hs : starEach (e :: es) X.env = (false, eval e X.env) :: starEach es X.env := by rfl) (hplain : (backTo pos (starEach es X.env)).any (·.1) = false := by rfl) :
    PE X (.Call (.Attribute o "pop" apos) (e :: es) [] pos) (tE X.K X.mg W (cMeth isL mPop f fa)) :=
  PE.weak (pe_bm PySem.F.plainAttrs_list PySem.F.slot_list_pop PySem.F.type_list_pop d_pop ho ha hbase hfew hline hs hplain) fun _ _ _ => tE_meth tyL
theorem e_pop (ho : PE X o (tE X.K X.mg W f)) {apos : Pos} (hbase : attributeBase o "pop" X.env (eval o X.env) = eval o X.env := by rfl) (hline : (apos.endLine == pos.line) = true := by rfl) :
    PE X (.Call (.Attribute o "pop" apos) [] [] pos) (tE X.K X.mg W (cMeth isL mPop f aNil)) :=
  PE.weak (pe_bm0 PySem.F.plainAttrs_list PySem.F.slot_list_pop PySem.F.type_list_pop d_pop ho hbase hline) fun _ _ _ => tE_meth0 tyL
theorem e_reverse (ho : PE X o (tE X.K X.mg W f)) {apos : Pos} (hbase : attributeBase o "reverse" X.env (eval o X.env) = eval o X.env := by rfl) (hline : (apos.endLine == pos.line) = true := by rfl) :
    PE X (.Call (.Attribute o "reverse" apos) [] [] pos) (tE X.K X.mg W (cMeth isL mReverse f aNil)) :=
  PE.weak (pe_bm0 PySem.F.plainAttrs_list PySem.F.slot_list_reverse PySem.F.type_list_reverse d_reverse ho hbase hline) fun _ _ _ => tE_meth0 tyL
end

/-! ### statements -/
def sNil : DS := fun σ S => .nx σ S
def sSeq (f g : DS) : DS := fun σ S => match f σ S with
  | .nx σ' S' => g σ' S'
  | r => r
def SR.ofE (σ : Sg) (r : Res D) (k : D → Store → SR) : SR := match r with
  | .ok d S => k d S
  | .ex e S => .ex e σ S
  | .no => .no
def sExpr (f : DE) : DS := fun σ S => SR.ofE σ (f σ S) fun _ S1 => .nx σ S1
def sRet (f : DE) : DS := fun σ S => SR.ofE σ (f σ S) fun d S1 => .rt d S1
def sRetN : DS := fun _ S => .rt .non S
def sBreak : DS := fun σ S => .bk σ S
def sCont : DS := fun σ S => .ct σ S
def SR.ofT (σ : Sg) (r : Res Bool) (k : Bool → Store → SR) : SR := match r with
  | .ok d S => k d S
  | .ex e S => .ex e σ S
  | .no => .no
def sIf (t : DT) (f g : DS) : DS := fun σ S => SR.ofT σ (t σ S) fun b S1 => if b = true then f σ S1 else g σ S1
/-- a target: the value, the slots, the store -/
abbrev DG := D → Sg → Store → SR
def gSet (i : Nat) : DG := fun d σ S => .nx (σ.set i (some d)) S
abbrev DGs := List D → Sg → Store → SR
def gN : DGs := fun ds σ S => match ds with
  | [] => .nx σ S
  | _ :: _ => .no
def gC (g : DG) (gs : DGs) : DGs := fun ds σ S => match ds with
  | [] => .no
  | d :: r => match g d σ S with
    | .nx σ' S' => gs r σ' S'
    | .ex e σ' S' => .ex e σ' S'
    | _ => .no
def gUn (n : Nat) (gs : DGs) : DG := fun d σ S => match itemsOf S d with
  | some xs => if xs.length = n then gs xs σ S else .no
  | none => .no
/-- o[i] = d -/
def oSet (o i d : D) (S : Store) : Option Store := match o, i with
  | .loc l, .int k => match S[l]? with
    | some (.lst ys) => match ixN ys.length k with
      | some j => some (S.set l (.lst (ys.set j d)))
      | none => none
    | none => none
  | _, _ => none
def gSubD (fo fi : DE) : DG := fun d σ S => SR.ofE σ (fo σ S) fun o S1 => SR.ofE σ (fi σ S1) fun i S2 => match oSet o i d S2 with
  | some S3 => .nx σ S3
  | none => .no
def sAsg (f : DE) (g : DG) : DS := fun σ S => SR.ofE σ (f σ S) fun d S1 => match g d σ S1 with
  | .nx σ' S' => .nx σ' S'
  | .ex e σ' S' => .ex e σ' S'
  | _ => .no
def sSet (i : Nat) (f : DE) : DS := fun σ S => SR.ofE σ (f σ S) fun d S1 => .nx (σ.set i (some d)) S1
/-- a, b = e1, e2 -/
def sPar (i j : Nat) (f g : DE) : DS := fun σ S => SR.ofE σ (f σ S) fun x S1 => SR.ofE σ (g σ S1) fun y S2 => .nx ((σ.set i (some x)).set j (some y)) S2
def sAug (i : Nat) (k : O2) (f : DE) : DS := fun σ S => match σ[i]? with
  | some (some x) => SR.ofE σ (f σ S) fun y S1 => match k x y S1 with
    | some (z, S2) => .nx (σ.set i (some z)) S2
    | none => .no
  | _ => .no
section
variable {X : Cx} {W : WX} {pos : Pos} {a b c e o : Expr} {es : List Expr} {f g h : DE} {t : DT} {fa : DA} {K : PySem.W.Frag} {mg : Str → Option Value} {st : Stmt} {rest : List Stmt} {fs gs : DS}
theorem ss_nil : PSs X [] (tS X.K X.mg W sNil) := PSs.weak pss_nil fun D σ H hh => by
  obtain ⟨μ, σD, S, ok, en, hh⟩ := hh
  exact hh μ H σ (Ext.refl _ _) ok en
theorem SPost.seq {μ : List Addr} {H : Hp} {r : SR} {k : Sg → Store → SR} {Dn : Ends} {nx : L2.St → Hp → Prop} (hh : SPost K mg W μ H (match r with | .nx σ' S' => k σ' S' | r => r) Dn)
    (hk : ∀ σ S μ' H' σV', Ext μ H μ' H' → Ok K μ' H' S → EnvR K μ' H' σ σV' → SPost K mg W μ' H' (k σ S) Dn → nx σV' H') : SPost K mg W μ H r { Dn with nx := nx } := by
  cases r with
  | nx σ S => exact fun μ' H' σV' x ok en => hk σ S μ' H' σV' x ok en (SPost.mono x hh)
  | rt d S => exact hh
  | bk σ S => exact hh
  | ct σ S => exact hh
  | ex e σ S => exact hh
  | no => exact hh
theorem ss_cons (h1 : PS X st (tS X.K X.mg W fs)) (h2 : PSs X rest (tS X.K X.mg W gs)) : PSs X (st :: rest) (tS X.K X.mg W (sSeq fs gs)) := PSs.weak (pss_cons h1 h2) fun D σ H hh => by
  obtain ⟨μ, σD, S, ok, en, hh⟩ := hh
  exact ⟨μ, σD, S, ok, en, SPost.seq hh fun σ' S' μ' H' σV' x ok' en' hh' => ⟨μ', σ', S', ok', en', hh'⟩⟩
theorem ss_one (h1 : PS X st (tS X.K X.mg W fs)) : PSs X [st] (tS X.K X.mg W fs) := pss_one h1
/-- an expression first -/
theorem tS_E {σ : L2.St} {H : Hp} {k : Sg → D → Store → SR} {Dn : Ends} {Q : VK} (hh : tS K mg W (fun σ S => SR.ofE σ (f σ S) (k σ)) Dn σ H)
    (hk : ∀ σD d S μ' H' v, Ok K μ' H' S → EnvR K μ' H' σD σ → R K μ' H' d v → SPost K mg W μ' H' (k σD d S) Dn → Q v H') : tE K mg W f σ H Q := by
  obtain ⟨μ, σD, S, ok, en, hh⟩ := hh
  dsimp only at hh
  refine ⟨μ, σD, S, ok, en, ?_⟩
  cases q : f σD S with
  | ok d S1 =>
    rw [q] at hh
    exact fun μ' H' v x ok' r => hk σD d S1 μ' H' v ok' (en.mono x) r (SPost.mono x hh)
  | ex e S1 =>
    rw [q] at hh
    exact fun μ' H' cls dx x ok' r => hh μ' H' σ cls dx x ok' (en.mono x) r
  | no => rw [q] at hh; exact hh.elim
theorem tS_T {σ : L2.St} {H : Hp} {k : Sg → Bool → Store → SR} {Dn : Ends} {Q : Bool → Hp → Prop} (hh : tS K mg W (fun σ S => SR.ofT σ (t σ S) (k σ)) Dn σ H)
    (hk : ∀ σD d S μ' H', Ok K μ' H' S → EnvR K μ' H' σD σ → SPost K mg W μ' H' (k σD d S) Dn → Q d H') : tT K mg W t σ H Q := by
  obtain ⟨μ, σD, S, ok, en, hh⟩ := hh
  dsimp only at hh
  refine ⟨μ, σD, S, ok, en, ?_⟩
  cases q : t σD S with
  | ok d S1 =>
    rw [q] at hh
    exact fun μ' H' v x ok' r => by
      cases r
      exact hk σD d S1 μ' H' ok' (en.mono x) (SPost.mono x hh)
  | ex e S1 =>
    rw [q] at hh
    exact fun μ' H' cls dx x ok' r => hh μ' H' σ cls dx x ok' (en.mono x) r
  | no => rw [q] at hh; exact hh.elim
theorem s_expr (he : PE X e (tE X.K X.mg W f)) (hs : swapsWith e none pos.line X.env = pure false := by rfl) : PS X (.Expr e pos) (tS X.K X.mg W (sExpr f)) := PS.weak (ps_expr he hs) fun D σ H hh =>
  tS_E (k := fun σ _ S1 => .nx σ S1) hh fun σD d S μ' H' v ok en r hh => hh μ' H' σ (Ext.refl _ _) ok en
theorem s_doc {x j pos'} : PS X (.Expr (.Constant (.str x) j pos') pos) (tS X.K X.mg W sNil) := PS.weak ps_doc fun D σ H hh => by
  obtain ⟨μ, σD, S, ok, en, hh⟩ := hh
  exact hh μ H σ (Ext.refl _ _) ok en
theorem s_pass : PS X (.Pass pos) (tS X.K X.mg W sNil) := PS.weak ps_pass fun D σ H hh => by
  obtain ⟨μ, σD, S, ok, en, hh⟩ := hh
  exact hh μ H σ (Ext.refl _ _) ok en
theorem s_break : PS X (.Break pos) (tS X.K X.mg W sBreak) := PS.weak ps_break fun D σ H hh => by
  obtain ⟨μ, σD, S, ok, en, hh⟩ := hh
  exact hh μ H σ (Ext.refl _ _) ok en
theorem s_cont : PS X (.Continue pos) (tS X.K X.mg W sCont) := PS.weak ps_continue fun D σ H hh => by
  obtain ⟨μ, σD, S, ok, en, hh⟩ := hh
  exact hh μ H σ (Ext.refl _ _) ok en
theorem s_ret (he : PE X e (tE X.K X.mg W f)) : PS X (.Return (some e) pos) (tS X.K X.mg W (sRet f)) := PS.weak (ps_ret he) fun D σ H hh =>
  tS_E (k := fun σ d S1 => .rt d S1) hh fun σD d S μ' H' v ok en r hh => hh μ' H' v (Ext.refl _ _) ok r
theorem s_retN : PS X (.Return none pos) (tS X.K X.mg W sRetN) := PS.weak ps_retN fun D σ H hh => by
  obtain ⟨μ, σD, S, ok, en, hh⟩ := hh
  exact hh μ H .non (Ext.refl _ _) ok .non
theorem s_if {c : Expr} {p q : List Stmt} (hc : PT X c (tT X.K X.mg W t)) (ha : PSs X p (tS X.K X.mg W fs)) (hb : PSs X q (tS X.K X.mg W gs)) : PS X (.If c p q pos) (tS X.K X.mg W (sIf t fs gs)) := PS.weak (ps_if hc ha hb) fun D σ H hh =>
  tS_T (k := fun σ b S1 => if b = true then fs σ S1 else gs σ S1) hh fun σD d S μ' H' ok en hh => by
    cases d with
    | true => exact ⟨μ', σD, S, ok, en, hh⟩
    | false => exact ⟨μ', σD, S, ok, en, hh⟩
theorem s_set {i : Nat} {x : Str} {e : Expr} {pos' : Pos} (hN : X.N.Nodup) (he : PE X e (tE X.K X.mg W f)) (hi : X.N[i]? = some x := by rfl) (hx : Loc X.env.scope x := by first | exact .inl rfl | exact .inr rfl) (hs : swapsWith e (some (.Name x pos')) pos.line X.env = pure false := by rfl) (hf : X.fn x = true ∨ X.env.scope.names.lookup x = some .local := by first | exact .inl rfl | exact .inr rfl | assumption) :
    PS X (.Assign [.Name x pos'] e pos) (tS X.K X.mg W (sSet i f)) := PS.weak (ps_set hN hi hx he hs hf) fun D σ H hh =>
  tS_E (k := fun σ d S1 => .nx (σ.set i (some d)) S1) hh fun σD d S μ' H' v ok en r hh => hh μ' H' _ (Ext.refl _ _) ok (en.set i r)
/-! targets -/
def tGt (K : PySem.W.Frag) (mg : Str → Option Value) (W : WX) (g : DG) : TG := fun v σ H Q => ∃ μ σD S d, Ok K μ H S ∧ EnvR K μ H σD σ ∧ R K μ H d v ∧ match g d σD S with
  | .nx σ' S' => ∀ μ' H' σV', Ext μ H μ' H' → Ok K μ' H' S' → EnvR K μ' H' σ' σV' → Q σV' H'
  | .ex e σ' S' => ∀ μ' H' σV' cls dx, Ext μ H μ' H' → Ok K μ' H' S' → EnvR K μ' H' σ' σV' → ExR K mg μ' H' e cls dx → W cls dx σV' H'
  | _ => False
def tGts (K : PySem.W.Frag) (mg : Str → Option Value) (W : WX) (g : DGs) : TGs := fun vs σ H Q => ∃ μ σD S ds, Ok K μ H S ∧ EnvR K μ H σD σ ∧ RL K μ H ds vs ∧ match g ds σD S with
  | .nx σ' S' => ∀ μ' H' σV', Ext μ H μ' H' → Ok K μ' H' S' → EnvR K μ' H' σ' σV' → Q σV' H'
  | .ex e σ' S' => ∀ μ' H' σV' cls dx, Ext μ H μ' H' → Ok K μ' H' S' → EnvR K μ' H' σ' σV' → ExR K mg μ' H' e cls dx → W cls dx σV' H'
  | _ => False
theorem PG.weak {X : Cx} {e : Expr} {t t' : TG} (h : PG X e t) (w : ∀ v σ H Q, t' v σ H Q → t v σ H Q) : PG X e t' := ⟨fun pins s σ H v u Q I r q => h.run pins s σ H v u Q I r (w v σ H Q q)⟩
theorem PGs.weak {X : Cx} {e : List Expr} {t t' : TGs} (h : PGs X e t) (w : ∀ v σ H Q, t' v σ H Q → t v σ H Q) : PGs X e t' := ⟨fun pins s σ H v u Q I r q => h.run pins s σ H v u Q I r (w v σ H Q q)⟩
theorem PG.or {X : Cx} {e : Expr} {t t' : TG} (h : PG X e t) (h' : PG X e t') : PG X e (fun v σ H Q => t v σ H Q ∨ t' v σ H Q) := ⟨fun pins s σ H v u Q I r q => q.elim (h.run pins s σ H v u Q I r) (h'.run pins s σ H v u Q I r)⟩
theorem g_name (i : Nat) {x : Str} (hN : X.N.Nodup) (hi : X.N[i]? = some x := by rfl) (hx : Loc X.env.scope x := by first | exact .inl rfl | exact .inr rfl) (hf : X.fn x = true ∨ X.env.scope.names.lookup x = some .local := by first | exact .inl rfl | exact .inr rfl | assumption) : PG X (.Name x pos) (tGt X.K X.mg W (gSet i)) :=
  PG.weak (pg_name hN hi hx hf) fun v σ H Q hh => by
    obtain ⟨μ, σD, S, d, ok, en, r, hh⟩ := hh
    exact hh μ H _ (Ext.refl _ _) ok (en.set i r)
theorem gs_nil : PGs X [] (tGts X.K X.mg W gN) := PGs.weak pgs_nil fun v σ H Q hh => by
  obtain ⟨μ, σD, S, d, ok, en, r, hh⟩ := hh
  cases r with
  | nil => exact ⟨rfl, hh μ H _ (Ext.refl _ _) ok en⟩
  | cons _ _ => exact hh.elim
theorem gs_cons {g : DG} {gs : DGs} (h1 : PG X e (tGt X.K X.mg W g)) (h2 : PGs X es (tGts X.K X.mg W gs)) (hs : (assignEach (e :: es) X.env).map (·.2) = assign e X.env :: (assignEach es X.env).map (·.2) := by rfl) : PGs X (e :: es) (tGts X.K X.mg W (gC g gs)) :=
  PGs.weak (pgs_cons h1 h2 hs) fun v σ H Q hh => by
    obtain ⟨μ, σD, S, d, ok, en, r, hh⟩ := hh
    cases r with
    | nil => exact hh.elim
    | @cons x v xs vs r1 r2 =>
      refine ⟨v, vs, rfl, μ, σD, S, x, ok, en, r1, ?_⟩
      simp only [gC] at hh
      cases q : g x σD S with
      | nx σ' S' =>
        rw [q] at hh
        exact fun μ' H' σV' x ok' en' => ⟨μ', σ', S', xs, ok', en', r2.mono x, by
          simp only at hh
          cases q2 : gs xs σ' S' with
          | nx σ2 S2 =>
            rw [q2] at hh
            exact fun μ2 H2 σ3 x2 => hh μ2 H2 σ3 (x.trans x2)
          | ex e σ2 S2 =>
            rw [q2] at hh
            exact fun μ2 H2 σ3 c d x2 => hh μ2 H2 σ3 c d (x.trans x2)
          | _ => rw [q2] at hh; exact hh.elim⟩
      | ex e σ' S' =>
        rw [q] at hh
        exact hh
      | _ => rw [q] at hh; exact hh.elim
theorem g_un {g : DGs} {k : Nat} {n : Nat} (h : PGs X es (tGts X.K X.mg W g)) (hc : X.calm = true := by rfl) (hn : (assignEach es X.env).length = n := by rfl) (hst : (assignEach es X.env).findIdx? (·.1) = none := by rfl) : PG X (.Tuple es k pos) (tGt X.K X.mg W (gUn n g)) :=
  PG.weak (PG.or (pg_tup hc h hn hst) (pg_lst hc h hn hst)) fun v σ H Q hh => by
    obtain ⟨μ, σD, S, d, ok, en, r, hh⟩ := hh
    simp only [gUn] at hh
    cases q : itemsOf S d with
    | none => rw [q] at hh; exact hh.elim
    | some xs =>
      rw [q] at hh
      simp only at hh
      obtain ⟨p, vs, rfl, hs, hl, rr⟩ := itemsOf_ok ok r q
      by_cases hln : xs.length = n
      · rw [if_pos hln] at hh
        rw [rr.length] at hln
        rcases hs with hs | hs
        · exact .inr ⟨p, vs, rfl, hs, hln, μ, σD, S, xs, ok, en, rr, hh⟩
        · exact .inl ⟨p, vs, rfl, hs, hln, μ, σD, S, xs, ok, en, rr, hh⟩
      · rw [if_neg hln] at hh
        exact hh.elim
/-- o[i] = v, by values -/
def rSet (K : PySem.W.Frag) : V → V → V → Hp → (Hp → Prop) → Prop := fun vo vi v H Q => ∃ μ S o i d, Ok K μ H S ∧ R K μ H o vo ∧ R K μ H i vi ∧ R K μ H d v ∧ match oSet o i d S with
  | some S' => ∀ μ' H', Ext μ H μ' H' → Ok K μ' H' S' → Q H'
  | none => False
theorem d_set : PSet X (rSet X.K) := by
  intro pins s σ H vo vi v ov iv u Q I r1 r2 r3 hr
  obtain ⟨μ, S, o, i, d, ok, ro, ri, rd, hh⟩ := hr
  unfold oSet at hh
  split at hh
  · rename_i S' q
    split at q
    · split at q
      · rename_i l k _ ys q1
        split at q
        · rename_i j q2
          cases q
          obtain ⟨p, vs, rfl, hl, hv, hz, rr⟩ := loc_at ok ro q1
          cases ri
          obtain ⟨x1, ok1⟩ := ok.set hl (vs := vs.set j v) (by rw [List.length_set]; exact hz) (rr.set rd j)
          rw [rr.length] at q2
          exact set_list pins s σ H _ _ v ov iv u Q I r1 r2 r3 ⟨p, vs, k, j, rfl, rfl, hv, q2, hh μ _ x1 ok1⟩
        · cases q
      · cases q
    · cases q
  · exact hh.elim
theorem g_sub {o i : Expr} {fo fi : DE} (ho : PE X o (tE X.K X.mg W fo)) (hi : PE X i (tE X.K X.mg W fi)) (ha : ∀ v, assign (.Subscript o i pos) X.env v = (do
      let ov ← holding [v] (eval o X.env)
      let iv ← holding [v, ov] (eval i X.env)
      standAt pos
      holding [v, ov, iv] (setItem ov iv v)
      release [v, ov, iv] []) := by intro _; rfl) : PG X (.Subscript o i pos) (tGt X.K X.mg W (gSubD fo fi)) :=
  PG.weak (pg_sub ho hi d_set ha) fun v σ H Q hh => by
    obtain ⟨μ, σD, S, d, ok, en, r, hh⟩ := hh
    simp only [gSubD] at hh
    refine ⟨μ, σD, S, ok, en, ?_⟩
    cases q : fo σD S with
    | no => rw [q] at hh; exact hh.elim
    | ex e S1 =>
      rw [q] at hh
      exact fun μ' H' cls dx x ok' => hh μ' H' σ cls dx x ok' (en.mono x)
    | ok o1 S1 =>
      rw [q] at hh
      simp only [SR.ofE] at hh
      refine fun μ1 H1 vo x1 ok1 ro => ⟨μ1, σD, S1, ok1, en.mono x1, ?_⟩
      cases q2 : fi σD S1 with
      | no => rw [q2] at hh; exact hh.elim
      | ex e S2 =>
        rw [q2] at hh
        exact fun μ' H' cls dx x ok' => hh μ' H' σ cls dx (x1.trans x) ok' (en.mono (x1.trans x))
      | ok i1 S2 =>
        rw [q2] at hh
        simp only at hh
        refine fun μ2 H2 vi x2 ok2 ri => ⟨μ2, S2, o1, i1, d, ok2, ro.mono x2, ri, r.mono (x1.trans x2), ?_⟩
        cases q3 : oSet o1 i1 d S2 with
        | none => rw [q3] at hh; exact hh.elim
        | some S3 =>
          rw [q3] at hh
          exact fun μ3 H3 x3 ok3 => hh μ3 H3 σ ((x1.trans x2).trans x3) ok3 (en.mono ((x1.trans x2).trans x3))
theorem s_asg {tg e : Expr} {g : DG} (he : PE X e (tE X.K X.mg W f)) (hg : PG X tg (tGt X.K X.mg W g)) (hs : swapsWithSole [tg] e pos.line X.env = pure false := by rfl) (hw : swappedStores [tg] e X.env = pure none := by rfl)
    (h1 : (assignEach [tg] X.env).map (·.2) = [assign tg X.env] := by rfl) : PS X (.Assign [tg] e pos) (tS X.K X.mg W (sAsg f g)) := PS.weak (ps_asg he hg hs hw h1) fun D σ H hh =>
  tS_E (k := fun σ d S1 => match g d σ S1 with
    | .nx σ' S' => .nx σ' S'
    | .ex e σ' S' => .ex e σ' S'
    | _ => .no) hh fun σD d S μ' H' v ok en r hh => ⟨μ', σD, S, d, ok, en, r, by
      cases q : g d σD S with
      | nx σ' S' => rw [q] at hh; exact hh
      | ex e σ' S' => rw [q] at hh; exact hh
      | _ => rw [q] at hh; exact hh.elim⟩
theorem s_par {i j : Nat} {x y : Str} {a b : Expr} {px py pt : Pos} {kt k2 pt2} (hN : X.N.Nodup) (hij : i ≠ j) (ha : PE X a (tE X.K X.mg W f)) (hb : PE X b (tE X.K X.mg W g)) (hc : X.calm = true := by rfl) (hi : X.N[i]? = some x := by rfl) (hj : X.N[j]? = some y := by rfl)
    (hx : X.env.scope.names.lookup x = some .local := by rfl) (hy : X.env.scope.names.lookup y = some .local := by rfl)
    (hw : swappedStores [.Tuple [.Name x px, .Name y py] kt pt] (.Tuple [a, b] k2 pt2) X.env = pure (some [x, y]) := by rfl)
    (hs : swapsWithSole [.Tuple [.Name x px, .Name y py] kt pt] (.Tuple [a, b] k2 pt2) pos.line X.env = pure false := by rfl)
    (he1 : starEach [a, b] X.env = (false, eval a X.env) :: starEach [b] X.env := by rfl) (he2 : starEach [b] X.env = (false, eval b X.env) :: starEach [] X.env := by rfl) :
    PS X (.Assign [.Tuple [.Name x px, .Name y py] kt pt] (.Tuple [a, b] k2 pt2) pos) (tS X.K X.mg W (sPar i j f g)) :=
  PS.weak (ps_par hc hN hi hj hij hx hy (pa_cons ha (pa_cons hb pa_nil he2) he1) hw hs) fun D σ H hh => by
  obtain ⟨μ, σD, S, ok, en, hh⟩ := hh
  simp only [sPar] at hh
  refine ⟨μ, σD, S, ok, en, ?_⟩
  cases q : f σD S with
  | no => rw [q] at hh; exact hh.elim
  | ex e S1 =>
    rw [q] at hh
    exact fun μ' H' cls dx x ok' => hh μ' H' σ cls dx x ok' (en.mono x)
  | ok x1 S1 =>
    rw [q] at hh
    simp only [SR.ofE] at hh
    refine fun μ1 H1 v x1' ok1 r1 => ?_
    show tCons (tE X.K X.mg W g) tNil σ H1 _
    refine ⟨μ1, σD, S1, ok1, en.mono x1', ?_⟩
    cases q2 : g σD S1 with
    | no => rw [q2] at hh; exact hh.elim
    | ex e S2 =>
      rw [q2] at hh
      exact fun μ' H' cls dx x ok' => hh μ' H' σ cls dx (x1'.trans x) ok' (en.mono (x1'.trans x))
    | ok y1 S2 =>
      rw [q2] at hh
      refine fun μ2 H2 u x2 ok2 r2 => ?_
      exact ⟨v, u, rfl, hh μ2 H2 _ (x1'.trans x2) ok2 (((en.mono (x1'.trans x2)).set i (r1.mono x2)).set j r2)⟩
theorem s_aug {i : Nat} {x : Str} {e : Expr} {op : Operator} {k : O2} {pos' : Pos} (hN : X.N.Nodup) (ho : OpR X (inplaceOp op) (r2 X.K k)) (he : PE X e (tE X.K X.mg W f)) (hi : X.N[i]? = some x := by rfl) (hx : Loc X.env.scope x := by first | exact .inl rfl | exact .inr rfl) (hf : X.fn x = true ∨ X.env.scope.names.lookup x = some .local := by first | exact .inl rfl | exact .inr rfl | assumption) :
    PS X (.AugAssign (.Name x pos') op e pos) (tS X.K X.mg W (sAug i k f)) := PS.weak (ps_aug hN hi hx he (fun pins s σ H x y v u Q I r1 r2 q => ho pins s σ H x y v u Q I r1 r2 q) hf) fun D σ H hh => by
  obtain ⟨μ, σD, S, ok, en, hh⟩ := hh
  simp only [sAug] at hh
  cases q : σD[i]? with
  | none => rw [q] at hh; exact hh.elim
  | some oo =>
    cases oo with
    | none => rw [q] at hh; exact hh.elim
    | some d =>
      rw [q] at hh
      simp only at hh
      obtain ⟨v, hv, r⟩ := en.get i d q
      refine ⟨v, hv, μ, σD, S, ok, en, ?_⟩
      cases q2 : f σD S with
      | no => rw [q2] at hh; exact hh.elim
      | ex e S1 =>
        rw [q2] at hh
        exact fun μ' H' cls dx x ok' => hh μ' H' σ cls dx x ok' (en.mono x)
      | ok y S1 =>
        rw [q2] at hh
        simp only [SR.ofE] at hh
        refine fun μ1 H1 vy x1 ok1 ry => ⟨μ1, S1, d, y, ok1, r.mono x1, ry, ?_⟩
        cases q3 : k d y S1 with
        | none => rw [q3] at hh; exact hh.elim
        | some p =>
          obtain ⟨z, S2⟩ := p
          rw [q3] at hh
          exact fun μ2 H2 vz x2 ok2 rz => hh μ2 H2 _ (x1.trans x2) ok2 ((en.mono (x1.trans x2)).set i rz)
end
end DL

namespace DL
open PySem PySem.Spec PyProof.Rows L2
/-! ### what is walked -/
/-- a list of the store that has to stay as it is -/
abbrev Gd := Option (Nat × List D)
def Gd.ok : Gd → Store → Prop
  | none, _ => True
  | some (l, xs), S => S[l]? = some (.lst xs)
abbrev DI := Sg → Store → Res (Gd × List D)
structure Wlk (K : PySem.W.Frag) (J : It) (μ0 : List Addr) (H0 : Hp) (p : Gd × List D) : Prop where
  go : ∀ (i : Nat) (μ : List Addr) (H : Hp) (S : Store) (d : D), Sub μ0 H0 μ H → Ok K μ H S → p.1.ok S → p.2[i]? = some d → J.go i H ∧ ∀ x H', J.yld i H x H' → Ext μ H μ H' ∧ Ok K μ H' S ∧ R K μ H' d x
  stop : ∀ (i : Nat) (μ : List Addr) (H : Hp) (S : Store), Sub μ0 H0 μ H → Ok K μ H S → p.1.ok S → p.2.length ≤ i → J.stop i H
abbrev RI (K : PySem.W.Frag) : List Addr → Hp → (Gd × List D) → It → Prop := fun μ H p J => Wlk K J μ H p
abbrev tI (K : PySem.W.Frag) (mg : Str → Option Value) (W : WX) (f : DI) : TI := tG K mg W (RI K) f
theorem PI.weak {X : Cx} {tg e : Expr} {t t' : TI} (h : PI X tg e t) (w : ∀ σ H Q, t' σ H Q → t σ H Q) : PI X tg e t' := ⟨fun pins s σ H R I q => h.run pins s σ H R I (w σ H R q)⟩
theorem PI.or {X : Cx} {tg e : Expr} {t t' : TI} (h : PI X tg e t) (h' : PI X tg e t') : PI X tg e (fun σ H Q => t σ H Q ∨ t' σ H Q) := ⟨fun pins s σ H R I q => q.elim (h.run pins s σ H R I) (h'.run pins s σ H R I)⟩
section
variable {X : Cx} {W : WX} {pos : Pos} {tg a b c e o : Expr} {es : List Expr} {f g h : DE} {t : DT} {fa : DA} {K : PySem.W.Frag} {mg : Str → Option Value}
/-- a list, a tuple -/
def cIter (f : DE) : DI := fun σ S => (f σ S).bind fun x S1 => match x with
  | .tup xs => .ok (none, xs) S1
  | .rol xs => .ok (none, xs) S1
  | .loc l => match S1[l]? with
    | some (.lst xs) => .ok (some (l, xs), xs) S1
    | none => .no
  | _ => .no
theorem wlk_tup {μ : List Addr} {H : Hp} {a : Addr} {vs : List V} {xs : List D} (h : SqT K H a vs) (r : RL K μ H xs vs) : Wlk K (Itt K a) μ H (none, xs) where
  go := fun i μ' H' S d x ok _ hd => by
    obtain ⟨v, hv, _⟩ := r.get hd
    refine ⟨⟨vs, v, x.sqT h, hv⟩, fun y H'' hy => ?_⟩
    obtain ⟨rfl, hy⟩ := hy
    have e := hy vs (x.sqT h)
    obtain ⟨d', hd', rd⟩ := r.getV e
    rw [show xs[i]? = some d from hd] at hd'; cases hd'
    exact ⟨Ext.refl _ _, ok, rd.subM x⟩
  stop := fun i μ' H' S x ok _ hi => ⟨vs, x.sqT h, by rw [← r.length]; exact hi⟩
theorem wlk_rol {μ : List Addr} {H : Hp} {a : Addr} {vs : List V} {xs : List D} (h : SqI K H a vs) (r : RL K μ H xs vs) : Wlk K (Itl K a) μ H (none, xs) where
  go := fun i μ' H' S d x ok _ hd => by
    obtain ⟨v, hv, _⟩ := r.get hd
    refine ⟨⟨vs, v, (x.sqI h).sq, hv⟩, fun y H'' hy => ?_⟩
    obtain ⟨rfl, hy⟩ := hy
    have e := hy vs (x.sqI h).sq
    obtain ⟨d', hd', rd⟩ := r.getV e
    rw [show xs[i]? = some d from hd] at hd'; cases hd'
    exact ⟨Ext.refl _ _, ok, rd.subM x⟩
  stop := fun i μ' H' S x ok _ hi => ⟨vs, (x.sqI h).sq, by rw [← r.length]; exact hi⟩
/-- what a guard says -/
theorem gd_loc {μ0 μ : List Addr} {H0 H : Hp} {S : Store} {l : Nat} {a : Addr} {xs : List D} (hl : μ0[l]? = some a) (x : Sub μ0 H0 μ H) (ok : Ok K μ H S) (g : S[l]? = some (.lst xs)) : ∃ vs, SqL K H a vs ∧ RL K μ H xs vs := by
  obtain ⟨a', h1, hc⟩ := ok.at g
  rw [x.at hl] at h1; cases h1
  obtain ⟨vs, hv, _, r⟩ := hc
  exact ⟨vs, .inl (.inl hv), r⟩
theorem wlk_loc {μ : List Addr} {H : Hp} {l : Nat} {a : Addr} {xs : List D} (hl : μ[l]? = some a) : Wlk K (Itl K a) μ H (some (l, xs), xs) where
  go := fun i μ' H' S d x ok g hd => by
    obtain ⟨vs, hs, r⟩ := gd_loc hl x ok g
    obtain ⟨v, hv, _⟩ := r.get hd
    refine ⟨⟨vs, v, hs, hv⟩, fun y H'' hy => ?_⟩
    obtain ⟨rfl, hy⟩ := hy
    have e := hy vs hs
    obtain ⟨d', hd', rd⟩ := r.getV e
    rw [show xs[i]? = some d from hd] at hd'; cases hd'
    exact ⟨Ext.refl _ _, ok, rd⟩
  stop := fun i μ' H' S x ok g hi => by
    obtain ⟨vs, hs, r⟩ := gd_loc hl x ok g
    exact ⟨vs, hs, by rw [← r.length]; exact hi⟩
theorem i_seq (he : PE X e (tE X.K X.mg W f)) : PI X tg e (tI X.K X.mg W (cIter f)) := by
  refine PI.weak (PI.or (pi_list he) (pi_tup he)) fun σ H Q hh => ?_
  obtain ⟨μ, σD, S, ok, en, hh⟩ := hh
  unfold cIter at hh
  cases q : f σD S with
  | no => rw [q] at hh; exact hh.elim
  | ex e S1 =>
    rw [q] at hh
    exact .inl ⟨μ, σD, S, ok, en, by rw [q]; exact hh⟩
  | ok x S1 =>
    rw [q] at hh
    cases x with
    | tup xs =>
      refine .inr ⟨μ, σD, S, ok, en, ?_⟩
      rw [q]
      intro μ' H' v x1 ok1 r
      cases r with
      | @tup p vs _ hs hl rr => exact ⟨p, rfl, ⟨vs, hs⟩, hh μ' H' _ x1 ok1 (wlk_tup hs rr)⟩
    | rol xs =>
      refine .inl ⟨μ, σD, S, ok, en, ?_⟩
      rw [q]
      intro μ' H' v x1 ok1 r
      cases r with
      | @rol p vs _ hs hl rr => exact ⟨p, rfl, ⟨vs, hs.sq⟩, hh μ' H' _ x1 ok1 (wlk_rol hs rr)⟩
    | loc l =>
      refine .inl ⟨μ, σD, S, ok, en, ?_⟩
      rw [q]
      intro μ' H' v x1 ok1 r
      simp only [Res.bind_ok] at hh
      cases q2 : S1[l]? with
      | none => rw [q2] at hh; exact hh.elim
      | some c =>
        cases c with
        | lst xs =>
          rw [q2] at hh
          obtain ⟨p, vs, rfl, hl, hv, _, rr⟩ := loc_at ok1 r q2
          exact ⟨p, rfl, ⟨vs, .inl (.inl hv)⟩, hh μ' H' _ x1 ok1 (wlk_loc hl)⟩
    | _ => exact hh.elim
/-- ranges -/
def intsTo (lo : Int) (n : Nat) : List D := (List.range n).map fun i : Nat => D.int (lo + i)
def okB (i : Int) : Prop := -(2 ^ 62) ≤ i ∧ i < 2 ^ 62
instance (i : Int) : Decidable (okB i) := by unfold okB; infer_instance
theorem wlk_range {lo : Int} {n : Nat} {μ : List Addr} {H : Hp} : Wlk K (Itr lo n) μ H (none, intsTo lo n) where
  go := fun i μ' H' S d x ok _ hd => by
    unfold intsTo at hd
    rw [List.getElem?_map] at hd
    have hi : i < n := by
      rcases Nat.lt_or_ge i n with h | h
      · exact h
      · rw [List.getElem?_eq_none (by simpa using h)] at hd; cases hd
    rw [List.getElem?_range hi] at hd
    cases hd
    refine ⟨hi, fun y H'' hy => ?_⟩
    obtain ⟨rfl, rfl⟩ := hy
    exact ⟨Ext.refl _ _, ok, .int _⟩
  stop := fun i μ' H' S x ok _ hi => by
    unfold intsTo at hi
    have : n ≤ i := by simpa using hi
    exact this
def cRange1 (f : DE) : DI := fun σ S => (f σ S).bind fun x S1 => match x with
  | .int j => if okB j then .ok (none, intsTo 0 j.toNat) S1 else .no
  | _ => .no
def cRange2 (f g : DE) : DI := fun σ S => (f σ S).bind fun x S1 => (g σ S1).bind fun y S2 => match x, y with
  | .int i, .int j => if okB i ∧ okB j then .ok (none, intsTo i (j - i).toNat) S2 else .no
  | _, _ => .no
theorem tNil_A {σ : L2.St} {H : Hp} {Q : List V → Hp → Prop} : Q [] H → tNil σ H Q := fun h => h
theorem i_range1 {p : Pos} (hm : X.mg "range" = none) (ha : PE X a (tE X.K X.mg W f)) (hg : Gl X "range" := by rfl) (hs : starEach [a] X.env = [(false, eval a X.env)] := by rfl) : PI X tg (.Call (.Name "range" p) [a] [] pos) (tI X.K X.mg W (cRange1 f)) :=
  PI.weak (pi_range1 hg hm (pa_cons ha pa_nil hs) hs) fun σ H Q hh => tG1 (RA := R X.K) hh fun x S μ H v ok rx hh => by
    cases rx with
    | int j =>
      simp only at hh
      split at hh
      · rename_i hb
        exact ⟨j, rfl, hb.1, hb.2, hh μ H _ (Ext.refl _ _) ok wlk_range⟩
      · exact hh.elim
    | _ => exact hh.elim
theorem i_range2 {p : Pos} (hm : X.mg "range" = none) (ha : PE X a (tE X.K X.mg W f)) (hb : PE X b (tE X.K X.mg W g)) (hg : Gl X "range" := by rfl) (hs : starEach [a, b] X.env = [(false, eval a X.env), (false, eval b X.env)] := by rfl) (hs2 : starEach [b] X.env = [(false, eval b X.env)] := by rfl)
    (hs3 : starEach [a, b] X.env = (false, eval a X.env) :: starEach [b] X.env := by rfl) : PI X tg (.Call (.Name "range" p) [a, b] [] pos) (tI X.K X.mg W (cRange2 f g)) :=
  PI.weak (pi_range2 hg hm (pa_cons ha (pa_cons hb pa_nil hs2) hs3) hs hs2) fun σ H Q hh => tG2 (RA := R X.K) (RB := R X.K) (fun _ _ _ _ _ _ x r => r.mono x) hh fun x y S μ H v u ok rx ry hh => by
    cases rx with
    | int i =>
      cases ry with
      | int j =>
        simp only at hh
        split at hh
        · rename_i hb
          exact ⟨i, j, rfl, ⟨hb.1.1, hb.1.2, hb.2.1, hb.2.2⟩, hh μ H _ (Ext.refl _ _) ok wlk_range⟩
        · exact hh.elim
      | _ => exact hh.elim
    | _ => exact hh.elim
/-- range(i, j, c) -/
def stepsTo (i c : Int) (n : Nat) : List D := (List.range n).map fun k : Nat => D.int (i + (k : Int) * c)
def rgN (i j c : Int) : Nat := (Builtin.Range.rangeSize i j c).toNat
def okRg (i j c : Int) : Prop := c ≠ 0 ∧ c.natAbs < 1073741824 ∧ Builtin.Range.small i j c = true ∧ 0 ≤ Builtin.Range.rangeSize i j c
instance (i j c : Int) : Decidable (okRg i j c) := by unfold okRg; infer_instance
theorem wlk_rangeC {lo c : Int} {n : Nat} {μ : List Addr} {H : Hp} : Wlk K (Itc lo c n) μ H (none, stepsTo lo c n) where
  go := fun i μ' H' S d x ok _ hd => by
    unfold stepsTo at hd
    rw [List.getElem?_map] at hd
    have hi : i < n := by
      rcases Nat.lt_or_ge i n with h | h
      · exact h
      · rw [List.getElem?_eq_none (by simpa using h)] at hd; cases hd
    rw [List.getElem?_range hi] at hd
    cases hd
    refine ⟨hi, fun y H'' hy => ?_⟩
    obtain ⟨rfl, rfl⟩ := hy
    exact ⟨Ext.refl _ _, ok, .int _⟩
  stop := fun i μ' H' S x ok _ hi => by
    unfold stepsTo at hi
    have : n ≤ i := by simpa using hi
    exact this
def rg3 (x y z : D) (S : Store) : Res (Gd × List D) := match x, y, z with
  | .int i, .int j, .int c => if okRg i j c then .ok (none, stepsTo i c (rgN i j c)) S else .no
  | _, _, _ => .no
def cRange3 (f g h : DE) : DI := fun σ S => (f σ S).bind fun x S1 => (g σ S1).bind fun y S2 => (h σ S2).bind fun z S3 => rg3 x y z S3
theorem i_range3 {p : Pos} (hm : X.mg "range" = none) (ha : PE X a (tE X.K X.mg W f)) (hb : PE X b (tE X.K X.mg W g)) (hc : PE X c (tE X.K X.mg W h)) (hg : Gl X "range" := by rfl)
    (hs1 : starEach [a, b, c] X.env = (false, eval a X.env) :: starEach [b, c] X.env := by rfl) (hs2 : starEach [b, c] X.env = (false, eval b X.env) :: starEach [c] X.env := by rfl) (hs3 : starEach [c] X.env = (false, eval c X.env) :: starEach [] X.env := by rfl)
    (hpl : (backTo pos (starEach [b, c] X.env)).any (·.1) = false := by rfl) : PI X tg (.Call (.Name "range" p) [a, b, c] [] pos) (tI X.K X.mg W (cRange3 f g h)) := by
  refine PI.weak (pi_range3 hg hm (pa_cons ha (pa_cons hb (pa_cons hc pa_nil hs3) hs2) hs1) hs1 hpl) fun σ H Q hh => ?_
  refine tG1e (k := fun σ x S1 => (g σ S1).bind fun y S2 => (h σ S2).bind fun z S3 => rg3 x y z S3) (RA := R X.K) hh fun σD x S μ H v ok en rx hh => ?_
  show tCons (tE X.K X.mg W g) (tCons (tE X.K X.mg W h) tNil) σ H _
  refine tG1e (RC := RI X.K) (RA := R X.K) (k := fun σ y S2 => (h σ S2).bind fun z S3 => rg3 x y z S3) (Q := Q) ⟨μ, σD, S, ok, en, hh⟩ fun σD2 y S2 μ2 H2 u ok2 en2 ry hh => ?_
  show tCons (tE X.K X.mg W h) tNil σ H2 _
  refine tG1 (RC := RI X.K) (RA := R X.K) (k := fun z S3 => rg3 x y z S3) (Q := Q) ⟨μ2, σD2, S2, ok2, en2, hh⟩ fun z S3 μ3 H3 w ok3 rz hh => ?_
  show ∃ i j c n, [v, u, w] = [V.int i, V.int j, V.int c] ∧ _
  cases x with
  | int i =>
    cases y with
    | int j =>
      cases z with
      | int c =>
        cases rx
        cases ry
        cases rz
        simp only [rg3] at hh
        split at hh
        · rename_i hb
          refine ⟨i, j, c, rgN i j c, rfl, ⟨hb.1, hb.2.1, hb.2.2.1, ?_⟩, hh μ3 H3 _ (Ext.refl _ _) ok3 wlk_rangeC⟩
          unfold rgN
          exact (Int.toNat_of_nonneg hb.2.2.2).symm
        · exact hh.elim
      | _ => exact hh.elim
    | _ => exact hh.elim
  | _ => exact hh.elim
/-- enumerate(list) -/
def numbered (k : Nat) : List D → List D
  | [] => []
  | x :: xs => .tup [.int (k : Nat), x] :: numbered (k + 1) xs
theorem numbered_get : ∀ (xs : List D) (k i : Nat), (numbered k xs)[i]? = xs[i]?.map fun x => D.tup [.int ((k + i : Nat) : Int), x]
  | [], k, i => by simp [numbered]
  | x :: xs, k, 0 => by simp [numbered]
  | x :: xs, k, i + 1 => by
    rw [numbered, List.getElem?_cons_succ, List.getElem?_cons_succ, numbered_get xs (k + 1) i, show k + 1 + i = k + (i + 1) by omega]
theorem numbered_length : ∀ (xs : List D) (k : Nat), (numbered k xs).length = xs.length
  | [], _ => rfl
  | _ :: xs, k => by rw [numbered, List.length_cons, List.length_cons, numbered_length xs]
/-- the items of a list that is numbered, with its guard -/
def enumL (x : D) (S : Store) : Res (Gd × List D) := match x with
  | .rol xs => .ok (none, numbered 0 xs) S
  | .loc l => match S[l]? with
    | some (.lst xs) => .ok (some (l, xs), numbered 0 xs) S
    | none => .no
  | _ => .no
theorem wlk_enum {μ0 : List Addr} {H0 : Hp} {a : Addr} {gd : Gd} {xs : List D} (hq : ∀ μ H S, Sub μ0 H0 μ H → Ok K μ H S → gd.ok S → ∃ vs, SqL K H a vs ∧ RL K μ H xs vs) : Wlk K (Ite K a) μ0 H0 (gd, numbered 0 xs) where
  go := fun i μ' H' S d x ok g hd => by
    obtain ⟨vs, hs, r⟩ := hq μ' H' S x ok g
    rw [numbered_get] at hd
    cases q : xs[i]? with
    | none => rw [q] at hd; cases hd
    | some y =>
      rw [q] at hd
      cases hd
      obtain ⟨v, hv, rv⟩ := r.get q
      refine ⟨⟨vs, v, hs, hv⟩, fun z H'' hy => ?_⟩
      obtain ⟨T, w, rfl, hT, rfl, hw⟩ := hy
      have e := hw vs hs
      rw [hv] at e; cases e
      refine ⟨ext_new hT, ok.laid hT, .tup (.inl (.inl upd_same)) (by show 2 ≤ sizeLine; decide) (.cons ?_ (.cons (rv.mono (ext_new hT)) .nil))⟩
      rw [Nat.zero_add]
      exact .int _
  stop := fun i μ' H' S x ok g hi => by
    obtain ⟨vs, hs, r⟩ := hq μ' H' S x ok g
    rw [numbered_length] at hi
    exact ⟨vs, hs, by rw [← r.length]; exact hi⟩
end
end DL

namespace DL
open PySem PySem.Spec PyProof.Rows L2
/-! ### for -/
open Classical in
noncomputable def forL (gd : Gd) (g : DG) (b : DS) : List D → Sg → Store → SR
  | [], σ, S => if gd.ok S then .nx σ S else .no
  | x :: xs, σ, S => if gd.ok S then match g x σ S with
      | .nx σ1 S1 => match b σ1 S1 with
        | .nx σ2 S2 => forL gd g b xs σ2 S2
        | .ct σ2 S2 => forL gd g b xs σ2 S2
        | .bk σ2 S2 => .nx σ2 S2
        | r => r
      | .ex e σ1 S1 => .ex e σ1 S1
      | _ => .no
    else .no
def SR.ofI (σ : Sg) (r : Res (Gd × List D)) (k : Gd → List D → Store → SR) : SR := match r with
  | .ok d S => k d.1 d.2 S
  | .ex e S => .ex e σ S
  | .no => .no
noncomputable def sFor (src : DI) (g : DG) (b : DS) : DS := fun σ S => SR.ofI σ (src σ S) fun gd ds S1 => forL gd g b ds σ S1
def whileN (t : DT) (b : DS) : Nat → Sg → Store → SR
  | 0, _, _ => .no
  | n + 1, σ, S => SR.ofT σ (t σ S) fun c S1 => if c = true then match b σ S1 with
      | .nx σ2 S2 => whileN t b n σ2 S2
      | .ct σ2 S2 => whileN t b n σ2 S2
      | .bk σ2 S2 => .nx σ2 S2
      | r => r
    else .nx σ S1
def WF : Nat := 100000000
def sWhile (t : DT) (b : DS) : DS := fun σ S => whileN t b WF σ S
section
variable {X : Cx} {W : WX} {pos : Pos} {tg iter a c e o : Expr} {es : List Expr} {f h : DE} {t : DT} {fa : DA} {K : PySem.W.Frag} {mg : Str → Option Value} {body : List Stmt} {b : DS} {g : DG} {src : DI}
theorem s_for (hp : PassesOwn (model X.prog X.w) X.A X.env X.xe) (hi : PI X tg iter (tI X.K X.mg W src)) (hg : PG X tg (tGt X.K X.mg W g)) (hb : PSs X body (tS X.K X.mg W b)) (hc : X.calm = true := by rfl)
    (hs : ∀ x, foldedSetIterable iter X.env x = pure x := by intro _; rfl) : PS X (.For tg iter body [] pos) (tS X.K X.mg W (sFor src g b)) := by
  refine PS.weak (ps_for hp hc hi hg hb hs) fun Dn σ H hh => ?_
  obtain ⟨μ, σD, S, ok, en, hh⟩ := hh
  refine ⟨μ, σD, S, ok, en, ?_⟩
  simp only [sFor] at hh
  cases q : src σD S with
  | no => rw [q] at hh; exact hh.elim
  | ex e S1 =>
    rw [q] at hh
    exact fun μ' H' cls dx x ok' => hh μ' H' σ cls dx x ok' (en.mono x)
  | ok p S1 =>
    rw [q] at hh
    obtain ⟨gd, ds⟩ := p
    simp only [SR.ofI] at hh
    intro μ1 H1 J x1 ok1 wk
    refine ⟨fun i m σ2 H2 => m = ds.length - i ∧ i ≤ ds.length ∧ ∃ μ2 σD2 S2, Ext μ1 H1 μ2 H2 ∧ Ok X.K μ2 H2 S2 ∧ EnvR X.K μ2 H2 σD2 σ2 ∧ SPost X.K X.mg W μ2 H2 (forL gd g b (ds.drop i) σD2 S2) Dn,
      ⟨ds.length, rfl, Nat.zero_le _, μ1, σD, S1, Ext.refl _ _, ok1, en.mono x1, SPost.mono x1 hh⟩, ?_⟩
    rintro i m σ2 H2 ⟨rfl, hi, μ2, σD2, S2, x2, ok2, en2, h2⟩
    by_cases hlt : i < ds.length
    · rw [List.drop_eq_getElem_cons hlt, forL] at h2
      by_cases hgd : gd.ok S2
      · rw [if_pos hgd] at h2
        obtain ⟨go, yl⟩ := wk.go i μ2 H2 S2 ds[i] x2.sub ok2 hgd (List.getElem?_eq_getElem hlt)
        refine .inr ⟨go, fun σ3 H3 => ∃ μ3 σD3 S3, Ext μ1 H1 μ3 H3 ∧ Ok X.K μ3 H3 S3 ∧ EnvR X.K μ3 H3 σD3 σ3 ∧ SPost X.K X.mg W μ3 H3 (forL gd g b (ds.drop (i + 1)) σD3 S3) Dn,
          fun σ3 H3 h3 => ⟨ds.length - (i + 1), by omega, rfl, hlt, h3⟩, fun x H' hy => ?_⟩
        obtain ⟨xe, oke, re⟩ := yl x H' hy
        refine ⟨μ2, σD2, S2, ds[i], oke, en2.mono xe, re, ?_⟩
        cases q2 : g ds[i] σD2 S2 with
        | nx σD3 S3 =>
          rw [q2] at h2
          simp only at h2
          intro μ3 H3 σ3 x3 ok3 en3
          refine ⟨μ3, σD3, S3, ok3, en3, ?_⟩
          have x23 : Ext μ2 H2 μ3 H3 := xe.trans x3
          have h3 := SPost.mono x23 h2
          cases q3 : b σD3 S3 with
          | nx σ4 S4 =>
            rw [q3] at h3
            exact fun μ4 H4 σ5 x4 ok4 en4 => ⟨μ4, σ4, S4, x2.trans (x23.trans x4), ok4, en4, SPost.mono x4 h3⟩
          | ct σ4 S4 =>
            rw [q3] at h3
            exact fun μ4 H4 σ5 x4 ok4 en4 => ⟨μ4, σ4, S4, x2.trans (x23.trans x4), ok4, en4, SPost.mono x4 h3⟩
          | bk σ4 S4 =>
            rw [q3] at h3
            exact h3
          | rt d S4 =>
            rw [q3] at h3
            exact h3
          | ex e σ4 S4 =>
            rw [q3] at h3
            exact h3
          | no => rw [q3] at h3; exact h3.elim
        | ex e σD3 S3 =>
          rw [q2] at h2
          exact fun μ3 H3 σ3 c d x3 => h2 μ3 H3 σ3 c d (xe.trans x3)
        | _ => rw [q2] at h2; exact h2.elim
      · rw [if_neg hgd] at h2
        exact h2.elim
    · have e : i = ds.length := by omega
      subst e
      rw [List.drop_length, forL] at h2
      by_cases hgd : gd.ok S2
      · rw [if_pos hgd] at h2
        exact .inl ⟨wk.stop _ μ2 H2 S2 x2.sub ok2 hgd (Nat.le_refl _), h2 μ2 H2 σ2 (Ext.refl _ _) ok2 en2⟩
      · rw [if_neg hgd] at h2
        exact h2.elim
theorem s_while (hp : PassesOwn (model X.prog X.w) X.A X.env X.xe) (hc : PT X c (tT X.K X.mg W t)) (hb : PSs X body (tS X.K X.mg W b)) : PS X (.While c body [] pos) (tS X.K X.mg W (sWhile t b)) := by
  refine PS.weak (ps_while hp hc hb) fun Dn σ H hh => ?_
  obtain ⟨μ, σD, S, ok, en, hh⟩ := hh
  refine ⟨fun m σ2 H2 => ∃ μ2 σD2 S2, Ok X.K μ2 H2 S2 ∧ EnvR X.K μ2 H2 σD2 σ2 ∧ SPost X.K X.mg W μ2 H2 (whileN t b m σD2 S2) Dn, ⟨WF, μ, σD, S, ok, en, hh⟩, ?_⟩
  rintro m σ2 H2 ⟨μ2, σD2, S2, ok2, en2, h2⟩
  cases m with
  | zero => exact h2.elim
  | succ n =>
    rw [whileN] at h2
    refine ⟨μ2, σD2, S2, ok2, en2, ?_⟩
    cases q : t σD2 S2 with
    | no => rw [q] at h2; exact h2.elim
    | ex e S3 =>
      rw [q] at h2
      exact fun μ' H' cls dx x ok' => h2 μ' H' σ2 cls dx x ok' (en2.mono x)
    | ok k S3 =>
      rw [q] at h2
      simp only [SR.ofT] at h2
      intro μ3 H3 k' x3 ok3 ek
      cases ek
      cases k with
      | false => exact h2 μ3 H3 σ2 x3 ok3 (en2.mono x3)
      | true =>
        rw [if_pos rfl] at h2 ⊢
        refine ⟨fun σ4 H4 => ∃ μ4 σD4 S4, Ok X.K μ4 H4 S4 ∧ EnvR X.K μ4 H4 σD4 σ4 ∧ SPost X.K X.mg W μ4 H4 (whileN t b n σD4 S4) Dn, fun σ4 H4 h4 => ⟨n, Nat.lt_succ_self _, h4⟩, μ3, σD2, S3, ok3, en2.mono x3, ?_⟩
        have h3 := SPost.mono x3 h2
        cases q3 : b σD2 S3 with
        | nx σ4 S4 =>
          rw [q3] at h3
          exact fun μ4 H4 σ5 x4 ok4 en4 => ⟨μ4, σ4, S4, ok4, en4, SPost.mono x4 h3⟩
        | ct σ4 S4 =>
          rw [q3] at h3
          exact fun μ4 H4 σ5 x4 ok4 en4 => ⟨μ4, σ4, S4, ok4, en4, SPost.mono x4 h3⟩
        | bk σ4 S4 => rw [q3] at h3; exact h3
        | rt d S4 => rw [q3] at h3; exact h3
        | ex e σ4 S4 => rw [q3] at h3; exact h3
        | no => rw [q3] at h3; exact h3.elim
/-- enumerate(list) -/
def cEnum (f : DE) : DI := fun σ S => (f σ S).bind enumL
theorem i_enumL {elts : List Expr} {kk : Nat} {p tpos : Pos} (hm : X.mg "enumerate" = none) (he : PE X e (tE X.K X.mg W f)) (hg : Gl X "enumerate" := by rfl) (hs : starEach [e] X.env = [(false, eval e X.env)] := by rfl) :
    PI X (.Tuple elts kk tpos) (.Call (.Name "enumerate" p) [e] [] pos) (tI X.K X.mg W (cEnum f)) :=
  PI.weak (pi_enum hg hm (pa_cons he pa_nil hs) hs) fun σ H Q hh => tG1 (k := enumL) (RA := R X.K) hh fun x S μ H v ok rx hh => by
    cases rx with
    | @rol p vs xs hs hl rr =>
      exact ⟨p, vs, rfl, hs.sq, hh μ H _ (Ext.refl _ _) ok (wlk_enum fun μ' H' S' x _ _ => ⟨vs, (x.sqI hs).sq, rr.subM x⟩)⟩
    | @loc l p hl =>
      simp only [enumL] at hh
      cases q : S[l]? with
      | none => rw [q] at hh; exact hh.elim
      | some c =>
        cases c with
        | lst xs =>
          rw [q] at hh
          obtain ⟨p', vs, e1, _, hv, _, rr⟩ := loc_at ok (R.loc hl) q
          cases e1
          exact ⟨p, vs, rfl, .inl (.inl hv), hh μ H _ (Ext.refl _ _) ok (wlk_enum fun μ' H' S' x ok' g => gd_loc hl x ok' g)⟩
    | _ => exact hh.elim
end

/-! ### comprehensions -/
/-- a pattern of names -/
inductive Pat where
  | nm (i : Nat) | un (ps : List Pat)
mutual
def Pat.slots : Pat → List Nat
  | .nm i => [i]
  | .un ps => Pat.slotsL ps
def Pat.slotsL : List Pat → List Nat
  | [] => []
  | p :: ps => p.slots ++ Pat.slotsL ps
end
mutual
def Pat.bind (S : Store) : Pat → D → Sg → Option Sg
  | .nm i, d, σ => some (σ.set i (some d))
  | .un ps, d, σ => match itemsOf S d with
    | some xs => Pat.bindL S ps xs σ
    | none => none
def Pat.bindL (S : Store) : List Pat → List D → Sg → Option Sg
  | [], [], σ => some σ
  | p :: ps, x :: xs, σ => match Pat.bind S p x σ with
    | some σ' => Pat.bindL S ps xs σ'
    | none => none
  | _, _, _ => none
end
def wipeD (σ : Sg) : List Nat → Sg
  | [] => σ
  | v :: vs => (wipeD σ vs).set v none
theorem EnvR.wipe {K : PySem.W.Frag} {μ : List Addr} {H : Hp} {σ : Sg} {σV : L2.St} (e : EnvR K μ H σ σV) : ∀ vs, EnvR K μ H (wipeD σ vs) (L2.wipe σV vs)
  | [] => e
  | v :: vs => by
    have ih := EnvR.wipe e vs
    rw [wipeD, L2.wipe]
    refine ⟨by rw [List.length_set, List.length_set]; exact ih.len, fun j d h => ?_⟩
    by_cases hj : v = j
    · subst hj
      have hi : v < (wipeD σ vs).length := by
        have := (List.getElem?_eq_some_iff.mp h).1
        rwa [List.length_set] at this
      rw [List.getElem?_set_self hi] at h
      cases h
    · rw [List.getElem?_set_ne hj] at h ⊢
      exact ih.get j d h
theorem wipe_set {σ : L2.St} {i : Nat} {o : Option V} : ∀ {vs : List Nat}, i ∈ vs → L2.wipe (σ.set i o) vs = L2.wipe σ vs
  | [], h => by cases h
  | v :: vs, h => by
    unfold L2.wipe
    by_cases hv : i ∈ vs
    · rw [wipe_set hv]
    · have e : i = v := by
        rcases List.mem_cons.mp h with z | z
        · exact z
        · exact absurd z hv
      subst e
      have out : ∀ {ws : List Nat} {σ : L2.St}, i ∉ ws → L2.wipe (σ.set i o) ws = (L2.wipe σ ws).set i o := by
        intro ws
        induction ws with
        | nil => intro σ _; rfl
        | cons w ws ih =>
          intro σ hw
          rw [List.mem_cons, not_or] at hw
          unfold L2.wipe
          rw [ih hw.2, List.set_comm _ _ hw.1]
      rw [out hv, List.set_set]
def tPt (K : PySem.W.Frag) (p : Pat) : TG := fun v σ H Q => ∃ μ σD S d, Ok K μ H S ∧ EnvR K μ H σD σ ∧ R K μ H d v ∧ match p.bind S d σD with
  | some σ' => ∀ σV', EnvR K μ H σ' σV' → (∀ vs, (∀ i ∈ p.slots, i ∈ vs) → L2.wipe σV' vs = L2.wipe σ vs) → Q σV' H
  | none => False
def tPts (K : PySem.W.Frag) (ps : List Pat) : TGs := fun vs σ H Q => ∃ μ σD S ds, Ok K μ H S ∧ EnvR K μ H σD σ ∧ RL K μ H ds vs ∧ match Pat.bindL S ps ds σD with
  | some σ' => ∀ σV', EnvR K μ H σ' σV' → (∀ vs, (∀ i ∈ Pat.slotsL ps, i ∈ vs) → L2.wipe σV' vs = L2.wipe σ vs) → Q σV' H
  | none => False
section
variable {X : Cx} {pos : Pos} {e : Expr} {es : List Expr}
theorem p_name (i : Nat) {x : Str} (hN : X.N.Nodup) (hi : X.N[i]? = some x := by rfl) (hx : Loc X.env.scope x := by first | exact .inl rfl | exact .inr rfl) (hf : X.fn x = true ∨ X.env.scope.names.lookup x = some .local := by first | exact .inl rfl | exact .inr rfl | assumption) : PG X (.Name x pos) (tPt X.K (.nm i)) :=
  PG.weak (pg_name hN hi hx hf) fun v σ H Q hh => by
    obtain ⟨μ, σD, S, d, ok, en, r, hh⟩ := hh
    exact hh _ (en.set i r) fun vs hv => wipe_set (hv i (by simp [Pat.slots]))
theorem ps_nil : PGs X [] (tPts X.K []) := PGs.weak pgs_nil fun v σ H Q hh => by
  obtain ⟨μ, σD, S, d, ok, en, r, hh⟩ := hh
  cases r with
  | nil => exact ⟨rfl, hh _ en fun _ _ => rfl⟩
  | cons _ _ => exact hh.elim
theorem ps_cons {p : Pat} {ps : List Pat} (h1 : PG X e (tPt X.K p)) (h2 : PGs X es (tPts X.K ps)) (hs : (assignEach (e :: es) X.env).map (·.2) = assign e X.env :: (assignEach es X.env).map (·.2) := by rfl) : PGs X (e :: es) (tPts X.K (p :: ps)) :=
  PGs.weak (pgs_cons h1 h2 hs) fun v σ H Q hh => by
    obtain ⟨μ, σD, S, d, ok, en, r, hh⟩ := hh
    cases r with
    | nil => exact hh.elim
    | @cons x v xs vs r1 r2 =>
      refine ⟨v, vs, rfl, μ, σD, S, x, ok, en, r1, ?_⟩
      rw [Pat.bindL] at hh
      cases q : p.bind S x σD with
      | none => rw [q] at hh; exact hh.elim
      | some σ' =>
        rw [q] at hh
        simp only at hh
        refine fun σV' en' hw => ⟨μ, σ', S, xs, ok, en', r2, ?_⟩
        cases q2 : Pat.bindL S ps xs σ' with
        | none => rw [q2] at hh; exact hh.elim
        | some σ2 =>
          rw [q2] at hh
          exact fun σV2 en2 hw2 => hh σV2 en2 fun vs hv => by
            rw [hw2 vs fun i hi => hv i (by rw [Pat.slotsL]; exact List.mem_append_right _ hi), hw vs fun i hi => hv i (by rw [Pat.slotsL]; exact List.mem_append_left _ hi)]
theorem bindL_len {S : Store} : ∀ {ps : List Pat} {xs : List D} {σ σ' : Sg}, Pat.bindL S ps xs σ = some σ' → xs.length = ps.length
  | [], [], _, _, _ => rfl
  | [], _ :: _, _, _, h => by simp [Pat.bindL] at h
  | _ :: _, [], _, _, h => by simp [Pat.bindL] at h
  | p :: ps, x :: xs, σ, σ', h => by
    rw [Pat.bindL] at h
    cases q : p.bind S x σ with
    | none => rw [q] at h; cases h
    | some σ2 =>
      rw [q] at h
      rw [List.length_cons, List.length_cons, bindL_len h]
theorem p_un {ps : List Pat} {k : Nat} (h : PGs X es (tPts X.K ps)) (hc : X.calm = true := by rfl) (hn : (assignEach es X.env).length = ps.length := by rfl) (hst : (assignEach es X.env).findIdx? (·.1) = none := by rfl) : PG X (.Tuple es k pos) (tPt X.K (.un ps)) :=
  PG.weak (PG.or (pg_tup hc h hn hst) (pg_lst hc h hn hst)) fun v σ H Q hh => by
    obtain ⟨μ, σD, S, d, ok, en, r, hh⟩ := hh
    rw [Pat.bind] at hh
    cases q : itemsOf S d with
    | none => rw [q] at hh; exact hh.elim
    | some xs =>
      rw [q] at hh
      simp only at hh
      obtain ⟨p, vs, rfl, hs, hl, rr⟩ := itemsOf_ok ok r q
      have hln : vs.length = ps.length := by
        cases q2 : Pat.bindL S ps xs σD with
        | none => rw [q2] at hh; exact hh.elim
        | some σ2 => rw [← rr.length]; exact bindL_len q2
      have hh' : tPts X.K ps vs σ H Q := ⟨μ, σD, S, xs, ok, en, rr, by
        cases q2 : Pat.bindL S ps xs σD with
        | none => rw [q2] at hh; exact hh.elim
        | some σ2 =>
          rw [q2] at hh
          exact fun σV' e1 e2 => hh σV' e1 fun vs hv => e2 vs (by simpa [Pat.slots] using hv)⟩
      rcases hs with hs | hs
      · exact .inr ⟨p, vs, rfl, hs, hln, hh'⟩
      · exact .inl ⟨p, vs, rfl, hs, hln, hh'⟩
end
end DL

namespace DL
open PySem PySem.Spec PyProof.Rows L2
/-! ### expressions that make a new list -/
abbrev DL' := Sg → Store → Res (List D)
/-- a new list, not (yet) of the store -/
def tL (K : PySem.W.Frag) (mg : Str → Option Value) (W : WX) (f : DL') : TE := fun σV H Q => ∃ μ σ S, Ok K μ H S ∧ EnvR K μ H σ σV ∧ match f σ S with
  | .ok xs S' => ∀ μ' H' a vs, Ext μ H μ' H' → Ok K μ' H' S' → a ∉ μ' → H a = none → H' a = some (.lst vs) → vs.length ≤ sizeLine → RL K μ' H' xs vs → Q (.ref a) H'
  | .ex e S' => ∀ μ' H' cls dx, Ext μ H μ' H' → Ok K μ' H' S' → ExR K mg μ' H' e cls dx → W cls dx σV H'
  | .no => False
def cAlloc (f : DL') : DE := fun σ S => (f σ S).bind fun xs S1 => .ok (.loc S1.length) (S1 ++ [.lst xs])
section
variable {K : PySem.W.Frag} {mg : Str → Option Value} {W : WX}
/-- a list that stands becomes one of the store -/
theorem Ok.adopt {μ : List Addr} {H : Hp} {S : Store} (ok : Ok K μ H S) {p : Addr} {vs : List V} {xs : List D} (hn : p ∉ μ) (h : H p = some (.lst vs)) (l : vs.length ≤ sizeLine) (r : RL K μ H xs vs) : Ok K (μ ++ [p]) H (S ++ [.lst xs]) := by
  have x : Sub μ H (μ ++ [p]) H := ⟨⟨[p], rfl⟩, fun _ _ e _ => e⟩
  refine ⟨by rw [List.length_append, List.length_append, ok.len]; rfl, ?_, fun i a c h1 h2 => ?_⟩
  · rw [List.nodup_append]
    refine ⟨ok.nd, by simp, fun a ha b hb e => ?_⟩
    rw [List.mem_singleton.mp hb] at e
    rw [e] at ha
    exact hn ha
  · by_cases hi : i < μ.length
    · rw [List.getElem?_append_left hi] at h1
      rw [List.getElem?_append_left (by rw [← ok.len]; exact hi)] at h2
      exact (ok.cell i a c h1 h2).subM x fun o e => e
    · rw [List.getElem?_append_right (by omega)] at h1
      rw [List.getElem?_append_right (by rw [← ok.len]; omega)] at h2
      have e0 : i - μ.length = 0 := by
        have := (List.getElem?_eq_some_iff.mp h1).1
        simp at this
        omega
      have e1 : i - S.length = 0 := by rw [← ok.len]; exact e0
      rw [e0] at h1
      rw [e1] at h2
      simp at h1 h2
      subst h1 h2
      exact ⟨vs, h, l, r.subM x⟩
theorem ext_adopt {μ μ' : List Addr} {H H' : Hp} (x : Ext μ H μ' H') {p : Addr} (h : H p = none) : Ext μ H (μ' ++ [p]) H' := by
  obtain ⟨ν, e⟩ := x.pre
  refine ⟨⟨ν ++ [p], by rw [e, List.append_assoc]⟩, x.keep, fun a h1 h2 => ?_⟩
  rcases List.mem_append.mp h1 with z | z
  · exact x.new a z h2
  · rw [List.mem_singleton.mp z]; exact h
theorem tL_alloc {f : DL'} {σ : L2.St} {H : Hp} {Q : VK} (hh : tE K mg W (cAlloc f) σ H Q) : tL K mg W f σ H Q := by
  obtain ⟨μ, σD, S, ok, en, hh⟩ := hh
  refine ⟨μ, σD, S, ok, en, ?_⟩
  unfold cAlloc at hh
  cases q : f σD S with
  | no => rw [q] at hh; exact hh.elim
  | ex e S1 => rw [q] at hh; exact hh
  | ok xs S1 =>
    rw [q] at hh
    exact fun μ' H' a vs x ok' hn ha h l r => hh _ _ _ (ext_adopt x ha) (ok'.adopt hn h l r) (.loc (by rw [← ok'.len, List.getElem?_append_right (Nat.le_refl _)]; simp))
end
section
variable {X : Cx} {W : WX} {pos : Pos} {tg iter e elt : Expr} {f : DL'} {te : DE} {tt : DT} {src : DI} {ifs : List Expr}
theorem l_alloc (h : PE X e (tL X.K X.mg W f)) : PE X e (tE X.K X.mg W (cAlloc f)) := PE.weak h fun _ _ _ => tL_alloc
open Classical in
noncomputable def compL (gd : Gd) (p : Pat) (tt : DT) (te : DE) : List D → List D → Sg → Store → Res (List D)
  | [], acc, _, S => if gd.ok S then .ok acc S else .no
  | x :: xs, acc, σ, S => if gd.ok S then match p.bind S x σ with
      | some σ1 => match tt σ1 S with
        | .ok true S2 => match te σ1 S2 with
          | .ok y S3 => if acc.length < sizeLine then compL gd p tt te xs (acc ++ [y]) σ S3 else .no
          | _ => .no
        | .ok false S2 => compL gd p tt te xs acc σ S2
        | _ => .no
      | none => .no
    else .no
noncomputable def lComp (src : DI) (p : Pat) (tt : DT) (te : DE) (vs : List Nat) : DL' := fun σ S => (src σ S).bind fun d S1 => compL d.1 p tt te d.2 [] (wipeD σ vs) S1
def tYesD : DT := fun _ S => .ok true S
abbrev W0 : WX := fun _ _ _ _ => False
theorem PTs.weak {X : Cx} {e : List Expr} {t t' : TT} (h : PTs X e t) (w : ∀ σ H Q, t' σ H Q → t σ H Q) : PTs X e t' := ⟨fun pins s σ H Q I q => h.run pins s σ H Q I (w σ H Q q)⟩
theorem ts_nil : PTs X [] (tT X.K X.mg W tYesD) := PTs.weak pts_nil fun σ H Q hh => by
  obtain ⟨μ, σD, S, ok, en, hh⟩ := hh
  exact hh μ H true (Ext.refl _ _) ok rfl
theorem ts_one {c : Expr} {t : DT} (h : PT X c (tT X.K X.mg W t)) : PTs X [c] (tT X.K X.mg W t) := pts_one h
theorem tL_comp {K : PySem.W.Frag} {mg : Str → Option Value} {p : Pat} {vs : List Nat} (hp : ∀ i ∈ p.slots, i ∈ vs) {σ : L2.St} {H : Hp} {Q : VK} (hh : tL K mg W (lComp src p tt te vs) σ H Q) :
    tLc (tI K mg W src) (tPt K p) (tT K mg W0 tt) (tE K mg W0 te) vs σ H Q := by
  obtain ⟨μ, σD, S, ok, en, hh⟩ := hh
  refine ⟨μ, σD, S, ok, en, ?_⟩
  unfold lComp at hh
  cases q : src σD S with
  | no => rw [q] at hh; exact hh.elim
  | ex e S1 => rw [q] at hh; exact hh
  | ok d S1 =>
    rw [q] at hh
    obtain ⟨gd, ds⟩ := d
    simp only [Res.bind_ok] at hh
    intro μ1 H1 J x1 ok1 wk Da hDa
    have hDm : Da ∉ μ1 := ok1.notin hDa
    refine ⟨fun i m H2 => m = ds.length - i ∧ i ≤ ds.length ∧ ∃ μ2 S2 acc va, Ext μ1 H1 μ2 H2 ∧ Ok K μ2 H2 S2 ∧ Da ∉ μ2 ∧ H2 Da = some (.lst va) ∧ va.length ≤ sizeLine ∧ RL K μ2 H2 acc va ∧
        match compL gd p tt te (ds.drop i) acc (wipeD σD vs) S2 with
        | .ok xs S' => ∀ μ' H' a vs, Ext μ H μ' H' → Ok K μ' H' S' → a ∉ μ' → H a = none → H' a = some (.lst vs) → vs.length ≤ sizeLine → RL K μ' H' xs vs → Q (.ref a) H'
        | _ => False,
      ⟨ds.length, rfl, Nat.zero_le _, μ1, S1, [], [], ext_new hDa, ok1.laid hDa, hDm, upd_same, Nat.zero_le _, .nil, ?_⟩, ?_⟩
    · rw [List.drop_zero]
      cases q2 : compL gd p tt te ds [] (wipeD σD vs) S1 with
      | no => rw [q2] at hh; exact hh.elim
      | ex e S2 =>
        exfalso
        have noex : ∀ (ds : List D) acc σ S e S2, compL gd p tt te ds acc σ S ≠ .ex e S2 := by
          intro ds
          induction ds with
          | nil =>
            intro acc σ S e S2 h
            rw [compL] at h
            split at h <;> cases h
          | cons x xs ih =>
            intro acc σ S e S2 h
            rw [compL] at h
            split at h
            · split at h
              · split at h
                · split at h
                  · split at h
                    · exact ih _ _ _ _ _ h
                    · cases h
                  · cases h
                · exact ih _ _ _ _ _ h
                · cases h
              · cases h
            · cases h
        exact noex _ _ _ _ _ _ q2
      | ok xs S2 =>
        rw [q2] at hh
        exact hh
    · rintro i m H2 ⟨rfl, hi, μ2, S2, acc, va, x2, ok2, hm2, hd2, hl2, ra, h2⟩
      by_cases hlt : i < ds.length
      · rw [List.drop_eq_getElem_cons hlt, compL] at h2
        by_cases hgd : gd.ok S2
        · rw [if_pos hgd] at h2
          obtain ⟨go, yl⟩ := wk.go i μ2 H2 S2 ds[i] x2.sub ok2 hgd (List.getElem?_eq_getElem hlt)
          refine .inr ⟨go, fun H3 => ∃ μ3 S3 acc va, Ext μ1 H1 μ3 H3 ∧ Ok K μ3 H3 S3 ∧ Da ∉ μ3 ∧ H3 Da = some (.lst va) ∧ va.length ≤ sizeLine ∧ RL K μ3 H3 acc va ∧
              match compL gd p tt te (ds.drop (i + 1)) acc (wipeD σD vs) S3 with
              | .ok xs S' => ∀ μ' H' a vs, Ext μ H μ' H' → Ok K μ' H' S' → a ∉ μ' → H a = none → H' a = some (.lst vs) → vs.length ≤ sizeLine → RL K μ' H' xs vs → Q (.ref a) H'
              | _ => False,
            fun H3 h3 => ⟨ds.length - (i + 1), by omega, rfl, hlt, h3⟩, fun x H' hy => ?_⟩
          obtain ⟨xe, oke, re⟩ := yl x H' hy
          cases q2 : p.bind S2 ds[i] (wipeD σD vs) with
          | none => rw [q2] at h2; exact h2.elim
          | some σ1 =>
            rw [q2] at h2
            simp only at h2
            refine ⟨μ2, wipeD σD vs, S2, ds[i], oke, ((((en.mono x1).wipe vs).mono x2).mono xe), re, ?_⟩
            rw [q2]
            refine fun σV1 en1 hw => ⟨?_, ?_⟩
            · rw [hw vs hp]
              have : ∀ (l : List Nat) (τ : L2.St), L2.wipe (L2.wipe τ l) l = L2.wipe τ l := by
                intro l τ
                have gen : ∀ (a b : List Nat), (∀ i ∈ a, i ∈ b) → L2.wipe (L2.wipe τ b) a = L2.wipe τ b := by
                  intro a b
                  induction a with
                  | nil => intro _; rfl
                  | cons v a ih =>
                    intro hs
                    rw [L2.wipe, ih fun i hi => hs i (List.mem_cons_of_mem _ hi)]
                    -- the slot is forgotten already
                    have hv : v ∈ b := hs v List.mem_cons_self
                    apply List.ext_getElem?
                    intro j
                    by_cases hj : v = j
                    · subst hj
                      by_cases hlen : v < (L2.wipe τ b).length
                      · rw [List.getElem?_set_self hlen]
                        cases z : (L2.wipe τ b)[v]? with
                        | none => rw [List.getElem?_eq_getElem hlen] at z; cases z
                        | some o =>
                          cases o with
                          | none => rfl
                          | some y => exact absurd hv (wipe_some z).2
                      · rw [List.getElem?_eq_none (by rw [List.length_set]; omega), List.getElem?_eq_none (by omega)]
                    · rw [List.getElem?_set_ne hj]
                exact gen l l fun _ h => h
              exact this vs σ
            · refine ⟨μ2, σ1, S2, oke, en1, ?_⟩
              cases q3 : tt σ1 S2 with
              | no => rw [q3] at h2; exact h2.elim
              | ex e S3 => rw [q3] at h2; exact h2.elim
              | ok k S3 =>
                rw [q3] at h2
                intro μ3 H3 k' x3 ok3 ek
                cases ek
                have x23 : Ext μ2 H2 μ3 H3 := xe.trans x3
                have hm3 : Da ∉ μ3 := fun z => by
                  have := x23.new Da z hm2
                  rw [hd2] at this; cases this
                have hd3 : H3 Da = some (.lst va) := x23.keep _ _ hd2 fun z => absurd z hm2
                cases k with
                | false =>
                  rw [if_neg Bool.false_ne_true]
                  refine ⟨μ3, S3, acc, va, x2.trans x23, ok3, hm3, hd3, hl2, ra.mono x23, ?_⟩
                  simp only at h2
                  cases q4 : compL gd p tt te (ds.drop (i + 1)) acc (wipeD σD vs) S3 with
                  | ok xs S' =>
                    rw [q4] at h2
                    exact h2
                  | _ => rw [q4] at h2; exact h2.elim
                | true =>
                  rw [if_pos rfl]
                  simp only at h2
                  refine ⟨μ3, σ1, S3, ok3, en1.mono x3, ?_⟩
                  cases q4 : te σ1 S3 with
                  | no => rw [q4] at h2; exact h2.elim
                  | ex e S4 => rw [q4] at h2; exact h2.elim
                  | ok y S4 =>
                    rw [q4] at h2
                    simp only at h2
                    intro μ4 H4 vy x4 ok4 ry
                    have x24 : Ext μ2 H2 μ4 H4 := x23.trans x4
                    have hm4 : Da ∉ μ4 := fun z => by
                      have := x24.new Da z hm2
                      rw [hd2] at this; cases this
                    have hd4 : H4 Da = some (.lst va) := x24.keep _ _ hd2 fun z => absurd z hm2
                    by_cases hz : acc.length < sizeLine
                    · rw [if_pos hz] at h2
                      have hza : va.length < sizeLine := by rw [← ra.length]; exact hz
                      refine ⟨va, hd4, hza, ?_⟩
                      have xs4 : Sub μ4 H4 μ4 (upd H4 Da (.lst (va ++ [vy]))) := ⟨⟨[], by simp⟩, fun b o e im => by
                        by_cases hb : b = Da
                        · rw [hb, hd4] at e; cases e; exact absurd im fun z => z
                        · rw [upd_ne hb]; exact e⟩
                      have ok5 : Ok K μ4 (upd H4 Da (.lst (va ++ [vy]))) S4 := ⟨ok4.len, ok4.nd, fun l a c h1 h2 => (ok4.cell l a c h1 h2).subM xs4 fun o e => by
                        rw [upd_ne (fun z => hm4 (by rw [← z]; exact List.mem_of_getElem? h1))]; exact e⟩
                      have x14 : Ext μ1 H1 μ4 (upd H4 Da (.lst (va ++ [vy]))) := by
                        have x := x2.trans x24
                        refine ⟨x.pre, fun b o e hb => ?_, x.new⟩
                        rw [upd_ne (ne_of_none e hDa)]
                        exact x.keep b o e hb
                      refine ⟨μ4, S4, acc ++ [y], va ++ [vy], x14, ok5, hm4, upd_same, by rw [List.length_append]; exact hza, ((ra.mono x24).append (.cons ry .nil)).subM xs4, ?_⟩
                      cases q5 : compL gd p tt te (ds.drop (i + 1)) (acc ++ [y]) (wipeD σD vs) S4 with
                      | ok xs S' =>
                        rw [q5] at h2
                        exact h2
                      | _ => rw [q5] at h2; exact h2.elim
                    · rw [if_neg hz] at h2; exact h2.elim
        · rw [if_neg hgd] at h2; exact h2.elim
      · have e : i = ds.length := by omega
        subst e
        rw [List.drop_length, compL] at h2
        by_cases hgd : gd.ok S2
        · rw [if_pos hgd] at h2
          have hDH : H Da = none := by
            cases z : H Da with
            | none => rfl
            | some o =>
              by_cases hm : Da ∈ μ
              · obtain ⟨ν, e⟩ := x1.pre
                exact absurd (by rw [e]; exact List.mem_append_left _ hm) hDm
              · rw [x1.keep _ _ z fun h => absurd h hm] at hDa; cases hDa
          exact .inl ⟨wk.stop _ μ2 H2 S2 x2.sub ok2 hgd (Nat.le_refl _), h2 μ2 H2 Da va (x1.trans x2) ok2 hm2 hDH hd2 hl2 ra⟩
        · rw [if_neg hgd] at h2; exact h2.elim
end
end DL

namespace DL
open PySem PySem.Spec PyProof.Rows L2
/-! ### comprehensions as expressions -/
section
variable {X : Cx} {W : WX} {pos : Pos} {tg iter e elt : Expr} {f : DL'} {te : DE} {tt : DT} {src : DI} {ifs : List Expr}
theorem l_comp {scope : Scope} {own : List (Str × Nat)} {p : Pat} (hN : X.N.Nodup) (hi : PI X tg iter (tI X.K X.mg W src)) (ok : BlkOk X.N X.env.scope scope own) (hv : ∀ i ∈ p.slots, i ∈ own.map (·.2))
    (hg : ∀ (s : Shared) (H : Hp) (C : Addr) (cl : List (Str × Addr)) (fp : List Addr), PG (X.blk s H scope (compEnvC scope cl C X.env) fp) tg (tPt X.K p)) (ht : ∀ (s : Shared) (H : Hp) (C : Addr) (cl : List (Str × Addr)) (fp : List Addr), PTs (X.blk s H scope (compEnvC scope cl C X.env) fp) ifs (tT X.K X.mg W0 tt))
    (he : ∀ (s : Shared) (H : Hp) (C : Addr) (cl : List (Str × Addr)) (fp : List Addr), PE (X.blk s H scope (compEnvC scope cl C X.env) fp) elt (tE X.K X.mg W0 te)) (hc : X.calm = true := by rfl) (hs : ∀ x, foldedSetIterable iter X.env x = pure x := by intro _; rfl) :
    PE X (.ListComp elt [⟨tg, iter, ifs, 0⟩] scope pos) (tL X.K X.mg W (lComp src p tt te (own.map (·.2)))) := PE.weak (pe_lc hc hN hi ok hg ht he hs) fun _ _ _ => tL_comp hv
theorem s_setLc {i : Nat} {y : Str} {py spos : Pos} {scope : Scope} {own : List (Str × Nat)} {p : Pat} (hN : X.N.Nodup) (hi : PI X tg iter (tI X.K X.mg W src)) (ok : BlkOk X.N X.env.scope scope own) (hv : ∀ i ∈ p.slots, i ∈ own.map (·.2))
    (hg : ∀ (s : Shared) (H : Hp) (C : Addr) (cl : List (Str × Addr)) (fp : List Addr), PG (X.blk s H scope (compEnvC scope cl C X.env) fp) tg (tPt X.K p)) (ht : ∀ (s : Shared) (H : Hp) (C : Addr) (cl : List (Str × Addr)) (fp : List Addr), PTs (X.blk s H scope (compEnvC scope cl C X.env) fp) ifs (tT X.K X.mg W0 tt))
    (he : ∀ (s : Shared) (H : Hp) (C : Addr) (cl : List (Str × Addr)) (fp : List Addr), PE (X.blk s H scope (compEnvC scope cl C X.env) fp) elt (tE X.K X.mg W0 te))
    (hsw : swapsWith (.ListComp elt [⟨tg, iter, ifs, 0⟩] scope pos) (some (.Name y py)) spos.line X.env = pure true) (hc : X.calm = true := by rfl) (hy : X.N[i]? = some y := by rfl) (hyl : X.env.scope.names.lookup y = some .local := by rfl) (hs : ∀ x, foldedSetIterable iter X.env x = pure x := by intro _; rfl) :
    PS X (.Assign [.Name y py] (.ListComp elt [⟨tg, iter, ifs, 0⟩] scope pos) spos) (tS X.K X.mg W (sSet i (cAlloc (lComp src p tt te (own.map (·.2)))))) := by
  refine PS.weak (ps_setLc hc hN hy hyl hsw hi ok hg ht he hs) fun Dn σ H hh => ?_
  have h1 : tE X.K X.mg W (cAlloc (lComp src p tt te (own.map (·.2)))) σ H (fun x H1 => gName i x σ H1 Dn.nx) :=
    tS_E (k := fun σ d S1 => .nx (σ.set i (some d)) S1) hh fun σD d S μ' H' v ok en r hh => hh μ' H' _ (Ext.refl _ _) ok (en.set i r)
  exact tL_comp hv (tL_alloc h1)
/-- tuple of a new list, and its like: the list is not kept -/
def cOfL (k : List D → Option D) (f : DL') : DE := fun σ S => (f σ S).bind fun xs S1 => match k xs with
  | some d => .ok d S1
  | none => .no
theorem tL_ofL {k : List D → Option D} {K : PySem.W.Frag} {mg : Str → Option Value} {r : List V → Hp → VK → Prop} (hk : ∀ xs d a vs μ H S (Q : VK), k xs = some d → Ok K μ H S → a ∉ μ → H a = some (.lst vs) → vs.length ≤ sizeLine → RL K μ H xs vs → (∀ μ' H' v, Ext μ H μ' H' → Ok K μ' H' S → R K μ' H' d v → Q v H') → r [.ref a] H Q)
    {σ : L2.St} {H : Hp} {Q : VK} (hh : tE K mg W (cOfL k f) σ H Q) : tL K mg W f σ H fun v H1 => r [v] H1 Q := by
  obtain ⟨μ, σD, S, ok, en, hh⟩ := hh
  refine ⟨μ, σD, S, ok, en, ?_⟩
  unfold cOfL at hh
  cases q : f σD S with
  | no => rw [q] at hh; exact hh.elim
  | ex e S1 => rw [q] at hh; exact hh
  | ok xs S1 =>
    rw [q] at hh
    simp only [Res.bind_ok] at hh
    intro μ' H' a vs x ok' hn ha h l rr
    cases q2 : k xs with
    | none => rw [q2] at hh; exact hh.elim
    | some d =>
      rw [q2] at hh
      exact hk xs d a vs μ' H' S1 Q q2 ok' hn h l rr fun μ2 H2 v x2 => hh μ2 H2 v (x.trans x2)
theorem e_ofTy {T : String} {x : Str} {p : Pos} {k : List D → Option D} {r : List V → Hp → VK → Prop} (hcr : CallR X (.type T) r) (hk : ∀ xs d a vs μ H S (Q : VK), k xs = some d → Ok X.K μ H S → a ∉ μ → H a = some (.lst vs) → vs.length ≤ sizeLine → RL X.K μ H xs vs → (∀ μ' H' v, Ext μ H μ' H' → Ok X.K μ' H' S → R X.K μ' H' d v → Q v H') → r [.ref a] H Q)
    (hg : Gl X x) (hm : X.mg x = none) (hv : bootBuiltins x = some (.type T)) (ha : PE X e (tL X.K X.mg W f)) (hn : x ≠ "__name__" := by decide) (hdb : (x == ("__debug__" : Str)) = false := by decide)
    (he : starEach [e] X.env = (false, eval e X.env) :: starEach [] X.env := by rfl) (hpl : (backTo pos (starEach [] X.env)).any (·.1) = false := by rfl) : PE X (.Call (.Name x p) [e] [] pos) (tE X.K X.mg W (cOfL k f)) :=
  PE.weak (pe_callTy hcr hg hm hv (pa_cons ha pa_nil he) hn hdb he hpl) fun _ _ _ hh => tL_ofL hk hh
theorem e_ofB {T : String} {x : Str} {p : Pos} {k : List D → Option D} {r : List V → Hp → VK → Prop} (hcr : CallR X (.builtin T) r) (hk : ∀ xs d a vs μ H S (Q : VK), k xs = some d → Ok X.K μ H S → a ∉ μ → H a = some (.lst vs) → vs.length ≤ sizeLine → RL X.K μ H xs vs → (∀ μ' H' v, Ext μ H μ' H' → Ok X.K μ' H' S → R X.K μ' H' d v → Q v H') → r [.ref a] H Q)
    (hg : Gl X x) (hm : X.mg x = none) (hv : bootBuiltins x = some (.builtin T)) (ha : PE X e (tL X.K X.mg W f)) (hn : x ≠ "__name__" := by decide) (hdb : (x == ("__debug__" : Str)) = false := by decide)
    (he : starEach [e] X.env = (false, eval e X.env) :: starEach [] X.env := by rfl) (hpl : (backTo pos (starEach [] X.env)).any (·.1) = false := by rfl) : PE X (.Call (.Name x p) [e] [] pos) (tE X.K X.mg W (cOfL k f)) :=
  PE.weak (pe_callB hcr hg hm hv (pa_cons ha pa_nil he) hn hdb he hpl) fun _ _ _ hh => tL_ofL hk hh
def kTup : List D → Option D := fun xs => some (.tup xs)
def kAll : List D → Option D := fun xs => (bolsOf xs).map fun bs => .bl (bs.all id)
def kAny : List D → Option D := fun xs => (bolsOf xs).map fun bs => .bl (bs.any id)
def kSum : List D → Option D := fun xs => (intsOf xs).map fun bs => .int bs.sum
def kLen : List D → Option D := fun xs => some (.int xs.length)
theorem e_tupL {p : Pos} (hm : X.mg "tuple" = none) (ha : PE X e (tL X.K X.mg W f)) (hg : Gl X "tuple" := by rfl) (he : starEach [e] X.env = (false, eval e X.env) :: starEach [] X.env := by rfl) (hpl : (backTo pos (starEach [] X.env)).any (·.1) = false := by rfl) : PE X (.Call (.Name "tuple" p) [e] [] pos) (tE X.K X.mg W (cOfL kTup f)) :=
  e_ofTy call_tuple_of (fun xs d a vs μ H S Q hk ok hn h l rr hq => by
    cases hk
    exact ⟨a, vs, rfl, .inl ⟨.inl (.inl h), fun q hq' => hq μ _ _ (ext_new hq') (ok.laid hq') (.tup (.inl (.inl upd_same)) l (rr.mono (ext_new hq')))⟩⟩) hg hm (by decide +kernel) ha (by decide) (by decide) he hpl
theorem e_allL {p : Pos} (hm : X.mg "all" = none) (ha : PE X e (tL X.K X.mg W f)) (hc : X.calm = true := by rfl) (hg : Gl X "all" := by rfl) (he : starEach [e] X.env = (false, eval e X.env) :: starEach [] X.env := by rfl) (hpl : (backTo pos (starEach [] X.env)).any (·.1) = false := by rfl) : PE X (.Call (.Name "all" p) [e] [] pos) (tE X.K X.mg W (cOfL kAll f)) :=
  e_ofB (cr_all hc) (fun xs d a vs μ H S Q hk ok hn h l rr hq => by
    unfold kAll at hk
    cases q : bolsOf xs with
    | none => rw [q] at hk; cases hk
    | some bs =>
      rw [q] at hk; cases hk
      have e := bolsOf_eq q
      subst e
      rw [rr.bolsV] at h
      exact ⟨a, bs, rfl, .inl (.inl h), hq μ H _ (Ext.refl _ _) ok (.bl _)⟩) hg hm (by decide +kernel) ha (by decide) (by decide) he hpl
theorem e_anyL {p : Pos} (hm : X.mg "any" = none) (ha : PE X e (tL X.K X.mg W f)) (hc : X.calm = true := by rfl) (hg : Gl X "any" := by rfl) (he : starEach [e] X.env = (false, eval e X.env) :: starEach [] X.env := by rfl) (hpl : (backTo pos (starEach [] X.env)).any (·.1) = false := by rfl) : PE X (.Call (.Name "any" p) [e] [] pos) (tE X.K X.mg W (cOfL kAny f)) :=
  e_ofB (cr_any hc) (fun xs d a vs μ H S Q hk ok hn h l rr hq => by
    unfold kAny at hk
    cases q : bolsOf xs with
    | none => rw [q] at hk; cases hk
    | some bs =>
      rw [q] at hk; cases hk
      have e := bolsOf_eq q
      subst e
      rw [rr.bolsV] at h
      exact ⟨a, bs, rfl, .inl (.inl h), hq μ H _ (Ext.refl _ _) ok (.bl _)⟩) hg hm (by decide +kernel) ha (by decide) (by decide) he hpl
theorem e_sumL {p : Pos} (hm : X.mg "sum" = none) (ha : PE X e (tL X.K X.mg W f)) (hc : X.calm = true := by rfl) (hg : Gl X "sum" := by rfl) (he : starEach [e] X.env = (false, eval e X.env) :: starEach [] X.env := by rfl) (hpl : (backTo pos (starEach [] X.env)).any (·.1) = false := by rfl) : PE X (.Call (.Name "sum" p) [e] [] pos) (tE X.K X.mg W (cOfL kSum f)) :=
  e_ofB (cr_sum hc) (fun xs d a vs μ H S Q hk ok hn h l rr hq => by
    unfold kSum at hk
    cases q : intsOf xs with
    | none => rw [q] at hk; cases hk
    | some bs =>
      rw [q] at hk; cases hk
      have e := intsOf_eq q
      subst e
      rw [rr.intsV] at h
      exact ⟨a, bs, rfl, .inl (.inl h), hq μ H _ (Ext.refl _ _) ok (.int _)⟩) hg hm (by decide +kernel) ha (by decide) (by decide) he hpl
theorem e_lenL {p : Pos} (hm : X.mg "len" = none) (ha : PE X e (tL X.K X.mg W f)) (hg : Gl X "len" := by rfl) (he : starEach [e] X.env = (false, eval e X.env) :: starEach [] X.env := by rfl) (hpl : (backTo pos (starEach [] X.env)).any (·.1) = false := by rfl) : PE X (.Call (.Name "len" p) [e] [] pos) (tE X.K X.mg W (cOfL kLen f)) :=
  e_ofB call_len_seq (fun xs d a vs μ H S Q hk ok hn h l rr hq => by
    cases hk
    refine ⟨a, vs, rfl, .inl (.inl (.inl h)), ?_⟩
    rw [← rr.length]
    exact hq μ H _ (Ext.refl _ _) ok (.int _)) hg hm (by decide +kernel) ha (by decide) (by decide) he hpl
end

/-! ### defs -/
abbrev FD := List D → Store → Res D
def spD (K : PySem.W.Frag) (mg : Str → Option Value) (n : Nat) (F : FD) : Sp := fun vs H Q E => ∃ μ S ds, Ok K μ H S ∧ RL K μ H ds vs ∧ ds.length = n ∧ Post K mg (fun cls dx _ H' => E cls dx H') (R K) μ H [] (F ds S) Q
def cDef (n : Nat) (body : DS) : FD := fun ds S => match body (ds.map some ++ List.replicate (n - ds.length) none) S with
  | .nx _ S' => .ok .non S'
  | .rt d S' => .ok d S'
  | .ex e _ S' => .ex e S'
  | _ => .no
def cCall (F : FD) (a : DA) : DE := fun σ S => (a σ S).bind fun ds S1 => F ds S1
structure FnD (P : Program) (w : World) (K : PySem.W.Frag) (mg : Str → Option Value) (base : Heap) (lv : Nat) (x : Str) (n : Nat) (F : FD) : Prop where
  ex : ∃ f fd ps, mg x = some (.ref f) ∧ PySem.W.keepIn K (.ref f) = true ∧ Binds K fd ps [] ∧ ps.length = n ∧ FnOk P w K mg base (L2.CX P w) lv f fd ps (spD K mg n F)
section
variable {X : Cx} {W : WX} {pos p : Pos} {e : Expr} {es : List Expr} {fa : DA} {F : FD} {x : Str} {k j n : Nat}
theorem e_call (T : FnD X.prog X.w X.K X.mg X.base j x n F) (hr : Room k X.A) (hj : j ≤ k) (tk : Takes X W) (ha : PA X (e :: es) (tA X.K X.mg W fa)) (hn : ∀ σ S ds S', fa σ S = .ok ds S' → ds.length = n) (hg : Gl X x := by rfl) (hdb : (x == ("__debug__" : Str)) = false := by decide)
    (he : starEach (e :: es) X.env = (false, eval e X.env) :: starEach es X.env := by rfl) (hpl : (backTo pos (starEach es X.env)).any (·.1) = false := by rfl) : PE X (.Call (.Name x p) (e :: es) [] pos) (tE X.K X.mg W (cCall F fa)) := by
  obtain ⟨f, fd, ps, hm, hk, hb, hl, ok⟩ := T.ex
  refine PE.weak (pe_callS ok (hr.mono hj) hg hm hk hb (fun σ => passAt tk σ) ha hdb he hpl) fun σ H Q hh => ?_
  obtain ⟨μ, σD, S, ok0, en, hh⟩ := hh
  refine ⟨μ, σD, S, ok0, en, ?_⟩
  unfold cCall at hh
  cases q : fa σD S with
  | no => rw [q] at hh; exact hh.elim
  | ex e S1 => rw [q] at hh; exact hh
  | ok ds S1 =>
    rw [q] at hh
    simp only [Res.bind_ok] at hh
    intro μ1 H1 vs x1 ok1 rl
    refine ⟨μ1, S1, ds, ok1, rl, hn _ _ _ _ q, ?_⟩
    have h1 := Post.mono x1 hh
    cases q2 : F ds S1 with
    | ok d S2 => rw [q2] at h1; exact h1
    | ex e S2 => rw [q2] at h1; exact h1
    | no => rw [q2] at h1; exact h1
theorem aNil_len : ∀ (σ : Sg) (S : Store) (ds : List D) (S' : Store), aNil σ S = .ok ds S' → ds.length = 0 := fun σ S ds S' h => by cases h; rfl
theorem aCons_len {f : DE} {g : DA} {m : Nat} (hg : ∀ (σ : Sg) (S : Store) (ds : List D) (S' : Store), g σ S = .ok ds S' → ds.length = m) : ∀ (σ : Sg) (S : Store) (ds : List D) (S' : Store), aCons f g σ S = .ok ds S' → ds.length = m + 1 := fun σ S ds S' h => by
  unfold aCons at h
  cases q : f σ S with
  | no => rw [q] at h; cases h
  | ex e S1 => rw [q] at h; cases h
  | ok d S1 =>
    rw [q] at h
    simp only [Res.bind_ok] at h
    cases q2 : g σ S1 with
    | no => rw [q2] at h; cases h
    | ex e S2 => rw [q2] at h; cases h
    | ok ds2 S2 =>
      rw [q2] at h
      cases h
      rw [List.length_cons, hg _ _ _ _ q2]
end
section
variable {P : Program} {w : World} {K : PySem.W.Frag} {mg : Str → Option Value} {base : Heap}
theorem envStart {μ : List Addr} {H : Hp} {ds : List D} {vs : List V} (r : RL K μ H ds vs) (N : List Str) (n : Nat) (hn : N.length = n) : EnvR K μ H (ds.map some ++ List.replicate (n - ds.length) none) (L2.start N vs) := by
  subst hn
  unfold L2.start
  have hl := r.length
  refine ⟨by rw [List.length_append, List.length_append, List.length_map, List.length_map, List.length_replicate, List.length_replicate, hl], fun i d h => ?_⟩
  by_cases hi : i < ds.length
  · rw [List.getElem?_append_left (by simpa using hi), List.getElem?_map] at h
    cases q : ds[i]? with
    | none => rw [q] at h; cases h
    | some d' =>
      rw [q] at h; cases h
      obtain ⟨v, hv, rv⟩ := r.get q
      refine ⟨v, ?_, rv⟩
      rw [List.getElem?_append_left (by rw [List.length_map, ← hl]; exact hi), List.getElem?_map, hv]; rfl
  · rw [List.getElem?_append_right (by simpa using hi), List.getElem?_replicate] at h
    split at h <;> cases h
/-- THE RULE for a def -/
theorem d_def {x qual : Str} {st : Stmt} {N ps : List Str} {k n m : Nat} {body : DS} (Fn : ∃ f fd, mg x = some (.ref f) ∧ Fun K x qual st f fd) (S : FnScope N ps (defScope st)) (hN : N.length = m) (hps : ps.length = n)
    (hb : ∀ (kV doc pm : Value) (an : Option Addr) (cdv ct : Value) (us : List Value), us.length = ps.length → bindArgs (PySem.W.fnOf x qual (defArgs st) (defBody st) (defScope st) .none kV doc pm an cdv ct) ⟨us, []⟩ = pure (ps.zip us))
    (hbody : ∀ (f : Addr) (cdv : Value) (A : Around) (outer : List Env) (s : Shared) (H : Hp) (E : XK), Room k (A.deeper (envOfC qual (defScope st) s.heap.objs.size f cdv)) →
      Takes (cxOf (L2.CX P w) P w K mg base N qual (defScope st) f cdv A outer s H E) (fun cls d _ H => E cls d H) → PassesOwn (model P w) (A.deeper (envOfC qual (defScope st) s.heap.objs.size f cdv)) (envOfC qual (defScope st) s.heap.objs.size f cdv) (cxOf (L2.CX P w) P w K mg base N qual (defScope st) f cdv A outer s H E).xe →
      PSs (cxOf (L2.CX P w) P w K mg base N qual (defScope st) f cdv A outer s H E) (defBody st) (tS K mg (fun cls d _ H => E cls d H) body)) : FnD P w K mg base (k + 1) x n (cDef m body) := by
  obtain ⟨f, fd, hm, F⟩ := Fn
  refine ⟨f, fd, ps, hm, F.kp, F.binds hb, hps, F.okX S (fun vs H Q E h => ?_) fun cdv A outer s H vs Q E hr h => ?_⟩
  · obtain ⟨μ, S0, ds, ok, rl, hl, _⟩ := h
    rw [← rl.length, hl, hps]
  · obtain ⟨μ, S0, ds, ok, rl, hl, hh⟩ := h
    refine ⟨_, hbody f cdv A outer s H E hr (takes_of rfl rfl rfl rfl) (passes_of rfl), μ, _, S0, ok, envStart rl N m hN, ?_⟩
    unfold cDef at hh
    cases q : body (ds.map some ++ List.replicate (m - ds.length) none) S0 with
    | nx σ S1 =>
      rw [q] at hh
      exact fun μ' H' σV' x1 ok1 en1 => hh μ' H' .non x1 ok1 .non
    | rt d S1 =>
      rw [q] at hh
      exact hh
    | ex e σ S1 =>
      rw [q] at hh
      exact fun μ' H' σV' cls dx x1 ok1 en1 => hh μ' H' cls dx x1 ok1
    | bk σ S1 => rw [q] at hh; exact hh.elim
    | ct σ S1 => rw [q] at hh; exact hh.elim
    | no => rw [q] at hh; exact hh.elim
theorem only_sq {H : Hp} {a : Addr} {vs : List V} (o : Only H) (h : SqL K H a vs) : SqI K H a vs := by
  rcases h with (h | ⟨ob, h⟩) | h
  · rcases o a with z | ⟨ob, xs, z⟩
    · rw [h] at z; cases z
    · rw [h] at z; cases z
  · exact .inl ⟨ob, h⟩
  · exact .inr h
theorem law_sp {F : FD} {H : Hp} {a : Addr} {ns : List Int} (o : Only H) (h : SqL K H a (ns.map V.int)) (hl : ns.length ≤ sizeLine) (hF : ∃ S', F [.rol (ns.map D.int)] [] = .ok (.bl true) S') : spD K mg 1 F [.ref a] H (fun v _ => v = .bl true) fun _ _ _ => False := by
  obtain ⟨S', hF⟩ := hF
  refine ⟨[], [], [.rol (ns.map D.int)], ⟨rfl, List.nodup_nil, fun l a c h => by simp at h⟩, .cons (.rol (only_sq o h) (by rw [List.length_map]; exact hl) (RL.ints ns)) .nil, rfl, ?_⟩
  rw [hF]
  intro μ' H' v x ok r
  cases r
  rfl
end
end DL
namespace DL
open PySem PySem.Spec PyProof.Rows L2
section
variable {X : Cx} {W : WX} {pos : Pos} {a b c e : Expr} {f g h : DE} {K : PySem.W.Frag} {mg : Str → Option Value}
theorem e_globC {x : Str} {d : D} {v : V} (hm : ∃ u, X.mg x = some u ∧ RelV v u) (r : ∀ μ H, R X.K μ H d v) (hg : Gl X x := by rfl) (hd : (x == ("__debug__" : Str)) = false := by decide) : PE X (.Name x pos) (tE X.K X.mg W (cK d)) := by
  obtain ⟨u, hm, rv⟩ := hm
  exact e_glob hg hm rv r hd
/-- a < b < c -/
def cCh (k k' : O2) (f g h : DE) : DE := fun σ S => (f σ S).bind fun x S1 => (g σ S1).bind fun y S2 => match k x y S2 with
  | some (.bl true, S3) => (h σ S3).bind fun z S4 => Res.of (k' y z S4)
  | some (.bl false, S3) => .ok (.bl false) S3
  | _ => .no
theorem tE_chain {k k' : O2} {σ : L2.St} {H : Hp} {Q : VK} (hh : tE K mg W (cCh k k' f g h) σ H Q) : tChain (r2 K k) (r2 K k') (tE K mg W f) (tE K mg W g) (tE K mg W h) σ H Q := by
  obtain ⟨μ, σD, S, ok, en, hh⟩ := hh
  refine ⟨μ, σD, S, ok, en, Post.bind hh fun x S1 μ1 H1 v x1 ok1 rx h1 => ⟨μ1, σD, S1, ok1, en.mono x1, Post.bind h1 fun y S2 μ2 H2 u x2 ok2 ry h2 => ⟨μ2, S2, x, y, ok2, rx.mono x2, ry, ?_⟩⟩⟩
  cases q : k x y S2 with
  | none => rw [q] at h2; exact h2.elim
  | some p =>
    obtain ⟨d, S3⟩ := p
    rw [q] at h2
    intro μ3 H3 w x3 ok3 rw'
    cases d with
    | bl b =>
      cases rw'
      refine ⟨b, rfl, ?_⟩
      cases b with
      | false =>
        rw [if_neg Bool.false_ne_true]
        exact h2 μ3 H3 _ x3 ok3 (.bl _)
      | true =>
        rw [if_pos rfl]
        simp only at h2
        have h3 := Post.mono x3 h2
        exact ⟨μ3, σD, S3, ok3, (en.mono x1).mono (x2.trans x3), Post.bind h3 fun z S4 μ4 H4 t x4 ok4 rz h4 => ⟨μ4, S4, y, z, ok4, ry.mono (x3.trans x4), rz, h4.of⟩⟩
    | _ => exact h2.elim
end
end DL
namespace DL
open PySem PySem.Spec PyProof.Rows L2
section
variable {X : Cx} {W : WX} {pos : Pos} {a b c e : Expr} {f g h : DE}
theorem e_chain {op op' : CmpOp} {k k' : O2} (ho : OpR X (compareOp op) (r2 X.K k)) (ho' : OpR X (compareOp op') (r2 X.K k')) (ha : PE X a (tE X.K X.mg W f)) (hb : PE X b (tE X.K X.mg W g)) (hc : PE X c (tE X.K X.mg W h))
    (hm : lastMarks [op, op'] [b, c] = false := by with_unfolding_all rfl) : PE X (.Compare a [op, op'] [b, c] pos) (tE X.K X.mg W (cCh k k' f g h)) := PE.weak (pe_chain ho ho' ha hb hc hm) fun _ _ _ => tE_chain
theorem t_chain {op op' : CmpOp} {k k' : O2} (ho : OpR X (compareOp op) (r2 X.K k)) (ho' : OpR X (compareOp op') (r2 X.K k')) (ha : PE X a (tE X.K X.mg W f)) (hb : PE X b (tE X.K X.mg W g)) (hc : PE X c (tE X.K X.mg W h))
    (hm : lastMarks [op, op'] [b, c] = false := by with_unfolding_all rfl) : PT X (.Compare a [op, op'] [b, c] pos) (tT X.K X.mg W (cTest (cCh k k' f g h))) := by
  refine PT.weak (pt_chain ho ho' ha hb hc hm) fun σ H Q hh => ?_
  have h1 : tE X.K X.mg W (cCh k k' f g h) σ H fun v H1 => ∃ k, v = .bl k ∧ Q k H1 := tG1 (RA := R X.K) hh fun x S μ H v ok rx hh => by
    cases x with
    | bl b =>
      cases rx
      exact ⟨b, rfl, hh μ H b (Ext.refl _ _) ok rfl⟩
    | _ => exact hh.elim
  exact tE_chain h1
/-- where nothing is let out -/
theorem takes0' {X : Cx} : Takes X W0 := fun _ _ x => by
  obtain ⟨_, _, _, _, _, _, _, _, _, _, _, _, _, _, _, _, z⟩ := x
  exact z.elim
end
end DL

namespace DL
open PySem PySem.Spec PyProof.Rows L2
section
variable {X : Cx} {W : WX} {pos : Pos} {a b c e : Expr} {f g h : DE} {K : PySem.W.Frag} {mg : Str → Option Value}
/-! ### list(range(..)), tuple(range(..)) -/
def RgL (i j : Int) : Prop := okB i ∧ okB j ∧ (j - i).toNat ≤ 2 ^ 24
instance (i j : Int) : Decidable (RgL i j) := by unfold RgL; infer_instance
def lRange1 (f : DE) : DL' := fun σ S => (f σ S).bind fun x S1 => match x with
  | .int j => if RgL 0 j then .ok (intsTo 0 j.toNat) S1 else .no
  | _ => .no
def lRange2 (f g : DE) : DL' := fun σ S => (f σ S).bind fun x S1 => (g σ S1).bind fun y S2 => match x, y with
  | .int i, .int j => if RgL i j then .ok (intsTo i (j - i).toNat) S2 else .no
  | _, _ => .no
theorem rg_rl (μ : List Addr) (H : Hp) (i j : Int) : RL K μ H (intsTo i (j - i).toNat) (rgV i j) := by
  unfold intsTo rgV
  have : ∀ l : List Nat, RL K μ H (l.map fun k : Nat => D.int (i + k)) (l.map fun k : Nat => V.int (i + k)) := by
    intro l
    induction l with
    | nil => exact .nil
    | cons k l ih => exact .cons (.int _) ih
  exact this _
/-- a range that a list or a tuple is made of -/
def tRgD (K : PySem.W.Frag) (mg : Str → Option Value) (W : WX) (f : Sg → Store → Res (Int × Int)) : L2.St → Hp → (Int → Int → Hp → Prop) → Prop := fun σ H Q => tG K mg W (fun _ _ (a : Int × Int) (b : Int × Int) => a = b) f σ H fun p H1 => Q p.1 p.2 H1
def rRange1 (f : DE) : Sg → Store → Res (Int × Int) := fun σ S => (f σ S).bind fun x S1 => match x with
  | .int j => .ok (0, j) S1
  | _ => .no
def rRange2 (f g : DE) : Sg → Store → Res (Int × Int) := fun σ S => (f σ S).bind fun x S1 => (g σ S1).bind fun y S2 => match x, y with
  | .int i, .int j => .ok (i, j) S2
  | _, _ => .no
theorem PRg.weak {e : Expr} {t t' : L2.St → Hp → (Int → Int → Hp → Prop) → Prop} (h : PRg X e t) (w : ∀ σ H Q, t' σ H Q → t σ H Q) : PRg X e t' := fun pins s σ H Q I q => h pins s σ H Q I (w σ H Q q)
theorem rg_1 {p : Pos} (hm : X.mg "range" = none) (ha : PE X a (tE X.K X.mg W f)) (hg : Gl X "range" := by rfl) (na : starEach [a] X.env = (false, eval a X.env) :: starEach [] X.env := by rfl) : PRg X (.Call (.Name "range" p) [a] [] pos) (tRgD X.K X.mg W (rRange1 f)) :=
  PRg.weak (prg_1 hg hm ha na) fun σ H Q hh => tG1 (RA := R X.K) hh fun x S μ H v ok rx hh => by
    cases rx with
    | int j => exact ⟨j, rfl, hh μ H (0, j) (Ext.refl _ _) ok rfl⟩
    | _ => exact hh.elim
theorem rg_2 {p : Pos} (hm : X.mg "range" = none) (ha : PE X a (tE X.K X.mg W f)) (hb : PE X b (tE X.K X.mg W g)) (hg : Gl X "range" := by rfl) (na : starEach [a, b] X.env = (false, eval a X.env) :: starEach [b] X.env := by rfl) (nb : starEach [b] X.env = (false, eval b X.env) :: starEach [] X.env := by rfl) (hp2 : (backTo pos (starEach [b] X.env)).any (·.1) = false := by rfl) : PRg X (.Call (.Name "range" p) [a, b] [] pos) (tRgD X.K X.mg W (rRange2 f g)) :=
  PRg.weak (prg_2 hg hm ha hb na nb hp2) fun σ H Q hh => tG2 (RA := R X.K) (RB := R X.K) (fun _ _ _ _ _ _ x r => r.mono x) hh fun x y S μ H v u ok rx ry hh => by
    cases rx with
    | int i =>
      cases ry with
      | int j => exact ⟨i, j, rfl, rfl, hh μ H (i, j) (Ext.refl _ _) ok rfl⟩
      | _ => exact hh.elim
    | _ => exact hh.elim
def lRg (r : Sg → Store → Res (Int × Int)) : DL' := fun σ S => (r σ S).bind fun p S1 => if RgL p.1 p.2 then .ok (intsTo p.1 (p.2 - p.1).toNat) S1 else .no
def cTupRg (r : Sg → Store → Res (Int × Int)) : DE := fun σ S => (r σ S).bind fun p S1 => if RgL p.1 p.2 then .ok (.tup (intsTo p.1 (p.2 - p.1).toNat)) S1 else .no
theorem RgL.ok {i j : Int} (h : RgL i j) : RgOk i j := ⟨h.1.1, h.1.2, h.2.1.1, h.2.1.2, h.2.2⟩
theorem rgV_line {i j : Int} (h : RgL i j) : (rgV i j).length ≤ sizeLine := by
  rw [rgV_length, sizeLine_eq]
  have := h.2.2
  omega
theorem l_listRg {p : Pos} {r : Sg → Store → Res (Int × Int)} (hm : X.mg "list" = none) (he : PRg X e (tRgD X.K X.mg W r)) (hc : X.calm = true := by rfl) (hg : Gl X "list" := by rfl) (na : starEach [e] X.env = (false, eval e X.env) :: starEach [] X.env := by rfl) : PE X (.Call (.Name "list" p) [e] [] pos) (tL X.K X.mg W (lRg r)) :=
  PE.weak (pe_listRg hc hg hm he na) fun σ H Q hh => by
    obtain ⟨μ, σD, S, ok, en, hh⟩ := hh
    refine ⟨μ, σD, S, ok, en, ?_⟩
    unfold lRg at hh
    cases q : r σD S with
    | no => rw [q] at hh; exact hh.elim
    | ex e S1 => rw [q] at hh; exact hh
    | ok p S1 =>
      rw [q] at hh
      simp only [Res.bind_ok] at hh
      intro μ1 H1 p' x1 ok1 ep
      cases ep
      by_cases hr : RgL p.1 p.2
      · rw [if_pos hr] at hh
        refine ⟨hr.ok, fun q hq => ?_⟩
        exact hh μ1 _ q _ (x1.trans (ext_new hq)) (ok1.laid hq) (ok1.notin hq) (by
          cases z : H q with
          | none => rfl
          | some o =>
            by_cases hmem : q ∈ μ
            · obtain ⟨ν, e⟩ := x1.pre
              exact absurd (by rw [e]; exact List.mem_append_left _ hmem) (ok1.notin hq)
            · rw [x1.keep _ _ z fun h => absurd h hmem] at hq; cases hq) upd_same (rgV_line hr) (rg_rl _ _ _ _)
      · rw [if_neg hr] at hh; exact hh.elim
theorem e_tupRg {p : Pos} {r : Sg → Store → Res (Int × Int)} (hm : X.mg "tuple" = none) (he : PRg X e (tRgD X.K X.mg W r)) (hc : X.calm = true := by rfl) (hg : Gl X "tuple" := by rfl) (na : starEach [e] X.env = (false, eval e X.env) :: starEach [] X.env := by rfl) : PE X (.Call (.Name "tuple" p) [e] [] pos) (tE X.K X.mg W (cTupRg r)) :=
  PE.weak (pe_tupRg hc hg hm he na) fun σ H Q hh => tG1 (k := fun (p : Int × Int) S1 => if RgL p.1 p.2 then .ok (D.tup (intsTo p.1 (p.2 - p.1).toNat)) S1 else .no) (RC := R X.K) (RA := fun _ _ (a : Int × Int) (b : Int × Int) => a = b) hh fun p S μ H v ok ep hh => by
    cases ep
    by_cases hr : RgL p.1 p.2
    · rw [if_pos hr] at hh
      exact ⟨hr.ok, fun q hq => hh μ _ _ (ext_new hq) (ok.laid hq) (.tup (.inl (.inl upd_same)) (rgV_line hr) (rg_rl _ _ _ _))⟩
    · rw [if_neg hr] at hh; exact hh.elim
end
/-! ### a def that calls itself: by a number of turns -/
theorem FnD.zero {P : Program} {w : World} {K : PySem.W.Frag} {mg : Str → Option Value} {base : Heap} {x qual : Str} {st : Stmt} {ps : List Str} {k n : Nat} (Fn : ∃ f fd, mg x = some (.ref f) ∧ Fun K x qual st f fd) {N : List Str} (S : FnScope N ps (defScope st)) (hps : ps.length = n)
    (hb : ∀ (kV doc pm : Value) (an : Option Addr) (cdv ct : Value) (us : List Value), us.length = ps.length → bindArgs (PySem.W.fnOf x qual (defArgs st) (defBody st) (defScope st) .none kV doc pm an cdv ct) ⟨us, []⟩ = pure (ps.zip us)) : FnD P w K mg base (k + 1) x n (fun _ _ => .no) := by
  obtain ⟨f, fd, hm, F⟩ := Fn
  refine ⟨f, fd, ps, hm, F.kp, F.binds hb, hps, F.okX S (fun vs H Q E h => ?_) fun cdv A outer s H vs Q E hr h => ?_⟩
  · obtain ⟨μ, S0, ds, ok, rl, hl, _⟩ := h
    rw [← rl.length, hl, hps]
  · obtain ⟨μ, S0, ds, ok, rl, hl, hh⟩ := h
    exact hh.elim
/-! ### the end of a law -/
theorem d_fn {P : Program} {w : World} {K : PySem.W.Frag} {mg : Str → Option Value} {base : Heap} {x qual : Str} {st : Stmt} {f : Addr} {fd : FuncData} {N ps : List Str} {k n m : Nat} {body : DS} (F : Fun K x qual st f fd) (S : FnScope N ps (defScope st)) (hN : N.length = m) (hps : ps.length = n)
    (hbody : ∀ (f : Addr) (cdv : Value) (A : Around) (outer : List Env) (s : Shared) (H : Hp) (E : XK), Room k (A.deeper (envOfC qual (defScope st) s.heap.objs.size f cdv)) →
      Takes (cxOf (L2.CX P w) P w K mg base N qual (defScope st) f cdv A outer s H E) (fun cls d _ H => E cls d H) → PassesOwn (model P w) (A.deeper (envOfC qual (defScope st) s.heap.objs.size f cdv)) (envOfC qual (defScope st) s.heap.objs.size f cdv) (cxOf (L2.CX P w) P w K mg base N qual (defScope st) f cdv A outer s H E).xe →
      PSs (cxOf (L2.CX P w) P w K mg base N qual (defScope st) f cdv A outer s H E) (defBody st) (tS K mg (fun cls d _ H => E cls d H) body)) : FnOk P w K mg base (L2.CX P w) (k + 1) f fd ps (spD K mg n (cDef m body)) := by
  refine F.okX S (fun vs H Q E h => ?_) fun cdv A outer s H vs Q E hr h => ?_
  · obtain ⟨μ, S0, ds, ok, rl, hl, _⟩ := h
    rw [← rl.length, hl, hps]
  · obtain ⟨μ, S0, ds, ok, rl, hl, hh⟩ := h
    refine ⟨_, hbody f cdv A outer s H E hr (takes_of rfl rfl rfl rfl) (passes_of rfl), μ, _, S0, ok, envStart rl N m hN, ?_⟩
    unfold cDef at hh
    cases q : body (ds.map some ++ List.replicate (m - ds.length) none) S0 with
    | nx σ S1 =>
      rw [q] at hh
      exact fun μ' H' σV' x1 ok1 en1 => hh μ' H' .non x1 ok1 .non
    | rt d S1 =>
      rw [q] at hh
      exact hh
    | ex e σ S1 =>
      rw [q] at hh
      exact fun μ' H' σV' cls dx x1 ok1 en1 => hh μ' H' cls dx x1 ok1
    | bk σ S1 => rw [q] at hh; exact hh.elim
    | ct σ S1 => rw [q] at hh; exact hh.elim
    | no => rw [q] at hh; exact hh.elim
/-- the law's promise -/
def spLaw (K : PySem.W.Frag) (F : FD) : Sp := fun vs H Q _ => ∃ (a : Addr) (ns : List Int), vs = [.ref a] ∧ SqI K H a (ns.map V.int) ∧ ns.length ≤ sizeLine ∧ (∃ S', F [.rol (ns.map D.int)] [] = .ok (.bl true) S') ∧ ∀ H', Q (.bl true) H'
theorem law_imp {P : Program} {w : World} {K : PySem.W.Frag} {mg : Str → Option Value} {base : Heap} {CX : CXT} {k : Nat} {f : Addr} {fd : FuncData} {ps : List Str} {F : FD} (h : FnOk P w K mg base CX k f fd ps (spD K mg 1 F)) : FnOk P w K mg base CX k f fd ps (spLaw K F) :=
  h.imp fun vs H Q E hh => by
    obtain ⟨a, ns, rfl, hs, hl, ⟨S', hF⟩, hq⟩ := hh
    refine ⟨[], [], [.rol (ns.map D.int)], ⟨rfl, List.nodup_nil, fun l a c h => by simp at h⟩, .cons (.rol hs (by rw [List.length_map]; exact hl) (RL.ints ns)) .nil, rfl, ?_⟩
    rw [hF]
    intro μ' H' v x ok r
    cases r
    exact hq H'
/-- a def of the text as it stands behind the top -/
theorem top_f {K : PySem.W.Frag} {h : Heap} {mg : Str → Option Value} (X : K.In h) (G : h.Ns mainGlobals mg) {x : Str} {st : Stmt} {f : Addr} {od an : Option Addr} {sl : Array (Option Value)} {oc kV dc pm cd ct : Value}
    (a : PySem.W.nsIn K mainGlobals x = some (some (.ref f))) (l : K.lookup f = some ⟨oc, od, .func (PySem.W.fnOf x x (defArgs st) (defBody st) (defScope st) .none kV dc pm an cd ct), sl⟩) (c : PySem.W.codeIn K cd x = true) (k : PySem.W.keepIn K (.ref f) = true) :
    ∃ f fd, mg x = some (.ref f) ∧ Fun K x x st f fd := ⟨f, _, PySem.W.mg_of X G a, fun_mk l c k⟩
theorem top_c {K : PySem.W.Frag} {h : Heap} {mg : Str → Option Value} (X : K.In h) (G : h.Ns mainGlobals mg) {x : Str} {v : V} {u : Value} (r : RelV v u) (a : PySem.W.nsIn K mainGlobals x = some (some u)) : ∃ u, mg x = some u ∧ RelV v u := ⟨u, PySem.W.mg_of X G a, r⟩
theorem cx_end {P : Program} {w : World} {H : Hp} {s : Shared} {e : Value} {s' : Shared} (h : L2.CX P w [] H s (fun _ _ _ => False) e s') : False := by
  obtain ⟨_, _, _, _, _, _, _, _, _, _, _, _, z⟩ := h
  exact z
end DL

namespace PySem
open Sem (wp)
open Builtin Builtin.Str
open AutoSeq1 (wpAny_loadPart')
theorem xx_enumerate_newT (l : Addr) (items : Array Value) (n : Nat) (dct : Option Addr) (sl : Array (Option Value)) :
    Meets (Builtin.«enumerate.__new__» ⟨[.type "enumerate", .ref l], []⟩) (fun _ R s => s.heap.get? l = some { cls := .type "tuple", dict := dct, data := .seq items n, slots := sl } ∧
      R (.ok (.ret (.ref (s.heap.push { cls := .type "tuple_iterator", data := .fields #[.ref l, .int 0 0] }).objs.size)))
        { s with heap := (s.heap.push { cls := .type "tuple_iterator", data := .fields #[.ref l, .int 0 0] }).push { cls := .type "enumerate", data := .fields #[.none, .bool false, .ref s.heap.objs.size, rawInt 0, .none, .none] } }) :=
  .of_wp fun prog w A R s h => by
    obtain ⟨hp, g, d, tk, os⟩ := s; obtain ⟨hl, h⟩ := h
    have hsub := sub_enumerate
    have hL : Heap.IsTuple (Shared.heap ⟨hp, g, d, tk, os⟩) l items := ⟨_, hl, rfl, n, rfl⟩
    wp_walk using wpAny_loadPart' hl
    refine wpAny_stack_any fun st => wpAny_pure ?_
    split
    · rename_i c _ _ _ _ _
      cases (c == Value.type "enumerate")
      · wp_walk using wpAny_loadPart' hl, wpAny_pyIter_tuple hL
        exact ⟨_, rfl, h⟩
      · wp_walk using wpAny_loadPart' hl, wpAny_pyIter_tuple hL
        exact ⟨_, rfl, h⟩
    · wp_walk using wpAny_loadPart' hl, wpAny_pyIter_tuple hL
      exact ⟨_, rfl, h⟩
section
variable {prog : Program} {w : World} {A : Around} {E : Value → Shared → Prop} {s : Shared}
theorem xx_enumerate_tuple {l : Addr} {items : Array Value} {Q : Value → Shared → Prop} (hL : s.heap.IsTuple l items)
    (h : ∀ h', IsEnum h' (s.heap.objs.size + 1) s.heap.objs.size 0 .none → h'.IsTupleIter s.heap.objs.size l 0 → h'.objs.size = s.heap.objs.size + 2 →
      (∀ b o, s.heap.get? b = some o → h'.get? b = some o) → Q (.ref (s.heap.objs.size + 1)) { s with heap := h' }) :
    wpAny (model prog w) A (call (.type "enumerate") [.ref l]) Q E s := by
  obtain ⟨⟨c, dct, dt, sl⟩, hl, hc, n, hd⟩ := hL
  replace hc : c = .type "tuple" := hc
  replace hd : dt = .seq items n := hd
  subst hc hd
  refine callType_new F.called_enumerate (by decide) (F.typeCall_enumerate_1 _) (F.newCall_enumerate_1 _) (fun obj => F.args_object_init_2 obj _) F.entry_enumerate_new
    (xx_enumerate_newT l items n dct sl) ⟨hl, ?_⟩
  have hz : (s.heap.push { cls := .type "tuple_iterator", data := .fields #[.ref l, .int 0 0] }).objs.size = s.heap.objs.size + 1 := Heap.size_push ..
  show _ ∧ _
  rw [hz]
  have he : IsEnum ((s.heap.push { cls := .type "tuple_iterator", data := .fields #[.ref l, .int 0 0] }).push
      { cls := .type "enumerate", data := .fields #[.none, .bool false, .ref s.heap.objs.size, rawInt 0, .none, .none] }) (s.heap.objs.size + 1) s.heap.objs.size 0 .none := by
    have := Heap.get?_push_size (s.heap.push { cls := .type "tuple_iterator", data := .fields #[.ref l, .int 0 0] })
      (o := { cls := .type "enumerate", data := .fields #[.none, .bool false, .ref s.heap.objs.size, rawInt 0, .none, .none] }) rfl
    rw [hz] at this; exact this
  refine ⟨⟨_, he, rfl⟩, h _ he ⟨_, Heap.get?_push_of_some _ (Heap.get?_push_size _ rfl), rfl, rfl⟩ (by rw [Heap.size_push, hz]) fun b o x => Heap.get?_push_of_some _ (Heap.get?_push_of_some _ x)⟩
theorem xx_enum_tup_end {e it t : Addr} {i : Int} {j : Nat} {items : Array Value} {old : Value} {Q : Option Value → Shared → Prop} (hh : A.handled = none)
    (he : IsEnum s.heap e it i old) (hit : s.heap.IsTupleIter it t j) (ht : s.heap.IsTuple t items) (hx : items[j]? = none)
    (hQ : ∀ h', Heap.ExtBut it s.heap h' → Q none { s with heap := h' }) : wpAny (model prog w) A (pyNext (.ref e)) Q E s := by
  have hT : s.TypeIs (.ref e) "enumerate" := ⟨_, he, rfl⟩
  unfold pyNext
  refine wpAny_bind (wpAny_attempt (wpAny_callSpecial?_slot (name := Str.ofString "__next__") hT F.slot_enumerate_next
    (wpAny_call_entry F.slot_enumerate_next hT F.entry_enumerate_next ?_ (F.args_enumerate_next_1 _))))
  show wpAny _ _ (field (.ref e) 2 >>= _) _ _ _
  refine wpAny_bind (wpAny_field he rfl (x := .ref it) rfl ?_)
  refine wpAny_bind (wpAny_nextOf_tuple_end (A := A.in1) hh hit ht hx fun h' x he' hx' => ?_)
  obtain ⟨o, ho, hc⟩ := hx'
  refine wpAny_bind (wpAny_isInstance (T := "StopIteration") (b := true) ⟨o, ho, hc⟩ isSubtype_stop ?_)
  exact wpAny_pure (hQ _ he')
end
end PySem
namespace DL
open PySem PySem.Spec PyProof.Rows L2
/-- enumerate of a tuple -/
def IteT (K : PySem.W.Frag) (a : Addr) : It :=
  ⟨fun i H => ∃ (xs : List V) (x : V), SqT K H a xs ∧ xs[i]? = some x, fun i H v H' => ∃ T x, v = .ref T ∧ H T = none ∧ H' = upd H T (.tup [.int (i : Nat), x]) ∧ ∀ xs, SqT K H a xs → xs[i]? = some x, fun i H => ∃ xs : List V, SqT K H a xs ∧ xs.length ≤ i⟩
theorem turn_enumT {P : Program} {w : World} {K : PySem.W.Frag} {elts : List Expr} {kk : Nat} {tpos : Pos} (a e it : Addr) :
    Turn P w K (.Tuple elts kk tpos) (IteT K a) [e, it] e (fun i h => (∃ old, IsEnum h e it ((i : Nat) : Int) old) ∧ h.IsTupleIter it a i ∧ e ≠ it ∧ a ≠ it ∧ e ≠ a) where
  mem := by simp
  obj := fun i h st b hb => by
    obtain ⟨⟨old, he⟩, ⟨o, ho, hc, hd⟩, _⟩ := st
    have e' : b = e ∨ b = it := by simpa using hb
    rcases e' with z | z
    · rw [z]; exact ⟨_, he, fun v q => nomatch q⟩
    · rw [z]; exact ⟨o, ho, fun v q => by rw [hd] at q; cases q⟩
  keep := fun i h h' st k => let ⟨⟨old, he⟩, hi, hne⟩ := st; ⟨⟨old, k e (by simp) _ he⟩, hi.at fun o q => k it (by simp) o q, hne⟩
  item := by
    intro X hP hw hK hc i pins s σ H E I hf st hg
    subst hP hw hK
    obtain ⟨⟨old, he⟩, hit, hne, hai, hea⟩ := st
    obtain ⟨xs, x, hq, hx⟩ := hg
    obtain ⟨its, rv, p, hz⟩ := I.tuple hq
    obtain ⟨u, hu, ru⟩ := rv.get hx
    have hel : e < s.heap.objs.size := Heap.lt_size he
    have hil : it < s.heap.objs.size := by obtain ⟨_, q, _⟩ := hit; exact Heap.lt_size q
    have hlt : i < its.toArray.size := by
      have := (List.getElem?_eq_some_iff.mp hu).1
      simpa using this
    refine wpAny_pyNext_enum_itemD (Draws.tuple (A := X.A.in1) (I.ok.hd hc) it a hai its.toArray) he ⟨hit, p⟩ hlt hne (by simp [hne, hea]) fun x' h' tk hxP ho hst' hT hsz hk => ?_
    have hx' : x' = u := by
      have : its.toArray[i]? = some u := by simpa using hu
      rw [this] at hxP; cases hxP; rfl
    subst hx'
    refine ⟨_, rfl, wpAny_letOwnedTupleGo_enum (s := { s with heap := h', toks := tk + 1 }) ho fun h'' he' sb => ?_⟩
    have hT2 : h''.get? s.heap.objs.size = some { cls := .type "tuple", data := .seq #[.int i tk, x'] } := (sb.2 _ (Nat.ne_of_gt hel)).trans hT
    have new : ObjOk X.prog X.w (upd H s.heap.objs.size (.tup [.int (i : Nat), x])) h'' s.heap.objs.size (.tup [.int (i : Nat), x]) :=
      ⟨by show 2 ≤ sizeLine; decide, [.int i tk, x'], .cons ⟨_, rfl⟩ (.cons ru .nil), ⟨_, hT2, rfl, _, rfl⟩⟩
    have I1 : Inv X pins σ (upd H s.heap.objs.size (.tup [.int (i : Nat), x])) { s with heap := h'', toks := tk + 1 } :=
      I.turnedNew (ch := [e, it]) (fun b ob hb q => (sb.2 b (fun z => hb (by simp [z]))).trans (hk b ob (fun z => hb (by simp [z])) (fun z => hb (by simp [z])) q)) hf (Nat.le_refl _) new
    refine ⟨.ref s.heap.objs.size, _, I1, rfl, ⟨_, x, rfl, I.hok.fresh (Nat.le_refl _), rfl, fun ys hy => by rw [I.tuple_inj hy hq]; exact hx⟩, ⟨⟨x', ?_⟩, hst'.1.at fun o q => (sb.2 it (Ne.symm hne)).trans q, hne, hai, hea⟩, fun b hb => ?_⟩
    · have e1 : ((i + 1 : Nat) : Int) = (i : Int) + 1 := by omega
      rw [e1]; exact he'
    · have hb' : b < s.heap.objs.size := by
        have e' : b = e ∨ b = it := by simpa using hb
        rcases e' with z | z
        · rw [z]; exact hel
        · rw [z]; exact hil
      rw [upd_ne (Nat.ne_of_lt hb')]
      exact (hf b hb).1
  done := by
    intro X hP hw hK hc i pins s σ H E I hf st hg
    subst hP hw hK
    obtain ⟨⟨old, he⟩, hit, hne, hai, hea⟩ := st
    obtain ⟨xs, hq, hx⟩ := hg
    obtain ⟨its, rv, p, hz⟩ := I.tuple hq
    obtain ⟨f0, f1, f2, f3, f4, f5⟩ := hf it (by simp)
    have hl := rv.length
    exact xx_enum_tup_end (I.ok.hd hc) he hit p (by simp; omega) fun h' eb => ⟨rfl, I.turned (t' := s.toks) (fun b o hb q => eb b o hb q) f0 f1 f3 f4 f5⟩
  self := fun A i s Q E st h => let ⟨⟨_, he⟩, _⟩ := st; wpAny_pyIter_enum he h
def iEnumA (K : PySem.W.Frag) (ta : TA) : TI := fun σ H R => ta σ H fun vs H1 => ∃ a xs, vs = [.ref a] ∧ ((SqL K H1 a xs ∧ R (Ite K a) H1) ∨ (SqT K H1 a xs ∧ R (IteT K a) H1))
theorem pi_enumA {X : Cx} {e : Expr} {ta : TA} {p pos tpos : Pos} {elts : List Expr} {kk : Nat} (hg : Gl X "enumerate") (hm : X.mg "enumerate" = none) (ha : PA X [e] ta) (hs : starEach [e] X.env = [(false, eval e X.env)] := by rfl) :
    PI X (.Tuple elts kk tpos) (.Call (.Name "enumerate" p) [e] [] pos) (iEnumA X.K ta) := by
  refine ⟨fun pins s σ H R I h => ?_⟩
  refine Call_ (ld_blt I hg hm boot_enumerate (PyProof.Rows.callWith_type1 (thn (ha.run pos pins s σ H _ I h) fun us s1 ⟨vs, H1, I1, r1, q1⟩ => ?_) hs rfl))
  obtain ⟨a, xs, ex, q1⟩ := q1
  subst ex
  cases r1 with
  | cons r rr =>
    cases rr
    cases r
    have fr : ∀ b ∈ [s1.heap.objs.size + 1, s1.heap.objs.size], FpOk X pins H1 b := fun b hb => by
      have e' : b = s1.heap.objs.size + 1 ∨ b = s1.heap.objs.size := by simpa using hb
      have hle : s1.heap.objs.size ≤ b := by
        rcases e' with z | z
        · rw [z]; exact Nat.le_add_right _ _
        · rw [z]; exact Nat.le_refl _
      exact I1.fpOk hle (I1.hok.fresh hle)
    rcases q1 with ⟨hq, q⟩ | ⟨hq, q⟩
    · obtain ⟨its, rv, p', hz⟩ := I1.list hq
      refine call_enumerate_list p'.isList fun h' he hit hsz hk => wpAny_pyIter_enum he ?_
      have I2 : Inv X pins σ H1 { s1 with heap := h' } := I1.kept (t' := s1.toks) hk
      exact ⟨s1.heap.objs.size + 1, [s1.heap.objs.size + 1, s1.heap.objs.size], _, _, H1, rfl, I2, turn_enum a (s1.heap.objs.size + 1) s1.heap.objs.size, ⟨⟨.none, he⟩, hit, Nat.succ_ne_self _⟩, fr, q⟩
    · obtain ⟨its, rv, p', hz⟩ := I1.tuple hq
      refine xx_enumerate_tuple p' fun h' he hit hsz hk => wpAny_pyIter_enum he ?_
      have I2 : Inv X pins σ H1 { s1 with heap := h' } := I1.kept (t' := s1.toks) hk
      have hlt : a < s1.heap.objs.size := by obtain ⟨o, ho, _⟩ := p'; exact Heap.lt_size ho
      exact ⟨s1.heap.objs.size + 1, [s1.heap.objs.size + 1, s1.heap.objs.size], _, _, H1, rfl, I2, turn_enumT a (s1.heap.objs.size + 1) s1.heap.objs.size, ⟨⟨.none, he⟩, hit, Nat.succ_ne_self _, Nat.ne_of_lt hlt, Nat.ne_of_gt (Nat.lt_succ_of_lt hlt)⟩, fr, q⟩
/-- enumerate of a tuple, of a list -/
def enumA (x : D) (S : Store) : Res (Gd × List D) := match x with
  | .tup xs => .ok (none, numbered 0 xs) S
  | x => enumL x S
theorem wlk_enumT {K : PySem.W.Frag} {μ0 : List Addr} {H0 : Hp} {a : Addr} {vs : List V} {xs : List D} (hq : SqT K H0 a vs) (rr : RL K μ0 H0 xs vs) : Wlk K (IteT K a) μ0 H0 (none, numbered 0 xs) where
  go := fun i μ' H' S d x ok g hd => by
    rw [numbered_get] at hd
    cases q : xs[i]? with
    | none => rw [q] at hd; cases hd
    | some y =>
      rw [q] at hd; cases hd
      obtain ⟨v, hv, rv⟩ := rr.get q
      refine ⟨⟨vs, v, x.sqT hq, hv⟩, ?_⟩
      rintro z H'' ⟨T, w, rfl, hT, rfl, hw⟩
      have e := hw _ (x.sqT hq)
      rw [hv] at e; cases e
      have x1 : Ext μ' H' μ' (upd H' T (.tup [.int (i : Nat), v])) := ext_new hT
      refine ⟨x1, ok.laid hT, .tup (SqT.of upd_same) (by show 2 ≤ sizeLine; decide) (.cons ?_ (.cons ((rv.subM x).mono x1) .nil))⟩
      rw [Nat.zero_add]; exact .int _
  stop := fun i μ' H' S x ok g hi => by
    rw [show ((none, numbered 0 xs) : Gd × List D).2 = numbered 0 xs from rfl, numbered_length] at hi
    exact ⟨vs, x.sqT hq, by rw [← rr.length]; exact hi⟩
section
variable {X : Cx} {W : WX} {pos : Pos} {e : Expr} {f : DE}
def cEnumA (f : DE) : DI := fun σ S => (f σ S).bind enumA
theorem i_enum {elts : List Expr} {kk : Nat} {p tpos : Pos} (hm : X.mg "enumerate" = none) (he : PE X e (tE X.K X.mg W f)) (hg : Gl X "enumerate" := by rfl) (hs : starEach [e] X.env = [(false, eval e X.env)] := by rfl) :
    PI X (.Tuple elts kk tpos) (.Call (.Name "enumerate" p) [e] [] pos) (tI X.K X.mg W (cEnumA f)) :=
  PI.weak (pi_enumA hg hm (pa_cons he pa_nil hs) hs) fun σ H Q hh => tG1 (k := enumA) (RA := R X.K) hh fun x S μ H v ok rx hh => by
    cases rx with
    | @tup p vs xs hs hl rr => exact ⟨p, vs, rfl, .inr ⟨hs, hh μ H _ (Ext.refl _ _) ok (wlk_enumT hs rr)⟩⟩
    | @rol p vs xs hs hl rr =>
      exact ⟨p, vs, rfl, .inl ⟨hs.sq, hh μ H _ (Ext.refl _ _) ok (wlk_enum fun μ' H' S' x _ _ => ⟨vs, (x.sqI hs).sq, rr.subM x⟩)⟩⟩
    | @loc l p hl =>
      simp only [enumA, enumL] at hh
      cases q : S[l]? with
      | none => rw [q] at hh; exact hh.elim
      | some c =>
        cases c with
        | lst xs =>
          rw [q] at hh
          obtain ⟨p', vs, e1, _, hv, _, rr⟩ := loc_at ok (R.loc hl) q
          cases e1
          exact ⟨p, vs, rfl, .inl ⟨.inl (.inl hv), hh μ H _ (Ext.refl _ _) ok (wlk_enum fun μ' H' S' x ok' g => gd_loc hl x ok' g)⟩⟩
    | _ => exact hh.elim
end
/-! str(..) -/
def oStr : OA := fun xs S => match xs with
  | [.int i] => if i.natAbs.log2 < 1920 then some (.str (toString i), S) else none
  | [.str a] => some (.str a, S)
  | _ => none
section
variable {X : Cx}
theorem d_str : CallR X (.type "str") (rA X.K oStr) := by
  intro pins s σ H xs us Q I r hr
  obtain ⟨μ, S, ds, ok, rd, hp⟩ := hr
  unfold oStr at hp
  split at hp
  · obtain ⟨v, rfl, rx⟩ := rd.one
    cases rx
    split at hp
    · rename_i hb
      exact call_str_int pins s σ H _ us Q I r ⟨_, rfl, hb, hp.same ok (.str _)⟩
    · exact hp.elim
  · obtain ⟨v, rfl, rx⟩ := rd.one
    cases rx
    exact SkE.call_str_str pins s σ H _ us Q I r ⟨_, rfl, hp.same ok (.str _)⟩
  · exact hp.elim
end
end DL

namespace DL
open PySem PySem.Spec PyProof.Rows L2
/-! ### what has to hold ahead, of mirrors: the continuation stands where simp does not look -/
def Tg {α : Sort _} (_ : α) : Type := Unit
abbrev tg {α : Sort _} {a : α} : Tg a := ()
abbrev XQ := Exn → Store → Prop
def X0 : XQ := fun _ _ => False
def W {α : Type} (q : XQ × (α → Store → Prop)) (_ : Tg q) (r : Res α) : Prop := match r with
  | .ok a S => q.2 a S
  | .ex e S => q.1 e S
  | .no => False
/-- an operation's answer -/
def WO (q : D → Store → Prop) (_ : Tg q) (r : Option (D × Store)) : Prop := match r with
  | some (d, S) => q d S
  | none => False
/-- something that has to be there -/
def WM {α : Type} (q : α → Prop) (_ : Tg q) (r : Option α) : Prop := match r with
  | some d => q d
  | none => False
structure BQ where
  t : Store → Prop
  f : Store → Prop
  x : XQ
/-- a test -/
def WB (q : BQ) (_ : Tg q) (r : Res Bool) : Prop := match r with
  | .ok true S => q.t S
  | .ok false S => q.f S
  | .ex e S => q.x e S
  | .no => False
structure SQ where
  nx : Sg → Store → Prop
  rt : D → Store → Prop
  bk : Sg → Store → Prop
  ct : Sg → Store → Prop
  ex : Exn → Sg → Store → Prop
def WS (q : SQ) (_ : Tg q) (r : SR) : Prop := match r with
  | .nx σ S => q.nx σ S
  | .rt d S => q.rt d S
  | .bk σ S => q.bk σ S
  | .ct σ S => q.ct σ S
  | .ex e σ S => q.ex e σ S
  | .no => False
def qd (q : XQ × (D → Store → Prop)) : SQ := ⟨fun _ S => q.2 .non S, q.2, fun _ _ => False, fun _ _ => False, fun e _ S => q.1 e S⟩
def qn (q : SQ) (k : Sg → Store → Prop) : SQ := ⟨k, q.rt, q.bk, q.ct, q.ex⟩
def qk (q : SQ) (k : Sg → Store → Prop) : SQ := ⟨k, fun _ _ => False, fun _ _ => False, fun _ _ => False, q.ex⟩
/-- one turn -/
def lq (q : SQ) (k : Sg → Store → Prop) : SQ := ⟨k, q.rt, q.nx, k, q.ex⟩
/-- the items of what is walked -/
def WI (q : XQ × (Gd → List D → Store → Prop)) (_ : Tg q) (r : Res (Gd × List D)) : Prop := match r with
  | .ok a S => q.2 a.1 a.2 S
  | .ex e S => q.1 e S
  | .no => False
theorem W_eq {α : Type} {r : Res α} {a : α} {S : Store} (h : W (X0, fun b S' => b = a ∧ S' = S) tg r) : r = .ok a S := by
  cases r with
  | ok b S' => obtain ⟨rfl, rfl⟩ := h; rfl
  | ex e S' => exact h.elim
  | no => exact h.elim
theorem W_ex {α : Type} {r : Res α} {Q : α → Store → Prop} (h : W (X0, Q) tg r) : ∃ a S, r = .ok a S ∧ Q a S := by
  cases r with
  | ok b S' => exact ⟨b, S', rfl, h⟩
  | ex e S' => exact h.elim
  | no => exact h.elim
theorem W_mono {α : Type} {q q' : XQ × (α → Store → Prop)} {t : Tg q} {t' : Tg q'} {r : Res α} (h : W q t r) (hq : ∀ a S, q.2 a S → q'.2 a S) (hx : ∀ e S, q.1 e S → q'.1 e S) : W q' t' r := by
  cases r with
  | ok b S' => exact hq _ _ h
  | ex e S' => exact hx _ _ h
  | no => exact h.elim
theorem WS_mono {q q' : SQ} {t : Tg q} {t' : Tg q'} {r : SR} (h : WS q t r) (h1 : ∀ σ S, q.nx σ S → q'.nx σ S) (h2 : ∀ σ S, q.rt σ S → q'.rt σ S) (h3 : ∀ σ S, q.bk σ S → q'.bk σ S) (h4 : ∀ σ S, q.ct σ S → q'.ct σ S) (h5 : ∀ e σ S, q.ex e σ S → q'.ex e σ S) : WS q' t' r := by
  cases r with
  | nx σ S => exact h1 _ _ h
  | rt σ S => exact h2 _ _ h
  | bk σ S => exact h3 _ _ h
  | ct σ S => exact h4 _ _ h
  | ex e σ S => exact h5 _ _ _ h
  | no => exact h.elim
section
variable {α : Type} {x : XQ} {Q : D → Store → Prop} {QA : List D → Store → Prop} {σ : Sg} {S : Store} {f g h : DE} {t u : DT} {fa : DA} {fs gs : DS} {k : O2} {q : SQ} {b : BQ} {d : D} {i : Nat}
theorem W_ok {Q : α → Store → Prop} {a : α} {tt} : W (x, Q) tt (.ok a S) = Q a S := (rfl)
theorem W_exn {Q : α → Store → Prop} {e : Exn} {tt} : W (x, Q) tt (.ex e S) = x e S := (rfl)
theorem W_var0 {r : Sg} {tt} : W (x, Q) tt (cVar 0 (some d :: r) S) = Q d S := (rfl)
theorem W_varS {o : Option D} {r : Sg} {tt} : W (x, Q) tt (cVar (i + 1) (o :: r) S) = W (x, Q) tg (cVar i r S) := (rfl)
theorem W_K {tt} : W (x, Q) tt (cK d σ S) = Q d S := (rfl)
theorem W_bin {tt} : W (x, Q) tt (cBin k f g σ S) = W (x, fun a S1 => W (x, fun c S2 => WO Q tg (k a c S2)) tg (g σ S1)) tg (f σ S) := by
  unfold cBin
  cases f σ S with
  | ok a S1 =>
    simp only [Res.bind_ok, W]
    cases g σ S1 with
    | ok c S2 =>
      simp only [Res.bind_ok]
      cases k a c S2 <;> rfl
    | _ => rfl
  | _ => rfl
theorem W_un {k : O1} {tt} : W (x, Q) tt (cUn k f σ S) = W (x, fun a S1 => WO Q tg (k a S1)) tg (f σ S) := by
  unfold cUn
  cases f σ S with
  | ok a S1 =>
    simp only [Res.bind_ok, W]
    cases k a S1 <;> rfl
  | _ => rfl
theorem W_aNil {tt} : W (x, QA) tt (aNil σ S) = QA [] S := (rfl)
theorem W_aCons {tt} : W (x, QA) tt (aCons f fa σ S) = W (x, fun a S1 => W (x, fun c S2 => QA (a :: c) S2) tg (fa σ S1)) tg (f σ S) := by
  unfold aCons
  cases f σ S with
  | ok a S1 =>
    simp only [Res.bind_ok, W]
    cases fa σ S1 <;> rfl
  | _ => rfl
theorem W_arg {k : OA} {tt} : W (x, Q) tt (cArg k fa σ S) = W (x, fun a S1 => WO Q tg (k a S1)) tg (fa σ S) := by
  unfold cArg
  cases fa σ S with
  | ok a S1 =>
    simp only [Res.bind_ok, W]
    cases k a S1 <;> rfl
  | _ => rfl
theorem W_call {F : FD} {tt} : W (x, Q) tt (cCall F fa σ S) = W (x, fun a S1 => W (x, Q) tg (F a S1)) tg (fa σ S) := by
  unfold cCall
  cases fa σ S with
  | ok a S1 =>
    simp only [Res.bind_ok, W]
  | _ => rfl
theorem W_of {r : Option (D × Store)} {tt} : W (x, Q) tt (Res.of r) = WO Q tg r := by
  cases r <;> rfl
def tcase (q : BQ) (x : D) (S : Store) : Prop := match x with
  | .bl c => (c = true → q.t S) ∧ (c = false → q.f S)
  | _ => False
theorem WB_test {tt} : WB b tt (cTest f σ S) = W (b.x, fun a S1 => tcase b a S1) tg (f σ S) := by
  unfold cTest
  cases f σ S with
  | ok a S1 =>
    simp only [Res.bind_ok, W]
    cases a with
    | bl c => cases c <;> simp [WB, tcase]
    | _ => rfl
  | _ => rfl
theorem tc_bl {c : Bool} : tcase b (.bl c) S = ((c = true → b.t S) ∧ (c = false → b.f S)) := (rfl)
def trcase (q : BQ) (S : Store) (c : Bool) : Prop := (c = true → q.t S) ∧ (c = false → q.f S)
theorem WB_tru {tt} : WB b tt (cTru f σ S) = W (b.x, fun a S1 => WM (trcase b S1) tg (dTru a S1)) tg (f σ S) := by
  unfold cTru
  cases f σ S with
  | ok a S1 =>
    simp only [Res.bind_ok, W]
    cases dTru a S1 with
    | some c => cases c <;> simp [WB, trcase, WM, Res.of]
    | none => rfl
  | _ => rfl
theorem trc {c : Bool} : trcase b S c = ((c = true → b.t S) ∧ (c = false → b.f S)) := (rfl)
theorem WB_and {tt} : WB b tt (cAnd t u σ S) = WB ⟨fun S1 => WB b tg (u σ S1), b.f, b.x⟩ tg (t σ S) := by
  unfold cAnd
  cases t σ S with
  | ok a S1 => cases a <;> rfl
  | _ => rfl
theorem WB_or {tt} : WB b tt (cOr t u σ S) = WB ⟨b.t, fun S1 => WB b tg (u σ S1), b.x⟩ tg (t σ S) := by
  unfold cOr
  cases t σ S with
  | ok a S1 => cases a <;> rfl
  | _ => rfl
theorem WB_not {tt} : WB b tt (cNot t σ S) = WB ⟨b.f, b.t, b.x⟩ tg (t σ S) := by
  unfold cNot
  cases t σ S with
  | ok a S1 => cases a <;> rfl
  | _ => rfl
theorem W_if {tt} : W (x, Q) tt (cIf t f g σ S) = WB ⟨fun S1 => W (x, Q) tg (f σ S1), fun S1 => W (x, Q) tg (g σ S1), x⟩ tg (t σ S) := by
  unfold cIf
  cases t σ S with
  | ok a S1 => cases a <;> rfl
  | _ => rfl
theorem W_andV {tt} : W (x, Q) tt (cAndV f g σ S) = W (x, fun a S1 => WM (fun c : Bool => (c = true → W (x, Q) tg (g σ S1)) ∧ (c = false → Q a S1)) tg (dTru a S1)) tg (f σ S) := by
  unfold cAndV
  cases f σ S with
  | ok a S1 =>
    simp only [Res.bind_ok, W]
    cases dTru a S1 with
    | some c => cases c <;> simp [WM, W]
    | none => rfl
  | _ => rfl
theorem W_orV {tt} : W (x, Q) tt (cOrV f g σ S) = W (x, fun a S1 => WM (fun c : Bool => (c = true → Q a S1) ∧ (c = false → W (x, Q) tg (g σ S1))) tg (dTru a S1)) tg (f σ S) := by
  unfold cOrV
  cases f σ S with
  | ok a S1 =>
    simp only [Res.bind_ok, W]
    cases dTru a S1 with
    | some c => cases c <;> simp [WM, W]
    | none => rfl
  | _ => rfl
theorem W_notV {tt} : W (x, Q) tt (cNotV f σ S) = W (x, fun a S1 => WM (fun c : Bool => Q (.bl (!c)) S1) tg (dTru a S1)) tg (f σ S) := by
  unfold cNotV
  cases f σ S with
  | ok a S1 =>
    simp only [Res.bind_ok, W]
    cases dTru a S1 <;> rfl
  | _ => rfl
theorem WM_some {a : α} {Q : α → Prop} {tt} : WM Q tt (some a) = Q a := (rfl)
theorem WM_none {Q : α → Prop} {tt} : WM Q tt none = False := (rfl)
theorem WO_some {tt} : WO Q tt (some (d, S)) = Q d S := (rfl)
theorem tr_bl {c : Bool} : dTru (.bl c) S = some c := (rfl)
theorem tr_non : dTru .non S = some false := (rfl)
theorem tr_int {i : Int} : dTru (.int i) S = some (i != 0) := (rfl)
theorem tr_tup {xs : List D} : dTru (.tup xs) S = some (!xs.isEmpty) := (rfl)
theorem tr_rol {xs : List D} : dTru (.rol xs) S = some (!xs.isEmpty) := (rfl)
/-! statements -/
theorem WS_nx {tt} : WS q tt (.nx σ S) = q.nx σ S := (rfl)
theorem WS_rt {tt} : WS q tt (.rt d S) = q.rt d S := (rfl)
theorem WS_ct {tt} : WS q tt (.ct σ S) = q.ct σ S := (rfl)
theorem WS_bk {tt} : WS q tt (.bk σ S) = q.bk σ S := (rfl)
theorem WS_exn {e : Exn} {tt} : WS q tt (.ex e σ S) = q.ex e σ S := (rfl)
theorem WS_seq {tt} : WS q tt (sSeq fs gs σ S) = WS (qn q fun σ S => WS q tg (gs σ S)) tg (fs σ S) := by
  unfold sSeq
  cases fs σ S <;> rfl
theorem WS_nil {tt} : WS q tt (sNil σ S) = q.nx σ S := (rfl)
theorem WS_retN {tt} : WS q tt (sRetN σ S) = q.rt .non S := (rfl)
theorem WS_break {tt} : WS q tt (sBreak σ S) = q.bk σ S := (rfl)
theorem WS_cont {tt} : WS q tt (sCont σ S) = q.ct σ S := (rfl)
theorem WS_ofE {r : Res D} {k : D → Store → SR} {tt} : WS q tt (SR.ofE σ r k) = W (fun e S => q.ex e σ S, fun d S1 => WS q tg (k d S1)) tg r := by
  cases r <;> rfl
theorem WS_expr {tt} : WS q tt (sExpr f σ S) = W (fun e S => q.ex e σ S, fun _ S1 => q.nx σ S1) tg (f σ S) := by
  unfold sExpr
  cases f σ S <;> rfl
theorem WS_ret {tt} : WS q tt (sRet f σ S) = W (fun e S => q.ex e σ S, q.rt) tg (f σ S) := by
  unfold sRet
  cases f σ S <;> rfl
theorem WS_if {tt} : WS q tt (sIf t fs gs σ S) = WB ⟨fun S1 => WS q tg (fs σ S1), fun S1 => WS q tg (gs σ S1), fun e S => q.ex e σ S⟩ tg (t σ S) := by
  unfold sIf
  cases t σ S with
  | ok a S1 => cases a <;> rfl
  | _ => rfl
theorem WS_set {tt} : WS q tt (sSet i f σ S) = W (fun e S => q.ex e σ S, fun d S1 => q.nx (σ.set i (some d)) S1) tg (f σ S) := by
  unfold sSet
  cases f σ S <;> rfl
theorem WS_par {j : Nat} {tt} : WS q tt (sPar i j f g σ S) = W (fun e S => q.ex e σ S, fun d S1 => W (fun e S => q.ex e σ S, fun d' S2 => q.nx ((σ.set i (some d)).set j (some d')) S2) tg (g σ S1)) tg (f σ S) := by
  unfold sPar
  cases f σ S with
  | ok a S1 =>
    simp only [SR.ofE, W]
    cases g σ S1 <;> rfl
  | _ => rfl
theorem WS_asg {g : DG} {tt} : WS q tt (sAsg f g σ S) = W (fun e S => q.ex e σ S, fun d S1 => WS (qk q q.nx) tg (g d σ S1)) tg (f σ S) := by
  unfold sAsg
  cases f σ S with
  | ok a S1 =>
    simp only [SR.ofE, W]
    cases g a σ S1 <;> rfl
  | _ => rfl
theorem WS_gSet {tt} : WS q tt (gSet i d σ S) = q.nx (σ.set i (some d)) S := (rfl)
theorem WS_gN {tt} : WS q tt (gN [] σ S) = q.nx σ S := (rfl)
theorem WS_gC {g : DG} {gs : DGs} {r : List D} {tt} : WS q tt (gC g gs (d :: r) σ S) = WS (qk q fun σ S => WS q tg (gs r σ S)) tg (g d σ S) := by
  show WS q tt (match g d σ S with | .nx σ' S' => gs r σ' S' | .ex e σ' S' => .ex e σ' S' | _ => .no) = _
  cases g d σ S <;> rfl
theorem WS_gUn {n : Nat} {gs : DGs} {tt} : WS q tt (gUn n gs d σ S) = WM (fun xs => xs.length = n ∧ WS q tg (gs xs σ S)) tg (itemsOf S d) := by
  unfold gUn
  cases itemsOf S d with
  | none => rfl
  | some xs =>
    simp only [WM]
    by_cases hl : xs.length = n <;> simp [hl, WS]
theorem WS_gSub {fo fi : DE} {tt} : WS q tt (gSubD fo fi d σ S) = W (fun e S => q.ex e σ S, fun o S1 => W (fun e S => q.ex e σ S, fun i S2 => WM (fun S3 => q.nx σ S3) tg (oSet o i d S2)) tg (fi σ S1)) tg (fo σ S) := by
  unfold gSubD
  cases fo σ S with
  | ok o S1 =>
    simp only [SR.ofE, W]
    cases fi σ S1 with
    | ok i S2 =>
      simp only
      cases oSet o i d S2 <;> rfl
    | _ => rfl
  | _ => rfl
theorem WS_aug {k : O2} {tt} : WS q tt (sAug i k f σ S) = W (fun e S => q.ex e σ S, fun d S0 => W (fun e S => q.ex e σ S, fun y S1 => WO (fun z S2 => q.nx (σ.set i (some z)) S2) tg (k d y S1)) tg (f σ S)) tg (cVar i σ S) := by
  unfold sAug cVar
  cases σ[i]? with
  | none => rfl
  | some o =>
    cases o with
    | none => rfl
    | some d =>
      simp only [W]
      cases f σ S with
      | ok y S1 =>
        simp only [SR.ofE]
        cases k d y S1 <;> rfl
      | _ => rfl
theorem WS_qdn {Q : D → Store → Prop} {S : Store} : (qd (x, Q)).nx σ S = Q .non S := (rfl)
theorem WS_qdr {Q : D → Store → Prop} {S : Store} : (qd (x, Q)).rt d S = Q d S := (rfl)
theorem WS_qde {Q : D → Store → Prop} {S : Store} {e : Exn} : (qd (x, Q)).ex e σ S = x e S := (rfl)
theorem WS_qdb {S : Store} : (qd (x, Q)).bk σ S = False := (rfl)
theorem WS_qdc {S : Store} : (qd (x, Q)).ct σ S = False := (rfl)
variable {κ : Sg → Store → Prop}
theorem qn1 : (qn q κ).nx σ S = κ σ S := (rfl)
theorem qn2 : (qn q κ).rt = q.rt := (rfl)
theorem qn3 : (qn q κ).bk = q.bk := (rfl)
theorem qn4 : (qn q κ).ct = q.ct := (rfl)
theorem qn5 : (qn q κ).ex = q.ex := (rfl)
theorem qk1 : (qk q κ).nx σ S = κ σ S := (rfl)
theorem qk5 : (qk q κ).ex = q.ex := (rfl)
theorem lq1 : (lq q κ).nx σ S = κ σ S := (rfl)
theorem lq2 : (lq q κ).rt = q.rt := (rfl)
theorem lq3 : (lq q κ).bk = q.nx := (rfl)
theorem lq4 : (lq q κ).ct σ S = κ σ S := (rfl)
theorem lq5 : (lq q κ).ex = q.ex := (rfl)
end
end DL
namespace DL
open PySem PySem.Spec PyProof.Rows L2
theorem W_def {n : Nat} {fs : DS} {ds : List D} {S : Store} {x : XQ} {Q : D → Store → Prop} {tt : Tg (x, Q)} : W (x, Q) tt (cDef n fs ds S) = WS (qd (x, Q)) tg (fs (ds.map some ++ List.replicate (n - ds.length) none) S) := by
  unfold cDef
  cases fs (ds.map some ++ List.replicate (n - ds.length) none) S <;> rfl
end DL

namespace DL
open PySem PySem.Spec PyProof.Rows L2
/-! ### operations on values -/
section
variable {Q : D → Store → Prop} {S : Store} {i j : Int} {a b : Str} {xs ys : List D} {l m : Nat} {d e : D} {tt : Tg Q}
theorem o_add : WO Q tt (oAdd (.int i) (.int j) S) = Q (.int (i + j)) S := (rfl)
theorem o_iadd : WO Q tt (oIAdd (.int i) (.int j) S) = Q (.int (i + j)) S := (rfl)
theorem o_sub : WO Q tt (oSub (.int i) (.int j) S) = Q (.int (i - j)) S := (rfl)
theorem o_neg : WO Q tt (oNeg (.int i) S) = Q (.int (-i)) S := (rfl)
theorem WO_if {p : Prop} [Decidable p] {r : D × Store} : WO Q tt (if p then some r else none) = (p ∧ Q r.1 r.2) := by
  by_cases h : p <;> simp [h, WO]
theorem o_mul : WO Q tt (oMul (.int i) (.int j) S) = (MulOk i j ∧ Q (.int (i * j)) S) := WO_if
theorem o_mod : WO Q tt (oMod (.int i) (.int j) S) = (0 < j ∧ Q (.int (i % j)) S) := WO_if
theorem o_div : WO Q tt (oDiv (.int i) (.int j) S) = (DivOk j ∧ Q (.int (i / j)) S) := WO_if
theorem o_pow : WO Q tt (oPow (.int i) (.int j) S) = (PowOk i j ∧ Q (.int (i ^ j.toNat)) S) := WO_if
theorem o_addT : WO Q tt (oAdd (.tup xs) (.tup ys) S) = (xs.length + ys.length ≤ sizeLine ∧ Q (.tup (xs ++ ys)) S) := WO_if
theorem o_addS : WO Q tt (oAdd (.str a) (.str b) S) = (a.length + b.length ≤ sizeLine ∧ Q (.str (a ++ b)) S) := WO_if
def lstAt (S : Store) (l : Nat) : Option (List D) := match S[l]? with
  | some (.lst xs) => some xs
  | none => none
theorem lstAt_iff : lstAt S l = some xs ↔ S[l]? = some (.lst xs) := by
  unfold lstAt
  cases q : S[l]? with
  | none => simp
  | some c => cases c; simp
theorem o_addL : WO Q tt (oAdd (.loc l) (.loc m) S) = WM (fun xs => WM (fun ys => xs.length + ys.length ≤ sizeLine ∧ Q (.loc S.length) (S ++ [.lst (xs ++ ys)])) tg (lstAt S m)) tg (lstAt S l) := by
  show WO Q tt (match S[l]?, S[m]? with | some (.lst xs), some (.lst ys) => catL S xs ys | _, _ => none) = _
  unfold lstAt
  cases S[l]? with
  | none => rfl
  | some c =>
    cases c with
    | lst xs =>
      cases S[m]? with
      | none => rfl
      | some c =>
        cases c with
        | lst ys => exact WO_if
theorem o_lt : WO Q tt (oLt (.int i) (.int j) S) = Q (.bl (decide (i < j))) S := (rfl)
theorem o_le : WO Q tt (oLe (.int i) (.int j) S) = Q (.bl (decide (i ≤ j))) S := (rfl)
theorem o_gt : WO Q tt (oGt (.int i) (.int j) S) = Q (.bl (decide (j < i))) S := (rfl)
theorem o_ge : WO Q tt (oGe (.int i) (.int j) S) = Q (.bl (decide (j ≤ i))) S := (rfl)
theorem o_eq : WO Q tt (oEq (.int i) (.int j) S) = Q (.bl (decide (i = j))) S := (rfl)
theorem o_ne : WO Q tt (oNe (.int i) (.int j) S) = Q (.bl (!decide (i = j))) S := (rfl)
theorem o_eqS : WO Q tt (oEq (.str a) (.str b) S) = Q (.bl (decide (a = b))) S := (rfl)
theorem o_neS : WO Q tt (oNe (.str a) (.str b) S) = Q (.bl (!decide (a = b))) S := (rfl)
theorem o_eqT : WO Q tt (oEq (.tup xs) d S) = (okEq (.tup xs) d ∧ Q (.bl (D.eqv (.tup xs) d)) S) := WO_if
theorem o_neT : WO Q tt (oNe (.tup xs) d S) = (okEq (.tup xs) d ∧ Q (.bl (!D.eqv (.tup xs) d)) S) := WO_if
theorem o_eqN : WO Q tt (oEq .non d S) = (okEq .non d ∧ Q (.bl (D.eqv .non d)) S) := WO_if
theorem o_neN : WO Q tt (oNe .non d S) = (okEq .non d ∧ Q (.bl (!D.eqv .non d)) S) := WO_if
theorem o_ltT : WO Q tt (oLt (.tup xs) (.tup ys) S) = (okCmp xs ys ∧ Q (.bl (D.ltL xs ys)) S) := WO_if
theorem o_leT : WO Q tt (oLe (.tup xs) (.tup ys) S) = (okCmp xs ys ∧ Q (.bl (D.leL xs ys)) S) := WO_if
def isNon : D → Bool
  | .non => true
  | _ => false
theorem o_is : WO Q tt (oIs d .non S) = Q (.bl (isNon d)) S := by cases d <;> rfl
theorem o_isnot : WO Q tt (oIsNot d .non S) = Q (.bl (!isNon d)) S := by cases d <;> rfl
theorem o_isB {b : Bool} : WO Q tt (oIs d (.bl b) S) = Q (.bl (isBl b d)) S := (rfl)
theorem o_isnotB {b : Bool} : WO Q tt (oIsNot d (.bl b) S) = Q (.bl (!isBl b d)) S := (rfl)
theorem o_inT : WO Q tt (oIn d (.tup xs) S) = (okIn d xs ∧ Q (.bl (inL d xs)) S) := WO_if
theorem o_ninT : WO Q tt (oNotIn d (.tup xs) S) = (okIn d xs ∧ Q (.bl (!inL d xs)) S) := WO_if
theorem items_tup : itemsOf S (.tup xs) = some xs := (rfl)
theorem items_rol : itemsOf S (.rol xs) = some xs := (rfl)
theorem items_loc : itemsOf S (.loc l) = lstAt S l := (rfl)
theorem o_inL : WO Q tt (oIn d (.loc l) S) = WM (fun xs => okIn d xs ∧ Q (.bl (inL d xs)) S) tg (lstAt S l) := by
  unfold oIn
  rw [items_loc]
  cases q : lstAt S l with
  | none =>
    cases d <;> rfl
  | some xs => exact WO_if
theorem o_ninL : WO Q tt (oNotIn d (.loc l) S) = WM (fun xs => okIn d xs ∧ Q (.bl (!inL d xs)) S) tg (lstAt S l) := by
  unfold oNotIn
  rw [items_loc]
  cases q : lstAt S l with
  | none =>
    cases d <;> rfl
  | some xs => exact WO_if
theorem o_ixT : WO Q tt (oIx (.tup xs) (.int i) S) = WM (fun d => Q d S) tg (atI xs i) := by
  show WO Q tt (match atI xs i with | some d => some (d, S) | none => none) = _
  cases atI xs i <;> rfl
theorem o_ixR : WO Q tt (oIx (.rol xs) (.int i) S) = WM (fun d => Q d S) tg (atI xs i) := by
  show WO Q tt (match atI xs i with | some d => some (d, S) | none => none) = _
  cases atI xs i <;> rfl
theorem o_ixL : WO Q tt (oIx (.loc l) (.int i) S) = WM (fun xs => WM (fun d => Q d S) tg (atI xs i)) tg (lstAt S l) := by
  show WO Q tt (match lstAt S l with | some xs => (match atI xs i with | some d => some (d, S) | none => none) | none => none) = _
  cases lstAt S l with
  | none => rfl
  | some xs =>
    simp only [WM]
    cases atI xs i <;> rfl
theorem o_set {q : Store → Prop} {tt : Tg q} : WM q tt (oSet (.loc l) (.int i) d S) = WM (fun xs => WM (fun j => q (S.set l (.lst (xs.set j d)))) tg (ixN xs.length i)) tg (lstAt S l) := by
  show WM q tt (match S[l]? with | some (.lst ys) => (match ixN ys.length i with | some j => some (S.set l (.lst (ys.set j d))) | none => none) | none => none) = _
  unfold lstAt
  cases S[l]? with
  | none => rfl
  | some c =>
    cases c with
    | lst xs =>
      simp only [WM]
      cases ixN xs.length i <;> rfl
theorem o_lenT : WO Q tt (oLen [.tup xs] S) = Q (.int xs.length) S := (rfl)
theorem o_lenR : WO Q tt (oLen [.rol xs] S) = Q (.int xs.length) S := (rfl)
theorem o_lenL : WO Q tt (oLen [.loc l] S) = WM (fun xs => Q (.int xs.length) S) tg (lstAt S l) := by
  show WO Q tt (match lstAt S l with | some ys => some (.int ys.length, S) | none => none) = _
  cases lstAt S l <;> rfl
theorem o_lenS : WO Q tt (oLen [.str a] S) = (a.length ≤ sizeLine ∧ Q (.int a.length) S) := WO_if
theorem o_int : WO Q tt (oInt [.int i] S) = Q (.int i) S := (rfl)
theorem o_abs : WO Q tt (oAbs [.int i] S) = Q (.int (if i < 0 then -i else i)) S := (rfl)
theorem o_max : WO Q tt (oMax [.int i, .int j] S) = Q (.int (max i j)) S := by
  show Q (.int (if j > i then j else i)) S = _
  congr 2
  split <;> omega
theorem o_min : WO Q tt (oMin [.int i, .int j] S) = Q (.int (min i j)) S := by
  show Q (.int (if j < i then j else i)) S = _
  congr 2
  split <;> omega
theorem o_tuple : WO Q tt (oTuple [d] S) = WM (fun xs => Q (.tup xs) S) tg (itemsOf S d) := by
  show WO Q tt (match itemsOf S d with | some ys => some (.tup ys, S) | none => none) = _
  cases itemsOf S d <;> rfl
theorem o_list : WO Q tt (oList [d] S) = WM (fun xs => Q (.loc S.length) (S ++ [.lst xs])) tg (itemsOf S d) := by
  show WO Q tt (match itemsOf S d with | some ys => some (.loc S.length, S ++ [.lst ys]) | none => none) = _
  cases itemsOf S d <;> rfl
theorem o_tup : WO Q tt (oTup xs S) = (xs.length ≤ sizeLine ∧ Q (.tup xs) S) := WO_if
theorem o_lst : WO Q tt (oLst xs S) = (xs.length ≤ sizeLine ∧ Q (.loc S.length) (S ++ [.lst xs])) := WO_if
theorem o_sorted : WO Q tt (oSorted [.loc l] S) = WM (fun xs => okSort xs ∧ Q (.loc S.length) (S ++ [.lst (sortD xs)])) tg (lstAt S l) := by
  classical
  unfold oSorted
  show WO Q tt (match lstAt S l with | some ys => if okSort ys then some (D.loc S.length, S ++ [.lst (sortD ys)]) else none | none => none) = _
  cases lstAt S l with
  | none => rfl
  | some xs =>
    by_cases h : okSort xs <;> simp [h, WO, WM]
theorem o_sum : WO Q tt (oSum [d] S) = WM (fun ns => Q (.int (List.sum ns)) S) tg ((listOf S d).bind intsOf) := by
  show WO Q tt (match (listOf S d).bind intsOf with | some ns => some (.int ns.sum, S) | none => none) = _
  cases (listOf S d).bind intsOf <;> rfl
theorem listOf_loc : listOf S (.loc l) = lstAt S l := (rfl)
theorem listOf_rol : listOf S (.rol xs) = some xs := (rfl)
/-! methods of lists -/
variable {x : XQ} {σ : Sg} {f g h : DE} {fa : DA}
theorem W_meth {isT : D → Bool} {k : OM} {tt} : W (x, Q) tt (cMeth isT k f fa σ S) = W (x, fun o S1 => isT o = true ∧ W (x, fun xs S2 => WO Q tg (k o xs S2)) tg (fa σ S1)) tg (f σ S) := by
  unfold cMeth
  cases f σ S with
  | ok o S1 =>
    simp only [Res.bind_ok, W]
    by_cases hi : isT o = true
    · simp only [hi, if_true, true_and]
      cases fa σ S1 with
      | ok xs S2 =>
        simp only [Res.bind_ok]
        cases k o xs S2 <;> rfl
      | _ => rfl
    · simp [hi]
  | _ => rfl
theorem isL_loc : isL (.loc l) = true := (rfl)
theorem o_append : WO Q tt (mAppend (.loc l) [d] S) = WM (fun ys => ys.length < sizeLine ∧ Q .non (S.set l (.lst (ys ++ [d])))) tg (lstAt S l) := by
  show WO Q tt (match S[l]? with | some (.lst ys) => upL l S (ys ++ [d]) | none => none) = _
  unfold lstAt
  cases S[l]? with
  | none => rfl
  | some c =>
    cases c with
    | lst ys =>
      refine (WO_if).trans ?_
      rw [List.length_append]; rfl
theorem o_extend : WO Q tt (mExtend (.loc l) [.loc m] S) = WM (fun ys => WM (fun zs => ys.length + zs.length ≤ sizeLine ∧ Q .non (S.set l (.lst (ys ++ zs)))) tg (lstAt S m)) tg (lstAt S l) := by
  show WO Q tt (match S[l]?, S[m]? with | some (.lst ys), some (.lst zs) => upL l S (ys ++ zs) | _, _ => none) = _
  unfold lstAt
  cases S[l]? with
  | none => rfl
  | some c =>
    cases c with
    | lst ys =>
      cases S[m]? with
      | none => rfl
      | some c =>
        cases c with
        | lst zs =>
          refine (WO_if).trans ?_
          rw [List.length_append]; rfl
theorem o_popAt : WO Q tt (mPop (.loc l) [.int i] S) = WM (fun ys => WM (fun k => WM (fun d => Q d (S.set l (.lst (ys.eraseIdx k)))) tg (ys[k]?)) tg (ixN ys.length i)) tg (lstAt S l) := by
  show WO Q tt (match S[l]? with | some (.lst ys) => (match ixN ys.length i with | some k => (match ys[k]? with | some d => some (d, S.set l (.lst (ys.eraseIdx k))) | none => none) | none => none) | none => none) = _
  unfold lstAt
  cases S[l]? with
  | none => rfl
  | some c =>
    cases c with
    | lst ys =>
      simp only [WM]
      cases ixN ys.length i with
      | none => rfl
      | some k =>
        simp only
        cases ys[k]? <;> rfl
theorem W_cut {lo hi : DO} {tt} : W (x, Q) tt (cCut f lo hi σ S) = W (x, fun a S1 => W (x, fun l S2 => W (x, fun u S3 => WO Q tg (oCut a l u S3)) tg (hi σ S2)) tg (lo σ S1)) tg (f σ S) := by
  unfold cCut
  cases f σ S with
  | ok o S1 =>
    simp only [Res.bind_ok, W]
    cases lo σ S1 with
    | ok xs S2 =>
      simp only [Res.bind_ok]
      cases hi σ S2 with
      | ok z S3 =>
        simp only [Res.bind_ok]
        cases oCut o xs z S3 <;> rfl
      | _ => rfl
    | _ => rfl
  | _ => rfl
theorem W_noPart {QO : Option Int → Store → Prop} {tt} : W (x, QO) tt (cNoPart σ S) = QO none S := (rfl)
def intD : D → Option Int
  | .int i => some i
  | _ => none
theorem intD_int : intD (.int i) = some i := (rfl)
theorem W_part {QO : Option Int → Store → Prop} {tt} : W (x, QO) tt (cPart f σ S) = W (x, fun a S1 => WM (fun i => QO (some i) S1) tg (intD a)) tg (f σ S) := by
  unfold cPart
  cases f σ S with
  | ok o S1 =>
    simp only [Res.bind_ok, W]
    cases o <;> rfl
  | _ => rfl
theorem o_cutT {lo hi : Option Int} : WO Q tt (oCut (.tup xs) lo hi S) = Q (.tup (cutD xs lo hi)) S := (rfl)
theorem o_cutR {lo hi : Option Int} : WO Q tt (oCut (.rol xs) lo hi S) = Q (.loc S.length) (S ++ [.lst (cutD xs lo hi)]) := (rfl)
theorem o_cutL {lo hi : Option Int} : WO Q tt (oCut (.loc l) lo hi S) = WM (fun xs => Q (.loc S.length) (S ++ [.lst (cutD xs lo hi)])) tg (lstAt S l) := by
  show WO Q tt (match lstAt S l with | some xs => some (.loc S.length, S ++ [.lst (cutD xs lo hi)]) | none => none) = _
  cases lstAt S l <;> rfl
theorem W_isi {T : String} {tt} : W (x, Q) tt (cIsi T f σ S) = W (x, fun a S1 => WM (fun b => Q (.bl b) S1) tg (kitB (tyName a) T)) tg (f σ S) := by
  unfold cIsi
  cases f σ S with
  | ok o S1 =>
    simp only [Res.bind_ok, W]
    cases kitB (tyName o) T <;> rfl
  | _ => rfl
theorem W_ch {k k' : O2} {tt} : W (x, Q) tt (cCh k k' f g h σ S) = W (x, fun a S1 => W (x, fun b S2 => WO (fun c S3 => c = .bl true ∧ W (x, fun d S4 => WO Q tg (k' b d S4)) tg (h σ S3) ∨ c = .bl false ∧ Q (.bl false) S3) tg (k a b S2)) tg (g σ S1)) tg (f σ S) := by
  unfold cCh
  cases f σ S with
  | ok o S1 =>
    simp only [Res.bind_ok, W]
    cases g σ S1 with
    | ok xs S2 =>
      simp only [Res.bind_ok]
      cases k o xs S2 with
      | none => rfl
      | some p =>
        obtain ⟨d, S3⟩ := p
        cases d with
        | bl b =>
          cases b with
          | true =>
            simp only [WO]
            cases h σ S3 with
            | ok z S4 =>
              simp only [Res.bind_ok]
              cases k' xs z S4 <;> simp [Res.of]
            | _ => simp
          | false => simp [WO]
        | _ => simp [WO]
    | _ => rfl
  | _ => rfl
/-! places -/
variable {a b c d e u v : D} {r : List D}
theorem at0 : atI (a :: r) 0 = some a := by simp [atI, ixN]
theorem atN {k : Nat} (h : k < xs.length) : atI xs (k : Int) = some xs[k] := by
  unfold atI ixN
  have h1 : (0 : Int) ≤ (k : Int) := by omega
  have h2 : (k : Int) < xs.length := by omega
  simp [h]
theorem at1 : atI (a :: b :: r) 1 = some b := atN (k := 1) (by simp)
theorem at2 : atI (a :: b :: c :: r) 2 = some c := atN (k := 2) (by simp)
theorem at3 : atI (a :: b :: c :: d :: r) 3 = some d := atN (k := 3) (by simp)
theorem at4 : atI (a :: b :: c :: d :: e :: r) 4 = some e := atN (k := 4) (by simp)
theorem at5 : atI (a :: b :: c :: d :: e :: u :: r) 5 = some u := atN (k := 5) (by simp)
theorem atI_of {i : Int} (h : 0 ≤ i) (h2 : i < xs.length) : ∃ d, xs[i.toNat]? = some d ∧ atI xs i = some d := by
  have h3 : i.toNat < xs.length := by omega
  refine ⟨xs[i.toNat], by simp [h3], ?_⟩
  have := atN h3
  rwa [Int.toNat_of_nonneg h] at this
theorem atl1 : atI [a] (-1) = some a := (rfl)
theorem atl2 : atI [a, b] (-1) = some b := (rfl)
theorem atl3 : atI [a, b, c] (-1) = some c := (rfl)
theorem atl4 : atI [a, b, c, d] (-1) = some d := (rfl)
theorem lstAt_new {c : List D} : lstAt (S ++ [.lst c]) S.length = some c := by simp [lstAt]
theorem lstAt_app {T : Store} (h : lstAt S l = some xs) : lstAt (S ++ T) l = some xs := by
  rw [lstAt_iff] at h ⊢
  rw [List.getElem?_append_left (List.getElem?_eq_some_iff.mp h).1, h]
theorem set_new {c c' : Cell} : (S ++ [c]).set S.length c' = S ++ [c'] := by simp
theorem lstAt_set (h : lstAt S l = some xs) : lstAt (S.set l (.lst ys)) l = some ys := by
  rw [lstAt_iff] at h ⊢
  rw [List.getElem?_set_self (List.getElem?_eq_some_iff.mp h).1]
theorem lstAt_set_ne (h : l ≠ m) : lstAt (S.set l (.lst ys)) m = lstAt S m := by
  unfold lstAt
  rw [List.getElem?_set_ne h]
theorem lstAt_lt (h : lstAt S l = some xs) : l < S.length := (List.getElem?_eq_some_iff.mp (lstAt_iff.mp h)).1
end
end DL

namespace DL
open PySem PySem.Spec PyProof.Rows L2
/-! ### loops and comprehensions -/
inductive All2 {α β : Type} (P : α → β → Prop) : List α → List β → Prop
  | nil : All2 P [] []
  | cons {a : α} {b : β} {as : List α} {bs : List β} : P a b → All2 P as bs → All2 P (a :: as) (b :: bs)
theorem All2.length {α β : Type} {P : α → β → Prop} : ∀ {as : List α} {bs : List β}, All2 P as bs → as.length = bs.length
  | _, _, .nil => rfl
  | _, _, .cons _ t => by rw [List.length_cons, List.length_cons, t.length]
theorem All2.right {α β : Type} {P : α → β → Prop} {R : β → Prop} (h : ∀ a b, P a b → R b) : ∀ {as : List α} {bs : List β}, All2 P as bs → ∀ b ∈ bs, R b
  | _, _, .nil, _, hb => by simp at hb
  | _, _, .cons p t, b, hb => (List.mem_cons.mp hb).elim (fun e => e ▸ h _ _ p) (t.right h b)
section
variable {x : XQ} {Q : D → Store → Prop} {QI : Gd → List D → Store → Prop} {QL : List D → Store → Prop} {σ : Sg} {S : Store} {f g h : DE} {t u : DT} {src : DI} {fs gs b : DS} {q : SQ} {G : DG} {d : D} {ds : List D} {gd : Gd}
theorem WS_for {tt} : WS q tt (sFor src G b σ S) = WI (fun e S => q.ex e σ S, fun gd ds S1 => WS q tg (forL gd G b ds σ S1)) tg (src σ S) := by
  unfold sFor
  cases src σ S <;> rfl
def itOf (S : Store) : D → Option (Gd × List D)
  | .tup xs => some (none, xs)
  | .rol xs => some (none, xs)
  | .loc l => match S[l]? with
    | some (.lst xs) => some (some (l, xs), xs)
    | none => none
  | _ => none
theorem it_tup {xs : List D} : itOf S (.tup xs) = some (none, xs) := (rfl)
theorem it_rol {xs : List D} : itOf S (.rol xs) = some (none, xs) := (rfl)
theorem it_loc {l : Nat} {xs : List D} (h : lstAt S l = some xs) : itOf S (.loc l) = some (some (l, xs), xs) := by
  rw [lstAt_iff] at h
  show (match S[l]? with | some (.lst xs) => some (some (l, xs), xs) | none => none) = _
  rw [h]
theorem WI_iter {tt} : WI (x, QI) tt (cIter f σ S) = W (x, fun a S1 => WM (fun p => QI p.1 p.2 S1) tg (itOf S1 a)) tg (f σ S) := by
  unfold cIter
  cases f σ S with
  | ok o S1 =>
    simp only [Res.bind_ok, W]
    cases o with
    | loc l =>
      simp only [itOf]
      cases S1[l]? with
      | none => rfl
      | some c => cases c; rfl
    | _ => rfl
  | _ => rfl
theorem WI_range1 {tt} : WI (x, QI) tt (cRange1 f σ S) = W (x, fun a S1 => WM (fun j => okB j ∧ QI none (intsTo 0 j.toNat) S1) tg (intD a)) tg (f σ S) := by
  unfold cRange1
  cases f σ S with
  | ok o S1 =>
    simp only [Res.bind_ok, W]
    cases o with
    | int j => by_cases hb : okB j <;> simp [hb, WI, WM, intD]
    | _ => rfl
  | _ => rfl
theorem WI_range2 {tt} : WI (x, QI) tt (cRange2 f g σ S) = W (x, fun a S1 => W (x, fun c S2 => WM (fun i => WM (fun j => (okB i ∧ okB j) ∧ QI none (intsTo i (j - i).toNat) S2) tg (intD c)) tg (intD a)) tg (g σ S1)) tg (f σ S) := by
  unfold cRange2
  cases f σ S with
  | ok o S1 =>
    simp only [Res.bind_ok, W]
    cases g σ S1 with
    | ok c S2 =>
      simp only [Res.bind_ok]
      cases o with
      | int i =>
        cases c with
        | int j => by_cases hb : okB i ∧ okB j <;> simp [hb, WI, WM, intD]
        | _ => rfl
      | _ => cases c <;> rfl
    | _ => rfl
  | _ => rfl
theorem WI_range3 {tt} : WI (x, QI) tt (cRange3 f g h σ S) = W (x, fun a S1 => W (x, fun b S2 => W (x, fun c S3 => WM (fun i => WM (fun j => WM (fun k => okRg i j k ∧ QI none (stepsTo i k (rgN i j k)) S3) tg (intD c)) tg (intD b)) tg (intD a)) tg (h σ S2)) tg (g σ S1)) tg (f σ S) := by
  unfold cRange3
  cases f σ S with
  | ok o S1 =>
    simp only [Res.bind_ok, W]
    cases g σ S1 with
    | ok b S2 =>
      simp only [Res.bind_ok]
      cases h σ S2 with
      | ok c S3 =>
        simp only [Res.bind_ok]
        cases o with
        | int i =>
          cases b with
          | int j =>
            cases c with
            | int k => by_cases hb : okRg i j k <;> simp [hb, WI, WM, intD, rg3]
            | _ => rfl
          | _ => cases c <;> rfl
        | _ => cases b <;> cases c <;> rfl
      | _ => rfl
    | _ => rfl
  | _ => rfl
def enD (S : Store) : D → Option (Gd × List D)
  | .tup xs => some (none, numbered 0 xs)
  | .rol xs => some (none, numbered 0 xs)
  | .loc l => match S[l]? with
    | some (.lst xs) => some (some (l, xs), numbered 0 xs)
    | none => none
  | _ => none
theorem en_tup {xs : List D} : enD S (.tup xs) = some (none, numbered 0 xs) := (rfl)
theorem en_rol {xs : List D} : enD S (.rol xs) = some (none, numbered 0 xs) := (rfl)
theorem en_loc {l : Nat} {xs : List D} (h : lstAt S l = some xs) : enD S (.loc l) = some (some (l, xs), numbered 0 xs) := by
  rw [lstAt_iff] at h
  show (match S[l]? with | some (.lst xs) => some (some (l, xs), numbered 0 xs) | none => none) = _
  rw [h]
theorem WI_enum {tt} : WI (x, QI) tt (cEnumA f σ S) = W (x, fun a S1 => WM (fun p => QI p.1 p.2 S1) tg (enD S1 a)) tg (f σ S) := by
  unfold cEnumA
  cases f σ S with
  | ok o S1 =>
    simp only [Res.bind_ok, W]
    cases o with
    | loc l =>
      simp only [enD, enumA, enumL]
      cases S1[l]? with
      | none => rfl
      | some c => cases c; rfl
    | _ => rfl
  | _ => rfl
theorem WS_f0 {tt} : WS q tt (forL none G b [] σ S) = q.nx σ S := by
  rw [forL, if_pos (show Gd.ok none S from trivial)]; rfl
/-- one turn, in its own words -/
theorem WS_turn {k : Sg → Store → SR} {tt} : WS q tt (match G d σ S with
      | .nx σ1 S1 => match b σ1 S1 with
        | .nx σ2 S2 => k σ2 S2
        | .ct σ2 S2 => k σ2 S2
        | .bk σ2 S2 => .nx σ2 S2
        | r => r
      | .ex e σ1 S1 => .ex e σ1 S1
      | _ => .no) = WS (qk q fun σ S => WS (lq q fun σ S => WS q tg (k σ S)) tg (b σ S)) tg (G d σ S) := by
  cases G d σ S with
  | nx σ1 S1 =>
    show WS q tt (match b σ1 S1 with
        | .nx σ2 S2 => k σ2 S2
        | .ct σ2 S2 => k σ2 S2
        | .bk σ2 S2 => .nx σ2 S2
        | r => r) = WS (lq q fun σ S => WS q tg (k σ S)) tg (b σ1 S1)
    cases b σ1 S1 <;> rfl
  | _ => rfl
theorem WS_f1 {tt} : WS q tt (forL none G b (d :: ds) σ S) = WS (qk q fun σ S => WS (lq q fun σ S => WS q tg (forL none G b ds σ S)) tg (b σ S)) tg (G d σ S) := by
  rw [forL, if_pos (show Gd.ok none S from trivial)]
  exact WS_turn
theorem WS_g0 {l : Nat} {xs : List D} {tt} : WS q tt (forL (some (l, xs)) G b [] σ S) = (lstAt S l = some xs ∧ q.nx σ S) := by
  rw [forL]
  by_cases hg : Gd.ok (some (l, xs)) S
  · rw [if_pos hg]
    simp [lstAt_iff, show S[l]? = some (.lst xs) from hg, WS]
  · rw [if_neg hg]
    simp [lstAt_iff, show ¬ S[l]? = some (.lst xs) from hg, WS]
theorem WS_g1 {l : Nat} {xs : List D} {tt} : WS q tt (forL (some (l, xs)) G b (d :: ds) σ S) = (lstAt S l = some xs ∧ WS (qk q fun σ S => WS (lq q fun σ S => WS q tg (forL (some (l, xs)) G b ds σ S)) tg (b σ S)) tg (G d σ S)) := by
  rw [forL]
  by_cases hg : Gd.ok (some (l, xs)) S
  · rw [if_pos hg]
    refine Eq.trans (WS_turn (k := fun σ S => forL (some (l, xs)) G b ds σ S)) ?_
    simp only [lstAt_iff, show S[l]? = some (.lst xs) from hg, true_and]
  · rw [if_neg hg]
    simp [lstAt_iff, show ¬ S[l]? = some (.lst xs) from hg, WS]
/-- a loop by what holds ahead of each turn -/
theorem WS_loop (I : List D → Sg → Store → Prop) {tt} (h0 : I ds σ S)
    (h1 : ∀ d r σ S, I (d :: r) σ S → gd.ok S ∧ WS (qk q fun σ S => WS (lq q (I r)) tg (b σ S)) tg (G d σ S))
    (h2 : ∀ σ S, I [] σ S → gd.ok S ∧ q.nx σ S) : WS q tt (forL gd G b ds σ S) := by
  induction ds generalizing σ S with
  | nil =>
    obtain ⟨g, z⟩ := h2 _ _ h0
    rw [forL, if_pos g]; exact z
  | cons d r ih =>
    obtain ⟨g, z⟩ := h1 _ _ _ _ h0
    rw [forL, if_pos g]
    refine Eq.mpr (WS_turn (k := fun σ S => forL gd G b r σ S)) ?_
    refine WS_mono (t := tg) z (fun σ1 S1 z => ?_) (fun _ _ z => z) (fun _ _ z => z) (fun _ _ z => z) (fun _ _ _ z => z)
    refine WS_mono (t := tg) (t' := tg) z (fun σ1 S1 z => ?_) (fun _ _ z => z) (fun _ _ z => z) (fun σ1 S1 z => ?_) (fun _ _ _ z => z)
    · exact ih z
    · exact ih z
theorem intsTo_succ {lo : Int} {n : Nat} : intsTo lo (n + 1) = .int lo :: intsTo (lo + 1) n := by
  unfold intsTo
  rw [List.range_succ_eq_map, List.map_cons, List.map_map]
  rw [List.cons.injEq]
  refine ⟨by simp, List.map_congr_left fun a _ => ?_⟩
  simp only [Function.comp]
  congr 1
  push_cast
  omega
/-- a loop over a range -/
theorem WS_rloop (I : Int → Sg → Store → Prop) {lo : Int} {n : Nat} {tt} (h0 : I lo σ S)
    (h1 : ∀ i σ S, lo ≤ i → i < lo + n → I i σ S → WS (qk q fun σ S => WS (lq q (I (i + 1))) tg (b σ S)) tg (G (.int i) σ S))
    (h2 : ∀ σ S, I (lo + n) σ S → q.nx σ S) : WS q tt (forL none G b (intsTo lo n) σ S) := by
  induction n generalizing lo σ S with
  | zero =>
    rw [show intsTo lo 0 = [] from rfl, WS_f0]
    exact h2 _ _ (by simpa using h0)
  | succ n ih =>
    rw [intsTo_succ, WS_f1]
    refine WS_mono (t' := tg) (h1 lo σ S (by omega) (by omega) h0) (fun σ1 S1 z => ?_) (fun _ _ z => z) (fun _ _ z => z) (fun _ _ z => z) (fun _ _ _ z => z)
    refine WS_mono (t' := tg) (t := tg) z (fun σ2 S2 z => ?_) (fun _ _ z => z) (fun _ _ z => z) (fun σ2 S2 z => ?_) (fun _ _ _ z => z)
    · exact ih z (fun i σ S a b c => h1 i σ S (by omega) (by push_cast; omega) c) fun σ S c => h2 σ S (by rw [show lo + ((n + 1 : Nat) : Int) = lo + 1 + n by push_cast; omega]; exact c)
    · exact ih z (fun i σ S a b c => h1 i σ S (by omega) (by push_cast; omega) c) fun σ S c => h2 σ S (by rw [show lo + ((n + 1 : Nat) : Int) = lo + 1 + n by push_cast; omega]; exact c)
/-- a while loop -/
theorem WS_while (I : Nat → Sg → Store → Prop) (n : Nat) {tt} (hn : n < WF) (h0 : I n σ S)
    (h1 : ∀ k σ S, I k σ S → WB ⟨fun S => ∃ k', k = k' + 1 ∧ WS (lq q (I k')) tg (b σ S), fun S => q.nx σ S, fun e S => q.ex e σ S⟩ tg (t σ S)) : WS q tt (sWhile t b σ S) := by
  unfold sWhile
  have key : ∀ (m k : Nat) (σ : Sg) (S : Store), k < m → I k σ S → WS q tg (whileN t b m σ S) := by
    intro m
    induction m with
    | zero => intro k _ _ h; omega
    | succ m ih =>
      intro k σ S hk hI
      have z := h1 k σ S hI
      rw [whileN]
      cases q1 : t σ S with
      | ok c S1 =>
        rw [q1] at z
        cases c with
        | true =>
          obtain ⟨k', rfl, z⟩ := z
          simp only [SR.ofT, if_true]
          cases q2 : b σ S1 with
          | nx σ2 S2 => rw [q2] at z; exact ih k' _ _ (by omega) z
          | ct σ2 S2 => rw [q2] at z; exact ih k' _ _ (by omega) z
          | bk σ2 S2 => rw [q2] at z; exact z
          | rt d S2 => rw [q2] at z; exact z
          | ex e σ2 S2 => rw [q2] at z; exact z
          | no => rw [q2] at z; exact z.elim
        | false => exact z
      | ex e S1 => rw [q1] at z; exact z
      | no => rw [q1] at z; exact z.elim
  exact key WF n σ S hn h0
/-! comprehensions -/
theorem W_alloc {f : DL'} {tt} : W (x, Q) tt (cAlloc f σ S) = W (x, fun xs S1 => Q (.loc S1.length) (S1 ++ [.lst xs])) tg (f σ S) := by
  unfold cAlloc
  cases f σ S <;> rfl
theorem W_ofL {f : DL'} {k : List D → Option D} {tt} : W (x, Q) tt (cOfL k f σ S) = W (x, fun xs S1 => WM (fun d => Q d S1) tg (k xs)) tg (f σ S) := by
  unfold cOfL
  cases f σ S with
  | ok xs S1 =>
    simp only [Res.bind_ok, W]
    cases k xs <;> rfl
  | _ => rfl
theorem kTup_eq {xs : List D} : kTup xs = some (.tup xs) := (rfl)
theorem kLen_eq {xs : List D} : kLen xs = some (.int xs.length) := (rfl)
theorem W_comp {p : Pat} {te : DE} {vs : List Nat} {tt} : W (x, QL) tt (lComp src p t te vs σ S) = WI (x, fun gd ds S1 => W (x, QL) tg (compL gd p t te ds [] (wipeD σ vs) S1)) tg (src σ S) := by
  unfold lComp
  cases src σ S <;> rfl
theorem wipe0 : wipeD σ [] = σ := (rfl)
theorem wipe1 {v : Nat} {vs : List Nat} : wipeD σ (v :: vs) = (wipeD σ vs).set v none := (rfl)
theorem WB_yes {bq : BQ} {tt} : WB bq tt (tYesD σ S) = bq.t S := (rfl)
theorem b_nm {i : Nat} : Pat.bind S (.nm i) d σ = some (σ.set i (some d)) := (rfl)
theorem W_c0 {p : Pat} {te : DE} {acc : List D} {tt} : W (x, QL) tt (compL none p t te [] acc σ S) = QL acc S := by
  rw [compL, if_pos (show Gd.ok none S from trivial)]; rfl
/-- a comprehension, item by item -/
theorem W_c1 {p : Pat} {te : DE} {acc : List D} {tt : Tg (X0, QL)} : W (X0, QL) tt (compL none p t te (d :: ds) acc σ S) = WM (fun σ1 => WB ⟨fun S2 => W (X0, fun y S3 => acc.length < sizeLine ∧ W (X0, QL) tg (compL none p t te ds (acc ++ [y]) σ S3)) tg (te σ1 S2), fun S2 => W (X0, QL) tg (compL none p t te ds acc σ S2), X0⟩ tg (t σ1 S)) tg (p.bind S d σ) := by
  rw [compL, if_pos (show Gd.ok none S from trivial)]
  cases p.bind S d σ with
  | none => rfl
  | some σ1 =>
    simp only [WM]
    cases t σ1 S with
    | ok c S2 =>
      cases c with
      | true =>
        simp only [WB]
        cases te σ1 S2 with
        | ok y S3 => by_cases hl : acc.length < sizeLine <;> simp [hl, W]
        | _ => rfl
      | false => rfl
    | _ => rfl
/-- a comprehension by what holds: each item made is as wanted -/
theorem W_cAll (P : D → Prop) (I : Store → Prop) {p : Pat} {te : DE} {acc : List D} {tt} (h0 : I S) (hl : acc.length + ds.length ≤ sizeLine) (hg : ∀ S, I S → gd.ok S)
    (h1 : ∀ d S, d ∈ ds → I S → WM (fun σ1 => WB ⟨fun S2 => W (X0, fun y S3 => P y ∧ I S3) tg (te σ1 S2), I, X0⟩ tg (t σ1 S)) tg (p.bind S d σ))
    (h2 : ∀ ys S, I S → (∀ y ∈ ys, P y) → ys.length ≤ ds.length → QL (acc ++ ys) S) : W (x, QL) tt (compL gd p t te ds acc σ S) := by
  induction ds generalizing acc S with
  | nil =>
    rw [compL, if_pos (hg _ h0)]
    have := h2 [] S h0 (by simp) (by simp)
    rw [List.append_nil] at this
    exact this
  | cons d r ih =>
    rw [compL, if_pos (hg _ h0)]
    have z := h1 d S (by simp) h0
    rw [List.length_cons] at hl
    cases q1 : p.bind S d σ with
    | none => rw [q1] at z; exact z.elim
    | some σ1 =>
      rw [q1] at z
      simp only [WM] at z ⊢
      cases q2 : t σ1 S with
      | ok c S2 =>
        rw [q2] at z
        cases c with
        | true =>
          simp only [WB] at z ⊢
          cases q3 : te σ1 S2 with
          | ok y S3 =>
            rw [q3] at z
            obtain ⟨z1, z2⟩ := z
            simp only
            rw [if_pos (by omega)]
            refine ih z2 (by simp; omega) (fun d S hd => h1 d S (List.mem_cons_of_mem _ hd)) fun ys S' hS hy hl' => ?_
            rw [List.append_assoc]
            exact h2 (y :: ys) S' hS (fun w hw => (List.mem_cons.mp hw).elim (fun e => e ▸ z1) (hy w)) (by simp; omega)
          | ex e S3 => rw [q3] at z; exact z.elim
          | no => rw [q3] at z; exact z.elim
        | false =>
          simp only [WB] at z ⊢
          refine ih z (by omega) (fun d S hd => h1 d S (List.mem_cons_of_mem _ hd)) fun ys S' hS hy hl' => h2 ys S' hS hy (by simp; omega)
      | ex e S2 => rw [q2] at z; exact z.elim
      | no => rw [q2] at z; exact z.elim
/-- .. without a test: item by item -/
theorem W_cMap (P : D → D → Prop) (I : Store → Prop) {p : Pat} {te : DE} {acc : List D} {tt} (h0 : I S) (hl : acc.length + ds.length ≤ sizeLine) (hg : ∀ S, I S → gd.ok S)
    (h1 : ∀ d S, d ∈ ds → I S → WM (fun σ1 => W (X0, fun y S3 => P d y ∧ I S3) tg (te σ1 S)) tg (p.bind S d σ))
    (h2 : ∀ ys S, I S → All2 P ds ys → QL (acc ++ ys) S) : W (x, QL) tt (compL gd p tYesD te ds acc σ S) := by
  induction ds generalizing acc S with
  | nil =>
    rw [compL, if_pos (hg _ h0)]
    have := h2 [] S h0 .nil
    rw [List.append_nil] at this
    exact this
  | cons d r ih =>
    rw [compL, if_pos (hg _ h0)]
    have z := h1 d S (by simp) h0
    rw [List.length_cons] at hl
    cases q1 : p.bind S d σ with
    | none => rw [q1] at z; exact z.elim
    | some σ1 =>
      rw [q1] at z
      simp only [WM, tYesD] at z ⊢
      cases q3 : te σ1 S with
      | ok y S3 =>
        rw [q3] at z
        obtain ⟨z1, z2⟩ := z
        simp only
        rw [if_pos (by omega)]
        refine ih z2 (by simp; omega) (fun d S hd => h1 d S (List.mem_cons_of_mem _ hd)) fun ys S' hS hy => ?_
        rw [List.append_assoc]
        exact h2 (y :: ys) S' hS (.cons z1 hy)
      | ex e S3 => rw [q3] at z; exact z.elim
      | no => rw [q3] at z; exact z.elim
theorem W_listRg {r : Sg → Store → Res (Int × Int)} {tt} : W (x, QL) tt (lRg r σ S) = W (x, fun p S1 => RgL p.1 p.2 ∧ QL (intsTo p.1 (p.2 - p.1).toNat) S1) tg (r σ S) := by
  unfold lRg
  cases r σ S with
  | ok p S1 =>
    simp only [Res.bind_ok, W]
    by_cases hr : RgL p.1 p.2 <;> simp [hr]
  | _ => rfl
theorem W_tupRg {r : Sg → Store → Res (Int × Int)} {tt} : W (x, Q) tt (cTupRg r σ S) = W (x, fun p S1 => RgL p.1 p.2 ∧ Q (.tup (intsTo p.1 (p.2 - p.1).toNat)) S1) tg (r σ S) := by
  unfold cTupRg
  cases r σ S with
  | ok p S1 =>
    simp only [Res.bind_ok, W]
    by_cases hr : RgL p.1 p.2 <;> simp [hr]
  | _ => rfl
theorem W_rRange1 {QP : Int × Int → Store → Prop} {tt} : W (x, QP) tt (rRange1 f σ S) = W (x, fun a S1 => WM (fun j => QP (0, j) S1) tg (intD a)) tg (f σ S) := by
  unfold rRange1
  cases f σ S with
  | ok o S1 =>
    simp only [Res.bind_ok, W]
    cases o <;> rfl
  | _ => rfl
theorem W_rRange2 {QP : Int × Int → Store → Prop} {tt} : W (x, QP) tt (rRange2 f g σ S) = W (x, fun a S1 => W (x, fun c S2 => WM (fun i => WM (fun j => QP (i, j) S2) tg (intD c)) tg (intD a)) tg (g σ S1)) tg (f σ S) := by
  unfold rRange2
  cases f σ S with
  | ok o S1 =>
    simp only [Res.bind_ok, W]
    cases g σ S1 with
    | ok c S2 =>
      simp only [Res.bind_ok]
      cases o with
      | int i => cases c <;> rfl
      | _ => cases c <;> rfl
    | _ => rfl
  | _ => rfl
end
end DL

namespace DL
open PySem PySem.Spec PyProof.Rows L2
section
variable {Q : D → Store → Prop} {S S' S'' : Store} {a b c d e u v z : D} {tt : Tg Q} {l m : Nat} {xs ys r : List D}
theorem sl {n : Nat} (h : n ≤ 1048576) : n ≤ sizeLine := by rw [sizeLine_eq]; omega
theorem o_tup0 : WO Q tt (oTup [] S) = Q (.tup []) S := by rw [o_tup]; simp
theorem o_tup1 : WO Q tt (oTup [a] S) = Q (.tup [a]) S := by rw [o_tup]; simp [sizeLine_eq]
theorem o_tup2 : WO Q tt (oTup [a, b] S) = Q (.tup [a, b]) S := by rw [o_tup]; simp [sizeLine_eq]
theorem o_tup3 : WO Q tt (oTup [a, b, c] S) = Q (.tup [a, b, c]) S := by rw [o_tup]; simp [sizeLine_eq]
theorem o_tup4 : WO Q tt (oTup [a, b, c, d] S) = Q (.tup [a, b, c, d]) S := by rw [o_tup]; simp [sizeLine_eq]
theorem o_tup5 : WO Q tt (oTup [a, b, c, d, e] S) = Q (.tup [a, b, c, d, e]) S := by rw [o_tup]; simp [sizeLine_eq]
theorem o_tup6 : WO Q tt (oTup [a, b, c, d, e, u] S) = Q (.tup [a, b, c, d, e, u]) S := by rw [o_tup]; simp [sizeLine_eq]
theorem o_lst0 : WO Q tt (oLst [] S) = Q (.loc S.length) (S ++ [.lst []]) := by rw [o_lst]; simp
theorem o_lst1 : WO Q tt (oLst [a] S) = Q (.loc S.length) (S ++ [.lst [a]]) := by rw [o_lst]; simp [sizeLine_eq]
theorem o_lst2 : WO Q tt (oLst [a, b] S) = Q (.loc S.length) (S ++ [.lst [a, b]]) := by rw [o_lst]; simp [sizeLine_eq]
theorem o_lst3 : WO Q tt (oLst [a, b, c] S) = Q (.loc S.length) (S ++ [.lst [a, b, c]]) := by rw [o_lst]; simp [sizeLine_eq]
theorem o_lst4 : WO Q tt (oLst [a, b, c, d] S) = Q (.loc S.length) (S ++ [.lst [a, b, c, d]]) := by rw [o_lst]; simp [sizeLine_eq]
theorem o_lst5 : WO Q tt (oLst [a, b, c, d, e] S) = Q (.loc S.length) (S ++ [.lst [a, b, c, d, e]]) := by rw [o_lst]; simp [sizeLine_eq]
theorem o_lst6 : WO Q tt (oLst [a, b, c, d, e, u] S) = Q (.loc S.length) (S ++ [.lst [a, b, c, d, e, u]]) := by rw [o_lst]; simp [sizeLine_eq]
theorem o_ixS {s : Str} {i : Int} : WO Q tt (oIx (.str s) (.int i) S) = (s.length ≤ sizeLine ∧ WM (fun c => Q (.str ⟨#[c]⟩) S) tg (atI s.cps.toList i)) := by
  show WO Q tt (if s.length ≤ sizeLine then (match atI s.cps.toList i with | some c => some (D.str ⟨#[c]⟩, S) | none => none) else none) = _
  by_cases h : s.length ≤ sizeLine
  · simp only [h, if_true, true_and]
    cases atI s.cps.toList i <;> rfl
  · simp [h, WO]
theorem o_str {i : Int} : WO Q tt (oStr [.int i] S) = (i.natAbs.log2 < 1920 ∧ Q (.str (toString i)) S) := WO_if
theorem o_strS {s : Str} : WO Q tt (oStr [.str s] S) = Q (.str s) S := (rfl)
theorem o_intT : WO Q tt (oInt [.bl true] S) = Q (.int 1) S := (rfl)
theorem o_intF : WO Q tt (oInt [.bl false] S) = Q (.int 0) S := (rfl)
theorem o_intB {p : Prop} [Decidable p] : WO Q tt (oInt [.bl (decide p)] S) = Q (.int (if p then 1 else 0)) S := by
  show Q (.int (if decide p = true then 1 else 0)) S = _
  by_cases h : p <;> simp [h]
/-! slices of short things -/
theorem cutN2 (h : 2 ≤ xs.length) : cutD xs none (some 2) = xs.take 2 := by
  unfold cutD HT.sIx
  simp
theorem c02 : cutD (a :: b :: r) none (some 2) = [a, b] := (cutN2 (by simp)).trans rfl
theorem ix_1_0 : ixN 1 0 = some 0 := (rfl)
theorem ix_2_0 : ixN 2 0 = some 0 := (rfl)
theorem ix_2_1 : ixN 2 1 = some 1 := (rfl)
theorem ix_3_0 : ixN 3 0 = some 0 := (rfl)
theorem ix_3_1 : ixN 3 1 = some 1 := (rfl)
theorem ix_3_2 : ixN 3 2 = some 2 := (rfl)
theorem ix_4_0 : ixN 4 0 = some 0 := (rfl)
theorem ix_4_1 : ixN 4 1 = some 1 := (rfl)
theorem ix_4_2 : ixN 4 2 = some 2 := (rfl)
theorem ix_4_3 : ixN 4 3 = some 3 := (rfl)
theorem ix_5_0 : ixN 5 0 = some 0 := (rfl)
theorem ix_5_1 : ixN 5 1 = some 1 := (rfl)
theorem ix_5_2 : ixN 5 2 = some 2 := (rfl)
theorem ix_5_3 : ixN 5 3 = some 3 := (rfl)
theorem ix_5_4 : ixN 5 4 = some 4 := (rfl)
theorem ix_6_0 : ixN 6 0 = some 0 := (rfl)
theorem ix_6_1 : ixN 6 1 = some 1 := (rfl)
theorem ix_6_2 : ixN 6 2 = some 2 := (rfl)
theorem ix_6_3 : ixN 6 3 = some 3 := (rfl)
theorem ix_6_4 : ixN 6 4 = some 4 := (rfl)
theorem ix_6_5 : ixN 6 5 = some 5 := (rfl)
theorem lstAt_setE : lstAt (S.set l (.lst ys)) l = (lstAt S l).map fun _ => ys := by
  cases q : lstAt S l with
  | some xs => exact lstAt_set q
  | none =>
    unfold lstAt at q ⊢
    by_cases h : l < S.length
    · rw [List.getElem?_eq_getElem h] at q
      cases z : S[l] with
      | lst xs => rw [z] at q; cases q
    · rw [List.getElem?_eq_none (by simpa using h)]; rfl
theorem kb_bool_bool : kitB "bool" "bool" = some true := by decide +kernel
theorem kb_bool_int : kitB "bool" "int" = some true := by decide +kernel
theorem kb_bool_str : kitB "bool" "str" = some false := by decide +kernel
theorem kb_bool_tuple : kitB "bool" "tuple" = some false := by decide +kernel
theorem kb_bool_list : kitB "bool" "list" = some false := by decide +kernel
theorem kb_int_bool : kitB "int" "bool" = some false := by decide +kernel
theorem kb_int_int : kitB "int" "int" = some true := by decide +kernel
theorem kb_int_str : kitB "int" "str" = some false := by decide +kernel
theorem kb_int_tuple : kitB "int" "tuple" = some false := by decide +kernel
theorem kb_int_list : kitB "int" "list" = some false := by decide +kernel
theorem kb_str_bool : kitB "str" "bool" = some false := by decide +kernel
theorem kb_str_int : kitB "str" "int" = some false := by decide +kernel
theorem kb_str_str : kitB "str" "str" = some true := by decide +kernel
theorem kb_str_tuple : kitB "str" "tuple" = some false := by decide +kernel
theorem kb_str_list : kitB "str" "list" = some false := by decide +kernel
theorem kb_tuple_bool : kitB "tuple" "bool" = some false := by decide +kernel
theorem kb_tuple_int : kitB "tuple" "int" = some false := by decide +kernel
theorem kb_tuple_str : kitB "tuple" "str" = some false := by decide +kernel
theorem kb_tuple_tuple : kitB "tuple" "tuple" = some true := by decide +kernel
theorem kb_tuple_list : kitB "tuple" "list" = some false := by decide +kernel
theorem kb_list_bool : kitB "list" "bool" = some false := by decide +kernel
theorem kb_list_int : kitB "list" "int" = some false := by decide +kernel
theorem kb_list_str : kitB "list" "str" = some false := by decide +kernel
theorem kb_list_tuple : kitB "list" "tuple" = some false := by decide +kernel
theorem kb_list_list : kitB "list" "list" = some true := by decide +kernel
theorem kb_NoneType_bool : kitB "NoneType" "bool" = some false := by decide +kernel
theorem kb_NoneType_int : kitB "NoneType" "int" = some false := by decide +kernel
theorem kb_NoneType_str : kitB "NoneType" "str" = some false := by decide +kernel
theorem kb_NoneType_tuple : kitB "NoneType" "tuple" = some false := by decide +kernel
theorem kb_NoneType_list : kitB "NoneType" "list" = some false := by decide +kernel
theorem isN_non : isNon .non = true := (rfl)
theorem isN_bl {b : Bool} : isNon (.bl b) = false := (rfl)
theorem isN_int {b : Int} : isNon (.int b) = false := (rfl)
theorem isN_str {b : Str} : isNon (.str b) = false := (rfl)
theorem isN_tup : isNon (.tup xs) = false := (rfl)
theorem isN_rol : isNon (.rol xs) = false := (rfl)
theorem isN_loc : isNon (.loc l) = false := (rfl)
theorem ty_non : tyName .non = "NoneType" := (rfl)
theorem ty_bl {b : Bool} : tyName (.bl b) = "bool" := (rfl)
theorem ty_int {b : Int} : tyName (.int b) = "int" := (rfl)
theorem ty_str {b : Str} : tyName (.str b) = "str" := (rfl)
theorem ty_tup : tyName (.tup xs) = "tuple" := (rfl)
theorem ty_rol : tyName (.rol xs) = "list" := (rfl)
theorem ty_loc : tyName (.loc l) = "list" := (rfl)
theorem o_eqB {p q : Bool} : WO Q tt (oEq (.bl p) (.bl q) S) = Q (.bl (p == q)) S := by cases p <;> cases q <;> rfl
theorem o_neB {p q : Bool} : WO Q tt (oNe (.bl p) (.bl q) S) = Q (.bl (!(p == q))) S := by cases p <;> cases q <;> rfl
theorem isBl_bl {p q : Bool} : isBl p (.bl q) = (q == p) := (rfl)
theorem mul1 {i j : Int} (h : -18446744073709551616 < i ∧ i < 18446744073709551616) : MulOk i j := .inl (.inl h)
theorem mul2 {i j : Int} (h : -18446744073709551616 < j ∧ j < 18446744073709551616) : MulOk i j := .inl (.inr h)
theorem divS {j : Int} (h : 0 < j) (h2 : j < 1073741824) : DivOk j := .inl ⟨h, h2⟩
/-! ### the same value -/
theorem fitsL_iff : ∀ {xs : List D}, D.fitsL xs = true ↔ ∀ x ∈ xs, x.fits = true
  | [] => by simp [D.fitsL]
  | x :: xs => by simp [D.fitsL, fitsL_iff]
mutual
theorem eqv_refl : ∀ x : D, x.fits = true → D.eqv x x = true
  | .non, _ => rfl
  | .bl b, _ => by simp [D.eqv]
  | .int i, _ => by simp [D.eqv]
  | .str x, _ => by simp [D.eqv]
  | .tup xs, h => by rw [D.eqv]; exact eqvL_refl xs (by simpa [D.fits] using h)
  | .rol xs, h => by rw [D.eqv]; exact eqvL_refl xs (by simpa [D.fits] using h)
  | .loc l, h => by simp [D.fits] at h
theorem eqvL_refl : ∀ xs : List D, D.fitsL xs = true → D.eqvL xs xs = true
  | [], _ => rfl
  | x :: xs, h => by
    rw [D.fitsL, Bool.and_eq_true] at h
    rw [D.eqvL, eqv_refl x h.1, eqvL_refl xs h.2]; rfl
end
mutual
/-- no bool in it -/
def D.nb : D → Bool
  | .bl _ => false
  | .tup xs => D.nbL xs
  | .rol xs => D.nbL xs
  | _ => true
def D.nbL : List D → Bool
  | [] => true
  | x :: xs => x.nb && D.nbL xs
end
mutual
theorem eqv_eq : ∀ {x y : D}, x.nb = true → y.nb = true → D.eqv x y = true → x = y
  | .non, .non, _, _, _ => rfl
  | .int i, .int j, _, _, h => by simp [D.eqv] at h; rw [h]
  | .str i, .str j, _, _, h => by simp [D.eqv] at h; rw [h]
  | .tup xs, .tup ys, h1, h2, h => congrArg _ (eqvL_eq (by simpa [D.nb] using h1) (by simpa [D.nb] using h2) (by simpa [D.eqv] using h))
  | .rol xs, .rol ys, h1, h2, h => congrArg _ (eqvL_eq (by simpa [D.nb] using h1) (by simpa [D.nb] using h2) (by simpa [D.eqv] using h))
  | .bl _, _, h, _, _ => by simp [D.nb] at h
  | .non, .bl _, _, h, _ => by simp [D.nb] at h
  | .int _, .bl _, _, h, _ => by simp [D.nb] at h
  | .str _, .bl _, _, h, _ => by simp [D.nb] at h
  | .tup _, .bl _, _, h, _ => by simp [D.nb] at h
  | .rol _, .bl _, _, h, _ => by simp [D.nb] at h
  | .loc _, .bl _, _, h, _ => by simp [D.nb] at h
  | .loc _, .non, _, _, h => by simp [D.eqv] at h
  | .loc _, .int _, _, _, h => by simp [D.eqv] at h
  | .loc _, .str _, _, _, h => by simp [D.eqv] at h
  | .loc _, .tup _, _, _, h => by simp [D.eqv] at h
  | .loc _, .rol _, _, _, h => by simp [D.eqv] at h
  | .loc _, .loc _, _, _, h => by simp [D.eqv] at h
  | .non, .loc _, _, _, h => by simp [D.eqv] at h
  | .int _, .loc _, _, _, h => by simp [D.eqv] at h
  | .str _, .loc _, _, _, h => by simp [D.eqv] at h
  | .tup _, .loc _, _, _, h => by simp [D.eqv] at h
  | .rol _, .loc _, _, _, h => by simp [D.eqv] at h
  | .non, .int _, _, _, h => by simp [D.eqv] at h
  | .non, .str _, _, _, h => by simp [D.eqv] at h
  | .non, .tup _, _, _, h => by simp [D.eqv] at h
  | .non, .rol _, _, _, h => by simp [D.eqv] at h
  | .int _, .non, _, _, h => by simp [D.eqv] at h
  | .int _, .str _, _, _, h => by simp [D.eqv] at h
  | .int _, .tup _, _, _, h => by simp [D.eqv] at h
  | .int _, .rol _, _, _, h => by simp [D.eqv] at h
  | .str _, .non, _, _, h => by simp [D.eqv] at h
  | .str _, .int _, _, _, h => by simp [D.eqv] at h
  | .str _, .tup _, _, _, h => by simp [D.eqv] at h
  | .str _, .rol _, _, _, h => by simp [D.eqv] at h
  | .tup _, .non, _, _, h => by simp [D.eqv] at h
  | .tup _, .int _, _, _, h => by simp [D.eqv] at h
  | .tup _, .str _, _, _, h => by simp [D.eqv] at h
  | .tup _, .rol _, _, _, h => by simp [D.eqv] at h
  | .rol _, .non, _, _, h => by simp [D.eqv] at h
  | .rol _, .int _, _, _, h => by simp [D.eqv] at h
  | .rol _, .str _, _, _, h => by simp [D.eqv] at h
  | .rol _, .tup _, _, _, h => by simp [D.eqv] at h
theorem eqvL_eq : ∀ {xs ys : List D}, D.nbL xs = true → D.nbL ys = true → D.eqvL xs ys = true → xs = ys
  | [], [], _, _, _ => rfl
  | [], _ :: _, _, _, h => by simp [D.eqvL] at h
  | _ :: _, [], _, _, h => by simp [D.eqvL] at h
  | x :: xs, y :: ys, h1, h2, h => by
    rw [D.nbL, Bool.and_eq_true] at h1 h2
    rw [D.eqvL, Bool.and_eq_true] at h
    rw [eqv_eq h1.1 h2.1 h.1, eqvL_eq h1.2 h2.2 h.2]
end
mutual
/-- a value without lists, its tuples not too long -/
def D.pl : D → Prop
  | .tup xs => xs.length ≤ 1000000 ∧ D.plL xs
  | .rol _ => False
  | .loc _ => False
  | _ => True
def D.plL : List D → Prop
  | [] => True
  | x :: xs => x.pl ∧ D.plL xs
end
theorem plL_iff : ∀ {xs : List D}, D.plL xs ↔ ∀ x ∈ xs, x.pl
  | [] => by simp [D.plL]
  | x :: xs => by simp [D.plL, plL_iff]
theorem pair_perm {α : Type} {a b s t : α} (h : [a, b].Perm [s, t]) : (a = s ∧ b = t) ∨ (a = t ∧ b = s) := by
  have hm : a ∈ [s, t] := h.mem_iff.mp (by simp)
  simp only [List.mem_cons, List.not_mem_nil, or_false] at hm
  rcases hm with rfl | rfl
  · have := List.Perm.cons_inv h
    have := List.singleton_perm_singleton.mp this
    exact .inl ⟨rfl, this⟩
  · have h2 := h.trans (List.Perm.swap a s [])
    have := List.Perm.cons_inv h2
    have := List.singleton_perm_singleton.mp this
    exact .inr ⟨rfl, this⟩
section
variable {x : XQ} {QL : List D → Store → Prop} {S : Store} {ds acc : List D} {gd : Gd} {p : Pat} {te : DE} {σ : Sg}
/-- a comprehension that only reckons -/
theorem W_cPure (g : D → D) {tt} (hg : gd.ok S) (hl : acc.length + ds.length ≤ sizeLine) (h1 : ∀ d ∈ ds, WM (fun σ1 => W (X0, fun y S3 => y = g d ∧ S3 = S) tg (te σ1 S)) tg (p.bind S d σ)) (h2 : QL (acc ++ ds.map g) S) : W (x, QL) tt (compL gd p tYesD te ds acc σ S) := by
  refine W_cMap (fun d y => y = g d) (fun S' => S' = S) rfl hl (fun S' e => e ▸ hg) (fun d S' hd e => by subst e; exact h1 d hd) fun ys S' e h => ?_
  subst e
  have : ys = ds.map g := by
    clear h2 hl h1
    induction h with
    | nil => rfl
    | cons p _ ih => rw [p, ih]; rfl
  rw [this]; exact h2
end
theorem intsTo_mem {lo : Int} {n : Nat} {d : D} (h : d ∈ intsTo lo n) : ∃ i : Int, d = .int i ∧ lo ≤ i ∧ i < lo + n := by
  unfold intsTo at h
  obtain ⟨k, hk, rfl⟩ := List.mem_map.mp h
  have := List.mem_range.mp hk
  exact ⟨_, rfl, by omega, by omega⟩
theorem intsTo_len {lo : Int} {n : Nat} : (intsTo lo n).length = n := by simp [intsTo]
/-! texts -/
theorem strOk_app {a b : Str} (ha : PyData.strOk a = true) (hb : PyData.strOk b = true) : PyData.strOk (a ++ b) = true := by
  have e : (a ++ b).cps = a.cps ++ b.cps := rfl
  unfold PyData.strOk at *
  rw [e, Array.all_append, ha, hb]; rfl
theorem strOk_one {c : Nat} {a : Str} (ha : PyData.strOk a = true) (h : c ∈ a.cps.toList) : PyData.strOk ⟨#[c]⟩ = true := by
  unfold PyData.strOk at *
  rw [Array.all_eq_true'] at ha
  have := ha c (by simpa using h)
  simpa using this
theorem len_app {a b : Str} : (a ++ b).length = a.length + b.length := by
  show (a.cps ++ b.cps).size = _
  rw [Array.size_append]; rfl
theorem WM_in {α : Type} {q : α → Prop} {t : Tg q} {xs : List α} {i : Int} (h : 0 ≤ i) (h2 : i < xs.length) (hq : ∀ d ∈ xs, q d) : WM q t (atI xs i) := by
  have h3 : i.toNat < xs.length := by omega
  have : atI xs i = some xs[i.toNat] := by
    unfold atI ixN
    rw [if_pos h, if_pos h2, Option.bind_some, List.getElem?_eq_getElem h3]
  rw [this]
  exact hq _ (List.getElem_mem h3)
/-! ### the store behind the well: cells 0 and 1 are the well's -/
structure Fr (S S' : Store) : Prop where
  len : S.length ≤ S'.length
  keep : ∀ a, 2 ≤ a → a < S.length → S'[a]? = S[a]?
theorem Fr.refl (S : Store) : Fr S S := ⟨Nat.le_refl _, fun _ _ _ => rfl⟩
theorem Fr.trans (h : Fr S S') (h' : Fr S' S'') : Fr S S'' := ⟨Nat.le_trans h.len h'.len, fun a h2 hl => by rw [h'.keep a h2 (Nat.lt_of_lt_of_le hl h.len), h.keep a h2 hl]⟩
theorem Fr.app (T : Store) (h : Fr S S') : Fr S (S' ++ T) := ⟨by rw [List.length_append]; have := h.len; omega, fun a h2 hl => by
  rw [List.getElem?_append_left (Nat.lt_of_lt_of_le hl h.len), h.keep a h2 hl]⟩
theorem Fr.set {c : Cell} (h : Fr S S') (hl : S.length ≤ l) : Fr S (S'.set l c) := ⟨by rw [List.length_set]; exact h.len, fun a h2 hk => by
  rw [List.getElem?_set_ne (by omega), h.keep a h2 hk]⟩
theorem Fr.lst (h : Fr S S') (h2 : 2 ≤ l) (hl : lstAt S l = some xs) : lstAt S' l = some xs := by
  rw [lstAt_iff] at hl ⊢
  rw [h.keep l h2 (List.getElem?_eq_some_iff.mp hl).1, hl]
def WellOk (S : Store) : Prop := ∃ deep c d rows, lstAt S 1 = some [.int deep, .loc 0, .int c, .int d] ∧ lstAt S 0 = some rows ∧ rows ≠ [] ∧ ∀ z ∈ rows, ∃ i, z = .int i
theorem WellOk.len (h : WellOk S) : 2 ≤ S.length := by
  obtain ⟨_, _, _, _, h, _⟩ := h
  exact lstAt_lt h
theorem WellOk.app (T : Store) (h : WellOk S) : WellOk (S ++ T) := by
  obtain ⟨a, b, c, d, h1, h2, h3⟩ := h
  exact ⟨a, b, c, d, lstAt_app h1, lstAt_app h2, h3⟩
theorem WellOk.set (h : WellOk S) (hl : 2 ≤ l) : WellOk (S.set l (.lst xs)) := by
  obtain ⟨a, b, c, d, h1, h2, h3⟩ := h
  exact ⟨a, b, c, d, by rw [lstAt_set_ne (by omega)]; exact h1, by rw [lstAt_set_ne (by omega)]; exact h2, h3⟩
theorem lstAt_Fr_set (h : lstAt S l = some xs) (h2 : l ≠ m) : lstAt (S.set m (.lst ys)) l = some xs := by rw [lstAt_set_ne (Ne.symm h2)]; exact h
/-- a list of the store is changed, the store gets a new name -/
theorem extend_w {Q : D → Store → Prop} {tt : Tg Q} {S : Store} {l m : Nat} {ys zs : List D} (hl : lstAt S l = some ys) (hm : lstAt S m = some zs) (h : ys.length + zs.length ≤ sizeLine)
    (hq : ∀ T, T = S.set l (.lst (ys ++ zs)) → lstAt T l = some (ys ++ zs) → Q .non T) : WO Q tt (mExtend (.loc l) [.loc m] S) := by
  rw [o_extend, hl, WM_some, hm, WM_some]
  exact ⟨h, hq _ rfl (lstAt_set hl)⟩
theorem append_w {Q : D → Store → Prop} {tt : Tg Q} {S : Store} {l : Nat} {d : D} {ys : List D} (hl : lstAt S l = some ys) (h : ys.length < sizeLine)
    (hq : ∀ T, T = S.set l (.lst (ys ++ [d])) → lstAt T l = some (ys ++ [d]) → Q .non T) : WO Q tt (mAppend (.loc l) [d] S) := by
  rw [o_append, hl, WM_some]
  exact ⟨h, hq _ rfl (lstAt_set hl)⟩
theorem sorted_w {Q : D → Store → Prop} {tt : Tg Q} {S : Store} {l : Nat} {ys : List D} (hl : lstAt S l = some ys) (h : okSort ys) (hq : Q (.loc S.length) (S ++ [.lst (sortD ys)])) : WO Q tt (oSorted [.loc l] S) := by
  rw [o_sorted, hl, WM_some]
  exact ⟨h, hq⟩
theorem WM_at {q : D → Prop} {t : Tg q} {xs : List D} {i : Int} (h : 0 ≤ i) (h2 : i < xs.length) (hq : ∀ d ∈ xs, q d) : WM q t (atI xs i) := by
  obtain ⟨d, h3, h4⟩ := atI_of h h2
  rw [h4]
  exact hq d (List.mem_of_getElem? h3)
theorem WM_last {q : D → Prop} {t : Tg q} {xs : List D} (h : xs ≠ []) (hq : ∀ d ∈ xs, q d) : WM q t (atI xs (-1)) := by
  have hl : 0 < xs.length := List.length_pos_iff.mpr h
  have e : atI xs (-1) = xs[xs.length - 1]? := by
    unfold atI ixN
    rw [if_neg (by omega), if_pos (by omega), Option.bind_some]
    congr 1
    omega
  rw [e, List.getElem?_eq_getElem (by omega)]
  exact hq _ (List.getElem_mem _)
theorem bits_small {i : Int} {n : Nat} (h0 : 0 ≤ i) (h : i < 2 ^ n) (hn : 0 < n) : i.natAbs.log2 < n := by
  have h1 : i.natAbs < 2 ^ n := by
    have : ((i.natAbs : Nat) : Int) < ((2 ^ n : Nat) : Int) := by push_cast; rw [Int.natAbs_of_nonneg h0]; exact h
    exact_mod_cast this
  by_cases hz : i.natAbs = 0
  · rw [hz]; simpa using hn
  · exact (Nat.log2_lt hz).mpr h1
theorem pop_w {Q : D → Store → Prop} {tt : Tg Q} {S : Store} {l : Nat} {d : D} {ys : List D} (hl : lstAt S l = some (ys ++ [d]))
    (hq : ∀ T, T = S.set l (.lst ys) → lstAt T l = some ys → Q d T) : WO Q tt (mPop (.loc l) [] S) := by
  show WO Q tt (match S[l]? with | some (.lst ys) => (match ys[ys.length - 1]? with | some d => some (d, S.set l (.lst ys.dropLast)) | none => none) | none => none)
  rw [lstAt_iff.mp hl]
  simp only [List.length_append, List.length_cons, List.length_nil, Nat.add_sub_cancel, Nat.zero_add, List.getElem?_concat_length, List.dropLast_concat]
  exact hq _ rfl (lstAt_set hl)
/-- the place that an int tells -/
def ixD : D → Nat
  | .int k => k.toNat
  | _ => 0
theorem intsTo_map_get {f : D → D} (xs : List D) : (intsTo 0 xs.length).map (fun d => f (xs.getD (ixD d) .non)) = xs.map f := by
  apply List.ext_getElem
  · simp [intsTo_len]
  · intro i h1 h2
    simp only [List.length_map] at h2
    simp [intsTo, ixD, List.getD_eq_getElem?_getD, h2]
mutual
def D.sz : D → Nat
  | .tup xs => 1 + D.szL xs
  | _ => 1
def D.szL : List D → Nat
  | [] => 0
  | x :: xs => x.sz + D.szL xs
end
theorem szL_app : ∀ (a b : List D), D.szL (a ++ b) = D.szL a + D.szL b
  | [], b => by simp [D.szL]
  | x :: a, b => by rw [List.cons_append, D.szL, D.szL, szL_app a b]; omega
/-- a comprehension that only reckons, with a test -/
theorem W_cFilt {x : XQ} {QL : List D → Store → Prop} {S : Store} {ds acc : List D} {gd : Gd} {p : Pat} {t : DT} {te : DE} {σ : Sg} (t' : D → Bool) (g : D → D) {tt} (hg : gd.ok S) (hl : acc.length + ds.length ≤ sizeLine)
    (h1 : ∀ d ∈ ds, WM (fun σ1 => WB ⟨fun S2 => t' d = true ∧ S2 = S ∧ W (X0, fun y S3 => y = g d ∧ S3 = S) tg (te σ1 S), fun S2 => t' d = false ∧ S2 = S, X0⟩ tg (t σ1 S)) tg (p.bind S d σ)) (h2 : QL (acc ++ (ds.filter t').map g) S) : W (x, QL) tt (compL gd p t te ds acc σ S) := by
  induction ds generalizing acc with
  | nil =>
    rw [compL, if_pos hg]
    rw [List.filter_nil, List.map_nil, List.append_nil] at h2
    exact h2
  | cons d r ih =>
    rw [compL, if_pos hg]
    have z := h1 d (by simp)
    rw [List.length_cons] at hl
    cases q1 : p.bind S d σ with
    | none => rw [q1] at z; exact z.elim
    | some σ1 =>
      rw [q1] at z
      simp only [WM] at z ⊢
      cases q2 : t σ1 S with
      | ok c S2 =>
        rw [q2] at z
        cases c with
        | true =>
          simp only [WB] at z ⊢
          obtain ⟨z0, rfl, z⟩ := z
          cases q3 : te σ1 S2 with
          | ok y S3 =>
            rw [q3] at z
            obtain ⟨rfl, rfl⟩ := z
            simp only
            rw [if_pos (by omega)]
            refine ih (by simp; omega) (fun d hd => h1 d (List.mem_cons_of_mem _ hd)) ?_
            rw [List.filter_cons_of_pos z0, List.map_cons] at h2
            rw [List.append_assoc]
            exact h2
          | ex e S3 => rw [q3] at z; exact z.elim
          | no => rw [q3] at z; exact z.elim
        | false =>
          simp only [WB] at z ⊢
          obtain ⟨z0, rfl⟩ := z
          refine ih (by omega) (fun d hd => h1 d (List.mem_cons_of_mem _ hd)) ?_
          rw [List.filter_cons_of_neg (by simp [z0])] at h2
          exact h2
      | ex e S2 => rw [q2] at z; exact z.elim
      | no => rw [q2] at z; exact z.elim
theorem ix_items {Q : D → Store → Prop} {tt : Tg Q} {S : Store} {c : D} {xs : List D} {i : Int} (h : itemsOf S c = some xs) : WO Q tt (oIx c (.int i) S) = WM (fun d => Q d S) tg (atI xs i) := by
  cases c with
  | tup ys => cases h; exact o_ixT
  | rol ys => cases h; exact o_ixR
  | loc l => rw [o_ixL, show lstAt S l = some xs from h, WM_some]
  | _ => cases h
theorem len_items {Q : D → Store → Prop} {tt : Tg Q} {S : Store} {c : D} {xs : List D} (h : itemsOf S c = some xs) : WO Q tt (oLen [c] S) = Q (.int xs.length) S := by
  cases c with
  | tup ys => cases h; exact o_lenT
  | rol ys => cases h; exact o_lenR
  | loc l => rw [o_lenL, show lstAt S l = some xs from h, WM_some]
  | _ => cases h
/-- a tuple or a list that stays, its items -/
def Cont (c : D) (gd : Gd) (xs : List D) (S : Store) : Prop := ∀ S', Fr S S' → itemsOf S' c = some xs ∧ itOf S' c = some (gd, xs) ∧ gd.ok S'
theorem Cont.tup {xs : List D} {S : Store} : Cont (.tup xs) none xs S := fun _ _ => ⟨rfl, rfl, trivial⟩
theorem Cont.loc {l : Nat} {xs : List D} {S : Store} (h2 : 2 ≤ l) (h : lstAt S l = some xs) : Cont (.loc l) (some (l, xs)) xs S := fun S' F => ⟨F.lst h2 h, it_loc (F.lst h2 h), lstAt_iff.mp (F.lst h2 h)⟩
theorem Cont.fr {c : D} {gd : Gd} {xs : List D} {S S' : Store} (h : Cont c gd xs S) (F : Fr S S') : Cont c gd xs S' := fun _ F' => h _ (F.trans F')
end
end DL

namespace LW
open PySem PySem.Spec PyProof.Rows L2 DL
noncomputable def b_holds_at : DS := (sRet (cBin oGe (cBin oMul (cBin oIx (cVar 0) (cK (.int (1)))) (cVar 1)) (cBin oMul (cBin oIx (cVar 0) (cK (.int (1)))) (cBin oIx (cVar 0) (cK (.int (2)))))))
@[irreducible] noncomputable def m_holds_at : FD := cDef 2 b_holds_at
theorem wm_holds_at {x : XQ} {Q : D → Store → Prop} {tt : Tg (x, Q)} {S : Store} {a0 a1 : D} : W (x, Q) tt (m_holds_at [a0, a1] S) = WS (qd (x, Q)) tg (b_holds_at [some a0, some a1] S) := by unfold m_holds_at; exact W_def
noncomputable def b__law_feed : DS := (sSeq (sSet 1 (cArg oLst aNil))
    (sSeq (sSet 2 (cK (.int (223))))
    (sSeq (sFor (cIter (cVar 0)) (gSet 3) (sSeq (sSet 4 (cArg oAbs (aCons (cArg oInt (aCons (cVar 3) aNil)) aNil)))
    (sSeq (sSet 2 (cBin oMod (cArg oInt (aCons (cBin oAdd (cBin oAdd (cBin oMul (cVar 2) (cK (.int (5519)))) (cBin oMod (cArg oInt (aCons (cVar 4) aNil)) (cK (.int (700027))))) (cK (.int (23)))) aNil)) (cK (.int (700027)))))
    (sIf (cTest (cBin oLt (cVar 4) (cK (.int (1000000000000000000))))) (sExpr (cMeth isL mAppend (cVar 1) (aCons (cBin oMod (cArg oInt (aCons (cBin oAdd (cBin oMul (cVar 2) (cK (.int (47)))) (cBin oMod (cArg oInt (aCons (cVar 4) aNil)) (cK (.int (7457))))) aNil)) (cK (.int (99901)))) aNil))) (sFor (cRange1 (cK (.int (60)))) (gSet 5) (sIf (cTest (cBin oGt (cVar 4) (cK (.int (0))))) (sSeq (sExpr (cMeth isL mAppend (cVar 1) (aCons (cBin oMod (cArg oInt (aCons (cVar 4) aNil)) (cK (.int (9901)))) aNil)))
    (sSet 4 (cBin oDiv (cVar 4) (cK (.int (9901)))))) sNil))))))
    (sRet (cArg oLst (aCons (cVar 1) (aCons (cK (.int (0))) (aCons (cVar 2) aNil))))))))
@[irreducible] noncomputable def m__law_feed : FD := cDef 6 b__law_feed
theorem wm__law_feed {x : XQ} {Q : D → Store → Prop} {tt : Tg (x, Q)} {S : Store} {a0 : D} : W (x, Q) tt (m__law_feed [a0] S) = WS (qd (x, Q)) tg (b__law_feed [some a0, none, none, none, none, none] S) := by unfold m__law_feed; exact W_def
noncomputable def b__law_draw : DS := (sSeq (sSet 2 (cBin oIx (cVar 0) (cK (.int (1)))))
    (sSeq (sAsg (cBin oAdd (cVar 2) (cK (.int (1)))) (gSubD (cVar 0) (cK (.int (1)))))
    (sSeq (sSet 3 (cBin oIx (cVar 0) (cK (.int (0)))))
    (sSeq (sIf (cTest (cBin oLt (cVar 2) (cArg oLen (aCons (cVar 3) aNil)))) (sRet (cBin oMod (cArg oInt (aCons (cBin oIx (cVar 3) (cVar 2)) aNil)) (cVar 1))) sNil)
    (sSeq (sAsg (cBin oMod (cArg oInt (aCons (cBin oAdd (cBin oAdd (cBin oMul (cBin oIx (cVar 0) (cK (.int (2)))) (cK (.int (40014)))) (cBin oMul (cVar 2) (cK (.int (12289))))) (cK (.int (13)))) aNil)) (cK (.int (2147483563)))) (gSubD (cVar 0) (cK (.int (2)))))
    (sRet (cBin oMod (cArg oInt (aCons (cBin oDiv (cBin oIx (cVar 0) (cK (.int (2)))) (cK (.int (101)))) aNil)) (cVar 1))))))))
@[irreducible] noncomputable def m__law_draw : FD := cDef 4 b__law_draw
theorem wm__law_draw {x : XQ} {Q : D → Store → Prop} {tt : Tg (x, Q)} {S : Store} {a0 a1 : D} : W (x, Q) tt (m__law_draw [a0, a1] S) = WS (qd (x, Q)) tg (b__law_draw [some a0, some a1, none, none] S) := by unfold m__law_draw; exact W_def
noncomputable def b__law_whole : DS := (sRet (cAndV (cIsi "int" (cVar 0)) (cNotV (cIsi "bool" (cVar 0)))))
@[irreducible] noncomputable def m__law_whole : FD := cDef 1 b__law_whole
theorem wm__law_whole {x : XQ} {Q : D → Store → Prop} {tt : Tg (x, Q)} {S : Store} {a0 : D} : W (x, Q) tt (m__law_whole [a0] S) = WS (qd (x, Q)) tg (b__law_whole [some a0] S) := by unfold m__law_whole; exact W_def
noncomputable def b__law_sayings : DS := (sSeq (sSet 1 (cArg oLst aNil))
    (sSeq (sFor (cRange1 (cArg oLen (aCons (cVar 0) aNil))) (gSet 2) (sSeq (sExpr (cMeth isL mExtend (cVar 1) (aCons (cAlloc (lComp (cRange2 (cBin oIx (cBin oIx (cVar 0) (cVar 2)) (cK (.int (1)))) (cBin oIx (cBin oIx (cVar 0) (cVar 2)) (cK (.int (2))))) (.nm 3) tYesD (cArg oTup (aCons (cVar 2) (aCons (cUn oNeg (cK (.int (1)))) (aCons (cVar 3) aNil)))) [3])) aNil)))
    (sExpr (cMeth isL mExtend (cVar 1) (aCons (cAlloc (lComp (cRange2 (cBin oAdd (cBin oIx (cBin oIx (cVar 0) (cVar 2)) (cK (.int (1)))) (cK (.int (1)))) (cBin oAdd (cBin oIx (cBin oIx (cVar 0) (cVar 2)) (cK (.int (2)))) (cK (.int (1))))) (.nm 3) tYesD (cArg oTup (aCons (cVar 2) (aCons (cK (.int (1))) (aCons (cVar 3) aNil)))) [3])) aNil)))))
    (sRet (cVar 1))))
@[irreducible] noncomputable def m__law_sayings : FD := cDef 4 b__law_sayings
theorem wm__law_sayings {x : XQ} {Q : D → Store → Prop} {tt : Tg (x, Q)} {S : Store} {a0 : D} : W (x, Q) tt (m__law_sayings [a0] S) = WS (qd (x, Q)) tg (b__law_sayings [some a0, none, none, none] S) := by unfold m__law_sayings; exact W_def
noncomputable def b__law_holds : DS := (sRet (cBin oGe (cBin oMul (cBin oSub (cVar 1) (cBin oIx (cVar 0) (cK (.int (2))))) (cBin oIx (cVar 0) (cK (.int (1))))) (cK (.int (0)))))
@[irreducible] noncomputable def m__law_holds : FD := cDef 2 b__law_holds
theorem wm__law_holds {x : XQ} {Q : D → Store → Prop} {tt : Tg (x, Q)} {S : Store} {a0 a1 : D} : W (x, Q) tt (m__law_holds [a0, a1] S) = WS (qd (x, Q)) tg (b__law_holds [some a0, some a1] S) := by unfold m__law_holds; exact W_def
noncomputable def b_holds_in : DS := (sSeq (sSet 2 (cBin oIx (cVar 1) (cBin oIx (cVar 0) (cK (.int (0))))))
    (sRet (cAndV (cBin oIsNot (cVar 2) (cK .non)) (cCall m_holds_at (aCons (cVar 0) (aCons (cVar 2) aNil))))))
@[irreducible] noncomputable def m_holds_in : FD := cDef 3 b_holds_in
theorem wm_holds_in {x : XQ} {Q : D → Store → Prop} {tt : Tg (x, Q)} {S : Store} {a0 a1 : D} : W (x, Q) tt (m_holds_in [a0, a1] S) = WS (qd (x, Q)) tg (b_holds_in [some a0, some a1, none] S) := by unfold m_holds_in; exact W_def
noncomputable def b__law_same : DS := (sSeq (sSet 2 (cArg oLst (aCons (cArg oTup (aCons (cVar 0) (aCons (cVar 1) aNil))) aNil)))
    (sSeq (sWhile (cTest (cBin oGt (cArg oLen (aCons (cVar 2) aNil)) (cK (.int (0))))) (sSeq (sAsg (cMeth isL mPop (cVar 2) aNil) (gUn 2 (gC (gSet 3) (gC (gSet 4) gN))))
    (sIf (cTru (cIsi "tuple" (cVar 4))) (sSeq (sIf (cOr (cNot (cTru (cIsi "tuple" (cVar 3)))) (cTest (cBin oNe (cArg oLen (aCons (cVar 3) aNil)) (cArg oLen (aCons (cVar 4) aNil))))) (sRet (cK (.bl false))) sNil)
    (sExpr (cMeth isL mExtend (cVar 2) (aCons (cAlloc (lComp (cRange1 (cArg oLen (aCons (cVar 4) aNil))) (.nm 5) tYesD (cArg oTup (aCons (cBin oIx (cVar 3) (cVar 5)) (aCons (cBin oIx (cVar 4) (cVar 5)) aNil))) [5])) aNil)))) (sIf (cTest (cBin oIs (cVar 4) (cK .non))) (sIf (cTest (cBin oIsNot (cVar 3) (cK .non))) (sRet (cK (.bl false))) sNil) (sIf (cTru (cIsi "bool" (cVar 4))) (sIf (cOr (cNot (cTru (cIsi "bool" (cVar 3)))) (cTest (cBin oNe (cVar 3) (cVar 4)))) (sRet (cK (.bl false))) sNil) (sIf (cTru (cIsi "str" (cVar 4))) (sIf (cOr (cNot (cTru (cIsi "str" (cVar 3)))) (cTest (cBin oNe (cVar 3) (cVar 4)))) (sRet (cK (.bl false))) sNil) (sIf (cOr (cNot (cTru (cCall m__law_whole (aCons (cVar 3) aNil)))) (cTest (cBin oNe (cVar 3) (cVar 4)))) (sRet (cK (.bl false))) sNil)))))))
    (sRet (cK (.bl true)))))
@[irreducible] noncomputable def m__law_same : FD := cDef 6 b__law_same
theorem wm__law_same {x : XQ} {Q : D → Store → Prop} {tt : Tg (x, Q)} {S : Store} {a0 a1 : D} : W (x, Q) tt (m__law_same [a0, a1] S) = WS (qd (x, Q)) tg (b__law_same [some a0, some a1, none, none, none, none] S) := by unfold m__law_same; exact W_def
noncomputable def b__law_names : DS := (sSeq (sSet 2 (cK (.str "mwqhdtkvzxgbpjrcs")))
    (sSeq (sSet 3 (cBin oAdd (cK (.int (1))) (cCall m__law_draw (aCons (cVar 0) (aCons (cK (.int (78))) aNil)))))
    (sSeq (sSet 4 (cCall m__law_draw (aCons (cVar 0) (aCons (cK (.int (79))) aNil))))
    (sSeq (sSet 5 (cArg oLst aNil))
    (sSeq (sFor (cRange1 (cVar 1)) (gSet 6) (sSeq (sSet 7 (cBin oMod (cArg oInt (aCons (cBin oAdd (cVar 4) (cBin oMul (cVar 6) (cVar 3))) aNil)) (cK (.int (79)))))
    (sExpr (cMeth isL mAppend (cVar 5) (aCons (cBin oAdd (cBin oAdd (cBin oIx (cVar 2) (cBin oMod (cArg oInt (aCons (cBin oAdd (cVar 4) (cBin oMul (cVar 6) (cK (.int (3))))) aNil)) (cK (.int (17))))) (cBin oIx (cArg oLst (aCons (cK (.str "")) (aCons (cK (.str "y")) (aCons (cK (.str "az")) aNil)))) (cBin oMod (cArg oInt (aCons (cVar 7) aNil)) (cK (.int (3)))))) (cArg oStr (aCons (cVar 7) aNil))) aNil)))))
    (sRet (cVar 5)))))))
@[irreducible] noncomputable def m__law_names : FD := cDef 8 b__law_names
theorem wm__law_names {x : XQ} {Q : D → Store → Prop} {tt : Tg (x, Q)} {S : Store} {a0 a1 : D} : W (x, Q) tt (m__law_names [a0, a1] S) = WS (qd (x, Q)) tg (b__law_names [some a0, some a1, none, none, none, none, none, none] S) := by unfold m__law_names; exact W_def
noncomputable def b__law_rules : DS := (sSeq (sSet 3 (cArg oLst aNil))
    (sSeq (sIf (cTest (cBin oGt (cArg oLen (aCons (cVar 1) aNil)) (cK (.int (0))))) (sFor (cRange1 (cCall m__law_draw (aCons (cVar 0) (aCons (cBin oAdd (cVar 2) (cK (.int (1)))) aNil)))) (gSet 4) (sSeq (sSet 5 (cBin oIx (cVar 1) (cCall m__law_draw (aCons (cVar 0) (aCons (cArg oLen (aCons (cVar 1) aNil)) aNil)))))
    (sSeq (sSet 6 (cBin oIx (cVar 1) (cCall m__law_draw (aCons (cVar 0) (aCons (cArg oLen (aCons (cVar 1) aNil)) aNil)))))
    (sSeq (sSet 7 (cArg oTuple (aCons (cArg oSorted (aCons (cArg oLst (aCons (cVar 5) (aCons (cVar 6) aNil))) aNil)) aNil)))
    (sIf (cTest (cBin oNotIn (cVar 7) (cVar 3))) (sExpr (cMeth isL mAppend (cVar 3) (aCons (cVar 7) aNil))) sNil))))) sNil)
    (sRet (cArg oTuple (aCons (cArg oSorted (aCons (cVar 3) aNil)) aNil)))))
@[irreducible] noncomputable def m__law_rules : FD := cDef 8 b__law_rules
theorem wm__law_rules {x : XQ} {Q : D → Store → Prop} {tt : Tg (x, Q)} {S : Store} {a0 a1 a2 : D} : W (x, Q) tt (m__law_rules [a0, a1, a2] S) = WS (qd (x, Q)) tg (b__law_rules [some a0, some a1, some a2, none, none, none, none, none] S) := by unfold m__law_rules; exact W_def
noncomputable def b__law_half : DS := (sSeq (sSet 3 (cArg oLst aNil))
    (sSeq (sFor (cIter (cVar 1)) (gSet 4) (sSeq (sSet 5 (cBin oAdd (cBin oIx (cVar 4) (cK (.int (1)))) (cCall m__law_draw (aCons (cVar 0) (aCons (cBin oAdd (cBin oSub (cBin oIx (cVar 4) (cK (.int (2)))) (cBin oIx (cVar 4) (cK (.int (1))))) (cK (.int (1)))) aNil)))))
    (sSeq (sIf (cTest (cBin oEq (cCall m__law_draw (aCons (cVar 0) (aCons (cVar 2) aNil))) (cK (.int (0))))) (sSet 5 (cK .non)) sNil)
    (sExpr (cMeth isL mAppend (cVar 3) (aCons (cVar 5) aNil))))))
    (sRet (cArg oTuple (aCons (cVar 3) aNil)))))
@[irreducible] noncomputable def m__law_half : FD := cDef 6 b__law_half
theorem wm__law_half {x : XQ} {Q : D → Store → Prop} {tt : Tg (x, Q)} {S : Store} {a0 a1 a2 : D} : W (x, Q) tt (m__law_half [a0, a1, a2] S) = WS (qd (x, Q)) tg (b__law_half [some a0, some a1, some a2, none, none, none] S) := by unfold m__law_half; exact W_def
noncomputable def b__law_due : DS := (sSeq (sSet 2 (cArg oLst aNil))
    (sSeq (sFor (cRange1 (cArg oLen (aCons (cBin oIx (cVar 0) (cK (.int (1)))) aNil))) (gSet 3) (sSeq (sSet 4 (cK (.bl true)))
    (sSeq (sFor (cIter (cBin oIx (cBin oIx (cVar 0) (cK (.int (1)))) (cVar 3))) (gSet 5) (sIf (cOr (cTest (cBin oIs (cBin oIx (cVar 1) (cBin oIx (cVar 5) (cK (.int (0))))) (cK .non))) (cTru (cCall m__law_holds (aCons (cVar 5) (aCons (cBin oIx (cVar 1) (cBin oIx (cVar 5) (cK (.int (0))))) aNil))))) (sSet 4 (cK (.bl false))) sNil))
    (sIf (cTru (cVar 4)) (sExpr (cMeth isL mAppend (cVar 2) (aCons (cVar 3) aNil))) sNil))))
    (sRet (cArg oTuple (aCons (cVar 2) aNil)))))
@[irreducible] noncomputable def m__law_due : FD := cDef 6 b__law_due
theorem wm__law_due {x : XQ} {Q : D → Store → Prop} {tt : Tg (x, Q)} {S : Store} {a0 a1 : D} : W (x, Q) tt (m__law_due [a0, a1] S) = WS (qd (x, Q)) tg (b__law_due [some a0, some a1, none, none, none, none] S) := by unfold m__law_due; exact W_def
noncomputable def b_breaks_rule : DS := (sSeq (sFor (cIter (cVar 0)) (gSet 2) (sIf (cOr (cTest (cBin oIs (cBin oIx (cVar 1) (cBin oIx (cVar 2) (cK (.int (0))))) (cK .non))) (cTru (cCall m_holds_in (aCons (cVar 2) (aCons (cVar 1) aNil))))) (sRet (cK (.bl false))) sNil))
    (sRet (cK (.bl true))))
@[irreducible] noncomputable def m_breaks_rule : FD := cDef 3 b_breaks_rule
theorem wm_breaks_rule {x : XQ} {Q : D → Store → Prop} {tt : Tg (x, Q)} {S : Store} {a0 a1 : D} : W (x, Q) tt (m_breaks_rule [a0, a1] S) = WS (qd (x, Q)) tg (b_breaks_rule [some a0, some a1, none] S) := by unfold m_breaks_rule; exact W_def
noncomputable def b__law_fields : DS := (sSeq (sSet 3 (cCall m__law_names (aCons (cVar 0) (aCons (cBin oAdd (cK (.int (1))) (cCall m__law_draw (aCons (cVar 0) (aCons (cVar 1) aNil)))) aNil))))
    (sSeq (sSet 4 (cArg oLst aNil))
    (sSeq (sSet 5 (cVar 2))
    (sSeq (sFor (cIter (cVar 3)) (gSet 6) (sSeq (sSet 7 (cBin oAdd (cK (.int (1))) (cCall m__law_draw (aCons (cVar 0) (aCons (cArg oMin (aCons (cK (.int (4))) (aCons (cVar 5) aNil))) aNil)))))
    (sSeq (sSet 5 (cBin oDiv (cVar 5) (cVar 7)))
    (sSeq (sSet 8 (cBin oSub (cCall m__law_draw (aCons (cVar 0) (aCons (cK (.int (7))) aNil))) (cK (.int (3)))))
    (sExpr (cMeth isL mAppend (cVar 4) (aCons (cArg oTup (aCons (cVar 6) (aCons (cVar 8) (aCons (cBin oSub (cBin oAdd (cVar 8) (cVar 7)) (cK (.int (1)))) aNil)))) aNil)))))))
    (sRet (cArg oTuple (aCons (cVar 4) aNil)))))))
@[irreducible] noncomputable def m__law_fields : FD := cDef 9 b__law_fields
theorem wm__law_fields {x : XQ} {Q : D → Store → Prop} {tt : Tg (x, Q)} {S : Store} {a0 a1 a2 : D} : W (x, Q) tt (m__law_fields [a0, a1, a2] S) = WS (qd (x, Q)) tg (b__law_fields [some a0, some a1, some a2, none, none, none, none, none, none] S) := by unfold m__law_fields; exact W_def
noncomputable def b_broken_rules : DS := (sRet (cOfL kTup (lComp (cEnumA (cBin oIx (cVar 0) (cK (.int (1))))) (.un [(.nm 2), (.nm 3)]) (cTru (cCall m_breaks_rule (aCons (cVar 3) (aCons (cVar 1) aNil)))) (cVar 2) [2, 3])))
@[irreducible] noncomputable def m_broken_rules : FD := cDef 4 b_broken_rules
theorem wm_broken_rules {x : XQ} {Q : D → Store → Prop} {tt : Tg (x, Q)} {S : Store} {a0 a1 : D} : W (x, Q) tt (m_broken_rules [a0, a1] S) = WS (qd (x, Q)) tg (b_broken_rules [some a0, some a1, none, none] S) := by unfold m_broken_rules; exact W_def
noncomputable def b_breaks_some : DS := (sSeq (sFor (cIter (cBin oIx (cVar 0) (cK (.int (1))))) (gSet 2) (sIf (cTru (cCall m_breaks_rule (aCons (cVar 2) (aCons (cVar 1) aNil)))) (sRet (cK (.bl true))) sNil))
    (sRet (cK (.bl false))))
@[irreducible] noncomputable def m_breaks_some : FD := cDef 3 b_breaks_some
theorem wm_breaks_some {x : XQ} {Q : D → Store → Prop} {tt : Tg (x, Q)} {S : Store} {a0 a1 : D} : W (x, Q) tt (m_breaks_some [a0, a1] S) = WS (qd (x, Q)) tg (b_breaks_some [some a0, some a1, none] S) := by unfold m_breaks_some; exact W_def
noncomputable def b_is_good : DS := (sRet (cAndV (cBin oNotIn (cK .non) (cVar 1)) (cNotV (cCall m_breaks_some (aCons (cVar 0) (aCons (cVar 1) aNil))))))
@[irreducible] noncomputable def m_is_good : FD := cDef 2 b_is_good
theorem wm_is_good {x : XQ} {Q : D → Store → Prop} {tt : Tg (x, Q)} {S : Store} {a0 a1 : D} : W (x, Q) tt (m_is_good [a0, a1] S) = WS (qd (x, Q)) tg (b_is_good [some a0, some a1] S) := by unfold m_is_good; exact W_def
noncomputable def b__law_asked : DS := (sSeq (sSet 2 (cCall m__law_due (aCons (cVar 0) (aCons (cVar 1) aNil))))
    (sSeq (sSet 3 (cAndV (cBin oEq (cArg oLen (aCons (cVar 2) aNil)) (cK (.int (0)))) (cBin oEq (cOfL kLen (lComp (cIter (cVar 1)) (.nm 4) (cTest (cBin oIs (cVar 4) (cK .non))) (cVar 4) [4])) (cK (.int (0))))))
    (sRet (cAndV (cCall m__law_same (aCons (cCall m_broken_rules (aCons (cVar 0) (aCons (cVar 1) aNil))) (aCons (cVar 2) aNil))) (cCall m__law_same (aCons (cCall m_is_good (aCons (cVar 0) (aCons (cVar 1) aNil))) (aCons (cVar 3) aNil)))))))
@[irreducible] noncomputable def m__law_asked : FD := cDef 5 b__law_asked
theorem wm__law_asked {x : XQ} {Q : D → Store → Prop} {tt : Tg (x, Q)} {S : Store} {a0 a1 : D} : W (x, Q) tt (m__law_asked [a0, a1] S) = WS (qd (x, Q)) tg (b__law_asked [some a0, some a1, none, none, none] S) := by unfold m__law_asked; exact W_def
noncomputable def b__law_made_good : DS := (sSeq (sSet 1 (cCall m__law_names (aCons (cVar 0) (aCons (cK (.int (2))) aNil))))
    (sSeq (sSet 2 (cBin oSub (cCall m__law_draw (aCons (cVar 0) (aCons (cK (.int (9))) aNil))) (cK (.int (4)))))
    (sSeq (sSet 3 (cBin oAdd (cBin oAdd (cVar 2) (cK (.int (1)))) (cCall m__law_draw (aCons (cVar 0) (aCons (cK (.int (3))) aNil)))))
    (sSeq (sSet 4 (cArg oTup (aCons (cArg oTup (aCons (cBin oIx (cVar 1) (cK (.int (0)))) (aCons (cVar 2) (aCons (cBin oAdd (cVar 2) (cK (.int (4)))) aNil)))) (aCons (cArg oTup (aCons (cBin oIx (cVar 1) (cK (.int (1)))) (aCons (cVar 2) (aCons (cBin oAdd (cVar 2) (cK (.int (4)))) aNil)))) aNil))))
    (sSeq (sSet 5 (cArg oTuple (aCons (cArg oSorted (aCons (cArg oLst (aCons (cArg oTup (aCons (cArg oTup (aCons (cK (.int (0))) (aCons (cUn oNeg (cK (.int (1)))) (aCons (cBin oSub (cVar 3) (cK (.int (1)))) aNil)))) (aCons (cArg oTup (aCons (cK (.int (1))) (aCons (cK (.int (1))) (aCons (cVar 3) aNil)))) aNil))) (aCons (cArg oTup (aCons (cArg oTup (aCons (cK (.int (0))) (aCons (cUn oNeg (cK (.int (1)))) (aCons (cVar 2) aNil)))) (aCons (cArg oTup (aCons (cK (.int (0))) (aCons (cK (.int (1))) (aCons (cBin oAdd (cVar 2) (cK (.int (2)))) aNil)))) aNil))) (aCons (cArg oTup (aCons (cArg oTup (aCons (cK (.int (1))) (aCons (cK (.int (1))) (aCons (cBin oAdd (cVar 2) (cK (.int (1)))) aNil)))) (aCons (cArg oTup (aCons (cK (.int (1))) (aCons (cK (.int (1))) (aCons (cBin oAdd (cVar 2) (cK (.int (1)))) aNil)))) aNil))) aNil)))) aNil)) aNil)))
    (sSeq (sFor (cRange2 (cVar 2) (cBin oAdd (cVar 2) (cK (.int (5))))) (gSet 6) (sFor (cIter (cArg oLst (aCons (cK .non) (aCons (cVar 2) (aCons (cBin oSub (cVar 3) (cK (.int (1)))) (aCons (cVar 3) (aCons (cBin oAdd (cVar 2) (cK (.int (4)))) aNil))))))) (gSet 7) (sIf (cOr (cNot (cTru (cCall m__law_asked (aCons (cArg oTup (aCons (cVar 4) (aCons (cVar 5) aNil))) (aCons (cArg oTup (aCons (cVar 6) (aCons (cVar 7) aNil))) aNil))))) (cNot (cTru (cCall m__law_asked (aCons (cArg oTup (aCons (cVar 4) (aCons (cVar 5) aNil))) (aCons (cArg oTup (aCons (cK .non) (aCons (cVar 7) aNil))) aNil)))))) (sRet (cK (.bl false))) sNil)))
    (sRet (cAndV (cBin oIs (cCall m_is_good (aCons (cArg oTup (aCons (cVar 4) (aCons (cVar 5) aNil))) (aCons (cArg oTup (aCons (cVar 2) (aCons (cBin oAdd (cVar 2) (cK (.int (4)))) aNil))) aNil))) (cK (.bl true))) (cBin oIs (cCall m_is_good (aCons (cArg oTup (aCons (cVar 4) (aCons (cVar 5) aNil))) (aCons (cArg oTup (aCons (cVar 3) (aCons (cVar 2) aNil))) aNil))) (cK (.bl false)))))))))))
@[irreducible] noncomputable def m__law_made_good : FD := cDef 8 b__law_made_good
theorem wm__law_made_good {x : XQ} {Q : D → Store → Prop} {tt : Tg (x, Q)} {S : Store} {a0 : D} : W (x, Q) tt (m__law_made_good [a0] S) = WS (qd (x, Q)) tg (b__law_made_good [some a0, none, none, none, none, none, none, none] S) := by unfold m__law_made_good; exact W_def
noncomputable def b__law_wide_good : DS := (sSeq (sSet 1 (cCall m__law_names (aCons (cVar 0) (aCons (cK (.int (12))) aNil))))
    (sSeq (sSet 2 (cArg oLst aNil))
    (sSeq (sFor (cRange1 (cK (.int (12)))) (gSet 3) (sSeq (sSet 14 (cBin oSub (cCall m__law_draw (aCons (cVar 0) (aCons (cK (.int (2000))) aNil))) (cK (.int (1000)))))
    (sExpr (cMeth isL mAppend (cVar 2) (aCons (cArg oTup (aCons (cBin oIx (cVar 1) (cVar 3)) (aCons (cVar 14) (aCons (cBin oAdd (cVar 14) (cK (.int (19)))) aNil)))) aNil)))))
    (sSeq (sSet 4 (cCall m__law_sayings (aCons (cVar 2) aNil)))
    (sSeq (sSet 5 (cBin oIx (cArg oLst (aCons (cK (.int (5))) (aCons (cK (.int (7))) (aCons (cK (.int (11))) (aCons (cK (.int (13))) aNil))))) (cCall m__law_draw (aCons (cVar 0) (aCons (cK (.int (4))) aNil)))))
    (sSeq (sSet 6 (cCall m__law_draw (aCons (cVar 0) (aCons (cK (.int (456))) aNil))))
    (sSeq (sSet 7 (cArg oLst aNil))
    (sSeq (sFor (cRange1 (cK (.int (240)))) (gSet 3) (sExpr (cMeth isL mAppend (cVar 7) (aCons (cArg oTuple (aCons (cArg oSorted (aCons (cArg oLst (aCons (cBin oIx (cVar 4) (cBin oMod (cArg oInt (aCons (cBin oAdd (cVar 6) (cBin oMul (cVar 3) (cVar 5))) aNil)) (cK (.int (456))))) (aCons (cBin oIx (cVar 4) (cBin oMod (cArg oInt (aCons (cBin oAdd (cBin oAdd (cVar 6) (cBin oMul (cVar 3) (cK (.int (17))))) (cBin oDiv (cVar 3) (cK (.int (19))))) aNil)) (cK (.int (456))))) aNil))) aNil)) aNil)) aNil))))
    (sSeq (sSet 8 (cArg oSorted (aCons (cVar 7) aNil)))
    (sSeq (sSet 7 (cAlloc (lComp (cRange1 (cK (.int (240)))) (.nm 3) (cOr (cTest (cBin oEq (cVar 3) (cK (.int (0))))) (cTest (cBin oNe (cBin oIx (cVar 8) (cVar 3)) (cBin oIx (cVar 8) (cBin oSub (cVar 3) (cK (.int (1)))))))) (cBin oIx (cVar 8) (cVar 3)) [3])))
    (sSeq (sSet 9 (cArg oTup (aCons (cArg oTuple (aCons (cVar 2) aNil)) (aCons (cArg oTuple (aCons (cVar 7) aNil)) aNil))))
    (sSeq (sSet 10 (cCall m__law_half (aCons (cVar 0) (aCons (cVar 2) (aCons (cK (.int (1000003))) aNil)))))
    (sSeq (sIf (cOr (cNot (cTru (cCall m__law_asked (aCons (cVar 9) (aCons (cVar 10) aNil))))) (cNot (cTru (cCall m__law_asked (aCons (cVar 9) (aCons (cCall m__law_half (aCons (cVar 0) (aCons (cVar 2) (aCons (cK (.int (4))) aNil)))) aNil)))))) (sRet (cK (.bl false))) sNil)
    (sSeq (sSet 11 (cBin oIx (cVar 7) (cBin oSub (cArg oLen (aCons (cVar 7) aNil)) (cK (.int (1))))))
    (sSeq (sSet 12 (cAlloc (lComp (cIter (cVar 2)) (.nm 15) tYesD (cBin oIx (cVar 15) (cK (.int (1)))) [15])))
    (sSeq (sFor (cIter (cVar 11)) (gSet 13) (sAsg (cBin oIx (cArg oLst (aCons (cBin oAdd (cBin oIx (cVar 13) (cK (.int (2)))) (cK (.int (1)))) (aCons (cBin oSub (cBin oIx (cVar 13) (cK (.int (2)))) (cK (.int (1)))) aNil))) (cArg oInt (aCons (cBin oEq (cBin oIx (cVar 13) (cK (.int (1)))) (cK (.int (1)))) aNil))) (gSubD (cVar 12) (cBin oIx (cVar 13) (cK (.int (0)))))))
    (sRet (cCall m__law_asked (aCons (cVar 9) (aCons (cArg oTuple (aCons (cVar 12) aNil)) aNil))))))))))))))))))))
@[irreducible] noncomputable def m__law_wide_good : FD := cDef 16 b__law_wide_good
theorem wm__law_wide_good {x : XQ} {Q : D → Store → Prop} {tt : Tg (x, Q)} {S : Store} {a0 : D} : W (x, Q) tt (m__law_wide_good [a0] S) = WS (qd (x, Q)) tg (b__law_wide_good [some a0, none, none, none, none, none, none, none, none, none, none, none, none, none, none, none] S) := by unfold m__law_wide_good; exact W_def
noncomputable def b_law : DS := (sSeq (sSet 1 (cCall m__law_feed (aCons (cVar 0) aNil)))
    (sSeq (sSet 2 (cCall m__law_fields (aCons (cVar 1) (aCons (cK (.int (4))) (aCons (cK (.int (256))) aNil)))))
    (sSeq (sSet 3 (cArg oTup (aCons (cVar 2) (aCons (cCall m__law_rules (aCons (cVar 1) (aCons (cCall m__law_sayings (aCons (cVar 2) aNil)) (aCons (cK (.int (12))) aNil)))) aNil))))
    (sSeq (sFor (cRange1 (cK (.int (8)))) (gSet 4) (sIf (cNot (cTru (cCall m__law_asked (aCons (cVar 3) (aCons (cCall m__law_half (aCons (cVar 1) (aCons (cVar 2) (aCons (cBin oIx (cArg oLst (aCons (cK (.int (2))) (aCons (cK (.int (4))) (aCons (cK (.int (1000003))) aNil)))) (cBin oMod (cVar 4) (cK (.int (3))))) aNil)))) aNil))))) (sRet (cK (.bl false))) sNil))
    (sSeq (sSet 5 (cOfL kTup (lComp (cIter (cVar 2)) (.nm 6) tYesD (cK .non) [6])))
    (sSeq (sIf (cOr (cNot (cTru (cCall m__law_asked (aCons (cVar 3) (aCons (cVar 5) aNil))))) (cOr (cNot (cTru (cCall m__law_asked (aCons (cArg oTup (aCons (cVar 2) (aCons (cArg oTup aNil) aNil))) (aCons (cCall m__law_half (aCons (cVar 1) (aCons (cVar 2) (aCons (cK (.int (5))) aNil)))) aNil))))) (cNot (cTru (cCall m__law_made_good (aCons (cVar 1) aNil)))))) (sRet (cK (.bl false))) sNil)
    (sRet (cOrV (cBin oGt (cCall m__law_draw (aCons (cVar 1) (aCons (cK (.int (7))) aNil))) (cK (.int (0)))) (cCall m__law_wide_good (aCons (cVar 1) aNil))))))))))
@[irreducible] noncomputable def m_law : FD := cDef 7 b_law
theorem wm_law {x : XQ} {Q : D → Store → Prop} {tt : Tg (x, Q)} {S : Store} {a0 : D} : W (x, Q) tt (m_law [a0] S) = WS (qd (x, Q)) tg (b_law [some a0, none, none, none, none, none, none] S) := by unfold m_law; exact W_def
end LW

namespace LW
open PySem PySem.Spec PyProof.Rows L2 DL
section
variable {x : XQ} {Q : D → Store → Prop} {tt : Tg (x, Q)} {S : Store}
/-- the feed stands: its list is cell 1, its numbers cell 0 -/
def FeedOk (S : Store) : Prop := ∃ at_ mixed nums, lstAt S 1 = some [.loc 0, .int at_, .int mixed] ∧ lstAt S 0 = some nums ∧ 0 ≤ at_ ∧ ∀ z ∈ nums, ∃ i, z = D.int i
theorem FeedOk.len (h : FeedOk S) : 2 ≤ S.length := by
  obtain ⟨_, _, _, h, _⟩ := h
  exact lstAt_lt h
theorem FeedOk.app (T : Store) (h : FeedOk S) : FeedOk (S ++ T) := by
  obtain ⟨a, b, c, h1, h2, h3⟩ := h
  exact ⟨a, b, c, lstAt_app h1, lstAt_app h2, h3⟩
theorem FeedOk.set {l : Nat} {xs : List D} (h : FeedOk S) (hl : 2 ≤ l) : FeedOk (S.set l (.lst xs)) := by
  obtain ⟨a, b, c, h1, h2, h3⟩ := h
  exact ⟨a, b, c, by rw [lstAt_set_ne (by omega)]; exact h1, by rw [lstAt_set_ne (by omega)]; exact h2, h3⟩
/-- a draw: some number below most -/
theorem draw_w {most : Int} (hF : FeedOk S) (hm : 0 < most) (h : ∀ v S', 0 ≤ v → v < most → FeedOk S' → Fr S S' → Q (.int v) S') : W (x, Q) tt (m__law_draw [.loc 1, .int most] S) := by
  obtain ⟨at_, mixed, nums, h1, h0, ha, hz⟩ := hF
  simp only [↓reduceIte, ↓W_ok, ↓W_exn, ↓W_var0, ↓W_varS, ↓W_K, ↓W_bin, ↓W_un, ↓W_aNil, ↓W_aCons, ↓W_arg, ↓W_call, ↓W_of, ↓WB_test, ↓tc_bl, ↓WB_tru, ↓trc, ↓WB_and, ↓WB_or, ↓WB_not, ↓W_if, ↓W_andV, ↓W_orV, ↓W_notV, ↓WM_some, ↓WM_none, ↓WO_some, ↓tr_bl, ↓tr_non, ↓tr_int, ↓tr_tup, ↓tr_rol, ↓WS_nx, ↓WS_rt, ↓WS_ct, ↓WS_bk, ↓WS_exn, ↓WS_seq, ↓WS_nil, ↓WS_retN, ↓WS_break, ↓WS_cont, ↓WS_expr, ↓WS_ret, ↓WS_if, ↓WS_set, ↓WS_par, ↓WS_asg, ↓WS_gSet, ↓WS_gN, ↓WS_gC, ↓WS_gUn, ↓WS_gSub, ↓WS_aug, ↓o_add, ↓o_iadd, ↓o_sub, ↓o_neg, ↓o_mul, ↓o_mod, ↓o_div, ↓o_pow, ↓o_addT, ↓o_addS, ↓o_addL, ↓o_lt, ↓o_le, ↓o_gt, ↓o_ge, ↓o_eq, ↓o_ne, ↓o_eqS, ↓o_neS, ↓o_eqB, ↓o_neB, ↓o_eqT, ↓o_neT, ↓o_eqN, ↓o_neN, ↓o_ltT, ↓o_leT, ↓o_is, ↓o_isnot, ↓o_isB, ↓o_isnotB, ↓o_inT, ↓o_ninT, ↓o_inL, ↓o_ninL, ↓o_ixT, ↓o_ixR, ↓o_ixL, ↓o_ixS, ↓o_str, ↓o_strS, ↓o_set, ↓o_lenT, ↓o_lenR, ↓o_lenL, ↓o_lenS, ↓o_int, ↓o_intT, ↓o_intF, ↓o_abs, ↓o_max, ↓o_min, ↓o_tuple, ↓o_list, ↓o_tup0, ↓o_tup1, ↓o_tup2, ↓o_tup3, ↓o_tup4, ↓o_tup5, ↓o_tup6, ↓o_lst0, ↓o_lst1, ↓o_lst2, ↓o_lst3, ↓o_lst4, ↓o_lst5, ↓o_lst6, ↓o_sum, ↓W_meth, ↓o_append, ↓o_extend, ↓o_popAt, ↓W_cut, ↓W_noPart, ↓W_part, ↓o_cutT, ↓o_cutR, ↓o_cutL, ↓W_isi, ↓W_ch, ↓WS_for, ↓WI_iter, ↓WI_range1, ↓WI_range2, ↓WI_range3, ↓WI_enum, ↓WS_f0, ↓WS_f1, ↓W_alloc, ↓W_ofL, ↓W_comp, ↓WB_yes, ↓W_c0, ↓W_c1, ↓W_listRg, ↓W_tupRg, ↓W_rRange1, ↓W_rRange2, o_intT, o_intF, o_intB, o_ixL, o_ixT, beq_self_eq_true, decide_true, decide_false, okEq, okCmp, okIn, D.fits, D.fitsL, D.dep, D.depL, D.eqv, D.eqvL, D.alike, D.alikeL, isBl_bl, isN_non, isN_bl, isN_int, isN_str, isN_tup, isN_rol, isN_loc, Nat.reduceAdd, Nat.reduceSub, Nat.max_self, Nat.min_self, Nat.max_zero, Nat.zero_max, Nat.min_zero, Nat.zero_min, ty_non, ty_bl, ty_int, ty_str, ty_tup, ty_rol, ty_loc, kb_bool_bool, kb_bool_int, kb_bool_str, kb_bool_tuple, kb_bool_list, kb_int_bool, kb_int_int, kb_int_str, kb_int_tuple, kb_int_list, kb_str_bool, kb_str_int, kb_str_str, kb_str_tuple, kb_str_list, kb_tuple_bool, kb_tuple_int, kb_tuple_str, kb_tuple_tuple, kb_tuple_list, kb_list_bool, kb_list_int, kb_list_str, kb_list_tuple, kb_list_list, kb_NoneType_bool, kb_NoneType_int, kb_NoneType_str, kb_NoneType_tuple, kb_NoneType_list, Nat.zero_add, c02, lstAt_setE, Option.map_some, lstAt_set_ne, ne_eq, Nat.reduceEqDiff, Nat.one_ne_zero, Nat.zero_ne_one, ix_1_0, ix_2_0, ix_2_1, ix_3_0, ix_3_1, ix_3_2, ix_4_0, ix_4_1, ix_4_2, ix_4_3, ix_5_0, ix_5_1, ix_5_2, ix_5_3, ix_5_4, ix_6_0, ix_6_1, ix_6_2, ix_6_3, ix_6_4, ix_6_5, Nat.reduceLeDiff, Int.reduceAdd, Int.reduceSub, Int.reduceMul, Int.reduceNeg, Int.reducePow, Int.reduceLT, Int.reduceLE, Int.reduceEq, Int.reduceToNat, Bool.and_true, Bool.true_and, Bool.and_self, Bool.and_false, Bool.false_and, Bool.and_eq_true, Bool.and_eq_false_imp, and_self, WS_qdn, WS_qdr, WS_qde, WS_qdb, WS_qdc, qn1, qn2, qn3, qn4, qn5, qk1, qk5, lq1, lq2, lq3, lq4, lq5, intD_int, items_tup, items_rol, items_loc, listOf_loc, listOf_rol, isL_loc, at0, at1, at2, at3, at4, at5, atl1, atl2, atl3, atl4, lstAt_new, it_tup, it_rol, kTup_eq, kLen_eq, wipe0, wipe1, b_nm, List.set_cons_zero, List.set_cons_succ, List.length_cons, List.length_nil, List.nil_append, List.cons_append, List.append_nil, List.isEmpty_cons, List.isEmpty_nil, true_and, and_true, false_and, and_false, true_implies, forall_const, not_true_eq_false, not_false_eq_true, implies_true, decide_eq_true_eq, decide_eq_false_iff_not, Bool.not_eq_true', Bool.not_eq_false', Bool.not_true, Bool.not_false, if_true, if_false, Bool.false_eq_true, Bool.true_eq_false, reduceCtorEq, false_implies, eq_self, wm__law_draw, b__law_draw, h1, h0]
  have f1 : FeedOk (S.set 1 (.lst [.loc 0, .int (at_ + 1), .int mixed])) := ⟨_, _, nums, by rw [lstAt_setE, h1]; rfl, by rw [lstAt_set_ne (by decide)]; exact h0, by omega, hz⟩
  refine ⟨fun hlt => ?_, fun hge => ?_⟩
  · refine WM_at ha hlt fun z hzm => ?_
    obtain ⟨i, rfl⟩ := hz z hzm
    simp only [↓reduceIte, ↓W_ok, ↓W_exn, ↓W_var0, ↓W_varS, ↓W_K, ↓W_bin, ↓W_un, ↓W_aNil, ↓W_aCons, ↓W_arg, ↓W_call, ↓W_of, ↓WB_test, ↓tc_bl, ↓WB_tru, ↓trc, ↓WB_and, ↓WB_or, ↓WB_not, ↓W_if, ↓W_andV, ↓W_orV, ↓W_notV, ↓WM_some, ↓WM_none, ↓WO_some, ↓tr_bl, ↓tr_non, ↓tr_int, ↓tr_tup, ↓tr_rol, ↓WS_nx, ↓WS_rt, ↓WS_ct, ↓WS_bk, ↓WS_exn, ↓WS_seq, ↓WS_nil, ↓WS_retN, ↓WS_break, ↓WS_cont, ↓WS_expr, ↓WS_ret, ↓WS_if, ↓WS_set, ↓WS_par, ↓WS_asg, ↓WS_gSet, ↓WS_gN, ↓WS_gC, ↓WS_gUn, ↓WS_gSub, ↓WS_aug, ↓o_add, ↓o_iadd, ↓o_sub, ↓o_neg, ↓o_mul, ↓o_mod, ↓o_div, ↓o_pow, ↓o_addT, ↓o_addS, ↓o_addL, ↓o_lt, ↓o_le, ↓o_gt, ↓o_ge, ↓o_eq, ↓o_ne, ↓o_eqS, ↓o_neS, ↓o_eqB, ↓o_neB, ↓o_eqT, ↓o_neT, ↓o_eqN, ↓o_neN, ↓o_ltT, ↓o_leT, ↓o_is, ↓o_isnot, ↓o_isB, ↓o_isnotB, ↓o_inT, ↓o_ninT, ↓o_inL, ↓o_ninL, ↓o_ixT, ↓o_ixR, ↓o_ixL, ↓o_ixS, ↓o_str, ↓o_strS, ↓o_set, ↓o_lenT, ↓o_lenR, ↓o_lenL, ↓o_lenS, ↓o_int, ↓o_intT, ↓o_intF, ↓o_abs, ↓o_max, ↓o_min, ↓o_tuple, ↓o_list, ↓o_tup0, ↓o_tup1, ↓o_tup2, ↓o_tup3, ↓o_tup4, ↓o_tup5, ↓o_tup6, ↓o_lst0, ↓o_lst1, ↓o_lst2, ↓o_lst3, ↓o_lst4, ↓o_lst5, ↓o_lst6, ↓o_sum, ↓W_meth, ↓o_append, ↓o_extend, ↓o_popAt, ↓W_cut, ↓W_noPart, ↓W_part, ↓o_cutT, ↓o_cutR, ↓o_cutL, ↓W_isi, ↓W_ch, ↓WS_for, ↓WI_iter, ↓WI_range1, ↓WI_range2, ↓WI_range3, ↓WI_enum, ↓WS_f0, ↓WS_f1, ↓W_alloc, ↓W_ofL, ↓W_comp, ↓WB_yes, ↓W_c0, ↓W_c1, ↓W_listRg, ↓W_tupRg, ↓W_rRange1, ↓W_rRange2, o_intT, o_intF, o_intB, o_ixL, o_ixT, beq_self_eq_true, decide_true, decide_false, okEq, okCmp, okIn, D.fits, D.fitsL, D.dep, D.depL, D.eqv, D.eqvL, D.alike, D.alikeL, isBl_bl, isN_non, isN_bl, isN_int, isN_str, isN_tup, isN_rol, isN_loc, Nat.reduceAdd, Nat.reduceSub, Nat.max_self, Nat.min_self, Nat.max_zero, Nat.zero_max, Nat.min_zero, Nat.zero_min, ty_non, ty_bl, ty_int, ty_str, ty_tup, ty_rol, ty_loc, kb_bool_bool, kb_bool_int, kb_bool_str, kb_bool_tuple, kb_bool_list, kb_int_bool, kb_int_int, kb_int_str, kb_int_tuple, kb_int_list, kb_str_bool, kb_str_int, kb_str_str, kb_str_tuple, kb_str_list, kb_tuple_bool, kb_tuple_int, kb_tuple_str, kb_tuple_tuple, kb_tuple_list, kb_list_bool, kb_list_int, kb_list_str, kb_list_tuple, kb_list_list, kb_NoneType_bool, kb_NoneType_int, kb_NoneType_str, kb_NoneType_tuple, kb_NoneType_list, Nat.zero_add, c02, lstAt_setE, Option.map_some, lstAt_set_ne, ne_eq, Nat.reduceEqDiff, Nat.one_ne_zero, Nat.zero_ne_one, ix_1_0, ix_2_0, ix_2_1, ix_3_0, ix_3_1, ix_3_2, ix_4_0, ix_4_1, ix_4_2, ix_4_3, ix_5_0, ix_5_1, ix_5_2, ix_5_3, ix_5_4, ix_6_0, ix_6_1, ix_6_2, ix_6_3, ix_6_4, ix_6_5, Nat.reduceLeDiff, Int.reduceAdd, Int.reduceSub, Int.reduceMul, Int.reduceNeg, Int.reducePow, Int.reduceLT, Int.reduceLE, Int.reduceEq, Int.reduceToNat, Bool.and_true, Bool.true_and, Bool.and_self, Bool.and_false, Bool.false_and, Bool.and_eq_true, Bool.and_eq_false_imp, and_self, WS_qdn, WS_qdr, WS_qde, WS_qdb, WS_qdc, qn1, qn2, qn3, qn4, qn5, qk1, qk5, lq1, lq2, lq3, lq4, lq5, intD_int, items_tup, items_rol, items_loc, listOf_loc, listOf_rol, isL_loc, at0, at1, at2, at3, at4, at5, atl1, atl2, atl3, atl4, lstAt_new, it_tup, it_rol, kTup_eq, kLen_eq, wipe0, wipe1, b_nm, List.set_cons_zero, List.set_cons_succ, List.length_cons, List.length_nil, List.nil_append, List.cons_append, List.append_nil, List.isEmpty_cons, List.isEmpty_nil, true_and, and_true, false_and, and_false, true_implies, forall_const, not_true_eq_false, not_false_eq_true, implies_true, decide_eq_true_eq, decide_eq_false_iff_not, Bool.not_eq_true', Bool.not_eq_false', Bool.not_true, Bool.not_false, if_true, if_false, Bool.false_eq_true, Bool.true_eq_false, reduceCtorEq, false_implies, eq_self]
    exact ⟨hm, h _ _ (Int.emod_nonneg _ (by omega)) (Int.emod_lt_of_pos _ hm) f1 ⟨by simp, fun a h2 _ => by rw [List.getElem?_set_ne (by omega)]⟩⟩
  · refine ⟨mul2 (by omega), mul2 (by omega), divS (by omega) (by omega), hm, h _ _ (Int.emod_nonneg _ (by omega)) (Int.emod_lt_of_pos _ hm) ⟨_, _, nums, by rw [lstAt_setE, lstAt_setE, h1]; rfl, by rw [lstAt_set_ne (by decide), lstAt_set_ne (by decide)]; exact h0, by omega, hz⟩ ⟨by simp, fun a h2 _ => by rw [List.getElem?_set_ne (by omega), List.getElem?_set_ne (by omega)]⟩⟩
theorem ints_app {r : List D} {k : Int} (h : ∀ z ∈ r, ∃ i, z = D.int i) : ∀ z ∈ r ++ [D.int k], ∃ i, z = D.int i := fun z hm => by
  rcases List.mem_append.mp hm with q | q
  · exact h z q
  · exact ⟨k, List.mem_singleton.mp q⟩
/-- the feed of a script -/
theorem feed_w (ns : List Int) (hl : ns.length ≤ 63) (h : ∀ S', FeedOk S' → S'.length = 2 → Q (.loc 1) S') : W (x, Q) tt (m__law_feed [.rol (ns.map D.int)] []) := by
  simp only [↓reduceIte, ↓W_ok, ↓W_exn, ↓W_var0, ↓W_varS, ↓W_K, ↓W_bin, ↓W_un, ↓W_aNil, ↓W_aCons, ↓W_arg, ↓W_call, ↓W_of, ↓WB_test, ↓tc_bl, ↓WB_tru, ↓trc, ↓WB_and, ↓WB_or, ↓WB_not, ↓W_if, ↓W_andV, ↓W_orV, ↓W_notV, ↓WM_some, ↓WM_none, ↓WO_some, ↓tr_bl, ↓tr_non, ↓tr_int, ↓tr_tup, ↓tr_rol, ↓WS_nx, ↓WS_rt, ↓WS_ct, ↓WS_bk, ↓WS_exn, ↓WS_seq, ↓WS_nil, ↓WS_retN, ↓WS_break, ↓WS_cont, ↓WS_expr, ↓WS_ret, ↓WS_if, ↓WS_set, ↓WS_par, ↓WS_asg, ↓WS_gSet, ↓WS_gN, ↓WS_gC, ↓WS_gUn, ↓WS_gSub, ↓WS_aug, ↓o_add, ↓o_iadd, ↓o_sub, ↓o_neg, ↓o_mul, ↓o_mod, ↓o_div, ↓o_pow, ↓o_addT, ↓o_addS, ↓o_addL, ↓o_lt, ↓o_le, ↓o_gt, ↓o_ge, ↓o_eq, ↓o_ne, ↓o_eqS, ↓o_neS, ↓o_eqB, ↓o_neB, ↓o_eqT, ↓o_neT, ↓o_eqN, ↓o_neN, ↓o_ltT, ↓o_leT, ↓o_is, ↓o_isnot, ↓o_isB, ↓o_isnotB, ↓o_inT, ↓o_ninT, ↓o_inL, ↓o_ninL, ↓o_ixT, ↓o_ixR, ↓o_ixL, ↓o_ixS, ↓o_str, ↓o_strS, ↓o_set, ↓o_lenT, ↓o_lenR, ↓o_lenL, ↓o_lenS, ↓o_int, ↓o_intT, ↓o_intF, ↓o_abs, ↓o_max, ↓o_min, ↓o_tuple, ↓o_list, ↓o_tup0, ↓o_tup1, ↓o_tup2, ↓o_tup3, ↓o_tup4, ↓o_tup5, ↓o_tup6, ↓o_lst0, ↓o_lst1, ↓o_lst2, ↓o_lst3, ↓o_lst4, ↓o_lst5, ↓o_lst6, ↓o_sum, ↓W_meth, ↓o_append, ↓o_extend, ↓o_popAt, ↓W_cut, ↓W_noPart, ↓W_part, ↓o_cutT, ↓o_cutR, ↓o_cutL, ↓W_isi, ↓W_ch, ↓WS_for, ↓WI_iter, ↓WI_range1, ↓WI_range2, ↓WI_range3, ↓WI_enum, ↓WS_f0, ↓WS_f1, ↓W_alloc, ↓W_ofL, ↓W_comp, ↓WB_yes, ↓W_c0, ↓W_c1, ↓W_listRg, ↓W_tupRg, ↓W_rRange1, ↓W_rRange2, o_intT, o_intF, o_intB, o_ixL, o_ixT, beq_self_eq_true, decide_true, decide_false, okEq, okCmp, okIn, D.fits, D.fitsL, D.dep, D.depL, D.eqv, D.eqvL, D.alike, D.alikeL, isBl_bl, isN_non, isN_bl, isN_int, isN_str, isN_tup, isN_rol, isN_loc, Nat.reduceAdd, Nat.reduceSub, Nat.max_self, Nat.min_self, Nat.max_zero, Nat.zero_max, Nat.min_zero, Nat.zero_min, ty_non, ty_bl, ty_int, ty_str, ty_tup, ty_rol, ty_loc, kb_bool_bool, kb_bool_int, kb_bool_str, kb_bool_tuple, kb_bool_list, kb_int_bool, kb_int_int, kb_int_str, kb_int_tuple, kb_int_list, kb_str_bool, kb_str_int, kb_str_str, kb_str_tuple, kb_str_list, kb_tuple_bool, kb_tuple_int, kb_tuple_str, kb_tuple_tuple, kb_tuple_list, kb_list_bool, kb_list_int, kb_list_str, kb_list_tuple, kb_list_list, kb_NoneType_bool, kb_NoneType_int, kb_NoneType_str, kb_NoneType_tuple, kb_NoneType_list, Nat.zero_add, c02, lstAt_setE, Option.map_some, lstAt_set_ne, ne_eq, Nat.reduceEqDiff, Nat.one_ne_zero, Nat.zero_ne_one, ix_1_0, ix_2_0, ix_2_1, ix_3_0, ix_3_1, ix_3_2, ix_4_0, ix_4_1, ix_4_2, ix_4_3, ix_5_0, ix_5_1, ix_5_2, ix_5_3, ix_5_4, ix_6_0, ix_6_1, ix_6_2, ix_6_3, ix_6_4, ix_6_5, Nat.reduceLeDiff, Int.reduceAdd, Int.reduceSub, Int.reduceMul, Int.reduceNeg, Int.reducePow, Int.reduceLT, Int.reduceLE, Int.reduceEq, Int.reduceToNat, Bool.and_true, Bool.true_and, Bool.and_self, Bool.and_false, Bool.false_and, Bool.and_eq_true, Bool.and_eq_false_imp, and_self, WS_qdn, WS_qdr, WS_qde, WS_qdb, WS_qdc, qn1, qn2, qn3, qn4, qn5, qk1, qk5, lq1, lq2, lq3, lq4, lq5, intD_int, items_tup, items_rol, items_loc, listOf_loc, listOf_rol, isL_loc, at0, at1, at2, at3, at4, at5, atl1, atl2, atl3, atl4, lstAt_new, it_tup, it_rol, kTup_eq, kLen_eq, wipe0, wipe1, b_nm, List.set_cons_zero, List.set_cons_succ, List.length_cons, List.length_nil, List.nil_append, List.cons_append, List.append_nil, List.isEmpty_cons, List.isEmpty_nil, true_and, and_true, false_and, and_false, true_implies, forall_const, not_true_eq_false, not_false_eq_true, implies_true, decide_eq_true_eq, decide_eq_false_iff_not, Bool.not_eq_true', Bool.not_eq_false', Bool.not_true, Bool.not_false, if_true, if_false, Bool.false_eq_true, Bool.true_eq_false, reduceCtorEq, false_implies, eq_self, wm__law_feed, b__law_feed]
  refine WS_loop (fun ds σ S => ∃ (post : List Int) (nums : List D) (mixed : Int) (p q r : Option D), ds = post.map D.int ∧ σ = [some (.rol (ns.map D.int)), some (.loc 0), some (.int mixed), p, q, r] ∧ S = [.lst nums] ∧ (∀ z ∈ nums, ∃ i, z = D.int i) ∧ nums.length + 60 * post.length ≤ 3780) ⟨ns, [], _, none, none, none, rfl, rfl, rfl, by simp, by simp; omega⟩ ?_ ?_
  · rintro d r σ S ⟨post, nums, mixed, p, q, t, hds, rfl, rfl, hz, hn⟩
    refine ⟨trivial, ?_⟩
    cases post with
    | nil => cases hds
    | cons n post =>
      rw [List.map_cons] at hds
      obtain ⟨rfl, rfl⟩ := List.cons.inj hds
      rw [List.length_cons] at hn
      have h0 : lstAt [.lst nums] 0 = some nums := rfl
      simp only [↓reduceIte, ↓W_ok, ↓W_exn, ↓W_var0, ↓W_varS, ↓W_K, ↓W_bin, ↓W_un, ↓W_aNil, ↓W_aCons, ↓W_arg, ↓W_call, ↓W_of, ↓WB_test, ↓tc_bl, ↓WB_tru, ↓trc, ↓WB_and, ↓WB_or, ↓WB_not, ↓W_if, ↓W_andV, ↓W_orV, ↓W_notV, ↓WM_some, ↓WM_none, ↓WO_some, ↓tr_bl, ↓tr_non, ↓tr_int, ↓tr_tup, ↓tr_rol, ↓WS_nx, ↓WS_rt, ↓WS_ct, ↓WS_bk, ↓WS_exn, ↓WS_seq, ↓WS_nil, ↓WS_retN, ↓WS_break, ↓WS_cont, ↓WS_expr, ↓WS_ret, ↓WS_if, ↓WS_set, ↓WS_par, ↓WS_asg, ↓WS_gSet, ↓WS_gN, ↓WS_gC, ↓WS_gUn, ↓WS_gSub, ↓WS_aug, ↓o_add, ↓o_iadd, ↓o_sub, ↓o_neg, ↓o_mul, ↓o_mod, ↓o_div, ↓o_pow, ↓o_addT, ↓o_addS, ↓o_addL, ↓o_lt, ↓o_le, ↓o_gt, ↓o_ge, ↓o_eq, ↓o_ne, ↓o_eqS, ↓o_neS, ↓o_eqB, ↓o_neB, ↓o_eqT, ↓o_neT, ↓o_eqN, ↓o_neN, ↓o_ltT, ↓o_leT, ↓o_is, ↓o_isnot, ↓o_isB, ↓o_isnotB, ↓o_inT, ↓o_ninT, ↓o_inL, ↓o_ninL, ↓o_ixT, ↓o_ixR, ↓o_ixL, ↓o_ixS, ↓o_str, ↓o_strS, ↓o_set, ↓o_lenT, ↓o_lenR, ↓o_lenL, ↓o_lenS, ↓o_int, ↓o_intT, ↓o_intF, ↓o_abs, ↓o_max, ↓o_min, ↓o_tuple, ↓o_list, ↓o_tup0, ↓o_tup1, ↓o_tup2, ↓o_tup3, ↓o_tup4, ↓o_tup5, ↓o_tup6, ↓o_lst0, ↓o_lst1, ↓o_lst2, ↓o_lst3, ↓o_lst4, ↓o_lst5, ↓o_lst6, ↓o_sum, ↓W_meth, ↓o_append, ↓o_extend, ↓o_popAt, ↓W_cut, ↓W_noPart, ↓W_part, ↓o_cutT, ↓o_cutR, ↓o_cutL, ↓W_isi, ↓W_ch, ↓WS_for, ↓WI_iter, ↓WI_range1, ↓WI_range2, ↓WI_range3, ↓WI_enum, ↓WS_f0, ↓WS_f1, ↓W_alloc, ↓W_ofL, ↓W_comp, ↓WB_yes, ↓W_c0, ↓W_c1, ↓W_listRg, ↓W_tupRg, ↓W_rRange1, ↓W_rRange2, o_intT, o_intF, o_intB, o_ixL, o_ixT, beq_self_eq_true, decide_true, decide_false, okEq, okCmp, okIn, D.fits, D.fitsL, D.dep, D.depL, D.eqv, D.eqvL, D.alike, D.alikeL, isBl_bl, isN_non, isN_bl, isN_int, isN_str, isN_tup, isN_rol, isN_loc, Nat.reduceAdd, Nat.reduceSub, Nat.max_self, Nat.min_self, Nat.max_zero, Nat.zero_max, Nat.min_zero, Nat.zero_min, ty_non, ty_bl, ty_int, ty_str, ty_tup, ty_rol, ty_loc, kb_bool_bool, kb_bool_int, kb_bool_str, kb_bool_tuple, kb_bool_list, kb_int_bool, kb_int_int, kb_int_str, kb_int_tuple, kb_int_list, kb_str_bool, kb_str_int, kb_str_str, kb_str_tuple, kb_str_list, kb_tuple_bool, kb_tuple_int, kb_tuple_str, kb_tuple_tuple, kb_tuple_list, kb_list_bool, kb_list_int, kb_list_str, kb_list_tuple, kb_list_list, kb_NoneType_bool, kb_NoneType_int, kb_NoneType_str, kb_NoneType_tuple, kb_NoneType_list, Nat.zero_add, c02, lstAt_setE, Option.map_some, lstAt_set_ne, ne_eq, Nat.reduceEqDiff, Nat.one_ne_zero, Nat.zero_ne_one, ix_1_0, ix_2_0, ix_2_1, ix_3_0, ix_3_1, ix_3_2, ix_4_0, ix_4_1, ix_4_2, ix_4_3, ix_5_0, ix_5_1, ix_5_2, ix_5_3, ix_5_4, ix_6_0, ix_6_1, ix_6_2, ix_6_3, ix_6_4, ix_6_5, Nat.reduceLeDiff, Int.reduceAdd, Int.reduceSub, Int.reduceMul, Int.reduceNeg, Int.reducePow, Int.reduceLT, Int.reduceLE, Int.reduceEq, Int.reduceToNat, Bool.and_true, Bool.true_and, Bool.and_self, Bool.and_false, Bool.false_and, Bool.and_eq_true, Bool.and_eq_false_imp, and_self, WS_qdn, WS_qdr, WS_qde, WS_qdb, WS_qdc, qn1, qn2, qn3, qn4, qn5, qk1, qk5, lq1, lq2, lq3, lq4, lq5, intD_int, items_tup, items_rol, items_loc, listOf_loc, listOf_rol, isL_loc, at0, at1, at2, at3, at4, at5, atl1, atl2, atl3, atl4, lstAt_new, it_tup, it_rol, kTup_eq, kLen_eq, wipe0, wipe1, b_nm, List.set_cons_zero, List.set_cons_succ, List.length_cons, List.length_nil, List.nil_append, List.cons_append, List.append_nil, List.isEmpty_cons, List.isEmpty_nil, true_and, and_true, false_and, and_false, true_implies, forall_const, not_true_eq_false, not_false_eq_true, implies_true, decide_eq_true_eq, decide_eq_false_iff_not, Bool.not_eq_true', Bool.not_eq_false', Bool.not_true, Bool.not_false, if_true, if_false, Bool.false_eq_true, Bool.true_eq_false, reduceCtorEq, false_implies, eq_self, h0]
      refine ⟨mul2 (by omega), fun hsm => ⟨mul2 (by omega), by rw [sizeLine_eq]; omega, post, _, _, _, _, _, rfl, rfl, rfl, ints_app hz, by simp; omega⟩, fun hbig => ⟨by decide, ?_⟩⟩
      refine WS_rloop (fun i σ S => ∃ (nums : List D) (w : Int) (p : Option D), σ = [some (.rol (ns.map D.int)), some (.loc 0), some (.int ((mixed * 5519 + (if n < 0 then -n else n) % 700027 + 23) % 700027)), some (.int n), some (.int w), p] ∧ S = [.lst nums] ∧ (∀ z ∈ nums, ∃ i, z = D.int i) ∧ (nums.length : Int) + (60 - i) + 60 * post.length ≤ 3780) ⟨nums, _, _, rfl, rfl, hz, by omega⟩ ?_ ?_
      · rintro i σ S i0 i1 ⟨nums, w, p, rfl, rfl, hz, hn⟩
        have h0 : lstAt [.lst nums] 0 = some nums := rfl
        simp only [↓reduceIte, ↓W_ok, ↓W_exn, ↓W_var0, ↓W_varS, ↓W_K, ↓W_bin, ↓W_un, ↓W_aNil, ↓W_aCons, ↓W_arg, ↓W_call, ↓W_of, ↓WB_test, ↓tc_bl, ↓WB_tru, ↓trc, ↓WB_and, ↓WB_or, ↓WB_not, ↓W_if, ↓W_andV, ↓W_orV, ↓W_notV, ↓WM_some, ↓WM_none, ↓WO_some, ↓tr_bl, ↓tr_non, ↓tr_int, ↓tr_tup, ↓tr_rol, ↓WS_nx, ↓WS_rt, ↓WS_ct, ↓WS_bk, ↓WS_exn, ↓WS_seq, ↓WS_nil, ↓WS_retN, ↓WS_break, ↓WS_cont, ↓WS_expr, ↓WS_ret, ↓WS_if, ↓WS_set, ↓WS_par, ↓WS_asg, ↓WS_gSet, ↓WS_gN, ↓WS_gC, ↓WS_gUn, ↓WS_gSub, ↓WS_aug, ↓o_add, ↓o_iadd, ↓o_sub, ↓o_neg, ↓o_mul, ↓o_mod, ↓o_div, ↓o_pow, ↓o_addT, ↓o_addS, ↓o_addL, ↓o_lt, ↓o_le, ↓o_gt, ↓o_ge, ↓o_eq, ↓o_ne, ↓o_eqS, ↓o_neS, ↓o_eqB, ↓o_neB, ↓o_eqT, ↓o_neT, ↓o_eqN, ↓o_neN, ↓o_ltT, ↓o_leT, ↓o_is, ↓o_isnot, ↓o_isB, ↓o_isnotB, ↓o_inT, ↓o_ninT, ↓o_inL, ↓o_ninL, ↓o_ixT, ↓o_ixR, ↓o_ixL, ↓o_ixS, ↓o_str, ↓o_strS, ↓o_set, ↓o_lenT, ↓o_lenR, ↓o_lenL, ↓o_lenS, ↓o_int, ↓o_intT, ↓o_intF, ↓o_abs, ↓o_max, ↓o_min, ↓o_tuple, ↓o_list, ↓o_tup0, ↓o_tup1, ↓o_tup2, ↓o_tup3, ↓o_tup4, ↓o_tup5, ↓o_tup6, ↓o_lst0, ↓o_lst1, ↓o_lst2, ↓o_lst3, ↓o_lst4, ↓o_lst5, ↓o_lst6, ↓o_sum, ↓W_meth, ↓o_append, ↓o_extend, ↓o_popAt, ↓W_cut, ↓W_noPart, ↓W_part, ↓o_cutT, ↓o_cutR, ↓o_cutL, ↓W_isi, ↓W_ch, ↓WS_for, ↓WI_iter, ↓WI_range1, ↓WI_range2, ↓WI_range3, ↓WI_enum, ↓WS_f0, ↓WS_f1, ↓W_alloc, ↓W_ofL, ↓W_comp, ↓WB_yes, ↓W_c0, ↓W_c1, ↓W_listRg, ↓W_tupRg, ↓W_rRange1, ↓W_rRange2, o_intT, o_intF, o_intB, o_ixL, o_ixT, beq_self_eq_true, decide_true, decide_false, okEq, okCmp, okIn, D.fits, D.fitsL, D.dep, D.depL, D.eqv, D.eqvL, D.alike, D.alikeL, isBl_bl, isN_non, isN_bl, isN_int, isN_str, isN_tup, isN_rol, isN_loc, Nat.reduceAdd, Nat.reduceSub, Nat.max_self, Nat.min_self, Nat.max_zero, Nat.zero_max, Nat.min_zero, Nat.zero_min, ty_non, ty_bl, ty_int, ty_str, ty_tup, ty_rol, ty_loc, kb_bool_bool, kb_bool_int, kb_bool_str, kb_bool_tuple, kb_bool_list, kb_int_bool, kb_int_int, kb_int_str, kb_int_tuple, kb_int_list, kb_str_bool, kb_str_int, kb_str_str, kb_str_tuple, kb_str_list, kb_tuple_bool, kb_tuple_int, kb_tuple_str, kb_tuple_tuple, kb_tuple_list, kb_list_bool, kb_list_int, kb_list_str, kb_list_tuple, kb_list_list, kb_NoneType_bool, kb_NoneType_int, kb_NoneType_str, kb_NoneType_tuple, kb_NoneType_list, Nat.zero_add, c02, lstAt_setE, Option.map_some, lstAt_set_ne, ne_eq, Nat.reduceEqDiff, Nat.one_ne_zero, Nat.zero_ne_one, ix_1_0, ix_2_0, ix_2_1, ix_3_0, ix_3_1, ix_3_2, ix_4_0, ix_4_1, ix_4_2, ix_4_3, ix_5_0, ix_5_1, ix_5_2, ix_5_3, ix_5_4, ix_6_0, ix_6_1, ix_6_2, ix_6_3, ix_6_4, ix_6_5, Nat.reduceLeDiff, Int.reduceAdd, Int.reduceSub, Int.reduceMul, Int.reduceNeg, Int.reducePow, Int.reduceLT, Int.reduceLE, Int.reduceEq, Int.reduceToNat, Bool.and_true, Bool.true_and, Bool.and_self, Bool.and_false, Bool.false_and, Bool.and_eq_true, Bool.and_eq_false_imp, and_self, WS_qdn, WS_qdr, WS_qde, WS_qdb, WS_qdc, qn1, qn2, qn3, qn4, qn5, qk1, qk5, lq1, lq2, lq3, lq4, lq5, intD_int, items_tup, items_rol, items_loc, listOf_loc, listOf_rol, isL_loc, at0, at1, at2, at3, at4, at5, atl1, atl2, atl3, atl4, lstAt_new, it_tup, it_rol, kTup_eq, kLen_eq, wipe0, wipe1, b_nm, List.set_cons_zero, List.set_cons_succ, List.length_cons, List.length_nil, List.nil_append, List.cons_append, List.append_nil, List.isEmpty_cons, List.isEmpty_nil, true_and, and_true, false_and, and_false, true_implies, forall_const, not_true_eq_false, not_false_eq_true, implies_true, decide_eq_true_eq, decide_eq_false_iff_not, Bool.not_eq_true', Bool.not_eq_false', Bool.not_true, Bool.not_false, if_true, if_false, Bool.false_eq_true, Bool.true_eq_false, reduceCtorEq, false_implies, eq_self, h0]
        exact ⟨fun _ => ⟨by rw [sizeLine_eq]; omega, divS (by omega) (by omega), _, _, _, rfl, rfl, ints_app hz, by simp; omega⟩, fun _ => ⟨_, _, _, rfl, rfl, hz, by omega⟩⟩
      · rintro σ S ⟨nums, w, p, rfl, rfl, hz, hn⟩
        simp only [↓reduceIte, ↓W_ok, ↓W_exn, ↓W_var0, ↓W_varS, ↓W_K, ↓W_bin, ↓W_un, ↓W_aNil, ↓W_aCons, ↓W_arg, ↓W_call, ↓W_of, ↓WB_test, ↓tc_bl, ↓WB_tru, ↓trc, ↓WB_and, ↓WB_or, ↓WB_not, ↓W_if, ↓W_andV, ↓W_orV, ↓W_notV, ↓WM_some, ↓WM_none, ↓WO_some, ↓tr_bl, ↓tr_non, ↓tr_int, ↓tr_tup, ↓tr_rol, ↓WS_nx, ↓WS_rt, ↓WS_ct, ↓WS_bk, ↓WS_exn, ↓WS_seq, ↓WS_nil, ↓WS_retN, ↓WS_break, ↓WS_cont, ↓WS_expr, ↓WS_ret, ↓WS_if, ↓WS_set, ↓WS_par, ↓WS_asg, ↓WS_gSet, ↓WS_gN, ↓WS_gC, ↓WS_gUn, ↓WS_gSub, ↓WS_aug, ↓o_add, ↓o_iadd, ↓o_sub, ↓o_neg, ↓o_mul, ↓o_mod, ↓o_div, ↓o_pow, ↓o_addT, ↓o_addS, ↓o_addL, ↓o_lt, ↓o_le, ↓o_gt, ↓o_ge, ↓o_eq, ↓o_ne, ↓o_eqS, ↓o_neS, ↓o_eqB, ↓o_neB, ↓o_eqT, ↓o_neT, ↓o_eqN, ↓o_neN, ↓o_ltT, ↓o_leT, ↓o_is, ↓o_isnot, ↓o_isB, ↓o_isnotB, ↓o_inT, ↓o_ninT, ↓o_inL, ↓o_ninL, ↓o_ixT, ↓o_ixR, ↓o_ixL, ↓o_ixS, ↓o_str, ↓o_strS, ↓o_set, ↓o_lenT, ↓o_lenR, ↓o_lenL, ↓o_lenS, ↓o_int, ↓o_intT, ↓o_intF, ↓o_abs, ↓o_max, ↓o_min, ↓o_tuple, ↓o_list, ↓o_tup0, ↓o_tup1, ↓o_tup2, ↓o_tup3, ↓o_tup4, ↓o_tup5, ↓o_tup6, ↓o_lst0, ↓o_lst1, ↓o_lst2, ↓o_lst3, ↓o_lst4, ↓o_lst5, ↓o_lst6, ↓o_sum, ↓W_meth, ↓o_append, ↓o_extend, ↓o_popAt, ↓W_cut, ↓W_noPart, ↓W_part, ↓o_cutT, ↓o_cutR, ↓o_cutL, ↓W_isi, ↓W_ch, ↓WS_for, ↓WI_iter, ↓WI_range1, ↓WI_range2, ↓WI_range3, ↓WI_enum, ↓WS_f0, ↓WS_f1, ↓W_alloc, ↓W_ofL, ↓W_comp, ↓WB_yes, ↓W_c0, ↓W_c1, ↓W_listRg, ↓W_tupRg, ↓W_rRange1, ↓W_rRange2, o_intT, o_intF, o_intB, o_ixL, o_ixT, beq_self_eq_true, decide_true, decide_false, okEq, okCmp, okIn, D.fits, D.fitsL, D.dep, D.depL, D.eqv, D.eqvL, D.alike, D.alikeL, isBl_bl, isN_non, isN_bl, isN_int, isN_str, isN_tup, isN_rol, isN_loc, Nat.reduceAdd, Nat.reduceSub, Nat.max_self, Nat.min_self, Nat.max_zero, Nat.zero_max, Nat.min_zero, Nat.zero_min, ty_non, ty_bl, ty_int, ty_str, ty_tup, ty_rol, ty_loc, kb_bool_bool, kb_bool_int, kb_bool_str, kb_bool_tuple, kb_bool_list, kb_int_bool, kb_int_int, kb_int_str, kb_int_tuple, kb_int_list, kb_str_bool, kb_str_int, kb_str_str, kb_str_tuple, kb_str_list, kb_tuple_bool, kb_tuple_int, kb_tuple_str, kb_tuple_tuple, kb_tuple_list, kb_list_bool, kb_list_int, kb_list_str, kb_list_tuple, kb_list_list, kb_NoneType_bool, kb_NoneType_int, kb_NoneType_str, kb_NoneType_tuple, kb_NoneType_list, Nat.zero_add, c02, lstAt_setE, Option.map_some, lstAt_set_ne, ne_eq, Nat.reduceEqDiff, Nat.one_ne_zero, Nat.zero_ne_one, ix_1_0, ix_2_0, ix_2_1, ix_3_0, ix_3_1, ix_3_2, ix_4_0, ix_4_1, ix_4_2, ix_4_3, ix_5_0, ix_5_1, ix_5_2, ix_5_3, ix_5_4, ix_6_0, ix_6_1, ix_6_2, ix_6_3, ix_6_4, ix_6_5, Nat.reduceLeDiff, Int.reduceAdd, Int.reduceSub, Int.reduceMul, Int.reduceNeg, Int.reducePow, Int.reduceLT, Int.reduceLE, Int.reduceEq, Int.reduceToNat, Bool.and_true, Bool.true_and, Bool.and_self, Bool.and_false, Bool.false_and, Bool.and_eq_true, Bool.and_eq_false_imp, and_self, WS_qdn, WS_qdr, WS_qde, WS_qdb, WS_qdc, qn1, qn2, qn3, qn4, qn5, qk1, qk5, lq1, lq2, lq3, lq4, lq5, intD_int, items_tup, items_rol, items_loc, listOf_loc, listOf_rol, isL_loc, at0, at1, at2, at3, at4, at5, atl1, atl2, atl3, atl4, lstAt_new, it_tup, it_rol, kTup_eq, kLen_eq, wipe0, wipe1, b_nm, List.set_cons_zero, List.set_cons_succ, List.length_cons, List.length_nil, List.nil_append, List.cons_append, List.append_nil, List.isEmpty_cons, List.isEmpty_nil, true_and, and_true, false_and, and_false, true_implies, forall_const, not_true_eq_false, not_false_eq_true, implies_true, decide_eq_true_eq, decide_eq_false_iff_not, Bool.not_eq_true', Bool.not_eq_false', Bool.not_true, Bool.not_false, if_true, if_false, Bool.false_eq_true, Bool.true_eq_false, reduceCtorEq, false_implies, eq_self]
        exact ⟨post, _, _, _, _, _, rfl, rfl, rfl, hz, by omega⟩
  · rintro σ S ⟨post, nums, mixed, p, q, t, hds, rfl, rfl, hz, hn⟩
    refine ⟨trivial, ?_⟩
    simp only [↓reduceIte, ↓W_ok, ↓W_exn, ↓W_var0, ↓W_varS, ↓W_K, ↓W_bin, ↓W_un, ↓W_aNil, ↓W_aCons, ↓W_arg, ↓W_call, ↓W_of, ↓WB_test, ↓tc_bl, ↓WB_tru, ↓trc, ↓WB_and, ↓WB_or, ↓WB_not, ↓W_if, ↓W_andV, ↓W_orV, ↓W_notV, ↓WM_some, ↓WM_none, ↓WO_some, ↓tr_bl, ↓tr_non, ↓tr_int, ↓tr_tup, ↓tr_rol, ↓WS_nx, ↓WS_rt, ↓WS_ct, ↓WS_bk, ↓WS_exn, ↓WS_seq, ↓WS_nil, ↓WS_retN, ↓WS_break, ↓WS_cont, ↓WS_expr, ↓WS_ret, ↓WS_if, ↓WS_set, ↓WS_par, ↓WS_asg, ↓WS_gSet, ↓WS_gN, ↓WS_gC, ↓WS_gUn, ↓WS_gSub, ↓WS_aug, ↓o_add, ↓o_iadd, ↓o_sub, ↓o_neg, ↓o_mul, ↓o_mod, ↓o_div, ↓o_pow, ↓o_addT, ↓o_addS, ↓o_addL, ↓o_lt, ↓o_le, ↓o_gt, ↓o_ge, ↓o_eq, ↓o_ne, ↓o_eqS, ↓o_neS, ↓o_eqB, ↓o_neB, ↓o_eqT, ↓o_neT, ↓o_eqN, ↓o_neN, ↓o_ltT, ↓o_leT, ↓o_is, ↓o_isnot, ↓o_isB, ↓o_isnotB, ↓o_inT, ↓o_ninT, ↓o_inL, ↓o_ninL, ↓o_ixT, ↓o_ixR, ↓o_ixL, ↓o_ixS, ↓o_str, ↓o_strS, ↓o_set, ↓o_lenT, ↓o_lenR, ↓o_lenL, ↓o_lenS, ↓o_int, ↓o_intT, ↓o_intF, ↓o_abs, ↓o_max, ↓o_min, ↓o_tuple, ↓o_list, ↓o_tup0, ↓o_tup1, ↓o_tup2, ↓o_tup3, ↓o_tup4, ↓o_tup5, ↓o_tup6, ↓o_lst0, ↓o_lst1, ↓o_lst2, ↓o_lst3, ↓o_lst4, ↓o_lst5, ↓o_lst6, ↓o_sum, ↓W_meth, ↓o_append, ↓o_extend, ↓o_popAt, ↓W_cut, ↓W_noPart, ↓W_part, ↓o_cutT, ↓o_cutR, ↓o_cutL, ↓W_isi, ↓W_ch, ↓WS_for, ↓WI_iter, ↓WI_range1, ↓WI_range2, ↓WI_range3, ↓WI_enum, ↓WS_f0, ↓WS_f1, ↓W_alloc, ↓W_ofL, ↓W_comp, ↓WB_yes, ↓W_c0, ↓W_c1, ↓W_listRg, ↓W_tupRg, ↓W_rRange1, ↓W_rRange2, o_intT, o_intF, o_intB, o_ixL, o_ixT, beq_self_eq_true, decide_true, decide_false, okEq, okCmp, okIn, D.fits, D.fitsL, D.dep, D.depL, D.eqv, D.eqvL, D.alike, D.alikeL, isBl_bl, isN_non, isN_bl, isN_int, isN_str, isN_tup, isN_rol, isN_loc, Nat.reduceAdd, Nat.reduceSub, Nat.max_self, Nat.min_self, Nat.max_zero, Nat.zero_max, Nat.min_zero, Nat.zero_min, ty_non, ty_bl, ty_int, ty_str, ty_tup, ty_rol, ty_loc, kb_bool_bool, kb_bool_int, kb_bool_str, kb_bool_tuple, kb_bool_list, kb_int_bool, kb_int_int, kb_int_str, kb_int_tuple, kb_int_list, kb_str_bool, kb_str_int, kb_str_str, kb_str_tuple, kb_str_list, kb_tuple_bool, kb_tuple_int, kb_tuple_str, kb_tuple_tuple, kb_tuple_list, kb_list_bool, kb_list_int, kb_list_str, kb_list_tuple, kb_list_list, kb_NoneType_bool, kb_NoneType_int, kb_NoneType_str, kb_NoneType_tuple, kb_NoneType_list, Nat.zero_add, c02, lstAt_setE, Option.map_some, lstAt_set_ne, ne_eq, Nat.reduceEqDiff, Nat.one_ne_zero, Nat.zero_ne_one, ix_1_0, ix_2_0, ix_2_1, ix_3_0, ix_3_1, ix_3_2, ix_4_0, ix_4_1, ix_4_2, ix_4_3, ix_5_0, ix_5_1, ix_5_2, ix_5_3, ix_5_4, ix_6_0, ix_6_1, ix_6_2, ix_6_3, ix_6_4, ix_6_5, Nat.reduceLeDiff, Int.reduceAdd, Int.reduceSub, Int.reduceMul, Int.reduceNeg, Int.reducePow, Int.reduceLT, Int.reduceLE, Int.reduceEq, Int.reduceToNat, Bool.and_true, Bool.true_and, Bool.and_self, Bool.and_false, Bool.false_and, Bool.and_eq_true, Bool.and_eq_false_imp, and_self, WS_qdn, WS_qdr, WS_qde, WS_qdb, WS_qdc, qn1, qn2, qn3, qn4, qn5, qk1, qk5, lq1, lq2, lq3, lq4, lq5, intD_int, items_tup, items_rol, items_loc, listOf_loc, listOf_rol, isL_loc, at0, at1, at2, at3, at4, at5, atl1, atl2, atl3, atl4, lstAt_new, it_tup, it_rol, kTup_eq, kLen_eq, wipe0, wipe1, b_nm, List.set_cons_zero, List.set_cons_succ, List.length_cons, List.length_nil, List.nil_append, List.cons_append, List.append_nil, List.isEmpty_cons, List.isEmpty_nil, true_and, and_true, false_and, and_false, true_implies, forall_const, not_true_eq_false, not_false_eq_true, implies_true, decide_eq_true_eq, decide_eq_false_iff_not, Bool.not_eq_true', Bool.not_eq_false', Bool.not_true, Bool.not_false, if_true, if_false, Bool.false_eq_true, Bool.true_eq_false, reduceCtorEq, false_implies, eq_self]
    exact h _ ⟨_, _, _, rfl, rfl, by omega, hz⟩ rfl
end
end LW

namespace LW
open PySem PySem.Spec PyProof.Rows L2 DL
section
variable {x : XQ} {Q : D → Store → Prop} {tt : Tg (x, Q)} {S : Store}
def prD (d : D) : D := .tup [d, d]
/-- a thing is the same as itself -/
theorem same_t {d : D} (hF : FeedOk S) (hs : d.sz < 1000000) (hp : d.pl) (h : ∀ S', FeedOk S' → Fr S S' → Q (.bl true) S') : W (x, Q) tt (m__law_same [d, d] S) := by
  have h2 := hF.len
  simp only [↓reduceIte, ↓W_ok, ↓W_exn, ↓W_var0, ↓W_varS, ↓W_K, ↓W_bin, ↓W_un, ↓W_aNil, ↓W_aCons, ↓W_arg, ↓W_call, ↓W_of, ↓WB_test, ↓tc_bl, ↓WB_tru, ↓trc, ↓WB_and, ↓WB_or, ↓WB_not, ↓W_if, ↓W_andV, ↓W_orV, ↓W_notV, ↓WM_some, ↓WM_none, ↓WO_some, ↓tr_bl, ↓tr_non, ↓tr_int, ↓tr_tup, ↓tr_rol, ↓WS_nx, ↓WS_rt, ↓WS_ct, ↓WS_bk, ↓WS_exn, ↓WS_seq, ↓WS_nil, ↓WS_retN, ↓WS_break, ↓WS_cont, ↓WS_expr, ↓WS_ret, ↓WS_if, ↓WS_set, ↓WS_par, ↓WS_asg, ↓WS_gSet, ↓WS_gN, ↓WS_gC, ↓WS_gUn, ↓WS_gSub, ↓WS_aug, ↓o_add, ↓o_iadd, ↓o_sub, ↓o_neg, ↓o_mul, ↓o_mod, ↓o_div, ↓o_pow, ↓o_addT, ↓o_addS, ↓o_addL, ↓o_lt, ↓o_le, ↓o_gt, ↓o_ge, ↓o_eq, ↓o_ne, ↓o_eqS, ↓o_neS, ↓o_eqB, ↓o_neB, ↓o_eqT, ↓o_neT, ↓o_eqN, ↓o_neN, ↓o_ltT, ↓o_leT, ↓o_is, ↓o_isnot, ↓o_isB, ↓o_isnotB, ↓o_inT, ↓o_ninT, ↓o_inL, ↓o_ninL, ↓o_ixT, ↓o_ixR, ↓o_ixL, ↓o_ixS, ↓o_str, ↓o_strS, ↓o_set, ↓o_lenT, ↓o_lenR, ↓o_lenL, ↓o_lenS, ↓o_int, ↓o_intT, ↓o_intF, ↓o_abs, ↓o_max, ↓o_min, ↓o_tuple, ↓o_list, ↓o_tup0, ↓o_tup1, ↓o_tup2, ↓o_tup3, ↓o_tup4, ↓o_tup5, ↓o_tup6, ↓o_lst0, ↓o_lst1, ↓o_lst2, ↓o_lst3, ↓o_lst4, ↓o_lst5, ↓o_lst6, ↓o_sum, ↓W_meth, ↓o_append, ↓o_extend, ↓o_popAt, ↓W_cut, ↓W_noPart, ↓W_part, ↓o_cutT, ↓o_cutR, ↓o_cutL, ↓W_isi, ↓W_ch, ↓WS_for, ↓WI_iter, ↓WI_range1, ↓WI_range2, ↓WI_range3, ↓WI_enum, ↓WS_f0, ↓WS_f1, ↓W_alloc, ↓W_ofL, ↓W_comp, ↓WB_yes, ↓W_c0, ↓W_c1, ↓W_listRg, ↓W_tupRg, ↓W_rRange1, ↓W_rRange2, o_intT, o_intF, o_intB, o_ixL, o_ixT, beq_self_eq_true, decide_true, decide_false, okEq, okCmp, okIn, D.fits, D.fitsL, D.dep, D.depL, D.eqv, D.eqvL, D.alike, D.alikeL, isBl_bl, isN_non, isN_bl, isN_int, isN_str, isN_tup, isN_rol, isN_loc, Nat.reduceAdd, Nat.reduceSub, Nat.max_self, Nat.min_self, Nat.max_zero, Nat.zero_max, Nat.min_zero, Nat.zero_min, ty_non, ty_bl, ty_int, ty_str, ty_tup, ty_rol, ty_loc, kb_bool_bool, kb_bool_int, kb_bool_str, kb_bool_tuple, kb_bool_list, kb_int_bool, kb_int_int, kb_int_str, kb_int_tuple, kb_int_list, kb_str_bool, kb_str_int, kb_str_str, kb_str_tuple, kb_str_list, kb_tuple_bool, kb_tuple_int, kb_tuple_str, kb_tuple_tuple, kb_tuple_list, kb_list_bool, kb_list_int, kb_list_str, kb_list_tuple, kb_list_list, kb_NoneType_bool, kb_NoneType_int, kb_NoneType_str, kb_NoneType_tuple, kb_NoneType_list, Nat.zero_add, c02, lstAt_setE, Option.map_some, lstAt_set_ne, ne_eq, Nat.reduceEqDiff, Nat.one_ne_zero, Nat.zero_ne_one, ix_1_0, ix_2_0, ix_2_1, ix_3_0, ix_3_1, ix_3_2, ix_4_0, ix_4_1, ix_4_2, ix_4_3, ix_5_0, ix_5_1, ix_5_2, ix_5_3, ix_5_4, ix_6_0, ix_6_1, ix_6_2, ix_6_3, ix_6_4, ix_6_5, Nat.reduceLeDiff, Int.reduceAdd, Int.reduceSub, Int.reduceMul, Int.reduceNeg, Int.reducePow, Int.reduceLT, Int.reduceLE, Int.reduceEq, Int.reduceToNat, Bool.and_true, Bool.true_and, Bool.and_self, Bool.and_false, Bool.false_and, Bool.and_eq_true, Bool.and_eq_false_imp, and_self, WS_qdn, WS_qdr, WS_qde, WS_qdb, WS_qdc, qn1, qn2, qn3, qn4, qn5, qk1, qk5, lq1, lq2, lq3, lq4, lq5, intD_int, items_tup, items_rol, items_loc, listOf_loc, listOf_rol, isL_loc, at0, at1, at2, at3, at4, at5, atl1, atl2, atl3, atl4, lstAt_new, it_tup, it_rol, kTup_eq, kLen_eq, wipe0, wipe1, b_nm, List.set_cons_zero, List.set_cons_succ, List.length_cons, List.length_nil, List.nil_append, List.cons_append, List.append_nil, List.isEmpty_cons, List.isEmpty_nil, true_and, and_true, false_and, and_false, true_implies, forall_const, not_true_eq_false, not_false_eq_true, implies_true, decide_eq_true_eq, decide_eq_false_iff_not, Bool.not_eq_true', Bool.not_eq_false', Bool.not_true, Bool.not_false, if_true, if_false, Bool.false_eq_true, Bool.true_eq_false, reduceCtorEq, false_implies, eq_self, wm__law_same, b__law_same]
  refine WS_while (fun n σ S' => FeedOk S' ∧ Fr S S' ∧ ∃ (ds : List D) (p q r : Option D), σ = [some d, some d, some (.loc S.length), p, q, r] ∧ lstAt S' S.length = some (ds.map prD) ∧ D.szL ds = n ∧ n < 1000000 ∧ ∀ y ∈ ds, y.pl) d.sz (Nat.lt_trans hs (by unfold WF; decide)) ⟨hF.app _, (Fr.refl _).app _, [d], none, none, none, rfl, lstAt_new, by simp [D.szL], hs, by simpa using hp⟩ ?_
  rintro n σ S1 ⟨hF1, F1, ds, p, q, r, rfl, hL, hn, hn2, hpl⟩
  rcases List.eq_nil_or_concat ds with rfl | ⟨ds, e, rfl⟩
  · simp only [↓reduceIte, ↓W_ok, ↓W_exn, ↓W_var0, ↓W_varS, ↓W_K, ↓W_bin, ↓W_un, ↓W_aNil, ↓W_aCons, ↓W_arg, ↓W_call, ↓W_of, ↓WB_test, ↓tc_bl, ↓WB_tru, ↓trc, ↓WB_and, ↓WB_or, ↓WB_not, ↓W_if, ↓W_andV, ↓W_orV, ↓W_notV, ↓WM_some, ↓WM_none, ↓WO_some, ↓tr_bl, ↓tr_non, ↓tr_int, ↓tr_tup, ↓tr_rol, ↓WS_nx, ↓WS_rt, ↓WS_ct, ↓WS_bk, ↓WS_exn, ↓WS_seq, ↓WS_nil, ↓WS_retN, ↓WS_break, ↓WS_cont, ↓WS_expr, ↓WS_ret, ↓WS_if, ↓WS_set, ↓WS_par, ↓WS_asg, ↓WS_gSet, ↓WS_gN, ↓WS_gC, ↓WS_gUn, ↓WS_gSub, ↓WS_aug, ↓o_add, ↓o_iadd, ↓o_sub, ↓o_neg, ↓o_mul, ↓o_mod, ↓o_div, ↓o_pow, ↓o_addT, ↓o_addS, ↓o_addL, ↓o_lt, ↓o_le, ↓o_gt, ↓o_ge, ↓o_eq, ↓o_ne, ↓o_eqS, ↓o_neS, ↓o_eqB, ↓o_neB, ↓o_eqT, ↓o_neT, ↓o_eqN, ↓o_neN, ↓o_ltT, ↓o_leT, ↓o_is, ↓o_isnot, ↓o_isB, ↓o_isnotB, ↓o_inT, ↓o_ninT, ↓o_inL, ↓o_ninL, ↓o_ixT, ↓o_ixR, ↓o_ixL, ↓o_ixS, ↓o_str, ↓o_strS, ↓o_set, ↓o_lenT, ↓o_lenR, ↓o_lenL, ↓o_lenS, ↓o_int, ↓o_intT, ↓o_intF, ↓o_abs, ↓o_max, ↓o_min, ↓o_tuple, ↓o_list, ↓o_tup0, ↓o_tup1, ↓o_tup2, ↓o_tup3, ↓o_tup4, ↓o_tup5, ↓o_tup6, ↓o_lst0, ↓o_lst1, ↓o_lst2, ↓o_lst3, ↓o_lst4, ↓o_lst5, ↓o_lst6, ↓o_sum, ↓W_meth, ↓o_append, ↓o_extend, ↓o_popAt, ↓W_cut, ↓W_noPart, ↓W_part, ↓o_cutT, ↓o_cutR, ↓o_cutL, ↓W_isi, ↓W_ch, ↓WS_for, ↓WI_iter, ↓WI_range1, ↓WI_range2, ↓WI_range3, ↓WI_enum, ↓WS_f0, ↓WS_f1, ↓W_alloc, ↓W_ofL, ↓W_comp, ↓WB_yes, ↓W_c0, ↓W_c1, ↓W_listRg, ↓W_tupRg, ↓W_rRange1, ↓W_rRange2, o_intT, o_intF, o_intB, o_ixL, o_ixT, beq_self_eq_true, decide_true, decide_false, okEq, okCmp, okIn, D.fits, D.fitsL, D.dep, D.depL, D.eqv, D.eqvL, D.alike, D.alikeL, isBl_bl, isN_non, isN_bl, isN_int, isN_str, isN_tup, isN_rol, isN_loc, Nat.reduceAdd, Nat.reduceSub, Nat.max_self, Nat.min_self, Nat.max_zero, Nat.zero_max, Nat.min_zero, Nat.zero_min, ty_non, ty_bl, ty_int, ty_str, ty_tup, ty_rol, ty_loc, kb_bool_bool, kb_bool_int, kb_bool_str, kb_bool_tuple, kb_bool_list, kb_int_bool, kb_int_int, kb_int_str, kb_int_tuple, kb_int_list, kb_str_bool, kb_str_int, kb_str_str, kb_str_tuple, kb_str_list, kb_tuple_bool, kb_tuple_int, kb_tuple_str, kb_tuple_tuple, kb_tuple_list, kb_list_bool, kb_list_int, kb_list_str, kb_list_tuple, kb_list_list, kb_NoneType_bool, kb_NoneType_int, kb_NoneType_str, kb_NoneType_tuple, kb_NoneType_list, Nat.zero_add, c02, lstAt_setE, Option.map_some, lstAt_set_ne, ne_eq, Nat.reduceEqDiff, Nat.one_ne_zero, Nat.zero_ne_one, ix_1_0, ix_2_0, ix_2_1, ix_3_0, ix_3_1, ix_3_2, ix_4_0, ix_4_1, ix_4_2, ix_4_3, ix_5_0, ix_5_1, ix_5_2, ix_5_3, ix_5_4, ix_6_0, ix_6_1, ix_6_2, ix_6_3, ix_6_4, ix_6_5, Nat.reduceLeDiff, Int.reduceAdd, Int.reduceSub, Int.reduceMul, Int.reduceNeg, Int.reducePow, Int.reduceLT, Int.reduceLE, Int.reduceEq, Int.reduceToNat, Bool.and_true, Bool.true_and, Bool.and_self, Bool.and_false, Bool.false_and, Bool.and_eq_true, Bool.and_eq_false_imp, and_self, WS_qdn, WS_qdr, WS_qde, WS_qdb, WS_qdc, qn1, qn2, qn3, qn4, qn5, qk1, qk5, lq1, lq2, lq3, lq4, lq5, intD_int, items_tup, items_rol, items_loc, listOf_loc, listOf_rol, isL_loc, at0, at1, at2, at3, at4, at5, atl1, atl2, atl3, atl4, lstAt_new, it_tup, it_rol, kTup_eq, kLen_eq, wipe0, wipe1, b_nm, List.set_cons_zero, List.set_cons_succ, List.length_cons, List.length_nil, List.nil_append, List.cons_append, List.append_nil, List.isEmpty_cons, List.isEmpty_nil, true_and, and_true, false_and, and_false, true_implies, forall_const, not_true_eq_false, not_false_eq_true, implies_true, decide_eq_true_eq, decide_eq_false_iff_not, Bool.not_eq_true', Bool.not_eq_false', Bool.not_true, Bool.not_false, if_true, if_false, Bool.false_eq_true, Bool.true_eq_false, reduceCtorEq, false_implies, eq_self, hL, List.map_nil]
    exact ⟨fun z => absurd z (by decide), fun _ => h _ hF1 F1⟩
  · rw [List.concat_eq_append] at hn hL hpl
    rw [szL_app] at hn
    rw [List.map_append] at hL
    have hpe := hpl e (by simp)
    have hpr : ∀ y ∈ ds, y.pl := fun y hy => hpl y (by simp [hy])
    have hgt : (0 : Int) < ((ds.map prD ++ [e].map prD).length : Int) := by simp
    simp only [↓reduceIte, ↓W_ok, ↓W_exn, ↓W_var0, ↓W_varS, ↓W_K, ↓W_bin, ↓W_un, ↓W_aNil, ↓W_aCons, ↓W_arg, ↓W_call, ↓W_of, ↓WB_test, ↓tc_bl, ↓WB_tru, ↓trc, ↓WB_and, ↓WB_or, ↓WB_not, ↓W_if, ↓W_andV, ↓W_orV, ↓W_notV, ↓WM_some, ↓WM_none, ↓WO_some, ↓tr_bl, ↓tr_non, ↓tr_int, ↓tr_tup, ↓tr_rol, ↓WS_nx, ↓WS_rt, ↓WS_ct, ↓WS_bk, ↓WS_exn, ↓WS_seq, ↓WS_nil, ↓WS_retN, ↓WS_break, ↓WS_cont, ↓WS_expr, ↓WS_ret, ↓WS_if, ↓WS_set, ↓WS_par, ↓WS_asg, ↓WS_gSet, ↓WS_gN, ↓WS_gC, ↓WS_gUn, ↓WS_gSub, ↓WS_aug, ↓o_add, ↓o_iadd, ↓o_sub, ↓o_neg, ↓o_mul, ↓o_mod, ↓o_div, ↓o_pow, ↓o_addT, ↓o_addS, ↓o_addL, ↓o_lt, ↓o_le, ↓o_gt, ↓o_ge, ↓o_eq, ↓o_ne, ↓o_eqS, ↓o_neS, ↓o_eqB, ↓o_neB, ↓o_eqT, ↓o_neT, ↓o_eqN, ↓o_neN, ↓o_ltT, ↓o_leT, ↓o_is, ↓o_isnot, ↓o_isB, ↓o_isnotB, ↓o_inT, ↓o_ninT, ↓o_inL, ↓o_ninL, ↓o_ixT, ↓o_ixR, ↓o_ixL, ↓o_ixS, ↓o_str, ↓o_strS, ↓o_set, ↓o_lenT, ↓o_lenR, ↓o_lenL, ↓o_lenS, ↓o_int, ↓o_intT, ↓o_intF, ↓o_abs, ↓o_max, ↓o_min, ↓o_tuple, ↓o_list, ↓o_tup0, ↓o_tup1, ↓o_tup2, ↓o_tup3, ↓o_tup4, ↓o_tup5, ↓o_tup6, ↓o_lst0, ↓o_lst1, ↓o_lst2, ↓o_lst3, ↓o_lst4, ↓o_lst5, ↓o_lst6, ↓o_sum, ↓W_meth, ↓o_append, ↓o_extend, ↓W_cut, ↓W_noPart, ↓W_part, ↓o_cutT, ↓o_cutR, ↓o_cutL, ↓W_isi, ↓W_ch, ↓WS_for, ↓WI_iter, ↓WI_range1, ↓WI_range2, ↓WI_range3, ↓WI_enum, ↓WS_f0, ↓WS_f1, ↓W_alloc, ↓W_ofL, ↓W_comp, ↓WB_yes, ↓W_c0, ↓W_c1, ↓W_listRg, ↓W_tupRg, ↓W_rRange1, ↓W_rRange2, o_intT, o_intF, o_intB, o_ixL, o_ixT, beq_self_eq_true, decide_true, decide_false, okEq, okCmp, okIn, D.fits, D.fitsL, D.dep, D.depL, D.eqv, D.eqvL, D.alike, D.alikeL, isBl_bl, isN_non, isN_bl, isN_int, isN_str, isN_tup, isN_rol, isN_loc, Nat.reduceAdd, Nat.reduceSub, Nat.max_self, Nat.min_self, Nat.max_zero, Nat.zero_max, Nat.min_zero, Nat.zero_min, ty_non, ty_bl, ty_int, ty_str, ty_tup, ty_rol, ty_loc, kb_bool_bool, kb_bool_int, kb_bool_str, kb_bool_tuple, kb_bool_list, kb_int_bool, kb_int_int, kb_int_str, kb_int_tuple, kb_int_list, kb_str_bool, kb_str_int, kb_str_str, kb_str_tuple, kb_str_list, kb_tuple_bool, kb_tuple_int, kb_tuple_str, kb_tuple_tuple, kb_tuple_list, kb_list_bool, kb_list_int, kb_list_str, kb_list_tuple, kb_list_list, kb_NoneType_bool, kb_NoneType_int, kb_NoneType_str, kb_NoneType_tuple, kb_NoneType_list, Nat.zero_add, c02, lstAt_setE, Option.map_some, lstAt_set_ne, ne_eq, Nat.reduceEqDiff, Nat.one_ne_zero, Nat.zero_ne_one, ix_1_0, ix_2_0, ix_2_1, ix_3_0, ix_3_1, ix_3_2, ix_4_0, ix_4_1, ix_4_2, ix_4_3, ix_5_0, ix_5_1, ix_5_2, ix_5_3, ix_5_4, ix_6_0, ix_6_1, ix_6_2, ix_6_3, ix_6_4, ix_6_5, Nat.reduceLeDiff, Int.reduceAdd, Int.reduceSub, Int.reduceMul, Int.reduceNeg, Int.reducePow, Int.reduceLT, Int.reduceLE, Int.reduceEq, Int.reduceToNat, Bool.and_true, Bool.true_and, Bool.and_self, Bool.and_false, Bool.false_and, Bool.and_eq_true, Bool.and_eq_false_imp, and_self, WS_qdn, WS_qdr, WS_qde, WS_qdb, WS_qdc, qn1, qn2, qn3, qn4, qn5, qk1, qk5, lq1, lq2, lq3, lq4, lq5, intD_int, items_tup, items_rol, items_loc, listOf_loc, listOf_rol, isL_loc, at0, at1, at2, at3, at4, at5, atl1, atl2, atl3, atl4, lstAt_new, it_tup, it_rol, kTup_eq, kLen_eq, wipe0, wipe1, b_nm, List.set_cons_zero, List.set_cons_succ, List.length_cons, List.length_nil, List.nil_append, List.cons_append, List.append_nil, List.isEmpty_cons, List.isEmpty_nil, true_and, and_true, false_and, and_false, true_implies, forall_const, not_true_eq_false, not_false_eq_true, implies_true, decide_eq_true_eq, decide_eq_false_iff_not, Bool.not_eq_true', Bool.not_eq_false', Bool.not_true, Bool.not_false, if_true, if_false, Bool.false_eq_true, Bool.true_eq_false, reduceCtorEq, false_implies, eq_self, hL, hgt]
    have ee : ∀ y : D, D.szL [y] = y.sz := fun y => by simp [D.szL]
    rw [ee] at hn
    cases e with
    | tup xs =>
      rw [D.pl] at hpe
      rw [D.sz] at hn
      refine ⟨n - 1, by omega, pop_w hL fun T hT lT => ?_⟩
      have hFT : FeedOk T := hT ▸ hF1.set h2
      have FT : Fr S T := hT ▸ F1.set (Nat.le_refl _)
      simp only [↓reduceIte, ↓W_ok, ↓W_exn, ↓W_var0, ↓W_varS, ↓W_K, ↓W_bin, ↓W_un, ↓W_aNil, ↓W_aCons, ↓W_arg, ↓W_call, ↓W_of, ↓WB_test, ↓tc_bl, ↓WB_tru, ↓trc, ↓WB_and, ↓WB_or, ↓WB_not, ↓W_if, ↓W_andV, ↓W_orV, ↓W_notV, ↓WM_some, ↓WM_none, ↓WO_some, ↓tr_bl, ↓tr_non, ↓tr_int, ↓tr_tup, ↓tr_rol, ↓WS_nx, ↓WS_rt, ↓WS_ct, ↓WS_bk, ↓WS_exn, ↓WS_seq, ↓WS_nil, ↓WS_retN, ↓WS_break, ↓WS_cont, ↓WS_expr, ↓WS_ret, ↓WS_if, ↓WS_set, ↓WS_par, ↓WS_asg, ↓WS_gSet, ↓WS_gN, ↓WS_gC, ↓WS_gUn, ↓WS_gSub, ↓WS_aug, ↓o_add, ↓o_iadd, ↓o_sub, ↓o_neg, ↓o_mul, ↓o_mod, ↓o_div, ↓o_pow, ↓o_addT, ↓o_addS, ↓o_addL, ↓o_lt, ↓o_le, ↓o_gt, ↓o_ge, ↓o_eq, ↓o_ne, ↓o_eqS, ↓o_neS, ↓o_eqB, ↓o_neB, ↓o_eqT, ↓o_neT, ↓o_eqN, ↓o_neN, ↓o_ltT, ↓o_leT, ↓o_is, ↓o_isnot, ↓o_isB, ↓o_isnotB, ↓o_inT, ↓o_ninT, ↓o_inL, ↓o_ninL, ↓o_ixT, ↓o_ixR, ↓o_ixL, ↓o_ixS, ↓o_str, ↓o_strS, ↓o_set, ↓o_lenT, ↓o_lenR, ↓o_lenL, ↓o_lenS, ↓o_int, ↓o_intT, ↓o_intF, ↓o_abs, ↓o_max, ↓o_min, ↓o_tuple, ↓o_list, ↓o_tup0, ↓o_tup1, ↓o_tup2, ↓o_tup3, ↓o_tup4, ↓o_tup5, ↓o_tup6, ↓o_lst0, ↓o_lst1, ↓o_lst2, ↓o_lst3, ↓o_lst4, ↓o_lst5, ↓o_lst6, ↓o_sum, ↓W_meth, ↓o_append, ↓o_popAt, ↓W_cut, ↓W_noPart, ↓W_part, ↓o_cutT, ↓o_cutR, ↓o_cutL, ↓W_isi, ↓W_ch, ↓WS_for, ↓WI_iter, ↓WI_range1, ↓WI_range2, ↓WI_range3, ↓WI_enum, ↓WS_f0, ↓WS_f1, ↓W_alloc, ↓W_ofL, ↓W_comp, ↓WB_yes, ↓W_c0, ↓W_c1, ↓W_listRg, ↓W_tupRg, ↓W_rRange1, ↓W_rRange2, o_intT, o_intF, o_intB, o_ixL, o_ixT, beq_self_eq_true, decide_true, decide_false, okEq, okCmp, okIn, D.fits, D.fitsL, D.dep, D.depL, D.eqv, D.eqvL, D.alike, D.alikeL, isBl_bl, isN_non, isN_bl, isN_int, isN_str, isN_tup, isN_rol, isN_loc, Nat.reduceAdd, Nat.reduceSub, Nat.max_self, Nat.min_self, Nat.max_zero, Nat.zero_max, Nat.min_zero, Nat.zero_min, ty_non, ty_bl, ty_int, ty_str, ty_tup, ty_rol, ty_loc, kb_bool_bool, kb_bool_int, kb_bool_str, kb_bool_tuple, kb_bool_list, kb_int_bool, kb_int_int, kb_int_str, kb_int_tuple, kb_int_list, kb_str_bool, kb_str_int, kb_str_str, kb_str_tuple, kb_str_list, kb_tuple_bool, kb_tuple_int, kb_tuple_str, kb_tuple_tuple, kb_tuple_list, kb_list_bool, kb_list_int, kb_list_str, kb_list_tuple, kb_list_list, kb_NoneType_bool, kb_NoneType_int, kb_NoneType_str, kb_NoneType_tuple, kb_NoneType_list, Nat.zero_add, c02, lstAt_setE, Option.map_some, lstAt_set_ne, ne_eq, Nat.reduceEqDiff, Nat.one_ne_zero, Nat.zero_ne_one, ix_1_0, ix_2_0, ix_2_1, ix_3_0, ix_3_1, ix_3_2, ix_4_0, ix_4_1, ix_4_2, ix_4_3, ix_5_0, ix_5_1, ix_5_2, ix_5_3, ix_5_4, ix_6_0, ix_6_1, ix_6_2, ix_6_3, ix_6_4, ix_6_5, Nat.reduceLeDiff, Int.reduceAdd, Int.reduceSub, Int.reduceMul, Int.reduceNeg, Int.reducePow, Int.reduceLT, Int.reduceLE, Int.reduceEq, Int.reduceToNat, Bool.and_true, Bool.true_and, Bool.and_self, Bool.and_false, Bool.false_and, Bool.and_eq_true, Bool.and_eq_false_imp, and_self, WS_qdn, WS_qdr, WS_qde, WS_qdb, WS_qdc, qn1, qn2, qn3, qn4, qn5, qk1, qk5, lq1, lq2, lq3, lq4, lq5, intD_int, items_tup, items_rol, items_loc, listOf_loc, listOf_rol, isL_loc, at0, at1, at2, at3, at4, at5, atl1, atl2, atl3, atl4, lstAt_new, it_tup, it_rol, kTup_eq, kLen_eq, wipe0, wipe1, b_nm, List.set_cons_zero, List.set_cons_succ, List.length_cons, List.length_nil, List.nil_append, List.cons_append, List.append_nil, List.isEmpty_cons, List.isEmpty_nil, true_and, and_true, false_and, and_false, true_implies, forall_const, not_true_eq_false, not_false_eq_true, implies_true, decide_eq_true_eq, decide_eq_false_iff_not, Bool.not_eq_true', Bool.not_eq_false', Bool.not_true, Bool.not_false, if_true, if_false, Bool.false_eq_true, Bool.true_eq_false, reduceCtorEq, false_implies, eq_self, prD]
      refine ⟨by simp only [okB]; omega, ?_⟩
      refine W_cPure (fun d => prD (xs.getD (ixD d) .non)) trivial (by rw [intsTo_len, sizeLine_eq]; simp; omega) (fun d hd => ?_) ?_
      · obtain ⟨i, rfl, i0, i1⟩ := intsTo_mem hd
        obtain ⟨y, e1, e2⟩ := atI_of (xs := xs) i0 (by omega)
        have e3 : xs.getD i.toNat .non = y := by rw [List.getD_eq_getElem?_getD, e1]; rfl
        simp only [↓reduceIte, ↓W_ok, ↓W_exn, ↓W_var0, ↓W_varS, ↓W_K, ↓W_bin, ↓W_un, ↓W_aNil, ↓W_aCons, ↓W_arg, ↓W_call, ↓W_of, ↓WB_test, ↓tc_bl, ↓WB_tru, ↓trc, ↓WB_and, ↓WB_or, ↓WB_not, ↓W_if, ↓W_andV, ↓W_orV, ↓W_notV, ↓WM_some, ↓WM_none, ↓WO_some, ↓tr_bl, ↓tr_non, ↓tr_int, ↓tr_tup, ↓tr_rol, ↓WS_nx, ↓WS_rt, ↓WS_ct, ↓WS_bk, ↓WS_exn, ↓WS_seq, ↓WS_nil, ↓WS_retN, ↓WS_break, ↓WS_cont, ↓WS_expr, ↓WS_ret, ↓WS_if, ↓WS_set, ↓WS_par, ↓WS_asg, ↓WS_gSet, ↓WS_gN, ↓WS_gC, ↓WS_gUn, ↓WS_gSub, ↓WS_aug, ↓o_add, ↓o_iadd, ↓o_sub, ↓o_neg, ↓o_mul, ↓o_mod, ↓o_div, ↓o_pow, ↓o_addT, ↓o_addS, ↓o_addL, ↓o_lt, ↓o_le, ↓o_gt, ↓o_ge, ↓o_eq, ↓o_ne, ↓o_eqS, ↓o_neS, ↓o_eqB, ↓o_neB, ↓o_eqT, ↓o_neT, ↓o_eqN, ↓o_neN, ↓o_ltT, ↓o_leT, ↓o_is, ↓o_isnot, ↓o_isB, ↓o_isnotB, ↓o_inT, ↓o_ninT, ↓o_inL, ↓o_ninL, ↓o_ixT, ↓o_ixR, ↓o_ixL, ↓o_ixS, ↓o_str, ↓o_strS, ↓o_set, ↓o_lenT, ↓o_lenR, ↓o_lenL, ↓o_lenS, ↓o_int, ↓o_intT, ↓o_intF, ↓o_abs, ↓o_max, ↓o_min, ↓o_tuple, ↓o_list, ↓o_tup0, ↓o_tup1, ↓o_tup2, ↓o_tup3, ↓o_tup4, ↓o_tup5, ↓o_tup6, ↓o_lst0, ↓o_lst1, ↓o_lst2, ↓o_lst3, ↓o_lst4, ↓o_lst5, ↓o_lst6, ↓o_sum, ↓W_meth, ↓o_append, ↓o_extend, ↓o_popAt, ↓W_cut, ↓W_noPart, ↓W_part, ↓o_cutT, ↓o_cutR, ↓o_cutL, ↓W_isi, ↓W_ch, ↓WS_for, ↓WI_iter, ↓WI_range1, ↓WI_range2, ↓WI_range3, ↓WI_enum, ↓WS_f0, ↓WS_f1, ↓W_alloc, ↓W_ofL, ↓W_comp, ↓WB_yes, ↓W_c0, ↓W_c1, ↓W_listRg, ↓W_tupRg, ↓W_rRange1, ↓W_rRange2, o_intT, o_intF, o_intB, o_ixL, o_ixT, beq_self_eq_true, decide_true, decide_false, okEq, okCmp, okIn, D.fits, D.fitsL, D.dep, D.depL, D.eqv, D.eqvL, D.alike, D.alikeL, isBl_bl, isN_non, isN_bl, isN_int, isN_str, isN_tup, isN_rol, isN_loc, Nat.reduceAdd, Nat.reduceSub, Nat.max_self, Nat.min_self, Nat.max_zero, Nat.zero_max, Nat.min_zero, Nat.zero_min, ty_non, ty_bl, ty_int, ty_str, ty_tup, ty_rol, ty_loc, kb_bool_bool, kb_bool_int, kb_bool_str, kb_bool_tuple, kb_bool_list, kb_int_bool, kb_int_int, kb_int_str, kb_int_tuple, kb_int_list, kb_str_bool, kb_str_int, kb_str_str, kb_str_tuple, kb_str_list, kb_tuple_bool, kb_tuple_int, kb_tuple_str, kb_tuple_tuple, kb_tuple_list, kb_list_bool, kb_list_int, kb_list_str, kb_list_tuple, kb_list_list, kb_NoneType_bool, kb_NoneType_int, kb_NoneType_str, kb_NoneType_tuple, kb_NoneType_list, Nat.zero_add, c02, lstAt_setE, Option.map_some, lstAt_set_ne, ne_eq, Nat.reduceEqDiff, Nat.one_ne_zero, Nat.zero_ne_one, ix_1_0, ix_2_0, ix_2_1, ix_3_0, ix_3_1, ix_3_2, ix_4_0, ix_4_1, ix_4_2, ix_4_3, ix_5_0, ix_5_1, ix_5_2, ix_5_3, ix_5_4, ix_6_0, ix_6_1, ix_6_2, ix_6_3, ix_6_4, ix_6_5, Nat.reduceLeDiff, Int.reduceAdd, Int.reduceSub, Int.reduceMul, Int.reduceNeg, Int.reducePow, Int.reduceLT, Int.reduceLE, Int.reduceEq, Int.reduceToNat, Bool.and_true, Bool.true_and, Bool.and_self, Bool.and_false, Bool.false_and, Bool.and_eq_true, Bool.and_eq_false_imp, and_self, WS_qdn, WS_qdr, WS_qde, WS_qdb, WS_qdc, qn1, qn2, qn3, qn4, qn5, qk1, qk5, lq1, lq2, lq3, lq4, lq5, intD_int, items_tup, items_rol, items_loc, listOf_loc, listOf_rol, isL_loc, at0, at1, at2, at3, at4, at5, atl1, atl2, atl3, atl4, lstAt_new, it_tup, it_rol, kTup_eq, kLen_eq, wipe0, wipe1, b_nm, List.set_cons_zero, List.set_cons_succ, List.length_cons, List.length_nil, List.nil_append, List.cons_append, List.append_nil, List.isEmpty_cons, List.isEmpty_nil, true_and, and_true, false_and, and_false, true_implies, forall_const, not_true_eq_false, not_false_eq_true, implies_true, decide_eq_true_eq, decide_eq_false_iff_not, Bool.not_eq_true', Bool.not_eq_false', Bool.not_true, Bool.not_false, if_true, if_false, Bool.false_eq_true, Bool.true_eq_false, reduceCtorEq, false_implies, eq_self, e2]
        unfold ixD prD
        rw [e3]
      · have em : (intsTo 0 (Int.toNat (xs.length : Int))).map (fun d => prD (xs.getD (ixD d) .non)) = xs.map prD := by rw [Int.toNat_natCast]; exact intsTo_map_get xs
        rw [List.nil_append, em]
        simp only [↓reduceIte, ↓W_ok, ↓W_exn, ↓W_var0, ↓W_varS, ↓W_K, ↓W_bin, ↓W_un, ↓W_aNil, ↓W_aCons, ↓W_arg, ↓W_call, ↓W_of, ↓WB_test, ↓tc_bl, ↓WB_tru, ↓trc, ↓WB_and, ↓WB_or, ↓WB_not, ↓W_if, ↓W_andV, ↓W_orV, ↓W_notV, ↓WM_some, ↓WM_none, ↓WO_some, ↓tr_bl, ↓tr_non, ↓tr_int, ↓tr_tup, ↓tr_rol, ↓WS_nx, ↓WS_rt, ↓WS_ct, ↓WS_bk, ↓WS_exn, ↓WS_seq, ↓WS_nil, ↓WS_retN, ↓WS_break, ↓WS_cont, ↓WS_expr, ↓WS_ret, ↓WS_if, ↓WS_set, ↓WS_par, ↓WS_asg, ↓WS_gSet, ↓WS_gN, ↓WS_gC, ↓WS_gUn, ↓WS_gSub, ↓WS_aug, ↓o_add, ↓o_iadd, ↓o_sub, ↓o_neg, ↓o_mul, ↓o_mod, ↓o_div, ↓o_pow, ↓o_addT, ↓o_addS, ↓o_addL, ↓o_lt, ↓o_le, ↓o_gt, ↓o_ge, ↓o_eq, ↓o_ne, ↓o_eqS, ↓o_neS, ↓o_eqB, ↓o_neB, ↓o_eqT, ↓o_neT, ↓o_eqN, ↓o_neN, ↓o_ltT, ↓o_leT, ↓o_is, ↓o_isnot, ↓o_isB, ↓o_isnotB, ↓o_inT, ↓o_ninT, ↓o_inL, ↓o_ninL, ↓o_ixT, ↓o_ixR, ↓o_ixL, ↓o_ixS, ↓o_str, ↓o_strS, ↓o_set, ↓o_lenT, ↓o_lenR, ↓o_lenL, ↓o_lenS, ↓o_int, ↓o_intT, ↓o_intF, ↓o_abs, ↓o_max, ↓o_min, ↓o_tuple, ↓o_list, ↓o_tup0, ↓o_tup1, ↓o_tup2, ↓o_tup3, ↓o_tup4, ↓o_tup5, ↓o_tup6, ↓o_lst0, ↓o_lst1, ↓o_lst2, ↓o_lst3, ↓o_lst4, ↓o_lst5, ↓o_lst6, ↓o_sum, ↓W_meth, ↓o_append, ↓o_popAt, ↓W_cut, ↓W_noPart, ↓W_part, ↓o_cutT, ↓o_cutR, ↓o_cutL, ↓W_isi, ↓W_ch, ↓WS_for, ↓WI_iter, ↓WI_range1, ↓WI_range2, ↓WI_range3, ↓WI_enum, ↓WS_f0, ↓WS_f1, ↓W_alloc, ↓W_ofL, ↓W_comp, ↓WB_yes, ↓W_c0, ↓W_c1, ↓W_listRg, ↓W_tupRg, ↓W_rRange1, ↓W_rRange2, o_intT, o_intF, o_intB, o_ixL, o_ixT, beq_self_eq_true, decide_true, decide_false, okEq, okCmp, okIn, D.fits, D.fitsL, D.dep, D.depL, D.eqv, D.eqvL, D.alike, D.alikeL, isBl_bl, isN_non, isN_bl, isN_int, isN_str, isN_tup, isN_rol, isN_loc, Nat.reduceAdd, Nat.reduceSub, Nat.max_self, Nat.min_self, Nat.max_zero, Nat.zero_max, Nat.min_zero, Nat.zero_min, ty_non, ty_bl, ty_int, ty_str, ty_tup, ty_rol, ty_loc, kb_bool_bool, kb_bool_int, kb_bool_str, kb_bool_tuple, kb_bool_list, kb_int_bool, kb_int_int, kb_int_str, kb_int_tuple, kb_int_list, kb_str_bool, kb_str_int, kb_str_str, kb_str_tuple, kb_str_list, kb_tuple_bool, kb_tuple_int, kb_tuple_str, kb_tuple_tuple, kb_tuple_list, kb_list_bool, kb_list_int, kb_list_str, kb_list_tuple, kb_list_list, kb_NoneType_bool, kb_NoneType_int, kb_NoneType_str, kb_NoneType_tuple, kb_NoneType_list, Nat.zero_add, c02, lstAt_setE, Option.map_some, lstAt_set_ne, ne_eq, Nat.reduceEqDiff, Nat.one_ne_zero, Nat.zero_ne_one, ix_1_0, ix_2_0, ix_2_1, ix_3_0, ix_3_1, ix_3_2, ix_4_0, ix_4_1, ix_4_2, ix_4_3, ix_5_0, ix_5_1, ix_5_2, ix_5_3, ix_5_4, ix_6_0, ix_6_1, ix_6_2, ix_6_3, ix_6_4, ix_6_5, Nat.reduceLeDiff, Int.reduceAdd, Int.reduceSub, Int.reduceMul, Int.reduceNeg, Int.reducePow, Int.reduceLT, Int.reduceLE, Int.reduceEq, Int.reduceToNat, Bool.and_true, Bool.true_and, Bool.and_self, Bool.and_false, Bool.false_and, Bool.and_eq_true, Bool.and_eq_false_imp, and_self, WS_qdn, WS_qdr, WS_qde, WS_qdb, WS_qdc, qn1, qn2, qn3, qn4, qn5, qk1, qk5, lq1, lq2, lq3, lq4, lq5, intD_int, items_tup, items_rol, items_loc, listOf_loc, listOf_rol, isL_loc, at0, at1, at2, at3, at4, at5, atl1, atl2, atl3, atl4, lstAt_new, it_tup, it_rol, kTup_eq, kLen_eq, wipe0, wipe1, b_nm, List.set_cons_zero, List.set_cons_succ, List.length_cons, List.length_nil, List.nil_append, List.cons_append, List.append_nil, List.isEmpty_cons, List.isEmpty_nil, true_and, and_true, false_and, and_false, true_implies, forall_const, not_true_eq_false, not_false_eq_true, implies_true, decide_eq_true_eq, decide_eq_false_iff_not, Bool.not_eq_true', Bool.not_eq_false', Bool.not_true, Bool.not_false, if_true, if_false, Bool.false_eq_true, Bool.true_eq_false, reduceCtorEq, false_implies, eq_self]
        have hle : ds.length ≤ D.szL ds := by
          clear hL hn hn2 hpl hpr lT hT hgt
          induction ds with
          | nil => simp
          | cons a r ih => 
            rw [List.length_cons, D.szL]
            have : 1 ≤ a.sz := by cases a <;> simp [D.sz]
            omega
        have hle2 : xs.length ≤ 1000000 := hpe.1
        have hle3 : ds.length + xs.length ≤ sizeLine := by
          have hx : xs.length ≤ D.szL xs := by
            clear hL hn hn2 hpl hpr lT hT hgt hpe hle2 em
            induction xs with
            | nil => simp
            | cons a r ih =>
              rw [List.length_cons, D.szL]
              have : 1 ≤ a.sz := by cases a <;> simp [D.sz]
              omega
          rw [sizeLine_eq]; omega
        refine extend_w (lstAt_app lT) lstAt_new (by rw [List.length_map, List.length_map]; exact hle3) fun U hU lU => ?_
        simp only [↓reduceIte, ↓W_ok, ↓W_exn, ↓W_var0, ↓W_varS, ↓W_K, ↓W_bin, ↓W_un, ↓W_aNil, ↓W_aCons, ↓W_arg, ↓W_call, ↓W_of, ↓WB_test, ↓tc_bl, ↓WB_tru, ↓trc, ↓WB_and, ↓WB_or, ↓WB_not, ↓W_if, ↓W_andV, ↓W_orV, ↓W_notV, ↓WM_some, ↓WM_none, ↓WO_some, ↓tr_bl, ↓tr_non, ↓tr_int, ↓tr_tup, ↓tr_rol, ↓WS_nx, ↓WS_rt, ↓WS_ct, ↓WS_bk, ↓WS_exn, ↓WS_seq, ↓WS_nil, ↓WS_retN, ↓WS_break, ↓WS_cont, ↓WS_expr, ↓WS_ret, ↓WS_if, ↓WS_set, ↓WS_par, ↓WS_asg, ↓WS_gSet, ↓WS_gN, ↓WS_gC, ↓WS_gUn, ↓WS_gSub, ↓WS_aug, ↓o_add, ↓o_iadd, ↓o_sub, ↓o_neg, ↓o_mul, ↓o_mod, ↓o_div, ↓o_pow, ↓o_addT, ↓o_addS, ↓o_addL, ↓o_lt, ↓o_le, ↓o_gt, ↓o_ge, ↓o_eq, ↓o_ne, ↓o_eqS, ↓o_neS, ↓o_eqB, ↓o_neB, ↓o_eqT, ↓o_neT, ↓o_eqN, ↓o_neN, ↓o_ltT, ↓o_leT, ↓o_is, ↓o_isnot, ↓o_isB, ↓o_isnotB, ↓o_inT, ↓o_ninT, ↓o_inL, ↓o_ninL, ↓o_ixT, ↓o_ixR, ↓o_ixL, ↓o_ixS, ↓o_str, ↓o_strS, ↓o_set, ↓o_lenT, ↓o_lenR, ↓o_lenL, ↓o_lenS, ↓o_int, ↓o_intT, ↓o_intF, ↓o_abs, ↓o_max, ↓o_min, ↓o_tuple, ↓o_list, ↓o_tup0, ↓o_tup1, ↓o_tup2, ↓o_tup3, ↓o_tup4, ↓o_tup5, ↓o_tup6, ↓o_lst0, ↓o_lst1, ↓o_lst2, ↓o_lst3, ↓o_lst4, ↓o_lst5, ↓o_lst6, ↓o_sum, ↓W_meth, ↓o_append, ↓o_extend, ↓o_popAt, ↓W_cut, ↓W_noPart, ↓W_part, ↓o_cutT, ↓o_cutR, ↓o_cutL, ↓W_isi, ↓W_ch, ↓WS_for, ↓WI_iter, ↓WI_range1, ↓WI_range2, ↓WI_range3, ↓WI_enum, ↓WS_f0, ↓WS_f1, ↓W_alloc, ↓W_ofL, ↓W_comp, ↓WB_yes, ↓W_c0, ↓W_c1, ↓W_listRg, ↓W_tupRg, ↓W_rRange1, ↓W_rRange2, o_intT, o_intF, o_intB, o_ixL, o_ixT, beq_self_eq_true, decide_true, decide_false, okEq, okCmp, okIn, D.fits, D.fitsL, D.dep, D.depL, D.eqv, D.eqvL, D.alike, D.alikeL, isBl_bl, isN_non, isN_bl, isN_int, isN_str, isN_tup, isN_rol, isN_loc, Nat.reduceAdd, Nat.reduceSub, Nat.max_self, Nat.min_self, Nat.max_zero, Nat.zero_max, Nat.min_zero, Nat.zero_min, ty_non, ty_bl, ty_int, ty_str, ty_tup, ty_rol, ty_loc, kb_bool_bool, kb_bool_int, kb_bool_str, kb_bool_tuple, kb_bool_list, kb_int_bool, kb_int_int, kb_int_str, kb_int_tuple, kb_int_list, kb_str_bool, kb_str_int, kb_str_str, kb_str_tuple, kb_str_list, kb_tuple_bool, kb_tuple_int, kb_tuple_str, kb_tuple_tuple, kb_tuple_list, kb_list_bool, kb_list_int, kb_list_str, kb_list_tuple, kb_list_list, kb_NoneType_bool, kb_NoneType_int, kb_NoneType_str, kb_NoneType_tuple, kb_NoneType_list, Nat.zero_add, c02, lstAt_setE, Option.map_some, lstAt_set_ne, ne_eq, Nat.reduceEqDiff, Nat.one_ne_zero, Nat.zero_ne_one, ix_1_0, ix_2_0, ix_2_1, ix_3_0, ix_3_1, ix_3_2, ix_4_0, ix_4_1, ix_4_2, ix_4_3, ix_5_0, ix_5_1, ix_5_2, ix_5_3, ix_5_4, ix_6_0, ix_6_1, ix_6_2, ix_6_3, ix_6_4, ix_6_5, Nat.reduceLeDiff, Int.reduceAdd, Int.reduceSub, Int.reduceMul, Int.reduceNeg, Int.reducePow, Int.reduceLT, Int.reduceLE, Int.reduceEq, Int.reduceToNat, Bool.and_true, Bool.true_and, Bool.and_self, Bool.and_false, Bool.false_and, Bool.and_eq_true, Bool.and_eq_false_imp, and_self, WS_qdn, WS_qdr, WS_qde, WS_qdb, WS_qdc, qn1, qn2, qn3, qn4, qn5, qk1, qk5, lq1, lq2, lq3, lq4, lq5, intD_int, items_tup, items_rol, items_loc, listOf_loc, listOf_rol, isL_loc, at0, at1, at2, at3, at4, at5, atl1, atl2, atl3, atl4, lstAt_new, it_tup, it_rol, kTup_eq, kLen_eq, wipe0, wipe1, b_nm, List.set_cons_zero, List.set_cons_succ, List.length_cons, List.length_nil, List.nil_append, List.cons_append, List.append_nil, List.isEmpty_cons, List.isEmpty_nil, true_and, and_true, false_and, and_false, true_implies, forall_const, not_true_eq_false, not_false_eq_true, implies_true, decide_eq_true_eq, decide_eq_false_iff_not, Bool.not_eq_true', Bool.not_eq_false', Bool.not_true, Bool.not_false, if_true, if_false, Bool.false_eq_true, Bool.true_eq_false, reduceCtorEq, false_implies, eq_self]
        refine ⟨hU ▸ (hFT.app _).set h2, hU ▸ (FT.app _).set (Nat.le_refl _), ds ++ xs, _, _, _, rfl, by rw [lU, List.map_append], by rw [szL_app]; omega, by omega, fun y hy => ?_⟩
        rcases List.mem_append.mp hy with hy | hy
        · exact hpr y hy
        · exact plL_iff.mp hpe.2 y hy
    | non =>
      refine ⟨n - 1, by simp only [D.sz] at hn; omega, pop_w hL fun T hT lT => ?_⟩
      simp only [↓reduceIte, ↓W_ok, ↓W_exn, ↓W_var0, ↓W_varS, ↓W_K, ↓W_bin, ↓W_un, ↓W_aNil, ↓W_aCons, ↓W_arg, ↓W_call, ↓W_of, ↓WB_test, ↓tc_bl, ↓WB_tru, ↓trc, ↓WB_and, ↓WB_or, ↓WB_not, ↓W_if, ↓W_andV, ↓W_orV, ↓W_notV, ↓WM_some, ↓WM_none, ↓WO_some, ↓tr_bl, ↓tr_non, ↓tr_int, ↓tr_tup, ↓tr_rol, ↓WS_nx, ↓WS_rt, ↓WS_ct, ↓WS_bk, ↓WS_exn, ↓WS_seq, ↓WS_nil, ↓WS_retN, ↓WS_break, ↓WS_cont, ↓WS_expr, ↓WS_ret, ↓WS_if, ↓WS_set, ↓WS_par, ↓WS_asg, ↓WS_gSet, ↓WS_gN, ↓WS_gC, ↓WS_gUn, ↓WS_gSub, ↓WS_aug, ↓o_add, ↓o_iadd, ↓o_sub, ↓o_neg, ↓o_mul, ↓o_mod, ↓o_div, ↓o_pow, ↓o_addT, ↓o_addS, ↓o_addL, ↓o_lt, ↓o_le, ↓o_gt, ↓o_ge, ↓o_eq, ↓o_ne, ↓o_eqS, ↓o_neS, ↓o_eqB, ↓o_neB, ↓o_eqT, ↓o_neT, ↓o_eqN, ↓o_neN, ↓o_ltT, ↓o_leT, ↓o_is, ↓o_isnot, ↓o_isB, ↓o_isnotB, ↓o_inT, ↓o_ninT, ↓o_inL, ↓o_ninL, ↓o_ixT, ↓o_ixR, ↓o_ixL, ↓o_ixS, ↓o_str, ↓o_strS, ↓o_set, ↓o_lenT, ↓o_lenR, ↓o_lenL, ↓o_lenS, ↓o_int, ↓o_intT, ↓o_intF, ↓o_abs, ↓o_max, ↓o_min, ↓o_tuple, ↓o_list, ↓o_tup0, ↓o_tup1, ↓o_tup2, ↓o_tup3, ↓o_tup4, ↓o_tup5, ↓o_tup6, ↓o_lst0, ↓o_lst1, ↓o_lst2, ↓o_lst3, ↓o_lst4, ↓o_lst5, ↓o_lst6, ↓o_sum, ↓W_meth, ↓o_append, ↓o_extend, ↓o_popAt, ↓W_cut, ↓W_noPart, ↓W_part, ↓o_cutT, ↓o_cutR, ↓o_cutL, ↓W_isi, ↓W_ch, ↓WS_for, ↓WI_iter, ↓WI_range1, ↓WI_range2, ↓WI_range3, ↓WI_enum, ↓WS_f0, ↓WS_f1, ↓W_alloc, ↓W_ofL, ↓W_comp, ↓WB_yes, ↓W_c0, ↓W_c1, ↓W_listRg, ↓W_tupRg, ↓W_rRange1, ↓W_rRange2, o_intT, o_intF, o_intB, o_ixL, o_ixT, beq_self_eq_true, decide_true, decide_false, okEq, okCmp, okIn, D.fits, D.fitsL, D.dep, D.depL, D.eqv, D.eqvL, D.alike, D.alikeL, isBl_bl, isN_non, isN_bl, isN_int, isN_str, isN_tup, isN_rol, isN_loc, Nat.reduceAdd, Nat.reduceSub, Nat.max_self, Nat.min_self, Nat.max_zero, Nat.zero_max, Nat.min_zero, Nat.zero_min, ty_non, ty_bl, ty_int, ty_str, ty_tup, ty_rol, ty_loc, kb_bool_bool, kb_bool_int, kb_bool_str, kb_bool_tuple, kb_bool_list, kb_int_bool, kb_int_int, kb_int_str, kb_int_tuple, kb_int_list, kb_str_bool, kb_str_int, kb_str_str, kb_str_tuple, kb_str_list, kb_tuple_bool, kb_tuple_int, kb_tuple_str, kb_tuple_tuple, kb_tuple_list, kb_list_bool, kb_list_int, kb_list_str, kb_list_tuple, kb_list_list, kb_NoneType_bool, kb_NoneType_int, kb_NoneType_str, kb_NoneType_tuple, kb_NoneType_list, Nat.zero_add, c02, lstAt_setE, Option.map_some, lstAt_set_ne, ne_eq, Nat.reduceEqDiff, Nat.one_ne_zero, Nat.zero_ne_one, ix_1_0, ix_2_0, ix_2_1, ix_3_0, ix_3_1, ix_3_2, ix_4_0, ix_4_1, ix_4_2, ix_4_3, ix_5_0, ix_5_1, ix_5_2, ix_5_3, ix_5_4, ix_6_0, ix_6_1, ix_6_2, ix_6_3, ix_6_4, ix_6_5, Nat.reduceLeDiff, Int.reduceAdd, Int.reduceSub, Int.reduceMul, Int.reduceNeg, Int.reducePow, Int.reduceLT, Int.reduceLE, Int.reduceEq, Int.reduceToNat, Bool.and_true, Bool.true_and, Bool.and_self, Bool.and_false, Bool.false_and, Bool.and_eq_true, Bool.and_eq_false_imp, and_self, WS_qdn, WS_qdr, WS_qde, WS_qdb, WS_qdc, qn1, qn2, qn3, qn4, qn5, qk1, qk5, lq1, lq2, lq3, lq4, lq5, intD_int, items_tup, items_rol, items_loc, listOf_loc, listOf_rol, isL_loc, at0, at1, at2, at3, at4, at5, atl1, atl2, atl3, atl4, lstAt_new, it_tup, it_rol, kTup_eq, kLen_eq, wipe0, wipe1, b_nm, List.set_cons_zero, List.set_cons_succ, List.length_cons, List.length_nil, List.nil_append, List.cons_append, List.append_nil, List.isEmpty_cons, List.isEmpty_nil, true_and, and_true, false_and, and_false, true_implies, forall_const, not_true_eq_false, not_false_eq_true, implies_true, decide_eq_true_eq, decide_eq_false_iff_not, Bool.not_eq_true', Bool.not_eq_false', Bool.not_true, Bool.not_false, if_true, if_false, Bool.false_eq_true, Bool.true_eq_false, reduceCtorEq, false_implies, eq_self, prD]
      exact ⟨hT ▸ hF1.set h2, hT ▸ F1.set (Nat.le_refl _), ds, _, _, _, rfl, lT, by simp only [D.sz] at hn; omega, by omega, hpr⟩
    | bl b =>
      refine ⟨n - 1, by simp only [D.sz] at hn; omega, pop_w hL fun T hT lT => ?_⟩
      simp only [↓reduceIte, ↓W_ok, ↓W_exn, ↓W_var0, ↓W_varS, ↓W_K, ↓W_bin, ↓W_un, ↓W_aNil, ↓W_aCons, ↓W_arg, ↓W_call, ↓W_of, ↓WB_test, ↓tc_bl, ↓WB_tru, ↓trc, ↓WB_and, ↓WB_or, ↓WB_not, ↓W_if, ↓W_andV, ↓W_orV, ↓W_notV, ↓WM_some, ↓WM_none, ↓WO_some, ↓tr_bl, ↓tr_non, ↓tr_int, ↓tr_tup, ↓tr_rol, ↓WS_nx, ↓WS_rt, ↓WS_ct, ↓WS_bk, ↓WS_exn, ↓WS_seq, ↓WS_nil, ↓WS_retN, ↓WS_break, ↓WS_cont, ↓WS_expr, ↓WS_ret, ↓WS_if, ↓WS_set, ↓WS_par, ↓WS_asg, ↓WS_gSet, ↓WS_gN, ↓WS_gC, ↓WS_gUn, ↓WS_gSub, ↓WS_aug, ↓o_add, ↓o_iadd, ↓o_sub, ↓o_neg, ↓o_mul, ↓o_mod, ↓o_div, ↓o_pow, ↓o_addT, ↓o_addS, ↓o_addL, ↓o_lt, ↓o_le, ↓o_gt, ↓o_ge, ↓o_eq, ↓o_ne, ↓o_eqS, ↓o_neS, ↓o_eqB, ↓o_neB, ↓o_eqT, ↓o_neT, ↓o_eqN, ↓o_neN, ↓o_ltT, ↓o_leT, ↓o_is, ↓o_isnot, ↓o_isB, ↓o_isnotB, ↓o_inT, ↓o_ninT, ↓o_inL, ↓o_ninL, ↓o_ixT, ↓o_ixR, ↓o_ixL, ↓o_ixS, ↓o_str, ↓o_strS, ↓o_set, ↓o_lenT, ↓o_lenR, ↓o_lenL, ↓o_lenS, ↓o_int, ↓o_intT, ↓o_intF, ↓o_abs, ↓o_max, ↓o_min, ↓o_tuple, ↓o_list, ↓o_tup0, ↓o_tup1, ↓o_tup2, ↓o_tup3, ↓o_tup4, ↓o_tup5, ↓o_tup6, ↓o_lst0, ↓o_lst1, ↓o_lst2, ↓o_lst3, ↓o_lst4, ↓o_lst5, ↓o_lst6, ↓o_sum, ↓W_meth, ↓o_append, ↓o_extend, ↓o_popAt, ↓W_cut, ↓W_noPart, ↓W_part, ↓o_cutT, ↓o_cutR, ↓o_cutL, ↓W_isi, ↓W_ch, ↓WS_for, ↓WI_iter, ↓WI_range1, ↓WI_range2, ↓WI_range3, ↓WI_enum, ↓WS_f0, ↓WS_f1, ↓W_alloc, ↓W_ofL, ↓W_comp, ↓WB_yes, ↓W_c0, ↓W_c1, ↓W_listRg, ↓W_tupRg, ↓W_rRange1, ↓W_rRange2, o_intT, o_intF, o_intB, o_ixL, o_ixT, beq_self_eq_true, decide_true, decide_false, okEq, okCmp, okIn, D.fits, D.fitsL, D.dep, D.depL, D.eqv, D.eqvL, D.alike, D.alikeL, isBl_bl, isN_non, isN_bl, isN_int, isN_str, isN_tup, isN_rol, isN_loc, Nat.reduceAdd, Nat.reduceSub, Nat.max_self, Nat.min_self, Nat.max_zero, Nat.zero_max, Nat.min_zero, Nat.zero_min, ty_non, ty_bl, ty_int, ty_str, ty_tup, ty_rol, ty_loc, kb_bool_bool, kb_bool_int, kb_bool_str, kb_bool_tuple, kb_bool_list, kb_int_bool, kb_int_int, kb_int_str, kb_int_tuple, kb_int_list, kb_str_bool, kb_str_int, kb_str_str, kb_str_tuple, kb_str_list, kb_tuple_bool, kb_tuple_int, kb_tuple_str, kb_tuple_tuple, kb_tuple_list, kb_list_bool, kb_list_int, kb_list_str, kb_list_tuple, kb_list_list, kb_NoneType_bool, kb_NoneType_int, kb_NoneType_str, kb_NoneType_tuple, kb_NoneType_list, Nat.zero_add, c02, lstAt_setE, Option.map_some, lstAt_set_ne, ne_eq, Nat.reduceEqDiff, Nat.one_ne_zero, Nat.zero_ne_one, ix_1_0, ix_2_0, ix_2_1, ix_3_0, ix_3_1, ix_3_2, ix_4_0, ix_4_1, ix_4_2, ix_4_3, ix_5_0, ix_5_1, ix_5_2, ix_5_3, ix_5_4, ix_6_0, ix_6_1, ix_6_2, ix_6_3, ix_6_4, ix_6_5, Nat.reduceLeDiff, Int.reduceAdd, Int.reduceSub, Int.reduceMul, Int.reduceNeg, Int.reducePow, Int.reduceLT, Int.reduceLE, Int.reduceEq, Int.reduceToNat, Bool.and_true, Bool.true_and, Bool.and_self, Bool.and_false, Bool.false_and, Bool.and_eq_true, Bool.and_eq_false_imp, and_self, WS_qdn, WS_qdr, WS_qde, WS_qdb, WS_qdc, qn1, qn2, qn3, qn4, qn5, qk1, qk5, lq1, lq2, lq3, lq4, lq5, intD_int, items_tup, items_rol, items_loc, listOf_loc, listOf_rol, isL_loc, at0, at1, at2, at3, at4, at5, atl1, atl2, atl3, atl4, lstAt_new, it_tup, it_rol, kTup_eq, kLen_eq, wipe0, wipe1, b_nm, List.set_cons_zero, List.set_cons_succ, List.length_cons, List.length_nil, List.nil_append, List.cons_append, List.append_nil, List.isEmpty_cons, List.isEmpty_nil, true_and, and_true, false_and, and_false, true_implies, forall_const, not_true_eq_false, not_false_eq_true, implies_true, decide_eq_true_eq, decide_eq_false_iff_not, Bool.not_eq_true', Bool.not_eq_false', Bool.not_true, Bool.not_false, if_true, if_false, Bool.false_eq_true, Bool.true_eq_false, reduceCtorEq, false_implies, eq_self, prD]
      exact ⟨hT ▸ hF1.set h2, hT ▸ F1.set (Nat.le_refl _), ds, _, _, _, rfl, lT, by simp only [D.sz] at hn; omega, by omega, hpr⟩
    | str b =>
      refine ⟨n - 1, by simp only [D.sz] at hn; omega, pop_w hL fun T hT lT => ?_⟩
      simp only [↓reduceIte, ↓W_ok, ↓W_exn, ↓W_var0, ↓W_varS, ↓W_K, ↓W_bin, ↓W_un, ↓W_aNil, ↓W_aCons, ↓W_arg, ↓W_call, ↓W_of, ↓WB_test, ↓tc_bl, ↓WB_tru, ↓trc, ↓WB_and, ↓WB_or, ↓WB_not, ↓W_if, ↓W_andV, ↓W_orV, ↓W_notV, ↓WM_some, ↓WM_none, ↓WO_some, ↓tr_bl, ↓tr_non, ↓tr_int, ↓tr_tup, ↓tr_rol, ↓WS_nx, ↓WS_rt, ↓WS_ct, ↓WS_bk, ↓WS_exn, ↓WS_seq, ↓WS_nil, ↓WS_retN, ↓WS_break, ↓WS_cont, ↓WS_expr, ↓WS_ret, ↓WS_if, ↓WS_set, ↓WS_par, ↓WS_asg, ↓WS_gSet, ↓WS_gN, ↓WS_gC, ↓WS_gUn, ↓WS_gSub, ↓WS_aug, ↓o_add, ↓o_iadd, ↓o_sub, ↓o_neg, ↓o_mul, ↓o_mod, ↓o_div, ↓o_pow, ↓o_addT, ↓o_addS, ↓o_addL, ↓o_lt, ↓o_le, ↓o_gt, ↓o_ge, ↓o_eq, ↓o_ne, ↓o_eqS, ↓o_neS, ↓o_eqB, ↓o_neB, ↓o_eqT, ↓o_neT, ↓o_eqN, ↓o_neN, ↓o_ltT, ↓o_leT, ↓o_is, ↓o_isnot, ↓o_isB, ↓o_isnotB, ↓o_inT, ↓o_ninT, ↓o_inL, ↓o_ninL, ↓o_ixT, ↓o_ixR, ↓o_ixL, ↓o_ixS, ↓o_str, ↓o_strS, ↓o_set, ↓o_lenT, ↓o_lenR, ↓o_lenL, ↓o_lenS, ↓o_int, ↓o_intT, ↓o_intF, ↓o_abs, ↓o_max, ↓o_min, ↓o_tuple, ↓o_list, ↓o_tup0, ↓o_tup1, ↓o_tup2, ↓o_tup3, ↓o_tup4, ↓o_tup5, ↓o_tup6, ↓o_lst0, ↓o_lst1, ↓o_lst2, ↓o_lst3, ↓o_lst4, ↓o_lst5, ↓o_lst6, ↓o_sum, ↓W_meth, ↓o_append, ↓o_extend, ↓o_popAt, ↓W_cut, ↓W_noPart, ↓W_part, ↓o_cutT, ↓o_cutR, ↓o_cutL, ↓W_isi, ↓W_ch, ↓WS_for, ↓WI_iter, ↓WI_range1, ↓WI_range2, ↓WI_range3, ↓WI_enum, ↓WS_f0, ↓WS_f1, ↓W_alloc, ↓W_ofL, ↓W_comp, ↓WB_yes, ↓W_c0, ↓W_c1, ↓W_listRg, ↓W_tupRg, ↓W_rRange1, ↓W_rRange2, o_intT, o_intF, o_intB, o_ixL, o_ixT, beq_self_eq_true, decide_true, decide_false, okEq, okCmp, okIn, D.fits, D.fitsL, D.dep, D.depL, D.eqv, D.eqvL, D.alike, D.alikeL, isBl_bl, isN_non, isN_bl, isN_int, isN_str, isN_tup, isN_rol, isN_loc, Nat.reduceAdd, Nat.reduceSub, Nat.max_self, Nat.min_self, Nat.max_zero, Nat.zero_max, Nat.min_zero, Nat.zero_min, ty_non, ty_bl, ty_int, ty_str, ty_tup, ty_rol, ty_loc, kb_bool_bool, kb_bool_int, kb_bool_str, kb_bool_tuple, kb_bool_list, kb_int_bool, kb_int_int, kb_int_str, kb_int_tuple, kb_int_list, kb_str_bool, kb_str_int, kb_str_str, kb_str_tuple, kb_str_list, kb_tuple_bool, kb_tuple_int, kb_tuple_str, kb_tuple_tuple, kb_tuple_list, kb_list_bool, kb_list_int, kb_list_str, kb_list_tuple, kb_list_list, kb_NoneType_bool, kb_NoneType_int, kb_NoneType_str, kb_NoneType_tuple, kb_NoneType_list, Nat.zero_add, c02, lstAt_setE, Option.map_some, lstAt_set_ne, ne_eq, Nat.reduceEqDiff, Nat.one_ne_zero, Nat.zero_ne_one, ix_1_0, ix_2_0, ix_2_1, ix_3_0, ix_3_1, ix_3_2, ix_4_0, ix_4_1, ix_4_2, ix_4_3, ix_5_0, ix_5_1, ix_5_2, ix_5_3, ix_5_4, ix_6_0, ix_6_1, ix_6_2, ix_6_3, ix_6_4, ix_6_5, Nat.reduceLeDiff, Int.reduceAdd, Int.reduceSub, Int.reduceMul, Int.reduceNeg, Int.reducePow, Int.reduceLT, Int.reduceLE, Int.reduceEq, Int.reduceToNat, Bool.and_true, Bool.true_and, Bool.and_self, Bool.and_false, Bool.false_and, Bool.and_eq_true, Bool.and_eq_false_imp, and_self, WS_qdn, WS_qdr, WS_qde, WS_qdb, WS_qdc, qn1, qn2, qn3, qn4, qn5, qk1, qk5, lq1, lq2, lq3, lq4, lq5, intD_int, items_tup, items_rol, items_loc, listOf_loc, listOf_rol, isL_loc, at0, at1, at2, at3, at4, at5, atl1, atl2, atl3, atl4, lstAt_new, it_tup, it_rol, kTup_eq, kLen_eq, wipe0, wipe1, b_nm, List.set_cons_zero, List.set_cons_succ, List.length_cons, List.length_nil, List.nil_append, List.cons_append, List.append_nil, List.isEmpty_cons, List.isEmpty_nil, true_and, and_true, false_and, and_false, true_implies, forall_const, not_true_eq_false, not_false_eq_true, implies_true, decide_eq_true_eq, decide_eq_false_iff_not, Bool.not_eq_true', Bool.not_eq_false', Bool.not_true, Bool.not_false, if_true, if_false, Bool.false_eq_true, Bool.true_eq_false, reduceCtorEq, false_implies, eq_self, prD]
      exact ⟨hT ▸ hF1.set h2, hT ▸ F1.set (Nat.le_refl _), ds, _, _, _, rfl, lT, by simp only [D.sz] at hn; omega, by omega, hpr⟩
    | int b =>
      refine ⟨n - 1, by simp only [D.sz] at hn; omega, pop_w hL fun T hT lT => ?_⟩
      simp only [↓reduceIte, ↓W_ok, ↓W_exn, ↓W_var0, ↓W_varS, ↓W_K, ↓W_bin, ↓W_un, ↓W_aNil, ↓W_aCons, ↓W_arg, ↓W_call, ↓W_of, ↓WB_test, ↓tc_bl, ↓WB_tru, ↓trc, ↓WB_and, ↓WB_or, ↓WB_not, ↓W_if, ↓W_andV, ↓W_orV, ↓W_notV, ↓WM_some, ↓WM_none, ↓WO_some, ↓tr_bl, ↓tr_non, ↓tr_int, ↓tr_tup, ↓tr_rol, ↓WS_nx, ↓WS_rt, ↓WS_ct, ↓WS_bk, ↓WS_exn, ↓WS_seq, ↓WS_nil, ↓WS_retN, ↓WS_break, ↓WS_cont, ↓WS_expr, ↓WS_ret, ↓WS_if, ↓WS_set, ↓WS_par, ↓WS_asg, ↓WS_gSet, ↓WS_gN, ↓WS_gC, ↓WS_gUn, ↓WS_gSub, ↓WS_aug, ↓o_add, ↓o_iadd, ↓o_sub, ↓o_neg, ↓o_mul, ↓o_mod, ↓o_div, ↓o_pow, ↓o_addT, ↓o_addS, ↓o_addL, ↓o_lt, ↓o_le, ↓o_gt, ↓o_ge, ↓o_eq, ↓o_ne, ↓o_eqS, ↓o_neS, ↓o_eqB, ↓o_neB, ↓o_eqT, ↓o_neT, ↓o_eqN, ↓o_neN, ↓o_ltT, ↓o_leT, ↓o_is, ↓o_isnot, ↓o_isB, ↓o_isnotB, ↓o_inT, ↓o_ninT, ↓o_inL, ↓o_ninL, ↓o_ixT, ↓o_ixR, ↓o_ixL, ↓o_ixS, ↓o_str, ↓o_strS, ↓o_set, ↓o_lenT, ↓o_lenR, ↓o_lenL, ↓o_lenS, ↓o_int, ↓o_intT, ↓o_intF, ↓o_abs, ↓o_max, ↓o_min, ↓o_tuple, ↓o_list, ↓o_tup0, ↓o_tup1, ↓o_tup2, ↓o_tup3, ↓o_tup4, ↓o_tup5, ↓o_tup6, ↓o_lst0, ↓o_lst1, ↓o_lst2, ↓o_lst3, ↓o_lst4, ↓o_lst5, ↓o_lst6, ↓o_sum, ↓W_meth, ↓o_append, ↓o_extend, ↓o_popAt, ↓W_cut, ↓W_noPart, ↓W_part, ↓o_cutT, ↓o_cutR, ↓o_cutL, ↓W_isi, ↓W_ch, ↓WS_for, ↓WI_iter, ↓WI_range1, ↓WI_range2, ↓WI_range3, ↓WI_enum, ↓WS_f0, ↓WS_f1, ↓W_alloc, ↓W_ofL, ↓W_comp, ↓WB_yes, ↓W_c0, ↓W_c1, ↓W_listRg, ↓W_tupRg, ↓W_rRange1, ↓W_rRange2, o_intT, o_intF, o_intB, o_ixL, o_ixT, beq_self_eq_true, decide_true, decide_false, okEq, okCmp, okIn, D.fits, D.fitsL, D.dep, D.depL, D.eqv, D.eqvL, D.alike, D.alikeL, isBl_bl, isN_non, isN_bl, isN_int, isN_str, isN_tup, isN_rol, isN_loc, Nat.reduceAdd, Nat.reduceSub, Nat.max_self, Nat.min_self, Nat.max_zero, Nat.zero_max, Nat.min_zero, Nat.zero_min, ty_non, ty_bl, ty_int, ty_str, ty_tup, ty_rol, ty_loc, kb_bool_bool, kb_bool_int, kb_bool_str, kb_bool_tuple, kb_bool_list, kb_int_bool, kb_int_int, kb_int_str, kb_int_tuple, kb_int_list, kb_str_bool, kb_str_int, kb_str_str, kb_str_tuple, kb_str_list, kb_tuple_bool, kb_tuple_int, kb_tuple_str, kb_tuple_tuple, kb_tuple_list, kb_list_bool, kb_list_int, kb_list_str, kb_list_tuple, kb_list_list, kb_NoneType_bool, kb_NoneType_int, kb_NoneType_str, kb_NoneType_tuple, kb_NoneType_list, Nat.zero_add, c02, lstAt_setE, Option.map_some, lstAt_set_ne, ne_eq, Nat.reduceEqDiff, Nat.one_ne_zero, Nat.zero_ne_one, ix_1_0, ix_2_0, ix_2_1, ix_3_0, ix_3_1, ix_3_2, ix_4_0, ix_4_1, ix_4_2, ix_4_3, ix_5_0, ix_5_1, ix_5_2, ix_5_3, ix_5_4, ix_6_0, ix_6_1, ix_6_2, ix_6_3, ix_6_4, ix_6_5, Nat.reduceLeDiff, Int.reduceAdd, Int.reduceSub, Int.reduceMul, Int.reduceNeg, Int.reducePow, Int.reduceLT, Int.reduceLE, Int.reduceEq, Int.reduceToNat, Bool.and_true, Bool.true_and, Bool.and_self, Bool.and_false, Bool.false_and, Bool.and_eq_true, Bool.and_eq_false_imp, and_self, WS_qdn, WS_qdr, WS_qde, WS_qdb, WS_qdc, qn1, qn2, qn3, qn4, qn5, qk1, qk5, lq1, lq2, lq3, lq4, lq5, intD_int, items_tup, items_rol, items_loc, listOf_loc, listOf_rol, isL_loc, at0, at1, at2, at3, at4, at5, atl1, atl2, atl3, atl4, lstAt_new, it_tup, it_rol, kTup_eq, kLen_eq, wipe0, wipe1, b_nm, List.set_cons_zero, List.set_cons_succ, List.length_cons, List.length_nil, List.nil_append, List.cons_append, List.append_nil, List.isEmpty_cons, List.isEmpty_nil, true_and, and_true, false_and, and_false, true_implies, forall_const, not_true_eq_false, not_false_eq_true, implies_true, decide_eq_true_eq, decide_eq_false_iff_not, Bool.not_eq_true', Bool.not_eq_false', Bool.not_true, Bool.not_false, if_true, if_false, Bool.false_eq_true, Bool.true_eq_false, reduceCtorEq, false_implies, eq_self, prD, wm__law_whole, b__law_whole]
      exact ⟨hT ▸ hF1.set h2, hT ▸ F1.set (Nat.le_refl _), ds, _, _, _, rfl, lT, by simp only [D.sz] at hn; omega, by omega, hpr⟩
    | rol b => rw [D.pl] at hpe; exact hpe.elim
    | loc b => rw [D.pl] at hpe; exact hpe.elim
end
end LW

namespace LW
open PySem PySem.Spec PyProof.Rows L2 DL
section
variable {x : XQ} {Q : D → Store → Prop} {tt : Tg (x, Q)} {S : Store}
/-- some name -/
def NmOk (n : Str) : Prop := PyData.strOk n = true
theorem ofS_ok (s : String) : PyData.strOk (Str.ofString s) = true := by
  unfold PyData.strOk
  rw [Str.ofString_eq_toList, Array.all_eq_true']
  intro c hc
  simp only [List.mem_toArray, List.mem_map] at hc
  obtain ⟨k, _, rfl⟩ := hc
  have := k.valid
  simp only [decide_eq_true_eq]
  rcases this with h | h
  · have : k.toNat < 0xd800 := h
    omega
  · exact h.2
theorem okIn_names {n : Str} {ns : List Str} (h : NmOk n) (hn : ∀ n ∈ ns, NmOk n) : okIn (.str n) (ns.map D.str) := by
  have hd : D.depL (ns.map D.str) = 0 := by
    clear hn
    induction ns with
    | nil => rfl
    | cons a r ih => rw [List.map_cons, D.depL, ih]; rfl
  refine ⟨h, fitsL_iff.mpr fun y hy => ?_, by rw [hd]; simp⟩
  obtain ⟨z, hz, rfl⟩ := List.mem_map.mp hy
  exact hn z hz
structure Fld where
  n : Str
  lo : Int
  hi : Int
def Fld.d (f : Fld) : D := .tup [.str f.n, .int f.lo, .int f.hi]
/-- a field of at most twenty answers -/
structure Fld.ok (f : Fld) : Prop where
  nm : NmOk f.n
  le : f.lo ≤ f.hi
  wide : f.hi ≤ f.lo + 19
  low : -2000000 ≤ f.lo
  high : f.lo ≤ 2000000
def FD (fs : List Fld) : D := .tup (fs.map Fld.d)
theorem atI_last {xs : List D} {d : D} {i : Int} (h : i = xs.length) : atI (xs ++ [d]) i = some d := by
  rw [h]
  have := atN (xs := xs ++ [d]) (k := xs.length) (by simp)
  simpa using this
theorem atI_mid {α : Type} {g : α → D} {pre post : List α} {f : α} {i : Int} (h : i = pre.length) : atI ((pre ++ f :: post).map g) i = some (g f) := by
  rw [h, atN (xs := (pre ++ f :: post).map g) (k := pre.length) (by simp)]
  simp
theorem mid_of {fs pre post : List Fld} {i : Int} (hfs : fs = pre ++ post) (hi : (pre.length : Int) = i) (h : i < fs.length) : ∃ f r, post = f :: r ∧ atI (fs.map Fld.d) i = some f.d := by
  cases post with
  | nil => rw [hfs, List.append_nil] at h; omega
  | cons f r => exact ⟨f, r, rfl, by rw [hfs]; exact atI_mid hi.symm⟩
theorem fd_eq (g : Fld) : g.d = .tup [.str g.n, .int g.lo, .int g.hi] := rfl
theorem ixFD {fs : List Fld} {i : Int} {Q : D → Store → Prop} {tt : Tg Q} : WO Q tt (oIx (FD fs) (.int i) S) = WM (fun d => Q d S) tg (atI (fs.map Fld.d) i) := o_ixT
theorem lenFD {fs : List Fld} {Q : D → Store → Prop} {tt : Tg Q} : WO Q tt (oLen [FD fs] S) = Q (.int fs.length) S := o_lenT.trans (by rw [List.length_map])
def sayF (k : Int) (f : Fld) : List D := (intsTo f.lo (f.hi - f.lo).toNat).map (fun d => D.tup [.int k, .int (-1), d]) ++ (intsTo (f.lo + 1) (f.hi + 1 - (f.lo + 1)).toNat).map (fun d => D.tup [.int k, .int 1, d])
def sayL (k : Nat) : List Fld → List D
  | [] => []
  | f :: r => sayF k f ++ sayL (k + 1) r
theorem sayL_app : ∀ (k : Nat) (a b : List Fld), sayL k (a ++ b) = sayL k a ++ sayL (k + a.length) b
  | k, [], b => by simp [sayL]
  | k, f :: a, b => by
    rw [List.cons_append, sayL, sayL, sayL_app (k + 1) a b, List.append_assoc, List.length_cons, show k + 1 + a.length = k + (a.length + 1) by omega]
theorem sayF_len {k : Int} {f : Fld} (h : f.ok) : (sayF k f).length ≤ 38 := by
  have h1 := h.wide
  unfold sayF
  rw [List.length_append, List.length_map, List.length_map, intsTo_len, intsTo_len]
  omega
theorem sayL_len : ∀ {k : Nat} {fs : List Fld}, (∀ f ∈ fs, f.ok) → (sayL k fs).length ≤ 38 * fs.length
  | _, [], _ => by simp [sayL]
  | k, f :: r, h => by
    rw [sayL, List.length_append, List.length_cons]
    have h1 := sayF_len (k := k) (h f (by simp))
    have h2 := sayL_len (k := k + 1) (fs := r) fun g hg => h g (List.mem_cons_of_mem _ hg)
    omega
structure Sy where
  f : Int
  w : Int
  v : Int
def Sy.d (s : Sy) : D := .tup [.int s.f, .int s.w, .int s.v]
def Sy.con (s : Sy) : Sy := ⟨s.f, -s.w, s.v - s.w⟩
def Sy.ok (s : Sy) : Prop := s.w = 1 ∨ s.w = -1
variable {s : Sy}
theorem mulW {s : Sy} (h : s.ok) (j : Int) : MulOk s.w j := mul1 (by rcases h with h | h <;> rw [h] <;> decide)
/-- it holds at an answer -/
def Sy.h (s : Sy) (a : Int) : Bool := decide (s.w * s.v ≤ s.w * a)
/-- an answer or a blank -/
def Half (y : D) : Prop := y = .non ∨ ∃ i, y = .int i
def Sy.hD (s : Sy) : D → Bool
  | .int a => s.h a
  | _ => false
theorem sayL_mem {fs : List Fld} : ∀ {k : Nat} {y : D}, y ∈ sayL k fs → ∃ s : Sy, y = s.d ∧ s.ok ∧ k ≤ s.f ∧ s.f < k + fs.length := by
  induction fs with
  | nil => intro k y h; simp [sayL] at h
  | cons f r ih =>
    intro k y h
    rw [sayL] at h
    rcases List.mem_append.mp h with h | h
    · unfold sayF at h
      rcases List.mem_append.mp h with h | h
      · obtain ⟨d, hd, rfl⟩ := List.mem_map.mp h
        obtain ⟨i, rfl, _, _⟩ := intsTo_mem hd
        exact ⟨⟨k, -1, i⟩, rfl, .inr rfl, by simp, by simp; omega⟩
      · obtain ⟨d, hd, rfl⟩ := List.mem_map.mp h
        obtain ⟨i, rfl, _, _⟩ := intsTo_mem hd
        exact ⟨⟨k, 1, i⟩, rfl, .inl rfl, by simp, by simp; omega⟩
    · obtain ⟨s, e, h1, h2, h3⟩ := ih h
      exact ⟨s, e, h1, by push_cast at h2; omega, by rw [List.length_cons]; push_cast at h3 ⊢; omega⟩
theorem depL_le {xs : List D} {n : Nat} (h : ∀ y ∈ xs, y.dep ≤ n) : D.depL xs ≤ n := by
  induction xs with
  | nil => simp [D.depL]
  | cons a r ih =>
    rw [D.depL]
    have := h a (by simp)
    have := ih fun y hy => h y (List.mem_cons_of_mem _ hy)
    omega
theorem sayL_pl {fs : List Fld} (hl : fs.length ≤ 12) (hok : ∀ f ∈ fs, f.ok) : (D.tup (sayL 0 fs)).dep < 70 ∧ (D.tup (sayL 0 fs)).pl := by
  constructor
  · rw [D.dep]
    have := depL_le (xs := sayL 0 fs) (n := 1) fun y hy => by
      obtain ⟨s, rfl, _⟩ := sayL_mem hy
      simp [Sy.d, D.dep, D.depL]
    omega
  · rw [D.pl]
    have := sayL_len (k := 0) hok
    refine ⟨by omega, plL_iff.mpr fun y hy => ?_⟩
    obtain ⟨s, rfl, _⟩ := sayL_mem hy
    simp [Sy.d, D.pl, D.plL]
end
end LW

namespace LW
open PySem PySem.Spec PyProof.Rows L2 DL
section
variable {x : XQ} {Q : D → Store → Prop} {tt : Tg (x, Q)} {S : Store} {s t : Sy}
theorem ix_d {i : Int} {Q : D → Store → Prop} {tt : Tg Q} : WO Q tt (oIx s.d (.int i) S) = WM (fun d => Q d S) tg (atI [.int s.f, .int s.w, .int s.v] i) := o_ixT
theorem holdsAt_w {a : Int} (hs : s.ok) : W (x, Q) tt (m_holds_at [s.d, .int a] S) = Q (.bl (s.h a)) S := by
  simp only [↓reduceIte, ↓W_ok, ↓W_exn, ↓W_var0, ↓W_varS, ↓W_K, ↓W_bin, ↓W_un, ↓W_aNil, ↓W_aCons, ↓W_arg, ↓W_call, ↓W_of, ↓WB_test, ↓tc_bl, ↓WB_tru, ↓trc, ↓WB_and, ↓WB_or, ↓WB_not, ↓W_if, ↓W_andV, ↓W_orV, ↓W_notV, ↓WM_some, ↓WM_none, ↓WO_some, ↓tr_bl, ↓tr_non, ↓tr_int, ↓tr_tup, ↓tr_rol, ↓WS_nx, ↓WS_rt, ↓WS_ct, ↓WS_bk, ↓WS_exn, ↓WS_seq, ↓WS_nil, ↓WS_retN, ↓WS_break, ↓WS_cont, ↓WS_expr, ↓WS_ret, ↓WS_if, ↓WS_set, ↓WS_par, ↓WS_asg, ↓WS_gSet, ↓WS_gN, ↓WS_gC, ↓WS_gUn, ↓WS_gSub, ↓WS_aug, ↓o_add, ↓o_iadd, ↓o_sub, ↓o_neg, ↓o_mul, ↓o_mod, ↓o_div, ↓o_pow, ↓o_addT, ↓o_addS, ↓o_addL, ↓o_lt, ↓o_le, ↓o_gt, ↓o_ge, ↓o_eq, ↓o_ne, ↓o_eqS, ↓o_neS, ↓o_eqB, ↓o_neB, ↓o_eqT, ↓o_neT, ↓o_eqN, ↓o_neN, ↓o_ltT, ↓o_leT, ↓o_is, ↓o_isnot, ↓o_isB, ↓o_isnotB, ↓o_inT, ↓o_ninT, ↓o_inL, ↓o_ninL, ↓o_ixT, ↓o_ixR, ↓o_ixL, ↓o_ixS, ↓o_str, ↓o_strS, ↓o_set, ↓o_lenT, ↓o_lenR, ↓o_lenL, ↓o_lenS, ↓o_int, ↓o_intT, ↓o_intF, ↓o_abs, ↓o_max, ↓o_min, ↓o_tuple, ↓o_list, ↓o_tup0, ↓o_tup1, ↓o_tup2, ↓o_tup3, ↓o_tup4, ↓o_tup5, ↓o_tup6, ↓o_lst0, ↓o_lst1, ↓o_lst2, ↓o_lst3, ↓o_lst4, ↓o_lst5, ↓o_lst6, ↓o_sum, ↓W_meth, ↓o_append, ↓o_extend, ↓o_popAt, ↓W_cut, ↓W_noPart, ↓W_part, ↓o_cutT, ↓o_cutR, ↓o_cutL, ↓W_isi, ↓W_ch, ↓WS_for, ↓WI_iter, ↓WI_range1, ↓WI_range2, ↓WI_range3, ↓WI_enum, ↓WS_f0, ↓WS_f1, ↓W_alloc, ↓W_ofL, ↓W_comp, ↓WB_yes, ↓W_c0, ↓W_c1, ↓W_listRg, ↓W_tupRg, ↓W_rRange1, ↓W_rRange2, o_intT, o_intF, o_intB, o_ixL, o_ixT, beq_self_eq_true, decide_true, decide_false, okEq, okCmp, okIn, D.fits, D.fitsL, D.dep, D.depL, D.eqv, D.eqvL, D.alike, D.alikeL, isBl_bl, isN_non, isN_bl, isN_int, isN_str, isN_tup, isN_rol, isN_loc, Nat.reduceAdd, Nat.reduceSub, Nat.max_self, Nat.min_self, Nat.max_zero, Nat.zero_max, Nat.min_zero, Nat.zero_min, ty_non, ty_bl, ty_int, ty_str, ty_tup, ty_rol, ty_loc, kb_bool_bool, kb_bool_int, kb_bool_str, kb_bool_tuple, kb_bool_list, kb_int_bool, kb_int_int, kb_int_str, kb_int_tuple, kb_int_list, kb_str_bool, kb_str_int, kb_str_str, kb_str_tuple, kb_str_list, kb_tuple_bool, kb_tuple_int, kb_tuple_str, kb_tuple_tuple, kb_tuple_list, kb_list_bool, kb_list_int, kb_list_str, kb_list_tuple, kb_list_list, kb_NoneType_bool, kb_NoneType_int, kb_NoneType_str, kb_NoneType_tuple, kb_NoneType_list, Nat.zero_add, c02, lstAt_setE, Option.map_some, lstAt_set_ne, ne_eq, Nat.reduceEqDiff, Nat.one_ne_zero, Nat.zero_ne_one, ix_1_0, ix_2_0, ix_2_1, ix_3_0, ix_3_1, ix_3_2, ix_4_0, ix_4_1, ix_4_2, ix_4_3, ix_5_0, ix_5_1, ix_5_2, ix_5_3, ix_5_4, ix_6_0, ix_6_1, ix_6_2, ix_6_3, ix_6_4, ix_6_5, Nat.reduceLeDiff, Int.reduceAdd, Int.reduceSub, Int.reduceMul, Int.reduceNeg, Int.reducePow, Int.reduceLT, Int.reduceLE, Int.reduceEq, Int.reduceToNat, Bool.and_true, Bool.true_and, Bool.and_self, Bool.and_false, Bool.false_and, Bool.and_eq_true, Bool.and_eq_false_imp, and_self, WS_qdn, WS_qdr, WS_qde, WS_qdb, WS_qdc, qn1, qn2, qn3, qn4, qn5, qk1, qk5, lq1, lq2, lq3, lq4, lq5, intD_int, items_tup, items_rol, items_loc, listOf_loc, listOf_rol, isL_loc, at0, at1, at2, at3, at4, at5, atl1, atl2, atl3, atl4, lstAt_new, it_tup, it_rol, kTup_eq, kLen_eq, wipe0, wipe1, b_nm, List.set_cons_zero, List.set_cons_succ, List.length_cons, List.length_nil, List.nil_append, List.cons_append, List.append_nil, List.isEmpty_cons, List.isEmpty_nil, true_and, and_true, false_and, and_false, true_implies, forall_const, not_true_eq_false, not_false_eq_true, implies_true, decide_eq_true_eq, decide_eq_false_iff_not, Bool.not_eq_true', Bool.not_eq_false', Bool.not_true, Bool.not_false, if_true, if_false, Bool.false_eq_true, Bool.true_eq_false, reduceCtorEq, false_implies, eq_self, wm_holds_at, b_holds_at, ix_d, mulW hs]
  rfl
theorem holdsIn_w {as : List D} {a : D} (hs : s.ok) (ha : Half a) (hat : atI as s.f = some a) : W (x, Q) tt (m_holds_in [s.d, .tup as] S) = Q (.bl (s.hD a)) S := by
  rcases ha with rfl | ⟨i, rfl⟩
  · simp only [↓reduceIte, ↓W_ok, ↓W_exn, ↓W_var0, ↓W_varS, ↓W_K, ↓W_bin, ↓W_un, ↓W_aNil, ↓W_aCons, ↓W_arg, ↓W_call, ↓W_of, ↓WB_test, ↓tc_bl, ↓WB_tru, ↓trc, ↓WB_and, ↓WB_or, ↓WB_not, ↓W_if, ↓W_andV, ↓W_orV, ↓W_notV, ↓WM_some, ↓WM_none, ↓WO_some, ↓tr_bl, ↓tr_non, ↓tr_int, ↓tr_tup, ↓tr_rol, ↓WS_nx, ↓WS_rt, ↓WS_ct, ↓WS_bk, ↓WS_exn, ↓WS_seq, ↓WS_nil, ↓WS_retN, ↓WS_break, ↓WS_cont, ↓WS_expr, ↓WS_ret, ↓WS_if, ↓WS_set, ↓WS_par, ↓WS_asg, ↓WS_gSet, ↓WS_gN, ↓WS_gC, ↓WS_gUn, ↓WS_gSub, ↓WS_aug, ↓o_add, ↓o_iadd, ↓o_sub, ↓o_neg, ↓o_mul, ↓o_mod, ↓o_div, ↓o_pow, ↓o_addT, ↓o_addS, ↓o_addL, ↓o_lt, ↓o_le, ↓o_gt, ↓o_ge, ↓o_eq, ↓o_ne, ↓o_eqS, ↓o_neS, ↓o_eqB, ↓o_neB, ↓o_eqT, ↓o_neT, ↓o_eqN, ↓o_neN, ↓o_ltT, ↓o_leT, ↓o_is, ↓o_isnot, ↓o_isB, ↓o_isnotB, ↓o_inT, ↓o_ninT, ↓o_inL, ↓o_ninL, ↓o_ixT, ↓o_ixR, ↓o_ixL, ↓o_ixS, ↓o_str, ↓o_strS, ↓o_set, ↓o_lenT, ↓o_lenR, ↓o_lenL, ↓o_lenS, ↓o_int, ↓o_intT, ↓o_intF, ↓o_abs, ↓o_max, ↓o_min, ↓o_tuple, ↓o_list, ↓o_tup0, ↓o_tup1, ↓o_tup2, ↓o_tup3, ↓o_tup4, ↓o_tup5, ↓o_tup6, ↓o_lst0, ↓o_lst1, ↓o_lst2, ↓o_lst3, ↓o_lst4, ↓o_lst5, ↓o_lst6, ↓o_sum, ↓W_meth, ↓o_append, ↓o_extend, ↓o_popAt, ↓W_cut, ↓W_noPart, ↓W_part, ↓o_cutT, ↓o_cutR, ↓o_cutL, ↓W_isi, ↓W_ch, ↓WS_for, ↓WI_iter, ↓WI_range1, ↓WI_range2, ↓WI_range3, ↓WI_enum, ↓WS_f0, ↓WS_f1, ↓W_alloc, ↓W_ofL, ↓W_comp, ↓WB_yes, ↓W_c0, ↓W_c1, ↓W_listRg, ↓W_tupRg, ↓W_rRange1, ↓W_rRange2, o_intT, o_intF, o_intB, o_ixL, o_ixT, beq_self_eq_true, decide_true, decide_false, okEq, okCmp, okIn, D.fits, D.fitsL, D.dep, D.depL, D.eqv, D.eqvL, D.alike, D.alikeL, isBl_bl, isN_non, isN_bl, isN_int, isN_str, isN_tup, isN_rol, isN_loc, Nat.reduceAdd, Nat.reduceSub, Nat.max_self, Nat.min_self, Nat.max_zero, Nat.zero_max, Nat.min_zero, Nat.zero_min, ty_non, ty_bl, ty_int, ty_str, ty_tup, ty_rol, ty_loc, kb_bool_bool, kb_bool_int, kb_bool_str, kb_bool_tuple, kb_bool_list, kb_int_bool, kb_int_int, kb_int_str, kb_int_tuple, kb_int_list, kb_str_bool, kb_str_int, kb_str_str, kb_str_tuple, kb_str_list, kb_tuple_bool, kb_tuple_int, kb_tuple_str, kb_tuple_tuple, kb_tuple_list, kb_list_bool, kb_list_int, kb_list_str, kb_list_tuple, kb_list_list, kb_NoneType_bool, kb_NoneType_int, kb_NoneType_str, kb_NoneType_tuple, kb_NoneType_list, Nat.zero_add, c02, lstAt_setE, Option.map_some, lstAt_set_ne, ne_eq, Nat.reduceEqDiff, Nat.one_ne_zero, Nat.zero_ne_one, ix_1_0, ix_2_0, ix_2_1, ix_3_0, ix_3_1, ix_3_2, ix_4_0, ix_4_1, ix_4_2, ix_4_3, ix_5_0, ix_5_1, ix_5_2, ix_5_3, ix_5_4, ix_6_0, ix_6_1, ix_6_2, ix_6_3, ix_6_4, ix_6_5, Nat.reduceLeDiff, Int.reduceAdd, Int.reduceSub, Int.reduceMul, Int.reduceNeg, Int.reducePow, Int.reduceLT, Int.reduceLE, Int.reduceEq, Int.reduceToNat, Bool.and_true, Bool.true_and, Bool.and_self, Bool.and_false, Bool.false_and, Bool.and_eq_true, Bool.and_eq_false_imp, and_self, WS_qdn, WS_qdr, WS_qde, WS_qdb, WS_qdc, qn1, qn2, qn3, qn4, qn5, qk1, qk5, lq1, lq2, lq3, lq4, lq5, intD_int, items_tup, items_rol, items_loc, listOf_loc, listOf_rol, isL_loc, at0, at1, at2, at3, at4, at5, atl1, atl2, atl3, atl4, lstAt_new, it_tup, it_rol, kTup_eq, kLen_eq, wipe0, wipe1, b_nm, List.set_cons_zero, List.set_cons_succ, List.length_cons, List.length_nil, List.nil_append, List.cons_append, List.append_nil, List.isEmpty_cons, List.isEmpty_nil, true_and, and_true, false_and, and_false, true_implies, forall_const, not_true_eq_false, not_false_eq_true, implies_true, decide_eq_true_eq, decide_eq_false_iff_not, Bool.not_eq_true', Bool.not_eq_false', Bool.not_true, Bool.not_false, if_true, if_false, Bool.false_eq_true, Bool.true_eq_false, reduceCtorEq, false_implies, eq_self, wm_holds_in, b_holds_in, ix_d, hat]
    rfl
  · simp only [↓reduceIte, ↓W_ok, ↓W_exn, ↓W_var0, ↓W_varS, ↓W_K, ↓W_bin, ↓W_un, ↓W_aNil, ↓W_aCons, ↓W_arg, ↓W_call, ↓W_of, ↓WB_test, ↓tc_bl, ↓WB_tru, ↓trc, ↓WB_and, ↓WB_or, ↓WB_not, ↓W_if, ↓W_andV, ↓W_orV, ↓W_notV, ↓WM_some, ↓WM_none, ↓WO_some, ↓tr_bl, ↓tr_non, ↓tr_int, ↓tr_tup, ↓tr_rol, ↓WS_nx, ↓WS_rt, ↓WS_ct, ↓WS_bk, ↓WS_exn, ↓WS_seq, ↓WS_nil, ↓WS_retN, ↓WS_break, ↓WS_cont, ↓WS_expr, ↓WS_ret, ↓WS_if, ↓WS_set, ↓WS_par, ↓WS_asg, ↓WS_gSet, ↓WS_gN, ↓WS_gC, ↓WS_gUn, ↓WS_gSub, ↓WS_aug, ↓o_add, ↓o_iadd, ↓o_sub, ↓o_neg, ↓o_mul, ↓o_mod, ↓o_div, ↓o_pow, ↓o_addT, ↓o_addS, ↓o_addL, ↓o_lt, ↓o_le, ↓o_gt, ↓o_ge, ↓o_eq, ↓o_ne, ↓o_eqS, ↓o_neS, ↓o_eqB, ↓o_neB, ↓o_eqT, ↓o_neT, ↓o_eqN, ↓o_neN, ↓o_ltT, ↓o_leT, ↓o_is, ↓o_isnot, ↓o_isB, ↓o_isnotB, ↓o_inT, ↓o_ninT, ↓o_inL, ↓o_ninL, ↓o_ixT, ↓o_ixR, ↓o_ixL, ↓o_ixS, ↓o_str, ↓o_strS, ↓o_set, ↓o_lenT, ↓o_lenR, ↓o_lenL, ↓o_lenS, ↓o_int, ↓o_intT, ↓o_intF, ↓o_abs, ↓o_max, ↓o_min, ↓o_tuple, ↓o_list, ↓o_tup0, ↓o_tup1, ↓o_tup2, ↓o_tup3, ↓o_tup4, ↓o_tup5, ↓o_tup6, ↓o_lst0, ↓o_lst1, ↓o_lst2, ↓o_lst3, ↓o_lst4, ↓o_lst5, ↓o_lst6, ↓o_sum, ↓W_meth, ↓o_append, ↓o_extend, ↓o_popAt, ↓W_cut, ↓W_noPart, ↓W_part, ↓o_cutT, ↓o_cutR, ↓o_cutL, ↓W_isi, ↓W_ch, ↓WS_for, ↓WI_iter, ↓WI_range1, ↓WI_range2, ↓WI_range3, ↓WI_enum, ↓WS_f0, ↓WS_f1, ↓W_alloc, ↓W_ofL, ↓W_comp, ↓WB_yes, ↓W_c0, ↓W_c1, ↓W_listRg, ↓W_tupRg, ↓W_rRange1, ↓W_rRange2, o_intT, o_intF, o_intB, o_ixL, o_ixT, beq_self_eq_true, decide_true, decide_false, okEq, okCmp, okIn, D.fits, D.fitsL, D.dep, D.depL, D.eqv, D.eqvL, D.alike, D.alikeL, isBl_bl, isN_non, isN_bl, isN_int, isN_str, isN_tup, isN_rol, isN_loc, Nat.reduceAdd, Nat.reduceSub, Nat.max_self, Nat.min_self, Nat.max_zero, Nat.zero_max, Nat.min_zero, Nat.zero_min, ty_non, ty_bl, ty_int, ty_str, ty_tup, ty_rol, ty_loc, kb_bool_bool, kb_bool_int, kb_bool_str, kb_bool_tuple, kb_bool_list, kb_int_bool, kb_int_int, kb_int_str, kb_int_tuple, kb_int_list, kb_str_bool, kb_str_int, kb_str_str, kb_str_tuple, kb_str_list, kb_tuple_bool, kb_tuple_int, kb_tuple_str, kb_tuple_tuple, kb_tuple_list, kb_list_bool, kb_list_int, kb_list_str, kb_list_tuple, kb_list_list, kb_NoneType_bool, kb_NoneType_int, kb_NoneType_str, kb_NoneType_tuple, kb_NoneType_list, Nat.zero_add, c02, lstAt_setE, Option.map_some, lstAt_set_ne, ne_eq, Nat.reduceEqDiff, Nat.one_ne_zero, Nat.zero_ne_one, ix_1_0, ix_2_0, ix_2_1, ix_3_0, ix_3_1, ix_3_2, ix_4_0, ix_4_1, ix_4_2, ix_4_3, ix_5_0, ix_5_1, ix_5_2, ix_5_3, ix_5_4, ix_6_0, ix_6_1, ix_6_2, ix_6_3, ix_6_4, ix_6_5, Nat.reduceLeDiff, Int.reduceAdd, Int.reduceSub, Int.reduceMul, Int.reduceNeg, Int.reducePow, Int.reduceLT, Int.reduceLE, Int.reduceEq, Int.reduceToNat, Bool.and_true, Bool.true_and, Bool.and_self, Bool.and_false, Bool.false_and, Bool.and_eq_true, Bool.and_eq_false_imp, and_self, WS_qdn, WS_qdr, WS_qde, WS_qdb, WS_qdc, qn1, qn2, qn3, qn4, qn5, qk1, qk5, lq1, lq2, lq3, lq4, lq5, intD_int, items_tup, items_rol, items_loc, listOf_loc, listOf_rol, isL_loc, at0, at1, at2, at3, at4, at5, atl1, atl2, atl3, atl4, lstAt_new, it_tup, it_rol, kTup_eq, kLen_eq, wipe0, wipe1, b_nm, List.set_cons_zero, List.set_cons_succ, List.length_cons, List.length_nil, List.nil_append, List.cons_append, List.append_nil, List.isEmpty_cons, List.isEmpty_nil, true_and, and_true, false_and, and_false, true_implies, forall_const, not_true_eq_false, not_false_eq_true, implies_true, decide_eq_true_eq, decide_eq_false_iff_not, Bool.not_eq_true', Bool.not_eq_false', Bool.not_true, Bool.not_false, if_true, if_false, Bool.false_eq_true, Bool.true_eq_false, reduceCtorEq, false_implies, eq_self, wm_holds_in, b_holds_in, ix_d, hat, holdsAt_w hs]
    rfl
theorem holdsL_w {a : Int} (hs : s.ok) : W (x, Q) tt (m__law_holds [s.d, .int a] S) = Q (.bl (s.h a)) S := by
  have hm : MulOk (a - s.v) s.w := mul2 (by rcases hs with h | h <;> rw [h] <;> decide)
  simp only [↓reduceIte, ↓W_ok, ↓W_exn, ↓W_var0, ↓W_varS, ↓W_K, ↓W_bin, ↓W_un, ↓W_aNil, ↓W_aCons, ↓W_arg, ↓W_call, ↓W_of, ↓WB_test, ↓tc_bl, ↓WB_tru, ↓trc, ↓WB_and, ↓WB_or, ↓WB_not, ↓W_if, ↓W_andV, ↓W_orV, ↓W_notV, ↓WM_some, ↓WM_none, ↓WO_some, ↓tr_bl, ↓tr_non, ↓tr_int, ↓tr_tup, ↓tr_rol, ↓WS_nx, ↓WS_rt, ↓WS_ct, ↓WS_bk, ↓WS_exn, ↓WS_seq, ↓WS_nil, ↓WS_retN, ↓WS_break, ↓WS_cont, ↓WS_expr, ↓WS_ret, ↓WS_if, ↓WS_set, ↓WS_par, ↓WS_asg, ↓WS_gSet, ↓WS_gN, ↓WS_gC, ↓WS_gUn, ↓WS_gSub, ↓WS_aug, ↓o_add, ↓o_iadd, ↓o_sub, ↓o_neg, ↓o_mul, ↓o_mod, ↓o_div, ↓o_pow, ↓o_addT, ↓o_addS, ↓o_addL, ↓o_lt, ↓o_le, ↓o_gt, ↓o_ge, ↓o_eq, ↓o_ne, ↓o_eqS, ↓o_neS, ↓o_eqB, ↓o_neB, ↓o_eqT, ↓o_neT, ↓o_eqN, ↓o_neN, ↓o_ltT, ↓o_leT, ↓o_is, ↓o_isnot, ↓o_isB, ↓o_isnotB, ↓o_inT, ↓o_ninT, ↓o_inL, ↓o_ninL, ↓o_ixT, ↓o_ixR, ↓o_ixL, ↓o_ixS, ↓o_str, ↓o_strS, ↓o_set, ↓o_lenT, ↓o_lenR, ↓o_lenL, ↓o_lenS, ↓o_int, ↓o_intT, ↓o_intF, ↓o_abs, ↓o_max, ↓o_min, ↓o_tuple, ↓o_list, ↓o_tup0, ↓o_tup1, ↓o_tup2, ↓o_tup3, ↓o_tup4, ↓o_tup5, ↓o_tup6, ↓o_lst0, ↓o_lst1, ↓o_lst2, ↓o_lst3, ↓o_lst4, ↓o_lst5, ↓o_lst6, ↓o_sum, ↓W_meth, ↓o_append, ↓o_extend, ↓o_popAt, ↓W_cut, ↓W_noPart, ↓W_part, ↓o_cutT, ↓o_cutR, ↓o_cutL, ↓W_isi, ↓W_ch, ↓WS_for, ↓WI_iter, ↓WI_range1, ↓WI_range2, ↓WI_range3, ↓WI_enum, ↓WS_f0, ↓WS_f1, ↓W_alloc, ↓W_ofL, ↓W_comp, ↓WB_yes, ↓W_c0, ↓W_c1, ↓W_listRg, ↓W_tupRg, ↓W_rRange1, ↓W_rRange2, o_intT, o_intF, o_intB, o_ixL, o_ixT, beq_self_eq_true, decide_true, decide_false, okEq, okCmp, okIn, D.fits, D.fitsL, D.dep, D.depL, D.eqv, D.eqvL, D.alike, D.alikeL, isBl_bl, isN_non, isN_bl, isN_int, isN_str, isN_tup, isN_rol, isN_loc, Nat.reduceAdd, Nat.reduceSub, Nat.max_self, Nat.min_self, Nat.max_zero, Nat.zero_max, Nat.min_zero, Nat.zero_min, ty_non, ty_bl, ty_int, ty_str, ty_tup, ty_rol, ty_loc, kb_bool_bool, kb_bool_int, kb_bool_str, kb_bool_tuple, kb_bool_list, kb_int_bool, kb_int_int, kb_int_str, kb_int_tuple, kb_int_list, kb_str_bool, kb_str_int, kb_str_str, kb_str_tuple, kb_str_list, kb_tuple_bool, kb_tuple_int, kb_tuple_str, kb_tuple_tuple, kb_tuple_list, kb_list_bool, kb_list_int, kb_list_str, kb_list_tuple, kb_list_list, kb_NoneType_bool, kb_NoneType_int, kb_NoneType_str, kb_NoneType_tuple, kb_NoneType_list, Nat.zero_add, c02, lstAt_setE, Option.map_some, lstAt_set_ne, ne_eq, Nat.reduceEqDiff, Nat.one_ne_zero, Nat.zero_ne_one, ix_1_0, ix_2_0, ix_2_1, ix_3_0, ix_3_1, ix_3_2, ix_4_0, ix_4_1, ix_4_2, ix_4_3, ix_5_0, ix_5_1, ix_5_2, ix_5_3, ix_5_4, ix_6_0, ix_6_1, ix_6_2, ix_6_3, ix_6_4, ix_6_5, Nat.reduceLeDiff, Int.reduceAdd, Int.reduceSub, Int.reduceMul, Int.reduceNeg, Int.reducePow, Int.reduceLT, Int.reduceLE, Int.reduceEq, Int.reduceToNat, Bool.and_true, Bool.true_and, Bool.and_self, Bool.and_false, Bool.false_and, Bool.and_eq_true, Bool.and_eq_false_imp, and_self, WS_qdn, WS_qdr, WS_qde, WS_qdb, WS_qdc, qn1, qn2, qn3, qn4, qn5, qk1, qk5, lq1, lq2, lq3, lq4, lq5, intD_int, items_tup, items_rol, items_loc, listOf_loc, listOf_rol, isL_loc, at0, at1, at2, at3, at4, at5, atl1, atl2, atl3, atl4, lstAt_new, it_tup, it_rol, kTup_eq, kLen_eq, wipe0, wipe1, b_nm, List.set_cons_zero, List.set_cons_succ, List.length_cons, List.length_nil, List.nil_append, List.cons_append, List.append_nil, List.isEmpty_cons, List.isEmpty_nil, true_and, and_true, false_and, and_false, true_implies, forall_const, not_true_eq_false, not_false_eq_true, implies_true, decide_eq_true_eq, decide_eq_false_iff_not, Bool.not_eq_true', Bool.not_eq_false', Bool.not_true, Bool.not_false, if_true, if_false, Bool.false_eq_true, Bool.true_eq_false, reduceCtorEq, false_implies, eq_self, wm__law_holds, b__law_holds, ix_d, hm]
  unfold Sy.h
  have e : decide (0 ≤ (a - s.v) * s.w) = decide (s.w * s.v ≤ s.w * a) := by
    rw [decide_eq_decide]
    rcases hs with h | h <;> rw [h] <;> omega
  rw [e]
/-- a saying is kept at a sheet: a blank, or it holds -/
def kD (s : Sy) : D → Bool
  | .non => true
  | a => s.hD a
def getD (as : List D) (i : Int) : D := as.getD i.toNat .non
def kp (as : List D) (s : Sy) : Bool := kD s (getD as s.f)
theorem at_getD {as : List D} {i : Int} (h0 : 0 ≤ i) (h1 : i < as.length) : atI as i = some (getD as i) := by
  obtain ⟨d, e1, e2⟩ := atI_of h0 h1
  rw [e2]
  unfold getD
  rw [List.getD_eq_getElem?_getD, e1]; rfl
/-- its field is one of the sheet's -/
def Sy.at_ (s : Sy) (n : Nat) : Prop := s.ok ∧ 0 ≤ s.f ∧ s.f < n
theorem half_get {as : List D} {i : Int} (h0 : 0 ≤ i) (h1 : i < as.length) (h : ∀ y ∈ as, Half y) : Half (getD as i) := by
  obtain ⟨d, e1, e2⟩ := atI_of h0 h1
  have := at_getD h0 h1
  rw [e2] at this
  cases this
  exact h _ (List.mem_of_getElem? e1)
def rl (s t : Sy) : D := .tup [s.d, t.d]
theorem it_r : itOf S (rl s t) = some (none, [s.d, t.d]) := rfl
/-- a rule is broken -/
def brk (as : List D) (s t : Sy) : Bool := !kp as s && !kp as t
theorem breaks_w {as : List D} (hs : s.at_ as.length) (ht : t.at_ as.length) (h : ∀ y ∈ as, Half y) : W (x, Q) tt (m_breaks_rule [rl s t, .tup as] S) = Q (.bl (brk as s t)) S := by
  have ea1 := at_getD hs.2.1 hs.2.2
  have ea2 := at_getD ht.2.1 ht.2.2
  have hh := half_get hs.2.1 hs.2.2 h
  have hk := half_get ht.2.1 ht.2.2 h
  unfold brk kp
  generalize getD as s.f = a at *
  generalize getD as t.f = b at *
  have w1 := fun {x : XQ} {Q : D → Store → Prop} {tt : Tg (x, Q)} {S : Store} => holdsIn_w (x := x) (Q := Q) (tt := tt) (S := S) hs.1 hh ea1
  have w2 := fun {x : XQ} {Q : D → Store → Prop} {tt : Tg (x, Q)} {S : Store} => holdsIn_w (x := x) (Q := Q) (tt := tt) (S := S) ht.1 hk ea2
  simp only [↓reduceIte, ↓W_ok, ↓W_exn, ↓W_var0, ↓W_varS, ↓W_K, ↓W_bin, ↓W_un, ↓W_aNil, ↓W_aCons, ↓W_arg, ↓W_call, ↓W_of, ↓WB_test, ↓tc_bl, ↓WB_tru, ↓trc, ↓WB_and, ↓WB_or, ↓WB_not, ↓W_if, ↓W_andV, ↓W_orV, ↓W_notV, ↓WM_some, ↓WM_none, ↓WO_some, ↓tr_bl, ↓tr_non, ↓tr_int, ↓tr_tup, ↓tr_rol, ↓WS_nx, ↓WS_rt, ↓WS_ct, ↓WS_bk, ↓WS_exn, ↓WS_seq, ↓WS_nil, ↓WS_retN, ↓WS_break, ↓WS_cont, ↓WS_expr, ↓WS_ret, ↓WS_if, ↓WS_set, ↓WS_par, ↓WS_asg, ↓WS_gSet, ↓WS_gN, ↓WS_gC, ↓WS_gUn, ↓WS_gSub, ↓WS_aug, ↓o_add, ↓o_iadd, ↓o_sub, ↓o_neg, ↓o_mul, ↓o_mod, ↓o_div, ↓o_pow, ↓o_addT, ↓o_addS, ↓o_addL, ↓o_lt, ↓o_le, ↓o_gt, ↓o_ge, ↓o_eq, ↓o_ne, ↓o_eqS, ↓o_neS, ↓o_eqB, ↓o_neB, ↓o_eqT, ↓o_neT, ↓o_eqN, ↓o_neN, ↓o_ltT, ↓o_leT, ↓o_is, ↓o_isnot, ↓o_isB, ↓o_isnotB, ↓o_inT, ↓o_ninT, ↓o_inL, ↓o_ninL, ↓o_ixT, ↓o_ixR, ↓o_ixL, ↓o_ixS, ↓o_str, ↓o_strS, ↓o_set, ↓o_lenT, ↓o_lenR, ↓o_lenL, ↓o_lenS, ↓o_int, ↓o_intT, ↓o_intF, ↓o_abs, ↓o_max, ↓o_min, ↓o_tuple, ↓o_list, ↓o_tup0, ↓o_tup1, ↓o_tup2, ↓o_tup3, ↓o_tup4, ↓o_tup5, ↓o_tup6, ↓o_lst0, ↓o_lst1, ↓o_lst2, ↓o_lst3, ↓o_lst4, ↓o_lst5, ↓o_lst6, ↓o_sum, ↓W_meth, ↓o_append, ↓o_extend, ↓o_popAt, ↓W_cut, ↓W_noPart, ↓W_part, ↓o_cutT, ↓o_cutR, ↓o_cutL, ↓W_isi, ↓W_ch, ↓WS_for, ↓WI_iter, ↓WI_range1, ↓WI_range2, ↓WI_range3, ↓WI_enum, ↓WS_f0, ↓WS_f1, ↓W_alloc, ↓W_ofL, ↓W_comp, ↓WB_yes, ↓W_c0, ↓W_c1, ↓W_listRg, ↓W_tupRg, ↓W_rRange1, ↓W_rRange2, o_intT, o_intF, o_intB, o_ixL, o_ixT, beq_self_eq_true, decide_true, decide_false, okEq, okCmp, okIn, D.fits, D.fitsL, D.dep, D.depL, D.eqv, D.eqvL, D.alike, D.alikeL, isBl_bl, isN_non, isN_bl, isN_int, isN_str, isN_tup, isN_rol, isN_loc, Nat.reduceAdd, Nat.reduceSub, Nat.max_self, Nat.min_self, Nat.max_zero, Nat.zero_max, Nat.min_zero, Nat.zero_min, ty_non, ty_bl, ty_int, ty_str, ty_tup, ty_rol, ty_loc, kb_bool_bool, kb_bool_int, kb_bool_str, kb_bool_tuple, kb_bool_list, kb_int_bool, kb_int_int, kb_int_str, kb_int_tuple, kb_int_list, kb_str_bool, kb_str_int, kb_str_str, kb_str_tuple, kb_str_list, kb_tuple_bool, kb_tuple_int, kb_tuple_str, kb_tuple_tuple, kb_tuple_list, kb_list_bool, kb_list_int, kb_list_str, kb_list_tuple, kb_list_list, kb_NoneType_bool, kb_NoneType_int, kb_NoneType_str, kb_NoneType_tuple, kb_NoneType_list, Nat.zero_add, c02, lstAt_setE, Option.map_some, lstAt_set_ne, ne_eq, Nat.reduceEqDiff, Nat.one_ne_zero, Nat.zero_ne_one, ix_1_0, ix_2_0, ix_2_1, ix_3_0, ix_3_1, ix_3_2, ix_4_0, ix_4_1, ix_4_2, ix_4_3, ix_5_0, ix_5_1, ix_5_2, ix_5_3, ix_5_4, ix_6_0, ix_6_1, ix_6_2, ix_6_3, ix_6_4, ix_6_5, Nat.reduceLeDiff, Int.reduceAdd, Int.reduceSub, Int.reduceMul, Int.reduceNeg, Int.reducePow, Int.reduceLT, Int.reduceLE, Int.reduceEq, Int.reduceToNat, Bool.and_true, Bool.true_and, Bool.and_self, Bool.and_false, Bool.false_and, Bool.and_eq_true, Bool.and_eq_false_imp, and_self, WS_qdn, WS_qdr, WS_qde, WS_qdb, WS_qdc, qn1, qn2, qn3, qn4, qn5, qk1, qk5, lq1, lq2, lq3, lq4, lq5, intD_int, items_tup, items_rol, items_loc, listOf_loc, listOf_rol, isL_loc, at0, at1, at2, at3, at4, at5, atl1, atl2, atl3, atl4, lstAt_new, it_tup, it_rol, kTup_eq, kLen_eq, wipe0, wipe1, b_nm, List.set_cons_zero, List.set_cons_succ, List.length_cons, List.length_nil, List.nil_append, List.cons_append, List.append_nil, List.isEmpty_cons, List.isEmpty_nil, true_and, and_true, false_and, and_false, true_implies, forall_const, not_true_eq_false, not_false_eq_true, implies_true, decide_eq_true_eq, decide_eq_false_iff_not, Bool.not_eq_true', Bool.not_eq_false', Bool.not_true, Bool.not_false, if_true, if_false, Bool.false_eq_true, Bool.true_eq_false, reduceCtorEq, false_implies, eq_self, wm_breaks_rule, b_breaks_rule, it_r, ix_d, ea1, ea2, w1, w2]
  rcases hh with rfl | ⟨i, rfl⟩ <;> rcases hk with rfl | ⟨j, rfl⟩ <;> simp only [isNon, kD, Bool.not_true, Bool.false_and, Bool.and_false]
  · simp
  · simp
  · cases s.hD (.int i) <;> simp
  · cases s.hD (.int i) <;> cases t.hD (.int j) <;> simp
/-- the numbers of the broken rules -/
def brkL (as : List D) : Nat → List (Sy × Sy) → List D
  | _, [] => []
  | k, r :: rs => if brk as r.1 r.2 = true then .int k :: brkL as (k + 1) rs else brkL as (k + 1) rs
def rp (r : Sy × Sy) : D := rl r.1 r.2
def RsOk (rs : List (Sy × Sy)) (n : Nat) : Prop := ∀ r ∈ rs, r.1.at_ n ∧ r.2.at_ n
def unS (d : D) : Sy := match d with
  | .tup [.int f, .int w, .int v] => ⟨f, w, v⟩
  | _ => ⟨0, 0, 0⟩
theorem unS_d : unS s.d = s := rfl
def tB (as : List D) (d : D) : Bool := match d with
  | .tup [_, .tup [a, b]] => brk as (unS a) (unS b)
  | _ => false
def gB (d : D) : D := match d with
  | .tup [k, _] => k
  | _ => .non
theorem brk_filter (as : List D) : ∀ (rs : List (Sy × Sy)) (k : Nat), ((DL.numbered k (rs.map rp)).filter (tB as)).map gB = brkL as k rs
  | [], _ => rfl
  | r :: rs, k => by
    rw [List.map_cons, DL.numbered, brkL, ← brk_filter as rs (k + 1)]
    have e : tB as (.tup [.int (k : Nat), rp r]) = brk as r.1 r.2 := rfl
    by_cases h : brk as r.1 r.2 = true
    · rw [List.filter_cons_of_pos (by rw [e]; exact h), if_pos h, List.map_cons]; rfl
    · rw [List.filter_cons_of_neg (by rw [e]; exact h), if_neg h]
theorem numbered_mem {xs : List D} : ∀ {k : Nat} {d : D}, d ∈ DL.numbered k xs → ∃ j y, d = .tup [.int (j : Nat), y] ∧ y ∈ xs := by
  induction xs with
  | nil => intro k d h; cases h
  | cons a r ih =>
    intro k d h
    rw [DL.numbered] at h
    rcases List.mem_cons.mp h with rfl | h
    · exact ⟨k, a, rfl, by simp⟩
    · obtain ⟨j, y, e, hy⟩ := ih h
      exact ⟨j, y, e, List.mem_cons_of_mem _ hy⟩
theorem broken_w {fs : List Fld} {rs : List (Sy × Sy)} {as : List D} (hr : RsOk rs as.length) (hl : rs.length ≤ 1000) (h : ∀ y ∈ as, Half y) (hq : Q (.tup (brkL as 0 rs)) S) : W (x, Q) tt (m_broken_rules [.tup [FD fs, .tup (rs.map rp)], .tup as] S) := by
  have key : ∀ (QL : List D → Store → Prop) (tt : Tg (x, QL)) (σ : Sg), σ = [some (.tup [FD fs, .tup (rs.map rp)]), some (.tup as), none, none] → (QL (brkL as 0 rs) S → W (x, QL) tt (compL none (.un [(.nm 2), (.nm 3)]) (cTru (cCall m_breaks_rule (aCons (cVar 3) (aCons (cVar 1) aNil)))) (cVar 2) (DL.numbered 0 (rs.map rp)) [] σ S)) := by
    intro QL tt σ hσ hq
    subst hσ
    refine W_cFilt (tB as) gB trivial (by rw [numbered_length, List.length_map, sizeLine_eq]; simp; omega) (fun d hd => ?_) (by rw [List.nil_append, brk_filter]; exact hq)
    obtain ⟨j, y, rfl, hy⟩ := numbered_mem hd
    obtain ⟨r, hrm, rfl⟩ := List.mem_map.mp hy
    obtain ⟨h1, h2⟩ := hr r hrm
    have e : tB as (.tup [.int (j : Nat), rp r]) = brk as r.1 r.2 := rfl
    have c : ∀ {x : XQ} {Q : D → Store → Prop} {tt : Tg (x, Q)} {S : Store}, W (x, Q) tt (m_breaks_rule [rp r, .tup as] S) = Q (.bl (brk as r.1 r.2)) S := breaks_w h1 h2 h
    simp only [Pat.bind, Pat.bindL, items_tup]
    simp only [↓reduceIte, ↓W_ok, ↓W_exn, ↓W_var0, ↓W_varS, ↓W_K, ↓W_bin, ↓W_un, ↓W_aNil, ↓W_aCons, ↓W_arg, ↓W_call, ↓W_of, ↓WB_test, ↓tc_bl, ↓WB_tru, ↓trc, ↓WB_and, ↓WB_or, ↓WB_not, ↓W_if, ↓W_andV, ↓W_orV, ↓W_notV, ↓WM_some, ↓WM_none, ↓WO_some, ↓tr_bl, ↓tr_non, ↓tr_int, ↓tr_tup, ↓tr_rol, ↓WS_nx, ↓WS_rt, ↓WS_ct, ↓WS_bk, ↓WS_exn, ↓WS_seq, ↓WS_nil, ↓WS_retN, ↓WS_break, ↓WS_cont, ↓WS_expr, ↓WS_ret, ↓WS_if, ↓WS_set, ↓WS_par, ↓WS_asg, ↓WS_gSet, ↓WS_gN, ↓WS_gC, ↓WS_gUn, ↓WS_gSub, ↓WS_aug, ↓o_add, ↓o_iadd, ↓o_sub, ↓o_neg, ↓o_mul, ↓o_mod, ↓o_div, ↓o_pow, ↓o_addT, ↓o_addS, ↓o_addL, ↓o_lt, ↓o_le, ↓o_gt, ↓o_ge, ↓o_eq, ↓o_ne, ↓o_eqS, ↓o_neS, ↓o_eqB, ↓o_neB, ↓o_eqT, ↓o_neT, ↓o_eqN, ↓o_neN, ↓o_ltT, ↓o_leT, ↓o_is, ↓o_isnot, ↓o_isB, ↓o_isnotB, ↓o_inT, ↓o_ninT, ↓o_inL, ↓o_ninL, ↓o_ixT, ↓o_ixR, ↓o_ixL, ↓o_ixS, ↓o_str, ↓o_strS, ↓o_set, ↓o_lenT, ↓o_lenR, ↓o_lenL, ↓o_lenS, ↓o_int, ↓o_intT, ↓o_intF, ↓o_abs, ↓o_max, ↓o_min, ↓o_tuple, ↓o_list, ↓o_tup0, ↓o_tup1, ↓o_tup2, ↓o_tup3, ↓o_tup4, ↓o_tup5, ↓o_tup6, ↓o_lst0, ↓o_lst1, ↓o_lst2, ↓o_lst3, ↓o_lst4, ↓o_lst5, ↓o_lst6, ↓o_sum, ↓W_meth, ↓o_append, ↓o_extend, ↓o_popAt, ↓W_cut, ↓W_noPart, ↓W_part, ↓o_cutT, ↓o_cutR, ↓o_cutL, ↓W_isi, ↓W_ch, ↓WS_for, ↓WI_iter, ↓WI_range1, ↓WI_range2, ↓WI_range3, ↓WI_enum, ↓WS_f0, ↓WS_f1, ↓W_alloc, ↓W_ofL, ↓W_comp, ↓WB_yes, ↓W_c0, ↓W_c1, ↓W_listRg, ↓W_tupRg, ↓W_rRange1, ↓W_rRange2, o_intT, o_intF, o_intB, o_ixL, o_ixT, beq_self_eq_true, decide_true, decide_false, okEq, okCmp, okIn, D.fits, D.fitsL, D.dep, D.depL, D.eqv, D.eqvL, D.alike, D.alikeL, isBl_bl, isN_non, isN_bl, isN_int, isN_str, isN_tup, isN_rol, isN_loc, Nat.reduceAdd, Nat.reduceSub, Nat.max_self, Nat.min_self, Nat.max_zero, Nat.zero_max, Nat.min_zero, Nat.zero_min, ty_non, ty_bl, ty_int, ty_str, ty_tup, ty_rol, ty_loc, kb_bool_bool, kb_bool_int, kb_bool_str, kb_bool_tuple, kb_bool_list, kb_int_bool, kb_int_int, kb_int_str, kb_int_tuple, kb_int_list, kb_str_bool, kb_str_int, kb_str_str, kb_str_tuple, kb_str_list, kb_tuple_bool, kb_tuple_int, kb_tuple_str, kb_tuple_tuple, kb_tuple_list, kb_list_bool, kb_list_int, kb_list_str, kb_list_tuple, kb_list_list, kb_NoneType_bool, kb_NoneType_int, kb_NoneType_str, kb_NoneType_tuple, kb_NoneType_list, Nat.zero_add, c02, lstAt_setE, Option.map_some, lstAt_set_ne, ne_eq, Nat.reduceEqDiff, Nat.one_ne_zero, Nat.zero_ne_one, ix_1_0, ix_2_0, ix_2_1, ix_3_0, ix_3_1, ix_3_2, ix_4_0, ix_4_1, ix_4_2, ix_4_3, ix_5_0, ix_5_1, ix_5_2, ix_5_3, ix_5_4, ix_6_0, ix_6_1, ix_6_2, ix_6_3, ix_6_4, ix_6_5, Nat.reduceLeDiff, Int.reduceAdd, Int.reduceSub, Int.reduceMul, Int.reduceNeg, Int.reducePow, Int.reduceLT, Int.reduceLE, Int.reduceEq, Int.reduceToNat, Bool.and_true, Bool.true_and, Bool.and_self, Bool.and_false, Bool.false_and, Bool.and_eq_true, Bool.and_eq_false_imp, and_self, WS_qdn, WS_qdr, WS_qde, WS_qdb, WS_qdc, qn1, qn2, qn3, qn4, qn5, qk1, qk5, lq1, lq2, lq3, lq4, lq5, intD_int, items_tup, items_rol, items_loc, listOf_loc, listOf_rol, isL_loc, at0, at1, at2, at3, at4, at5, atl1, atl2, atl3, atl4, lstAt_new, it_tup, it_rol, kTup_eq, kLen_eq, wipe0, wipe1, b_nm, List.set_cons_zero, List.set_cons_succ, List.length_cons, List.length_nil, List.nil_append, List.cons_append, List.append_nil, List.isEmpty_cons, List.isEmpty_nil, true_and, and_true, false_and, and_false, true_implies, forall_const, not_true_eq_false, not_false_eq_true, implies_true, decide_eq_true_eq, decide_eq_false_iff_not, Bool.not_eq_true', Bool.not_eq_false', Bool.not_true, Bool.not_false, if_true, if_false, Bool.false_eq_true, Bool.true_eq_false, reduceCtorEq, false_implies, eq_self, c, e]
    cases brk as r.1 r.2 <;> simp [gB]
  simp only [↓reduceIte, ↓W_ok, ↓W_exn, ↓W_var0, ↓W_varS, ↓W_K, ↓W_bin, ↓W_un, ↓W_aNil, ↓W_aCons, ↓W_arg, ↓W_call, ↓W_of, ↓WB_test, ↓tc_bl, ↓WB_tru, ↓trc, ↓WB_and, ↓WB_or, ↓WB_not, ↓W_if, ↓W_andV, ↓W_orV, ↓W_notV, ↓WM_some, ↓WM_none, ↓WO_some, ↓tr_bl, ↓tr_non, ↓tr_int, ↓tr_tup, ↓tr_rol, ↓WS_nx, ↓WS_rt, ↓WS_ct, ↓WS_bk, ↓WS_exn, ↓WS_seq, ↓WS_nil, ↓WS_retN, ↓WS_break, ↓WS_cont, ↓WS_expr, ↓WS_ret, ↓WS_if, ↓WS_set, ↓WS_par, ↓WS_asg, ↓WS_gSet, ↓WS_gN, ↓WS_gC, ↓WS_gUn, ↓WS_gSub, ↓WS_aug, ↓o_add, ↓o_iadd, ↓o_sub, ↓o_neg, ↓o_mul, ↓o_mod, ↓o_div, ↓o_pow, ↓o_addT, ↓o_addS, ↓o_addL, ↓o_lt, ↓o_le, ↓o_gt, ↓o_ge, ↓o_eq, ↓o_ne, ↓o_eqS, ↓o_neS, ↓o_eqB, ↓o_neB, ↓o_eqT, ↓o_neT, ↓o_eqN, ↓o_neN, ↓o_ltT, ↓o_leT, ↓o_is, ↓o_isnot, ↓o_isB, ↓o_isnotB, ↓o_inT, ↓o_ninT, ↓o_inL, ↓o_ninL, ↓o_ixT, ↓o_ixR, ↓o_ixL, ↓o_ixS, ↓o_str, ↓o_strS, ↓o_set, ↓o_lenT, ↓o_lenR, ↓o_lenL, ↓o_lenS, ↓o_int, ↓o_intT, ↓o_intF, ↓o_abs, ↓o_max, ↓o_min, ↓o_tuple, ↓o_list, ↓o_tup0, ↓o_tup1, ↓o_tup2, ↓o_tup3, ↓o_tup4, ↓o_tup5, ↓o_tup6, ↓o_lst0, ↓o_lst1, ↓o_lst2, ↓o_lst3, ↓o_lst4, ↓o_lst5, ↓o_lst6, ↓o_sum, ↓W_meth, ↓o_append, ↓o_extend, ↓o_popAt, ↓W_cut, ↓W_noPart, ↓W_part, ↓o_cutT, ↓o_cutR, ↓o_cutL, ↓W_isi, ↓W_ch, ↓WS_for, ↓WI_iter, ↓WI_range1, ↓WI_range2, ↓WI_range3, ↓WI_enum, ↓WS_f0, ↓WS_f1, ↓W_alloc, ↓W_ofL, ↓W_comp, ↓WB_yes, ↓W_c0, ↓W_c1, ↓W_listRg, ↓W_tupRg, ↓W_rRange1, ↓W_rRange2, o_intT, o_intF, o_intB, o_ixL, o_ixT, beq_self_eq_true, decide_true, decide_false, okEq, okCmp, okIn, D.fits, D.fitsL, D.dep, D.depL, D.eqv, D.eqvL, D.alike, D.alikeL, isBl_bl, isN_non, isN_bl, isN_int, isN_str, isN_tup, isN_rol, isN_loc, Nat.reduceAdd, Nat.reduceSub, Nat.max_self, Nat.min_self, Nat.max_zero, Nat.zero_max, Nat.min_zero, Nat.zero_min, ty_non, ty_bl, ty_int, ty_str, ty_tup, ty_rol, ty_loc, kb_bool_bool, kb_bool_int, kb_bool_str, kb_bool_tuple, kb_bool_list, kb_int_bool, kb_int_int, kb_int_str, kb_int_tuple, kb_int_list, kb_str_bool, kb_str_int, kb_str_str, kb_str_tuple, kb_str_list, kb_tuple_bool, kb_tuple_int, kb_tuple_str, kb_tuple_tuple, kb_tuple_list, kb_list_bool, kb_list_int, kb_list_str, kb_list_tuple, kb_list_list, kb_NoneType_bool, kb_NoneType_int, kb_NoneType_str, kb_NoneType_tuple, kb_NoneType_list, Nat.zero_add, c02, lstAt_setE, Option.map_some, lstAt_set_ne, ne_eq, Nat.reduceEqDiff, Nat.one_ne_zero, Nat.zero_ne_one, ix_1_0, ix_2_0, ix_2_1, ix_3_0, ix_3_1, ix_3_2, ix_4_0, ix_4_1, ix_4_2, ix_4_3, ix_5_0, ix_5_1, ix_5_2, ix_5_3, ix_5_4, ix_6_0, ix_6_1, ix_6_2, ix_6_3, ix_6_4, ix_6_5, Nat.reduceLeDiff, Int.reduceAdd, Int.reduceSub, Int.reduceMul, Int.reduceNeg, Int.reducePow, Int.reduceLT, Int.reduceLE, Int.reduceEq, Int.reduceToNat, Bool.and_true, Bool.true_and, Bool.and_self, Bool.and_false, Bool.false_and, Bool.and_eq_true, Bool.and_eq_false_imp, and_self, WS_qdn, WS_qdr, WS_qde, WS_qdb, WS_qdc, qn1, qn2, qn3, qn4, qn5, qk1, qk5, lq1, lq2, lq3, lq4, lq5, intD_int, items_tup, items_rol, items_loc, listOf_loc, listOf_rol, isL_loc, at0, at1, at2, at3, at4, at5, atl1, atl2, atl3, atl4, lstAt_new, it_tup, it_rol, kTup_eq, kLen_eq, wipe0, wipe1, b_nm, List.set_cons_zero, List.set_cons_succ, List.length_cons, List.length_nil, List.nil_append, List.cons_append, List.append_nil, List.isEmpty_cons, List.isEmpty_nil, true_and, and_true, false_and, and_false, true_implies, forall_const, not_true_eq_false, not_false_eq_true, implies_true, decide_eq_true_eq, decide_eq_false_iff_not, Bool.not_eq_true', Bool.not_eq_false', Bool.not_true, Bool.not_false, if_true, if_false, Bool.false_eq_true, Bool.true_eq_false, reduceCtorEq, false_implies, eq_self, wm_broken_rules, b_broken_rules, en_tup]
  refine key _ _ _ rfl ?_
  simp only [↓reduceIte, ↓W_ok, ↓W_exn, ↓W_var0, ↓W_varS, ↓W_K, ↓W_bin, ↓W_un, ↓W_aNil, ↓W_aCons, ↓W_arg, ↓W_call, ↓W_of, ↓WB_test, ↓tc_bl, ↓WB_tru, ↓trc, ↓WB_and, ↓WB_or, ↓WB_not, ↓W_if, ↓W_andV, ↓W_orV, ↓W_notV, ↓WM_some, ↓WM_none, ↓WO_some, ↓tr_bl, ↓tr_non, ↓tr_int, ↓tr_tup, ↓tr_rol, ↓WS_nx, ↓WS_rt, ↓WS_ct, ↓WS_bk, ↓WS_exn, ↓WS_seq, ↓WS_nil, ↓WS_retN, ↓WS_break, ↓WS_cont, ↓WS_expr, ↓WS_ret, ↓WS_if, ↓WS_set, ↓WS_par, ↓WS_asg, ↓WS_gSet, ↓WS_gN, ↓WS_gC, ↓WS_gUn, ↓WS_gSub, ↓WS_aug, ↓o_add, ↓o_iadd, ↓o_sub, ↓o_neg, ↓o_mul, ↓o_mod, ↓o_div, ↓o_pow, ↓o_addT, ↓o_addS, ↓o_addL, ↓o_lt, ↓o_le, ↓o_gt, ↓o_ge, ↓o_eq, ↓o_ne, ↓o_eqS, ↓o_neS, ↓o_eqB, ↓o_neB, ↓o_eqT, ↓o_neT, ↓o_eqN, ↓o_neN, ↓o_ltT, ↓o_leT, ↓o_is, ↓o_isnot, ↓o_isB, ↓o_isnotB, ↓o_inT, ↓o_ninT, ↓o_inL, ↓o_ninL, ↓o_ixT, ↓o_ixR, ↓o_ixL, ↓o_ixS, ↓o_str, ↓o_strS, ↓o_set, ↓o_lenT, ↓o_lenR, ↓o_lenL, ↓o_lenS, ↓o_int, ↓o_intT, ↓o_intF, ↓o_abs, ↓o_max, ↓o_min, ↓o_tuple, ↓o_list, ↓o_tup0, ↓o_tup1, ↓o_tup2, ↓o_tup3, ↓o_tup4, ↓o_tup5, ↓o_tup6, ↓o_lst0, ↓o_lst1, ↓o_lst2, ↓o_lst3, ↓o_lst4, ↓o_lst5, ↓o_lst6, ↓o_sum, ↓W_meth, ↓o_append, ↓o_extend, ↓o_popAt, ↓W_cut, ↓W_noPart, ↓W_part, ↓o_cutT, ↓o_cutR, ↓o_cutL, ↓W_isi, ↓W_ch, ↓WS_for, ↓WI_iter, ↓WI_range1, ↓WI_range2, ↓WI_range3, ↓WI_enum, ↓WS_f0, ↓WS_f1, ↓W_alloc, ↓W_ofL, ↓W_comp, ↓WB_yes, ↓W_c0, ↓W_c1, ↓W_listRg, ↓W_tupRg, ↓W_rRange1, ↓W_rRange2, o_intT, o_intF, o_intB, o_ixL, o_ixT, beq_self_eq_true, decide_true, decide_false, okEq, okCmp, okIn, D.fits, D.fitsL, D.dep, D.depL, D.eqv, D.eqvL, D.alike, D.alikeL, isBl_bl, isN_non, isN_bl, isN_int, isN_str, isN_tup, isN_rol, isN_loc, Nat.reduceAdd, Nat.reduceSub, Nat.max_self, Nat.min_self, Nat.max_zero, Nat.zero_max, Nat.min_zero, Nat.zero_min, ty_non, ty_bl, ty_int, ty_str, ty_tup, ty_rol, ty_loc, kb_bool_bool, kb_bool_int, kb_bool_str, kb_bool_tuple, kb_bool_list, kb_int_bool, kb_int_int, kb_int_str, kb_int_tuple, kb_int_list, kb_str_bool, kb_str_int, kb_str_str, kb_str_tuple, kb_str_list, kb_tuple_bool, kb_tuple_int, kb_tuple_str, kb_tuple_tuple, kb_tuple_list, kb_list_bool, kb_list_int, kb_list_str, kb_list_tuple, kb_list_list, kb_NoneType_bool, kb_NoneType_int, kb_NoneType_str, kb_NoneType_tuple, kb_NoneType_list, Nat.zero_add, c02, lstAt_setE, Option.map_some, lstAt_set_ne, ne_eq, Nat.reduceEqDiff, Nat.one_ne_zero, Nat.zero_ne_one, ix_1_0, ix_2_0, ix_2_1, ix_3_0, ix_3_1, ix_3_2, ix_4_0, ix_4_1, ix_4_2, ix_4_3, ix_5_0, ix_5_1, ix_5_2, ix_5_3, ix_5_4, ix_6_0, ix_6_1, ix_6_2, ix_6_3, ix_6_4, ix_6_5, Nat.reduceLeDiff, Int.reduceAdd, Int.reduceSub, Int.reduceMul, Int.reduceNeg, Int.reducePow, Int.reduceLT, Int.reduceLE, Int.reduceEq, Int.reduceToNat, Bool.and_true, Bool.true_and, Bool.and_self, Bool.and_false, Bool.false_and, Bool.and_eq_true, Bool.and_eq_false_imp, and_self, WS_qdn, WS_qdr, WS_qde, WS_qdb, WS_qdc, qn1, qn2, qn3, qn4, qn5, qk1, qk5, lq1, lq2, lq3, lq4, lq5, intD_int, items_tup, items_rol, items_loc, listOf_loc, listOf_rol, isL_loc, at0, at1, at2, at3, at4, at5, atl1, atl2, atl3, atl4, lstAt_new, it_tup, it_rol, kTup_eq, kLen_eq, wipe0, wipe1, b_nm, List.set_cons_zero, List.set_cons_succ, List.length_cons, List.length_nil, List.nil_append, List.cons_append, List.append_nil, List.isEmpty_cons, List.isEmpty_nil, true_and, and_true, false_and, and_false, true_implies, forall_const, not_true_eq_false, not_false_eq_true, implies_true, decide_eq_true_eq, decide_eq_false_iff_not, Bool.not_eq_true', Bool.not_eq_false', Bool.not_true, Bool.not_false, if_true, if_false, Bool.false_eq_true, Bool.true_eq_false, reduceCtorEq, false_implies, eq_self]
  exact hq
/-- some rule is broken -/
def brkS (as : List D) (rs : List (Sy × Sy)) : Bool := rs.any fun r => brk as r.1 r.2
theorem brkL_nil {as : List D} : ∀ {rs : List (Sy × Sy)} {k : Nat}, (brkL as k rs).isEmpty = !brkS as rs
  | [], _ => rfl
  | r :: rs, k => by
    rw [brkL, brkS, List.any_cons]
    by_cases h : brk as r.1 r.2 = true
    · rw [if_pos h, h]; rfl
    · rw [if_neg h, brkL_nil]
      simp only [Bool.not_eq_true] at h
      rw [h, Bool.false_or]; rfl
theorem some_w {fs : List Fld} {rs : List (Sy × Sy)} {as : List D} (hr : RsOk rs as.length) (h : ∀ y ∈ as, Half y) (hq : Q (.bl (brkS as rs)) S) : W (x, Q) tt (m_breaks_some [.tup [FD fs, .tup (rs.map rp)], .tup as] S) := by
  simp only [↓reduceIte, ↓W_ok, ↓W_exn, ↓W_var0, ↓W_varS, ↓W_K, ↓W_bin, ↓W_un, ↓W_aNil, ↓W_aCons, ↓W_arg, ↓W_call, ↓W_of, ↓WB_test, ↓tc_bl, ↓WB_tru, ↓trc, ↓WB_and, ↓WB_or, ↓WB_not, ↓W_if, ↓W_andV, ↓W_orV, ↓W_notV, ↓WM_some, ↓WM_none, ↓WO_some, ↓tr_bl, ↓tr_non, ↓tr_int, ↓tr_tup, ↓tr_rol, ↓WS_nx, ↓WS_rt, ↓WS_ct, ↓WS_bk, ↓WS_exn, ↓WS_seq, ↓WS_nil, ↓WS_retN, ↓WS_break, ↓WS_cont, ↓WS_expr, ↓WS_ret, ↓WS_if, ↓WS_set, ↓WS_par, ↓WS_asg, ↓WS_gSet, ↓WS_gN, ↓WS_gC, ↓WS_gUn, ↓WS_gSub, ↓WS_aug, ↓o_add, ↓o_iadd, ↓o_sub, ↓o_neg, ↓o_mul, ↓o_mod, ↓o_div, ↓o_pow, ↓o_addT, ↓o_addS, ↓o_addL, ↓o_lt, ↓o_le, ↓o_gt, ↓o_ge, ↓o_eq, ↓o_ne, ↓o_eqS, ↓o_neS, ↓o_eqB, ↓o_neB, ↓o_eqT, ↓o_neT, ↓o_eqN, ↓o_neN, ↓o_ltT, ↓o_leT, ↓o_is, ↓o_isnot, ↓o_isB, ↓o_isnotB, ↓o_inT, ↓o_ninT, ↓o_inL, ↓o_ninL, ↓o_ixT, ↓o_ixR, ↓o_ixL, ↓o_ixS, ↓o_str, ↓o_strS, ↓o_set, ↓o_lenT, ↓o_lenR, ↓o_lenL, ↓o_lenS, ↓o_int, ↓o_intT, ↓o_intF, ↓o_abs, ↓o_max, ↓o_min, ↓o_tuple, ↓o_list, ↓o_tup0, ↓o_tup1, ↓o_tup2, ↓o_tup3, ↓o_tup4, ↓o_tup5, ↓o_tup6, ↓o_lst0, ↓o_lst1, ↓o_lst2, ↓o_lst3, ↓o_lst4, ↓o_lst5, ↓o_lst6, ↓o_sum, ↓W_meth, ↓o_append, ↓o_extend, ↓o_popAt, ↓W_cut, ↓W_noPart, ↓W_part, ↓o_cutT, ↓o_cutR, ↓o_cutL, ↓W_isi, ↓W_ch, ↓WS_for, ↓WI_iter, ↓WI_range1, ↓WI_range2, ↓WI_range3, ↓WI_enum, ↓WS_f0, ↓WS_f1, ↓W_alloc, ↓W_ofL, ↓W_comp, ↓WB_yes, ↓W_c0, ↓W_c1, ↓W_listRg, ↓W_tupRg, ↓W_rRange1, ↓W_rRange2, o_intT, o_intF, o_intB, o_ixL, o_ixT, beq_self_eq_true, decide_true, decide_false, okEq, okCmp, okIn, D.fits, D.fitsL, D.dep, D.depL, D.eqv, D.eqvL, D.alike, D.alikeL, isBl_bl, isN_non, isN_bl, isN_int, isN_str, isN_tup, isN_rol, isN_loc, Nat.reduceAdd, Nat.reduceSub, Nat.max_self, Nat.min_self, Nat.max_zero, Nat.zero_max, Nat.min_zero, Nat.zero_min, ty_non, ty_bl, ty_int, ty_str, ty_tup, ty_rol, ty_loc, kb_bool_bool, kb_bool_int, kb_bool_str, kb_bool_tuple, kb_bool_list, kb_int_bool, kb_int_int, kb_int_str, kb_int_tuple, kb_int_list, kb_str_bool, kb_str_int, kb_str_str, kb_str_tuple, kb_str_list, kb_tuple_bool, kb_tuple_int, kb_tuple_str, kb_tuple_tuple, kb_tuple_list, kb_list_bool, kb_list_int, kb_list_str, kb_list_tuple, kb_list_list, kb_NoneType_bool, kb_NoneType_int, kb_NoneType_str, kb_NoneType_tuple, kb_NoneType_list, Nat.zero_add, c02, lstAt_setE, Option.map_some, lstAt_set_ne, ne_eq, Nat.reduceEqDiff, Nat.one_ne_zero, Nat.zero_ne_one, ix_1_0, ix_2_0, ix_2_1, ix_3_0, ix_3_1, ix_3_2, ix_4_0, ix_4_1, ix_4_2, ix_4_3, ix_5_0, ix_5_1, ix_5_2, ix_5_3, ix_5_4, ix_6_0, ix_6_1, ix_6_2, ix_6_3, ix_6_4, ix_6_5, Nat.reduceLeDiff, Int.reduceAdd, Int.reduceSub, Int.reduceMul, Int.reduceNeg, Int.reducePow, Int.reduceLT, Int.reduceLE, Int.reduceEq, Int.reduceToNat, Bool.and_true, Bool.true_and, Bool.and_self, Bool.and_false, Bool.false_and, Bool.and_eq_true, Bool.and_eq_false_imp, and_self, WS_qdn, WS_qdr, WS_qde, WS_qdb, WS_qdc, qn1, qn2, qn3, qn4, qn5, qk1, qk5, lq1, lq2, lq3, lq4, lq5, intD_int, items_tup, items_rol, items_loc, listOf_loc, listOf_rol, isL_loc, at0, at1, at2, at3, at4, at5, atl1, atl2, atl3, atl4, lstAt_new, it_tup, it_rol, kTup_eq, kLen_eq, wipe0, wipe1, b_nm, List.set_cons_zero, List.set_cons_succ, List.length_cons, List.length_nil, List.nil_append, List.cons_append, List.append_nil, List.isEmpty_cons, List.isEmpty_nil, true_and, and_true, false_and, and_false, true_implies, forall_const, not_true_eq_false, not_false_eq_true, implies_true, decide_eq_true_eq, decide_eq_false_iff_not, Bool.not_eq_true', Bool.not_eq_false', Bool.not_true, Bool.not_false, if_true, if_false, Bool.false_eq_true, Bool.true_eq_false, reduceCtorEq, false_implies, eq_self, wm_breaks_some, b_breaks_some]
  refine WS_loop (fun ds σ S' => S' = S ∧ ∃ (post : List (Sy × Sy)) (p : Option D), ds = post.map rp ∧ RsOk post as.length ∧ brkS as post = brkS as rs ∧ σ = [some (.tup [FD fs, .tup (rs.map rp)]), some (.tup as), p]) ⟨rfl, rs, none, rfl, hr, rfl, rfl⟩ ?_ ?_
  · rintro d r σ S1 ⟨rfl, post, p, hds, hpo, hb, rfl⟩
    refine ⟨trivial, ?_⟩
    cases post with
    | nil => cases hds
    | cons f post =>
      rw [List.map_cons] at hds
      obtain ⟨rfl, rfl⟩ := List.cons.inj hds
      obtain ⟨h1, h2⟩ := hpo f (by simp)
      have c : ∀ {x : XQ} {Q : D → Store → Prop} {tt : Tg (x, Q)} {S : Store}, W (x, Q) tt (m_breaks_rule [rp f, .tup as] S) = Q (.bl (brk as f.1 f.2)) S := breaks_w h1 h2 h
      rw [brkS, List.any_cons] at hb
      simp only [↓reduceIte, ↓W_ok, ↓W_exn, ↓W_var0, ↓W_varS, ↓W_K, ↓W_bin, ↓W_un, ↓W_aNil, ↓W_aCons, ↓W_arg, ↓W_call, ↓W_of, ↓WB_test, ↓tc_bl, ↓WB_tru, ↓trc, ↓WB_and, ↓WB_or, ↓WB_not, ↓W_if, ↓W_andV, ↓W_orV, ↓W_notV, ↓WM_some, ↓WM_none, ↓WO_some, ↓tr_bl, ↓tr_non, ↓tr_int, ↓tr_tup, ↓tr_rol, ↓WS_nx, ↓WS_rt, ↓WS_ct, ↓WS_bk, ↓WS_exn, ↓WS_seq, ↓WS_nil, ↓WS_retN, ↓WS_break, ↓WS_cont, ↓WS_expr, ↓WS_ret, ↓WS_if, ↓WS_set, ↓WS_par, ↓WS_asg, ↓WS_gSet, ↓WS_gN, ↓WS_gC, ↓WS_gUn, ↓WS_gSub, ↓WS_aug, ↓o_add, ↓o_iadd, ↓o_sub, ↓o_neg, ↓o_mul, ↓o_mod, ↓o_div, ↓o_pow, ↓o_addT, ↓o_addS, ↓o_addL, ↓o_lt, ↓o_le, ↓o_gt, ↓o_ge, ↓o_eq, ↓o_ne, ↓o_eqS, ↓o_neS, ↓o_eqB, ↓o_neB, ↓o_eqT, ↓o_neT, ↓o_eqN, ↓o_neN, ↓o_ltT, ↓o_leT, ↓o_is, ↓o_isnot, ↓o_isB, ↓o_isnotB, ↓o_inT, ↓o_ninT, ↓o_inL, ↓o_ninL, ↓o_ixT, ↓o_ixR, ↓o_ixL, ↓o_ixS, ↓o_str, ↓o_strS, ↓o_set, ↓o_lenT, ↓o_lenR, ↓o_lenL, ↓o_lenS, ↓o_int, ↓o_intT, ↓o_intF, ↓o_abs, ↓o_max, ↓o_min, ↓o_tuple, ↓o_list, ↓o_tup0, ↓o_tup1, ↓o_tup2, ↓o_tup3, ↓o_tup4, ↓o_tup5, ↓o_tup6, ↓o_lst0, ↓o_lst1, ↓o_lst2, ↓o_lst3, ↓o_lst4, ↓o_lst5, ↓o_lst6, ↓o_sum, ↓W_meth, ↓o_append, ↓o_extend, ↓o_popAt, ↓W_cut, ↓W_noPart, ↓W_part, ↓o_cutT, ↓o_cutR, ↓o_cutL, ↓W_isi, ↓W_ch, ↓WS_for, ↓WI_iter, ↓WI_range1, ↓WI_range2, ↓WI_range3, ↓WI_enum, ↓WS_f0, ↓WS_f1, ↓W_alloc, ↓W_ofL, ↓W_comp, ↓WB_yes, ↓W_c0, ↓W_c1, ↓W_listRg, ↓W_tupRg, ↓W_rRange1, ↓W_rRange2, o_intT, o_intF, o_intB, o_ixL, o_ixT, beq_self_eq_true, decide_true, decide_false, okEq, okCmp, okIn, D.fits, D.fitsL, D.dep, D.depL, D.eqv, D.eqvL, D.alike, D.alikeL, isBl_bl, isN_non, isN_bl, isN_int, isN_str, isN_tup, isN_rol, isN_loc, Nat.reduceAdd, Nat.reduceSub, Nat.max_self, Nat.min_self, Nat.max_zero, Nat.zero_max, Nat.min_zero, Nat.zero_min, ty_non, ty_bl, ty_int, ty_str, ty_tup, ty_rol, ty_loc, kb_bool_bool, kb_bool_int, kb_bool_str, kb_bool_tuple, kb_bool_list, kb_int_bool, kb_int_int, kb_int_str, kb_int_tuple, kb_int_list, kb_str_bool, kb_str_int, kb_str_str, kb_str_tuple, kb_str_list, kb_tuple_bool, kb_tuple_int, kb_tuple_str, kb_tuple_tuple, kb_tuple_list, kb_list_bool, kb_list_int, kb_list_str, kb_list_tuple, kb_list_list, kb_NoneType_bool, kb_NoneType_int, kb_NoneType_str, kb_NoneType_tuple, kb_NoneType_list, Nat.zero_add, c02, lstAt_setE, Option.map_some, lstAt_set_ne, ne_eq, Nat.reduceEqDiff, Nat.one_ne_zero, Nat.zero_ne_one, ix_1_0, ix_2_0, ix_2_1, ix_3_0, ix_3_1, ix_3_2, ix_4_0, ix_4_1, ix_4_2, ix_4_3, ix_5_0, ix_5_1, ix_5_2, ix_5_3, ix_5_4, ix_6_0, ix_6_1, ix_6_2, ix_6_3, ix_6_4, ix_6_5, Nat.reduceLeDiff, Int.reduceAdd, Int.reduceSub, Int.reduceMul, Int.reduceNeg, Int.reducePow, Int.reduceLT, Int.reduceLE, Int.reduceEq, Int.reduceToNat, Bool.and_true, Bool.true_and, Bool.and_self, Bool.and_false, Bool.false_and, Bool.and_eq_true, Bool.and_eq_false_imp, and_self, WS_qdn, WS_qdr, WS_qde, WS_qdb, WS_qdc, qn1, qn2, qn3, qn4, qn5, qk1, qk5, lq1, lq2, lq3, lq4, lq5, intD_int, items_tup, items_rol, items_loc, listOf_loc, listOf_rol, isL_loc, at0, at1, at2, at3, at4, at5, atl1, atl2, atl3, atl4, lstAt_new, it_tup, it_rol, kTup_eq, kLen_eq, wipe0, wipe1, b_nm, List.set_cons_zero, List.set_cons_succ, List.length_cons, List.length_nil, List.nil_append, List.cons_append, List.append_nil, List.isEmpty_cons, List.isEmpty_nil, true_and, and_true, false_and, and_false, true_implies, forall_const, not_true_eq_false, not_false_eq_true, implies_true, decide_eq_true_eq, decide_eq_false_iff_not, Bool.not_eq_true', Bool.not_eq_false', Bool.not_true, Bool.not_false, if_true, if_false, Bool.false_eq_true, Bool.true_eq_false, reduceCtorEq, false_implies, eq_self, c]
      refine ⟨fun e => ?_, fun e => ⟨post, _, rfl, fun g hg => hpo g (List.mem_cons_of_mem _ hg), ?_, rfl⟩⟩
      · rw [e, Bool.true_or] at hb
        rw [hb]; exact hq
      · rw [e, Bool.false_or] at hb; exact hb
  · rintro σ S1 ⟨rfl, post, p, hds, hpo, hb, rfl⟩
    refine ⟨trivial, ?_⟩
    have : post = [] := by
      cases post with
      | nil => rfl
      | cons f post => cases hds
    subst this
    simp only [↓reduceIte, ↓W_ok, ↓W_exn, ↓W_var0, ↓W_varS, ↓W_K, ↓W_bin, ↓W_un, ↓W_aNil, ↓W_aCons, ↓W_arg, ↓W_call, ↓W_of, ↓WB_test, ↓tc_bl, ↓WB_tru, ↓trc, ↓WB_and, ↓WB_or, ↓WB_not, ↓W_if, ↓W_andV, ↓W_orV, ↓W_notV, ↓WM_some, ↓WM_none, ↓WO_some, ↓tr_bl, ↓tr_non, ↓tr_int, ↓tr_tup, ↓tr_rol, ↓WS_nx, ↓WS_rt, ↓WS_ct, ↓WS_bk, ↓WS_exn, ↓WS_seq, ↓WS_nil, ↓WS_retN, ↓WS_break, ↓WS_cont, ↓WS_expr, ↓WS_ret, ↓WS_if, ↓WS_set, ↓WS_par, ↓WS_asg, ↓WS_gSet, ↓WS_gN, ↓WS_gC, ↓WS_gUn, ↓WS_gSub, ↓WS_aug, ↓o_add, ↓o_iadd, ↓o_sub, ↓o_neg, ↓o_mul, ↓o_mod, ↓o_div, ↓o_pow, ↓o_addT, ↓o_addS, ↓o_addL, ↓o_lt, ↓o_le, ↓o_gt, ↓o_ge, ↓o_eq, ↓o_ne, ↓o_eqS, ↓o_neS, ↓o_eqB, ↓o_neB, ↓o_eqT, ↓o_neT, ↓o_eqN, ↓o_neN, ↓o_ltT, ↓o_leT, ↓o_is, ↓o_isnot, ↓o_isB, ↓o_isnotB, ↓o_inT, ↓o_ninT, ↓o_inL, ↓o_ninL, ↓o_ixT, ↓o_ixR, ↓o_ixL, ↓o_ixS, ↓o_str, ↓o_strS, ↓o_set, ↓o_lenT, ↓o_lenR, ↓o_lenL, ↓o_lenS, ↓o_int, ↓o_intT, ↓o_intF, ↓o_abs, ↓o_max, ↓o_min, ↓o_tuple, ↓o_list, ↓o_tup0, ↓o_tup1, ↓o_tup2, ↓o_tup3, ↓o_tup4, ↓o_tup5, ↓o_tup6, ↓o_lst0, ↓o_lst1, ↓o_lst2, ↓o_lst3, ↓o_lst4, ↓o_lst5, ↓o_lst6, ↓o_sum, ↓W_meth, ↓o_append, ↓o_extend, ↓o_popAt, ↓W_cut, ↓W_noPart, ↓W_part, ↓o_cutT, ↓o_cutR, ↓o_cutL, ↓W_isi, ↓W_ch, ↓WS_for, ↓WI_iter, ↓WI_range1, ↓WI_range2, ↓WI_range3, ↓WI_enum, ↓WS_f0, ↓WS_f1, ↓W_alloc, ↓W_ofL, ↓W_comp, ↓WB_yes, ↓W_c0, ↓W_c1, ↓W_listRg, ↓W_tupRg, ↓W_rRange1, ↓W_rRange2, o_intT, o_intF, o_intB, o_ixL, o_ixT, beq_self_eq_true, decide_true, decide_false, okEq, okCmp, okIn, D.fits, D.fitsL, D.dep, D.depL, D.eqv, D.eqvL, D.alike, D.alikeL, isBl_bl, isN_non, isN_bl, isN_int, isN_str, isN_tup, isN_rol, isN_loc, Nat.reduceAdd, Nat.reduceSub, Nat.max_self, Nat.min_self, Nat.max_zero, Nat.zero_max, Nat.min_zero, Nat.zero_min, ty_non, ty_bl, ty_int, ty_str, ty_tup, ty_rol, ty_loc, kb_bool_bool, kb_bool_int, kb_bool_str, kb_bool_tuple, kb_bool_list, kb_int_bool, kb_int_int, kb_int_str, kb_int_tuple, kb_int_list, kb_str_bool, kb_str_int, kb_str_str, kb_str_tuple, kb_str_list, kb_tuple_bool, kb_tuple_int, kb_tuple_str, kb_tuple_tuple, kb_tuple_list, kb_list_bool, kb_list_int, kb_list_str, kb_list_tuple, kb_list_list, kb_NoneType_bool, kb_NoneType_int, kb_NoneType_str, kb_NoneType_tuple, kb_NoneType_list, Nat.zero_add, c02, lstAt_setE, Option.map_some, lstAt_set_ne, ne_eq, Nat.reduceEqDiff, Nat.one_ne_zero, Nat.zero_ne_one, ix_1_0, ix_2_0, ix_2_1, ix_3_0, ix_3_1, ix_3_2, ix_4_0, ix_4_1, ix_4_2, ix_4_3, ix_5_0, ix_5_1, ix_5_2, ix_5_3, ix_5_4, ix_6_0, ix_6_1, ix_6_2, ix_6_3, ix_6_4, ix_6_5, Nat.reduceLeDiff, Int.reduceAdd, Int.reduceSub, Int.reduceMul, Int.reduceNeg, Int.reducePow, Int.reduceLT, Int.reduceLE, Int.reduceEq, Int.reduceToNat, Bool.and_true, Bool.true_and, Bool.and_self, Bool.and_false, Bool.false_and, Bool.and_eq_true, Bool.and_eq_false_imp, and_self, WS_qdn, WS_qdr, WS_qde, WS_qdb, WS_qdc, qn1, qn2, qn3, qn4, qn5, qk1, qk5, lq1, lq2, lq3, lq4, lq5, intD_int, items_tup, items_rol, items_loc, listOf_loc, listOf_rol, isL_loc, at0, at1, at2, at3, at4, at5, atl1, atl2, atl3, atl4, lstAt_new, it_tup, it_rol, kTup_eq, kLen_eq, wipe0, wipe1, b_nm, List.set_cons_zero, List.set_cons_succ, List.length_cons, List.length_nil, List.nil_append, List.cons_append, List.append_nil, List.isEmpty_cons, List.isEmpty_nil, true_and, and_true, false_and, and_false, true_implies, forall_const, not_true_eq_false, not_false_eq_true, implies_true, decide_eq_true_eq, decide_eq_false_iff_not, Bool.not_eq_true', Bool.not_eq_false', Bool.not_true, Bool.not_false, if_true, if_false, Bool.false_eq_true, Bool.true_eq_false, reduceCtorEq, false_implies, eq_self]
    rw [show brkS as [] = false from rfl] at hb
    rw [hb]; exact hq
theorem half_fits {as : List D} (h : ∀ y ∈ as, Half y) : D.fitsL as = true ∧ D.depL as = 0 := by
  refine ⟨fitsL_iff.mpr fun y hy => ?_, Nat.le_zero.mp (depL_le fun y hy => ?_)⟩
  · rcases h y hy with rfl | ⟨i, rfl⟩ <;> rfl
  · rcases h y hy with rfl | ⟨i, rfl⟩ <;> simp [D.dep]
/-- no blank in it -/
def full (as : List D) : Bool := !as.any isNon
theorem inL_non {as : List D} (h : ∀ y ∈ as, Half y) : inL .non as = as.any isNon := by
  induction as with
  | nil => rfl
  | cons a r ih =>
    unfold inL at ih ⊢
    rw [List.any_cons, List.any_cons, ih fun y hy => h y (List.mem_cons_of_mem _ hy)]
    rcases h a (by simp) with rfl | ⟨i, rfl⟩ <;> rfl
theorem good_w {fs : List Fld} {rs : List (Sy × Sy)} {as : List D} (hr : RsOk rs as.length) (h : ∀ y ∈ as, Half y) (hq : Q (.bl (full as && !brkS as rs)) S) : W (x, Q) tt (m_is_good [.tup [FD fs, .tup (rs.map rp)], .tup as] S) := by
  have hf := half_fits h
  simp only [↓reduceIte, ↓W_ok, ↓W_exn, ↓W_var0, ↓W_varS, ↓W_K, ↓W_bin, ↓W_un, ↓W_aNil, ↓W_aCons, ↓W_arg, ↓W_call, ↓W_of, ↓WB_test, ↓tc_bl, ↓WB_tru, ↓trc, ↓WB_and, ↓WB_or, ↓WB_not, ↓W_if, ↓W_andV, ↓W_orV, ↓W_notV, ↓WM_some, ↓WM_none, ↓WO_some, ↓tr_bl, ↓tr_non, ↓tr_int, ↓tr_tup, ↓tr_rol, ↓WS_nx, ↓WS_rt, ↓WS_ct, ↓WS_bk, ↓WS_exn, ↓WS_seq, ↓WS_nil, ↓WS_retN, ↓WS_break, ↓WS_cont, ↓WS_expr, ↓WS_ret, ↓WS_if, ↓WS_set, ↓WS_par, ↓WS_asg, ↓WS_gSet, ↓WS_gN, ↓WS_gC, ↓WS_gUn, ↓WS_gSub, ↓WS_aug, ↓o_add, ↓o_iadd, ↓o_sub, ↓o_neg, ↓o_mul, ↓o_mod, ↓o_div, ↓o_pow, ↓o_addT, ↓o_addS, ↓o_addL, ↓o_lt, ↓o_le, ↓o_gt, ↓o_ge, ↓o_eq, ↓o_ne, ↓o_eqS, ↓o_neS, ↓o_eqB, ↓o_neB, ↓o_eqT, ↓o_neT, ↓o_eqN, ↓o_neN, ↓o_ltT, ↓o_leT, ↓o_is, ↓o_isnot, ↓o_isB, ↓o_isnotB, ↓o_inT, ↓o_ninT, ↓o_inL, ↓o_ninL, ↓o_ixT, ↓o_ixR, ↓o_ixL, ↓o_ixS, ↓o_str, ↓o_strS, ↓o_set, ↓o_lenT, ↓o_lenR, ↓o_lenL, ↓o_lenS, ↓o_int, ↓o_intT, ↓o_intF, ↓o_abs, ↓o_max, ↓o_min, ↓o_tuple, ↓o_list, ↓o_tup0, ↓o_tup1, ↓o_tup2, ↓o_tup3, ↓o_tup4, ↓o_tup5, ↓o_tup6, ↓o_lst0, ↓o_lst1, ↓o_lst2, ↓o_lst3, ↓o_lst4, ↓o_lst5, ↓o_lst6, ↓o_sum, ↓W_meth, ↓o_append, ↓o_extend, ↓o_popAt, ↓W_cut, ↓W_noPart, ↓W_part, ↓o_cutT, ↓o_cutR, ↓o_cutL, ↓W_isi, ↓W_ch, ↓WS_for, ↓WI_iter, ↓WI_range1, ↓WI_range2, ↓WI_range3, ↓WI_enum, ↓WS_f0, ↓WS_f1, ↓W_alloc, ↓W_ofL, ↓W_comp, ↓WB_yes, ↓W_c0, ↓W_c1, ↓W_listRg, ↓W_tupRg, ↓W_rRange1, ↓W_rRange2, o_intT, o_intF, o_intB, o_ixL, o_ixT, beq_self_eq_true, decide_true, decide_false, okEq, okCmp, okIn, D.fits, D.fitsL, D.dep, D.depL, D.eqv, D.eqvL, D.alike, D.alikeL, isBl_bl, isN_non, isN_bl, isN_int, isN_str, isN_tup, isN_rol, isN_loc, Nat.reduceAdd, Nat.reduceSub, Nat.max_self, Nat.min_self, Nat.max_zero, Nat.zero_max, Nat.min_zero, Nat.zero_min, ty_non, ty_bl, ty_int, ty_str, ty_tup, ty_rol, ty_loc, kb_bool_bool, kb_bool_int, kb_bool_str, kb_bool_tuple, kb_bool_list, kb_int_bool, kb_int_int, kb_int_str, kb_int_tuple, kb_int_list, kb_str_bool, kb_str_int, kb_str_str, kb_str_tuple, kb_str_list, kb_tuple_bool, kb_tuple_int, kb_tuple_str, kb_tuple_tuple, kb_tuple_list, kb_list_bool, kb_list_int, kb_list_str, kb_list_tuple, kb_list_list, kb_NoneType_bool, kb_NoneType_int, kb_NoneType_str, kb_NoneType_tuple, kb_NoneType_list, Nat.zero_add, c02, lstAt_setE, Option.map_some, lstAt_set_ne, ne_eq, Nat.reduceEqDiff, Nat.one_ne_zero, Nat.zero_ne_one, ix_1_0, ix_2_0, ix_2_1, ix_3_0, ix_3_1, ix_3_2, ix_4_0, ix_4_1, ix_4_2, ix_4_3, ix_5_0, ix_5_1, ix_5_2, ix_5_3, ix_5_4, ix_6_0, ix_6_1, ix_6_2, ix_6_3, ix_6_4, ix_6_5, Nat.reduceLeDiff, Int.reduceAdd, Int.reduceSub, Int.reduceMul, Int.reduceNeg, Int.reducePow, Int.reduceLT, Int.reduceLE, Int.reduceEq, Int.reduceToNat, Bool.and_true, Bool.true_and, Bool.and_self, Bool.and_false, Bool.false_and, Bool.and_eq_true, Bool.and_eq_false_imp, and_self, WS_qdn, WS_qdr, WS_qde, WS_qdb, WS_qdc, qn1, qn2, qn3, qn4, qn5, qk1, qk5, lq1, lq2, lq3, lq4, lq5, intD_int, items_tup, items_rol, items_loc, listOf_loc, listOf_rol, isL_loc, at0, at1, at2, at3, at4, at5, atl1, atl2, atl3, atl4, lstAt_new, it_tup, it_rol, kTup_eq, kLen_eq, wipe0, wipe1, b_nm, List.set_cons_zero, List.set_cons_succ, List.length_cons, List.length_nil, List.nil_append, List.cons_append, List.append_nil, List.isEmpty_cons, List.isEmpty_nil, true_and, and_true, false_and, and_false, true_implies, forall_const, not_true_eq_false, not_false_eq_true, implies_true, decide_eq_true_eq, decide_eq_false_iff_not, Bool.not_eq_true', Bool.not_eq_false', Bool.not_true, Bool.not_false, if_true, if_false, Bool.false_eq_true, Bool.true_eq_false, reduceCtorEq, false_implies, eq_self, wm_is_good, b_is_good, hf.1, hf.2, inL_non h]
  refine ⟨fun e => ?_, fun e => ?_⟩
  · refine some_w hr h ?_
    simp only [↓reduceIte, ↓W_ok, ↓W_exn, ↓W_var0, ↓W_varS, ↓W_K, ↓W_bin, ↓W_un, ↓W_aNil, ↓W_aCons, ↓W_arg, ↓W_call, ↓W_of, ↓WB_test, ↓tc_bl, ↓WB_tru, ↓trc, ↓WB_and, ↓WB_or, ↓WB_not, ↓W_if, ↓W_andV, ↓W_orV, ↓W_notV, ↓WM_some, ↓WM_none, ↓WO_some, ↓tr_bl, ↓tr_non, ↓tr_int, ↓tr_tup, ↓tr_rol, ↓WS_nx, ↓WS_rt, ↓WS_ct, ↓WS_bk, ↓WS_exn, ↓WS_seq, ↓WS_nil, ↓WS_retN, ↓WS_break, ↓WS_cont, ↓WS_expr, ↓WS_ret, ↓WS_if, ↓WS_set, ↓WS_par, ↓WS_asg, ↓WS_gSet, ↓WS_gN, ↓WS_gC, ↓WS_gUn, ↓WS_gSub, ↓WS_aug, ↓o_add, ↓o_iadd, ↓o_sub, ↓o_neg, ↓o_mul, ↓o_mod, ↓o_div, ↓o_pow, ↓o_addT, ↓o_addS, ↓o_addL, ↓o_lt, ↓o_le, ↓o_gt, ↓o_ge, ↓o_eq, ↓o_ne, ↓o_eqS, ↓o_neS, ↓o_eqB, ↓o_neB, ↓o_eqT, ↓o_neT, ↓o_eqN, ↓o_neN, ↓o_ltT, ↓o_leT, ↓o_is, ↓o_isnot, ↓o_isB, ↓o_isnotB, ↓o_inT, ↓o_ninT, ↓o_inL, ↓o_ninL, ↓o_ixT, ↓o_ixR, ↓o_ixL, ↓o_ixS, ↓o_str, ↓o_strS, ↓o_set, ↓o_lenT, ↓o_lenR, ↓o_lenL, ↓o_lenS, ↓o_int, ↓o_intT, ↓o_intF, ↓o_abs, ↓o_max, ↓o_min, ↓o_tuple, ↓o_list, ↓o_tup0, ↓o_tup1, ↓o_tup2, ↓o_tup3, ↓o_tup4, ↓o_tup5, ↓o_tup6, ↓o_lst0, ↓o_lst1, ↓o_lst2, ↓o_lst3, ↓o_lst4, ↓o_lst5, ↓o_lst6, ↓o_sum, ↓W_meth, ↓o_append, ↓o_extend, ↓o_popAt, ↓W_cut, ↓W_noPart, ↓W_part, ↓o_cutT, ↓o_cutR, ↓o_cutL, ↓W_isi, ↓W_ch, ↓WS_for, ↓WI_iter, ↓WI_range1, ↓WI_range2, ↓WI_range3, ↓WI_enum, ↓WS_f0, ↓WS_f1, ↓W_alloc, ↓W_ofL, ↓W_comp, ↓WB_yes, ↓W_c0, ↓W_c1, ↓W_listRg, ↓W_tupRg, ↓W_rRange1, ↓W_rRange2, o_intT, o_intF, o_intB, o_ixL, o_ixT, beq_self_eq_true, decide_true, decide_false, okEq, okCmp, okIn, D.fits, D.fitsL, D.dep, D.depL, D.eqv, D.eqvL, D.alike, D.alikeL, isBl_bl, isN_non, isN_bl, isN_int, isN_str, isN_tup, isN_rol, isN_loc, Nat.reduceAdd, Nat.reduceSub, Nat.max_self, Nat.min_self, Nat.max_zero, Nat.zero_max, Nat.min_zero, Nat.zero_min, ty_non, ty_bl, ty_int, ty_str, ty_tup, ty_rol, ty_loc, kb_bool_bool, kb_bool_int, kb_bool_str, kb_bool_tuple, kb_bool_list, kb_int_bool, kb_int_int, kb_int_str, kb_int_tuple, kb_int_list, kb_str_bool, kb_str_int, kb_str_str, kb_str_tuple, kb_str_list, kb_tuple_bool, kb_tuple_int, kb_tuple_str, kb_tuple_tuple, kb_tuple_list, kb_list_bool, kb_list_int, kb_list_str, kb_list_tuple, kb_list_list, kb_NoneType_bool, kb_NoneType_int, kb_NoneType_str, kb_NoneType_tuple, kb_NoneType_list, Nat.zero_add, c02, lstAt_setE, Option.map_some, lstAt_set_ne, ne_eq, Nat.reduceEqDiff, Nat.one_ne_zero, Nat.zero_ne_one, ix_1_0, ix_2_0, ix_2_1, ix_3_0, ix_3_1, ix_3_2, ix_4_0, ix_4_1, ix_4_2, ix_4_3, ix_5_0, ix_5_1, ix_5_2, ix_5_3, ix_5_4, ix_6_0, ix_6_1, ix_6_2, ix_6_3, ix_6_4, ix_6_5, Nat.reduceLeDiff, Int.reduceAdd, Int.reduceSub, Int.reduceMul, Int.reduceNeg, Int.reducePow, Int.reduceLT, Int.reduceLE, Int.reduceEq, Int.reduceToNat, Bool.and_true, Bool.true_and, Bool.and_self, Bool.and_false, Bool.false_and, Bool.and_eq_true, Bool.and_eq_false_imp, and_self, WS_qdn, WS_qdr, WS_qde, WS_qdb, WS_qdc, qn1, qn2, qn3, qn4, qn5, qk1, qk5, lq1, lq2, lq3, lq4, lq5, intD_int, items_tup, items_rol, items_loc, listOf_loc, listOf_rol, isL_loc, at0, at1, at2, at3, at4, at5, atl1, atl2, atl3, atl4, lstAt_new, it_tup, it_rol, kTup_eq, kLen_eq, wipe0, wipe1, b_nm, List.set_cons_zero, List.set_cons_succ, List.length_cons, List.length_nil, List.nil_append, List.cons_append, List.append_nil, List.isEmpty_cons, List.isEmpty_nil, true_and, and_true, false_and, and_false, true_implies, forall_const, not_true_eq_false, not_false_eq_true, implies_true, decide_eq_true_eq, decide_eq_false_iff_not, Bool.not_eq_true', Bool.not_eq_false', Bool.not_true, Bool.not_false, if_true, if_false, Bool.false_eq_true, Bool.true_eq_false, reduceCtorEq, false_implies, eq_self]
    unfold full at hq
    rw [e] at hq
    exact hq
  · unfold full at hq
    rw [e] at hq ⊢
    exact hq
theorem due_w {fs : List Fld} {rs : List (Sy × Sy)} {as : List D} (hF : FeedOk S) (hr : RsOk rs as.length) (hl : rs.length ≤ 1000) (h : ∀ y ∈ as, Half y) (hq : ∀ S', FeedOk S' → Fr S S' → Q (.tup (brkL as 0 rs)) S') : W (x, Q) tt (m__law_due [.tup [FD fs, .tup (rs.map rp)], .tup as] S) := by
  have h2 := hF.len
  simp only [↓reduceIte, ↓W_ok, ↓W_exn, ↓W_var0, ↓W_varS, ↓W_K, ↓W_bin, ↓W_un, ↓W_aNil, ↓W_aCons, ↓W_arg, ↓W_call, ↓W_of, ↓WB_test, ↓tc_bl, ↓WB_tru, ↓trc, ↓WB_and, ↓WB_or, ↓WB_not, ↓W_if, ↓W_andV, ↓W_orV, ↓W_notV, ↓WM_some, ↓WM_none, ↓WO_some, ↓tr_bl, ↓tr_non, ↓tr_int, ↓tr_tup, ↓tr_rol, ↓WS_nx, ↓WS_rt, ↓WS_ct, ↓WS_bk, ↓WS_exn, ↓WS_seq, ↓WS_nil, ↓WS_retN, ↓WS_break, ↓WS_cont, ↓WS_expr, ↓WS_ret, ↓WS_if, ↓WS_set, ↓WS_par, ↓WS_asg, ↓WS_gSet, ↓WS_gN, ↓WS_gC, ↓WS_gUn, ↓WS_gSub, ↓WS_aug, ↓o_add, ↓o_iadd, ↓o_sub, ↓o_neg, ↓o_mul, ↓o_mod, ↓o_div, ↓o_pow, ↓o_addT, ↓o_addS, ↓o_addL, ↓o_lt, ↓o_le, ↓o_gt, ↓o_ge, ↓o_eq, ↓o_ne, ↓o_eqS, ↓o_neS, ↓o_eqB, ↓o_neB, ↓o_eqT, ↓o_neT, ↓o_eqN, ↓o_neN, ↓o_ltT, ↓o_leT, ↓o_is, ↓o_isnot, ↓o_isB, ↓o_isnotB, ↓o_inT, ↓o_ninT, ↓o_inL, ↓o_ninL, ↓o_ixT, ↓o_ixR, ↓o_ixL, ↓o_ixS, ↓o_str, ↓o_strS, ↓o_set, ↓o_lenT, ↓o_lenR, ↓o_lenL, ↓o_lenS, ↓o_int, ↓o_intT, ↓o_intF, ↓o_abs, ↓o_max, ↓o_min, ↓o_tuple, ↓o_list, ↓o_tup0, ↓o_tup1, ↓o_tup2, ↓o_tup3, ↓o_tup4, ↓o_tup5, ↓o_tup6, ↓o_lst0, ↓o_lst1, ↓o_lst2, ↓o_lst3, ↓o_lst4, ↓o_lst5, ↓o_lst6, ↓o_sum, ↓W_meth, ↓o_append, ↓o_extend, ↓o_popAt, ↓W_cut, ↓W_noPart, ↓W_part, ↓o_cutT, ↓o_cutR, ↓o_cutL, ↓W_isi, ↓W_ch, ↓WS_for, ↓WI_iter, ↓WI_range1, ↓WI_range2, ↓WI_range3, ↓WI_enum, ↓WS_f0, ↓WS_f1, ↓W_alloc, ↓W_ofL, ↓W_comp, ↓WB_yes, ↓W_c0, ↓W_c1, ↓W_listRg, ↓W_tupRg, ↓W_rRange1, ↓W_rRange2, o_intT, o_intF, o_intB, o_ixL, o_ixT, beq_self_eq_true, decide_true, decide_false, okEq, okCmp, okIn, D.fits, D.fitsL, D.dep, D.depL, D.eqv, D.eqvL, D.alike, D.alikeL, isBl_bl, isN_non, isN_bl, isN_int, isN_str, isN_tup, isN_rol, isN_loc, Nat.reduceAdd, Nat.reduceSub, Nat.max_self, Nat.min_self, Nat.max_zero, Nat.zero_max, Nat.min_zero, Nat.zero_min, ty_non, ty_bl, ty_int, ty_str, ty_tup, ty_rol, ty_loc, kb_bool_bool, kb_bool_int, kb_bool_str, kb_bool_tuple, kb_bool_list, kb_int_bool, kb_int_int, kb_int_str, kb_int_tuple, kb_int_list, kb_str_bool, kb_str_int, kb_str_str, kb_str_tuple, kb_str_list, kb_tuple_bool, kb_tuple_int, kb_tuple_str, kb_tuple_tuple, kb_tuple_list, kb_list_bool, kb_list_int, kb_list_str, kb_list_tuple, kb_list_list, kb_NoneType_bool, kb_NoneType_int, kb_NoneType_str, kb_NoneType_tuple, kb_NoneType_list, Nat.zero_add, c02, lstAt_setE, Option.map_some, lstAt_set_ne, ne_eq, Nat.reduceEqDiff, Nat.one_ne_zero, Nat.zero_ne_one, ix_1_0, ix_2_0, ix_2_1, ix_3_0, ix_3_1, ix_3_2, ix_4_0, ix_4_1, ix_4_2, ix_4_3, ix_5_0, ix_5_1, ix_5_2, ix_5_3, ix_5_4, ix_6_0, ix_6_1, ix_6_2, ix_6_3, ix_6_4, ix_6_5, Nat.reduceLeDiff, Int.reduceAdd, Int.reduceSub, Int.reduceMul, Int.reduceNeg, Int.reducePow, Int.reduceLT, Int.reduceLE, Int.reduceEq, Int.reduceToNat, Bool.and_true, Bool.true_and, Bool.and_self, Bool.and_false, Bool.false_and, Bool.and_eq_true, Bool.and_eq_false_imp, and_self, WS_qdn, WS_qdr, WS_qde, WS_qdb, WS_qdc, qn1, qn2, qn3, qn4, qn5, qk1, qk5, lq1, lq2, lq3, lq4, lq5, intD_int, items_tup, items_rol, items_loc, listOf_loc, listOf_rol, isL_loc, at0, at1, at2, at3, at4, at5, atl1, atl2, atl3, atl4, lstAt_new, it_tup, it_rol, kTup_eq, kLen_eq, wipe0, wipe1, b_nm, List.set_cons_zero, List.set_cons_succ, List.length_cons, List.length_nil, List.nil_append, List.cons_append, List.append_nil, List.isEmpty_cons, List.isEmpty_nil, true_and, and_true, false_and, and_false, true_implies, forall_const, not_true_eq_false, not_false_eq_true, implies_true, decide_eq_true_eq, decide_eq_false_iff_not, Bool.not_eq_true', Bool.not_eq_false', Bool.not_true, Bool.not_false, if_true, if_false, Bool.false_eq_true, Bool.true_eq_false, reduceCtorEq, false_implies, eq_self, wm__law_due, b__law_due]
  refine ⟨by rw [List.length_map]; constructor <;> omega, ?_⟩
  refine WS_rloop (fun i σ S' => FeedOk S' ∧ Fr S S' ∧ ∃ (pre post : List (Sy × Sy)) (ds : List D) (p q r : Option D), rs = pre ++ post ∧ (pre.length : Int) = i ∧ brkL as 0 rs = ds ++ brkL as pre.length post ∧ ds.length ≤ pre.length ∧ lstAt S' S.length = some ds ∧ σ = [some (.tup [FD fs, .tup (rs.map rp)]), some (.tup as), some (.loc S.length), p, q, r]) ⟨hF.app _, (Fr.refl _).app _, [], rs, [], none, none, none, rfl, rfl, rfl, by simp, lstAt_new, rfl⟩ ?_ ?_
  · rintro i σ S1 i0 i1 ⟨hF1, F1, pre, post, ds, p, q, r, hrs, hi, hb, hdl, hL, rfl⟩
    rw [List.length_map] at i1
    cases post with
    | nil => rw [hrs, List.append_nil] at i1; omega
    | cons f post =>
      have hat : atI (rs.map rp) i = some (rp f) := by rw [hrs]; exact atI_mid hi.symm
      obtain ⟨h1, h3⟩ := hr f (by rw [hrs]; simp)
      have ea1 := at_getD h1.2.1 h1.2.2
      have ea2 := at_getD h3.2.1 h3.2.2
      have hh := half_get h1.2.1 h1.2.2 h
      have hk := half_get h3.2.1 h3.2.2 h
      have hpl : pre.length ≤ 1000 := by rw [hrs, List.length_append] at hl; omega
      have it2 : itOf S1 (rp f) = some (none, [f.1.d, f.2.d]) := rfl
      have eb : brk as f.1 f.2 = (!kD f.1 (getD as f.1.f) && !kD f.2 (getD as f.2.f)) := rfl
      rw [brkL, eb] at hb
      have w1 := fun {x : XQ} {Q : D → Store → Prop} {tt : Tg (x, Q)} {S : Store} {a : Int} => holdsL_w (x := x) (Q := Q) (tt := tt) (S := S) (a := a) h1.1
      have w2 := fun {x : XQ} {Q : D → Store → Prop} {tt : Tg (x, Q)} {S : Store} {a : Int} => holdsL_w (x := x) (Q := Q) (tt := tt) (S := S) (a := a) h3.1
      generalize getD as f.1.f = a at *
      generalize getD as f.2.f = b at *
      have hL' : ds.length < sizeLine := by rw [sizeLine_eq]; omega
      have kn : ∀ s : Sy, kD s .non = true := fun _ => rfl
      have ki : ∀ (s : Sy) (i : Int), kD s (.int i) = s.h i := fun _ _ => rfl
      have yes : (!kD f.1 a && !kD f.2 b) = true → brkL as 0 rs = (ds ++ [.int i]) ++ brkL as (pre.length + 1) post := fun e => by
        rw [e, if_pos rfl] at hb
        rw [hb, hi, List.append_assoc]; rfl
      have no : (!kD f.1 a && !kD f.2 b) = false → brkL as 0 rs = ds ++ brkL as (pre.length + 1) post := fun e => by
        rw [e, if_neg Bool.false_ne_true] at hb
        exact hb
      clear hb
      rcases hh with rfl | ⟨u, rfl⟩ <;> rcases hk with rfl | ⟨v, rfl⟩
      · simp only [↓reduceIte, ↓W_ok, ↓W_exn, ↓W_var0, ↓W_varS, ↓W_K, ↓W_bin, ↓W_un, ↓W_aNil, ↓W_aCons, ↓W_arg, ↓W_call, ↓W_of, ↓WB_test, ↓tc_bl, ↓WB_tru, ↓trc, ↓WB_and, ↓WB_or, ↓WB_not, ↓W_if, ↓W_andV, ↓W_orV, ↓W_notV, ↓WM_some, ↓WM_none, ↓WO_some, ↓tr_bl, ↓tr_non, ↓tr_int, ↓tr_tup, ↓tr_rol, ↓WS_nx, ↓WS_rt, ↓WS_ct, ↓WS_bk, ↓WS_exn, ↓WS_seq, ↓WS_nil, ↓WS_retN, ↓WS_break, ↓WS_cont, ↓WS_expr, ↓WS_ret, ↓WS_if, ↓WS_set, ↓WS_par, ↓WS_asg, ↓WS_gSet, ↓WS_gN, ↓WS_gC, ↓WS_gUn, ↓WS_gSub, ↓WS_aug, ↓o_add, ↓o_iadd, ↓o_sub, ↓o_neg, ↓o_mul, ↓o_mod, ↓o_div, ↓o_pow, ↓o_addT, ↓o_addS, ↓o_addL, ↓o_lt, ↓o_le, ↓o_gt, ↓o_ge, ↓o_eq, ↓o_ne, ↓o_eqS, ↓o_neS, ↓o_eqB, ↓o_neB, ↓o_eqT, ↓o_neT, ↓o_eqN, ↓o_neN, ↓o_ltT, ↓o_leT, ↓o_is, ↓o_isnot, ↓o_isB, ↓o_isnotB, ↓o_inT, ↓o_ninT, ↓o_inL, ↓o_ninL, ↓o_ixT, ↓o_ixR, ↓o_ixL, ↓o_ixS, ↓o_str, ↓o_strS, ↓o_set, ↓o_lenT, ↓o_lenR, ↓o_lenL, ↓o_lenS, ↓o_int, ↓o_intT, ↓o_intF, ↓o_abs, ↓o_max, ↓o_min, ↓o_tuple, ↓o_list, ↓o_tup0, ↓o_tup1, ↓o_tup2, ↓o_tup3, ↓o_tup4, ↓o_tup5, ↓o_tup6, ↓o_lst0, ↓o_lst1, ↓o_lst2, ↓o_lst3, ↓o_lst4, ↓o_lst5, ↓o_lst6, ↓o_sum, ↓W_meth, ↓o_append, ↓o_extend, ↓o_popAt, ↓W_cut, ↓W_noPart, ↓W_part, ↓o_cutT, ↓o_cutR, ↓o_cutL, ↓W_isi, ↓W_ch, ↓WS_for, ↓WI_iter, ↓WI_range1, ↓WI_range2, ↓WI_range3, ↓WI_enum, ↓WS_f0, ↓WS_f1, ↓W_alloc, ↓W_ofL, ↓W_comp, ↓WB_yes, ↓W_c0, ↓W_c1, ↓W_listRg, ↓W_tupRg, ↓W_rRange1, ↓W_rRange2, o_intT, o_intF, o_intB, o_ixL, o_ixT, beq_self_eq_true, decide_true, decide_false, okEq, okCmp, okIn, D.fits, D.fitsL, D.dep, D.depL, D.eqv, D.eqvL, D.alike, D.alikeL, isBl_bl, isN_non, isN_bl, isN_int, isN_str, isN_tup, isN_rol, isN_loc, Nat.reduceAdd, Nat.reduceSub, Nat.max_self, Nat.min_self, Nat.max_zero, Nat.zero_max, Nat.min_zero, Nat.zero_min, ty_non, ty_bl, ty_int, ty_str, ty_tup, ty_rol, ty_loc, kb_bool_bool, kb_bool_int, kb_bool_str, kb_bool_tuple, kb_bool_list, kb_int_bool, kb_int_int, kb_int_str, kb_int_tuple, kb_int_list, kb_str_bool, kb_str_int, kb_str_str, kb_str_tuple, kb_str_list, kb_tuple_bool, kb_tuple_int, kb_tuple_str, kb_tuple_tuple, kb_tuple_list, kb_list_bool, kb_list_int, kb_list_str, kb_list_tuple, kb_list_list, kb_NoneType_bool, kb_NoneType_int, kb_NoneType_str, kb_NoneType_tuple, kb_NoneType_list, Nat.zero_add, c02, lstAt_setE, Option.map_some, lstAt_set_ne, ne_eq, Nat.reduceEqDiff, Nat.one_ne_zero, Nat.zero_ne_one, ix_1_0, ix_2_0, ix_2_1, ix_3_0, ix_3_1, ix_3_2, ix_4_0, ix_4_1, ix_4_2, ix_4_3, ix_5_0, ix_5_1, ix_5_2, ix_5_3, ix_5_4, ix_6_0, ix_6_1, ix_6_2, ix_6_3, ix_6_4, ix_6_5, Nat.reduceLeDiff, Int.reduceAdd, Int.reduceSub, Int.reduceMul, Int.reduceNeg, Int.reducePow, Int.reduceLT, Int.reduceLE, Int.reduceEq, Int.reduceToNat, Bool.and_true, Bool.true_and, Bool.and_self, Bool.and_false, Bool.false_and, Bool.and_eq_true, Bool.and_eq_false_imp, and_self, WS_qdn, WS_qdr, WS_qde, WS_qdb, WS_qdc, qn1, qn2, qn3, qn4, qn5, qk1, qk5, lq1, lq2, lq3, lq4, lq5, intD_int, items_tup, items_rol, items_loc, listOf_loc, listOf_rol, isL_loc, at0, at1, at2, at3, at4, at5, atl1, atl2, atl3, atl4, lstAt_new, it_tup, it_rol, kTup_eq, kLen_eq, wipe0, wipe1, b_nm, List.set_cons_zero, List.set_cons_succ, List.length_cons, List.length_nil, List.nil_append, List.cons_append, List.append_nil, List.isEmpty_cons, List.isEmpty_nil, true_and, and_true, false_and, and_false, true_implies, forall_const, not_true_eq_false, not_false_eq_true, implies_true, decide_eq_true_eq, decide_eq_false_iff_not, Bool.not_eq_true', Bool.not_eq_false', Bool.not_true, Bool.not_false, if_true, if_false, Bool.false_eq_true, Bool.true_eq_false, reduceCtorEq, false_implies, eq_self, hat, it2, ix_d, ea1, ea2, w1, w2]
        exact ⟨hF1, F1, pre ++ [f], post, ds, _, _, _, by rw [hrs]; simp, by simp; omega, by rw [no (by rw [kn]; rfl)]; simp, by simp; omega, hL, rfl⟩
      · cases q2 : f.2.h v
        all_goals
          simp only [↓reduceIte, ↓W_ok, ↓W_exn, ↓W_var0, ↓W_varS, ↓W_K, ↓W_bin, ↓W_un, ↓W_aNil, ↓W_aCons, ↓W_arg, ↓W_call, ↓W_of, ↓WB_test, ↓tc_bl, ↓WB_tru, ↓trc, ↓WB_and, ↓WB_or, ↓WB_not, ↓W_if, ↓W_andV, ↓W_orV, ↓W_notV, ↓WM_some, ↓WM_none, ↓WO_some, ↓tr_bl, ↓tr_non, ↓tr_int, ↓tr_tup, ↓tr_rol, ↓WS_nx, ↓WS_rt, ↓WS_ct, ↓WS_bk, ↓WS_exn, ↓WS_seq, ↓WS_nil, ↓WS_retN, ↓WS_break, ↓WS_cont, ↓WS_expr, ↓WS_ret, ↓WS_if, ↓WS_set, ↓WS_par, ↓WS_asg, ↓WS_gSet, ↓WS_gN, ↓WS_gC, ↓WS_gUn, ↓WS_gSub, ↓WS_aug, ↓o_add, ↓o_iadd, ↓o_sub, ↓o_neg, ↓o_mul, ↓o_mod, ↓o_div, ↓o_pow, ↓o_addT, ↓o_addS, ↓o_addL, ↓o_lt, ↓o_le, ↓o_gt, ↓o_ge, ↓o_eq, ↓o_ne, ↓o_eqS, ↓o_neS, ↓o_eqB, ↓o_neB, ↓o_eqT, ↓o_neT, ↓o_eqN, ↓o_neN, ↓o_ltT, ↓o_leT, ↓o_is, ↓o_isnot, ↓o_isB, ↓o_isnotB, ↓o_inT, ↓o_ninT, ↓o_inL, ↓o_ninL, ↓o_ixT, ↓o_ixR, ↓o_ixL, ↓o_ixS, ↓o_str, ↓o_strS, ↓o_set, ↓o_lenT, ↓o_lenR, ↓o_lenL, ↓o_lenS, ↓o_int, ↓o_intT, ↓o_intF, ↓o_abs, ↓o_max, ↓o_min, ↓o_tuple, ↓o_list, ↓o_tup0, ↓o_tup1, ↓o_tup2, ↓o_tup3, ↓o_tup4, ↓o_tup5, ↓o_tup6, ↓o_lst0, ↓o_lst1, ↓o_lst2, ↓o_lst3, ↓o_lst4, ↓o_lst5, ↓o_lst6, ↓o_sum, ↓W_meth, ↓o_append, ↓o_extend, ↓o_popAt, ↓W_cut, ↓W_noPart, ↓W_part, ↓o_cutT, ↓o_cutR, ↓o_cutL, ↓W_isi, ↓W_ch, ↓WS_for, ↓WI_iter, ↓WI_range1, ↓WI_range2, ↓WI_range3, ↓WI_enum, ↓WS_f0, ↓WS_f1, ↓W_alloc, ↓W_ofL, ↓W_comp, ↓WB_yes, ↓W_c0, ↓W_c1, ↓W_listRg, ↓W_tupRg, ↓W_rRange1, ↓W_rRange2, o_intT, o_intF, o_intB, o_ixL, o_ixT, beq_self_eq_true, decide_true, decide_false, okEq, okCmp, okIn, D.fits, D.fitsL, D.dep, D.depL, D.eqv, D.eqvL, D.alike, D.alikeL, isBl_bl, isN_non, isN_bl, isN_int, isN_str, isN_tup, isN_rol, isN_loc, Nat.reduceAdd, Nat.reduceSub, Nat.max_self, Nat.min_self, Nat.max_zero, Nat.zero_max, Nat.min_zero, Nat.zero_min, ty_non, ty_bl, ty_int, ty_str, ty_tup, ty_rol, ty_loc, kb_bool_bool, kb_bool_int, kb_bool_str, kb_bool_tuple, kb_bool_list, kb_int_bool, kb_int_int, kb_int_str, kb_int_tuple, kb_int_list, kb_str_bool, kb_str_int, kb_str_str, kb_str_tuple, kb_str_list, kb_tuple_bool, kb_tuple_int, kb_tuple_str, kb_tuple_tuple, kb_tuple_list, kb_list_bool, kb_list_int, kb_list_str, kb_list_tuple, kb_list_list, kb_NoneType_bool, kb_NoneType_int, kb_NoneType_str, kb_NoneType_tuple, kb_NoneType_list, Nat.zero_add, c02, lstAt_setE, Option.map_some, lstAt_set_ne, ne_eq, Nat.reduceEqDiff, Nat.one_ne_zero, Nat.zero_ne_one, ix_1_0, ix_2_0, ix_2_1, ix_3_0, ix_3_1, ix_3_2, ix_4_0, ix_4_1, ix_4_2, ix_4_3, ix_5_0, ix_5_1, ix_5_2, ix_5_3, ix_5_4, ix_6_0, ix_6_1, ix_6_2, ix_6_3, ix_6_4, ix_6_5, Nat.reduceLeDiff, Int.reduceAdd, Int.reduceSub, Int.reduceMul, Int.reduceNeg, Int.reducePow, Int.reduceLT, Int.reduceLE, Int.reduceEq, Int.reduceToNat, Bool.and_true, Bool.true_and, Bool.and_self, Bool.and_false, Bool.false_and, Bool.and_eq_true, Bool.and_eq_false_imp, and_self, WS_qdn, WS_qdr, WS_qde, WS_qdb, WS_qdc, qn1, qn2, qn3, qn4, qn5, qk1, qk5, lq1, lq2, lq3, lq4, lq5, intD_int, items_tup, items_rol, items_loc, listOf_loc, listOf_rol, isL_loc, at0, at1, at2, at3, at4, at5, atl1, atl2, atl3, atl4, lstAt_new, it_tup, it_rol, kTup_eq, kLen_eq, wipe0, wipe1, b_nm, List.set_cons_zero, List.set_cons_succ, List.length_cons, List.length_nil, List.nil_append, List.cons_append, List.append_nil, List.isEmpty_cons, List.isEmpty_nil, true_and, and_true, false_and, and_false, true_implies, forall_const, not_true_eq_false, not_false_eq_true, implies_true, decide_eq_true_eq, decide_eq_false_iff_not, Bool.not_eq_true', Bool.not_eq_false', Bool.not_true, Bool.not_false, if_true, if_false, Bool.false_eq_true, Bool.true_eq_false, reduceCtorEq, false_implies, eq_self, hat, it2, ix_d, ea1, ea2, w1, w2, q2]
          exact ⟨hF1, F1, pre ++ [f], post, ds, _, _, _, by rw [hrs]; simp, by simp; omega, by rw [no (by rw [kn]; rfl)]; simp, by simp; omega, hL, rfl⟩
      · cases q1 : f.1.h u
        all_goals
          simp only [↓reduceIte, ↓W_ok, ↓W_exn, ↓W_var0, ↓W_varS, ↓W_K, ↓W_bin, ↓W_un, ↓W_aNil, ↓W_aCons, ↓W_arg, ↓W_call, ↓W_of, ↓WB_test, ↓tc_bl, ↓WB_tru, ↓trc, ↓WB_and, ↓WB_or, ↓WB_not, ↓W_if, ↓W_andV, ↓W_orV, ↓W_notV, ↓WM_some, ↓WM_none, ↓WO_some, ↓tr_bl, ↓tr_non, ↓tr_int, ↓tr_tup, ↓tr_rol, ↓WS_nx, ↓WS_rt, ↓WS_ct, ↓WS_bk, ↓WS_exn, ↓WS_seq, ↓WS_nil, ↓WS_retN, ↓WS_break, ↓WS_cont, ↓WS_expr, ↓WS_ret, ↓WS_if, ↓WS_set, ↓WS_par, ↓WS_asg, ↓WS_gSet, ↓WS_gN, ↓WS_gC, ↓WS_gUn, ↓WS_gSub, ↓WS_aug, ↓o_add, ↓o_iadd, ↓o_sub, ↓o_neg, ↓o_mul, ↓o_mod, ↓o_div, ↓o_pow, ↓o_addT, ↓o_addS, ↓o_addL, ↓o_lt, ↓o_le, ↓o_gt, ↓o_ge, ↓o_eq, ↓o_ne, ↓o_eqS, ↓o_neS, ↓o_eqB, ↓o_neB, ↓o_eqT, ↓o_neT, ↓o_eqN, ↓o_neN, ↓o_ltT, ↓o_leT, ↓o_is, ↓o_isnot, ↓o_isB, ↓o_isnotB, ↓o_inT, ↓o_ninT, ↓o_inL, ↓o_ninL, ↓o_ixT, ↓o_ixR, ↓o_ixL, ↓o_ixS, ↓o_str, ↓o_strS, ↓o_set, ↓o_lenT, ↓o_lenR, ↓o_lenL, ↓o_lenS, ↓o_int, ↓o_intT, ↓o_intF, ↓o_abs, ↓o_max, ↓o_min, ↓o_tuple, ↓o_list, ↓o_tup0, ↓o_tup1, ↓o_tup2, ↓o_tup3, ↓o_tup4, ↓o_tup5, ↓o_tup6, ↓o_lst0, ↓o_lst1, ↓o_lst2, ↓o_lst3, ↓o_lst4, ↓o_lst5, ↓o_lst6, ↓o_sum, ↓W_meth, ↓o_append, ↓o_extend, ↓o_popAt, ↓W_cut, ↓W_noPart, ↓W_part, ↓o_cutT, ↓o_cutR, ↓o_cutL, ↓W_isi, ↓W_ch, ↓WS_for, ↓WI_iter, ↓WI_range1, ↓WI_range2, ↓WI_range3, ↓WI_enum, ↓WS_f0, ↓WS_f1, ↓W_alloc, ↓W_ofL, ↓W_comp, ↓WB_yes, ↓W_c0, ↓W_c1, ↓W_listRg, ↓W_tupRg, ↓W_rRange1, ↓W_rRange2, o_intT, o_intF, o_intB, o_ixL, o_ixT, beq_self_eq_true, decide_true, decide_false, okEq, okCmp, okIn, D.fits, D.fitsL, D.dep, D.depL, D.eqv, D.eqvL, D.alike, D.alikeL, isBl_bl, isN_non, isN_bl, isN_int, isN_str, isN_tup, isN_rol, isN_loc, Nat.reduceAdd, Nat.reduceSub, Nat.max_self, Nat.min_self, Nat.max_zero, Nat.zero_max, Nat.min_zero, Nat.zero_min, ty_non, ty_bl, ty_int, ty_str, ty_tup, ty_rol, ty_loc, kb_bool_bool, kb_bool_int, kb_bool_str, kb_bool_tuple, kb_bool_list, kb_int_bool, kb_int_int, kb_int_str, kb_int_tuple, kb_int_list, kb_str_bool, kb_str_int, kb_str_str, kb_str_tuple, kb_str_list, kb_tuple_bool, kb_tuple_int, kb_tuple_str, kb_tuple_tuple, kb_tuple_list, kb_list_bool, kb_list_int, kb_list_str, kb_list_tuple, kb_list_list, kb_NoneType_bool, kb_NoneType_int, kb_NoneType_str, kb_NoneType_tuple, kb_NoneType_list, Nat.zero_add, c02, lstAt_setE, Option.map_some, lstAt_set_ne, ne_eq, Nat.reduceEqDiff, Nat.one_ne_zero, Nat.zero_ne_one, ix_1_0, ix_2_0, ix_2_1, ix_3_0, ix_3_1, ix_3_2, ix_4_0, ix_4_1, ix_4_2, ix_4_3, ix_5_0, ix_5_1, ix_5_2, ix_5_3, ix_5_4, ix_6_0, ix_6_1, ix_6_2, ix_6_3, ix_6_4, ix_6_5, Nat.reduceLeDiff, Int.reduceAdd, Int.reduceSub, Int.reduceMul, Int.reduceNeg, Int.reducePow, Int.reduceLT, Int.reduceLE, Int.reduceEq, Int.reduceToNat, Bool.and_true, Bool.true_and, Bool.and_self, Bool.and_false, Bool.false_and, Bool.and_eq_true, Bool.and_eq_false_imp, and_self, WS_qdn, WS_qdr, WS_qde, WS_qdb, WS_qdc, qn1, qn2, qn3, qn4, qn5, qk1, qk5, lq1, lq2, lq3, lq4, lq5, intD_int, items_tup, items_rol, items_loc, listOf_loc, listOf_rol, isL_loc, at0, at1, at2, at3, at4, at5, atl1, atl2, atl3, atl4, lstAt_new, it_tup, it_rol, kTup_eq, kLen_eq, wipe0, wipe1, b_nm, List.set_cons_zero, List.set_cons_succ, List.length_cons, List.length_nil, List.nil_append, List.cons_append, List.append_nil, List.isEmpty_cons, List.isEmpty_nil, true_and, and_true, false_and, and_false, true_implies, forall_const, not_true_eq_false, not_false_eq_true, implies_true, decide_eq_true_eq, decide_eq_false_iff_not, Bool.not_eq_true', Bool.not_eq_false', Bool.not_true, Bool.not_false, if_true, if_false, Bool.false_eq_true, Bool.true_eq_false, reduceCtorEq, false_implies, eq_self, hat, it2, ix_d, ea1, ea2, w1, w2, q1]
          exact ⟨hF1, F1, pre ++ [f], post, ds, _, _, _, by rw [hrs]; simp, by simp; omega, by rw [no (by rw [kn, Bool.not_true, Bool.and_false])]; simp, by simp; omega, hL, rfl⟩
      · cases q1 : f.1.h u
        · cases q2 : f.2.h v
          · simp only [↓reduceIte, ↓W_ok, ↓W_exn, ↓W_var0, ↓W_varS, ↓W_K, ↓W_bin, ↓W_un, ↓W_aNil, ↓W_aCons, ↓W_arg, ↓W_call, ↓W_of, ↓WB_test, ↓tc_bl, ↓WB_tru, ↓trc, ↓WB_and, ↓WB_or, ↓WB_not, ↓W_if, ↓W_andV, ↓W_orV, ↓W_notV, ↓WM_some, ↓WM_none, ↓WO_some, ↓tr_bl, ↓tr_non, ↓tr_int, ↓tr_tup, ↓tr_rol, ↓WS_nx, ↓WS_rt, ↓WS_ct, ↓WS_bk, ↓WS_exn, ↓WS_seq, ↓WS_nil, ↓WS_retN, ↓WS_break, ↓WS_cont, ↓WS_expr, ↓WS_ret, ↓WS_if, ↓WS_set, ↓WS_par, ↓WS_asg, ↓WS_gSet, ↓WS_gN, ↓WS_gC, ↓WS_gUn, ↓WS_gSub, ↓WS_aug, ↓o_add, ↓o_iadd, ↓o_sub, ↓o_neg, ↓o_mul, ↓o_mod, ↓o_div, ↓o_pow, ↓o_addT, ↓o_addS, ↓o_addL, ↓o_lt, ↓o_le, ↓o_gt, ↓o_ge, ↓o_eq, ↓o_ne, ↓o_eqS, ↓o_neS, ↓o_eqB, ↓o_neB, ↓o_eqT, ↓o_neT, ↓o_eqN, ↓o_neN, ↓o_ltT, ↓o_leT, ↓o_is, ↓o_isnot, ↓o_isB, ↓o_isnotB, ↓o_inT, ↓o_ninT, ↓o_inL, ↓o_ninL, ↓o_ixT, ↓o_ixR, ↓o_ixL, ↓o_ixS, ↓o_str, ↓o_strS, ↓o_set, ↓o_lenT, ↓o_lenR, ↓o_lenL, ↓o_lenS, ↓o_int, ↓o_intT, ↓o_intF, ↓o_abs, ↓o_max, ↓o_min, ↓o_tuple, ↓o_list, ↓o_tup0, ↓o_tup1, ↓o_tup2, ↓o_tup3, ↓o_tup4, ↓o_tup5, ↓o_tup6, ↓o_lst0, ↓o_lst1, ↓o_lst2, ↓o_lst3, ↓o_lst4, ↓o_lst5, ↓o_lst6, ↓o_sum, ↓W_meth, ↓o_append, ↓o_extend, ↓o_popAt, ↓W_cut, ↓W_noPart, ↓W_part, ↓o_cutT, ↓o_cutR, ↓o_cutL, ↓W_isi, ↓W_ch, ↓WS_for, ↓WI_iter, ↓WI_range1, ↓WI_range2, ↓WI_range3, ↓WI_enum, ↓WS_f0, ↓WS_f1, ↓W_alloc, ↓W_ofL, ↓W_comp, ↓WB_yes, ↓W_c0, ↓W_c1, ↓W_listRg, ↓W_tupRg, ↓W_rRange1, ↓W_rRange2, o_intT, o_intF, o_intB, o_ixL, o_ixT, beq_self_eq_true, decide_true, decide_false, okEq, okCmp, okIn, D.fits, D.fitsL, D.dep, D.depL, D.eqv, D.eqvL, D.alike, D.alikeL, isBl_bl, isN_non, isN_bl, isN_int, isN_str, isN_tup, isN_rol, isN_loc, Nat.reduceAdd, Nat.reduceSub, Nat.max_self, Nat.min_self, Nat.max_zero, Nat.zero_max, Nat.min_zero, Nat.zero_min, ty_non, ty_bl, ty_int, ty_str, ty_tup, ty_rol, ty_loc, kb_bool_bool, kb_bool_int, kb_bool_str, kb_bool_tuple, kb_bool_list, kb_int_bool, kb_int_int, kb_int_str, kb_int_tuple, kb_int_list, kb_str_bool, kb_str_int, kb_str_str, kb_str_tuple, kb_str_list, kb_tuple_bool, kb_tuple_int, kb_tuple_str, kb_tuple_tuple, kb_tuple_list, kb_list_bool, kb_list_int, kb_list_str, kb_list_tuple, kb_list_list, kb_NoneType_bool, kb_NoneType_int, kb_NoneType_str, kb_NoneType_tuple, kb_NoneType_list, Nat.zero_add, c02, lstAt_setE, Option.map_some, lstAt_set_ne, ne_eq, Nat.reduceEqDiff, Nat.one_ne_zero, Nat.zero_ne_one, ix_1_0, ix_2_0, ix_2_1, ix_3_0, ix_3_1, ix_3_2, ix_4_0, ix_4_1, ix_4_2, ix_4_3, ix_5_0, ix_5_1, ix_5_2, ix_5_3, ix_5_4, ix_6_0, ix_6_1, ix_6_2, ix_6_3, ix_6_4, ix_6_5, Nat.reduceLeDiff, Int.reduceAdd, Int.reduceSub, Int.reduceMul, Int.reduceNeg, Int.reducePow, Int.reduceLT, Int.reduceLE, Int.reduceEq, Int.reduceToNat, Bool.and_true, Bool.true_and, Bool.and_self, Bool.and_false, Bool.false_and, Bool.and_eq_true, Bool.and_eq_false_imp, and_self, WS_qdn, WS_qdr, WS_qde, WS_qdb, WS_qdc, qn1, qn2, qn3, qn4, qn5, qk1, qk5, lq1, lq2, lq3, lq4, lq5, intD_int, items_tup, items_rol, items_loc, listOf_loc, listOf_rol, isL_loc, at0, at1, at2, at3, at4, at5, atl1, atl2, atl3, atl4, lstAt_new, it_tup, it_rol, kTup_eq, kLen_eq, wipe0, wipe1, b_nm, List.set_cons_zero, List.set_cons_succ, List.length_cons, List.length_nil, List.nil_append, List.cons_append, List.append_nil, List.isEmpty_cons, List.isEmpty_nil, true_and, and_true, false_and, and_false, true_implies, forall_const, not_true_eq_false, not_false_eq_true, implies_true, decide_eq_true_eq, decide_eq_false_iff_not, Bool.not_eq_true', Bool.not_eq_false', Bool.not_true, Bool.not_false, if_true, if_false, Bool.false_eq_true, Bool.true_eq_false, reduceCtorEq, false_implies, eq_self, hat, it2, ix_d, ea1, ea2, w1, w2, q1, q2, hL]
            exact ⟨hL', hF1.set h2, F1.set (Nat.le_refl _), pre ++ [f], post, ds ++ [.int i], _, _, _, by rw [hrs]; simp, by simp; omega, by rw [yes (by rw [ki, ki, q1, q2]; rfl)]; simp, by simp; omega, rfl, rfl⟩
          · simp only [↓reduceIte, ↓W_ok, ↓W_exn, ↓W_var0, ↓W_varS, ↓W_K, ↓W_bin, ↓W_un, ↓W_aNil, ↓W_aCons, ↓W_arg, ↓W_call, ↓W_of, ↓WB_test, ↓tc_bl, ↓WB_tru, ↓trc, ↓WB_and, ↓WB_or, ↓WB_not, ↓W_if, ↓W_andV, ↓W_orV, ↓W_notV, ↓WM_some, ↓WM_none, ↓WO_some, ↓tr_bl, ↓tr_non, ↓tr_int, ↓tr_tup, ↓tr_rol, ↓WS_nx, ↓WS_rt, ↓WS_ct, ↓WS_bk, ↓WS_exn, ↓WS_seq, ↓WS_nil, ↓WS_retN, ↓WS_break, ↓WS_cont, ↓WS_expr, ↓WS_ret, ↓WS_if, ↓WS_set, ↓WS_par, ↓WS_asg, ↓WS_gSet, ↓WS_gN, ↓WS_gC, ↓WS_gUn, ↓WS_gSub, ↓WS_aug, ↓o_add, ↓o_iadd, ↓o_sub, ↓o_neg, ↓o_mul, ↓o_mod, ↓o_div, ↓o_pow, ↓o_addT, ↓o_addS, ↓o_addL, ↓o_lt, ↓o_le, ↓o_gt, ↓o_ge, ↓o_eq, ↓o_ne, ↓o_eqS, ↓o_neS, ↓o_eqB, ↓o_neB, ↓o_eqT, ↓o_neT, ↓o_eqN, ↓o_neN, ↓o_ltT, ↓o_leT, ↓o_is, ↓o_isnot, ↓o_isB, ↓o_isnotB, ↓o_inT, ↓o_ninT, ↓o_inL, ↓o_ninL, ↓o_ixT, ↓o_ixR, ↓o_ixL, ↓o_ixS, ↓o_str, ↓o_strS, ↓o_set, ↓o_lenT, ↓o_lenR, ↓o_lenL, ↓o_lenS, ↓o_int, ↓o_intT, ↓o_intF, ↓o_abs, ↓o_max, ↓o_min, ↓o_tuple, ↓o_list, ↓o_tup0, ↓o_tup1, ↓o_tup2, ↓o_tup3, ↓o_tup4, ↓o_tup5, ↓o_tup6, ↓o_lst0, ↓o_lst1, ↓o_lst2, ↓o_lst3, ↓o_lst4, ↓o_lst5, ↓o_lst6, ↓o_sum, ↓W_meth, ↓o_append, ↓o_extend, ↓o_popAt, ↓W_cut, ↓W_noPart, ↓W_part, ↓o_cutT, ↓o_cutR, ↓o_cutL, ↓W_isi, ↓W_ch, ↓WS_for, ↓WI_iter, ↓WI_range1, ↓WI_range2, ↓WI_range3, ↓WI_enum, ↓WS_f0, ↓WS_f1, ↓W_alloc, ↓W_ofL, ↓W_comp, ↓WB_yes, ↓W_c0, ↓W_c1, ↓W_listRg, ↓W_tupRg, ↓W_rRange1, ↓W_rRange2, o_intT, o_intF, o_intB, o_ixL, o_ixT, beq_self_eq_true, decide_true, decide_false, okEq, okCmp, okIn, D.fits, D.fitsL, D.dep, D.depL, D.eqv, D.eqvL, D.alike, D.alikeL, isBl_bl, isN_non, isN_bl, isN_int, isN_str, isN_tup, isN_rol, isN_loc, Nat.reduceAdd, Nat.reduceSub, Nat.max_self, Nat.min_self, Nat.max_zero, Nat.zero_max, Nat.min_zero, Nat.zero_min, ty_non, ty_bl, ty_int, ty_str, ty_tup, ty_rol, ty_loc, kb_bool_bool, kb_bool_int, kb_bool_str, kb_bool_tuple, kb_bool_list, kb_int_bool, kb_int_int, kb_int_str, kb_int_tuple, kb_int_list, kb_str_bool, kb_str_int, kb_str_str, kb_str_tuple, kb_str_list, kb_tuple_bool, kb_tuple_int, kb_tuple_str, kb_tuple_tuple, kb_tuple_list, kb_list_bool, kb_list_int, kb_list_str, kb_list_tuple, kb_list_list, kb_NoneType_bool, kb_NoneType_int, kb_NoneType_str, kb_NoneType_tuple, kb_NoneType_list, Nat.zero_add, c02, lstAt_setE, Option.map_some, lstAt_set_ne, ne_eq, Nat.reduceEqDiff, Nat.one_ne_zero, Nat.zero_ne_one, ix_1_0, ix_2_0, ix_2_1, ix_3_0, ix_3_1, ix_3_2, ix_4_0, ix_4_1, ix_4_2, ix_4_3, ix_5_0, ix_5_1, ix_5_2, ix_5_3, ix_5_4, ix_6_0, ix_6_1, ix_6_2, ix_6_3, ix_6_4, ix_6_5, Nat.reduceLeDiff, Int.reduceAdd, Int.reduceSub, Int.reduceMul, Int.reduceNeg, Int.reducePow, Int.reduceLT, Int.reduceLE, Int.reduceEq, Int.reduceToNat, Bool.and_true, Bool.true_and, Bool.and_self, Bool.and_false, Bool.false_and, Bool.and_eq_true, Bool.and_eq_false_imp, and_self, WS_qdn, WS_qdr, WS_qde, WS_qdb, WS_qdc, qn1, qn2, qn3, qn4, qn5, qk1, qk5, lq1, lq2, lq3, lq4, lq5, intD_int, items_tup, items_rol, items_loc, listOf_loc, listOf_rol, isL_loc, at0, at1, at2, at3, at4, at5, atl1, atl2, atl3, atl4, lstAt_new, it_tup, it_rol, kTup_eq, kLen_eq, wipe0, wipe1, b_nm, List.set_cons_zero, List.set_cons_succ, List.length_cons, List.length_nil, List.nil_append, List.cons_append, List.append_nil, List.isEmpty_cons, List.isEmpty_nil, true_and, and_true, false_and, and_false, true_implies, forall_const, not_true_eq_false, not_false_eq_true, implies_true, decide_eq_true_eq, decide_eq_false_iff_not, Bool.not_eq_true', Bool.not_eq_false', Bool.not_true, Bool.not_false, if_true, if_false, Bool.false_eq_true, Bool.true_eq_false, reduceCtorEq, false_implies, eq_self, hat, it2, ix_d, ea1, ea2, w1, w2, q1, q2]
            exact ⟨hF1, F1, pre ++ [f], post, ds, _, _, _, by rw [hrs]; simp, by simp; omega, by rw [no (by rw [ki, ki, q1, q2]; rfl)]; simp, by simp; omega, hL, rfl⟩
        · cases q2 : f.2.h v
          all_goals
            simp only [↓reduceIte, ↓W_ok, ↓W_exn, ↓W_var0, ↓W_varS, ↓W_K, ↓W_bin, ↓W_un, ↓W_aNil, ↓W_aCons, ↓W_arg, ↓W_call, ↓W_of, ↓WB_test, ↓tc_bl, ↓WB_tru, ↓trc, ↓WB_and, ↓WB_or, ↓WB_not, ↓W_if, ↓W_andV, ↓W_orV, ↓W_notV, ↓WM_some, ↓WM_none, ↓WO_some, ↓tr_bl, ↓tr_non, ↓tr_int, ↓tr_tup, ↓tr_rol, ↓WS_nx, ↓WS_rt, ↓WS_ct, ↓WS_bk, ↓WS_exn, ↓WS_seq, ↓WS_nil, ↓WS_retN, ↓WS_break, ↓WS_cont, ↓WS_expr, ↓WS_ret, ↓WS_if, ↓WS_set, ↓WS_par, ↓WS_asg, ↓WS_gSet, ↓WS_gN, ↓WS_gC, ↓WS_gUn, ↓WS_gSub, ↓WS_aug, ↓o_add, ↓o_iadd, ↓o_sub, ↓o_neg, ↓o_mul, ↓o_mod, ↓o_div, ↓o_pow, ↓o_addT, ↓o_addS, ↓o_addL, ↓o_lt, ↓o_le, ↓o_gt, ↓o_ge, ↓o_eq, ↓o_ne, ↓o_eqS, ↓o_neS, ↓o_eqB, ↓o_neB, ↓o_eqT, ↓o_neT, ↓o_eqN, ↓o_neN, ↓o_ltT, ↓o_leT, ↓o_is, ↓o_isnot, ↓o_isB, ↓o_isnotB, ↓o_inT, ↓o_ninT, ↓o_inL, ↓o_ninL, ↓o_ixT, ↓o_ixR, ↓o_ixL, ↓o_ixS, ↓o_str, ↓o_strS, ↓o_set, ↓o_lenT, ↓o_lenR, ↓o_lenL, ↓o_lenS, ↓o_int, ↓o_intT, ↓o_intF, ↓o_abs, ↓o_max, ↓o_min, ↓o_tuple, ↓o_list, ↓o_tup0, ↓o_tup1, ↓o_tup2, ↓o_tup3, ↓o_tup4, ↓o_tup5, ↓o_tup6, ↓o_lst0, ↓o_lst1, ↓o_lst2, ↓o_lst3, ↓o_lst4, ↓o_lst5, ↓o_lst6, ↓o_sum, ↓W_meth, ↓o_append, ↓o_extend, ↓o_popAt, ↓W_cut, ↓W_noPart, ↓W_part, ↓o_cutT, ↓o_cutR, ↓o_cutL, ↓W_isi, ↓W_ch, ↓WS_for, ↓WI_iter, ↓WI_range1, ↓WI_range2, ↓WI_range3, ↓WI_enum, ↓WS_f0, ↓WS_f1, ↓W_alloc, ↓W_ofL, ↓W_comp, ↓WB_yes, ↓W_c0, ↓W_c1, ↓W_listRg, ↓W_tupRg, ↓W_rRange1, ↓W_rRange2, o_intT, o_intF, o_intB, o_ixL, o_ixT, beq_self_eq_true, decide_true, decide_false, okEq, okCmp, okIn, D.fits, D.fitsL, D.dep, D.depL, D.eqv, D.eqvL, D.alike, D.alikeL, isBl_bl, isN_non, isN_bl, isN_int, isN_str, isN_tup, isN_rol, isN_loc, Nat.reduceAdd, Nat.reduceSub, Nat.max_self, Nat.min_self, Nat.max_zero, Nat.zero_max, Nat.min_zero, Nat.zero_min, ty_non, ty_bl, ty_int, ty_str, ty_tup, ty_rol, ty_loc, kb_bool_bool, kb_bool_int, kb_bool_str, kb_bool_tuple, kb_bool_list, kb_int_bool, kb_int_int, kb_int_str, kb_int_tuple, kb_int_list, kb_str_bool, kb_str_int, kb_str_str, kb_str_tuple, kb_str_list, kb_tuple_bool, kb_tuple_int, kb_tuple_str, kb_tuple_tuple, kb_tuple_list, kb_list_bool, kb_list_int, kb_list_str, kb_list_tuple, kb_list_list, kb_NoneType_bool, kb_NoneType_int, kb_NoneType_str, kb_NoneType_tuple, kb_NoneType_list, Nat.zero_add, c02, lstAt_setE, Option.map_some, lstAt_set_ne, ne_eq, Nat.reduceEqDiff, Nat.one_ne_zero, Nat.zero_ne_one, ix_1_0, ix_2_0, ix_2_1, ix_3_0, ix_3_1, ix_3_2, ix_4_0, ix_4_1, ix_4_2, ix_4_3, ix_5_0, ix_5_1, ix_5_2, ix_5_3, ix_5_4, ix_6_0, ix_6_1, ix_6_2, ix_6_3, ix_6_4, ix_6_5, Nat.reduceLeDiff, Int.reduceAdd, Int.reduceSub, Int.reduceMul, Int.reduceNeg, Int.reducePow, Int.reduceLT, Int.reduceLE, Int.reduceEq, Int.reduceToNat, Bool.and_true, Bool.true_and, Bool.and_self, Bool.and_false, Bool.false_and, Bool.and_eq_true, Bool.and_eq_false_imp, and_self, WS_qdn, WS_qdr, WS_qde, WS_qdb, WS_qdc, qn1, qn2, qn3, qn4, qn5, qk1, qk5, lq1, lq2, lq3, lq4, lq5, intD_int, items_tup, items_rol, items_loc, listOf_loc, listOf_rol, isL_loc, at0, at1, at2, at3, at4, at5, atl1, atl2, atl3, atl4, lstAt_new, it_tup, it_rol, kTup_eq, kLen_eq, wipe0, wipe1, b_nm, List.set_cons_zero, List.set_cons_succ, List.length_cons, List.length_nil, List.nil_append, List.cons_append, List.append_nil, List.isEmpty_cons, List.isEmpty_nil, true_and, and_true, false_and, and_false, true_implies, forall_const, not_true_eq_false, not_false_eq_true, implies_true, decide_eq_true_eq, decide_eq_false_iff_not, Bool.not_eq_true', Bool.not_eq_false', Bool.not_true, Bool.not_false, if_true, if_false, Bool.false_eq_true, Bool.true_eq_false, reduceCtorEq, false_implies, eq_self, hat, it2, ix_d, ea1, ea2, w1, w2, q1, q2]
            exact ⟨hF1, F1, pre ++ [f], post, ds, _, _, _, by rw [hrs]; simp, by simp; omega, by rw [no (by rw [ki, ki, q1, q2]; rfl)]; simp, by simp; omega, hL, rfl⟩
  · rintro σ S1 ⟨hF1, F1, pre, post, ds, p, q, r, hrs, hi, hb, hdl, hL, rfl⟩
    have : post = [] := by
      rw [hrs, List.length_map, List.length_append] at hi
      cases post with
      | nil => rfl
      | cons f post => rw [List.length_cons] at hi; omega
    subst this
    simp only [↓reduceIte, ↓W_ok, ↓W_exn, ↓W_var0, ↓W_varS, ↓W_K, ↓W_bin, ↓W_un, ↓W_aNil, ↓W_aCons, ↓W_arg, ↓W_call, ↓W_of, ↓WB_test, ↓tc_bl, ↓WB_tru, ↓trc, ↓WB_and, ↓WB_or, ↓WB_not, ↓W_if, ↓W_andV, ↓W_orV, ↓W_notV, ↓WM_some, ↓WM_none, ↓WO_some, ↓tr_bl, ↓tr_non, ↓tr_int, ↓tr_tup, ↓tr_rol, ↓WS_nx, ↓WS_rt, ↓WS_ct, ↓WS_bk, ↓WS_exn, ↓WS_seq, ↓WS_nil, ↓WS_retN, ↓WS_break, ↓WS_cont, ↓WS_expr, ↓WS_ret, ↓WS_if, ↓WS_set, ↓WS_par, ↓WS_asg, ↓WS_gSet, ↓WS_gN, ↓WS_gC, ↓WS_gUn, ↓WS_gSub, ↓WS_aug, ↓o_add, ↓o_iadd, ↓o_sub, ↓o_neg, ↓o_mul, ↓o_mod, ↓o_div, ↓o_pow, ↓o_addT, ↓o_addS, ↓o_addL, ↓o_lt, ↓o_le, ↓o_gt, ↓o_ge, ↓o_eq, ↓o_ne, ↓o_eqS, ↓o_neS, ↓o_eqB, ↓o_neB, ↓o_eqT, ↓o_neT, ↓o_eqN, ↓o_neN, ↓o_ltT, ↓o_leT, ↓o_is, ↓o_isnot, ↓o_isB, ↓o_isnotB, ↓o_inT, ↓o_ninT, ↓o_inL, ↓o_ninL, ↓o_ixT, ↓o_ixR, ↓o_ixL, ↓o_ixS, ↓o_str, ↓o_strS, ↓o_set, ↓o_lenT, ↓o_lenR, ↓o_lenL, ↓o_lenS, ↓o_int, ↓o_intT, ↓o_intF, ↓o_abs, ↓o_max, ↓o_min, ↓o_tuple, ↓o_list, ↓o_tup0, ↓o_tup1, ↓o_tup2, ↓o_tup3, ↓o_tup4, ↓o_tup5, ↓o_tup6, ↓o_lst0, ↓o_lst1, ↓o_lst2, ↓o_lst3, ↓o_lst4, ↓o_lst5, ↓o_lst6, ↓o_sum, ↓W_meth, ↓o_append, ↓o_extend, ↓o_popAt, ↓W_cut, ↓W_noPart, ↓W_part, ↓o_cutT, ↓o_cutR, ↓o_cutL, ↓W_isi, ↓W_ch, ↓WS_for, ↓WI_iter, ↓WI_range1, ↓WI_range2, ↓WI_range3, ↓WI_enum, ↓WS_f0, ↓WS_f1, ↓W_alloc, ↓W_ofL, ↓W_comp, ↓WB_yes, ↓W_c0, ↓W_c1, ↓W_listRg, ↓W_tupRg, ↓W_rRange1, ↓W_rRange2, o_intT, o_intF, o_intB, o_ixL, o_ixT, beq_self_eq_true, decide_true, decide_false, okEq, okCmp, okIn, D.fits, D.fitsL, D.dep, D.depL, D.eqv, D.eqvL, D.alike, D.alikeL, isBl_bl, isN_non, isN_bl, isN_int, isN_str, isN_tup, isN_rol, isN_loc, Nat.reduceAdd, Nat.reduceSub, Nat.max_self, Nat.min_self, Nat.max_zero, Nat.zero_max, Nat.min_zero, Nat.zero_min, ty_non, ty_bl, ty_int, ty_str, ty_tup, ty_rol, ty_loc, kb_bool_bool, kb_bool_int, kb_bool_str, kb_bool_tuple, kb_bool_list, kb_int_bool, kb_int_int, kb_int_str, kb_int_tuple, kb_int_list, kb_str_bool, kb_str_int, kb_str_str, kb_str_tuple, kb_str_list, kb_tuple_bool, kb_tuple_int, kb_tuple_str, kb_tuple_tuple, kb_tuple_list, kb_list_bool, kb_list_int, kb_list_str, kb_list_tuple, kb_list_list, kb_NoneType_bool, kb_NoneType_int, kb_NoneType_str, kb_NoneType_tuple, kb_NoneType_list, Nat.zero_add, c02, lstAt_setE, Option.map_some, lstAt_set_ne, ne_eq, Nat.reduceEqDiff, Nat.one_ne_zero, Nat.zero_ne_one, ix_1_0, ix_2_0, ix_2_1, ix_3_0, ix_3_1, ix_3_2, ix_4_0, ix_4_1, ix_4_2, ix_4_3, ix_5_0, ix_5_1, ix_5_2, ix_5_3, ix_5_4, ix_6_0, ix_6_1, ix_6_2, ix_6_3, ix_6_4, ix_6_5, Nat.reduceLeDiff, Int.reduceAdd, Int.reduceSub, Int.reduceMul, Int.reduceNeg, Int.reducePow, Int.reduceLT, Int.reduceLE, Int.reduceEq, Int.reduceToNat, Bool.and_true, Bool.true_and, Bool.and_self, Bool.and_false, Bool.false_and, Bool.and_eq_true, Bool.and_eq_false_imp, and_self, WS_qdn, WS_qdr, WS_qde, WS_qdb, WS_qdc, qn1, qn2, qn3, qn4, qn5, qk1, qk5, lq1, lq2, lq3, lq4, lq5, intD_int, items_tup, items_rol, items_loc, listOf_loc, listOf_rol, isL_loc, at0, at1, at2, at3, at4, at5, atl1, atl2, atl3, atl4, lstAt_new, it_tup, it_rol, kTup_eq, kLen_eq, wipe0, wipe1, b_nm, List.set_cons_zero, List.set_cons_succ, List.length_cons, List.length_nil, List.nil_append, List.cons_append, List.append_nil, List.isEmpty_cons, List.isEmpty_nil, true_and, and_true, false_and, and_false, true_implies, forall_const, not_true_eq_false, not_false_eq_true, implies_true, decide_eq_true_eq, decide_eq_false_iff_not, Bool.not_eq_true', Bool.not_eq_false', Bool.not_true, Bool.not_false, if_true, if_false, Bool.false_eq_true, Bool.true_eq_false, reduceCtorEq, false_implies, eq_self, hL]
    rw [brkL, List.append_nil] at hb
    rw [← hb]
    exact hq _ hF1 F1
end
end LW

namespace LW
open PySem PySem.Spec PyProof.Rows L2 DL
section
variable {x : XQ} {Q : D → Store → Prop} {tt : Tg (x, Q)} {S : Store} {s t : Sy}
theorem brkL_len {as : List D} : ∀ {rs : List (Sy × Sy)} {k : Nat}, (brkL as k rs).length ≤ rs.length ∧ D.szL (brkL as k rs) = (brkL as k rs).length ∧ D.plL (brkL as k rs)
  | [], _ => ⟨Nat.le_refl _, rfl, trivial⟩
  | r :: rs, k => by
    obtain ⟨h1, h2, h3⟩ := brkL_len (as := as) (rs := rs) (k := k + 1)
    rw [brkL, List.length_cons]
    split
    · refine ⟨by rw [List.length_cons]; omega, ?_, ?_⟩
      · simp only [D.szL, D.sz, h2, List.length_cons]; omega
      · rw [D.plL]; exact ⟨by simp only [D.pl], h3⟩
    · exact ⟨by omega, h2, h3⟩
theorem asked_w {fs : List Fld} {rs : List (Sy × Sy)} {as : List D} (hF : FeedOk S) (hr : RsOk rs as.length) (hl : rs.length ≤ 1000) (hla : as.length ≤ 1000) (h : ∀ y ∈ as, Half y) (hq : ∀ S', FeedOk S' → Fr S S' → Q (.bl true) S') : W (x, Q) tt (m__law_asked [.tup [FD fs, .tup (rs.map rp)], .tup as] S) := by
  obtain ⟨b1, b2, b3⟩ := brkL_len (as := as) (rs := rs) (k := 0)
  simp only [↓reduceIte, ↓W_ok, ↓W_exn, ↓W_var0, ↓W_varS, ↓W_K, ↓W_bin, ↓W_un, ↓W_aNil, ↓W_aCons, ↓W_arg, ↓W_call, ↓W_of, ↓WB_test, ↓tc_bl, ↓WB_tru, ↓trc, ↓WB_and, ↓WB_or, ↓WB_not, ↓W_if, ↓W_andV, ↓W_orV, ↓W_notV, ↓WM_some, ↓WM_none, ↓WO_some, ↓tr_bl, ↓tr_non, ↓tr_int, ↓tr_tup, ↓tr_rol, ↓WS_nx, ↓WS_rt, ↓WS_ct, ↓WS_bk, ↓WS_exn, ↓WS_seq, ↓WS_nil, ↓WS_retN, ↓WS_break, ↓WS_cont, ↓WS_expr, ↓WS_ret, ↓WS_if, ↓WS_set, ↓WS_par, ↓WS_asg, ↓WS_gSet, ↓WS_gN, ↓WS_gC, ↓WS_gUn, ↓WS_gSub, ↓WS_aug, ↓o_add, ↓o_iadd, ↓o_sub, ↓o_neg, ↓o_mul, ↓o_mod, ↓o_div, ↓o_pow, ↓o_addT, ↓o_addS, ↓o_addL, ↓o_lt, ↓o_le, ↓o_gt, ↓o_ge, ↓o_eq, ↓o_ne, ↓o_eqS, ↓o_neS, ↓o_eqB, ↓o_neB, ↓o_eqT, ↓o_neT, ↓o_eqN, ↓o_neN, ↓o_ltT, ↓o_leT, ↓o_is, ↓o_isnot, ↓o_isB, ↓o_isnotB, ↓o_inT, ↓o_ninT, ↓o_inL, ↓o_ninL, ↓o_ixT, ↓o_ixR, ↓o_ixL, ↓o_ixS, ↓o_str, ↓o_strS, ↓o_set, ↓o_lenT, ↓o_lenR, ↓o_lenL, ↓o_lenS, ↓o_int, ↓o_intT, ↓o_intF, ↓o_abs, ↓o_max, ↓o_min, ↓o_tuple, ↓o_list, ↓o_tup0, ↓o_tup1, ↓o_tup2, ↓o_tup3, ↓o_tup4, ↓o_tup5, ↓o_tup6, ↓o_lst0, ↓o_lst1, ↓o_lst2, ↓o_lst3, ↓o_lst4, ↓o_lst5, ↓o_lst6, ↓o_sum, ↓W_meth, ↓o_append, ↓o_extend, ↓o_popAt, ↓W_cut, ↓W_noPart, ↓W_part, ↓o_cutT, ↓o_cutR, ↓o_cutL, ↓W_isi, ↓W_ch, ↓WS_for, ↓WI_iter, ↓WI_range1, ↓WI_range2, ↓WI_range3, ↓WI_enum, ↓WS_f0, ↓WS_f1, ↓W_alloc, ↓W_ofL, ↓W_comp, ↓WB_yes, ↓W_c0, ↓W_c1, ↓W_listRg, ↓W_tupRg, ↓W_rRange1, ↓W_rRange2, o_intT, o_intF, o_intB, o_ixL, o_ixT, beq_self_eq_true, decide_true, decide_false, okEq, okCmp, okIn, D.fits, D.fitsL, D.dep, D.depL, D.eqv, D.eqvL, D.alike, D.alikeL, isBl_bl, isN_non, isN_bl, isN_int, isN_str, isN_tup, isN_rol, isN_loc, Nat.reduceAdd, Nat.reduceSub, Nat.max_self, Nat.min_self, Nat.max_zero, Nat.zero_max, Nat.min_zero, Nat.zero_min, ty_non, ty_bl, ty_int, ty_str, ty_tup, ty_rol, ty_loc, kb_bool_bool, kb_bool_int, kb_bool_str, kb_bool_tuple, kb_bool_list, kb_int_bool, kb_int_int, kb_int_str, kb_int_tuple, kb_int_list, kb_str_bool, kb_str_int, kb_str_str, kb_str_tuple, kb_str_list, kb_tuple_bool, kb_tuple_int, kb_tuple_str, kb_tuple_tuple, kb_tuple_list, kb_list_bool, kb_list_int, kb_list_str, kb_list_tuple, kb_list_list, kb_NoneType_bool, kb_NoneType_int, kb_NoneType_str, kb_NoneType_tuple, kb_NoneType_list, Nat.zero_add, c02, lstAt_setE, Option.map_some, lstAt_set_ne, ne_eq, Nat.reduceEqDiff, Nat.one_ne_zero, Nat.zero_ne_one, ix_1_0, ix_2_0, ix_2_1, ix_3_0, ix_3_1, ix_3_2, ix_4_0, ix_4_1, ix_4_2, ix_4_3, ix_5_0, ix_5_1, ix_5_2, ix_5_3, ix_5_4, ix_6_0, ix_6_1, ix_6_2, ix_6_3, ix_6_4, ix_6_5, Nat.reduceLeDiff, Int.reduceAdd, Int.reduceSub, Int.reduceMul, Int.reduceNeg, Int.reducePow, Int.reduceLT, Int.reduceLE, Int.reduceEq, Int.reduceToNat, Bool.and_true, Bool.true_and, Bool.and_self, Bool.and_false, Bool.false_and, Bool.and_eq_true, Bool.and_eq_false_imp, and_self, WS_qdn, WS_qdr, WS_qde, WS_qdb, WS_qdc, qn1, qn2, qn3, qn4, qn5, qk1, qk5, lq1, lq2, lq3, lq4, lq5, intD_int, items_tup, items_rol, items_loc, listOf_loc, listOf_rol, isL_loc, at0, at1, at2, at3, at4, at5, atl1, atl2, atl3, atl4, lstAt_new, it_tup, it_rol, kTup_eq, kLen_eq, wipe0, wipe1, b_nm, List.set_cons_zero, List.set_cons_succ, List.length_cons, List.length_nil, List.nil_append, List.cons_append, List.append_nil, List.isEmpty_cons, List.isEmpty_nil, true_and, and_true, false_and, and_false, true_implies, forall_const, not_true_eq_false, not_false_eq_true, implies_true, decide_eq_true_eq, decide_eq_false_iff_not, Bool.not_eq_true', Bool.not_eq_false', Bool.not_true, Bool.not_false, if_true, if_false, Bool.false_eq_true, Bool.true_eq_false, reduceCtorEq, false_implies, eq_self, wm__law_asked, b__law_asked]
  refine due_w hF hr hl h fun S1 hF1 F1 => ?_
  have e0 : (((brkL as 0 rs).length : Int) = 0) = ((!brkS as rs) = true) := by
    rw [← brkL_nil (k := 0)]
    cases brkL as 0 rs with
    | nil => simp
    | cons a r => simp; omega
  have e1 : (((as.filter isNon).length : Int) = 0) = (full as = true) := by
    unfold full
    clear hr h e0 b1 b2 b3 hla hF1 F1
    induction as with
    | nil => simp
    | cons a r ih =>
      rw [List.any_cons]
      cases q : isNon a with
      | true => rw [List.filter_cons_of_pos q]; simp; omega
      | false => rw [List.filter_cons_of_neg (by simp [q]), ih, Bool.false_or]
  have fin : ∀ (g : Bool) (S2 : Store), g = (full as && !brkS as rs) → FeedOk S2 → Fr S S2 → ∀ p, WS (qd (x, Q)) tg (sRet (cAndV (cCall m__law_same (aCons (cCall m_broken_rules (aCons (cVar 0) (aCons (cVar 1) aNil))) (aCons (cVar 2) aNil))) (cCall m__law_same (aCons (cCall m_is_good (aCons (cVar 0) (aCons (cVar 1) aNil))) (aCons (cVar 3) aNil)))) [some (.tup [FD fs, .tup (rs.map rp)]), some (.tup as), some (.tup (brkL as 0 rs)), some (.bl g), p] S2) := by
    intro g S2 hg hF2 F2 p
    simp only [↓reduceIte, ↓W_ok, ↓W_exn, ↓W_var0, ↓W_varS, ↓W_K, ↓W_bin, ↓W_un, ↓W_aNil, ↓W_aCons, ↓W_arg, ↓W_call, ↓W_of, ↓WB_test, ↓tc_bl, ↓WB_tru, ↓trc, ↓WB_and, ↓WB_or, ↓WB_not, ↓W_if, ↓W_andV, ↓W_orV, ↓W_notV, ↓WM_some, ↓WM_none, ↓WO_some, ↓tr_bl, ↓tr_non, ↓tr_int, ↓tr_tup, ↓tr_rol, ↓WS_nx, ↓WS_rt, ↓WS_ct, ↓WS_bk, ↓WS_exn, ↓WS_seq, ↓WS_nil, ↓WS_retN, ↓WS_break, ↓WS_cont, ↓WS_expr, ↓WS_ret, ↓WS_if, ↓WS_set, ↓WS_par, ↓WS_asg, ↓WS_gSet, ↓WS_gN, ↓WS_gC, ↓WS_gUn, ↓WS_gSub, ↓WS_aug, ↓o_add, ↓o_iadd, ↓o_sub, ↓o_neg, ↓o_mul, ↓o_mod, ↓o_div, ↓o_pow, ↓o_addT, ↓o_addS, ↓o_addL, ↓o_lt, ↓o_le, ↓o_gt, ↓o_ge, ↓o_eq, ↓o_ne, ↓o_eqS, ↓o_neS, ↓o_eqB, ↓o_neB, ↓o_eqT, ↓o_neT, ↓o_eqN, ↓o_neN, ↓o_ltT, ↓o_leT, ↓o_is, ↓o_isnot, ↓o_isB, ↓o_isnotB, ↓o_inT, ↓o_ninT, ↓o_inL, ↓o_ninL, ↓o_ixT, ↓o_ixR, ↓o_ixL, ↓o_ixS, ↓o_str, ↓o_strS, ↓o_set, ↓o_lenT, ↓o_lenR, ↓o_lenL, ↓o_lenS, ↓o_int, ↓o_intT, ↓o_intF, ↓o_abs, ↓o_max, ↓o_min, ↓o_tuple, ↓o_list, ↓o_tup0, ↓o_tup1, ↓o_tup2, ↓o_tup3, ↓o_tup4, ↓o_tup5, ↓o_tup6, ↓o_lst0, ↓o_lst1, ↓o_lst2, ↓o_lst3, ↓o_lst4, ↓o_lst5, ↓o_lst6, ↓o_sum, ↓W_meth, ↓o_append, ↓o_extend, ↓o_popAt, ↓W_cut, ↓W_noPart, ↓W_part, ↓o_cutT, ↓o_cutR, ↓o_cutL, ↓W_isi, ↓W_ch, ↓WS_for, ↓WI_iter, ↓WI_range1, ↓WI_range2, ↓WI_range3, ↓WI_enum, ↓WS_f0, ↓WS_f1, ↓W_alloc, ↓W_ofL, ↓W_comp, ↓WB_yes, ↓W_c0, ↓W_c1, ↓W_listRg, ↓W_tupRg, ↓W_rRange1, ↓W_rRange2, o_intT, o_intF, o_intB, o_ixL, o_ixT, beq_self_eq_true, decide_true, decide_false, okEq, okCmp, okIn, D.fits, D.fitsL, D.dep, D.depL, D.eqv, D.eqvL, D.alike, D.alikeL, isBl_bl, isN_non, isN_bl, isN_int, isN_str, isN_tup, isN_rol, isN_loc, Nat.reduceAdd, Nat.reduceSub, Nat.max_self, Nat.min_self, Nat.max_zero, Nat.zero_max, Nat.min_zero, Nat.zero_min, ty_non, ty_bl, ty_int, ty_str, ty_tup, ty_rol, ty_loc, kb_bool_bool, kb_bool_int, kb_bool_str, kb_bool_tuple, kb_bool_list, kb_int_bool, kb_int_int, kb_int_str, kb_int_tuple, kb_int_list, kb_str_bool, kb_str_int, kb_str_str, kb_str_tuple, kb_str_list, kb_tuple_bool, kb_tuple_int, kb_tuple_str, kb_tuple_tuple, kb_tuple_list, kb_list_bool, kb_list_int, kb_list_str, kb_list_tuple, kb_list_list, kb_NoneType_bool, kb_NoneType_int, kb_NoneType_str, kb_NoneType_tuple, kb_NoneType_list, Nat.zero_add, c02, lstAt_setE, Option.map_some, lstAt_set_ne, ne_eq, Nat.reduceEqDiff, Nat.one_ne_zero, Nat.zero_ne_one, ix_1_0, ix_2_0, ix_2_1, ix_3_0, ix_3_1, ix_3_2, ix_4_0, ix_4_1, ix_4_2, ix_4_3, ix_5_0, ix_5_1, ix_5_2, ix_5_3, ix_5_4, ix_6_0, ix_6_1, ix_6_2, ix_6_3, ix_6_4, ix_6_5, Nat.reduceLeDiff, Int.reduceAdd, Int.reduceSub, Int.reduceMul, Int.reduceNeg, Int.reducePow, Int.reduceLT, Int.reduceLE, Int.reduceEq, Int.reduceToNat, Bool.and_true, Bool.true_and, Bool.and_self, Bool.and_false, Bool.false_and, Bool.and_eq_true, Bool.and_eq_false_imp, and_self, WS_qdn, WS_qdr, WS_qde, WS_qdb, WS_qdc, qn1, qn2, qn3, qn4, qn5, qk1, qk5, lq1, lq2, lq3, lq4, lq5, intD_int, items_tup, items_rol, items_loc, listOf_loc, listOf_rol, isL_loc, at0, at1, at2, at3, at4, at5, atl1, atl2, atl3, atl4, lstAt_new, it_tup, it_rol, kTup_eq, kLen_eq, wipe0, wipe1, b_nm, List.set_cons_zero, List.set_cons_succ, List.length_cons, List.length_nil, List.nil_append, List.cons_append, List.append_nil, List.isEmpty_cons, List.isEmpty_nil, true_and, and_true, false_and, and_false, true_implies, forall_const, not_true_eq_false, not_false_eq_true, implies_true, decide_eq_true_eq, decide_eq_false_iff_not, Bool.not_eq_true', Bool.not_eq_false', Bool.not_true, Bool.not_false, if_true, if_false, Bool.false_eq_true, Bool.true_eq_false, reduceCtorEq, false_implies, eq_self]
    refine broken_w hr hl h ?_
    simp only [↓reduceIte, ↓W_ok, ↓W_exn, ↓W_var0, ↓W_varS, ↓W_K, ↓W_bin, ↓W_un, ↓W_aNil, ↓W_aCons, ↓W_arg, ↓W_call, ↓W_of, ↓WB_test, ↓tc_bl, ↓WB_tru, ↓trc, ↓WB_and, ↓WB_or, ↓WB_not, ↓W_if, ↓W_andV, ↓W_orV, ↓W_notV, ↓WM_some, ↓WM_none, ↓WO_some, ↓tr_bl, ↓tr_non, ↓tr_int, ↓tr_tup, ↓tr_rol, ↓WS_nx, ↓WS_rt, ↓WS_ct, ↓WS_bk, ↓WS_exn, ↓WS_seq, ↓WS_nil, ↓WS_retN, ↓WS_break, ↓WS_cont, ↓WS_expr, ↓WS_ret, ↓WS_if, ↓WS_set, ↓WS_par, ↓WS_asg, ↓WS_gSet, ↓WS_gN, ↓WS_gC, ↓WS_gUn, ↓WS_gSub, ↓WS_aug, ↓o_add, ↓o_iadd, ↓o_sub, ↓o_neg, ↓o_mul, ↓o_mod, ↓o_div, ↓o_pow, ↓o_addT, ↓o_addS, ↓o_addL, ↓o_lt, ↓o_le, ↓o_gt, ↓o_ge, ↓o_eq, ↓o_ne, ↓o_eqS, ↓o_neS, ↓o_eqB, ↓o_neB, ↓o_eqT, ↓o_neT, ↓o_eqN, ↓o_neN, ↓o_ltT, ↓o_leT, ↓o_is, ↓o_isnot, ↓o_isB, ↓o_isnotB, ↓o_inT, ↓o_ninT, ↓o_inL, ↓o_ninL, ↓o_ixT, ↓o_ixR, ↓o_ixL, ↓o_ixS, ↓o_str, ↓o_strS, ↓o_set, ↓o_lenT, ↓o_lenR, ↓o_lenL, ↓o_lenS, ↓o_int, ↓o_intT, ↓o_intF, ↓o_abs, ↓o_max, ↓o_min, ↓o_tuple, ↓o_list, ↓o_tup0, ↓o_tup1, ↓o_tup2, ↓o_tup3, ↓o_tup4, ↓o_tup5, ↓o_tup6, ↓o_lst0, ↓o_lst1, ↓o_lst2, ↓o_lst3, ↓o_lst4, ↓o_lst5, ↓o_lst6, ↓o_sum, ↓W_meth, ↓o_append, ↓o_extend, ↓o_popAt, ↓W_cut, ↓W_noPart, ↓W_part, ↓o_cutT, ↓o_cutR, ↓o_cutL, ↓W_isi, ↓W_ch, ↓WS_for, ↓WI_iter, ↓WI_range1, ↓WI_range2, ↓WI_range3, ↓WI_enum, ↓WS_f0, ↓WS_f1, ↓W_alloc, ↓W_ofL, ↓W_comp, ↓WB_yes, ↓W_c0, ↓W_c1, ↓W_listRg, ↓W_tupRg, ↓W_rRange1, ↓W_rRange2, o_intT, o_intF, o_intB, o_ixL, o_ixT, beq_self_eq_true, decide_true, decide_false, okEq, okCmp, okIn, D.fits, D.fitsL, D.dep, D.depL, D.eqv, D.eqvL, D.alike, D.alikeL, isBl_bl, isN_non, isN_bl, isN_int, isN_str, isN_tup, isN_rol, isN_loc, Nat.reduceAdd, Nat.reduceSub, Nat.max_self, Nat.min_self, Nat.max_zero, Nat.zero_max, Nat.min_zero, Nat.zero_min, ty_non, ty_bl, ty_int, ty_str, ty_tup, ty_rol, ty_loc, kb_bool_bool, kb_bool_int, kb_bool_str, kb_bool_tuple, kb_bool_list, kb_int_bool, kb_int_int, kb_int_str, kb_int_tuple, kb_int_list, kb_str_bool, kb_str_int, kb_str_str, kb_str_tuple, kb_str_list, kb_tuple_bool, kb_tuple_int, kb_tuple_str, kb_tuple_tuple, kb_tuple_list, kb_list_bool, kb_list_int, kb_list_str, kb_list_tuple, kb_list_list, kb_NoneType_bool, kb_NoneType_int, kb_NoneType_str, kb_NoneType_tuple, kb_NoneType_list, Nat.zero_add, c02, lstAt_setE, Option.map_some, lstAt_set_ne, ne_eq, Nat.reduceEqDiff, Nat.one_ne_zero, Nat.zero_ne_one, ix_1_0, ix_2_0, ix_2_1, ix_3_0, ix_3_1, ix_3_2, ix_4_0, ix_4_1, ix_4_2, ix_4_3, ix_5_0, ix_5_1, ix_5_2, ix_5_3, ix_5_4, ix_6_0, ix_6_1, ix_6_2, ix_6_3, ix_6_4, ix_6_5, Nat.reduceLeDiff, Int.reduceAdd, Int.reduceSub, Int.reduceMul, Int.reduceNeg, Int.reducePow, Int.reduceLT, Int.reduceLE, Int.reduceEq, Int.reduceToNat, Bool.and_true, Bool.true_and, Bool.and_self, Bool.and_false, Bool.false_and, Bool.and_eq_true, Bool.and_eq_false_imp, and_self, WS_qdn, WS_qdr, WS_qde, WS_qdb, WS_qdc, qn1, qn2, qn3, qn4, qn5, qk1, qk5, lq1, lq2, lq3, lq4, lq5, intD_int, items_tup, items_rol, items_loc, listOf_loc, listOf_rol, isL_loc, at0, at1, at2, at3, at4, at5, atl1, atl2, atl3, atl4, lstAt_new, it_tup, it_rol, kTup_eq, kLen_eq, wipe0, wipe1, b_nm, List.set_cons_zero, List.set_cons_succ, List.length_cons, List.length_nil, List.nil_append, List.cons_append, List.append_nil, List.isEmpty_cons, List.isEmpty_nil, true_and, and_true, false_and, and_false, true_implies, forall_const, not_true_eq_false, not_false_eq_true, implies_true, decide_eq_true_eq, decide_eq_false_iff_not, Bool.not_eq_true', Bool.not_eq_false', Bool.not_true, Bool.not_false, if_true, if_false, Bool.false_eq_true, Bool.true_eq_false, reduceCtorEq, false_implies, eq_self]
    refine same_t hF2 (by rw [D.sz, b2]; omega) (by rw [D.pl]; exact ⟨by omega, b3⟩) fun S3 hF3 F3 => ?_
    simp only [↓reduceIte, ↓W_ok, ↓W_exn, ↓W_var0, ↓W_varS, ↓W_K, ↓W_bin, ↓W_un, ↓W_aNil, ↓W_aCons, ↓W_arg, ↓W_call, ↓W_of, ↓WB_test, ↓tc_bl, ↓WB_tru, ↓trc, ↓WB_and, ↓WB_or, ↓WB_not, ↓W_if, ↓W_andV, ↓W_orV, ↓W_notV, ↓WM_some, ↓WM_none, ↓WO_some, ↓tr_bl, ↓tr_non, ↓tr_int, ↓tr_tup, ↓tr_rol, ↓WS_nx, ↓WS_rt, ↓WS_ct, ↓WS_bk, ↓WS_exn, ↓WS_seq, ↓WS_nil, ↓WS_retN, ↓WS_break, ↓WS_cont, ↓WS_expr, ↓WS_ret, ↓WS_if, ↓WS_set, ↓WS_par, ↓WS_asg, ↓WS_gSet, ↓WS_gN, ↓WS_gC, ↓WS_gUn, ↓WS_gSub, ↓WS_aug, ↓o_add, ↓o_iadd, ↓o_sub, ↓o_neg, ↓o_mul, ↓o_mod, ↓o_div, ↓o_pow, ↓o_addT, ↓o_addS, ↓o_addL, ↓o_lt, ↓o_le, ↓o_gt, ↓o_ge, ↓o_eq, ↓o_ne, ↓o_eqS, ↓o_neS, ↓o_eqB, ↓o_neB, ↓o_eqT, ↓o_neT, ↓o_eqN, ↓o_neN, ↓o_ltT, ↓o_leT, ↓o_is, ↓o_isnot, ↓o_isB, ↓o_isnotB, ↓o_inT, ↓o_ninT, ↓o_inL, ↓o_ninL, ↓o_ixT, ↓o_ixR, ↓o_ixL, ↓o_ixS, ↓o_str, ↓o_strS, ↓o_set, ↓o_lenT, ↓o_lenR, ↓o_lenL, ↓o_lenS, ↓o_int, ↓o_intT, ↓o_intF, ↓o_abs, ↓o_max, ↓o_min, ↓o_tuple, ↓o_list, ↓o_tup0, ↓o_tup1, ↓o_tup2, ↓o_tup3, ↓o_tup4, ↓o_tup5, ↓o_tup6, ↓o_lst0, ↓o_lst1, ↓o_lst2, ↓o_lst3, ↓o_lst4, ↓o_lst5, ↓o_lst6, ↓o_sum, ↓W_meth, ↓o_append, ↓o_extend, ↓o_popAt, ↓W_cut, ↓W_noPart, ↓W_part, ↓o_cutT, ↓o_cutR, ↓o_cutL, ↓W_isi, ↓W_ch, ↓WS_for, ↓WI_iter, ↓WI_range1, ↓WI_range2, ↓WI_range3, ↓WI_enum, ↓WS_f0, ↓WS_f1, ↓W_alloc, ↓W_ofL, ↓W_comp, ↓WB_yes, ↓W_c0, ↓W_c1, ↓W_listRg, ↓W_tupRg, ↓W_rRange1, ↓W_rRange2, o_intT, o_intF, o_intB, o_ixL, o_ixT, beq_self_eq_true, decide_true, decide_false, okEq, okCmp, okIn, D.fits, D.fitsL, D.dep, D.depL, D.eqv, D.eqvL, D.alike, D.alikeL, isBl_bl, isN_non, isN_bl, isN_int, isN_str, isN_tup, isN_rol, isN_loc, Nat.reduceAdd, Nat.reduceSub, Nat.max_self, Nat.min_self, Nat.max_zero, Nat.zero_max, Nat.min_zero, Nat.zero_min, ty_non, ty_bl, ty_int, ty_str, ty_tup, ty_rol, ty_loc, kb_bool_bool, kb_bool_int, kb_bool_str, kb_bool_tuple, kb_bool_list, kb_int_bool, kb_int_int, kb_int_str, kb_int_tuple, kb_int_list, kb_str_bool, kb_str_int, kb_str_str, kb_str_tuple, kb_str_list, kb_tuple_bool, kb_tuple_int, kb_tuple_str, kb_tuple_tuple, kb_tuple_list, kb_list_bool, kb_list_int, kb_list_str, kb_list_tuple, kb_list_list, kb_NoneType_bool, kb_NoneType_int, kb_NoneType_str, kb_NoneType_tuple, kb_NoneType_list, Nat.zero_add, c02, lstAt_setE, Option.map_some, lstAt_set_ne, ne_eq, Nat.reduceEqDiff, Nat.one_ne_zero, Nat.zero_ne_one, ix_1_0, ix_2_0, ix_2_1, ix_3_0, ix_3_1, ix_3_2, ix_4_0, ix_4_1, ix_4_2, ix_4_3, ix_5_0, ix_5_1, ix_5_2, ix_5_3, ix_5_4, ix_6_0, ix_6_1, ix_6_2, ix_6_3, ix_6_4, ix_6_5, Nat.reduceLeDiff, Int.reduceAdd, Int.reduceSub, Int.reduceMul, Int.reduceNeg, Int.reducePow, Int.reduceLT, Int.reduceLE, Int.reduceEq, Int.reduceToNat, Bool.and_true, Bool.true_and, Bool.and_self, Bool.and_false, Bool.false_and, Bool.and_eq_true, Bool.and_eq_false_imp, and_self, WS_qdn, WS_qdr, WS_qde, WS_qdb, WS_qdc, qn1, qn2, qn3, qn4, qn5, qk1, qk5, lq1, lq2, lq3, lq4, lq5, intD_int, items_tup, items_rol, items_loc, listOf_loc, listOf_rol, isL_loc, at0, at1, at2, at3, at4, at5, atl1, atl2, atl3, atl4, lstAt_new, it_tup, it_rol, kTup_eq, kLen_eq, wipe0, wipe1, b_nm, List.set_cons_zero, List.set_cons_succ, List.length_cons, List.length_nil, List.nil_append, List.cons_append, List.append_nil, List.isEmpty_cons, List.isEmpty_nil, true_and, and_true, false_and, and_false, true_implies, forall_const, not_true_eq_false, not_false_eq_true, implies_true, decide_eq_true_eq, decide_eq_false_iff_not, Bool.not_eq_true', Bool.not_eq_false', Bool.not_true, Bool.not_false, if_true, if_false, Bool.false_eq_true, Bool.true_eq_false, reduceCtorEq, false_implies, eq_self]
    refine good_w hr h ?_
    simp only [↓reduceIte, ↓W_ok, ↓W_exn, ↓W_var0, ↓W_varS, ↓W_K, ↓W_bin, ↓W_un, ↓W_aNil, ↓W_aCons, ↓W_arg, ↓W_call, ↓W_of, ↓WB_test, ↓tc_bl, ↓WB_tru, ↓trc, ↓WB_and, ↓WB_or, ↓WB_not, ↓W_if, ↓W_andV, ↓W_orV, ↓W_notV, ↓WM_some, ↓WM_none, ↓WO_some, ↓tr_bl, ↓tr_non, ↓tr_int, ↓tr_tup, ↓tr_rol, ↓WS_nx, ↓WS_rt, ↓WS_ct, ↓WS_bk, ↓WS_exn, ↓WS_seq, ↓WS_nil, ↓WS_retN, ↓WS_break, ↓WS_cont, ↓WS_expr, ↓WS_ret, ↓WS_if, ↓WS_set, ↓WS_par, ↓WS_asg, ↓WS_gSet, ↓WS_gN, ↓WS_gC, ↓WS_gUn, ↓WS_gSub, ↓WS_aug, ↓o_add, ↓o_iadd, ↓o_sub, ↓o_neg, ↓o_mul, ↓o_mod, ↓o_div, ↓o_pow, ↓o_addT, ↓o_addS, ↓o_addL, ↓o_lt, ↓o_le, ↓o_gt, ↓o_ge, ↓o_eq, ↓o_ne, ↓o_eqS, ↓o_neS, ↓o_eqB, ↓o_neB, ↓o_eqT, ↓o_neT, ↓o_eqN, ↓o_neN, ↓o_ltT, ↓o_leT, ↓o_is, ↓o_isnot, ↓o_isB, ↓o_isnotB, ↓o_inT, ↓o_ninT, ↓o_inL, ↓o_ninL, ↓o_ixT, ↓o_ixR, ↓o_ixL, ↓o_ixS, ↓o_str, ↓o_strS, ↓o_set, ↓o_lenT, ↓o_lenR, ↓o_lenL, ↓o_lenS, ↓o_int, ↓o_intT, ↓o_intF, ↓o_abs, ↓o_max, ↓o_min, ↓o_tuple, ↓o_list, ↓o_tup0, ↓o_tup1, ↓o_tup2, ↓o_tup3, ↓o_tup4, ↓o_tup5, ↓o_tup6, ↓o_lst0, ↓o_lst1, ↓o_lst2, ↓o_lst3, ↓o_lst4, ↓o_lst5, ↓o_lst6, ↓o_sum, ↓W_meth, ↓o_append, ↓o_extend, ↓o_popAt, ↓W_cut, ↓W_noPart, ↓W_part, ↓o_cutT, ↓o_cutR, ↓o_cutL, ↓W_isi, ↓W_ch, ↓WS_for, ↓WI_iter, ↓WI_range1, ↓WI_range2, ↓WI_range3, ↓WI_enum, ↓WS_f0, ↓WS_f1, ↓W_alloc, ↓W_ofL, ↓W_comp, ↓WB_yes, ↓W_c0, ↓W_c1, ↓W_listRg, ↓W_tupRg, ↓W_rRange1, ↓W_rRange2, o_intT, o_intF, o_intB, o_ixL, o_ixT, beq_self_eq_true, decide_true, decide_false, okEq, okCmp, okIn, D.fits, D.fitsL, D.dep, D.depL, D.eqv, D.eqvL, D.alike, D.alikeL, isBl_bl, isN_non, isN_bl, isN_int, isN_str, isN_tup, isN_rol, isN_loc, Nat.reduceAdd, Nat.reduceSub, Nat.max_self, Nat.min_self, Nat.max_zero, Nat.zero_max, Nat.min_zero, Nat.zero_min, ty_non, ty_bl, ty_int, ty_str, ty_tup, ty_rol, ty_loc, kb_bool_bool, kb_bool_int, kb_bool_str, kb_bool_tuple, kb_bool_list, kb_int_bool, kb_int_int, kb_int_str, kb_int_tuple, kb_int_list, kb_str_bool, kb_str_int, kb_str_str, kb_str_tuple, kb_str_list, kb_tuple_bool, kb_tuple_int, kb_tuple_str, kb_tuple_tuple, kb_tuple_list, kb_list_bool, kb_list_int, kb_list_str, kb_list_tuple, kb_list_list, kb_NoneType_bool, kb_NoneType_int, kb_NoneType_str, kb_NoneType_tuple, kb_NoneType_list, Nat.zero_add, c02, lstAt_setE, Option.map_some, lstAt_set_ne, ne_eq, Nat.reduceEqDiff, Nat.one_ne_zero, Nat.zero_ne_one, ix_1_0, ix_2_0, ix_2_1, ix_3_0, ix_3_1, ix_3_2, ix_4_0, ix_4_1, ix_4_2, ix_4_3, ix_5_0, ix_5_1, ix_5_2, ix_5_3, ix_5_4, ix_6_0, ix_6_1, ix_6_2, ix_6_3, ix_6_4, ix_6_5, Nat.reduceLeDiff, Int.reduceAdd, Int.reduceSub, Int.reduceMul, Int.reduceNeg, Int.reducePow, Int.reduceLT, Int.reduceLE, Int.reduceEq, Int.reduceToNat, Bool.and_true, Bool.true_and, Bool.and_self, Bool.and_false, Bool.false_and, Bool.and_eq_true, Bool.and_eq_false_imp, and_self, WS_qdn, WS_qdr, WS_qde, WS_qdb, WS_qdc, qn1, qn2, qn3, qn4, qn5, qk1, qk5, lq1, lq2, lq3, lq4, lq5, intD_int, items_tup, items_rol, items_loc, listOf_loc, listOf_rol, isL_loc, at0, at1, at2, at3, at4, at5, atl1, atl2, atl3, atl4, lstAt_new, it_tup, it_rol, kTup_eq, kLen_eq, wipe0, wipe1, b_nm, List.set_cons_zero, List.set_cons_succ, List.length_cons, List.length_nil, List.nil_append, List.cons_append, List.append_nil, List.isEmpty_cons, List.isEmpty_nil, true_and, and_true, false_and, and_false, true_implies, forall_const, not_true_eq_false, not_false_eq_true, implies_true, decide_eq_true_eq, decide_eq_false_iff_not, Bool.not_eq_true', Bool.not_eq_false', Bool.not_true, Bool.not_false, if_true, if_false, Bool.false_eq_true, Bool.true_eq_false, reduceCtorEq, false_implies, eq_self]
    rw [← hg]
    refine same_t hF3 (by simp [D.sz]) (by simp only [D.pl]) fun S4 hF4 F4 => ?_
    exact hq _ hF4 ((F2.trans F3).trans F4)
  simp only [↓reduceIte, ↓W_ok, ↓W_exn, ↓W_var0, ↓W_varS, ↓W_K, ↓W_bin, ↓W_un, ↓W_aNil, ↓W_aCons, ↓W_arg, ↓W_call, ↓W_of, ↓WB_test, ↓tc_bl, ↓WB_tru, ↓trc, ↓WB_and, ↓WB_or, ↓WB_not, ↓W_if, ↓W_andV, ↓W_orV, ↓W_notV, ↓WM_some, ↓WM_none, ↓WO_some, ↓tr_bl, ↓tr_non, ↓tr_int, ↓tr_tup, ↓tr_rol, ↓WS_nx, ↓WS_rt, ↓WS_ct, ↓WS_bk, ↓WS_exn, ↓WS_seq, ↓WS_nil, ↓WS_retN, ↓WS_break, ↓WS_cont, ↓WS_expr, ↓WS_if, ↓WS_set, ↓WS_par, ↓WS_asg, ↓WS_gSet, ↓WS_gN, ↓WS_gC, ↓WS_gUn, ↓WS_gSub, ↓WS_aug, ↓o_add, ↓o_iadd, ↓o_sub, ↓o_neg, ↓o_mul, ↓o_mod, ↓o_div, ↓o_pow, ↓o_addT, ↓o_addS, ↓o_addL, ↓o_lt, ↓o_le, ↓o_gt, ↓o_ge, ↓o_eq, ↓o_ne, ↓o_eqS, ↓o_neS, ↓o_eqB, ↓o_neB, ↓o_eqT, ↓o_neT, ↓o_eqN, ↓o_neN, ↓o_ltT, ↓o_leT, ↓o_is, ↓o_isnot, ↓o_isB, ↓o_isnotB, ↓o_inT, ↓o_ninT, ↓o_inL, ↓o_ninL, ↓o_ixT, ↓o_ixR, ↓o_ixL, ↓o_ixS, ↓o_str, ↓o_strS, ↓o_set, ↓o_lenT, ↓o_lenR, ↓o_lenL, ↓o_lenS, ↓o_int, ↓o_intT, ↓o_intF, ↓o_abs, ↓o_max, ↓o_min, ↓o_tuple, ↓o_list, ↓o_tup0, ↓o_tup1, ↓o_tup2, ↓o_tup3, ↓o_tup4, ↓o_tup5, ↓o_tup6, ↓o_lst0, ↓o_lst1, ↓o_lst2, ↓o_lst3, ↓o_lst4, ↓o_lst5, ↓o_lst6, ↓o_sum, ↓W_meth, ↓o_append, ↓o_extend, ↓o_popAt, ↓W_cut, ↓W_noPart, ↓W_part, ↓o_cutT, ↓o_cutR, ↓o_cutL, ↓W_isi, ↓W_ch, ↓WS_for, ↓WI_iter, ↓WI_range1, ↓WI_range2, ↓WI_range3, ↓WI_enum, ↓WS_f0, ↓WS_f1, ↓W_alloc, ↓W_ofL, ↓W_comp, ↓WB_yes, ↓W_c0, ↓W_c1, ↓W_listRg, ↓W_tupRg, ↓W_rRange1, ↓W_rRange2, o_intT, o_intF, o_intB, o_ixL, o_ixT, beq_self_eq_true, decide_true, decide_false, okEq, okCmp, okIn, D.fits, D.fitsL, D.dep, D.depL, D.eqv, D.eqvL, D.alike, D.alikeL, isBl_bl, isN_non, isN_bl, isN_int, isN_str, isN_tup, isN_rol, isN_loc, Nat.reduceAdd, Nat.reduceSub, Nat.max_self, Nat.min_self, Nat.max_zero, Nat.zero_max, Nat.min_zero, Nat.zero_min, ty_non, ty_bl, ty_int, ty_str, ty_tup, ty_rol, ty_loc, kb_bool_bool, kb_bool_int, kb_bool_str, kb_bool_tuple, kb_bool_list, kb_int_bool, kb_int_int, kb_int_str, kb_int_tuple, kb_int_list, kb_str_bool, kb_str_int, kb_str_str, kb_str_tuple, kb_str_list, kb_tuple_bool, kb_tuple_int, kb_tuple_str, kb_tuple_tuple, kb_tuple_list, kb_list_bool, kb_list_int, kb_list_str, kb_list_tuple, kb_list_list, kb_NoneType_bool, kb_NoneType_int, kb_NoneType_str, kb_NoneType_tuple, kb_NoneType_list, Nat.zero_add, c02, lstAt_setE, Option.map_some, lstAt_set_ne, ne_eq, Nat.reduceEqDiff, Nat.one_ne_zero, Nat.zero_ne_one, ix_1_0, ix_2_0, ix_2_1, ix_3_0, ix_3_1, ix_3_2, ix_4_0, ix_4_1, ix_4_2, ix_4_3, ix_5_0, ix_5_1, ix_5_2, ix_5_3, ix_5_4, ix_6_0, ix_6_1, ix_6_2, ix_6_3, ix_6_4, ix_6_5, Nat.reduceLeDiff, Int.reduceAdd, Int.reduceSub, Int.reduceMul, Int.reduceNeg, Int.reducePow, Int.reduceLT, Int.reduceLE, Int.reduceEq, Int.reduceToNat, Bool.and_true, Bool.true_and, Bool.and_self, Bool.and_false, Bool.false_and, Bool.and_eq_true, Bool.and_eq_false_imp, and_self, WS_qdn, WS_qdr, WS_qde, WS_qdb, WS_qdc, qn1, qn2, qn3, qn4, qn5, qk1, qk5, lq1, lq2, lq3, lq4, lq5, intD_int, items_tup, items_rol, items_loc, listOf_loc, listOf_rol, isL_loc, at0, at1, at2, at3, at4, at5, atl1, atl2, atl3, atl4, lstAt_new, it_tup, it_rol, kTup_eq, kLen_eq, wipe0, wipe1, b_nm, List.set_cons_zero, List.set_cons_succ, List.length_cons, List.length_nil, List.nil_append, List.cons_append, List.append_nil, List.isEmpty_cons, List.isEmpty_nil, true_and, and_true, false_and, and_false, true_implies, forall_const, not_true_eq_false, not_false_eq_true, implies_true, decide_eq_true_eq, decide_eq_false_iff_not, Bool.not_eq_true', Bool.not_eq_false', Bool.not_true, Bool.not_false, if_true, if_false, Bool.false_eq_true, Bool.true_eq_false, reduceCtorEq, false_implies, eq_self]
  refine ⟨fun e => ?_, fun e => ?_⟩
  · refine W_cFilt isNon id trivial (by rw [sizeLine_eq]; simp; omega) (fun d hd => ?_) ?_
    · simp only [↓reduceIte, ↓W_ok, ↓W_exn, ↓W_var0, ↓W_varS, ↓W_K, ↓W_bin, ↓W_un, ↓W_aNil, ↓W_aCons, ↓W_arg, ↓W_call, ↓W_of, ↓WB_test, ↓tc_bl, ↓WB_tru, ↓trc, ↓WB_and, ↓WB_or, ↓WB_not, ↓W_if, ↓W_andV, ↓W_orV, ↓W_notV, ↓WM_some, ↓WM_none, ↓WO_some, ↓tr_bl, ↓tr_non, ↓tr_int, ↓tr_tup, ↓tr_rol, ↓WS_nx, ↓WS_rt, ↓WS_ct, ↓WS_bk, ↓WS_exn, ↓WS_seq, ↓WS_nil, ↓WS_retN, ↓WS_break, ↓WS_cont, ↓WS_expr, ↓WS_ret, ↓WS_if, ↓WS_set, ↓WS_par, ↓WS_asg, ↓WS_gSet, ↓WS_gN, ↓WS_gC, ↓WS_gUn, ↓WS_gSub, ↓WS_aug, ↓o_add, ↓o_iadd, ↓o_sub, ↓o_neg, ↓o_mul, ↓o_mod, ↓o_div, ↓o_pow, ↓o_addT, ↓o_addS, ↓o_addL, ↓o_lt, ↓o_le, ↓o_gt, ↓o_ge, ↓o_eq, ↓o_ne, ↓o_eqS, ↓o_neS, ↓o_eqB, ↓o_neB, ↓o_eqT, ↓o_neT, ↓o_eqN, ↓o_neN, ↓o_ltT, ↓o_leT, ↓o_is, ↓o_isnot, ↓o_isB, ↓o_isnotB, ↓o_inT, ↓o_ninT, ↓o_inL, ↓o_ninL, ↓o_ixT, ↓o_ixR, ↓o_ixL, ↓o_ixS, ↓o_str, ↓o_strS, ↓o_set, ↓o_lenT, ↓o_lenR, ↓o_lenL, ↓o_lenS, ↓o_int, ↓o_intT, ↓o_intF, ↓o_abs, ↓o_max, ↓o_min, ↓o_tuple, ↓o_list, ↓o_tup0, ↓o_tup1, ↓o_tup2, ↓o_tup3, ↓o_tup4, ↓o_tup5, ↓o_tup6, ↓o_lst0, ↓o_lst1, ↓o_lst2, ↓o_lst3, ↓o_lst4, ↓o_lst5, ↓o_lst6, ↓o_sum, ↓W_meth, ↓o_append, ↓o_extend, ↓o_popAt, ↓W_cut, ↓W_noPart, ↓W_part, ↓o_cutT, ↓o_cutR, ↓o_cutL, ↓W_isi, ↓W_ch, ↓WS_for, ↓WI_iter, ↓WI_range1, ↓WI_range2, ↓WI_range3, ↓WI_enum, ↓WS_f0, ↓WS_f1, ↓W_alloc, ↓W_ofL, ↓W_comp, ↓WB_yes, ↓W_c0, ↓W_c1, ↓W_listRg, ↓W_tupRg, ↓W_rRange1, ↓W_rRange2, o_intT, o_intF, o_intB, o_ixL, o_ixT, beq_self_eq_true, decide_true, decide_false, okEq, okCmp, okIn, D.fits, D.fitsL, D.dep, D.depL, D.eqv, D.eqvL, D.alike, D.alikeL, isBl_bl, isN_non, isN_bl, isN_int, isN_str, isN_tup, isN_rol, isN_loc, Nat.reduceAdd, Nat.reduceSub, Nat.max_self, Nat.min_self, Nat.max_zero, Nat.zero_max, Nat.min_zero, Nat.zero_min, ty_non, ty_bl, ty_int, ty_str, ty_tup, ty_rol, ty_loc, kb_bool_bool, kb_bool_int, kb_bool_str, kb_bool_tuple, kb_bool_list, kb_int_bool, kb_int_int, kb_int_str, kb_int_tuple, kb_int_list, kb_str_bool, kb_str_int, kb_str_str, kb_str_tuple, kb_str_list, kb_tuple_bool, kb_tuple_int, kb_tuple_str, kb_tuple_tuple, kb_tuple_list, kb_list_bool, kb_list_int, kb_list_str, kb_list_tuple, kb_list_list, kb_NoneType_bool, kb_NoneType_int, kb_NoneType_str, kb_NoneType_tuple, kb_NoneType_list, Nat.zero_add, c02, lstAt_setE, Option.map_some, lstAt_set_ne, ne_eq, Nat.reduceEqDiff, Nat.one_ne_zero, Nat.zero_ne_one, ix_1_0, ix_2_0, ix_2_1, ix_3_0, ix_3_1, ix_3_2, ix_4_0, ix_4_1, ix_4_2, ix_4_3, ix_5_0, ix_5_1, ix_5_2, ix_5_3, ix_5_4, ix_6_0, ix_6_1, ix_6_2, ix_6_3, ix_6_4, ix_6_5, Nat.reduceLeDiff, Int.reduceAdd, Int.reduceSub, Int.reduceMul, Int.reduceNeg, Int.reducePow, Int.reduceLT, Int.reduceLE, Int.reduceEq, Int.reduceToNat, Bool.and_true, Bool.true_and, Bool.and_self, Bool.and_false, Bool.false_and, Bool.and_eq_true, Bool.and_eq_false_imp, and_self, WS_qdn, WS_qdr, WS_qde, WS_qdb, WS_qdc, qn1, qn2, qn3, qn4, qn5, qk1, qk5, lq1, lq2, lq3, lq4, lq5, intD_int, items_tup, items_rol, items_loc, listOf_loc, listOf_rol, isL_loc, at0, at1, at2, at3, at4, at5, atl1, atl2, atl3, atl4, lstAt_new, it_tup, it_rol, kTup_eq, kLen_eq, wipe0, wipe1, b_nm, List.set_cons_zero, List.set_cons_succ, List.length_cons, List.length_nil, List.nil_append, List.cons_append, List.append_nil, List.isEmpty_cons, List.isEmpty_nil, true_and, and_true, false_and, and_false, true_implies, forall_const, not_true_eq_false, not_false_eq_true, implies_true, decide_eq_true_eq, decide_eq_false_iff_not, Bool.not_eq_true', Bool.not_eq_false', Bool.not_true, Bool.not_false, if_true, if_false, Bool.false_eq_true, Bool.true_eq_false, reduceCtorEq, false_implies, eq_self]
      cases isNon d <;> simp
    · rw [List.nil_append, List.map_id]
      rw [e0] at e
      simp only [↓reduceIte, ↓W_ok, ↓W_exn, ↓W_var0, ↓W_varS, ↓W_K, ↓W_bin, ↓W_un, ↓W_aNil, ↓W_aCons, ↓W_arg, ↓W_call, ↓W_of, ↓WB_test, ↓tc_bl, ↓WB_tru, ↓trc, ↓WB_and, ↓WB_or, ↓WB_not, ↓W_if, ↓W_andV, ↓W_orV, ↓W_notV, ↓WM_some, ↓WM_none, ↓WO_some, ↓tr_bl, ↓tr_non, ↓tr_int, ↓tr_tup, ↓tr_rol, ↓WS_nx, ↓WS_rt, ↓WS_ct, ↓WS_bk, ↓WS_exn, ↓WS_seq, ↓WS_nil, ↓WS_retN, ↓WS_break, ↓WS_cont, ↓WS_expr, ↓WS_if, ↓WS_set, ↓WS_par, ↓WS_asg, ↓WS_gSet, ↓WS_gN, ↓WS_gC, ↓WS_gUn, ↓WS_gSub, ↓WS_aug, ↓o_add, ↓o_iadd, ↓o_sub, ↓o_neg, ↓o_mul, ↓o_mod, ↓o_div, ↓o_pow, ↓o_addT, ↓o_addS, ↓o_addL, ↓o_lt, ↓o_le, ↓o_gt, ↓o_ge, ↓o_eq, ↓o_ne, ↓o_eqS, ↓o_neS, ↓o_eqB, ↓o_neB, ↓o_eqT, ↓o_neT, ↓o_eqN, ↓o_neN, ↓o_ltT, ↓o_leT, ↓o_is, ↓o_isnot, ↓o_isB, ↓o_isnotB, ↓o_inT, ↓o_ninT, ↓o_inL, ↓o_ninL, ↓o_ixT, ↓o_ixR, ↓o_ixL, ↓o_ixS, ↓o_str, ↓o_strS, ↓o_set, ↓o_lenT, ↓o_lenR, ↓o_lenL, ↓o_lenS, ↓o_int, ↓o_intT, ↓o_intF, ↓o_abs, ↓o_max, ↓o_min, ↓o_tuple, ↓o_list, ↓o_tup0, ↓o_tup1, ↓o_tup2, ↓o_tup3, ↓o_tup4, ↓o_tup5, ↓o_tup6, ↓o_lst0, ↓o_lst1, ↓o_lst2, ↓o_lst3, ↓o_lst4, ↓o_lst5, ↓o_lst6, ↓o_sum, ↓W_meth, ↓o_append, ↓o_extend, ↓o_popAt, ↓W_cut, ↓W_noPart, ↓W_part, ↓o_cutT, ↓o_cutR, ↓o_cutL, ↓W_isi, ↓W_ch, ↓WS_for, ↓WI_iter, ↓WI_range1, ↓WI_range2, ↓WI_range3, ↓WI_enum, ↓WS_f0, ↓WS_f1, ↓W_alloc, ↓W_ofL, ↓W_comp, ↓WB_yes, ↓W_c0, ↓W_c1, ↓W_listRg, ↓W_tupRg, ↓W_rRange1, ↓W_rRange2, o_intT, o_intF, o_intB, o_ixL, o_ixT, beq_self_eq_true, decide_true, decide_false, okEq, okCmp, okIn, D.fits, D.fitsL, D.dep, D.depL, D.eqv, D.eqvL, D.alike, D.alikeL, isBl_bl, isN_non, isN_bl, isN_int, isN_str, isN_tup, isN_rol, isN_loc, Nat.reduceAdd, Nat.reduceSub, Nat.max_self, Nat.min_self, Nat.max_zero, Nat.zero_max, Nat.min_zero, Nat.zero_min, ty_non, ty_bl, ty_int, ty_str, ty_tup, ty_rol, ty_loc, kb_bool_bool, kb_bool_int, kb_bool_str, kb_bool_tuple, kb_bool_list, kb_int_bool, kb_int_int, kb_int_str, kb_int_tuple, kb_int_list, kb_str_bool, kb_str_int, kb_str_str, kb_str_tuple, kb_str_list, kb_tuple_bool, kb_tuple_int, kb_tuple_str, kb_tuple_tuple, kb_tuple_list, kb_list_bool, kb_list_int, kb_list_str, kb_list_tuple, kb_list_list, kb_NoneType_bool, kb_NoneType_int, kb_NoneType_str, kb_NoneType_tuple, kb_NoneType_list, Nat.zero_add, c02, lstAt_setE, Option.map_some, lstAt_set_ne, ne_eq, Nat.reduceEqDiff, Nat.one_ne_zero, Nat.zero_ne_one, ix_1_0, ix_2_0, ix_2_1, ix_3_0, ix_3_1, ix_3_2, ix_4_0, ix_4_1, ix_4_2, ix_4_3, ix_5_0, ix_5_1, ix_5_2, ix_5_3, ix_5_4, ix_6_0, ix_6_1, ix_6_2, ix_6_3, ix_6_4, ix_6_5, Nat.reduceLeDiff, Int.reduceAdd, Int.reduceSub, Int.reduceMul, Int.reduceNeg, Int.reducePow, Int.reduceLT, Int.reduceLE, Int.reduceEq, Int.reduceToNat, Bool.and_true, Bool.true_and, Bool.and_self, Bool.and_false, Bool.false_and, Bool.and_eq_true, Bool.and_eq_false_imp, and_self, WS_qdn, WS_qdr, WS_qde, WS_qdb, WS_qdc, qn1, qn2, qn3, qn4, qn5, qk1, qk5, lq1, lq2, lq3, lq4, lq5, intD_int, items_tup, items_rol, items_loc, listOf_loc, listOf_rol, isL_loc, at0, at1, at2, at3, at4, at5, atl1, atl2, atl3, atl4, lstAt_new, it_tup, it_rol, kTup_eq, kLen_eq, wipe0, wipe1, b_nm, List.set_cons_zero, List.set_cons_succ, List.length_cons, List.length_nil, List.nil_append, List.cons_append, List.append_nil, List.isEmpty_cons, List.isEmpty_nil, true_and, and_true, false_and, and_false, true_implies, forall_const, not_true_eq_false, not_false_eq_true, implies_true, decide_eq_true_eq, decide_eq_false_iff_not, Bool.not_eq_true', Bool.not_eq_false', Bool.not_true, Bool.not_false, if_true, if_false, Bool.false_eq_true, Bool.true_eq_false, reduceCtorEq, false_implies, eq_self]
      refine fin _ _ ?_ hF1 F1 _
      rw [e, Bool.and_true]
      rw [Bool.eq_iff_iff, decide_eq_true_eq, e1]
  · refine fin _ _ ?_ hF1 F1 _
    rw [e0] at e
    simp only [Bool.not_eq_true] at e
    rw [e, Bool.and_false, decide_eq_false_iff_not, e0, e]
    simp
end
end LW

namespace LW
open PySem PySem.Spec PyProof.Rows L2 DL
section
variable {x : XQ} {Q : D → Store → Prop} {tt : Tg (x, Q)} {S : Store} {s t : Sy}
theorem names_w {many : Int} (hF : FeedOk S) (h0 : 0 ≤ many) (h1 : many ≤ 100) (h : ∀ (ns : List Str) S' l, (ns.length : Int) = many → (∀ n ∈ ns, NmOk n) → FeedOk S' → Fr S S' → S.length ≤ l → lstAt S' l = some (ns.map D.str) → Q (.loc l) S') : W (x, Q) tt (m__law_names [.loc 1, .int many] S) := by
  have h2 := hF.len
  simp only [↓reduceIte, ↓W_ok, ↓W_exn, ↓W_var0, ↓W_varS, ↓W_K, ↓W_bin, ↓W_un, ↓W_aNil, ↓W_aCons, ↓W_arg, ↓W_call, ↓W_of, ↓WB_test, ↓tc_bl, ↓WB_tru, ↓trc, ↓WB_and, ↓WB_or, ↓WB_not, ↓W_if, ↓W_andV, ↓W_orV, ↓W_notV, ↓WM_some, ↓WM_none, ↓WO_some, ↓tr_bl, ↓tr_non, ↓tr_int, ↓tr_tup, ↓tr_rol, ↓WS_nx, ↓WS_rt, ↓WS_ct, ↓WS_bk, ↓WS_exn, ↓WS_seq, ↓WS_nil, ↓WS_retN, ↓WS_break, ↓WS_cont, ↓WS_expr, ↓WS_ret, ↓WS_if, ↓WS_set, ↓WS_par, ↓WS_asg, ↓WS_gSet, ↓WS_gN, ↓WS_gC, ↓WS_gUn, ↓WS_gSub, ↓WS_aug, ↓o_add, ↓o_iadd, ↓o_sub, ↓o_neg, ↓o_mul, ↓o_mod, ↓o_div, ↓o_pow, ↓o_addT, ↓o_addS, ↓o_addL, ↓o_lt, ↓o_le, ↓o_gt, ↓o_ge, ↓o_eq, ↓o_ne, ↓o_eqS, ↓o_neS, ↓o_eqB, ↓o_neB, ↓o_eqT, ↓o_neT, ↓o_eqN, ↓o_neN, ↓o_ltT, ↓o_leT, ↓o_is, ↓o_isnot, ↓o_isB, ↓o_isnotB, ↓o_inT, ↓o_ninT, ↓o_inL, ↓o_ninL, ↓o_ixT, ↓o_ixR, ↓o_ixL, ↓o_ixS, ↓o_str, ↓o_strS, ↓o_set, ↓o_lenT, ↓o_lenR, ↓o_lenL, ↓o_lenS, ↓o_int, ↓o_intT, ↓o_intF, ↓o_abs, ↓o_max, ↓o_min, ↓o_tuple, ↓o_list, ↓o_tup0, ↓o_tup1, ↓o_tup2, ↓o_tup3, ↓o_tup4, ↓o_tup5, ↓o_tup6, ↓o_lst0, ↓o_lst1, ↓o_lst2, ↓o_lst3, ↓o_lst4, ↓o_lst5, ↓o_lst6, ↓o_sum, ↓W_meth, ↓o_append, ↓o_extend, ↓o_popAt, ↓W_cut, ↓W_noPart, ↓W_part, ↓o_cutT, ↓o_cutR, ↓o_cutL, ↓W_isi, ↓W_ch, ↓WS_for, ↓WI_iter, ↓WI_range1, ↓WI_range2, ↓WI_range3, ↓WI_enum, ↓WS_f0, ↓WS_f1, ↓W_alloc, ↓W_ofL, ↓W_comp, ↓WB_yes, ↓W_c0, ↓W_c1, ↓W_listRg, ↓W_tupRg, ↓W_rRange1, ↓W_rRange2, o_intT, o_intF, o_intB, o_ixL, o_ixT, beq_self_eq_true, decide_true, decide_false, okEq, okCmp, okIn, D.fits, D.fitsL, D.dep, D.depL, D.eqv, D.eqvL, D.alike, D.alikeL, isBl_bl, isN_non, isN_bl, isN_int, isN_str, isN_tup, isN_rol, isN_loc, Nat.reduceAdd, Nat.reduceSub, Nat.max_self, Nat.min_self, Nat.max_zero, Nat.zero_max, Nat.min_zero, Nat.zero_min, ty_non, ty_bl, ty_int, ty_str, ty_tup, ty_rol, ty_loc, kb_bool_bool, kb_bool_int, kb_bool_str, kb_bool_tuple, kb_bool_list, kb_int_bool, kb_int_int, kb_int_str, kb_int_tuple, kb_int_list, kb_str_bool, kb_str_int, kb_str_str, kb_str_tuple, kb_str_list, kb_tuple_bool, kb_tuple_int, kb_tuple_str, kb_tuple_tuple, kb_tuple_list, kb_list_bool, kb_list_int, kb_list_str, kb_list_tuple, kb_list_list, kb_NoneType_bool, kb_NoneType_int, kb_NoneType_str, kb_NoneType_tuple, kb_NoneType_list, Nat.zero_add, c02, lstAt_setE, Option.map_some, lstAt_set_ne, ne_eq, Nat.reduceEqDiff, Nat.one_ne_zero, Nat.zero_ne_one, ix_1_0, ix_2_0, ix_2_1, ix_3_0, ix_3_1, ix_3_2, ix_4_0, ix_4_1, ix_4_2, ix_4_3, ix_5_0, ix_5_1, ix_5_2, ix_5_3, ix_5_4, ix_6_0, ix_6_1, ix_6_2, ix_6_3, ix_6_4, ix_6_5, Nat.reduceLeDiff, Int.reduceAdd, Int.reduceSub, Int.reduceMul, Int.reduceNeg, Int.reducePow, Int.reduceLT, Int.reduceLE, Int.reduceEq, Int.reduceToNat, Bool.and_true, Bool.true_and, Bool.and_self, Bool.and_false, Bool.false_and, Bool.and_eq_true, Bool.and_eq_false_imp, and_self, WS_qdn, WS_qdr, WS_qde, WS_qdb, WS_qdc, qn1, qn2, qn3, qn4, qn5, qk1, qk5, lq1, lq2, lq3, lq4, lq5, intD_int, items_tup, items_rol, items_loc, listOf_loc, listOf_rol, isL_loc, at0, at1, at2, at3, at4, at5, atl1, atl2, atl3, atl4, lstAt_new, it_tup, it_rol, kTup_eq, kLen_eq, wipe0, wipe1, b_nm, List.set_cons_zero, List.set_cons_succ, List.length_cons, List.length_nil, List.nil_append, List.cons_append, List.append_nil, List.isEmpty_cons, List.isEmpty_nil, true_and, and_true, false_and, and_false, true_implies, forall_const, not_true_eq_false, not_false_eq_true, implies_true, decide_eq_true_eq, decide_eq_false_iff_not, Bool.not_eq_true', Bool.not_eq_false', Bool.not_true, Bool.not_false, if_true, if_false, Bool.false_eq_true, Bool.true_eq_false, reduceCtorEq, false_implies, eq_self, wm__law_names, b__law_names]
  refine draw_w hF (by omega) fun st S1 _ _ hF1 F1 => ?_
  simp only [↓reduceIte, ↓W_ok, ↓W_exn, ↓W_var0, ↓W_varS, ↓W_K, ↓W_bin, ↓W_un, ↓W_aNil, ↓W_aCons, ↓W_arg, ↓W_call, ↓W_of, ↓WB_test, ↓tc_bl, ↓WB_tru, ↓trc, ↓WB_and, ↓WB_or, ↓WB_not, ↓W_if, ↓W_andV, ↓W_orV, ↓W_notV, ↓WM_some, ↓WM_none, ↓WO_some, ↓tr_bl, ↓tr_non, ↓tr_int, ↓tr_tup, ↓tr_rol, ↓WS_nx, ↓WS_rt, ↓WS_ct, ↓WS_bk, ↓WS_exn, ↓WS_seq, ↓WS_nil, ↓WS_retN, ↓WS_break, ↓WS_cont, ↓WS_expr, ↓WS_ret, ↓WS_if, ↓WS_set, ↓WS_par, ↓WS_asg, ↓WS_gSet, ↓WS_gN, ↓WS_gC, ↓WS_gUn, ↓WS_gSub, ↓WS_aug, ↓o_add, ↓o_iadd, ↓o_sub, ↓o_neg, ↓o_mul, ↓o_mod, ↓o_div, ↓o_pow, ↓o_addT, ↓o_addS, ↓o_addL, ↓o_lt, ↓o_le, ↓o_gt, ↓o_ge, ↓o_eq, ↓o_ne, ↓o_eqS, ↓o_neS, ↓o_eqB, ↓o_neB, ↓o_eqT, ↓o_neT, ↓o_eqN, ↓o_neN, ↓o_ltT, ↓o_leT, ↓o_is, ↓o_isnot, ↓o_isB, ↓o_isnotB, ↓o_inT, ↓o_ninT, ↓o_inL, ↓o_ninL, ↓o_ixT, ↓o_ixR, ↓o_ixL, ↓o_ixS, ↓o_str, ↓o_strS, ↓o_set, ↓o_lenT, ↓o_lenR, ↓o_lenL, ↓o_lenS, ↓o_int, ↓o_intT, ↓o_intF, ↓o_abs, ↓o_max, ↓o_min, ↓o_tuple, ↓o_list, ↓o_tup0, ↓o_tup1, ↓o_tup2, ↓o_tup3, ↓o_tup4, ↓o_tup5, ↓o_tup6, ↓o_lst0, ↓o_lst1, ↓o_lst2, ↓o_lst3, ↓o_lst4, ↓o_lst5, ↓o_lst6, ↓o_sum, ↓W_meth, ↓o_append, ↓o_extend, ↓o_popAt, ↓W_cut, ↓W_noPart, ↓W_part, ↓o_cutT, ↓o_cutR, ↓o_cutL, ↓W_isi, ↓W_ch, ↓WS_for, ↓WI_iter, ↓WI_range1, ↓WI_range2, ↓WI_range3, ↓WI_enum, ↓WS_f0, ↓WS_f1, ↓W_alloc, ↓W_ofL, ↓W_comp, ↓WB_yes, ↓W_c0, ↓W_c1, ↓W_listRg, ↓W_tupRg, ↓W_rRange1, ↓W_rRange2, o_intT, o_intF, o_intB, o_ixL, o_ixT, beq_self_eq_true, decide_true, decide_false, okEq, okCmp, okIn, D.fits, D.fitsL, D.dep, D.depL, D.eqv, D.eqvL, D.alike, D.alikeL, isBl_bl, isN_non, isN_bl, isN_int, isN_str, isN_tup, isN_rol, isN_loc, Nat.reduceAdd, Nat.reduceSub, Nat.max_self, Nat.min_self, Nat.max_zero, Nat.zero_max, Nat.min_zero, Nat.zero_min, ty_non, ty_bl, ty_int, ty_str, ty_tup, ty_rol, ty_loc, kb_bool_bool, kb_bool_int, kb_bool_str, kb_bool_tuple, kb_bool_list, kb_int_bool, kb_int_int, kb_int_str, kb_int_tuple, kb_int_list, kb_str_bool, kb_str_int, kb_str_str, kb_str_tuple, kb_str_list, kb_tuple_bool, kb_tuple_int, kb_tuple_str, kb_tuple_tuple, kb_tuple_list, kb_list_bool, kb_list_int, kb_list_str, kb_list_tuple, kb_list_list, kb_NoneType_bool, kb_NoneType_int, kb_NoneType_str, kb_NoneType_tuple, kb_NoneType_list, Nat.zero_add, c02, lstAt_setE, Option.map_some, lstAt_set_ne, ne_eq, Nat.reduceEqDiff, Nat.one_ne_zero, Nat.zero_ne_one, ix_1_0, ix_2_0, ix_2_1, ix_3_0, ix_3_1, ix_3_2, ix_4_0, ix_4_1, ix_4_2, ix_4_3, ix_5_0, ix_5_1, ix_5_2, ix_5_3, ix_5_4, ix_6_0, ix_6_1, ix_6_2, ix_6_3, ix_6_4, ix_6_5, Nat.reduceLeDiff, Int.reduceAdd, Int.reduceSub, Int.reduceMul, Int.reduceNeg, Int.reducePow, Int.reduceLT, Int.reduceLE, Int.reduceEq, Int.reduceToNat, Bool.and_true, Bool.true_and, Bool.and_self, Bool.and_false, Bool.false_and, Bool.and_eq_true, Bool.and_eq_false_imp, and_self, WS_qdn, WS_qdr, WS_qde, WS_qdb, WS_qdc, qn1, qn2, qn3, qn4, qn5, qk1, qk5, lq1, lq2, lq3, lq4, lq5, intD_int, items_tup, items_rol, items_loc, listOf_loc, listOf_rol, isL_loc, at0, at1, at2, at3, at4, at5, atl1, atl2, atl3, atl4, lstAt_new, it_tup, it_rol, kTup_eq, kLen_eq, wipe0, wipe1, b_nm, List.set_cons_zero, List.set_cons_succ, List.length_cons, List.length_nil, List.nil_append, List.cons_append, List.append_nil, List.isEmpty_cons, List.isEmpty_nil, true_and, and_true, false_and, and_false, true_implies, forall_const, not_true_eq_false, not_false_eq_true, implies_true, decide_eq_true_eq, decide_eq_false_iff_not, Bool.not_eq_true', Bool.not_eq_false', Bool.not_true, Bool.not_false, if_true, if_false, Bool.false_eq_true, Bool.true_eq_false, reduceCtorEq, false_implies, eq_self]
  refine draw_w hF1 (by omega) fun base S2 _ _ hF2 F2 => ?_
  simp only [↓reduceIte, ↓W_ok, ↓W_exn, ↓W_var0, ↓W_varS, ↓W_K, ↓W_bin, ↓W_un, ↓W_aNil, ↓W_aCons, ↓W_arg, ↓W_call, ↓W_of, ↓WB_test, ↓tc_bl, ↓WB_tru, ↓trc, ↓WB_and, ↓WB_or, ↓WB_not, ↓W_if, ↓W_andV, ↓W_orV, ↓W_notV, ↓WM_some, ↓WM_none, ↓WO_some, ↓tr_bl, ↓tr_non, ↓tr_int, ↓tr_tup, ↓tr_rol, ↓WS_nx, ↓WS_rt, ↓WS_ct, ↓WS_bk, ↓WS_exn, ↓WS_seq, ↓WS_nil, ↓WS_retN, ↓WS_break, ↓WS_cont, ↓WS_expr, ↓WS_ret, ↓WS_if, ↓WS_set, ↓WS_par, ↓WS_asg, ↓WS_gSet, ↓WS_gN, ↓WS_gC, ↓WS_gUn, ↓WS_gSub, ↓WS_aug, ↓o_add, ↓o_iadd, ↓o_sub, ↓o_neg, ↓o_mul, ↓o_mod, ↓o_div, ↓o_pow, ↓o_addT, ↓o_addS, ↓o_addL, ↓o_lt, ↓o_le, ↓o_gt, ↓o_ge, ↓o_eq, ↓o_ne, ↓o_eqS, ↓o_neS, ↓o_eqB, ↓o_neB, ↓o_eqT, ↓o_neT, ↓o_eqN, ↓o_neN, ↓o_ltT, ↓o_leT, ↓o_is, ↓o_isnot, ↓o_isB, ↓o_isnotB, ↓o_inT, ↓o_ninT, ↓o_inL, ↓o_ninL, ↓o_ixT, ↓o_ixR, ↓o_ixL, ↓o_ixS, ↓o_str, ↓o_strS, ↓o_set, ↓o_lenT, ↓o_lenR, ↓o_lenL, ↓o_lenS, ↓o_int, ↓o_intT, ↓o_intF, ↓o_abs, ↓o_max, ↓o_min, ↓o_tuple, ↓o_list, ↓o_tup0, ↓o_tup1, ↓o_tup2, ↓o_tup3, ↓o_tup4, ↓o_tup5, ↓o_tup6, ↓o_lst0, ↓o_lst1, ↓o_lst2, ↓o_lst3, ↓o_lst4, ↓o_lst5, ↓o_lst6, ↓o_sum, ↓W_meth, ↓o_append, ↓o_extend, ↓o_popAt, ↓W_cut, ↓W_noPart, ↓W_part, ↓o_cutT, ↓o_cutR, ↓o_cutL, ↓W_isi, ↓W_ch, ↓WS_for, ↓WI_iter, ↓WI_range1, ↓WI_range2, ↓WI_range3, ↓WI_enum, ↓WS_f0, ↓WS_f1, ↓W_alloc, ↓W_ofL, ↓W_comp, ↓WB_yes, ↓W_c0, ↓W_c1, ↓W_listRg, ↓W_tupRg, ↓W_rRange1, ↓W_rRange2, o_intT, o_intF, o_intB, o_ixL, o_ixT, beq_self_eq_true, decide_true, decide_false, okEq, okCmp, okIn, D.fits, D.fitsL, D.dep, D.depL, D.eqv, D.eqvL, D.alike, D.alikeL, isBl_bl, isN_non, isN_bl, isN_int, isN_str, isN_tup, isN_rol, isN_loc, Nat.reduceAdd, Nat.reduceSub, Nat.max_self, Nat.min_self, Nat.max_zero, Nat.zero_max, Nat.min_zero, Nat.zero_min, ty_non, ty_bl, ty_int, ty_str, ty_tup, ty_rol, ty_loc, kb_bool_bool, kb_bool_int, kb_bool_str, kb_bool_tuple, kb_bool_list, kb_int_bool, kb_int_int, kb_int_str, kb_int_tuple, kb_int_list, kb_str_bool, kb_str_int, kb_str_str, kb_str_tuple, kb_str_list, kb_tuple_bool, kb_tuple_int, kb_tuple_str, kb_tuple_tuple, kb_tuple_list, kb_list_bool, kb_list_int, kb_list_str, kb_list_tuple, kb_list_list, kb_NoneType_bool, kb_NoneType_int, kb_NoneType_str, kb_NoneType_tuple, kb_NoneType_list, Nat.zero_add, c02, lstAt_setE, Option.map_some, lstAt_set_ne, ne_eq, Nat.reduceEqDiff, Nat.one_ne_zero, Nat.zero_ne_one, ix_1_0, ix_2_0, ix_2_1, ix_3_0, ix_3_1, ix_3_2, ix_4_0, ix_4_1, ix_4_2, ix_4_3, ix_5_0, ix_5_1, ix_5_2, ix_5_3, ix_5_4, ix_6_0, ix_6_1, ix_6_2, ix_6_3, ix_6_4, ix_6_5, Nat.reduceLeDiff, Int.reduceAdd, Int.reduceSub, Int.reduceMul, Int.reduceNeg, Int.reducePow, Int.reduceLT, Int.reduceLE, Int.reduceEq, Int.reduceToNat, Bool.and_true, Bool.true_and, Bool.and_self, Bool.and_false, Bool.false_and, Bool.and_eq_true, Bool.and_eq_false_imp, and_self, WS_qdn, WS_qdr, WS_qde, WS_qdb, WS_qdc, qn1, qn2, qn3, qn4, qn5, qk1, qk5, lq1, lq2, lq3, lq4, lq5, intD_int, items_tup, items_rol, items_loc, listOf_loc, listOf_rol, isL_loc, at0, at1, at2, at3, at4, at5, atl1, atl2, atl3, atl4, lstAt_new, it_tup, it_rol, kTup_eq, kLen_eq, wipe0, wipe1, b_nm, List.set_cons_zero, List.set_cons_succ, List.length_cons, List.length_nil, List.nil_append, List.cons_append, List.append_nil, List.isEmpty_cons, List.isEmpty_nil, true_and, and_true, false_and, and_false, true_implies, forall_const, not_true_eq_false, not_false_eq_true, implies_true, decide_eq_true_eq, decide_eq_false_iff_not, Bool.not_eq_true', Bool.not_eq_false', Bool.not_true, Bool.not_false, if_true, if_false, Bool.false_eq_true, Bool.true_eq_false, reduceCtorEq, false_implies, eq_self]
  refine ⟨by constructor <;> omega, ?_⟩
  have l2 := hF2.len
  refine WS_rloop (fun i σ S' => FeedOk S' ∧ Fr S2 S' ∧ ∃ (ns : List Str) (p q : Option D), σ = [some (.loc 1), some (.int many), some (.str "mwqhdtkvzxgbpjrcs"), some (.int (1 + st)), some (.int base), some (.loc S2.length), p, q] ∧ (ns.length : Int) = i ∧ (∀ n ∈ ns, NmOk n) ∧ lstAt S' S2.length = some (ns.map D.str)) ⟨hF2.app _, (Fr.refl _).app _, [], none, none, rfl, rfl, by simp, lstAt_new⟩ ?_ ?_
  · rintro i σ S3 i0 i1 ⟨hF3, F3, ns, p, q, rfl, hl, hn, hL⟩
    simp only [↓reduceIte, ↓W_ok, ↓W_exn, ↓W_var0, ↓W_varS, ↓W_K, ↓W_bin, ↓W_un, ↓W_aNil, ↓W_aCons, ↓W_arg, ↓W_call, ↓W_of, ↓WB_test, ↓tc_bl, ↓WB_tru, ↓trc, ↓WB_and, ↓WB_or, ↓WB_not, ↓W_if, ↓W_andV, ↓W_orV, ↓W_notV, ↓WM_some, ↓WM_none, ↓WO_some, ↓tr_bl, ↓tr_non, ↓tr_int, ↓tr_tup, ↓tr_rol, ↓WS_nx, ↓WS_rt, ↓WS_ct, ↓WS_bk, ↓WS_exn, ↓WS_seq, ↓WS_nil, ↓WS_retN, ↓WS_break, ↓WS_cont, ↓WS_expr, ↓WS_ret, ↓WS_if, ↓WS_set, ↓WS_par, ↓WS_asg, ↓WS_gSet, ↓WS_gN, ↓WS_gC, ↓WS_gUn, ↓WS_gSub, ↓WS_aug, ↓o_add, ↓o_iadd, ↓o_sub, ↓o_neg, ↓o_mul, ↓o_mod, ↓o_div, ↓o_pow, ↓o_addT, ↓o_addS, ↓o_addL, ↓o_lt, ↓o_le, ↓o_gt, ↓o_ge, ↓o_eq, ↓o_ne, ↓o_eqS, ↓o_neS, ↓o_eqB, ↓o_neB, ↓o_eqT, ↓o_neT, ↓o_eqN, ↓o_neN, ↓o_ltT, ↓o_leT, ↓o_is, ↓o_isnot, ↓o_isB, ↓o_isnotB, ↓o_inT, ↓o_ninT, ↓o_inL, ↓o_ninL, ↓o_ixT, ↓o_ixR, ↓o_ixL, ↓o_ixS, ↓o_str, ↓o_strS, ↓o_set, ↓o_lenT, ↓o_lenR, ↓o_lenL, ↓o_lenS, ↓o_int, ↓o_intT, ↓o_intF, ↓o_abs, ↓o_max, ↓o_min, ↓o_tuple, ↓o_list, ↓o_tup0, ↓o_tup1, ↓o_tup2, ↓o_tup3, ↓o_tup4, ↓o_tup5, ↓o_tup6, ↓o_lst0, ↓o_lst1, ↓o_lst2, ↓o_lst3, ↓o_lst4, ↓o_lst5, ↓o_lst6, ↓o_sum, ↓W_meth, ↓o_append, ↓o_extend, ↓o_popAt, ↓W_cut, ↓W_noPart, ↓W_part, ↓o_cutT, ↓o_cutR, ↓o_cutL, ↓W_isi, ↓W_ch, ↓WS_for, ↓WI_iter, ↓WI_range1, ↓WI_range2, ↓WI_range3, ↓WI_enum, ↓WS_f0, ↓WS_f1, ↓W_alloc, ↓W_ofL, ↓W_comp, ↓WB_yes, ↓W_c0, ↓W_c1, ↓W_listRg, ↓W_tupRg, ↓W_rRange1, ↓W_rRange2, o_intT, o_intF, o_intB, o_ixL, o_ixT, beq_self_eq_true, decide_true, decide_false, okEq, okCmp, okIn, D.fits, D.fitsL, D.dep, D.depL, D.eqv, D.eqvL, D.alike, D.alikeL, isBl_bl, isN_non, isN_bl, isN_int, isN_str, isN_tup, isN_rol, isN_loc, Nat.reduceAdd, Nat.reduceSub, Nat.max_self, Nat.min_self, Nat.max_zero, Nat.zero_max, Nat.min_zero, Nat.zero_min, ty_non, ty_bl, ty_int, ty_str, ty_tup, ty_rol, ty_loc, kb_bool_bool, kb_bool_int, kb_bool_str, kb_bool_tuple, kb_bool_list, kb_int_bool, kb_int_int, kb_int_str, kb_int_tuple, kb_int_list, kb_str_bool, kb_str_int, kb_str_str, kb_str_tuple, kb_str_list, kb_tuple_bool, kb_tuple_int, kb_tuple_str, kb_tuple_tuple, kb_tuple_list, kb_list_bool, kb_list_int, kb_list_str, kb_list_tuple, kb_list_list, kb_NoneType_bool, kb_NoneType_int, kb_NoneType_str, kb_NoneType_tuple, kb_NoneType_list, Nat.zero_add, c02, lstAt_setE, Option.map_some, lstAt_set_ne, ne_eq, Nat.reduceEqDiff, Nat.one_ne_zero, Nat.zero_ne_one, ix_1_0, ix_2_0, ix_2_1, ix_3_0, ix_3_1, ix_3_2, ix_4_0, ix_4_1, ix_4_2, ix_4_3, ix_5_0, ix_5_1, ix_5_2, ix_5_3, ix_5_4, ix_6_0, ix_6_1, ix_6_2, ix_6_3, ix_6_4, ix_6_5, Nat.reduceLeDiff, Int.reduceAdd, Int.reduceSub, Int.reduceMul, Int.reduceNeg, Int.reducePow, Int.reduceLT, Int.reduceLE, Int.reduceEq, Int.reduceToNat, Bool.and_true, Bool.true_and, Bool.and_self, Bool.and_false, Bool.false_and, Bool.and_eq_true, Bool.and_eq_false_imp, and_self, WS_qdn, WS_qdr, WS_qde, WS_qdb, WS_qdc, qn1, qn2, qn3, qn4, qn5, qk1, qk5, lq1, lq2, lq3, lq4, lq5, intD_int, items_tup, items_rol, items_loc, listOf_loc, listOf_rol, isL_loc, at0, at1, at2, at3, at4, at5, atl1, atl2, atl3, atl4, lstAt_new, it_tup, it_rol, kTup_eq, kLen_eq, wipe0, wipe1, b_nm, List.set_cons_zero, List.set_cons_succ, List.length_cons, List.length_nil, List.nil_append, List.cons_append, List.append_nil, List.isEmpty_cons, List.isEmpty_nil, true_and, and_true, false_and, and_false, true_implies, forall_const, not_true_eq_false, not_false_eq_true, implies_true, decide_eq_true_eq, decide_eq_false_iff_not, Bool.not_eq_true', Bool.not_eq_false', Bool.not_true, Bool.not_false, if_true, if_false, Bool.false_eq_true, Bool.true_eq_false, reduceCtorEq, false_implies, eq_self]
    refine ⟨mul2 (by omega), mul2 (by omega), sl (by decide), ?_⟩
    refine WM_in (Int.emod_nonneg _ (by omega)) (by have : (Str.ofString "mwqhdtkvzxgbpjrcs").cps.toList.length = 17 := by decide
                                                    rw [this]; exact Int.emod_lt_of_pos _ (by omega)) fun c hc => ?_
    simp only [↓reduceIte, ↓W_ok, ↓W_exn, ↓W_var0, ↓W_varS, ↓W_K, ↓W_bin, ↓W_un, ↓W_aNil, ↓W_aCons, ↓W_arg, ↓W_call, ↓W_of, ↓WB_test, ↓tc_bl, ↓WB_tru, ↓trc, ↓WB_and, ↓WB_or, ↓WB_not, ↓W_if, ↓W_andV, ↓W_orV, ↓W_notV, ↓WM_some, ↓WM_none, ↓WO_some, ↓tr_bl, ↓tr_non, ↓tr_int, ↓tr_tup, ↓tr_rol, ↓WS_nx, ↓WS_rt, ↓WS_ct, ↓WS_bk, ↓WS_exn, ↓WS_seq, ↓WS_nil, ↓WS_retN, ↓WS_break, ↓WS_cont, ↓WS_expr, ↓WS_ret, ↓WS_if, ↓WS_set, ↓WS_par, ↓WS_asg, ↓WS_gSet, ↓WS_gN, ↓WS_gC, ↓WS_gUn, ↓WS_gSub, ↓WS_aug, ↓o_add, ↓o_iadd, ↓o_sub, ↓o_neg, ↓o_mul, ↓o_mod, ↓o_div, ↓o_pow, ↓o_addT, ↓o_addS, ↓o_addL, ↓o_lt, ↓o_le, ↓o_gt, ↓o_ge, ↓o_eq, ↓o_ne, ↓o_eqS, ↓o_neS, ↓o_eqB, ↓o_neB, ↓o_eqT, ↓o_neT, ↓o_eqN, ↓o_neN, ↓o_ltT, ↓o_leT, ↓o_is, ↓o_isnot, ↓o_isB, ↓o_isnotB, ↓o_inT, ↓o_ninT, ↓o_inL, ↓o_ninL, ↓o_ixT, ↓o_ixR, ↓o_ixL, ↓o_ixS, ↓o_str, ↓o_strS, ↓o_set, ↓o_lenT, ↓o_lenR, ↓o_lenL, ↓o_lenS, ↓o_int, ↓o_intT, ↓o_intF, ↓o_abs, ↓o_max, ↓o_min, ↓o_tuple, ↓o_list, ↓o_tup0, ↓o_tup1, ↓o_tup2, ↓o_tup3, ↓o_tup4, ↓o_tup5, ↓o_tup6, ↓o_lst0, ↓o_lst1, ↓o_lst2, ↓o_lst3, ↓o_lst4, ↓o_lst5, ↓o_lst6, ↓o_sum, ↓W_meth, ↓o_append, ↓o_extend, ↓o_popAt, ↓W_cut, ↓W_noPart, ↓W_part, ↓o_cutT, ↓o_cutR, ↓o_cutL, ↓W_isi, ↓W_ch, ↓WS_for, ↓WI_iter, ↓WI_range1, ↓WI_range2, ↓WI_range3, ↓WI_enum, ↓WS_f0, ↓WS_f1, ↓W_alloc, ↓W_ofL, ↓W_comp, ↓WB_yes, ↓W_c0, ↓W_c1, ↓W_listRg, ↓W_tupRg, ↓W_rRange1, ↓W_rRange2, o_intT, o_intF, o_intB, o_ixL, o_ixT, beq_self_eq_true, decide_true, decide_false, okEq, okCmp, okIn, D.fits, D.fitsL, D.dep, D.depL, D.eqv, D.eqvL, D.alike, D.alikeL, isBl_bl, isN_non, isN_bl, isN_int, isN_str, isN_tup, isN_rol, isN_loc, Nat.reduceAdd, Nat.reduceSub, Nat.max_self, Nat.min_self, Nat.max_zero, Nat.zero_max, Nat.min_zero, Nat.zero_min, ty_non, ty_bl, ty_int, ty_str, ty_tup, ty_rol, ty_loc, kb_bool_bool, kb_bool_int, kb_bool_str, kb_bool_tuple, kb_bool_list, kb_int_bool, kb_int_int, kb_int_str, kb_int_tuple, kb_int_list, kb_str_bool, kb_str_int, kb_str_str, kb_str_tuple, kb_str_list, kb_tuple_bool, kb_tuple_int, kb_tuple_str, kb_tuple_tuple, kb_tuple_list, kb_list_bool, kb_list_int, kb_list_str, kb_list_tuple, kb_list_list, kb_NoneType_bool, kb_NoneType_int, kb_NoneType_str, kb_NoneType_tuple, kb_NoneType_list, Nat.zero_add, c02, lstAt_setE, Option.map_some, lstAt_set_ne, ne_eq, Nat.reduceEqDiff, Nat.one_ne_zero, Nat.zero_ne_one, ix_1_0, ix_2_0, ix_2_1, ix_3_0, ix_3_1, ix_3_2, ix_4_0, ix_4_1, ix_4_2, ix_4_3, ix_5_0, ix_5_1, ix_5_2, ix_5_3, ix_5_4, ix_6_0, ix_6_1, ix_6_2, ix_6_3, ix_6_4, ix_6_5, Nat.reduceLeDiff, Int.reduceAdd, Int.reduceSub, Int.reduceMul, Int.reduceNeg, Int.reducePow, Int.reduceLT, Int.reduceLE, Int.reduceEq, Int.reduceToNat, Bool.and_true, Bool.true_and, Bool.and_self, Bool.and_false, Bool.false_and, Bool.and_eq_true, Bool.and_eq_false_imp, and_self, WS_qdn, WS_qdr, WS_qde, WS_qdb, WS_qdc, qn1, qn2, qn3, qn4, qn5, qk1, qk5, lq1, lq2, lq3, lq4, lq5, intD_int, items_tup, items_rol, items_loc, listOf_loc, listOf_rol, isL_loc, at0, at1, at2, at3, at4, at5, atl1, atl2, atl3, atl4, lstAt_new, it_tup, it_rol, kTup_eq, kLen_eq, wipe0, wipe1, b_nm, List.set_cons_zero, List.set_cons_succ, List.length_cons, List.length_nil, List.nil_append, List.cons_append, List.append_nil, List.isEmpty_cons, List.isEmpty_nil, true_and, and_true, false_and, and_false, true_implies, forall_const, not_true_eq_false, not_false_eq_true, implies_true, decide_eq_true_eq, decide_eq_false_iff_not, Bool.not_eq_true', Bool.not_eq_false', Bool.not_true, Bool.not_false, if_true, if_false, Bool.false_eq_true, Bool.true_eq_false, reduceCtorEq, false_implies, eq_self]
    refine WM_at (Int.emod_nonneg _ (by omega)) (Int.emod_lt_of_pos _ (by decide)) fun z hz => ?_
    have hz : ∃ w : String, z = .str (Str.ofString w) ∧ (Str.ofString w).length ≤ 2 := by
      simp only [List.mem_cons, List.not_mem_nil, or_false] at hz
      rcases hz with rfl | rfl | rfl
      · exact ⟨"", rfl, by decide⟩
      · exact ⟨"y", rfl, by decide⟩
      · exact ⟨"az", rfl, by decide⟩
    obtain ⟨w, rfl, hw⟩ := hz
    have e1 : (⟨#[c]⟩ : Str).length = 1 := rfl
    generalize hk : (base + i * (1 + st)) % 79 = k
    have k0 : 0 ≤ k := by rw [← hk]; exact Int.emod_nonneg _ (by omega)
    have k1 : k < 79 := by rw [← hk]; exact Int.emod_lt_of_pos _ (by omega)
    have hkl : (Str.ofString (toString k)).length ≤ 20 := by
      have key : ∀ k : Fin 102, (Str.ofString (toString ((k.val : Nat) : Int))).length ≤ 20 := by decide +kernel
      have := key ⟨k.toNat, by omega⟩
      rw [Int.toNat_of_nonneg k0] at this
      exact this
    simp only [↓reduceIte, ↓W_ok, ↓W_exn, ↓W_var0, ↓W_varS, ↓W_K, ↓W_bin, ↓W_un, ↓W_aNil, ↓W_aCons, ↓W_arg, ↓W_call, ↓W_of, ↓WB_test, ↓tc_bl, ↓WB_tru, ↓trc, ↓WB_and, ↓WB_or, ↓WB_not, ↓W_if, ↓W_andV, ↓W_orV, ↓W_notV, ↓WM_some, ↓WM_none, ↓WO_some, ↓tr_bl, ↓tr_non, ↓tr_int, ↓tr_tup, ↓tr_rol, ↓WS_nx, ↓WS_rt, ↓WS_ct, ↓WS_bk, ↓WS_exn, ↓WS_seq, ↓WS_nil, ↓WS_retN, ↓WS_break, ↓WS_cont, ↓WS_expr, ↓WS_ret, ↓WS_if, ↓WS_set, ↓WS_par, ↓WS_asg, ↓WS_gSet, ↓WS_gN, ↓WS_gC, ↓WS_gUn, ↓WS_gSub, ↓WS_aug, ↓o_add, ↓o_iadd, ↓o_sub, ↓o_neg, ↓o_mul, ↓o_mod, ↓o_div, ↓o_pow, ↓o_addT, ↓o_addS, ↓o_addL, ↓o_lt, ↓o_le, ↓o_gt, ↓o_ge, ↓o_eq, ↓o_ne, ↓o_eqS, ↓o_neS, ↓o_eqB, ↓o_neB, ↓o_eqT, ↓o_neT, ↓o_eqN, ↓o_neN, ↓o_ltT, ↓o_leT, ↓o_is, ↓o_isnot, ↓o_isB, ↓o_isnotB, ↓o_inT, ↓o_ninT, ↓o_inL, ↓o_ninL, ↓o_ixT, ↓o_ixR, ↓o_ixL, ↓o_ixS, ↓o_str, ↓o_strS, ↓o_set, ↓o_lenT, ↓o_lenR, ↓o_lenL, ↓o_lenS, ↓o_int, ↓o_intT, ↓o_intF, ↓o_abs, ↓o_max, ↓o_min, ↓o_tuple, ↓o_list, ↓o_tup0, ↓o_tup1, ↓o_tup2, ↓o_tup3, ↓o_tup4, ↓o_tup5, ↓o_tup6, ↓o_lst0, ↓o_lst1, ↓o_lst2, ↓o_lst3, ↓o_lst4, ↓o_lst5, ↓o_lst6, ↓o_sum, ↓W_meth, ↓o_append, ↓o_extend, ↓o_popAt, ↓W_cut, ↓W_noPart, ↓W_part, ↓o_cutT, ↓o_cutR, ↓o_cutL, ↓W_isi, ↓W_ch, ↓WS_for, ↓WI_iter, ↓WI_range1, ↓WI_range2, ↓WI_range3, ↓WI_enum, ↓WS_f0, ↓WS_f1, ↓W_alloc, ↓W_ofL, ↓W_comp, ↓WB_yes, ↓W_c0, ↓W_c1, ↓W_listRg, ↓W_tupRg, ↓W_rRange1, ↓W_rRange2, o_intT, o_intF, o_intB, o_ixL, o_ixT, beq_self_eq_true, decide_true, decide_false, okEq, okCmp, okIn, D.fits, D.fitsL, D.dep, D.depL, D.eqv, D.eqvL, D.alike, D.alikeL, isBl_bl, isN_non, isN_bl, isN_int, isN_str, isN_tup, isN_rol, isN_loc, Nat.reduceAdd, Nat.reduceSub, Nat.max_self, Nat.min_self, Nat.max_zero, Nat.zero_max, Nat.min_zero, Nat.zero_min, ty_non, ty_bl, ty_int, ty_str, ty_tup, ty_rol, ty_loc, kb_bool_bool, kb_bool_int, kb_bool_str, kb_bool_tuple, kb_bool_list, kb_int_bool, kb_int_int, kb_int_str, kb_int_tuple, kb_int_list, kb_str_bool, kb_str_int, kb_str_str, kb_str_tuple, kb_str_list, kb_tuple_bool, kb_tuple_int, kb_tuple_str, kb_tuple_tuple, kb_tuple_list, kb_list_bool, kb_list_int, kb_list_str, kb_list_tuple, kb_list_list, kb_NoneType_bool, kb_NoneType_int, kb_NoneType_str, kb_NoneType_tuple, kb_NoneType_list, Nat.zero_add, c02, lstAt_setE, Option.map_some, lstAt_set_ne, ne_eq, Nat.reduceEqDiff, Nat.one_ne_zero, Nat.zero_ne_one, ix_1_0, ix_2_0, ix_2_1, ix_3_0, ix_3_1, ix_3_2, ix_4_0, ix_4_1, ix_4_2, ix_4_3, ix_5_0, ix_5_1, ix_5_2, ix_5_3, ix_5_4, ix_6_0, ix_6_1, ix_6_2, ix_6_3, ix_6_4, ix_6_5, Nat.reduceLeDiff, Int.reduceAdd, Int.reduceSub, Int.reduceMul, Int.reduceNeg, Int.reducePow, Int.reduceLT, Int.reduceLE, Int.reduceEq, Int.reduceToNat, Bool.and_true, Bool.true_and, Bool.and_self, Bool.and_false, Bool.false_and, Bool.and_eq_true, Bool.and_eq_false_imp, and_self, WS_qdn, WS_qdr, WS_qde, WS_qdb, WS_qdc, qn1, qn2, qn3, qn4, qn5, qk1, qk5, lq1, lq2, lq3, lq4, lq5, intD_int, items_tup, items_rol, items_loc, listOf_loc, listOf_rol, isL_loc, at0, at1, at2, at3, at4, at5, atl1, atl2, atl3, atl4, lstAt_new, it_tup, it_rol, kTup_eq, kLen_eq, wipe0, wipe1, b_nm, List.set_cons_zero, List.set_cons_succ, List.length_cons, List.length_nil, List.nil_append, List.cons_append, List.append_nil, List.isEmpty_cons, List.isEmpty_nil, true_and, and_true, false_and, and_false, true_implies, forall_const, not_true_eq_false, not_false_eq_true, implies_true, decide_eq_true_eq, decide_eq_false_iff_not, Bool.not_eq_true', Bool.not_eq_false', Bool.not_true, Bool.not_false, if_true, if_false, Bool.false_eq_true, Bool.true_eq_false, reduceCtorEq, false_implies, eq_self, lstAt_app hL]
    refine ⟨by rw [e1, sizeLine_eq]; omega, bits_small k0 (by omega) (by omega), by rw [len_app, e1, sizeLine_eq]; omega, by rw [List.length_map, sizeLine_eq]; omega, (hF3.app _).set l2, (F3.app _).set (Nat.le_refl _), ns ++ [⟨#[c]⟩ ++ Str.ofString w ++ Str.ofString (toString k)], _, _, rfl, by simp; omega, fun n hn' => ?_, by rw [List.map_append]; rfl⟩
    rcases List.mem_append.mp hn' with hn' | hn'
    · exact hn n hn'
    · rw [List.mem_singleton.mp hn']
      exact strOk_app (strOk_app (strOk_one (ofS_ok _) hc) (ofS_ok _)) (ofS_ok _)
  · rintro σ S3 ⟨hF3, F3, ns, p, q, rfl, hl, hn, hL⟩
    simp only [↓reduceIte, ↓W_ok, ↓W_exn, ↓W_var0, ↓W_varS, ↓W_K, ↓W_bin, ↓W_un, ↓W_aNil, ↓W_aCons, ↓W_arg, ↓W_call, ↓W_of, ↓WB_test, ↓tc_bl, ↓WB_tru, ↓trc, ↓WB_and, ↓WB_or, ↓WB_not, ↓W_if, ↓W_andV, ↓W_orV, ↓W_notV, ↓WM_some, ↓WM_none, ↓WO_some, ↓tr_bl, ↓tr_non, ↓tr_int, ↓tr_tup, ↓tr_rol, ↓WS_nx, ↓WS_rt, ↓WS_ct, ↓WS_bk, ↓WS_exn, ↓WS_seq, ↓WS_nil, ↓WS_retN, ↓WS_break, ↓WS_cont, ↓WS_expr, ↓WS_ret, ↓WS_if, ↓WS_set, ↓WS_par, ↓WS_asg, ↓WS_gSet, ↓WS_gN, ↓WS_gC, ↓WS_gUn, ↓WS_gSub, ↓WS_aug, ↓o_add, ↓o_iadd, ↓o_sub, ↓o_neg, ↓o_mul, ↓o_mod, ↓o_div, ↓o_pow, ↓o_addT, ↓o_addS, ↓o_addL, ↓o_lt, ↓o_le, ↓o_gt, ↓o_ge, ↓o_eq, ↓o_ne, ↓o_eqS, ↓o_neS, ↓o_eqB, ↓o_neB, ↓o_eqT, ↓o_neT, ↓o_eqN, ↓o_neN, ↓o_ltT, ↓o_leT, ↓o_is, ↓o_isnot, ↓o_isB, ↓o_isnotB, ↓o_inT, ↓o_ninT, ↓o_inL, ↓o_ninL, ↓o_ixT, ↓o_ixR, ↓o_ixL, ↓o_ixS, ↓o_str, ↓o_strS, ↓o_set, ↓o_lenT, ↓o_lenR, ↓o_lenL, ↓o_lenS, ↓o_int, ↓o_intT, ↓o_intF, ↓o_abs, ↓o_max, ↓o_min, ↓o_tuple, ↓o_list, ↓o_tup0, ↓o_tup1, ↓o_tup2, ↓o_tup3, ↓o_tup4, ↓o_tup5, ↓o_tup6, ↓o_lst0, ↓o_lst1, ↓o_lst2, ↓o_lst3, ↓o_lst4, ↓o_lst5, ↓o_lst6, ↓o_sum, ↓W_meth, ↓o_append, ↓o_extend, ↓o_popAt, ↓W_cut, ↓W_noPart, ↓W_part, ↓o_cutT, ↓o_cutR, ↓o_cutL, ↓W_isi, ↓W_ch, ↓WS_for, ↓WI_iter, ↓WI_range1, ↓WI_range2, ↓WI_range3, ↓WI_enum, ↓WS_f0, ↓WS_f1, ↓W_alloc, ↓W_ofL, ↓W_comp, ↓WB_yes, ↓W_c0, ↓W_c1, ↓W_listRg, ↓W_tupRg, ↓W_rRange1, ↓W_rRange2, o_intT, o_intF, o_intB, o_ixL, o_ixT, beq_self_eq_true, decide_true, decide_false, okEq, okCmp, okIn, D.fits, D.fitsL, D.dep, D.depL, D.eqv, D.eqvL, D.alike, D.alikeL, isBl_bl, isN_non, isN_bl, isN_int, isN_str, isN_tup, isN_rol, isN_loc, Nat.reduceAdd, Nat.reduceSub, Nat.max_self, Nat.min_self, Nat.max_zero, Nat.zero_max, Nat.min_zero, Nat.zero_min, ty_non, ty_bl, ty_int, ty_str, ty_tup, ty_rol, ty_loc, kb_bool_bool, kb_bool_int, kb_bool_str, kb_bool_tuple, kb_bool_list, kb_int_bool, kb_int_int, kb_int_str, kb_int_tuple, kb_int_list, kb_str_bool, kb_str_int, kb_str_str, kb_str_tuple, kb_str_list, kb_tuple_bool, kb_tuple_int, kb_tuple_str, kb_tuple_tuple, kb_tuple_list, kb_list_bool, kb_list_int, kb_list_str, kb_list_tuple, kb_list_list, kb_NoneType_bool, kb_NoneType_int, kb_NoneType_str, kb_NoneType_tuple, kb_NoneType_list, Nat.zero_add, c02, lstAt_setE, Option.map_some, lstAt_set_ne, ne_eq, Nat.reduceEqDiff, Nat.one_ne_zero, Nat.zero_ne_one, ix_1_0, ix_2_0, ix_2_1, ix_3_0, ix_3_1, ix_3_2, ix_4_0, ix_4_1, ix_4_2, ix_4_3, ix_5_0, ix_5_1, ix_5_2, ix_5_3, ix_5_4, ix_6_0, ix_6_1, ix_6_2, ix_6_3, ix_6_4, ix_6_5, Nat.reduceLeDiff, Int.reduceAdd, Int.reduceSub, Int.reduceMul, Int.reduceNeg, Int.reducePow, Int.reduceLT, Int.reduceLE, Int.reduceEq, Int.reduceToNat, Bool.and_true, Bool.true_and, Bool.and_self, Bool.and_false, Bool.false_and, Bool.and_eq_true, Bool.and_eq_false_imp, and_self, WS_qdn, WS_qdr, WS_qde, WS_qdb, WS_qdc, qn1, qn2, qn3, qn4, qn5, qk1, qk5, lq1, lq2, lq3, lq4, lq5, intD_int, items_tup, items_rol, items_loc, listOf_loc, listOf_rol, isL_loc, at0, at1, at2, at3, at4, at5, atl1, atl2, atl3, atl4, lstAt_new, it_tup, it_rol, kTup_eq, kLen_eq, wipe0, wipe1, b_nm, List.set_cons_zero, List.set_cons_succ, List.length_cons, List.length_nil, List.nil_append, List.cons_append, List.append_nil, List.isEmpty_cons, List.isEmpty_nil, true_and, and_true, false_and, and_false, true_implies, forall_const, not_true_eq_false, not_false_eq_true, implies_true, decide_eq_true_eq, decide_eq_false_iff_not, Bool.not_eq_true', Bool.not_eq_false', Bool.not_true, Bool.not_false, if_true, if_false, Bool.false_eq_true, Bool.true_eq_false, reduceCtorEq, false_implies, eq_self]
    have z1 := F1.len
    have z2 := F2.len
    exact h ns S3 _ (by omega) hn hF3 ((F1.trans F2).trans F3) (by omega) hL
theorem fields_w {most size : Int} (hF : FeedOk S) (h0 : 1 ≤ most) (h1 : most ≤ 12) (hs : 1 ≤ size) (h : ∀ (fs : List Fld) S', (fs.length : Int) ≤ most → (∀ f ∈ fs, f.ok) → FeedOk S' → Fr S S' → Q (FD fs) S') : W (x, Q) tt (m__law_fields [.loc 1, .int most, .int size] S) := by
  simp only [↓reduceIte, ↓W_ok, ↓W_exn, ↓W_var0, ↓W_varS, ↓W_K, ↓W_bin, ↓W_un, ↓W_aNil, ↓W_aCons, ↓W_arg, ↓W_call, ↓W_of, ↓WB_test, ↓tc_bl, ↓WB_tru, ↓trc, ↓WB_and, ↓WB_or, ↓WB_not, ↓W_if, ↓W_andV, ↓W_orV, ↓W_notV, ↓WM_some, ↓WM_none, ↓WO_some, ↓tr_bl, ↓tr_non, ↓tr_int, ↓tr_tup, ↓tr_rol, ↓WS_nx, ↓WS_rt, ↓WS_ct, ↓WS_bk, ↓WS_exn, ↓WS_seq, ↓WS_nil, ↓WS_retN, ↓WS_break, ↓WS_cont, ↓WS_expr, ↓WS_ret, ↓WS_if, ↓WS_set, ↓WS_par, ↓WS_asg, ↓WS_gSet, ↓WS_gN, ↓WS_gC, ↓WS_gUn, ↓WS_gSub, ↓WS_aug, ↓o_add, ↓o_iadd, ↓o_sub, ↓o_neg, ↓o_mul, ↓o_mod, ↓o_div, ↓o_pow, ↓o_addT, ↓o_addS, ↓o_addL, ↓o_lt, ↓o_le, ↓o_gt, ↓o_ge, ↓o_eq, ↓o_ne, ↓o_eqS, ↓o_neS, ↓o_eqB, ↓o_neB, ↓o_eqT, ↓o_neT, ↓o_eqN, ↓o_neN, ↓o_ltT, ↓o_leT, ↓o_is, ↓o_isnot, ↓o_isB, ↓o_isnotB, ↓o_inT, ↓o_ninT, ↓o_inL, ↓o_ninL, ↓o_ixT, ↓o_ixR, ↓o_ixL, ↓o_ixS, ↓o_str, ↓o_strS, ↓o_set, ↓o_lenT, ↓o_lenR, ↓o_lenL, ↓o_lenS, ↓o_int, ↓o_intT, ↓o_intF, ↓o_abs, ↓o_max, ↓o_min, ↓o_tuple, ↓o_list, ↓o_tup0, ↓o_tup1, ↓o_tup2, ↓o_tup3, ↓o_tup4, ↓o_tup5, ↓o_tup6, ↓o_lst0, ↓o_lst1, ↓o_lst2, ↓o_lst3, ↓o_lst4, ↓o_lst5, ↓o_lst6, ↓o_sum, ↓W_meth, ↓o_append, ↓o_extend, ↓o_popAt, ↓W_cut, ↓W_noPart, ↓W_part, ↓o_cutT, ↓o_cutR, ↓o_cutL, ↓W_isi, ↓W_ch, ↓WS_for, ↓WI_iter, ↓WI_range1, ↓WI_range2, ↓WI_range3, ↓WI_enum, ↓WS_f0, ↓WS_f1, ↓W_alloc, ↓W_ofL, ↓W_comp, ↓WB_yes, ↓W_c0, ↓W_c1, ↓W_listRg, ↓W_tupRg, ↓W_rRange1, ↓W_rRange2, o_intT, o_intF, o_intB, o_ixL, o_ixT, beq_self_eq_true, decide_true, decide_false, okEq, okCmp, okIn, D.fits, D.fitsL, D.dep, D.depL, D.eqv, D.eqvL, D.alike, D.alikeL, isBl_bl, isN_non, isN_bl, isN_int, isN_str, isN_tup, isN_rol, isN_loc, Nat.reduceAdd, Nat.reduceSub, Nat.max_self, Nat.min_self, Nat.max_zero, Nat.zero_max, Nat.min_zero, Nat.zero_min, ty_non, ty_bl, ty_int, ty_str, ty_tup, ty_rol, ty_loc, kb_bool_bool, kb_bool_int, kb_bool_str, kb_bool_tuple, kb_bool_list, kb_int_bool, kb_int_int, kb_int_str, kb_int_tuple, kb_int_list, kb_str_bool, kb_str_int, kb_str_str, kb_str_tuple, kb_str_list, kb_tuple_bool, kb_tuple_int, kb_tuple_str, kb_tuple_tuple, kb_tuple_list, kb_list_bool, kb_list_int, kb_list_str, kb_list_tuple, kb_list_list, kb_NoneType_bool, kb_NoneType_int, kb_NoneType_str, kb_NoneType_tuple, kb_NoneType_list, Nat.zero_add, c02, lstAt_setE, Option.map_some, lstAt_set_ne, ne_eq, Nat.reduceEqDiff, Nat.one_ne_zero, Nat.zero_ne_one, ix_1_0, ix_2_0, ix_2_1, ix_3_0, ix_3_1, ix_3_2, ix_4_0, ix_4_1, ix_4_2, ix_4_3, ix_5_0, ix_5_1, ix_5_2, ix_5_3, ix_5_4, ix_6_0, ix_6_1, ix_6_2, ix_6_3, ix_6_4, ix_6_5, Nat.reduceLeDiff, Int.reduceAdd, Int.reduceSub, Int.reduceMul, Int.reduceNeg, Int.reducePow, Int.reduceLT, Int.reduceLE, Int.reduceEq, Int.reduceToNat, Bool.and_true, Bool.true_and, Bool.and_self, Bool.and_false, Bool.false_and, Bool.and_eq_true, Bool.and_eq_false_imp, and_self, WS_qdn, WS_qdr, WS_qde, WS_qdb, WS_qdc, qn1, qn2, qn3, qn4, qn5, qk1, qk5, lq1, lq2, lq3, lq4, lq5, intD_int, items_tup, items_rol, items_loc, listOf_loc, listOf_rol, isL_loc, at0, at1, at2, at3, at4, at5, atl1, atl2, atl3, atl4, lstAt_new, it_tup, it_rol, kTup_eq, kLen_eq, wipe0, wipe1, b_nm, List.set_cons_zero, List.set_cons_succ, List.length_cons, List.length_nil, List.nil_append, List.cons_append, List.append_nil, List.isEmpty_cons, List.isEmpty_nil, true_and, and_true, false_and, and_false, true_implies, forall_const, not_true_eq_false, not_false_eq_true, implies_true, decide_eq_true_eq, decide_eq_false_iff_not, Bool.not_eq_true', Bool.not_eq_false', Bool.not_true, Bool.not_false, if_true, if_false, Bool.false_eq_true, Bool.true_eq_false, reduceCtorEq, false_implies, eq_self, wm__law_fields, b__law_fields]
  refine draw_w hF (by omega) fun v S1 _ _ hF1 F1 => ?_
  simp only [↓reduceIte, ↓W_ok, ↓W_exn, ↓W_var0, ↓W_varS, ↓W_K, ↓W_bin, ↓W_un, ↓W_aNil, ↓W_aCons, ↓W_arg, ↓W_call, ↓W_of, ↓WB_test, ↓tc_bl, ↓WB_tru, ↓trc, ↓WB_and, ↓WB_or, ↓WB_not, ↓W_if, ↓W_andV, ↓W_orV, ↓W_notV, ↓WM_some, ↓WM_none, ↓WO_some, ↓tr_bl, ↓tr_non, ↓tr_int, ↓tr_tup, ↓tr_rol, ↓WS_nx, ↓WS_rt, ↓WS_ct, ↓WS_bk, ↓WS_exn, ↓WS_seq, ↓WS_nil, ↓WS_retN, ↓WS_break, ↓WS_cont, ↓WS_expr, ↓WS_ret, ↓WS_if, ↓WS_set, ↓WS_par, ↓WS_asg, ↓WS_gSet, ↓WS_gN, ↓WS_gC, ↓WS_gUn, ↓WS_gSub, ↓WS_aug, ↓o_add, ↓o_iadd, ↓o_sub, ↓o_neg, ↓o_mul, ↓o_mod, ↓o_div, ↓o_pow, ↓o_addT, ↓o_addS, ↓o_addL, ↓o_lt, ↓o_le, ↓o_gt, ↓o_ge, ↓o_eq, ↓o_ne, ↓o_eqS, ↓o_neS, ↓o_eqB, ↓o_neB, ↓o_eqT, ↓o_neT, ↓o_eqN, ↓o_neN, ↓o_ltT, ↓o_leT, ↓o_is, ↓o_isnot, ↓o_isB, ↓o_isnotB, ↓o_inT, ↓o_ninT, ↓o_inL, ↓o_ninL, ↓o_ixT, ↓o_ixR, ↓o_ixL, ↓o_ixS, ↓o_str, ↓o_strS, ↓o_set, ↓o_lenT, ↓o_lenR, ↓o_lenL, ↓o_lenS, ↓o_int, ↓o_intT, ↓o_intF, ↓o_abs, ↓o_max, ↓o_min, ↓o_tuple, ↓o_list, ↓o_tup0, ↓o_tup1, ↓o_tup2, ↓o_tup3, ↓o_tup4, ↓o_tup5, ↓o_tup6, ↓o_lst0, ↓o_lst1, ↓o_lst2, ↓o_lst3, ↓o_lst4, ↓o_lst5, ↓o_lst6, ↓o_sum, ↓W_meth, ↓o_append, ↓o_extend, ↓o_popAt, ↓W_cut, ↓W_noPart, ↓W_part, ↓o_cutT, ↓o_cutR, ↓o_cutL, ↓W_isi, ↓W_ch, ↓WS_for, ↓WI_iter, ↓WI_range1, ↓WI_range2, ↓WI_range3, ↓WI_enum, ↓WS_f0, ↓WS_f1, ↓W_alloc, ↓W_ofL, ↓W_comp, ↓WB_yes, ↓W_c0, ↓W_c1, ↓W_listRg, ↓W_tupRg, ↓W_rRange1, ↓W_rRange2, o_intT, o_intF, o_intB, o_ixL, o_ixT, beq_self_eq_true, decide_true, decide_false, okEq, okCmp, okIn, D.fits, D.fitsL, D.dep, D.depL, D.eqv, D.eqvL, D.alike, D.alikeL, isBl_bl, isN_non, isN_bl, isN_int, isN_str, isN_tup, isN_rol, isN_loc, Nat.reduceAdd, Nat.reduceSub, Nat.max_self, Nat.min_self, Nat.max_zero, Nat.zero_max, Nat.min_zero, Nat.zero_min, ty_non, ty_bl, ty_int, ty_str, ty_tup, ty_rol, ty_loc, kb_bool_bool, kb_bool_int, kb_bool_str, kb_bool_tuple, kb_bool_list, kb_int_bool, kb_int_int, kb_int_str, kb_int_tuple, kb_int_list, kb_str_bool, kb_str_int, kb_str_str, kb_str_tuple, kb_str_list, kb_tuple_bool, kb_tuple_int, kb_tuple_str, kb_tuple_tuple, kb_tuple_list, kb_list_bool, kb_list_int, kb_list_str, kb_list_tuple, kb_list_list, kb_NoneType_bool, kb_NoneType_int, kb_NoneType_str, kb_NoneType_tuple, kb_NoneType_list, Nat.zero_add, c02, lstAt_setE, Option.map_some, lstAt_set_ne, ne_eq, Nat.reduceEqDiff, Nat.one_ne_zero, Nat.zero_ne_one, ix_1_0, ix_2_0, ix_2_1, ix_3_0, ix_3_1, ix_3_2, ix_4_0, ix_4_1, ix_4_2, ix_4_3, ix_5_0, ix_5_1, ix_5_2, ix_5_3, ix_5_4, ix_6_0, ix_6_1, ix_6_2, ix_6_3, ix_6_4, ix_6_5, Nat.reduceLeDiff, Int.reduceAdd, Int.reduceSub, Int.reduceMul, Int.reduceNeg, Int.reducePow, Int.reduceLT, Int.reduceLE, Int.reduceEq, Int.reduceToNat, Bool.and_true, Bool.true_and, Bool.and_self, Bool.and_false, Bool.false_and, Bool.and_eq_true, Bool.and_eq_false_imp, and_self, WS_qdn, WS_qdr, WS_qde, WS_qdb, WS_qdc, qn1, qn2, qn3, qn4, qn5, qk1, qk5, lq1, lq2, lq3, lq4, lq5, intD_int, items_tup, items_rol, items_loc, listOf_loc, listOf_rol, isL_loc, at0, at1, at2, at3, at4, at5, atl1, atl2, atl3, atl4, lstAt_new, it_tup, it_rol, kTup_eq, kLen_eq, wipe0, wipe1, b_nm, List.set_cons_zero, List.set_cons_succ, List.length_cons, List.length_nil, List.nil_append, List.cons_append, List.append_nil, List.isEmpty_cons, List.isEmpty_nil, true_and, and_true, false_and, and_false, true_implies, forall_const, not_true_eq_false, not_false_eq_true, implies_true, decide_eq_true_eq, decide_eq_false_iff_not, Bool.not_eq_true', Bool.not_eq_false', Bool.not_true, Bool.not_false, if_true, if_false, Bool.false_eq_true, Bool.true_eq_false, reduceCtorEq, false_implies, eq_self]
  refine names_w hF1 (by omega) (by omega) fun ns S2 l hnl hn hF2 F2 hl1 hL => ?_
  have g1 := hF1.len
  have g2 := hF2.len
  have hlt := lstAt_lt hL
  simp only [↓reduceIte, ↓W_ok, ↓W_exn, ↓W_var0, ↓W_varS, ↓W_K, ↓W_bin, ↓W_un, ↓W_aNil, ↓W_aCons, ↓W_arg, ↓W_call, ↓W_of, ↓WB_test, ↓tc_bl, ↓WB_tru, ↓trc, ↓WB_and, ↓WB_or, ↓WB_not, ↓W_if, ↓W_andV, ↓W_orV, ↓W_notV, ↓WM_some, ↓WM_none, ↓WO_some, ↓tr_bl, ↓tr_non, ↓tr_int, ↓tr_tup, ↓tr_rol, ↓WS_nx, ↓WS_rt, ↓WS_ct, ↓WS_bk, ↓WS_exn, ↓WS_seq, ↓WS_nil, ↓WS_retN, ↓WS_break, ↓WS_cont, ↓WS_expr, ↓WS_ret, ↓WS_if, ↓WS_set, ↓WS_par, ↓WS_asg, ↓WS_gSet, ↓WS_gN, ↓WS_gC, ↓WS_gUn, ↓WS_gSub, ↓WS_aug, ↓o_add, ↓o_iadd, ↓o_sub, ↓o_neg, ↓o_mul, ↓o_mod, ↓o_div, ↓o_pow, ↓o_addT, ↓o_addS, ↓o_addL, ↓o_lt, ↓o_le, ↓o_gt, ↓o_ge, ↓o_eq, ↓o_ne, ↓o_eqS, ↓o_neS, ↓o_eqB, ↓o_neB, ↓o_eqT, ↓o_neT, ↓o_eqN, ↓o_neN, ↓o_ltT, ↓o_leT, ↓o_is, ↓o_isnot, ↓o_isB, ↓o_isnotB, ↓o_inT, ↓o_ninT, ↓o_inL, ↓o_ninL, ↓o_ixT, ↓o_ixR, ↓o_ixL, ↓o_ixS, ↓o_str, ↓o_strS, ↓o_set, ↓o_lenT, ↓o_lenR, ↓o_lenL, ↓o_lenS, ↓o_int, ↓o_intT, ↓o_intF, ↓o_abs, ↓o_max, ↓o_min, ↓o_tuple, ↓o_list, ↓o_tup0, ↓o_tup1, ↓o_tup2, ↓o_tup3, ↓o_tup4, ↓o_tup5, ↓o_tup6, ↓o_lst0, ↓o_lst1, ↓o_lst2, ↓o_lst3, ↓o_lst4, ↓o_lst5, ↓o_lst6, ↓o_sum, ↓W_meth, ↓o_append, ↓o_extend, ↓o_popAt, ↓W_cut, ↓W_noPart, ↓W_part, ↓o_cutT, ↓o_cutR, ↓o_cutL, ↓W_isi, ↓W_ch, ↓WS_for, ↓WI_iter, ↓WI_range1, ↓WI_range2, ↓WI_range3, ↓WI_enum, ↓WS_f0, ↓WS_f1, ↓W_alloc, ↓W_ofL, ↓W_comp, ↓WB_yes, ↓W_c0, ↓W_c1, ↓W_listRg, ↓W_tupRg, ↓W_rRange1, ↓W_rRange2, o_intT, o_intF, o_intB, o_ixL, o_ixT, beq_self_eq_true, decide_true, decide_false, okEq, okCmp, okIn, D.fits, D.fitsL, D.dep, D.depL, D.eqv, D.eqvL, D.alike, D.alikeL, isBl_bl, isN_non, isN_bl, isN_int, isN_str, isN_tup, isN_rol, isN_loc, Nat.reduceAdd, Nat.reduceSub, Nat.max_self, Nat.min_self, Nat.max_zero, Nat.zero_max, Nat.min_zero, Nat.zero_min, ty_non, ty_bl, ty_int, ty_str, ty_tup, ty_rol, ty_loc, kb_bool_bool, kb_bool_int, kb_bool_str, kb_bool_tuple, kb_bool_list, kb_int_bool, kb_int_int, kb_int_str, kb_int_tuple, kb_int_list, kb_str_bool, kb_str_int, kb_str_str, kb_str_tuple, kb_str_list, kb_tuple_bool, kb_tuple_int, kb_tuple_str, kb_tuple_tuple, kb_tuple_list, kb_list_bool, kb_list_int, kb_list_str, kb_list_tuple, kb_list_list, kb_NoneType_bool, kb_NoneType_int, kb_NoneType_str, kb_NoneType_tuple, kb_NoneType_list, Nat.zero_add, c02, lstAt_setE, Option.map_some, lstAt_set_ne, ne_eq, Nat.reduceEqDiff, Nat.one_ne_zero, Nat.zero_ne_one, ix_1_0, ix_2_0, ix_2_1, ix_3_0, ix_3_1, ix_3_2, ix_4_0, ix_4_1, ix_4_2, ix_4_3, ix_5_0, ix_5_1, ix_5_2, ix_5_3, ix_5_4, ix_6_0, ix_6_1, ix_6_2, ix_6_3, ix_6_4, ix_6_5, Nat.reduceLeDiff, Int.reduceAdd, Int.reduceSub, Int.reduceMul, Int.reduceNeg, Int.reducePow, Int.reduceLT, Int.reduceLE, Int.reduceEq, Int.reduceToNat, Bool.and_true, Bool.true_and, Bool.and_self, Bool.and_false, Bool.false_and, Bool.and_eq_true, Bool.and_eq_false_imp, and_self, WS_qdn, WS_qdr, WS_qde, WS_qdb, WS_qdc, qn1, qn2, qn3, qn4, qn5, qk1, qk5, lq1, lq2, lq3, lq4, lq5, intD_int, items_tup, items_rol, items_loc, listOf_loc, listOf_rol, isL_loc, at0, at1, at2, at3, at4, at5, atl1, atl2, atl3, atl4, lstAt_new, it_tup, it_rol, kTup_eq, kLen_eq, wipe0, wipe1, b_nm, List.set_cons_zero, List.set_cons_succ, List.length_cons, List.length_nil, List.nil_append, List.cons_append, List.append_nil, List.isEmpty_cons, List.isEmpty_nil, true_and, and_true, false_and, and_false, true_implies, forall_const, not_true_eq_false, not_false_eq_true, implies_true, decide_eq_true_eq, decide_eq_false_iff_not, Bool.not_eq_true', Bool.not_eq_false', Bool.not_true, Bool.not_false, if_true, if_false, Bool.false_eq_true, Bool.true_eq_false, reduceCtorEq, false_implies, eq_self, it_loc (lstAt_app hL)]
  refine WS_loop (fun ds σ S' => FeedOk S' ∧ Fr S2 S' ∧ lstAt S' l = some (ns.map D.str) ∧ ∃ (post : List Str) (fs : List Fld) (left : Int) (p q r : Option D), ds = post.map D.str ∧ (∀ n ∈ post, NmOk n) ∧ fs.length + post.length = ns.length ∧ (∀ f ∈ fs, f.ok) ∧ 1 ≤ left ∧ lstAt S' S2.length = some (fs.map Fld.d) ∧ σ = [some (.loc 1), some (.int most), some (.int size), some (.loc l), some (.loc S2.length), some (.int left), p, q, r]) ⟨hF2.app _, (Fr.refl _).app _, lstAt_app hL, ns, [], size, none, none, none, rfl, hn, by simp, by simp, hs, lstAt_new, rfl⟩ ?_ ?_
  · rintro d r σ S3 ⟨hF3, F3, hL3, post, fs, left, p, q, r', hds, hpo, hln, hok, hle, hf, rfl⟩
    refine ⟨lstAt_iff.mp hL3, ?_⟩
    cases post with
    | nil => cases hds
    | cons n post =>
      rw [List.map_cons] at hds
      obtain ⟨rfl, rfl⟩ := List.cons.inj hds
      rw [List.length_cons] at hln
      simp only [↓reduceIte, ↓W_ok, ↓W_exn, ↓W_var0, ↓W_varS, ↓W_K, ↓W_bin, ↓W_un, ↓W_aNil, ↓W_aCons, ↓W_arg, ↓W_call, ↓W_of, ↓WB_test, ↓tc_bl, ↓WB_tru, ↓trc, ↓WB_and, ↓WB_or, ↓WB_not, ↓W_if, ↓W_andV, ↓W_orV, ↓W_notV, ↓WM_some, ↓WM_none, ↓WO_some, ↓tr_bl, ↓tr_non, ↓tr_int, ↓tr_tup, ↓tr_rol, ↓WS_nx, ↓WS_rt, ↓WS_ct, ↓WS_bk, ↓WS_exn, ↓WS_seq, ↓WS_nil, ↓WS_retN, ↓WS_break, ↓WS_cont, ↓WS_expr, ↓WS_ret, ↓WS_if, ↓WS_set, ↓WS_par, ↓WS_asg, ↓WS_gSet, ↓WS_gN, ↓WS_gC, ↓WS_gUn, ↓WS_gSub, ↓WS_aug, ↓o_add, ↓o_iadd, ↓o_sub, ↓o_neg, ↓o_mul, ↓o_mod, ↓o_div, ↓o_pow, ↓o_addT, ↓o_addS, ↓o_addL, ↓o_lt, ↓o_le, ↓o_gt, ↓o_ge, ↓o_eq, ↓o_ne, ↓o_eqS, ↓o_neS, ↓o_eqB, ↓o_neB, ↓o_eqT, ↓o_neT, ↓o_eqN, ↓o_neN, ↓o_ltT, ↓o_leT, ↓o_is, ↓o_isnot, ↓o_isB, ↓o_isnotB, ↓o_inT, ↓o_ninT, ↓o_inL, ↓o_ninL, ↓o_ixT, ↓o_ixR, ↓o_ixL, ↓o_ixS, ↓o_str, ↓o_strS, ↓o_set, ↓o_lenT, ↓o_lenR, ↓o_lenL, ↓o_lenS, ↓o_int, ↓o_intT, ↓o_intF, ↓o_abs, ↓o_max, ↓o_min, ↓o_tuple, ↓o_list, ↓o_tup0, ↓o_tup1, ↓o_tup2, ↓o_tup3, ↓o_tup4, ↓o_tup5, ↓o_tup6, ↓o_lst0, ↓o_lst1, ↓o_lst2, ↓o_lst3, ↓o_lst4, ↓o_lst5, ↓o_lst6, ↓o_sum, ↓W_meth, ↓o_append, ↓o_extend, ↓o_popAt, ↓W_cut, ↓W_noPart, ↓W_part, ↓o_cutT, ↓o_cutR, ↓o_cutL, ↓W_isi, ↓W_ch, ↓WS_for, ↓WI_iter, ↓WI_range1, ↓WI_range2, ↓WI_range3, ↓WI_enum, ↓WS_f0, ↓WS_f1, ↓W_alloc, ↓W_ofL, ↓W_comp, ↓WB_yes, ↓W_c0, ↓W_c1, ↓W_listRg, ↓W_tupRg, ↓W_rRange1, ↓W_rRange2, o_intT, o_intF, o_intB, o_ixL, o_ixT, beq_self_eq_true, decide_true, decide_false, okEq, okCmp, okIn, D.fits, D.fitsL, D.dep, D.depL, D.eqv, D.eqvL, D.alike, D.alikeL, isBl_bl, isN_non, isN_bl, isN_int, isN_str, isN_tup, isN_rol, isN_loc, Nat.reduceAdd, Nat.reduceSub, Nat.max_self, Nat.min_self, Nat.max_zero, Nat.zero_max, Nat.min_zero, Nat.zero_min, ty_non, ty_bl, ty_int, ty_str, ty_tup, ty_rol, ty_loc, kb_bool_bool, kb_bool_int, kb_bool_str, kb_bool_tuple, kb_bool_list, kb_int_bool, kb_int_int, kb_int_str, kb_int_tuple, kb_int_list, kb_str_bool, kb_str_int, kb_str_str, kb_str_tuple, kb_str_list, kb_tuple_bool, kb_tuple_int, kb_tuple_str, kb_tuple_tuple, kb_tuple_list, kb_list_bool, kb_list_int, kb_list_str, kb_list_tuple, kb_list_list, kb_NoneType_bool, kb_NoneType_int, kb_NoneType_str, kb_NoneType_tuple, kb_NoneType_list, Nat.zero_add, c02, lstAt_setE, Option.map_some, lstAt_set_ne, ne_eq, Nat.reduceEqDiff, Nat.one_ne_zero, Nat.zero_ne_one, ix_1_0, ix_2_0, ix_2_1, ix_3_0, ix_3_1, ix_3_2, ix_4_0, ix_4_1, ix_4_2, ix_4_3, ix_5_0, ix_5_1, ix_5_2, ix_5_3, ix_5_4, ix_6_0, ix_6_1, ix_6_2, ix_6_3, ix_6_4, ix_6_5, Nat.reduceLeDiff, Int.reduceAdd, Int.reduceSub, Int.reduceMul, Int.reduceNeg, Int.reducePow, Int.reduceLT, Int.reduceLE, Int.reduceEq, Int.reduceToNat, Bool.and_true, Bool.true_and, Bool.and_self, Bool.and_false, Bool.false_and, Bool.and_eq_true, Bool.and_eq_false_imp, and_self, WS_qdn, WS_qdr, WS_qde, WS_qdb, WS_qdc, qn1, qn2, qn3, qn4, qn5, qk1, qk5, lq1, lq2, lq3, lq4, lq5, intD_int, items_tup, items_rol, items_loc, listOf_loc, listOf_rol, isL_loc, at0, at1, at2, at3, at4, at5, atl1, atl2, atl3, atl4, lstAt_new, it_tup, it_rol, kTup_eq, kLen_eq, wipe0, wipe1, b_nm, List.set_cons_zero, List.set_cons_succ, List.length_cons, List.length_nil, List.nil_append, List.cons_append, List.append_nil, List.isEmpty_cons, List.isEmpty_nil, true_and, and_true, false_and, and_false, true_implies, forall_const, not_true_eq_false, not_false_eq_true, implies_true, decide_eq_true_eq, decide_eq_false_iff_not, Bool.not_eq_true', Bool.not_eq_false', Bool.not_true, Bool.not_false, if_true, if_false, Bool.false_eq_true, Bool.true_eq_false, reduceCtorEq, false_implies, eq_self]
      refine draw_w hF3 (by omega) fun m S4 m0 m1 hF4 F4 => ?_
      simp only [↓reduceIte, ↓W_ok, ↓W_exn, ↓W_var0, ↓W_varS, ↓W_K, ↓W_bin, ↓W_un, ↓W_aNil, ↓W_aCons, ↓W_arg, ↓W_call, ↓W_of, ↓WB_test, ↓tc_bl, ↓WB_tru, ↓trc, ↓WB_and, ↓WB_or, ↓WB_not, ↓W_if, ↓W_andV, ↓W_orV, ↓W_notV, ↓WM_some, ↓WM_none, ↓WO_some, ↓tr_bl, ↓tr_non, ↓tr_int, ↓tr_tup, ↓tr_rol, ↓WS_nx, ↓WS_rt, ↓WS_ct, ↓WS_bk, ↓WS_exn, ↓WS_seq, ↓WS_nil, ↓WS_retN, ↓WS_break, ↓WS_cont, ↓WS_expr, ↓WS_ret, ↓WS_if, ↓WS_set, ↓WS_par, ↓WS_asg, ↓WS_gSet, ↓WS_gN, ↓WS_gC, ↓WS_gUn, ↓WS_gSub, ↓WS_aug, ↓o_add, ↓o_iadd, ↓o_sub, ↓o_neg, ↓o_mul, ↓o_mod, ↓o_div, ↓o_pow, ↓o_addT, ↓o_addS, ↓o_addL, ↓o_lt, ↓o_le, ↓o_gt, ↓o_ge, ↓o_eq, ↓o_ne, ↓o_eqS, ↓o_neS, ↓o_eqB, ↓o_neB, ↓o_eqT, ↓o_neT, ↓o_eqN, ↓o_neN, ↓o_ltT, ↓o_leT, ↓o_is, ↓o_isnot, ↓o_isB, ↓o_isnotB, ↓o_inT, ↓o_ninT, ↓o_inL, ↓o_ninL, ↓o_ixT, ↓o_ixR, ↓o_ixL, ↓o_ixS, ↓o_str, ↓o_strS, ↓o_set, ↓o_lenT, ↓o_lenR, ↓o_lenL, ↓o_lenS, ↓o_int, ↓o_intT, ↓o_intF, ↓o_abs, ↓o_max, ↓o_min, ↓o_tuple, ↓o_list, ↓o_tup0, ↓o_tup1, ↓o_tup2, ↓o_tup3, ↓o_tup4, ↓o_tup5, ↓o_tup6, ↓o_lst0, ↓o_lst1, ↓o_lst2, ↓o_lst3, ↓o_lst4, ↓o_lst5, ↓o_lst6, ↓o_sum, ↓W_meth, ↓o_append, ↓o_extend, ↓o_popAt, ↓W_cut, ↓W_noPart, ↓W_part, ↓o_cutT, ↓o_cutR, ↓o_cutL, ↓W_isi, ↓W_ch, ↓WS_for, ↓WI_iter, ↓WI_range1, ↓WI_range2, ↓WI_range3, ↓WI_enum, ↓WS_f0, ↓WS_f1, ↓W_alloc, ↓W_ofL, ↓W_comp, ↓WB_yes, ↓W_c0, ↓W_c1, ↓W_listRg, ↓W_tupRg, ↓W_rRange1, ↓W_rRange2, o_intT, o_intF, o_intB, o_ixL, o_ixT, beq_self_eq_true, decide_true, decide_false, okEq, okCmp, okIn, D.fits, D.fitsL, D.dep, D.depL, D.eqv, D.eqvL, D.alike, D.alikeL, isBl_bl, isN_non, isN_bl, isN_int, isN_str, isN_tup, isN_rol, isN_loc, Nat.reduceAdd, Nat.reduceSub, Nat.max_self, Nat.min_self, Nat.max_zero, Nat.zero_max, Nat.min_zero, Nat.zero_min, ty_non, ty_bl, ty_int, ty_str, ty_tup, ty_rol, ty_loc, kb_bool_bool, kb_bool_int, kb_bool_str, kb_bool_tuple, kb_bool_list, kb_int_bool, kb_int_int, kb_int_str, kb_int_tuple, kb_int_list, kb_str_bool, kb_str_int, kb_str_str, kb_str_tuple, kb_str_list, kb_tuple_bool, kb_tuple_int, kb_tuple_str, kb_tuple_tuple, kb_tuple_list, kb_list_bool, kb_list_int, kb_list_str, kb_list_tuple, kb_list_list, kb_NoneType_bool, kb_NoneType_int, kb_NoneType_str, kb_NoneType_tuple, kb_NoneType_list, Nat.zero_add, c02, lstAt_setE, Option.map_some, lstAt_set_ne, ne_eq, Nat.reduceEqDiff, Nat.one_ne_zero, Nat.zero_ne_one, ix_1_0, ix_2_0, ix_2_1, ix_3_0, ix_3_1, ix_3_2, ix_4_0, ix_4_1, ix_4_2, ix_4_3, ix_5_0, ix_5_1, ix_5_2, ix_5_3, ix_5_4, ix_6_0, ix_6_1, ix_6_2, ix_6_3, ix_6_4, ix_6_5, Nat.reduceLeDiff, Int.reduceAdd, Int.reduceSub, Int.reduceMul, Int.reduceNeg, Int.reducePow, Int.reduceLT, Int.reduceLE, Int.reduceEq, Int.reduceToNat, Bool.and_true, Bool.true_and, Bool.and_self, Bool.and_false, Bool.false_and, Bool.and_eq_true, Bool.and_eq_false_imp, and_self, WS_qdn, WS_qdr, WS_qde, WS_qdb, WS_qdc, qn1, qn2, qn3, qn4, qn5, qk1, qk5, lq1, lq2, lq3, lq4, lq5, intD_int, items_tup, items_rol, items_loc, listOf_loc, listOf_rol, isL_loc, at0, at1, at2, at3, at4, at5, atl1, atl2, atl3, atl4, lstAt_new, it_tup, it_rol, kTup_eq, kLen_eq, wipe0, wipe1, b_nm, List.set_cons_zero, List.set_cons_succ, List.length_cons, List.length_nil, List.nil_append, List.cons_append, List.append_nil, List.isEmpty_cons, List.isEmpty_nil, true_and, and_true, false_and, and_false, true_implies, forall_const, not_true_eq_false, not_false_eq_true, implies_true, decide_eq_true_eq, decide_eq_false_iff_not, Bool.not_eq_true', Bool.not_eq_false', Bool.not_true, Bool.not_false, if_true, if_false, Bool.false_eq_true, Bool.true_eq_false, reduceCtorEq, false_implies, eq_self]
      refine ⟨divS (by omega) (by omega), ?_⟩
      refine draw_w hF4 (by omega) fun lo S5 _ _ hF5 F5 => ?_
      have hf5 := (F4.trans F5).lst g2 hf
      have hL5 := (F4.trans F5).lst (by omega) hL3
      simp only [↓reduceIte, ↓W_ok, ↓W_exn, ↓W_var0, ↓W_varS, ↓W_K, ↓W_bin, ↓W_un, ↓W_aNil, ↓W_aCons, ↓W_arg, ↓W_call, ↓W_of, ↓WB_test, ↓tc_bl, ↓WB_tru, ↓trc, ↓WB_and, ↓WB_or, ↓WB_not, ↓W_if, ↓W_andV, ↓W_orV, ↓W_notV, ↓WM_some, ↓WM_none, ↓WO_some, ↓tr_bl, ↓tr_non, ↓tr_int, ↓tr_tup, ↓tr_rol, ↓WS_nx, ↓WS_rt, ↓WS_ct, ↓WS_bk, ↓WS_exn, ↓WS_seq, ↓WS_nil, ↓WS_retN, ↓WS_break, ↓WS_cont, ↓WS_expr, ↓WS_ret, ↓WS_if, ↓WS_set, ↓WS_par, ↓WS_asg, ↓WS_gSet, ↓WS_gN, ↓WS_gC, ↓WS_gUn, ↓WS_gSub, ↓WS_aug, ↓o_add, ↓o_iadd, ↓o_sub, ↓o_neg, ↓o_mul, ↓o_mod, ↓o_div, ↓o_pow, ↓o_addT, ↓o_addS, ↓o_addL, ↓o_lt, ↓o_le, ↓o_gt, ↓o_ge, ↓o_eq, ↓o_ne, ↓o_eqS, ↓o_neS, ↓o_eqB, ↓o_neB, ↓o_eqT, ↓o_neT, ↓o_eqN, ↓o_neN, ↓o_ltT, ↓o_leT, ↓o_is, ↓o_isnot, ↓o_isB, ↓o_isnotB, ↓o_inT, ↓o_ninT, ↓o_inL, ↓o_ninL, ↓o_ixT, ↓o_ixR, ↓o_ixL, ↓o_ixS, ↓o_str, ↓o_strS, ↓o_set, ↓o_lenT, ↓o_lenR, ↓o_lenL, ↓o_lenS, ↓o_int, ↓o_intT, ↓o_intF, ↓o_abs, ↓o_max, ↓o_min, ↓o_tuple, ↓o_list, ↓o_tup0, ↓o_tup1, ↓o_tup2, ↓o_tup3, ↓o_tup4, ↓o_tup5, ↓o_tup6, ↓o_lst0, ↓o_lst1, ↓o_lst2, ↓o_lst3, ↓o_lst4, ↓o_lst5, ↓o_lst6, ↓o_sum, ↓W_meth, ↓o_append, ↓o_extend, ↓o_popAt, ↓W_cut, ↓W_noPart, ↓W_part, ↓o_cutT, ↓o_cutR, ↓o_cutL, ↓W_isi, ↓W_ch, ↓WS_for, ↓WI_iter, ↓WI_range1, ↓WI_range2, ↓WI_range3, ↓WI_enum, ↓WS_f0, ↓WS_f1, ↓W_alloc, ↓W_ofL, ↓W_comp, ↓WB_yes, ↓W_c0, ↓W_c1, ↓W_listRg, ↓W_tupRg, ↓W_rRange1, ↓W_rRange2, o_intT, o_intF, o_intB, o_ixL, o_ixT, beq_self_eq_true, decide_true, decide_false, okEq, okCmp, okIn, D.fits, D.fitsL, D.dep, D.depL, D.eqv, D.eqvL, D.alike, D.alikeL, isBl_bl, isN_non, isN_bl, isN_int, isN_str, isN_tup, isN_rol, isN_loc, Nat.reduceAdd, Nat.reduceSub, Nat.max_self, Nat.min_self, Nat.max_zero, Nat.zero_max, Nat.min_zero, Nat.zero_min, ty_non, ty_bl, ty_int, ty_str, ty_tup, ty_rol, ty_loc, kb_bool_bool, kb_bool_int, kb_bool_str, kb_bool_tuple, kb_bool_list, kb_int_bool, kb_int_int, kb_int_str, kb_int_tuple, kb_int_list, kb_str_bool, kb_str_int, kb_str_str, kb_str_tuple, kb_str_list, kb_tuple_bool, kb_tuple_int, kb_tuple_str, kb_tuple_tuple, kb_tuple_list, kb_list_bool, kb_list_int, kb_list_str, kb_list_tuple, kb_list_list, kb_NoneType_bool, kb_NoneType_int, kb_NoneType_str, kb_NoneType_tuple, kb_NoneType_list, Nat.zero_add, c02, lstAt_setE, Option.map_some, lstAt_set_ne, ne_eq, Nat.reduceEqDiff, Nat.one_ne_zero, Nat.zero_ne_one, ix_1_0, ix_2_0, ix_2_1, ix_3_0, ix_3_1, ix_3_2, ix_4_0, ix_4_1, ix_4_2, ix_4_3, ix_5_0, ix_5_1, ix_5_2, ix_5_3, ix_5_4, ix_6_0, ix_6_1, ix_6_2, ix_6_3, ix_6_4, ix_6_5, Nat.reduceLeDiff, Int.reduceAdd, Int.reduceSub, Int.reduceMul, Int.reduceNeg, Int.reducePow, Int.reduceLT, Int.reduceLE, Int.reduceEq, Int.reduceToNat, Bool.and_true, Bool.true_and, Bool.and_self, Bool.and_false, Bool.false_and, Bool.and_eq_true, Bool.and_eq_false_imp, and_self, WS_qdn, WS_qdr, WS_qde, WS_qdb, WS_qdc, qn1, qn2, qn3, qn4, qn5, qk1, qk5, lq1, lq2, lq3, lq4, lq5, intD_int, items_tup, items_rol, items_loc, listOf_loc, listOf_rol, isL_loc, at0, at1, at2, at3, at4, at5, atl1, atl2, atl3, atl4, lstAt_new, it_tup, it_rol, kTup_eq, kLen_eq, wipe0, wipe1, b_nm, List.set_cons_zero, List.set_cons_succ, List.length_cons, List.length_nil, List.nil_append, List.cons_append, List.append_nil, List.isEmpty_cons, List.isEmpty_nil, true_and, and_true, false_and, and_false, true_implies, forall_const, not_true_eq_false, not_false_eq_true, implies_true, decide_eq_true_eq, decide_eq_false_iff_not, Bool.not_eq_true', Bool.not_eq_false', Bool.not_true, Bool.not_false, if_true, if_false, Bool.false_eq_true, Bool.true_eq_false, reduceCtorEq, false_implies, eq_self, hf5]
      refine ⟨by rw [List.length_map, sizeLine_eq]; omega, hF5.set g2, ((F3.trans F4).trans F5).set (Nat.le_refl _), ?_, post, fs ++ [⟨n, lo - 3, lo - 3 + (1 + m) - 1⟩], _, _, _, _, rfl, fun n hn => hpo n (List.mem_cons_of_mem _ hn), by simp; omega, fun f hf => ?_, ?_, by rw [List.map_append]; rfl, rfl⟩
      · first | exact hL5 | (rw [lstAt_set_ne (by omega)]; exact hL5)
      · rcases List.mem_append.mp hf with hf | hf
        · exact hok f hf
        · rw [List.mem_singleton.mp hf]
          exact ⟨hpo n (by simp), by simp only; omega, by simp only; omega, by simp only; omega, by simp only; omega⟩
      · have : (1 + m) * 1 ≤ left := by omega
        exact (Int.le_ediv_iff_mul_le (by omega)).mpr (by omega)
  · rintro σ S3 ⟨hF3, F3, hL3, post, fs, left, p, q, r', hds, hpo, hln, hok, hle, hf, rfl⟩
    refine ⟨lstAt_iff.mp hL3, ?_⟩
    simp only [↓reduceIte, ↓W_ok, ↓W_exn, ↓W_var0, ↓W_varS, ↓W_K, ↓W_bin, ↓W_un, ↓W_aNil, ↓W_aCons, ↓W_arg, ↓W_call, ↓W_of, ↓WB_test, ↓tc_bl, ↓WB_tru, ↓trc, ↓WB_and, ↓WB_or, ↓WB_not, ↓W_if, ↓W_andV, ↓W_orV, ↓W_notV, ↓WM_some, ↓WM_none, ↓WO_some, ↓tr_bl, ↓tr_non, ↓tr_int, ↓tr_tup, ↓tr_rol, ↓WS_nx, ↓WS_rt, ↓WS_ct, ↓WS_bk, ↓WS_exn, ↓WS_seq, ↓WS_nil, ↓WS_retN, ↓WS_break, ↓WS_cont, ↓WS_expr, ↓WS_ret, ↓WS_if, ↓WS_set, ↓WS_par, ↓WS_asg, ↓WS_gSet, ↓WS_gN, ↓WS_gC, ↓WS_gUn, ↓WS_gSub, ↓WS_aug, ↓o_add, ↓o_iadd, ↓o_sub, ↓o_neg, ↓o_mul, ↓o_mod, ↓o_div, ↓o_pow, ↓o_addT, ↓o_addS, ↓o_addL, ↓o_lt, ↓o_le, ↓o_gt, ↓o_ge, ↓o_eq, ↓o_ne, ↓o_eqS, ↓o_neS, ↓o_eqB, ↓o_neB, ↓o_eqT, ↓o_neT, ↓o_eqN, ↓o_neN, ↓o_ltT, ↓o_leT, ↓o_is, ↓o_isnot, ↓o_isB, ↓o_isnotB, ↓o_inT, ↓o_ninT, ↓o_inL, ↓o_ninL, ↓o_ixT, ↓o_ixR, ↓o_ixL, ↓o_ixS, ↓o_str, ↓o_strS, ↓o_set, ↓o_lenT, ↓o_lenR, ↓o_lenL, ↓o_lenS, ↓o_int, ↓o_intT, ↓o_intF, ↓o_abs, ↓o_max, ↓o_min, ↓o_tuple, ↓o_list, ↓o_tup0, ↓o_tup1, ↓o_tup2, ↓o_tup3, ↓o_tup4, ↓o_tup5, ↓o_tup6, ↓o_lst0, ↓o_lst1, ↓o_lst2, ↓o_lst3, ↓o_lst4, ↓o_lst5, ↓o_lst6, ↓o_sum, ↓W_meth, ↓o_append, ↓o_extend, ↓o_popAt, ↓W_cut, ↓W_noPart, ↓W_part, ↓o_cutT, ↓o_cutR, ↓o_cutL, ↓W_isi, ↓W_ch, ↓WS_for, ↓WI_iter, ↓WI_range1, ↓WI_range2, ↓WI_range3, ↓WI_enum, ↓WS_f0, ↓WS_f1, ↓W_alloc, ↓W_ofL, ↓W_comp, ↓WB_yes, ↓W_c0, ↓W_c1, ↓W_listRg, ↓W_tupRg, ↓W_rRange1, ↓W_rRange2, o_intT, o_intF, o_intB, o_ixL, o_ixT, beq_self_eq_true, decide_true, decide_false, okEq, okCmp, okIn, D.fits, D.fitsL, D.dep, D.depL, D.eqv, D.eqvL, D.alike, D.alikeL, isBl_bl, isN_non, isN_bl, isN_int, isN_str, isN_tup, isN_rol, isN_loc, Nat.reduceAdd, Nat.reduceSub, Nat.max_self, Nat.min_self, Nat.max_zero, Nat.zero_max, Nat.min_zero, Nat.zero_min, ty_non, ty_bl, ty_int, ty_str, ty_tup, ty_rol, ty_loc, kb_bool_bool, kb_bool_int, kb_bool_str, kb_bool_tuple, kb_bool_list, kb_int_bool, kb_int_int, kb_int_str, kb_int_tuple, kb_int_list, kb_str_bool, kb_str_int, kb_str_str, kb_str_tuple, kb_str_list, kb_tuple_bool, kb_tuple_int, kb_tuple_str, kb_tuple_tuple, kb_tuple_list, kb_list_bool, kb_list_int, kb_list_str, kb_list_tuple, kb_list_list, kb_NoneType_bool, kb_NoneType_int, kb_NoneType_str, kb_NoneType_tuple, kb_NoneType_list, Nat.zero_add, c02, lstAt_setE, Option.map_some, lstAt_set_ne, ne_eq, Nat.reduceEqDiff, Nat.one_ne_zero, Nat.zero_ne_one, ix_1_0, ix_2_0, ix_2_1, ix_3_0, ix_3_1, ix_3_2, ix_4_0, ix_4_1, ix_4_2, ix_4_3, ix_5_0, ix_5_1, ix_5_2, ix_5_3, ix_5_4, ix_6_0, ix_6_1, ix_6_2, ix_6_3, ix_6_4, ix_6_5, Nat.reduceLeDiff, Int.reduceAdd, Int.reduceSub, Int.reduceMul, Int.reduceNeg, Int.reducePow, Int.reduceLT, Int.reduceLE, Int.reduceEq, Int.reduceToNat, Bool.and_true, Bool.true_and, Bool.and_self, Bool.and_false, Bool.false_and, Bool.and_eq_true, Bool.and_eq_false_imp, and_self, WS_qdn, WS_qdr, WS_qde, WS_qdb, WS_qdc, qn1, qn2, qn3, qn4, qn5, qk1, qk5, lq1, lq2, lq3, lq4, lq5, intD_int, items_tup, items_rol, items_loc, listOf_loc, listOf_rol, isL_loc, at0, at1, at2, at3, at4, at5, atl1, atl2, atl3, atl4, lstAt_new, it_tup, it_rol, kTup_eq, kLen_eq, wipe0, wipe1, b_nm, List.set_cons_zero, List.set_cons_succ, List.length_cons, List.length_nil, List.nil_append, List.cons_append, List.append_nil, List.isEmpty_cons, List.isEmpty_nil, true_and, and_true, false_and, and_false, true_implies, forall_const, not_true_eq_false, not_false_eq_true, implies_true, decide_eq_true_eq, decide_eq_false_iff_not, Bool.not_eq_true', Bool.not_eq_false', Bool.not_true, Bool.not_false, if_true, if_false, Bool.false_eq_true, Bool.true_eq_false, reduceCtorEq, false_implies, eq_self, hf]
    have : post = [] := by
      cases post with
      | nil => rfl
      | cons f post => cases hds
    subst this
    rw [List.length_nil, Nat.add_zero] at hln
    exact h fs S3 (by omega) hok hF3 ((F1.trans F2).trans F3)
theorem half_w {fs : List Fld} {b : Int} (hF : FeedOk S) (hl : fs.length ≤ 12) (hb : 0 < b) (hok : ∀ f ∈ fs, f.ok) {c : D} {gd : Gd} (hc : Cont c gd (fs.map Fld.d) S) (h : ∀ as S', as.length = fs.length → (∀ y ∈ as, Half y) → FeedOk S' → Fr S S' → Q (.tup as) S') : W (x, Q) tt (m__law_half [.loc 1, c, .int b] S) := by
  have h2 := hF.len
  simp only [↓reduceIte, ↓W_ok, ↓W_exn, ↓W_var0, ↓W_varS, ↓W_K, ↓W_bin, ↓W_un, ↓W_aNil, ↓W_aCons, ↓W_arg, ↓W_call, ↓W_of, ↓WB_test, ↓tc_bl, ↓WB_tru, ↓trc, ↓WB_and, ↓WB_or, ↓WB_not, ↓W_if, ↓W_andV, ↓W_orV, ↓W_notV, ↓WM_some, ↓WM_none, ↓WO_some, ↓tr_bl, ↓tr_non, ↓tr_int, ↓tr_tup, ↓tr_rol, ↓WS_nx, ↓WS_rt, ↓WS_ct, ↓WS_bk, ↓WS_exn, ↓WS_seq, ↓WS_nil, ↓WS_retN, ↓WS_break, ↓WS_cont, ↓WS_expr, ↓WS_ret, ↓WS_if, ↓WS_set, ↓WS_par, ↓WS_asg, ↓WS_gSet, ↓WS_gN, ↓WS_gC, ↓WS_gUn, ↓WS_gSub, ↓WS_aug, ↓o_add, ↓o_iadd, ↓o_sub, ↓o_neg, ↓o_mul, ↓o_mod, ↓o_div, ↓o_pow, ↓o_addT, ↓o_addS, ↓o_addL, ↓o_lt, ↓o_le, ↓o_gt, ↓o_ge, ↓o_eq, ↓o_ne, ↓o_eqS, ↓o_neS, ↓o_eqB, ↓o_neB, ↓o_eqT, ↓o_neT, ↓o_eqN, ↓o_neN, ↓o_ltT, ↓o_leT, ↓o_is, ↓o_isnot, ↓o_isB, ↓o_isnotB, ↓o_inT, ↓o_ninT, ↓o_inL, ↓o_ninL, ↓o_ixT, ↓o_ixR, ↓o_ixL, ↓o_ixS, ↓o_str, ↓o_strS, ↓o_set, ↓o_lenT, ↓o_lenR, ↓o_lenL, ↓o_lenS, ↓o_int, ↓o_intT, ↓o_intF, ↓o_abs, ↓o_max, ↓o_min, ↓o_tuple, ↓o_list, ↓o_tup0, ↓o_tup1, ↓o_tup2, ↓o_tup3, ↓o_tup4, ↓o_tup5, ↓o_tup6, ↓o_lst0, ↓o_lst1, ↓o_lst2, ↓o_lst3, ↓o_lst4, ↓o_lst5, ↓o_lst6, ↓o_sum, ↓W_meth, ↓o_append, ↓o_extend, ↓o_popAt, ↓W_cut, ↓W_noPart, ↓W_part, ↓o_cutT, ↓o_cutR, ↓o_cutL, ↓W_isi, ↓W_ch, ↓WS_for, ↓WI_iter, ↓WI_range1, ↓WI_range2, ↓WI_range3, ↓WI_enum, ↓WS_f0, ↓WS_f1, ↓W_alloc, ↓W_ofL, ↓W_comp, ↓WB_yes, ↓W_c0, ↓W_c1, ↓W_listRg, ↓W_tupRg, ↓W_rRange1, ↓W_rRange2, o_intT, o_intF, o_intB, o_ixL, o_ixT, beq_self_eq_true, decide_true, decide_false, okEq, okCmp, okIn, D.fits, D.fitsL, D.dep, D.depL, D.eqv, D.eqvL, D.alike, D.alikeL, isBl_bl, isN_non, isN_bl, isN_int, isN_str, isN_tup, isN_rol, isN_loc, Nat.reduceAdd, Nat.reduceSub, Nat.max_self, Nat.min_self, Nat.max_zero, Nat.zero_max, Nat.min_zero, Nat.zero_min, ty_non, ty_bl, ty_int, ty_str, ty_tup, ty_rol, ty_loc, kb_bool_bool, kb_bool_int, kb_bool_str, kb_bool_tuple, kb_bool_list, kb_int_bool, kb_int_int, kb_int_str, kb_int_tuple, kb_int_list, kb_str_bool, kb_str_int, kb_str_str, kb_str_tuple, kb_str_list, kb_tuple_bool, kb_tuple_int, kb_tuple_str, kb_tuple_tuple, kb_tuple_list, kb_list_bool, kb_list_int, kb_list_str, kb_list_tuple, kb_list_list, kb_NoneType_bool, kb_NoneType_int, kb_NoneType_str, kb_NoneType_tuple, kb_NoneType_list, Nat.zero_add, c02, lstAt_setE, Option.map_some, lstAt_set_ne, ne_eq, Nat.reduceEqDiff, Nat.one_ne_zero, Nat.zero_ne_one, ix_1_0, ix_2_0, ix_2_1, ix_3_0, ix_3_1, ix_3_2, ix_4_0, ix_4_1, ix_4_2, ix_4_3, ix_5_0, ix_5_1, ix_5_2, ix_5_3, ix_5_4, ix_6_0, ix_6_1, ix_6_2, ix_6_3, ix_6_4, ix_6_5, Nat.reduceLeDiff, Int.reduceAdd, Int.reduceSub, Int.reduceMul, Int.reduceNeg, Int.reducePow, Int.reduceLT, Int.reduceLE, Int.reduceEq, Int.reduceToNat, Bool.and_true, Bool.true_and, Bool.and_self, Bool.and_false, Bool.false_and, Bool.and_eq_true, Bool.and_eq_false_imp, and_self, WS_qdn, WS_qdr, WS_qde, WS_qdb, WS_qdc, qn1, qn2, qn3, qn4, qn5, qk1, qk5, lq1, lq2, lq3, lq4, lq5, intD_int, items_tup, items_rol, items_loc, listOf_loc, listOf_rol, isL_loc, at0, at1, at2, at3, at4, at5, atl1, atl2, atl3, atl4, lstAt_new, it_tup, it_rol, kTup_eq, kLen_eq, wipe0, wipe1, b_nm, List.set_cons_zero, List.set_cons_succ, List.length_cons, List.length_nil, List.nil_append, List.cons_append, List.append_nil, List.isEmpty_cons, List.isEmpty_nil, true_and, and_true, false_and, and_false, true_implies, forall_const, not_true_eq_false, not_false_eq_true, implies_true, decide_eq_true_eq, decide_eq_false_iff_not, Bool.not_eq_true', Bool.not_eq_false', Bool.not_true, Bool.not_false, if_true, if_false, Bool.false_eq_true, Bool.true_eq_false, reduceCtorEq, false_implies, eq_self, wm__law_half, b__law_half, (hc _ ((Fr.refl _).app _)).2.1]
  refine WS_loop (fun ds σ S' => FeedOk S' ∧ Fr S S' ∧ ∃ (as : List D) (post : List Fld) (p q : Option D), ds = post.map Fld.d ∧ (∀ f ∈ post, f.ok) ∧ as.length + post.length = fs.length ∧ σ = [some (.loc 1), some c, some (.int b), some (.loc S.length), p, q] ∧ lstAt S' S.length = some as ∧ ∀ y ∈ as, Half y) ⟨hF.app _, (Fr.refl _).app _, [], fs, none, none, rfl, hok, by simp, rfl, lstAt_new, by simp⟩ ?_ ?_
  · rintro d r σ S1 ⟨hW1, F1, as, post, p, q, hds, hpo, hln, rfl, hL, hH⟩
    refine ⟨(hc _ F1).2.2, ?_⟩
    cases post with
    | nil => cases hds
    | cons f post =>
      rw [List.map_cons] at hds
      obtain ⟨rfl, rfl⟩ := List.cons.inj hds
      have hf := hpo f (by simp)
      have f1 := hf.le
      have f2 := hf.wide
      rw [List.length_cons] at hln
      have add : ∀ y : D, Half y → ∀ z ∈ as ++ [y], Half z := by
        intro y hy z hz
        rcases List.mem_append.mp hz with hz | hz
        · exact hH z hz
        · rw [List.mem_singleton.mp hz]; exact hy
      simp only [↓reduceIte, ↓W_ok, ↓W_exn, ↓W_var0, ↓W_varS, ↓W_K, ↓W_bin, ↓W_un, ↓W_aNil, ↓W_aCons, ↓W_arg, ↓W_call, ↓W_of, ↓WB_test, ↓tc_bl, ↓WB_tru, ↓trc, ↓WB_and, ↓WB_or, ↓WB_not, ↓W_if, ↓W_andV, ↓W_orV, ↓W_notV, ↓WM_some, ↓WM_none, ↓WO_some, ↓tr_bl, ↓tr_non, ↓tr_int, ↓tr_tup, ↓tr_rol, ↓WS_nx, ↓WS_rt, ↓WS_ct, ↓WS_bk, ↓WS_exn, ↓WS_seq, ↓WS_nil, ↓WS_retN, ↓WS_break, ↓WS_cont, ↓WS_expr, ↓WS_ret, ↓WS_if, ↓WS_set, ↓WS_par, ↓WS_asg, ↓WS_gSet, ↓WS_gN, ↓WS_gC, ↓WS_gUn, ↓WS_gSub, ↓WS_aug, ↓o_add, ↓o_iadd, ↓o_sub, ↓o_neg, ↓o_mul, ↓o_mod, ↓o_div, ↓o_pow, ↓o_addT, ↓o_addS, ↓o_addL, ↓o_lt, ↓o_le, ↓o_gt, ↓o_ge, ↓o_eq, ↓o_ne, ↓o_eqS, ↓o_neS, ↓o_eqB, ↓o_neB, ↓o_eqT, ↓o_neT, ↓o_eqN, ↓o_neN, ↓o_ltT, ↓o_leT, ↓o_is, ↓o_isnot, ↓o_isB, ↓o_isnotB, ↓o_inT, ↓o_ninT, ↓o_inL, ↓o_ninL, ↓o_ixT, ↓o_ixR, ↓o_ixL, ↓o_ixS, ↓o_str, ↓o_strS, ↓o_set, ↓o_lenT, ↓o_lenR, ↓o_lenL, ↓o_lenS, ↓o_int, ↓o_intT, ↓o_intF, ↓o_abs, ↓o_max, ↓o_min, ↓o_tuple, ↓o_list, ↓o_tup0, ↓o_tup1, ↓o_tup2, ↓o_tup3, ↓o_tup4, ↓o_tup5, ↓o_tup6, ↓o_lst0, ↓o_lst1, ↓o_lst2, ↓o_lst3, ↓o_lst4, ↓o_lst5, ↓o_lst6, ↓o_sum, ↓W_meth, ↓o_append, ↓o_extend, ↓o_popAt, ↓W_cut, ↓W_noPart, ↓W_part, ↓o_cutT, ↓o_cutR, ↓o_cutL, ↓W_isi, ↓W_ch, ↓WS_for, ↓WI_iter, ↓WI_range1, ↓WI_range2, ↓WI_range3, ↓WI_enum, ↓WS_f0, ↓WS_f1, ↓W_alloc, ↓W_ofL, ↓W_comp, ↓WB_yes, ↓W_c0, ↓W_c1, ↓W_listRg, ↓W_tupRg, ↓W_rRange1, ↓W_rRange2, o_intT, o_intF, o_intB, o_ixL, o_ixT, beq_self_eq_true, decide_true, decide_false, okEq, okCmp, okIn, D.fits, D.fitsL, D.dep, D.depL, D.eqv, D.eqvL, D.alike, D.alikeL, isBl_bl, isN_non, isN_bl, isN_int, isN_str, isN_tup, isN_rol, isN_loc, Nat.reduceAdd, Nat.reduceSub, Nat.max_self, Nat.min_self, Nat.max_zero, Nat.zero_max, Nat.min_zero, Nat.zero_min, ty_non, ty_bl, ty_int, ty_str, ty_tup, ty_rol, ty_loc, kb_bool_bool, kb_bool_int, kb_bool_str, kb_bool_tuple, kb_bool_list, kb_int_bool, kb_int_int, kb_int_str, kb_int_tuple, kb_int_list, kb_str_bool, kb_str_int, kb_str_str, kb_str_tuple, kb_str_list, kb_tuple_bool, kb_tuple_int, kb_tuple_str, kb_tuple_tuple, kb_tuple_list, kb_list_bool, kb_list_int, kb_list_str, kb_list_tuple, kb_list_list, kb_NoneType_bool, kb_NoneType_int, kb_NoneType_str, kb_NoneType_tuple, kb_NoneType_list, Nat.zero_add, c02, lstAt_setE, Option.map_some, lstAt_set_ne, ne_eq, Nat.reduceEqDiff, Nat.one_ne_zero, Nat.zero_ne_one, ix_1_0, ix_2_0, ix_2_1, ix_3_0, ix_3_1, ix_3_2, ix_4_0, ix_4_1, ix_4_2, ix_4_3, ix_5_0, ix_5_1, ix_5_2, ix_5_3, ix_5_4, ix_6_0, ix_6_1, ix_6_2, ix_6_3, ix_6_4, ix_6_5, Nat.reduceLeDiff, Int.reduceAdd, Int.reduceSub, Int.reduceMul, Int.reduceNeg, Int.reducePow, Int.reduceLT, Int.reduceLE, Int.reduceEq, Int.reduceToNat, Bool.and_true, Bool.true_and, Bool.and_self, Bool.and_false, Bool.false_and, Bool.and_eq_true, Bool.and_eq_false_imp, and_self, WS_qdn, WS_qdr, WS_qde, WS_qdb, WS_qdc, qn1, qn2, qn3, qn4, qn5, qk1, qk5, lq1, lq2, lq3, lq4, lq5, intD_int, items_tup, items_rol, items_loc, listOf_loc, listOf_rol, isL_loc, at0, at1, at2, at3, at4, at5, atl1, atl2, atl3, atl4, lstAt_new, it_tup, it_rol, kTup_eq, kLen_eq, wipe0, wipe1, b_nm, List.set_cons_zero, List.set_cons_succ, List.length_cons, List.length_nil, List.nil_append, List.cons_append, List.append_nil, List.isEmpty_cons, List.isEmpty_nil, true_and, and_true, false_and, and_false, true_implies, forall_const, not_true_eq_false, not_false_eq_true, implies_true, decide_eq_true_eq, decide_eq_false_iff_not, Bool.not_eq_true', Bool.not_eq_false', Bool.not_true, Bool.not_false, if_true, if_false, Bool.false_eq_true, Bool.true_eq_false, reduceCtorEq, false_implies, eq_self, fd_eq]
      refine draw_w hW1 (by omega) fun v S2 _ _ hW2 F2 => ?_
      simp only [↓reduceIte, ↓W_ok, ↓W_exn, ↓W_var0, ↓W_varS, ↓W_K, ↓W_bin, ↓W_un, ↓W_aNil, ↓W_aCons, ↓W_arg, ↓W_call, ↓W_of, ↓WB_test, ↓tc_bl, ↓WB_tru, ↓trc, ↓WB_and, ↓WB_or, ↓WB_not, ↓W_if, ↓W_andV, ↓W_orV, ↓W_notV, ↓WM_some, ↓WM_none, ↓WO_some, ↓tr_bl, ↓tr_non, ↓tr_int, ↓tr_tup, ↓tr_rol, ↓WS_nx, ↓WS_rt, ↓WS_ct, ↓WS_bk, ↓WS_exn, ↓WS_seq, ↓WS_nil, ↓WS_retN, ↓WS_break, ↓WS_cont, ↓WS_expr, ↓WS_ret, ↓WS_if, ↓WS_set, ↓WS_par, ↓WS_asg, ↓WS_gSet, ↓WS_gN, ↓WS_gC, ↓WS_gUn, ↓WS_gSub, ↓WS_aug, ↓o_add, ↓o_iadd, ↓o_sub, ↓o_neg, ↓o_mul, ↓o_mod, ↓o_div, ↓o_pow, ↓o_addT, ↓o_addS, ↓o_addL, ↓o_lt, ↓o_le, ↓o_gt, ↓o_ge, ↓o_eq, ↓o_ne, ↓o_eqS, ↓o_neS, ↓o_eqB, ↓o_neB, ↓o_eqT, ↓o_neT, ↓o_eqN, ↓o_neN, ↓o_ltT, ↓o_leT, ↓o_is, ↓o_isnot, ↓o_isB, ↓o_isnotB, ↓o_inT, ↓o_ninT, ↓o_inL, ↓o_ninL, ↓o_ixT, ↓o_ixR, ↓o_ixL, ↓o_ixS, ↓o_str, ↓o_strS, ↓o_set, ↓o_lenT, ↓o_lenR, ↓o_lenL, ↓o_lenS, ↓o_int, ↓o_intT, ↓o_intF, ↓o_abs, ↓o_max, ↓o_min, ↓o_tuple, ↓o_list, ↓o_tup0, ↓o_tup1, ↓o_tup2, ↓o_tup3, ↓o_tup4, ↓o_tup5, ↓o_tup6, ↓o_lst0, ↓o_lst1, ↓o_lst2, ↓o_lst3, ↓o_lst4, ↓o_lst5, ↓o_lst6, ↓o_sum, ↓W_meth, ↓o_append, ↓o_extend, ↓o_popAt, ↓W_cut, ↓W_noPart, ↓W_part, ↓o_cutT, ↓o_cutR, ↓o_cutL, ↓W_isi, ↓W_ch, ↓WS_for, ↓WI_iter, ↓WI_range1, ↓WI_range2, ↓WI_range3, ↓WI_enum, ↓WS_f0, ↓WS_f1, ↓W_alloc, ↓W_ofL, ↓W_comp, ↓WB_yes, ↓W_c0, ↓W_c1, ↓W_listRg, ↓W_tupRg, ↓W_rRange1, ↓W_rRange2, o_intT, o_intF, o_intB, o_ixL, o_ixT, beq_self_eq_true, decide_true, decide_false, okEq, okCmp, okIn, D.fits, D.fitsL, D.dep, D.depL, D.eqv, D.eqvL, D.alike, D.alikeL, isBl_bl, isN_non, isN_bl, isN_int, isN_str, isN_tup, isN_rol, isN_loc, Nat.reduceAdd, Nat.reduceSub, Nat.max_self, Nat.min_self, Nat.max_zero, Nat.zero_max, Nat.min_zero, Nat.zero_min, ty_non, ty_bl, ty_int, ty_str, ty_tup, ty_rol, ty_loc, kb_bool_bool, kb_bool_int, kb_bool_str, kb_bool_tuple, kb_bool_list, kb_int_bool, kb_int_int, kb_int_str, kb_int_tuple, kb_int_list, kb_str_bool, kb_str_int, kb_str_str, kb_str_tuple, kb_str_list, kb_tuple_bool, kb_tuple_int, kb_tuple_str, kb_tuple_tuple, kb_tuple_list, kb_list_bool, kb_list_int, kb_list_str, kb_list_tuple, kb_list_list, kb_NoneType_bool, kb_NoneType_int, kb_NoneType_str, kb_NoneType_tuple, kb_NoneType_list, Nat.zero_add, c02, lstAt_setE, Option.map_some, lstAt_set_ne, ne_eq, Nat.reduceEqDiff, Nat.one_ne_zero, Nat.zero_ne_one, ix_1_0, ix_2_0, ix_2_1, ix_3_0, ix_3_1, ix_3_2, ix_4_0, ix_4_1, ix_4_2, ix_4_3, ix_5_0, ix_5_1, ix_5_2, ix_5_3, ix_5_4, ix_6_0, ix_6_1, ix_6_2, ix_6_3, ix_6_4, ix_6_5, Nat.reduceLeDiff, Int.reduceAdd, Int.reduceSub, Int.reduceMul, Int.reduceNeg, Int.reducePow, Int.reduceLT, Int.reduceLE, Int.reduceEq, Int.reduceToNat, Bool.and_true, Bool.true_and, Bool.and_self, Bool.and_false, Bool.false_and, Bool.and_eq_true, Bool.and_eq_false_imp, and_self, WS_qdn, WS_qdr, WS_qde, WS_qdb, WS_qdc, qn1, qn2, qn3, qn4, qn5, qk1, qk5, lq1, lq2, lq3, lq4, lq5, intD_int, items_tup, items_rol, items_loc, listOf_loc, listOf_rol, isL_loc, at0, at1, at2, at3, at4, at5, atl1, atl2, atl3, atl4, lstAt_new, it_tup, it_rol, kTup_eq, kLen_eq, wipe0, wipe1, b_nm, List.set_cons_zero, List.set_cons_succ, List.length_cons, List.length_nil, List.nil_append, List.cons_append, List.append_nil, List.isEmpty_cons, List.isEmpty_nil, true_and, and_true, false_and, and_false, true_implies, forall_const, not_true_eq_false, not_false_eq_true, implies_true, decide_eq_true_eq, decide_eq_false_iff_not, Bool.not_eq_true', Bool.not_eq_false', Bool.not_true, Bool.not_false, if_true, if_false, Bool.false_eq_true, Bool.true_eq_false, reduceCtorEq, false_implies, eq_self]
      refine draw_w hW2 hb fun u S3 _ _ hW3 F3 => ?_
      have hL3 := (F2.trans F3).lst h2 hL
      simp only [↓reduceIte, ↓W_ok, ↓W_exn, ↓W_var0, ↓W_varS, ↓W_K, ↓W_bin, ↓W_un, ↓W_aNil, ↓W_aCons, ↓W_arg, ↓W_call, ↓W_of, ↓WB_test, ↓tc_bl, ↓WB_tru, ↓trc, ↓WB_and, ↓WB_or, ↓WB_not, ↓W_if, ↓W_andV, ↓W_orV, ↓W_notV, ↓WM_some, ↓WM_none, ↓WO_some, ↓tr_bl, ↓tr_non, ↓tr_int, ↓tr_tup, ↓tr_rol, ↓WS_nx, ↓WS_rt, ↓WS_ct, ↓WS_bk, ↓WS_exn, ↓WS_seq, ↓WS_nil, ↓WS_retN, ↓WS_break, ↓WS_cont, ↓WS_expr, ↓WS_ret, ↓WS_if, ↓WS_set, ↓WS_par, ↓WS_asg, ↓WS_gSet, ↓WS_gN, ↓WS_gC, ↓WS_gUn, ↓WS_gSub, ↓WS_aug, ↓o_add, ↓o_iadd, ↓o_sub, ↓o_neg, ↓o_mul, ↓o_mod, ↓o_div, ↓o_pow, ↓o_addT, ↓o_addS, ↓o_addL, ↓o_lt, ↓o_le, ↓o_gt, ↓o_ge, ↓o_eq, ↓o_ne, ↓o_eqS, ↓o_neS, ↓o_eqB, ↓o_neB, ↓o_eqT, ↓o_neT, ↓o_eqN, ↓o_neN, ↓o_ltT, ↓o_leT, ↓o_is, ↓o_isnot, ↓o_isB, ↓o_isnotB, ↓o_inT, ↓o_ninT, ↓o_inL, ↓o_ninL, ↓o_ixT, ↓o_ixR, ↓o_ixL, ↓o_ixS, ↓o_str, ↓o_strS, ↓o_set, ↓o_lenT, ↓o_lenR, ↓o_lenL, ↓o_lenS, ↓o_int, ↓o_intT, ↓o_intF, ↓o_abs, ↓o_max, ↓o_min, ↓o_tuple, ↓o_list, ↓o_tup0, ↓o_tup1, ↓o_tup2, ↓o_tup3, ↓o_tup4, ↓o_tup5, ↓o_tup6, ↓o_lst0, ↓o_lst1, ↓o_lst2, ↓o_lst3, ↓o_lst4, ↓o_lst5, ↓o_lst6, ↓o_sum, ↓W_meth, ↓o_append, ↓o_extend, ↓o_popAt, ↓W_cut, ↓W_noPart, ↓W_part, ↓o_cutT, ↓o_cutR, ↓o_cutL, ↓W_isi, ↓W_ch, ↓WS_for, ↓WI_iter, ↓WI_range1, ↓WI_range2, ↓WI_range3, ↓WI_enum, ↓WS_f0, ↓WS_f1, ↓W_alloc, ↓W_ofL, ↓W_comp, ↓WB_yes, ↓W_c0, ↓W_c1, ↓W_listRg, ↓W_tupRg, ↓W_rRange1, ↓W_rRange2, o_intT, o_intF, o_intB, o_ixL, o_ixT, beq_self_eq_true, decide_true, decide_false, okEq, okCmp, okIn, D.fits, D.fitsL, D.dep, D.depL, D.eqv, D.eqvL, D.alike, D.alikeL, isBl_bl, isN_non, isN_bl, isN_int, isN_str, isN_tup, isN_rol, isN_loc, Nat.reduceAdd, Nat.reduceSub, Nat.max_self, Nat.min_self, Nat.max_zero, Nat.zero_max, Nat.min_zero, Nat.zero_min, ty_non, ty_bl, ty_int, ty_str, ty_tup, ty_rol, ty_loc, kb_bool_bool, kb_bool_int, kb_bool_str, kb_bool_tuple, kb_bool_list, kb_int_bool, kb_int_int, kb_int_str, kb_int_tuple, kb_int_list, kb_str_bool, kb_str_int, kb_str_str, kb_str_tuple, kb_str_list, kb_tuple_bool, kb_tuple_int, kb_tuple_str, kb_tuple_tuple, kb_tuple_list, kb_list_bool, kb_list_int, kb_list_str, kb_list_tuple, kb_list_list, kb_NoneType_bool, kb_NoneType_int, kb_NoneType_str, kb_NoneType_tuple, kb_NoneType_list, Nat.zero_add, c02, lstAt_setE, Option.map_some, lstAt_set_ne, ne_eq, Nat.reduceEqDiff, Nat.one_ne_zero, Nat.zero_ne_one, ix_1_0, ix_2_0, ix_2_1, ix_3_0, ix_3_1, ix_3_2, ix_4_0, ix_4_1, ix_4_2, ix_4_3, ix_5_0, ix_5_1, ix_5_2, ix_5_3, ix_5_4, ix_6_0, ix_6_1, ix_6_2, ix_6_3, ix_6_4, ix_6_5, Nat.reduceLeDiff, Int.reduceAdd, Int.reduceSub, Int.reduceMul, Int.reduceNeg, Int.reducePow, Int.reduceLT, Int.reduceLE, Int.reduceEq, Int.reduceToNat, Bool.and_true, Bool.true_and, Bool.and_self, Bool.and_false, Bool.false_and, Bool.and_eq_true, Bool.and_eq_false_imp, and_self, WS_qdn, WS_qdr, WS_qde, WS_qdb, WS_qdc, qn1, qn2, qn3, qn4, qn5, qk1, qk5, lq1, lq2, lq3, lq4, lq5, intD_int, items_tup, items_rol, items_loc, listOf_loc, listOf_rol, isL_loc, at0, at1, at2, at3, at4, at5, atl1, atl2, atl3, atl4, lstAt_new, it_tup, it_rol, kTup_eq, kLen_eq, wipe0, wipe1, b_nm, List.set_cons_zero, List.set_cons_succ, List.length_cons, List.length_nil, List.nil_append, List.cons_append, List.append_nil, List.isEmpty_cons, List.isEmpty_nil, true_and, and_true, false_and, and_false, true_implies, forall_const, not_true_eq_false, not_false_eq_true, implies_true, decide_eq_true_eq, decide_eq_false_iff_not, Bool.not_eq_true', Bool.not_eq_false', Bool.not_true, Bool.not_false, if_true, if_false, Bool.false_eq_true, Bool.true_eq_false, reduceCtorEq, false_implies, eq_self, hL3]
      refine ⟨fun _ => ⟨by rw [sizeLine_eq]; omega, hW3.set h2, ((F1.trans F2).trans F3).set (Nat.le_refl _), as ++ [_], post, _, _, rfl, fun g hg => hpo g (List.mem_cons_of_mem _ hg), by simp; omega, rfl, rfl, add _ (.inl rfl)⟩, fun _ => ⟨by rw [sizeLine_eq]; omega, hW3.set h2, ((F1.trans F2).trans F3).set (Nat.le_refl _), as ++ [_], post, _, _, rfl, fun g hg => hpo g (List.mem_cons_of_mem _ hg), by simp; omega, rfl, rfl, add _ (.inr ⟨_, rfl⟩)⟩⟩
  · rintro σ S1 ⟨hW1, F1, as, post, p, q, hds, hpo, hln, rfl, hL, hH⟩
    refine ⟨(hc _ F1).2.2, ?_⟩
    simp only [↓reduceIte, ↓W_ok, ↓W_exn, ↓W_var0, ↓W_varS, ↓W_K, ↓W_bin, ↓W_un, ↓W_aNil, ↓W_aCons, ↓W_arg, ↓W_call, ↓W_of, ↓WB_test, ↓tc_bl, ↓WB_tru, ↓trc, ↓WB_and, ↓WB_or, ↓WB_not, ↓W_if, ↓W_andV, ↓W_orV, ↓W_notV, ↓WM_some, ↓WM_none, ↓WO_some, ↓tr_bl, ↓tr_non, ↓tr_int, ↓tr_tup, ↓tr_rol, ↓WS_nx, ↓WS_rt, ↓WS_ct, ↓WS_bk, ↓WS_exn, ↓WS_seq, ↓WS_nil, ↓WS_retN, ↓WS_break, ↓WS_cont, ↓WS_expr, ↓WS_ret, ↓WS_if, ↓WS_set, ↓WS_par, ↓WS_asg, ↓WS_gSet, ↓WS_gN, ↓WS_gC, ↓WS_gUn, ↓WS_gSub, ↓WS_aug, ↓o_add, ↓o_iadd, ↓o_sub, ↓o_neg, ↓o_mul, ↓o_mod, ↓o_div, ↓o_pow, ↓o_addT, ↓o_addS, ↓o_addL, ↓o_lt, ↓o_le, ↓o_gt, ↓o_ge, ↓o_eq, ↓o_ne, ↓o_eqS, ↓o_neS, ↓o_eqB, ↓o_neB, ↓o_eqT, ↓o_neT, ↓o_eqN, ↓o_neN, ↓o_ltT, ↓o_leT, ↓o_is, ↓o_isnot, ↓o_isB, ↓o_isnotB, ↓o_inT, ↓o_ninT, ↓o_inL, ↓o_ninL, ↓o_ixT, ↓o_ixR, ↓o_ixL, ↓o_ixS, ↓o_str, ↓o_strS, ↓o_set, ↓o_lenT, ↓o_lenR, ↓o_lenL, ↓o_lenS, ↓o_int, ↓o_intT, ↓o_intF, ↓o_abs, ↓o_max, ↓o_min, ↓o_tuple, ↓o_list, ↓o_tup0, ↓o_tup1, ↓o_tup2, ↓o_tup3, ↓o_tup4, ↓o_tup5, ↓o_tup6, ↓o_lst0, ↓o_lst1, ↓o_lst2, ↓o_lst3, ↓o_lst4, ↓o_lst5, ↓o_lst6, ↓o_sum, ↓W_meth, ↓o_append, ↓o_extend, ↓o_popAt, ↓W_cut, ↓W_noPart, ↓W_part, ↓o_cutT, ↓o_cutR, ↓o_cutL, ↓W_isi, ↓W_ch, ↓WS_for, ↓WI_iter, ↓WI_range1, ↓WI_range2, ↓WI_range3, ↓WI_enum, ↓WS_f0, ↓WS_f1, ↓W_alloc, ↓W_ofL, ↓W_comp, ↓WB_yes, ↓W_c0, ↓W_c1, ↓W_listRg, ↓W_tupRg, ↓W_rRange1, ↓W_rRange2, o_intT, o_intF, o_intB, o_ixL, o_ixT, beq_self_eq_true, decide_true, decide_false, okEq, okCmp, okIn, D.fits, D.fitsL, D.dep, D.depL, D.eqv, D.eqvL, D.alike, D.alikeL, isBl_bl, isN_non, isN_bl, isN_int, isN_str, isN_tup, isN_rol, isN_loc, Nat.reduceAdd, Nat.reduceSub, Nat.max_self, Nat.min_self, Nat.max_zero, Nat.zero_max, Nat.min_zero, Nat.zero_min, ty_non, ty_bl, ty_int, ty_str, ty_tup, ty_rol, ty_loc, kb_bool_bool, kb_bool_int, kb_bool_str, kb_bool_tuple, kb_bool_list, kb_int_bool, kb_int_int, kb_int_str, kb_int_tuple, kb_int_list, kb_str_bool, kb_str_int, kb_str_str, kb_str_tuple, kb_str_list, kb_tuple_bool, kb_tuple_int, kb_tuple_str, kb_tuple_tuple, kb_tuple_list, kb_list_bool, kb_list_int, kb_list_str, kb_list_tuple, kb_list_list, kb_NoneType_bool, kb_NoneType_int, kb_NoneType_str, kb_NoneType_tuple, kb_NoneType_list, Nat.zero_add, c02, lstAt_setE, Option.map_some, lstAt_set_ne, ne_eq, Nat.reduceEqDiff, Nat.one_ne_zero, Nat.zero_ne_one, ix_1_0, ix_2_0, ix_2_1, ix_3_0, ix_3_1, ix_3_2, ix_4_0, ix_4_1, ix_4_2, ix_4_3, ix_5_0, ix_5_1, ix_5_2, ix_5_3, ix_5_4, ix_6_0, ix_6_1, ix_6_2, ix_6_3, ix_6_4, ix_6_5, Nat.reduceLeDiff, Int.reduceAdd, Int.reduceSub, Int.reduceMul, Int.reduceNeg, Int.reducePow, Int.reduceLT, Int.reduceLE, Int.reduceEq, Int.reduceToNat, Bool.and_true, Bool.true_and, Bool.and_self, Bool.and_false, Bool.false_and, Bool.and_eq_true, Bool.and_eq_false_imp, and_self, WS_qdn, WS_qdr, WS_qde, WS_qdb, WS_qdc, qn1, qn2, qn3, qn4, qn5, qk1, qk5, lq1, lq2, lq3, lq4, lq5, intD_int, items_tup, items_rol, items_loc, listOf_loc, listOf_rol, isL_loc, at0, at1, at2, at3, at4, at5, atl1, atl2, atl3, atl4, lstAt_new, it_tup, it_rol, kTup_eq, kLen_eq, wipe0, wipe1, b_nm, List.set_cons_zero, List.set_cons_succ, List.length_cons, List.length_nil, List.nil_append, List.cons_append, List.append_nil, List.isEmpty_cons, List.isEmpty_nil, true_and, and_true, false_and, and_false, true_implies, forall_const, not_true_eq_false, not_false_eq_true, implies_true, decide_eq_true_eq, decide_eq_false_iff_not, Bool.not_eq_true', Bool.not_eq_false', Bool.not_true, Bool.not_false, if_true, if_false, Bool.false_eq_true, Bool.true_eq_false, reduceCtorEq, false_implies, eq_self, hL]
    have : post = [] := by
      cases post with
      | nil => rfl
      | cons f post => cases hds
    subst this
    exact h as S1 (by simpa using hln) hH hW1 F1
end
end LW

namespace LW
open PySem PySem.Spec PyProof.Rows L2 DL
section
variable {x : XQ} {Q : D → Store → Prop} {tt : Tg (x, Q)} {S : Store} {s t : Sy}
theorem sayings_w {fs : List Fld} (hF : FeedOk S) (hl : fs.length ≤ 12) (hok : ∀ f ∈ fs, f.ok) {c : D} {gd : Gd} (hc : Cont c gd (fs.map Fld.d) S) (h : ∀ S', FeedOk S' → Fr S S' → lstAt S' S.length = some (sayL 0 fs) → Q (.loc S.length) S') : W (x, Q) tt (m__law_sayings [c] S) := by
  have h2 := hF.len
  simp only [↓reduceIte, ↓W_ok, ↓W_exn, ↓W_var0, ↓W_varS, ↓W_K, ↓W_bin, ↓W_un, ↓W_aNil, ↓W_aCons, ↓W_arg, ↓W_call, ↓W_of, ↓WB_test, ↓tc_bl, ↓WB_tru, ↓trc, ↓WB_and, ↓WB_or, ↓WB_not, ↓W_if, ↓W_andV, ↓W_orV, ↓W_notV, ↓WM_some, ↓WM_none, ↓WO_some, ↓tr_bl, ↓tr_non, ↓tr_int, ↓tr_tup, ↓tr_rol, ↓WS_nx, ↓WS_rt, ↓WS_ct, ↓WS_bk, ↓WS_exn, ↓WS_seq, ↓WS_nil, ↓WS_retN, ↓WS_break, ↓WS_cont, ↓WS_expr, ↓WS_ret, ↓WS_if, ↓WS_set, ↓WS_par, ↓WS_asg, ↓WS_gSet, ↓WS_gN, ↓WS_gC, ↓WS_gUn, ↓WS_gSub, ↓WS_aug, ↓o_add, ↓o_iadd, ↓o_sub, ↓o_neg, ↓o_mul, ↓o_mod, ↓o_div, ↓o_pow, ↓o_addT, ↓o_addS, ↓o_addL, ↓o_lt, ↓o_le, ↓o_gt, ↓o_ge, ↓o_eq, ↓o_ne, ↓o_eqS, ↓o_neS, ↓o_eqB, ↓o_neB, ↓o_eqT, ↓o_neT, ↓o_eqN, ↓o_neN, ↓o_ltT, ↓o_leT, ↓o_is, ↓o_isnot, ↓o_isB, ↓o_isnotB, ↓o_inT, ↓o_ninT, ↓o_inL, ↓o_ninL, ↓o_ixT, ↓o_ixR, ↓o_ixL, ↓o_ixS, ↓o_str, ↓o_strS, ↓o_set, ↓o_lenT, ↓o_lenR, ↓o_lenL, ↓o_lenS, ↓o_int, ↓o_intT, ↓o_intF, ↓o_abs, ↓o_max, ↓o_min, ↓o_tuple, ↓o_list, ↓o_tup0, ↓o_tup1, ↓o_tup2, ↓o_tup3, ↓o_tup4, ↓o_tup5, ↓o_tup6, ↓o_lst0, ↓o_lst1, ↓o_lst2, ↓o_lst3, ↓o_lst4, ↓o_lst5, ↓o_lst6, ↓o_sum, ↓W_meth, ↓o_append, ↓o_extend, ↓o_popAt, ↓W_cut, ↓W_noPart, ↓W_part, ↓o_cutT, ↓o_cutR, ↓o_cutL, ↓W_isi, ↓W_ch, ↓WS_for, ↓WI_iter, ↓WI_range1, ↓WI_range2, ↓WI_range3, ↓WI_enum, ↓WS_f0, ↓WS_f1, ↓W_alloc, ↓W_ofL, ↓W_comp, ↓WB_yes, ↓W_c0, ↓W_c1, ↓W_listRg, ↓W_tupRg, ↓W_rRange1, ↓W_rRange2, o_intT, o_intF, o_intB, o_ixL, o_ixT, beq_self_eq_true, decide_true, decide_false, okEq, okCmp, okIn, D.fits, D.fitsL, D.dep, D.depL, D.eqv, D.eqvL, D.alike, D.alikeL, isBl_bl, isN_non, isN_bl, isN_int, isN_str, isN_tup, isN_rol, isN_loc, Nat.reduceAdd, Nat.reduceSub, Nat.max_self, Nat.min_self, Nat.max_zero, Nat.zero_max, Nat.min_zero, Nat.zero_min, ty_non, ty_bl, ty_int, ty_str, ty_tup, ty_rol, ty_loc, kb_bool_bool, kb_bool_int, kb_bool_str, kb_bool_tuple, kb_bool_list, kb_int_bool, kb_int_int, kb_int_str, kb_int_tuple, kb_int_list, kb_str_bool, kb_str_int, kb_str_str, kb_str_tuple, kb_str_list, kb_tuple_bool, kb_tuple_int, kb_tuple_str, kb_tuple_tuple, kb_tuple_list, kb_list_bool, kb_list_int, kb_list_str, kb_list_tuple, kb_list_list, kb_NoneType_bool, kb_NoneType_int, kb_NoneType_str, kb_NoneType_tuple, kb_NoneType_list, Nat.zero_add, c02, lstAt_setE, Option.map_some, lstAt_set_ne, ne_eq, Nat.reduceEqDiff, Nat.one_ne_zero, Nat.zero_ne_one, ix_1_0, ix_2_0, ix_2_1, ix_3_0, ix_3_1, ix_3_2, ix_4_0, ix_4_1, ix_4_2, ix_4_3, ix_5_0, ix_5_1, ix_5_2, ix_5_3, ix_5_4, ix_6_0, ix_6_1, ix_6_2, ix_6_3, ix_6_4, ix_6_5, Nat.reduceLeDiff, Int.reduceAdd, Int.reduceSub, Int.reduceMul, Int.reduceNeg, Int.reducePow, Int.reduceLT, Int.reduceLE, Int.reduceEq, Int.reduceToNat, Bool.and_true, Bool.true_and, Bool.and_self, Bool.and_false, Bool.false_and, Bool.and_eq_true, Bool.and_eq_false_imp, and_self, WS_qdn, WS_qdr, WS_qde, WS_qdb, WS_qdc, qn1, qn2, qn3, qn4, qn5, qk1, qk5, lq1, lq2, lq3, lq4, lq5, intD_int, items_tup, items_rol, items_loc, listOf_loc, listOf_rol, isL_loc, at0, at1, at2, at3, at4, at5, atl1, atl2, atl3, atl4, lstAt_new, it_tup, it_rol, kTup_eq, kLen_eq, wipe0, wipe1, b_nm, List.set_cons_zero, List.set_cons_succ, List.length_cons, List.length_nil, List.nil_append, List.cons_append, List.append_nil, List.isEmpty_cons, List.isEmpty_nil, true_and, and_true, false_and, and_false, true_implies, forall_const, not_true_eq_false, not_false_eq_true, implies_true, decide_eq_true_eq, decide_eq_false_iff_not, Bool.not_eq_true', Bool.not_eq_false', Bool.not_true, Bool.not_false, if_true, if_false, Bool.false_eq_true, Bool.true_eq_false, reduceCtorEq, false_implies, eq_self, wm__law_sayings, b__law_sayings, len_items (hc _ ((Fr.refl _).app _)).1]
  refine ⟨by rw [List.length_map]; constructor <;> omega, ?_⟩
  refine WS_rloop (fun i σ S' => FeedOk S' ∧ Fr S S' ∧ ∃ (pre post : List Fld) (q r : Option D), fs = pre ++ post ∧ (pre.length : Int) = i ∧ σ = [some c, some (.loc S.length), q, r] ∧ lstAt S' S.length = some (sayL 0 pre)) ⟨hF.app _, (Fr.refl _).app _, [], fs, none, none, rfl, rfl, rfl, lstAt_new⟩ ?_ ?_
  · rintro i σ S1 i0 i1 ⟨hW1, F1, pre, post, q, r, hfs, hi, rfl, hL⟩
    rw [List.length_map] at i1
    obtain ⟨f, post, rfl, hat⟩ := mid_of hfs hi (by omega)
    have hf : f.ok := hok f (by rw [hfs]; simp)
    have f1 := hf.le
    have f2 := hf.wide
    have f3 := hf.low
    have f4 := hf.high
    have hpl : pre.length ≤ 12 := by rw [hfs, List.length_append] at hl; omega
    have hsl : (sayL 0 pre).length ≤ 38 * pre.length := sayL_len fun g hg => hok g (by rw [hfs]; simp [hg])
    simp only [↓reduceIte, ↓W_ok, ↓W_exn, ↓W_var0, ↓W_varS, ↓W_K, ↓W_bin, ↓W_un, ↓W_aNil, ↓W_aCons, ↓W_arg, ↓W_call, ↓W_of, ↓WB_test, ↓tc_bl, ↓WB_tru, ↓trc, ↓WB_and, ↓WB_or, ↓WB_not, ↓W_if, ↓W_andV, ↓W_orV, ↓W_notV, ↓WM_some, ↓WM_none, ↓WO_some, ↓tr_bl, ↓tr_non, ↓tr_int, ↓tr_tup, ↓tr_rol, ↓WS_nx, ↓WS_rt, ↓WS_ct, ↓WS_bk, ↓WS_exn, ↓WS_seq, ↓WS_nil, ↓WS_retN, ↓WS_break, ↓WS_cont, ↓WS_expr, ↓WS_ret, ↓WS_if, ↓WS_set, ↓WS_par, ↓WS_asg, ↓WS_gSet, ↓WS_gN, ↓WS_gC, ↓WS_gUn, ↓WS_gSub, ↓WS_aug, ↓o_add, ↓o_iadd, ↓o_sub, ↓o_neg, ↓o_mul, ↓o_mod, ↓o_div, ↓o_pow, ↓o_addT, ↓o_addS, ↓o_addL, ↓o_lt, ↓o_le, ↓o_gt, ↓o_ge, ↓o_eq, ↓o_ne, ↓o_eqS, ↓o_neS, ↓o_eqB, ↓o_neB, ↓o_eqT, ↓o_neT, ↓o_eqN, ↓o_neN, ↓o_ltT, ↓o_leT, ↓o_is, ↓o_isnot, ↓o_isB, ↓o_isnotB, ↓o_inT, ↓o_ninT, ↓o_inL, ↓o_ninL, ↓o_ixT, ↓o_ixR, ↓o_ixL, ↓o_ixS, ↓o_str, ↓o_strS, ↓o_set, ↓o_lenT, ↓o_lenR, ↓o_lenL, ↓o_lenS, ↓o_int, ↓o_intT, ↓o_intF, ↓o_abs, ↓o_max, ↓o_min, ↓o_tuple, ↓o_list, ↓o_tup0, ↓o_tup1, ↓o_tup2, ↓o_tup3, ↓o_tup4, ↓o_tup5, ↓o_tup6, ↓o_lst0, ↓o_lst1, ↓o_lst2, ↓o_lst3, ↓o_lst4, ↓o_lst5, ↓o_lst6, ↓o_sum, ↓W_meth, ↓o_append, ↓o_extend, ↓o_popAt, ↓W_cut, ↓W_noPart, ↓W_part, ↓o_cutT, ↓o_cutR, ↓o_cutL, ↓W_isi, ↓W_ch, ↓WS_for, ↓WI_iter, ↓WI_range1, ↓WI_range2, ↓WI_range3, ↓WI_enum, ↓WS_f0, ↓WS_f1, ↓W_alloc, ↓W_ofL, ↓W_comp, ↓WB_yes, ↓W_c0, ↓W_c1, ↓W_listRg, ↓W_tupRg, ↓W_rRange1, ↓W_rRange2, o_intT, o_intF, o_intB, o_ixL, o_ixT, beq_self_eq_true, decide_true, decide_false, okEq, okCmp, okIn, D.fits, D.fitsL, D.dep, D.depL, D.eqv, D.eqvL, D.alike, D.alikeL, isBl_bl, isN_non, isN_bl, isN_int, isN_str, isN_tup, isN_rol, isN_loc, Nat.reduceAdd, Nat.reduceSub, Nat.max_self, Nat.min_self, Nat.max_zero, Nat.zero_max, Nat.min_zero, Nat.zero_min, ty_non, ty_bl, ty_int, ty_str, ty_tup, ty_rol, ty_loc, kb_bool_bool, kb_bool_int, kb_bool_str, kb_bool_tuple, kb_bool_list, kb_int_bool, kb_int_int, kb_int_str, kb_int_tuple, kb_int_list, kb_str_bool, kb_str_int, kb_str_str, kb_str_tuple, kb_str_list, kb_tuple_bool, kb_tuple_int, kb_tuple_str, kb_tuple_tuple, kb_tuple_list, kb_list_bool, kb_list_int, kb_list_str, kb_list_tuple, kb_list_list, kb_NoneType_bool, kb_NoneType_int, kb_NoneType_str, kb_NoneType_tuple, kb_NoneType_list, Nat.zero_add, c02, lstAt_setE, Option.map_some, lstAt_set_ne, ne_eq, Nat.reduceEqDiff, Nat.one_ne_zero, Nat.zero_ne_one, ix_1_0, ix_2_0, ix_2_1, ix_3_0, ix_3_1, ix_3_2, ix_4_0, ix_4_1, ix_4_2, ix_4_3, ix_5_0, ix_5_1, ix_5_2, ix_5_3, ix_5_4, ix_6_0, ix_6_1, ix_6_2, ix_6_3, ix_6_4, ix_6_5, Nat.reduceLeDiff, Int.reduceAdd, Int.reduceSub, Int.reduceMul, Int.reduceNeg, Int.reducePow, Int.reduceLT, Int.reduceLE, Int.reduceEq, Int.reduceToNat, Bool.and_true, Bool.true_and, Bool.and_self, Bool.and_false, Bool.false_and, Bool.and_eq_true, Bool.and_eq_false_imp, and_self, WS_qdn, WS_qdr, WS_qde, WS_qdb, WS_qdc, qn1, qn2, qn3, qn4, qn5, qk1, qk5, lq1, lq2, lq3, lq4, lq5, intD_int, items_tup, items_rol, items_loc, listOf_loc, listOf_rol, isL_loc, at0, at1, at2, at3, at4, at5, atl1, atl2, atl3, atl4, lstAt_new, it_tup, it_rol, kTup_eq, kLen_eq, wipe0, wipe1, b_nm, List.set_cons_zero, List.set_cons_succ, List.length_cons, List.length_nil, List.nil_append, List.cons_append, List.append_nil, List.isEmpty_cons, List.isEmpty_nil, true_and, and_true, false_and, and_false, true_implies, forall_const, not_true_eq_false, not_false_eq_true, implies_true, decide_eq_true_eq, decide_eq_false_iff_not, Bool.not_eq_true', Bool.not_eq_false', Bool.not_true, Bool.not_false, if_true, if_false, Bool.false_eq_true, Bool.true_eq_false, reduceCtorEq, false_implies, eq_self, ix_items (hc _ F1).1, hat, fd_eq]
    refine ⟨⟨by constructor <;> omega, by constructor <;> omega⟩, ?_⟩
    refine W_cPure (fun d => D.tup [.int i, .int (-1), d]) trivial (by rw [intsTo_len, sizeLine_eq]; simp; omega) (fun d hd => ?_) ?_
    · simp only [↓reduceIte, ↓W_ok, ↓W_exn, ↓W_var0, ↓W_varS, ↓W_K, ↓W_bin, ↓W_un, ↓W_aNil, ↓W_aCons, ↓W_arg, ↓W_call, ↓W_of, ↓WB_test, ↓tc_bl, ↓WB_tru, ↓trc, ↓WB_and, ↓WB_or, ↓WB_not, ↓W_if, ↓W_andV, ↓W_orV, ↓W_notV, ↓WM_some, ↓WM_none, ↓WO_some, ↓tr_bl, ↓tr_non, ↓tr_int, ↓tr_tup, ↓tr_rol, ↓WS_nx, ↓WS_rt, ↓WS_ct, ↓WS_bk, ↓WS_exn, ↓WS_seq, ↓WS_nil, ↓WS_retN, ↓WS_break, ↓WS_cont, ↓WS_expr, ↓WS_ret, ↓WS_if, ↓WS_set, ↓WS_par, ↓WS_asg, ↓WS_gSet, ↓WS_gN, ↓WS_gC, ↓WS_gUn, ↓WS_gSub, ↓WS_aug, ↓o_add, ↓o_iadd, ↓o_sub, ↓o_neg, ↓o_mul, ↓o_mod, ↓o_div, ↓o_pow, ↓o_addT, ↓o_addS, ↓o_addL, ↓o_lt, ↓o_le, ↓o_gt, ↓o_ge, ↓o_eq, ↓o_ne, ↓o_eqS, ↓o_neS, ↓o_eqB, ↓o_neB, ↓o_eqT, ↓o_neT, ↓o_eqN, ↓o_neN, ↓o_ltT, ↓o_leT, ↓o_is, ↓o_isnot, ↓o_isB, ↓o_isnotB, ↓o_inT, ↓o_ninT, ↓o_inL, ↓o_ninL, ↓o_ixT, ↓o_ixR, ↓o_ixL, ↓o_ixS, ↓o_str, ↓o_strS, ↓o_set, ↓o_lenT, ↓o_lenR, ↓o_lenL, ↓o_lenS, ↓o_int, ↓o_intT, ↓o_intF, ↓o_abs, ↓o_max, ↓o_min, ↓o_tuple, ↓o_list, ↓o_tup0, ↓o_tup1, ↓o_tup2, ↓o_tup3, ↓o_tup4, ↓o_tup5, ↓o_tup6, ↓o_lst0, ↓o_lst1, ↓o_lst2, ↓o_lst3, ↓o_lst4, ↓o_lst5, ↓o_lst6, ↓o_sum, ↓W_meth, ↓o_append, ↓o_extend, ↓o_popAt, ↓W_cut, ↓W_noPart, ↓W_part, ↓o_cutT, ↓o_cutR, ↓o_cutL, ↓W_isi, ↓W_ch, ↓WS_for, ↓WI_iter, ↓WI_range1, ↓WI_range2, ↓WI_range3, ↓WI_enum, ↓WS_f0, ↓WS_f1, ↓W_alloc, ↓W_ofL, ↓W_comp, ↓WB_yes, ↓W_c0, ↓W_c1, ↓W_listRg, ↓W_tupRg, ↓W_rRange1, ↓W_rRange2, o_intT, o_intF, o_intB, o_ixL, o_ixT, beq_self_eq_true, decide_true, decide_false, okEq, okCmp, okIn, D.fits, D.fitsL, D.dep, D.depL, D.eqv, D.eqvL, D.alike, D.alikeL, isBl_bl, isN_non, isN_bl, isN_int, isN_str, isN_tup, isN_rol, isN_loc, Nat.reduceAdd, Nat.reduceSub, Nat.max_self, Nat.min_self, Nat.max_zero, Nat.zero_max, Nat.min_zero, Nat.zero_min, ty_non, ty_bl, ty_int, ty_str, ty_tup, ty_rol, ty_loc, kb_bool_bool, kb_bool_int, kb_bool_str, kb_bool_tuple, kb_bool_list, kb_int_bool, kb_int_int, kb_int_str, kb_int_tuple, kb_int_list, kb_str_bool, kb_str_int, kb_str_str, kb_str_tuple, kb_str_list, kb_tuple_bool, kb_tuple_int, kb_tuple_str, kb_tuple_tuple, kb_tuple_list, kb_list_bool, kb_list_int, kb_list_str, kb_list_tuple, kb_list_list, kb_NoneType_bool, kb_NoneType_int, kb_NoneType_str, kb_NoneType_tuple, kb_NoneType_list, Nat.zero_add, c02, lstAt_setE, Option.map_some, lstAt_set_ne, ne_eq, Nat.reduceEqDiff, Nat.one_ne_zero, Nat.zero_ne_one, ix_1_0, ix_2_0, ix_2_1, ix_3_0, ix_3_1, ix_3_2, ix_4_0, ix_4_1, ix_4_2, ix_4_3, ix_5_0, ix_5_1, ix_5_2, ix_5_3, ix_5_4, ix_6_0, ix_6_1, ix_6_2, ix_6_3, ix_6_4, ix_6_5, Nat.reduceLeDiff, Int.reduceAdd, Int.reduceSub, Int.reduceMul, Int.reduceNeg, Int.reducePow, Int.reduceLT, Int.reduceLE, Int.reduceEq, Int.reduceToNat, Bool.and_true, Bool.true_and, Bool.and_self, Bool.and_false, Bool.false_and, Bool.and_eq_true, Bool.and_eq_false_imp, and_self, WS_qdn, WS_qdr, WS_qde, WS_qdb, WS_qdc, qn1, qn2, qn3, qn4, qn5, qk1, qk5, lq1, lq2, lq3, lq4, lq5, intD_int, items_tup, items_rol, items_loc, listOf_loc, listOf_rol, isL_loc, at0, at1, at2, at3, at4, at5, atl1, atl2, atl3, atl4, lstAt_new, it_tup, it_rol, kTup_eq, kLen_eq, wipe0, wipe1, b_nm, List.set_cons_zero, List.set_cons_succ, List.length_cons, List.length_nil, List.nil_append, List.cons_append, List.append_nil, List.isEmpty_cons, List.isEmpty_nil, true_and, and_true, false_and, and_false, true_implies, forall_const, not_true_eq_false, not_false_eq_true, implies_true, decide_eq_true_eq, decide_eq_false_iff_not, Bool.not_eq_true', Bool.not_eq_false', Bool.not_true, Bool.not_false, if_true, if_false, Bool.false_eq_true, Bool.true_eq_false, reduceCtorEq, false_implies, eq_self]
    · rw [List.nil_append]
      simp only [↓reduceIte, ↓W_ok, ↓W_exn, ↓W_var0, ↓W_varS, ↓W_K, ↓W_bin, ↓W_un, ↓W_aNil, ↓W_aCons, ↓W_arg, ↓W_call, ↓W_of, ↓WB_test, ↓tc_bl, ↓WB_tru, ↓trc, ↓WB_and, ↓WB_or, ↓WB_not, ↓W_if, ↓W_andV, ↓W_orV, ↓W_notV, ↓WM_some, ↓WM_none, ↓WO_some, ↓tr_bl, ↓tr_non, ↓tr_int, ↓tr_tup, ↓tr_rol, ↓WS_nx, ↓WS_rt, ↓WS_ct, ↓WS_bk, ↓WS_exn, ↓WS_seq, ↓WS_nil, ↓WS_retN, ↓WS_break, ↓WS_cont, ↓WS_expr, ↓WS_ret, ↓WS_if, ↓WS_set, ↓WS_par, ↓WS_asg, ↓WS_gSet, ↓WS_gN, ↓WS_gC, ↓WS_gUn, ↓WS_gSub, ↓WS_aug, ↓o_add, ↓o_iadd, ↓o_sub, ↓o_neg, ↓o_mul, ↓o_mod, ↓o_div, ↓o_pow, ↓o_addT, ↓o_addS, ↓o_addL, ↓o_lt, ↓o_le, ↓o_gt, ↓o_ge, ↓o_eq, ↓o_ne, ↓o_eqS, ↓o_neS, ↓o_eqB, ↓o_neB, ↓o_eqT, ↓o_neT, ↓o_eqN, ↓o_neN, ↓o_ltT, ↓o_leT, ↓o_is, ↓o_isnot, ↓o_isB, ↓o_isnotB, ↓o_inT, ↓o_ninT, ↓o_inL, ↓o_ninL, ↓o_ixT, ↓o_ixR, ↓o_ixL, ↓o_ixS, ↓o_str, ↓o_strS, ↓o_set, ↓o_lenT, ↓o_lenR, ↓o_lenL, ↓o_lenS, ↓o_int, ↓o_intT, ↓o_intF, ↓o_abs, ↓o_max, ↓o_min, ↓o_tuple, ↓o_list, ↓o_tup0, ↓o_tup1, ↓o_tup2, ↓o_tup3, ↓o_tup4, ↓o_tup5, ↓o_tup6, ↓o_lst0, ↓o_lst1, ↓o_lst2, ↓o_lst3, ↓o_lst4, ↓o_lst5, ↓o_lst6, ↓o_sum, ↓W_meth, ↓o_append, ↓o_popAt, ↓W_cut, ↓W_noPart, ↓W_part, ↓o_cutT, ↓o_cutR, ↓o_cutL, ↓W_isi, ↓W_ch, ↓WS_for, ↓WI_iter, ↓WI_range1, ↓WI_range2, ↓WI_range3, ↓WI_enum, ↓WS_f0, ↓WS_f1, ↓W_alloc, ↓W_ofL, ↓W_comp, ↓WB_yes, ↓W_c0, ↓W_c1, ↓W_listRg, ↓W_tupRg, ↓W_rRange1, ↓W_rRange2, o_intT, o_intF, o_intB, o_ixL, o_ixT, beq_self_eq_true, decide_true, decide_false, okEq, okCmp, okIn, D.fits, D.fitsL, D.dep, D.depL, D.eqv, D.eqvL, D.alike, D.alikeL, isBl_bl, isN_non, isN_bl, isN_int, isN_str, isN_tup, isN_rol, isN_loc, Nat.reduceAdd, Nat.reduceSub, Nat.max_self, Nat.min_self, Nat.max_zero, Nat.zero_max, Nat.min_zero, Nat.zero_min, ty_non, ty_bl, ty_int, ty_str, ty_tup, ty_rol, ty_loc, kb_bool_bool, kb_bool_int, kb_bool_str, kb_bool_tuple, kb_bool_list, kb_int_bool, kb_int_int, kb_int_str, kb_int_tuple, kb_int_list, kb_str_bool, kb_str_int, kb_str_str, kb_str_tuple, kb_str_list, kb_tuple_bool, kb_tuple_int, kb_tuple_str, kb_tuple_tuple, kb_tuple_list, kb_list_bool, kb_list_int, kb_list_str, kb_list_tuple, kb_list_list, kb_NoneType_bool, kb_NoneType_int, kb_NoneType_str, kb_NoneType_tuple, kb_NoneType_list, Nat.zero_add, c02, lstAt_setE, Option.map_some, lstAt_set_ne, ne_eq, Nat.reduceEqDiff, Nat.one_ne_zero, Nat.zero_ne_one, ix_1_0, ix_2_0, ix_2_1, ix_3_0, ix_3_1, ix_3_2, ix_4_0, ix_4_1, ix_4_2, ix_4_3, ix_5_0, ix_5_1, ix_5_2, ix_5_3, ix_5_4, ix_6_0, ix_6_1, ix_6_2, ix_6_3, ix_6_4, ix_6_5, Nat.reduceLeDiff, Int.reduceAdd, Int.reduceSub, Int.reduceMul, Int.reduceNeg, Int.reducePow, Int.reduceLT, Int.reduceLE, Int.reduceEq, Int.reduceToNat, Bool.and_true, Bool.true_and, Bool.and_self, Bool.and_false, Bool.false_and, Bool.and_eq_true, Bool.and_eq_false_imp, and_self, WS_qdn, WS_qdr, WS_qde, WS_qdb, WS_qdc, qn1, qn2, qn3, qn4, qn5, qk1, qk5, lq1, lq2, lq3, lq4, lq5, intD_int, items_tup, items_rol, items_loc, listOf_loc, listOf_rol, isL_loc, at0, at1, at2, at3, at4, at5, atl1, atl2, atl3, atl4, lstAt_new, it_tup, it_rol, kTup_eq, kLen_eq, wipe0, wipe1, b_nm, List.set_cons_zero, List.set_cons_succ, List.length_cons, List.length_nil, List.nil_append, List.cons_append, List.append_nil, List.isEmpty_cons, List.isEmpty_nil, true_and, and_true, false_and, and_false, true_implies, forall_const, not_true_eq_false, not_false_eq_true, implies_true, decide_eq_true_eq, decide_eq_false_iff_not, Bool.not_eq_true', Bool.not_eq_false', Bool.not_true, Bool.not_false, if_true, if_false, Bool.false_eq_true, Bool.true_eq_false, reduceCtorEq, false_implies, eq_self, lstAt_app hL]
      refine extend_w (lstAt_app hL) lstAt_new (by rw [List.length_map, intsTo_len, sizeLine_eq]; omega) fun T hT lT => ?_
      have hWT : FeedOk T := hT ▸ (hW1.app _).set (by omega)
      have FT : Fr S T := hT ▸ (F1.app _).set (Nat.le_refl _)
      simp only [↓reduceIte, ↓W_ok, ↓W_exn, ↓W_var0, ↓W_varS, ↓W_K, ↓W_bin, ↓W_un, ↓W_aNil, ↓W_aCons, ↓W_arg, ↓W_call, ↓W_of, ↓WB_test, ↓tc_bl, ↓WB_tru, ↓trc, ↓WB_and, ↓WB_or, ↓WB_not, ↓W_if, ↓W_andV, ↓W_orV, ↓W_notV, ↓WM_some, ↓WM_none, ↓WO_some, ↓tr_bl, ↓tr_non, ↓tr_int, ↓tr_tup, ↓tr_rol, ↓WS_nx, ↓WS_rt, ↓WS_ct, ↓WS_bk, ↓WS_exn, ↓WS_seq, ↓WS_nil, ↓WS_retN, ↓WS_break, ↓WS_cont, ↓WS_expr, ↓WS_ret, ↓WS_if, ↓WS_set, ↓WS_par, ↓WS_asg, ↓WS_gSet, ↓WS_gN, ↓WS_gC, ↓WS_gUn, ↓WS_gSub, ↓WS_aug, ↓o_add, ↓o_iadd, ↓o_sub, ↓o_neg, ↓o_mul, ↓o_mod, ↓o_div, ↓o_pow, ↓o_addT, ↓o_addS, ↓o_addL, ↓o_lt, ↓o_le, ↓o_gt, ↓o_ge, ↓o_eq, ↓o_ne, ↓o_eqS, ↓o_neS, ↓o_eqB, ↓o_neB, ↓o_eqT, ↓o_neT, ↓o_eqN, ↓o_neN, ↓o_ltT, ↓o_leT, ↓o_is, ↓o_isnot, ↓o_isB, ↓o_isnotB, ↓o_inT, ↓o_ninT, ↓o_inL, ↓o_ninL, ↓o_ixT, ↓o_ixR, ↓o_ixL, ↓o_ixS, ↓o_str, ↓o_strS, ↓o_set, ↓o_lenT, ↓o_lenR, ↓o_lenL, ↓o_lenS, ↓o_int, ↓o_intT, ↓o_intF, ↓o_abs, ↓o_max, ↓o_min, ↓o_tuple, ↓o_list, ↓o_tup0, ↓o_tup1, ↓o_tup2, ↓o_tup3, ↓o_tup4, ↓o_tup5, ↓o_tup6, ↓o_lst0, ↓o_lst1, ↓o_lst2, ↓o_lst3, ↓o_lst4, ↓o_lst5, ↓o_lst6, ↓o_sum, ↓W_meth, ↓o_append, ↓o_extend, ↓o_popAt, ↓W_cut, ↓W_noPart, ↓W_part, ↓o_cutT, ↓o_cutR, ↓o_cutL, ↓W_isi, ↓W_ch, ↓WS_for, ↓WI_iter, ↓WI_range1, ↓WI_range2, ↓WI_range3, ↓WI_enum, ↓WS_f0, ↓WS_f1, ↓W_alloc, ↓W_ofL, ↓W_comp, ↓WB_yes, ↓W_c0, ↓W_c1, ↓W_listRg, ↓W_tupRg, ↓W_rRange1, ↓W_rRange2, o_intT, o_intF, o_intB, o_ixL, o_ixT, beq_self_eq_true, decide_true, decide_false, okEq, okCmp, okIn, D.fits, D.fitsL, D.dep, D.depL, D.eqv, D.eqvL, D.alike, D.alikeL, isBl_bl, isN_non, isN_bl, isN_int, isN_str, isN_tup, isN_rol, isN_loc, Nat.reduceAdd, Nat.reduceSub, Nat.max_self, Nat.min_self, Nat.max_zero, Nat.zero_max, Nat.min_zero, Nat.zero_min, ty_non, ty_bl, ty_int, ty_str, ty_tup, ty_rol, ty_loc, kb_bool_bool, kb_bool_int, kb_bool_str, kb_bool_tuple, kb_bool_list, kb_int_bool, kb_int_int, kb_int_str, kb_int_tuple, kb_int_list, kb_str_bool, kb_str_int, kb_str_str, kb_str_tuple, kb_str_list, kb_tuple_bool, kb_tuple_int, kb_tuple_str, kb_tuple_tuple, kb_tuple_list, kb_list_bool, kb_list_int, kb_list_str, kb_list_tuple, kb_list_list, kb_NoneType_bool, kb_NoneType_int, kb_NoneType_str, kb_NoneType_tuple, kb_NoneType_list, Nat.zero_add, c02, lstAt_setE, Option.map_some, lstAt_set_ne, ne_eq, Nat.reduceEqDiff, Nat.one_ne_zero, Nat.zero_ne_one, ix_1_0, ix_2_0, ix_2_1, ix_3_0, ix_3_1, ix_3_2, ix_4_0, ix_4_1, ix_4_2, ix_4_3, ix_5_0, ix_5_1, ix_5_2, ix_5_3, ix_5_4, ix_6_0, ix_6_1, ix_6_2, ix_6_3, ix_6_4, ix_6_5, Nat.reduceLeDiff, Int.reduceAdd, Int.reduceSub, Int.reduceMul, Int.reduceNeg, Int.reducePow, Int.reduceLT, Int.reduceLE, Int.reduceEq, Int.reduceToNat, Bool.and_true, Bool.true_and, Bool.and_self, Bool.and_false, Bool.false_and, Bool.and_eq_true, Bool.and_eq_false_imp, and_self, WS_qdn, WS_qdr, WS_qde, WS_qdb, WS_qdc, qn1, qn2, qn3, qn4, qn5, qk1, qk5, lq1, lq2, lq3, lq4, lq5, intD_int, items_tup, items_rol, items_loc, listOf_loc, listOf_rol, isL_loc, at0, at1, at2, at3, at4, at5, atl1, atl2, atl3, atl4, lstAt_new, it_tup, it_rol, kTup_eq, kLen_eq, wipe0, wipe1, b_nm, List.set_cons_zero, List.set_cons_succ, List.length_cons, List.length_nil, List.nil_append, List.cons_append, List.append_nil, List.isEmpty_cons, List.isEmpty_nil, true_and, and_true, false_and, and_false, true_implies, forall_const, not_true_eq_false, not_false_eq_true, implies_true, decide_eq_true_eq, decide_eq_false_iff_not, Bool.not_eq_true', Bool.not_eq_false', Bool.not_true, Bool.not_false, if_true, if_false, Bool.false_eq_true, Bool.true_eq_false, reduceCtorEq, false_implies, eq_self, ix_items (hc _ FT).1, hat, fd_eq]
      refine ⟨⟨by constructor <;> omega, by constructor <;> omega⟩, ?_⟩
      refine W_cPure (fun d => D.tup [.int i, .int 1, d]) trivial (by rw [intsTo_len, sizeLine_eq]; simp; omega) (fun d hd => ?_) ?_
      · simp only [↓reduceIte, ↓W_ok, ↓W_exn, ↓W_var0, ↓W_varS, ↓W_K, ↓W_bin, ↓W_un, ↓W_aNil, ↓W_aCons, ↓W_arg, ↓W_call, ↓W_of, ↓WB_test, ↓tc_bl, ↓WB_tru, ↓trc, ↓WB_and, ↓WB_or, ↓WB_not, ↓W_if, ↓W_andV, ↓W_orV, ↓W_notV, ↓WM_some, ↓WM_none, ↓WO_some, ↓tr_bl, ↓tr_non, ↓tr_int, ↓tr_tup, ↓tr_rol, ↓WS_nx, ↓WS_rt, ↓WS_ct, ↓WS_bk, ↓WS_exn, ↓WS_seq, ↓WS_nil, ↓WS_retN, ↓WS_break, ↓WS_cont, ↓WS_expr, ↓WS_ret, ↓WS_if, ↓WS_set, ↓WS_par, ↓WS_asg, ↓WS_gSet, ↓WS_gN, ↓WS_gC, ↓WS_gUn, ↓WS_gSub, ↓WS_aug, ↓o_add, ↓o_iadd, ↓o_sub, ↓o_neg, ↓o_mul, ↓o_mod, ↓o_div, ↓o_pow, ↓o_addT, ↓o_addS, ↓o_addL, ↓o_lt, ↓o_le, ↓o_gt, ↓o_ge, ↓o_eq, ↓o_ne, ↓o_eqS, ↓o_neS, ↓o_eqB, ↓o_neB, ↓o_eqT, ↓o_neT, ↓o_eqN, ↓o_neN, ↓o_ltT, ↓o_leT, ↓o_is, ↓o_isnot, ↓o_isB, ↓o_isnotB, ↓o_inT, ↓o_ninT, ↓o_inL, ↓o_ninL, ↓o_ixT, ↓o_ixR, ↓o_ixL, ↓o_ixS, ↓o_str, ↓o_strS, ↓o_set, ↓o_lenT, ↓o_lenR, ↓o_lenL, ↓o_lenS, ↓o_int, ↓o_intT, ↓o_intF, ↓o_abs, ↓o_max, ↓o_min, ↓o_tuple, ↓o_list, ↓o_tup0, ↓o_tup1, ↓o_tup2, ↓o_tup3, ↓o_tup4, ↓o_tup5, ↓o_tup6, ↓o_lst0, ↓o_lst1, ↓o_lst2, ↓o_lst3, ↓o_lst4, ↓o_lst5, ↓o_lst6, ↓o_sum, ↓W_meth, ↓o_append, ↓o_extend, ↓o_popAt, ↓W_cut, ↓W_noPart, ↓W_part, ↓o_cutT, ↓o_cutR, ↓o_cutL, ↓W_isi, ↓W_ch, ↓WS_for, ↓WI_iter, ↓WI_range1, ↓WI_range2, ↓WI_range3, ↓WI_enum, ↓WS_f0, ↓WS_f1, ↓W_alloc, ↓W_ofL, ↓W_comp, ↓WB_yes, ↓W_c0, ↓W_c1, ↓W_listRg, ↓W_tupRg, ↓W_rRange1, ↓W_rRange2, o_intT, o_intF, o_intB, o_ixL, o_ixT, beq_self_eq_true, decide_true, decide_false, okEq, okCmp, okIn, D.fits, D.fitsL, D.dep, D.depL, D.eqv, D.eqvL, D.alike, D.alikeL, isBl_bl, isN_non, isN_bl, isN_int, isN_str, isN_tup, isN_rol, isN_loc, Nat.reduceAdd, Nat.reduceSub, Nat.max_self, Nat.min_self, Nat.max_zero, Nat.zero_max, Nat.min_zero, Nat.zero_min, ty_non, ty_bl, ty_int, ty_str, ty_tup, ty_rol, ty_loc, kb_bool_bool, kb_bool_int, kb_bool_str, kb_bool_tuple, kb_bool_list, kb_int_bool, kb_int_int, kb_int_str, kb_int_tuple, kb_int_list, kb_str_bool, kb_str_int, kb_str_str, kb_str_tuple, kb_str_list, kb_tuple_bool, kb_tuple_int, kb_tuple_str, kb_tuple_tuple, kb_tuple_list, kb_list_bool, kb_list_int, kb_list_str, kb_list_tuple, kb_list_list, kb_NoneType_bool, kb_NoneType_int, kb_NoneType_str, kb_NoneType_tuple, kb_NoneType_list, Nat.zero_add, c02, lstAt_setE, Option.map_some, lstAt_set_ne, ne_eq, Nat.reduceEqDiff, Nat.one_ne_zero, Nat.zero_ne_one, ix_1_0, ix_2_0, ix_2_1, ix_3_0, ix_3_1, ix_3_2, ix_4_0, ix_4_1, ix_4_2, ix_4_3, ix_5_0, ix_5_1, ix_5_2, ix_5_3, ix_5_4, ix_6_0, ix_6_1, ix_6_2, ix_6_3, ix_6_4, ix_6_5, Nat.reduceLeDiff, Int.reduceAdd, Int.reduceSub, Int.reduceMul, Int.reduceNeg, Int.reducePow, Int.reduceLT, Int.reduceLE, Int.reduceEq, Int.reduceToNat, Bool.and_true, Bool.true_and, Bool.and_self, Bool.and_false, Bool.false_and, Bool.and_eq_true, Bool.and_eq_false_imp, and_self, WS_qdn, WS_qdr, WS_qde, WS_qdb, WS_qdc, qn1, qn2, qn3, qn4, qn5, qk1, qk5, lq1, lq2, lq3, lq4, lq5, intD_int, items_tup, items_rol, items_loc, listOf_loc, listOf_rol, isL_loc, at0, at1, at2, at3, at4, at5, atl1, atl2, atl3, atl4, lstAt_new, it_tup, it_rol, kTup_eq, kLen_eq, wipe0, wipe1, b_nm, List.set_cons_zero, List.set_cons_succ, List.length_cons, List.length_nil, List.nil_append, List.cons_append, List.append_nil, List.isEmpty_cons, List.isEmpty_nil, true_and, and_true, false_and, and_false, true_implies, forall_const, not_true_eq_false, not_false_eq_true, implies_true, decide_eq_true_eq, decide_eq_false_iff_not, Bool.not_eq_true', Bool.not_eq_false', Bool.not_true, Bool.not_false, if_true, if_false, Bool.false_eq_true, Bool.true_eq_false, reduceCtorEq, false_implies, eq_self]
      · rw [List.nil_append]
        simp only [↓reduceIte, ↓W_ok, ↓W_exn, ↓W_var0, ↓W_varS, ↓W_K, ↓W_bin, ↓W_un, ↓W_aNil, ↓W_aCons, ↓W_arg, ↓W_call, ↓W_of, ↓WB_test, ↓tc_bl, ↓WB_tru, ↓trc, ↓WB_and, ↓WB_or, ↓WB_not, ↓W_if, ↓W_andV, ↓W_orV, ↓W_notV, ↓WM_some, ↓WM_none, ↓WO_some, ↓tr_bl, ↓tr_non, ↓tr_int, ↓tr_tup, ↓tr_rol, ↓WS_nx, ↓WS_rt, ↓WS_ct, ↓WS_bk, ↓WS_exn, ↓WS_seq, ↓WS_nil, ↓WS_retN, ↓WS_break, ↓WS_cont, ↓WS_expr, ↓WS_ret, ↓WS_if, ↓WS_set, ↓WS_par, ↓WS_asg, ↓WS_gSet, ↓WS_gN, ↓WS_gC, ↓WS_gUn, ↓WS_gSub, ↓WS_aug, ↓o_add, ↓o_iadd, ↓o_sub, ↓o_neg, ↓o_mul, ↓o_mod, ↓o_div, ↓o_pow, ↓o_addT, ↓o_addS, ↓o_addL, ↓o_lt, ↓o_le, ↓o_gt, ↓o_ge, ↓o_eq, ↓o_ne, ↓o_eqS, ↓o_neS, ↓o_eqB, ↓o_neB, ↓o_eqT, ↓o_neT, ↓o_eqN, ↓o_neN, ↓o_ltT, ↓o_leT, ↓o_is, ↓o_isnot, ↓o_isB, ↓o_isnotB, ↓o_inT, ↓o_ninT, ↓o_inL, ↓o_ninL, ↓o_ixT, ↓o_ixR, ↓o_ixL, ↓o_ixS, ↓o_str, ↓o_strS, ↓o_set, ↓o_lenT, ↓o_lenR, ↓o_lenL, ↓o_lenS, ↓o_int, ↓o_intT, ↓o_intF, ↓o_abs, ↓o_max, ↓o_min, ↓o_tuple, ↓o_list, ↓o_tup0, ↓o_tup1, ↓o_tup2, ↓o_tup3, ↓o_tup4, ↓o_tup5, ↓o_tup6, ↓o_lst0, ↓o_lst1, ↓o_lst2, ↓o_lst3, ↓o_lst4, ↓o_lst5, ↓o_lst6, ↓o_sum, ↓W_meth, ↓o_append, ↓o_popAt, ↓W_cut, ↓W_noPart, ↓W_part, ↓o_cutT, ↓o_cutR, ↓o_cutL, ↓W_isi, ↓W_ch, ↓WS_for, ↓WI_iter, ↓WI_range1, ↓WI_range2, ↓WI_range3, ↓WI_enum, ↓WS_f0, ↓WS_f1, ↓W_alloc, ↓W_ofL, ↓W_comp, ↓WB_yes, ↓W_c0, ↓W_c1, ↓W_listRg, ↓W_tupRg, ↓W_rRange1, ↓W_rRange2, o_intT, o_intF, o_intB, o_ixL, o_ixT, beq_self_eq_true, decide_true, decide_false, okEq, okCmp, okIn, D.fits, D.fitsL, D.dep, D.depL, D.eqv, D.eqvL, D.alike, D.alikeL, isBl_bl, isN_non, isN_bl, isN_int, isN_str, isN_tup, isN_rol, isN_loc, Nat.reduceAdd, Nat.reduceSub, Nat.max_self, Nat.min_self, Nat.max_zero, Nat.zero_max, Nat.min_zero, Nat.zero_min, ty_non, ty_bl, ty_int, ty_str, ty_tup, ty_rol, ty_loc, kb_bool_bool, kb_bool_int, kb_bool_str, kb_bool_tuple, kb_bool_list, kb_int_bool, kb_int_int, kb_int_str, kb_int_tuple, kb_int_list, kb_str_bool, kb_str_int, kb_str_str, kb_str_tuple, kb_str_list, kb_tuple_bool, kb_tuple_int, kb_tuple_str, kb_tuple_tuple, kb_tuple_list, kb_list_bool, kb_list_int, kb_list_str, kb_list_tuple, kb_list_list, kb_NoneType_bool, kb_NoneType_int, kb_NoneType_str, kb_NoneType_tuple, kb_NoneType_list, Nat.zero_add, c02, lstAt_setE, Option.map_some, lstAt_set_ne, ne_eq, Nat.reduceEqDiff, Nat.one_ne_zero, Nat.zero_ne_one, ix_1_0, ix_2_0, ix_2_1, ix_3_0, ix_3_1, ix_3_2, ix_4_0, ix_4_1, ix_4_2, ix_4_3, ix_5_0, ix_5_1, ix_5_2, ix_5_3, ix_5_4, ix_6_0, ix_6_1, ix_6_2, ix_6_3, ix_6_4, ix_6_5, Nat.reduceLeDiff, Int.reduceAdd, Int.reduceSub, Int.reduceMul, Int.reduceNeg, Int.reducePow, Int.reduceLT, Int.reduceLE, Int.reduceEq, Int.reduceToNat, Bool.and_true, Bool.true_and, Bool.and_self, Bool.and_false, Bool.false_and, Bool.and_eq_true, Bool.and_eq_false_imp, and_self, WS_qdn, WS_qdr, WS_qde, WS_qdb, WS_qdc, qn1, qn2, qn3, qn4, qn5, qk1, qk5, lq1, lq2, lq3, lq4, lq5, intD_int, items_tup, items_rol, items_loc, listOf_loc, listOf_rol, isL_loc, at0, at1, at2, at3, at4, at5, atl1, atl2, atl3, atl4, lstAt_new, it_tup, it_rol, kTup_eq, kLen_eq, wipe0, wipe1, b_nm, List.set_cons_zero, List.set_cons_succ, List.length_cons, List.length_nil, List.nil_append, List.cons_append, List.append_nil, List.isEmpty_cons, List.isEmpty_nil, true_and, and_true, false_and, and_false, true_implies, forall_const, not_true_eq_false, not_false_eq_true, implies_true, decide_eq_true_eq, decide_eq_false_iff_not, Bool.not_eq_true', Bool.not_eq_false', Bool.not_true, Bool.not_false, if_true, if_false, Bool.false_eq_true, Bool.true_eq_false, reduceCtorEq, false_implies, eq_self]
        refine extend_w (lstAt_app lT) lstAt_new (by rw [List.length_append, List.length_map, List.length_map, intsTo_len, intsTo_len, sizeLine_eq]; omega) fun U hU lU => ?_
        simp only [↓reduceIte, ↓W_ok, ↓W_exn, ↓W_var0, ↓W_varS, ↓W_K, ↓W_bin, ↓W_un, ↓W_aNil, ↓W_aCons, ↓W_arg, ↓W_call, ↓W_of, ↓WB_test, ↓tc_bl, ↓WB_tru, ↓trc, ↓WB_and, ↓WB_or, ↓WB_not, ↓W_if, ↓W_andV, ↓W_orV, ↓W_notV, ↓WM_some, ↓WM_none, ↓WO_some, ↓tr_bl, ↓tr_non, ↓tr_int, ↓tr_tup, ↓tr_rol, ↓WS_nx, ↓WS_rt, ↓WS_ct, ↓WS_bk, ↓WS_exn, ↓WS_seq, ↓WS_nil, ↓WS_retN, ↓WS_break, ↓WS_cont, ↓WS_expr, ↓WS_ret, ↓WS_if, ↓WS_set, ↓WS_par, ↓WS_asg, ↓WS_gSet, ↓WS_gN, ↓WS_gC, ↓WS_gUn, ↓WS_gSub, ↓WS_aug, ↓o_add, ↓o_iadd, ↓o_sub, ↓o_neg, ↓o_mul, ↓o_mod, ↓o_div, ↓o_pow, ↓o_addT, ↓o_addS, ↓o_addL, ↓o_lt, ↓o_le, ↓o_gt, ↓o_ge, ↓o_eq, ↓o_ne, ↓o_eqS, ↓o_neS, ↓o_eqB, ↓o_neB, ↓o_eqT, ↓o_neT, ↓o_eqN, ↓o_neN, ↓o_ltT, ↓o_leT, ↓o_is, ↓o_isnot, ↓o_isB, ↓o_isnotB, ↓o_inT, ↓o_ninT, ↓o_inL, ↓o_ninL, ↓o_ixT, ↓o_ixR, ↓o_ixL, ↓o_ixS, ↓o_str, ↓o_strS, ↓o_set, ↓o_lenT, ↓o_lenR, ↓o_lenL, ↓o_lenS, ↓o_int, ↓o_intT, ↓o_intF, ↓o_abs, ↓o_max, ↓o_min, ↓o_tuple, ↓o_list, ↓o_tup0, ↓o_tup1, ↓o_tup2, ↓o_tup3, ↓o_tup4, ↓o_tup5, ↓o_tup6, ↓o_lst0, ↓o_lst1, ↓o_lst2, ↓o_lst3, ↓o_lst4, ↓o_lst5, ↓o_lst6, ↓o_sum, ↓W_meth, ↓o_append, ↓o_extend, ↓o_popAt, ↓W_cut, ↓W_noPart, ↓W_part, ↓o_cutT, ↓o_cutR, ↓o_cutL, ↓W_isi, ↓W_ch, ↓WS_for, ↓WI_iter, ↓WI_range1, ↓WI_range2, ↓WI_range3, ↓WI_enum, ↓WS_f0, ↓WS_f1, ↓W_alloc, ↓W_ofL, ↓W_comp, ↓WB_yes, ↓W_c0, ↓W_c1, ↓W_listRg, ↓W_tupRg, ↓W_rRange1, ↓W_rRange2, o_intT, o_intF, o_intB, o_ixL, o_ixT, beq_self_eq_true, decide_true, decide_false, okEq, okCmp, okIn, D.fits, D.fitsL, D.dep, D.depL, D.eqv, D.eqvL, D.alike, D.alikeL, isBl_bl, isN_non, isN_bl, isN_int, isN_str, isN_tup, isN_rol, isN_loc, Nat.reduceAdd, Nat.reduceSub, Nat.max_self, Nat.min_self, Nat.max_zero, Nat.zero_max, Nat.min_zero, Nat.zero_min, ty_non, ty_bl, ty_int, ty_str, ty_tup, ty_rol, ty_loc, kb_bool_bool, kb_bool_int, kb_bool_str, kb_bool_tuple, kb_bool_list, kb_int_bool, kb_int_int, kb_int_str, kb_int_tuple, kb_int_list, kb_str_bool, kb_str_int, kb_str_str, kb_str_tuple, kb_str_list, kb_tuple_bool, kb_tuple_int, kb_tuple_str, kb_tuple_tuple, kb_tuple_list, kb_list_bool, kb_list_int, kb_list_str, kb_list_tuple, kb_list_list, kb_NoneType_bool, kb_NoneType_int, kb_NoneType_str, kb_NoneType_tuple, kb_NoneType_list, Nat.zero_add, c02, lstAt_setE, Option.map_some, lstAt_set_ne, ne_eq, Nat.reduceEqDiff, Nat.one_ne_zero, Nat.zero_ne_one, ix_1_0, ix_2_0, ix_2_1, ix_3_0, ix_3_1, ix_3_2, ix_4_0, ix_4_1, ix_4_2, ix_4_3, ix_5_0, ix_5_1, ix_5_2, ix_5_3, ix_5_4, ix_6_0, ix_6_1, ix_6_2, ix_6_3, ix_6_4, ix_6_5, Nat.reduceLeDiff, Int.reduceAdd, Int.reduceSub, Int.reduceMul, Int.reduceNeg, Int.reducePow, Int.reduceLT, Int.reduceLE, Int.reduceEq, Int.reduceToNat, Bool.and_true, Bool.true_and, Bool.and_self, Bool.and_false, Bool.false_and, Bool.and_eq_true, Bool.and_eq_false_imp, and_self, WS_qdn, WS_qdr, WS_qde, WS_qdb, WS_qdc, qn1, qn2, qn3, qn4, qn5, qk1, qk5, lq1, lq2, lq3, lq4, lq5, intD_int, items_tup, items_rol, items_loc, listOf_loc, listOf_rol, isL_loc, at0, at1, at2, at3, at4, at5, atl1, atl2, atl3, atl4, lstAt_new, it_tup, it_rol, kTup_eq, kLen_eq, wipe0, wipe1, b_nm, List.set_cons_zero, List.set_cons_succ, List.length_cons, List.length_nil, List.nil_append, List.cons_append, List.append_nil, List.isEmpty_cons, List.isEmpty_nil, true_and, and_true, false_and, and_false, true_implies, forall_const, not_true_eq_false, not_false_eq_true, implies_true, decide_eq_true_eq, decide_eq_false_iff_not, Bool.not_eq_true', Bool.not_eq_false', Bool.not_true, Bool.not_false, if_true, if_false, Bool.false_eq_true, Bool.true_eq_false, reduceCtorEq, false_implies, eq_self]
        refine ⟨hU ▸ (hWT.app _).set (by omega), hU ▸ (FT.app _).set (Nat.le_refl _), pre ++ [f], post, _, _, by rw [hfs]; simp, by simp; omega, rfl, ?_⟩
        rw [lU, sayL_app, Nat.zero_add, sayL, sayL, List.append_nil, List.append_assoc, ← hi]
        rfl
  · rintro σ S1 ⟨hW1, F1, pre, post, q, r, hfs, hi, rfl, hL⟩
    simp only [↓reduceIte, ↓W_ok, ↓W_exn, ↓W_var0, ↓W_varS, ↓W_K, ↓W_bin, ↓W_un, ↓W_aNil, ↓W_aCons, ↓W_arg, ↓W_call, ↓W_of, ↓WB_test, ↓tc_bl, ↓WB_tru, ↓trc, ↓WB_and, ↓WB_or, ↓WB_not, ↓W_if, ↓W_andV, ↓W_orV, ↓W_notV, ↓WM_some, ↓WM_none, ↓WO_some, ↓tr_bl, ↓tr_non, ↓tr_int, ↓tr_tup, ↓tr_rol, ↓WS_nx, ↓WS_rt, ↓WS_ct, ↓WS_bk, ↓WS_exn, ↓WS_seq, ↓WS_nil, ↓WS_retN, ↓WS_break, ↓WS_cont, ↓WS_expr, ↓WS_ret, ↓WS_if, ↓WS_set, ↓WS_par, ↓WS_asg, ↓WS_gSet, ↓WS_gN, ↓WS_gC, ↓WS_gUn, ↓WS_gSub, ↓WS_aug, ↓o_add, ↓o_iadd, ↓o_sub, ↓o_neg, ↓o_mul, ↓o_mod, ↓o_div, ↓o_pow, ↓o_addT, ↓o_addS, ↓o_addL, ↓o_lt, ↓o_le, ↓o_gt, ↓o_ge, ↓o_eq, ↓o_ne, ↓o_eqS, ↓o_neS, ↓o_eqB, ↓o_neB, ↓o_eqT, ↓o_neT, ↓o_eqN, ↓o_neN, ↓o_ltT, ↓o_leT, ↓o_is, ↓o_isnot, ↓o_isB, ↓o_isnotB, ↓o_inT, ↓o_ninT, ↓o_inL, ↓o_ninL, ↓o_ixT, ↓o_ixR, ↓o_ixL, ↓o_ixS, ↓o_str, ↓o_strS, ↓o_set, ↓o_lenT, ↓o_lenR, ↓o_lenL, ↓o_lenS, ↓o_int, ↓o_intT, ↓o_intF, ↓o_abs, ↓o_max, ↓o_min, ↓o_tuple, ↓o_list, ↓o_tup0, ↓o_tup1, ↓o_tup2, ↓o_tup3, ↓o_tup4, ↓o_tup5, ↓o_tup6, ↓o_lst0, ↓o_lst1, ↓o_lst2, ↓o_lst3, ↓o_lst4, ↓o_lst5, ↓o_lst6, ↓o_sum, ↓W_meth, ↓o_append, ↓o_extend, ↓o_popAt, ↓W_cut, ↓W_noPart, ↓W_part, ↓o_cutT, ↓o_cutR, ↓o_cutL, ↓W_isi, ↓W_ch, ↓WS_for, ↓WI_iter, ↓WI_range1, ↓WI_range2, ↓WI_range3, ↓WI_enum, ↓WS_f0, ↓WS_f1, ↓W_alloc, ↓W_ofL, ↓W_comp, ↓WB_yes, ↓W_c0, ↓W_c1, ↓W_listRg, ↓W_tupRg, ↓W_rRange1, ↓W_rRange2, o_intT, o_intF, o_intB, o_ixL, o_ixT, beq_self_eq_true, decide_true, decide_false, okEq, okCmp, okIn, D.fits, D.fitsL, D.dep, D.depL, D.eqv, D.eqvL, D.alike, D.alikeL, isBl_bl, isN_non, isN_bl, isN_int, isN_str, isN_tup, isN_rol, isN_loc, Nat.reduceAdd, Nat.reduceSub, Nat.max_self, Nat.min_self, Nat.max_zero, Nat.zero_max, Nat.min_zero, Nat.zero_min, ty_non, ty_bl, ty_int, ty_str, ty_tup, ty_rol, ty_loc, kb_bool_bool, kb_bool_int, kb_bool_str, kb_bool_tuple, kb_bool_list, kb_int_bool, kb_int_int, kb_int_str, kb_int_tuple, kb_int_list, kb_str_bool, kb_str_int, kb_str_str, kb_str_tuple, kb_str_list, kb_tuple_bool, kb_tuple_int, kb_tuple_str, kb_tuple_tuple, kb_tuple_list, kb_list_bool, kb_list_int, kb_list_str, kb_list_tuple, kb_list_list, kb_NoneType_bool, kb_NoneType_int, kb_NoneType_str, kb_NoneType_tuple, kb_NoneType_list, Nat.zero_add, c02, lstAt_setE, Option.map_some, lstAt_set_ne, ne_eq, Nat.reduceEqDiff, Nat.one_ne_zero, Nat.zero_ne_one, ix_1_0, ix_2_0, ix_2_1, ix_3_0, ix_3_1, ix_3_2, ix_4_0, ix_4_1, ix_4_2, ix_4_3, ix_5_0, ix_5_1, ix_5_2, ix_5_3, ix_5_4, ix_6_0, ix_6_1, ix_6_2, ix_6_3, ix_6_4, ix_6_5, Nat.reduceLeDiff, Int.reduceAdd, Int.reduceSub, Int.reduceMul, Int.reduceNeg, Int.reducePow, Int.reduceLT, Int.reduceLE, Int.reduceEq, Int.reduceToNat, Bool.and_true, Bool.true_and, Bool.and_self, Bool.and_false, Bool.false_and, Bool.and_eq_true, Bool.and_eq_false_imp, and_self, WS_qdn, WS_qdr, WS_qde, WS_qdb, WS_qdc, qn1, qn2, qn3, qn4, qn5, qk1, qk5, lq1, lq2, lq3, lq4, lq5, intD_int, items_tup, items_rol, items_loc, listOf_loc, listOf_rol, isL_loc, at0, at1, at2, at3, at4, at5, atl1, atl2, atl3, atl4, lstAt_new, it_tup, it_rol, kTup_eq, kLen_eq, wipe0, wipe1, b_nm, List.set_cons_zero, List.set_cons_succ, List.length_cons, List.length_nil, List.nil_append, List.cons_append, List.append_nil, List.isEmpty_cons, List.isEmpty_nil, true_and, and_true, false_and, and_false, true_implies, forall_const, not_true_eq_false, not_false_eq_true, implies_true, decide_eq_true_eq, decide_eq_false_iff_not, Bool.not_eq_true', Bool.not_eq_false', Bool.not_true, Bool.not_false, if_true, if_false, Bool.false_eq_true, Bool.true_eq_false, reduceCtorEq, false_implies, eq_self]
    have : post = [] := by
      rw [hfs, List.length_map, List.length_append] at hi
      cases post with
      | nil => rfl
      | cons f post => rw [List.length_cons] at hi; omega
    subst this
    rw [List.append_nil] at hfs
    subst hfs
    exact h _ hW1 F1 hL
/-! sorted -/
theorem perm_rp {ys : List D} {rs : List (Sy × Sy)} (h : ys.Perm (rs.map rp)) : ∃ rs' : List (Sy × Sy), ys = rs'.map rp ∧ (∀ r ∈ rs', r ∈ rs) ∧ rs'.length = rs.length := by
  have hl := h.length_eq
  rw [List.length_map] at hl
  have hm : ∀ y ∈ ys, ∃ r ∈ rs, rp r = y := fun y hy => List.mem_map.mp (h.mem_iff.mp hy)
  clear h
  suffices z : ∀ ys : List D, (∀ y ∈ ys, ∃ r ∈ rs, rp r = y) → ∃ rs' : List (Sy × Sy), ys = rs'.map rp ∧ ∀ r ∈ rs', r ∈ rs by
    obtain ⟨rs', e, h2⟩ := z ys hm
    exact ⟨rs', e, h2, by rw [← hl, e, List.length_map]⟩
  intro ys
  induction ys with
  | nil => intro _; exact ⟨[], rfl, by simp⟩
  | cons y ys ih =>
    intro hm
    obtain ⟨r, hr, rfl⟩ := hm y (by simp)
    obtain ⟨rs', rfl, h2⟩ := ih fun y hy => hm y (List.mem_cons_of_mem _ hy)
    exact ⟨r :: rs', rfl, fun z hz => (List.mem_cons.mp hz).elim (fun e => e ▸ hr) (h2 z)⟩
theorem rp_inj {r r' : Sy × Sy} (h : rp r = rp r') : r = r' := by
  obtain ⟨⟨f, w, v⟩, ⟨f', w', v'⟩⟩ := r
  obtain ⟨⟨a, b, c⟩, ⟨a', b', c'⟩⟩ := r'
  simp only [rp, rl, Sy.d, D.tup.injEq, List.cons.injEq, D.int.injEq, and_true] at h
  obtain ⟨⟨rfl, rfl, rfl⟩, ⟨rfl, rfl, rfl⟩⟩ := h
  rfl
theorem sort_rules {Q : D → Store → Prop} {tt : Tg Q} {rs : List (Sy × Sy)} {l : Nat} (hl : lstAt S l = some (rs.map rp)) (h : ∀ rs' : List (Sy × Sy), (∀ r ∈ rs', r ∈ rs) → (∀ r ∈ rs, r ∈ rs') → rs'.length = rs.length → Q (.loc S.length) (S ++ [.lst (rs'.map rp)])) : WO Q tt (oSorted [.loc l] S) := by
  have hp : (sortD (rs.map rp)).Perm (rs.map rp) := List.mergeSort_perm _ _
  obtain ⟨rs', e, h1, h2⟩ := perm_rp hp
  have h3 : ∀ r ∈ rs, r ∈ rs' := fun r hr => by
    have : rp r ∈ sortD (rs.map rp) := hp.mem_iff.mpr (List.mem_map.mpr ⟨r, hr, rfl⟩)
    rw [e] at this
    obtain ⟨r', hr', e'⟩ := List.mem_map.mp this
    rwa [← rp_inj e']
  refine sorted_w hl ⟨fitsL_iff.mpr fun y hy => ?_, ?_, fun a ha b hb => ?_, .inl fun d hd => ?_⟩ (by rw [e]; exact h rs' h1 h3 h2)
  · obtain ⟨r, _, rfl⟩ := List.mem_map.mp hy
    rfl
  · refine Nat.le_trans (depL_le (n := 2) fun y hy => ?_) (by decide)
    obtain ⟨r, _, rfl⟩ := List.mem_map.mp hy
    simp [rp, rl, Sy.d, D.dep, D.depL]
  · obtain ⟨r, _, rfl⟩ := List.mem_map.mp ha
    obtain ⟨r', _, rfl⟩ := List.mem_map.mp hb
    rfl
  · obtain ⟨y, hy, rfl⟩ := List.mem_map.mp hd
    obtain ⟨r, _, rfl⟩ := List.mem_map.mp hy
    exact ⟨_, _, rfl⟩
theorem sort2 {Q : D → Store → Prop} {tt : Tg Q} (h : ∀ a b : Sy, (a = s ∧ b = t) ∨ (a = t ∧ b = s) → Q (.loc S.length) (S ++ [.lst [a.d, b.d]])) {l : Nat} (hl : lstAt S l = some [s.d, t.d]) : WO Q tt (oSorted [.loc l] S) := by
  have al : ∀ a b : Sy, PySem.W.alike a.d.py b.d.py = true := fun a b => rfl
  refine sorted_w hl ⟨rfl, (by simp [Sy.d, D.depL, D.dep]), fun a ha b hb => ?_, .inl fun d hd => ?_⟩ ?_
  · simp only [List.mem_cons, List.not_mem_nil, or_false] at ha hb
    rcases ha with rfl | rfl <;> rcases hb with rfl | rfl <;> exact al _ _
  · simp only [List.map_cons, List.map_nil, List.mem_cons, List.not_mem_nil, or_false] at hd
    rcases hd with rfl | rfl <;> exact ⟨_, _, rfl⟩
  · have hp : (sortD [s.d, t.d]).Perm [s.d, t.d] := List.mergeSort_perm _ _
    have hl2 : (sortD [s.d, t.d]).length = 2 := hp.length_eq
    rcases q : sortD [s.d, t.d] with _ | ⟨a, _ | ⟨b, _ | ⟨c, r⟩⟩⟩ <;> rw [q] at hl2 <;> simp at hl2
    rw [q] at hp
    rcases pair_perm hp with ⟨rfl, rfl⟩ | ⟨rfl, rfl⟩
    · exact h _ _ (.inl ⟨rfl, rfl⟩)
    · exact h _ _ (.inr ⟨rfl, rfl⟩)
theorem okIn_rules {r : Sy × Sy} {rs : List (Sy × Sy)} : (rp r).fits = true ∧ D.fitsL (rs.map rp) = true ∧ min (D.depL (rs.map rp)) (rp r).dep ≤ 60 := by
  refine ⟨rfl, fitsL_iff.mpr fun y hy => ?_, ?_⟩
  · obtain ⟨r, _, rfl⟩ := List.mem_map.mp hy
    rfl
  · have : (rp r).dep = 2 := rfl
    omega
theorem say_at {fs : List Fld} {y : D} (hy : y ∈ sayL 0 fs) : ∃ s : Sy, y = s.d ∧ s.at_ fs.length := by
  obtain ⟨s, e, h1, h2, h3⟩ := sayL_mem hy
  exact ⟨s, e, h1, by simpa using h2, by simpa using h3⟩
theorem rules_w {fs : List Fld} {most : Int} {l : Nat} (hF : FeedOk S) (h2 : 2 ≤ l) (hL : lstAt S l = some (sayL 0 fs)) (hl : fs.length ≤ 12) (hok : ∀ f ∈ fs, f.ok) (hm0 : 0 ≤ most) (hm : most ≤ 500) (h : ∀ (rs : List (Sy × Sy)) S', (rs.length : Int) ≤ most → RsOk rs fs.length → FeedOk S' → Fr S S' → Q (.tup (rs.map rp)) S') : W (x, Q) tt (m__law_rules [.loc 1, .loc l, .int most] S) := by
  have g2 := hF.len
  have hsl := sayL_len (k := 0) hok
  have end_ : ∀ (rs : List (Sy × Sy)) (S1 : Store), (rs.length : Int) ≤ most → RsOk rs fs.length → FeedOk S1 → Fr S S1 → lstAt S1 S.length = some (rs.map rp) → ∀ a b c d : Option D, WS (qd (x, Q)) tg (sRet (cArg oTuple (aCons (cArg oSorted (aCons (cVar 3) aNil)) aNil)) [some (.loc 1), some (.loc l), some (.int most), some (.loc S.length), a, b, c, d] S1) := by
    intro rs S1 h1 h3 hF1 F1 hL1 a b c d
    simp only [↓reduceIte, ↓W_ok, ↓W_exn, ↓W_var0, ↓W_varS, ↓W_K, ↓W_bin, ↓W_un, ↓W_aNil, ↓W_aCons, ↓W_arg, ↓W_call, ↓W_of, ↓WB_test, ↓tc_bl, ↓WB_tru, ↓trc, ↓WB_and, ↓WB_or, ↓WB_not, ↓W_if, ↓W_andV, ↓W_orV, ↓W_notV, ↓WM_some, ↓WM_none, ↓WO_some, ↓tr_bl, ↓tr_non, ↓tr_int, ↓tr_tup, ↓tr_rol, ↓WS_nx, ↓WS_rt, ↓WS_ct, ↓WS_bk, ↓WS_exn, ↓WS_seq, ↓WS_nil, ↓WS_retN, ↓WS_break, ↓WS_cont, ↓WS_expr, ↓WS_ret, ↓WS_if, ↓WS_set, ↓WS_par, ↓WS_asg, ↓WS_gSet, ↓WS_gN, ↓WS_gC, ↓WS_gUn, ↓WS_gSub, ↓WS_aug, ↓o_add, ↓o_iadd, ↓o_sub, ↓o_neg, ↓o_mul, ↓o_mod, ↓o_div, ↓o_pow, ↓o_addT, ↓o_addS, ↓o_addL, ↓o_lt, ↓o_le, ↓o_gt, ↓o_ge, ↓o_eq, ↓o_ne, ↓o_eqS, ↓o_neS, ↓o_eqB, ↓o_neB, ↓o_eqT, ↓o_neT, ↓o_eqN, ↓o_neN, ↓o_ltT, ↓o_leT, ↓o_is, ↓o_isnot, ↓o_isB, ↓o_isnotB, ↓o_inT, ↓o_ninT, ↓o_inL, ↓o_ninL, ↓o_ixT, ↓o_ixR, ↓o_ixL, ↓o_ixS, ↓o_str, ↓o_strS, ↓o_set, ↓o_lenT, ↓o_lenR, ↓o_lenL, ↓o_lenS, ↓o_int, ↓o_intT, ↓o_intF, ↓o_abs, ↓o_max, ↓o_min, ↓o_tuple, ↓o_list, ↓o_tup0, ↓o_tup1, ↓o_tup2, ↓o_tup3, ↓o_tup4, ↓o_tup5, ↓o_tup6, ↓o_lst0, ↓o_lst1, ↓o_lst2, ↓o_lst3, ↓o_lst4, ↓o_lst5, ↓o_lst6, ↓o_sum, ↓W_meth, ↓o_append, ↓o_extend, ↓o_popAt, ↓W_cut, ↓W_noPart, ↓W_part, ↓o_cutT, ↓o_cutR, ↓o_cutL, ↓W_isi, ↓W_ch, ↓WS_for, ↓WI_iter, ↓WI_range1, ↓WI_range2, ↓WI_range3, ↓WI_enum, ↓WS_f0, ↓WS_f1, ↓W_alloc, ↓W_ofL, ↓W_comp, ↓WB_yes, ↓W_c0, ↓W_c1, ↓W_listRg, ↓W_tupRg, ↓W_rRange1, ↓W_rRange2, o_intT, o_intF, o_intB, o_ixL, o_ixT, beq_self_eq_true, decide_true, decide_false, okEq, okCmp, okIn, D.fits, D.fitsL, D.dep, D.depL, D.eqv, D.eqvL, D.alike, D.alikeL, isBl_bl, isN_non, isN_bl, isN_int, isN_str, isN_tup, isN_rol, isN_loc, Nat.reduceAdd, Nat.reduceSub, Nat.max_self, Nat.min_self, Nat.max_zero, Nat.zero_max, Nat.min_zero, Nat.zero_min, ty_non, ty_bl, ty_int, ty_str, ty_tup, ty_rol, ty_loc, kb_bool_bool, kb_bool_int, kb_bool_str, kb_bool_tuple, kb_bool_list, kb_int_bool, kb_int_int, kb_int_str, kb_int_tuple, kb_int_list, kb_str_bool, kb_str_int, kb_str_str, kb_str_tuple, kb_str_list, kb_tuple_bool, kb_tuple_int, kb_tuple_str, kb_tuple_tuple, kb_tuple_list, kb_list_bool, kb_list_int, kb_list_str, kb_list_tuple, kb_list_list, kb_NoneType_bool, kb_NoneType_int, kb_NoneType_str, kb_NoneType_tuple, kb_NoneType_list, Nat.zero_add, c02, lstAt_setE, Option.map_some, lstAt_set_ne, ne_eq, Nat.reduceEqDiff, Nat.one_ne_zero, Nat.zero_ne_one, ix_1_0, ix_2_0, ix_2_1, ix_3_0, ix_3_1, ix_3_2, ix_4_0, ix_4_1, ix_4_2, ix_4_3, ix_5_0, ix_5_1, ix_5_2, ix_5_3, ix_5_4, ix_6_0, ix_6_1, ix_6_2, ix_6_3, ix_6_4, ix_6_5, Nat.reduceLeDiff, Int.reduceAdd, Int.reduceSub, Int.reduceMul, Int.reduceNeg, Int.reducePow, Int.reduceLT, Int.reduceLE, Int.reduceEq, Int.reduceToNat, Bool.and_true, Bool.true_and, Bool.and_self, Bool.and_false, Bool.false_and, Bool.and_eq_true, Bool.and_eq_false_imp, and_self, WS_qdn, WS_qdr, WS_qde, WS_qdb, WS_qdc, qn1, qn2, qn3, qn4, qn5, qk1, qk5, lq1, lq2, lq3, lq4, lq5, intD_int, items_tup, items_rol, items_loc, listOf_loc, listOf_rol, isL_loc, at0, at1, at2, at3, at4, at5, atl1, atl2, atl3, atl4, lstAt_new, it_tup, it_rol, kTup_eq, kLen_eq, wipe0, wipe1, b_nm, List.set_cons_zero, List.set_cons_succ, List.length_cons, List.length_nil, List.nil_append, List.cons_append, List.append_nil, List.isEmpty_cons, List.isEmpty_nil, true_and, and_true, false_and, and_false, true_implies, forall_const, not_true_eq_false, not_false_eq_true, implies_true, decide_eq_true_eq, decide_eq_false_iff_not, Bool.not_eq_true', Bool.not_eq_false', Bool.not_true, Bool.not_false, if_true, if_false, Bool.false_eq_true, Bool.true_eq_false, reduceCtorEq, false_implies, eq_self]
    refine sort_rules hL1 fun rs' hm _ hl' => ?_
    simp only [↓reduceIte, ↓W_ok, ↓W_exn, ↓W_var0, ↓W_varS, ↓W_K, ↓W_bin, ↓W_un, ↓W_aNil, ↓W_aCons, ↓W_arg, ↓W_call, ↓W_of, ↓WB_test, ↓tc_bl, ↓WB_tru, ↓trc, ↓WB_and, ↓WB_or, ↓WB_not, ↓W_if, ↓W_andV, ↓W_orV, ↓W_notV, ↓WM_some, ↓WM_none, ↓WO_some, ↓tr_bl, ↓tr_non, ↓tr_int, ↓tr_tup, ↓tr_rol, ↓WS_nx, ↓WS_rt, ↓WS_ct, ↓WS_bk, ↓WS_exn, ↓WS_seq, ↓WS_nil, ↓WS_retN, ↓WS_break, ↓WS_cont, ↓WS_expr, ↓WS_ret, ↓WS_if, ↓WS_set, ↓WS_par, ↓WS_asg, ↓WS_gSet, ↓WS_gN, ↓WS_gC, ↓WS_gUn, ↓WS_gSub, ↓WS_aug, ↓o_add, ↓o_iadd, ↓o_sub, ↓o_neg, ↓o_mul, ↓o_mod, ↓o_div, ↓o_pow, ↓o_addT, ↓o_addS, ↓o_addL, ↓o_lt, ↓o_le, ↓o_gt, ↓o_ge, ↓o_eq, ↓o_ne, ↓o_eqS, ↓o_neS, ↓o_eqB, ↓o_neB, ↓o_eqT, ↓o_neT, ↓o_eqN, ↓o_neN, ↓o_ltT, ↓o_leT, ↓o_is, ↓o_isnot, ↓o_isB, ↓o_isnotB, ↓o_inT, ↓o_ninT, ↓o_inL, ↓o_ninL, ↓o_ixT, ↓o_ixR, ↓o_ixL, ↓o_ixS, ↓o_str, ↓o_strS, ↓o_set, ↓o_lenT, ↓o_lenR, ↓o_lenL, ↓o_lenS, ↓o_int, ↓o_intT, ↓o_intF, ↓o_abs, ↓o_max, ↓o_min, ↓o_tuple, ↓o_list, ↓o_tup0, ↓o_tup1, ↓o_tup2, ↓o_tup3, ↓o_tup4, ↓o_tup5, ↓o_tup6, ↓o_lst0, ↓o_lst1, ↓o_lst2, ↓o_lst3, ↓o_lst4, ↓o_lst5, ↓o_lst6, ↓o_sum, ↓W_meth, ↓o_append, ↓o_extend, ↓o_popAt, ↓W_cut, ↓W_noPart, ↓W_part, ↓o_cutT, ↓o_cutR, ↓o_cutL, ↓W_isi, ↓W_ch, ↓WS_for, ↓WI_iter, ↓WI_range1, ↓WI_range2, ↓WI_range3, ↓WI_enum, ↓WS_f0, ↓WS_f1, ↓W_alloc, ↓W_ofL, ↓W_comp, ↓WB_yes, ↓W_c0, ↓W_c1, ↓W_listRg, ↓W_tupRg, ↓W_rRange1, ↓W_rRange2, o_intT, o_intF, o_intB, o_ixL, o_ixT, beq_self_eq_true, decide_true, decide_false, okEq, okCmp, okIn, D.fits, D.fitsL, D.dep, D.depL, D.eqv, D.eqvL, D.alike, D.alikeL, isBl_bl, isN_non, isN_bl, isN_int, isN_str, isN_tup, isN_rol, isN_loc, Nat.reduceAdd, Nat.reduceSub, Nat.max_self, Nat.min_self, Nat.max_zero, Nat.zero_max, Nat.min_zero, Nat.zero_min, ty_non, ty_bl, ty_int, ty_str, ty_tup, ty_rol, ty_loc, kb_bool_bool, kb_bool_int, kb_bool_str, kb_bool_tuple, kb_bool_list, kb_int_bool, kb_int_int, kb_int_str, kb_int_tuple, kb_int_list, kb_str_bool, kb_str_int, kb_str_str, kb_str_tuple, kb_str_list, kb_tuple_bool, kb_tuple_int, kb_tuple_str, kb_tuple_tuple, kb_tuple_list, kb_list_bool, kb_list_int, kb_list_str, kb_list_tuple, kb_list_list, kb_NoneType_bool, kb_NoneType_int, kb_NoneType_str, kb_NoneType_tuple, kb_NoneType_list, Nat.zero_add, c02, lstAt_setE, Option.map_some, lstAt_set_ne, ne_eq, Nat.reduceEqDiff, Nat.one_ne_zero, Nat.zero_ne_one, ix_1_0, ix_2_0, ix_2_1, ix_3_0, ix_3_1, ix_3_2, ix_4_0, ix_4_1, ix_4_2, ix_4_3, ix_5_0, ix_5_1, ix_5_2, ix_5_3, ix_5_4, ix_6_0, ix_6_1, ix_6_2, ix_6_3, ix_6_4, ix_6_5, Nat.reduceLeDiff, Int.reduceAdd, Int.reduceSub, Int.reduceMul, Int.reduceNeg, Int.reducePow, Int.reduceLT, Int.reduceLE, Int.reduceEq, Int.reduceToNat, Bool.and_true, Bool.true_and, Bool.and_self, Bool.and_false, Bool.false_and, Bool.and_eq_true, Bool.and_eq_false_imp, and_self, WS_qdn, WS_qdr, WS_qde, WS_qdb, WS_qdc, qn1, qn2, qn3, qn4, qn5, qk1, qk5, lq1, lq2, lq3, lq4, lq5, intD_int, items_tup, items_rol, items_loc, listOf_loc, listOf_rol, isL_loc, at0, at1, at2, at3, at4, at5, atl1, atl2, atl3, atl4, lstAt_new, it_tup, it_rol, kTup_eq, kLen_eq, wipe0, wipe1, b_nm, List.set_cons_zero, List.set_cons_succ, List.length_cons, List.length_nil, List.nil_append, List.cons_append, List.append_nil, List.isEmpty_cons, List.isEmpty_nil, true_and, and_true, false_and, and_false, true_implies, forall_const, not_true_eq_false, not_false_eq_true, implies_true, decide_eq_true_eq, decide_eq_false_iff_not, Bool.not_eq_true', Bool.not_eq_false', Bool.not_true, Bool.not_false, if_true, if_false, Bool.false_eq_true, Bool.true_eq_false, reduceCtorEq, false_implies, eq_self]
    exact h rs' _ (by omega) (fun r hr => h3 r (hm r hr)) (hF1.app _) (F1.app _)
  simp only [↓reduceIte, ↓W_ok, ↓W_exn, ↓W_var0, ↓W_varS, ↓W_K, ↓W_bin, ↓W_un, ↓W_aNil, ↓W_aCons, ↓W_arg, ↓W_call, ↓W_of, ↓WB_test, ↓tc_bl, ↓WB_tru, ↓trc, ↓WB_and, ↓WB_or, ↓WB_not, ↓W_if, ↓W_andV, ↓W_orV, ↓W_notV, ↓WM_some, ↓WM_none, ↓WO_some, ↓tr_bl, ↓tr_non, ↓tr_int, ↓tr_tup, ↓tr_rol, ↓WS_nx, ↓WS_rt, ↓WS_ct, ↓WS_bk, ↓WS_exn, ↓WS_seq, ↓WS_nil, ↓WS_retN, ↓WS_break, ↓WS_cont, ↓WS_expr, ↓WS_if, ↓WS_set, ↓WS_par, ↓WS_asg, ↓WS_gSet, ↓WS_gN, ↓WS_gC, ↓WS_gUn, ↓WS_gSub, ↓WS_aug, ↓o_add, ↓o_iadd, ↓o_sub, ↓o_neg, ↓o_mul, ↓o_mod, ↓o_div, ↓o_pow, ↓o_addT, ↓o_addS, ↓o_addL, ↓o_lt, ↓o_le, ↓o_gt, ↓o_ge, ↓o_eq, ↓o_ne, ↓o_eqS, ↓o_neS, ↓o_eqB, ↓o_neB, ↓o_eqT, ↓o_neT, ↓o_eqN, ↓o_neN, ↓o_ltT, ↓o_leT, ↓o_is, ↓o_isnot, ↓o_isB, ↓o_isnotB, ↓o_inT, ↓o_ninT, ↓o_inL, ↓o_ninL, ↓o_ixT, ↓o_ixR, ↓o_ixL, ↓o_ixS, ↓o_str, ↓o_strS, ↓o_set, ↓o_lenT, ↓o_lenR, ↓o_lenL, ↓o_lenS, ↓o_int, ↓o_intT, ↓o_intF, ↓o_abs, ↓o_max, ↓o_min, ↓o_tuple, ↓o_list, ↓o_tup0, ↓o_tup1, ↓o_tup2, ↓o_tup3, ↓o_tup4, ↓o_tup5, ↓o_tup6, ↓o_lst0, ↓o_lst1, ↓o_lst2, ↓o_lst3, ↓o_lst4, ↓o_lst5, ↓o_lst6, ↓o_sum, ↓W_meth, ↓o_append, ↓o_extend, ↓o_popAt, ↓W_cut, ↓W_noPart, ↓W_part, ↓o_cutT, ↓o_cutR, ↓o_cutL, ↓W_isi, ↓W_ch, ↓WS_for, ↓WI_iter, ↓WI_range1, ↓WI_range2, ↓WI_range3, ↓WI_enum, ↓WS_f0, ↓WS_f1, ↓W_alloc, ↓W_ofL, ↓W_comp, ↓WB_yes, ↓W_c0, ↓W_c1, ↓W_listRg, ↓W_tupRg, ↓W_rRange1, ↓W_rRange2, o_intT, o_intF, o_intB, o_ixL, o_ixT, beq_self_eq_true, decide_true, decide_false, okEq, okCmp, okIn, D.fits, D.fitsL, D.dep, D.depL, D.eqv, D.eqvL, D.alike, D.alikeL, isBl_bl, isN_non, isN_bl, isN_int, isN_str, isN_tup, isN_rol, isN_loc, Nat.reduceAdd, Nat.reduceSub, Nat.max_self, Nat.min_self, Nat.max_zero, Nat.zero_max, Nat.min_zero, Nat.zero_min, ty_non, ty_bl, ty_int, ty_str, ty_tup, ty_rol, ty_loc, kb_bool_bool, kb_bool_int, kb_bool_str, kb_bool_tuple, kb_bool_list, kb_int_bool, kb_int_int, kb_int_str, kb_int_tuple, kb_int_list, kb_str_bool, kb_str_int, kb_str_str, kb_str_tuple, kb_str_list, kb_tuple_bool, kb_tuple_int, kb_tuple_str, kb_tuple_tuple, kb_tuple_list, kb_list_bool, kb_list_int, kb_list_str, kb_list_tuple, kb_list_list, kb_NoneType_bool, kb_NoneType_int, kb_NoneType_str, kb_NoneType_tuple, kb_NoneType_list, Nat.zero_add, c02, lstAt_setE, Option.map_some, lstAt_set_ne, ne_eq, Nat.reduceEqDiff, Nat.one_ne_zero, Nat.zero_ne_one, ix_1_0, ix_2_0, ix_2_1, ix_3_0, ix_3_1, ix_3_2, ix_4_0, ix_4_1, ix_4_2, ix_4_3, ix_5_0, ix_5_1, ix_5_2, ix_5_3, ix_5_4, ix_6_0, ix_6_1, ix_6_2, ix_6_3, ix_6_4, ix_6_5, Nat.reduceLeDiff, Int.reduceAdd, Int.reduceSub, Int.reduceMul, Int.reduceNeg, Int.reducePow, Int.reduceLT, Int.reduceLE, Int.reduceEq, Int.reduceToNat, Bool.and_true, Bool.true_and, Bool.and_self, Bool.and_false, Bool.false_and, Bool.and_eq_true, Bool.and_eq_false_imp, and_self, WS_qdn, WS_qdr, WS_qde, WS_qdb, WS_qdc, qn1, qn2, qn3, qn4, qn5, qk1, qk5, lq1, lq2, lq3, lq4, lq5, intD_int, items_tup, items_rol, items_loc, listOf_loc, listOf_rol, isL_loc, at0, at1, at2, at3, at4, at5, atl1, atl2, atl3, atl4, lstAt_new, it_tup, it_rol, kTup_eq, kLen_eq, wipe0, wipe1, b_nm, List.set_cons_zero, List.set_cons_succ, List.length_cons, List.length_nil, List.nil_append, List.cons_append, List.append_nil, List.isEmpty_cons, List.isEmpty_nil, true_and, and_true, false_and, and_false, true_implies, forall_const, not_true_eq_false, not_false_eq_true, implies_true, decide_eq_true_eq, decide_eq_false_iff_not, Bool.not_eq_true', Bool.not_eq_false', Bool.not_true, Bool.not_false, if_true, if_false, Bool.false_eq_true, Bool.true_eq_false, reduceCtorEq, false_implies, eq_self, wm__law_rules, b__law_rules, lstAt_app hL]
  refine ⟨fun hpos => ?_, fun _ => end_ [] _ (by simpa using hm0) (fun r hr => by simp at hr) (hF.app _) ((Fr.refl _).app _) lstAt_new _ _ _ _⟩
  refine draw_w (hF.app _) (by omega) fun k S1 k0 k1 hF1 F1 => ?_
  have hL1 := F1.lst h2 (lstAt_app hL)
  have F01 : Fr S S1 := ((Fr.refl _).app _).trans F1
  simp only [↓reduceIte, ↓W_ok, ↓W_exn, ↓W_var0, ↓W_varS, ↓W_K, ↓W_bin, ↓W_un, ↓W_aNil, ↓W_aCons, ↓W_arg, ↓W_call, ↓W_of, ↓WB_test, ↓tc_bl, ↓WB_tru, ↓trc, ↓WB_and, ↓WB_or, ↓WB_not, ↓W_if, ↓W_andV, ↓W_orV, ↓W_notV, ↓WM_some, ↓WM_none, ↓WO_some, ↓tr_bl, ↓tr_non, ↓tr_int, ↓tr_tup, ↓tr_rol, ↓WS_nx, ↓WS_rt, ↓WS_ct, ↓WS_bk, ↓WS_exn, ↓WS_seq, ↓WS_nil, ↓WS_retN, ↓WS_break, ↓WS_cont, ↓WS_expr, ↓WS_if, ↓WS_set, ↓WS_par, ↓WS_asg, ↓WS_gSet, ↓WS_gN, ↓WS_gC, ↓WS_gUn, ↓WS_gSub, ↓WS_aug, ↓o_add, ↓o_iadd, ↓o_sub, ↓o_neg, ↓o_mul, ↓o_mod, ↓o_div, ↓o_pow, ↓o_addT, ↓o_addS, ↓o_addL, ↓o_lt, ↓o_le, ↓o_gt, ↓o_ge, ↓o_eq, ↓o_ne, ↓o_eqS, ↓o_neS, ↓o_eqB, ↓o_neB, ↓o_eqT, ↓o_neT, ↓o_eqN, ↓o_neN, ↓o_ltT, ↓o_leT, ↓o_is, ↓o_isnot, ↓o_isB, ↓o_isnotB, ↓o_inT, ↓o_ninT, ↓o_inL, ↓o_ninL, ↓o_ixT, ↓o_ixR, ↓o_ixL, ↓o_ixS, ↓o_str, ↓o_strS, ↓o_set, ↓o_lenT, ↓o_lenR, ↓o_lenL, ↓o_lenS, ↓o_int, ↓o_intT, ↓o_intF, ↓o_abs, ↓o_max, ↓o_min, ↓o_tuple, ↓o_list, ↓o_tup0, ↓o_tup1, ↓o_tup2, ↓o_tup3, ↓o_tup4, ↓o_tup5, ↓o_tup6, ↓o_lst0, ↓o_lst1, ↓o_lst2, ↓o_lst3, ↓o_lst4, ↓o_lst5, ↓o_lst6, ↓o_sum, ↓W_meth, ↓o_append, ↓o_extend, ↓o_popAt, ↓W_cut, ↓W_noPart, ↓W_part, ↓o_cutT, ↓o_cutR, ↓o_cutL, ↓W_isi, ↓W_ch, ↓WS_for, ↓WI_iter, ↓WI_range1, ↓WI_range2, ↓WI_range3, ↓WI_enum, ↓WS_f0, ↓WS_f1, ↓W_alloc, ↓W_ofL, ↓W_comp, ↓WB_yes, ↓W_c0, ↓W_c1, ↓W_listRg, ↓W_tupRg, ↓W_rRange1, ↓W_rRange2, o_intT, o_intF, o_intB, o_ixL, o_ixT, beq_self_eq_true, decide_true, decide_false, okEq, okCmp, okIn, D.fits, D.fitsL, D.dep, D.depL, D.eqv, D.eqvL, D.alike, D.alikeL, isBl_bl, isN_non, isN_bl, isN_int, isN_str, isN_tup, isN_rol, isN_loc, Nat.reduceAdd, Nat.reduceSub, Nat.max_self, Nat.min_self, Nat.max_zero, Nat.zero_max, Nat.min_zero, Nat.zero_min, ty_non, ty_bl, ty_int, ty_str, ty_tup, ty_rol, ty_loc, kb_bool_bool, kb_bool_int, kb_bool_str, kb_bool_tuple, kb_bool_list, kb_int_bool, kb_int_int, kb_int_str, kb_int_tuple, kb_int_list, kb_str_bool, kb_str_int, kb_str_str, kb_str_tuple, kb_str_list, kb_tuple_bool, kb_tuple_int, kb_tuple_str, kb_tuple_tuple, kb_tuple_list, kb_list_bool, kb_list_int, kb_list_str, kb_list_tuple, kb_list_list, kb_NoneType_bool, kb_NoneType_int, kb_NoneType_str, kb_NoneType_tuple, kb_NoneType_list, Nat.zero_add, c02, lstAt_setE, Option.map_some, lstAt_set_ne, ne_eq, Nat.reduceEqDiff, Nat.one_ne_zero, Nat.zero_ne_one, ix_1_0, ix_2_0, ix_2_1, ix_3_0, ix_3_1, ix_3_2, ix_4_0, ix_4_1, ix_4_2, ix_4_3, ix_5_0, ix_5_1, ix_5_2, ix_5_3, ix_5_4, ix_6_0, ix_6_1, ix_6_2, ix_6_3, ix_6_4, ix_6_5, Nat.reduceLeDiff, Int.reduceAdd, Int.reduceSub, Int.reduceMul, Int.reduceNeg, Int.reducePow, Int.reduceLT, Int.reduceLE, Int.reduceEq, Int.reduceToNat, Bool.and_true, Bool.true_and, Bool.and_self, Bool.and_false, Bool.false_and, Bool.and_eq_true, Bool.and_eq_false_imp, and_self, WS_qdn, WS_qdr, WS_qde, WS_qdb, WS_qdc, qn1, qn2, qn3, qn4, qn5, qk1, qk5, lq1, lq2, lq3, lq4, lq5, intD_int, items_tup, items_rol, items_loc, listOf_loc, listOf_rol, isL_loc, at0, at1, at2, at3, at4, at5, atl1, atl2, atl3, atl4, lstAt_new, it_tup, it_rol, kTup_eq, kLen_eq, wipe0, wipe1, b_nm, List.set_cons_zero, List.set_cons_succ, List.length_cons, List.length_nil, List.nil_append, List.cons_append, List.append_nil, List.isEmpty_cons, List.isEmpty_nil, true_and, and_true, false_and, and_false, true_implies, forall_const, not_true_eq_false, not_false_eq_true, implies_true, decide_eq_true_eq, decide_eq_false_iff_not, Bool.not_eq_true', Bool.not_eq_false', Bool.not_true, Bool.not_false, if_true, if_false, Bool.false_eq_true, Bool.true_eq_false, reduceCtorEq, false_implies, eq_self]
  refine ⟨by constructor <;> omega, ?_⟩
  refine WS_rloop (fun i σ S' => FeedOk S' ∧ Fr S S' ∧ ∃ (rs : List (Sy × Sy)) (a b c d : Option D), σ = [some (.loc 1), some (.loc l), some (.int most), some (.loc S.length), a, b, c, d] ∧ (rs.length : Int) ≤ i ∧ RsOk rs fs.length ∧ lstAt S' S.length = some (rs.map rp)) ⟨hF1, F01, [], _, _, _, _, rfl, by simp, fun r hr => by simp at hr, F1.lst g2 lstAt_new⟩ ?_ ?_
  · rintro i σ S2 i0 i1 ⟨hF2, F2, rs, a, b, c, d, rfl, hrl, hrs, hR⟩
    simp only [↓reduceIte, ↓W_ok, ↓W_exn, ↓W_var0, ↓W_varS, ↓W_K, ↓W_bin, ↓W_un, ↓W_aNil, ↓W_aCons, ↓W_arg, ↓W_call, ↓W_of, ↓WB_test, ↓tc_bl, ↓WB_tru, ↓trc, ↓WB_and, ↓WB_or, ↓WB_not, ↓W_if, ↓W_andV, ↓W_orV, ↓W_notV, ↓WM_some, ↓WM_none, ↓WO_some, ↓tr_bl, ↓tr_non, ↓tr_int, ↓tr_tup, ↓tr_rol, ↓WS_nx, ↓WS_rt, ↓WS_ct, ↓WS_bk, ↓WS_exn, ↓WS_seq, ↓WS_nil, ↓WS_retN, ↓WS_break, ↓WS_cont, ↓WS_expr, ↓WS_ret, ↓WS_if, ↓WS_set, ↓WS_par, ↓WS_asg, ↓WS_gSet, ↓WS_gN, ↓WS_gC, ↓WS_gUn, ↓WS_gSub, ↓WS_aug, ↓o_add, ↓o_iadd, ↓o_sub, ↓o_neg, ↓o_mul, ↓o_mod, ↓o_div, ↓o_pow, ↓o_addT, ↓o_addS, ↓o_addL, ↓o_lt, ↓o_le, ↓o_gt, ↓o_ge, ↓o_eq, ↓o_ne, ↓o_eqS, ↓o_neS, ↓o_eqB, ↓o_neB, ↓o_eqT, ↓o_neT, ↓o_eqN, ↓o_neN, ↓o_ltT, ↓o_leT, ↓o_is, ↓o_isnot, ↓o_isB, ↓o_isnotB, ↓o_inT, ↓o_ninT, ↓o_inL, ↓o_ninL, ↓o_ixT, ↓o_ixR, ↓o_ixL, ↓o_ixS, ↓o_str, ↓o_strS, ↓o_set, ↓o_lenT, ↓o_lenR, ↓o_lenL, ↓o_lenS, ↓o_int, ↓o_intT, ↓o_intF, ↓o_abs, ↓o_max, ↓o_min, ↓o_tuple, ↓o_list, ↓o_tup0, ↓o_tup1, ↓o_tup2, ↓o_tup3, ↓o_tup4, ↓o_tup5, ↓o_tup6, ↓o_lst0, ↓o_lst1, ↓o_lst2, ↓o_lst3, ↓o_lst4, ↓o_lst5, ↓o_lst6, ↓o_sum, ↓W_meth, ↓o_append, ↓o_extend, ↓o_popAt, ↓W_cut, ↓W_noPart, ↓W_part, ↓o_cutT, ↓o_cutR, ↓o_cutL, ↓W_isi, ↓W_ch, ↓WS_for, ↓WI_iter, ↓WI_range1, ↓WI_range2, ↓WI_range3, ↓WI_enum, ↓WS_f0, ↓WS_f1, ↓W_alloc, ↓W_ofL, ↓W_comp, ↓WB_yes, ↓W_c0, ↓W_c1, ↓W_listRg, ↓W_tupRg, ↓W_rRange1, ↓W_rRange2, o_intT, o_intF, o_intB, o_ixL, o_ixT, beq_self_eq_true, decide_true, decide_false, okEq, okCmp, okIn, D.fits, D.fitsL, D.dep, D.depL, D.eqv, D.eqvL, D.alike, D.alikeL, isBl_bl, isN_non, isN_bl, isN_int, isN_str, isN_tup, isN_rol, isN_loc, Nat.reduceAdd, Nat.reduceSub, Nat.max_self, Nat.min_self, Nat.max_zero, Nat.zero_max, Nat.min_zero, Nat.zero_min, ty_non, ty_bl, ty_int, ty_str, ty_tup, ty_rol, ty_loc, kb_bool_bool, kb_bool_int, kb_bool_str, kb_bool_tuple, kb_bool_list, kb_int_bool, kb_int_int, kb_int_str, kb_int_tuple, kb_int_list, kb_str_bool, kb_str_int, kb_str_str, kb_str_tuple, kb_str_list, kb_tuple_bool, kb_tuple_int, kb_tuple_str, kb_tuple_tuple, kb_tuple_list, kb_list_bool, kb_list_int, kb_list_str, kb_list_tuple, kb_list_list, kb_NoneType_bool, kb_NoneType_int, kb_NoneType_str, kb_NoneType_tuple, kb_NoneType_list, Nat.zero_add, c02, lstAt_setE, Option.map_some, lstAt_set_ne, ne_eq, Nat.reduceEqDiff, Nat.one_ne_zero, Nat.zero_ne_one, ix_1_0, ix_2_0, ix_2_1, ix_3_0, ix_3_1, ix_3_2, ix_4_0, ix_4_1, ix_4_2, ix_4_3, ix_5_0, ix_5_1, ix_5_2, ix_5_3, ix_5_4, ix_6_0, ix_6_1, ix_6_2, ix_6_3, ix_6_4, ix_6_5, Nat.reduceLeDiff, Int.reduceAdd, Int.reduceSub, Int.reduceMul, Int.reduceNeg, Int.reducePow, Int.reduceLT, Int.reduceLE, Int.reduceEq, Int.reduceToNat, Bool.and_true, Bool.true_and, Bool.and_self, Bool.and_false, Bool.false_and, Bool.and_eq_true, Bool.and_eq_false_imp, and_self, WS_qdn, WS_qdr, WS_qde, WS_qdb, WS_qdc, qn1, qn2, qn3, qn4, qn5, qk1, qk5, lq1, lq2, lq3, lq4, lq5, intD_int, items_tup, items_rol, items_loc, listOf_loc, listOf_rol, isL_loc, at0, at1, at2, at3, at4, at5, atl1, atl2, atl3, atl4, lstAt_new, it_tup, it_rol, kTup_eq, kLen_eq, wipe0, wipe1, b_nm, List.set_cons_zero, List.set_cons_succ, List.length_cons, List.length_nil, List.nil_append, List.cons_append, List.append_nil, List.isEmpty_cons, List.isEmpty_nil, true_and, and_true, false_and, and_false, true_implies, forall_const, not_true_eq_false, not_false_eq_true, implies_true, decide_eq_true_eq, decide_eq_false_iff_not, Bool.not_eq_true', Bool.not_eq_false', Bool.not_true, Bool.not_false, if_true, if_false, Bool.false_eq_true, Bool.true_eq_false, reduceCtorEq, false_implies, eq_self, F2.lst h2 hL]
    refine draw_w hF2 (by omega) fun u S3 u0 u1 hF3 F3 => ?_
    have hL3 := (F2.trans F3).lst h2 hL
    simp only [↓reduceIte, ↓W_ok, ↓W_exn, ↓W_var0, ↓W_varS, ↓W_K, ↓W_bin, ↓W_un, ↓W_aNil, ↓W_aCons, ↓W_arg, ↓W_call, ↓W_of, ↓WB_test, ↓tc_bl, ↓WB_tru, ↓trc, ↓WB_and, ↓WB_or, ↓WB_not, ↓W_if, ↓W_andV, ↓W_orV, ↓W_notV, ↓WM_some, ↓WM_none, ↓WO_some, ↓tr_bl, ↓tr_non, ↓tr_int, ↓tr_tup, ↓tr_rol, ↓WS_nx, ↓WS_rt, ↓WS_ct, ↓WS_bk, ↓WS_exn, ↓WS_seq, ↓WS_nil, ↓WS_retN, ↓WS_break, ↓WS_cont, ↓WS_expr, ↓WS_ret, ↓WS_if, ↓WS_set, ↓WS_par, ↓WS_asg, ↓WS_gSet, ↓WS_gN, ↓WS_gC, ↓WS_gUn, ↓WS_gSub, ↓WS_aug, ↓o_add, ↓o_iadd, ↓o_sub, ↓o_neg, ↓o_mul, ↓o_mod, ↓o_div, ↓o_pow, ↓o_addT, ↓o_addS, ↓o_addL, ↓o_lt, ↓o_le, ↓o_gt, ↓o_ge, ↓o_eq, ↓o_ne, ↓o_eqS, ↓o_neS, ↓o_eqB, ↓o_neB, ↓o_eqT, ↓o_neT, ↓o_eqN, ↓o_neN, ↓o_ltT, ↓o_leT, ↓o_is, ↓o_isnot, ↓o_isB, ↓o_isnotB, ↓o_inT, ↓o_ninT, ↓o_inL, ↓o_ninL, ↓o_ixT, ↓o_ixR, ↓o_ixL, ↓o_ixS, ↓o_str, ↓o_strS, ↓o_set, ↓o_lenT, ↓o_lenR, ↓o_lenL, ↓o_lenS, ↓o_int, ↓o_intT, ↓o_intF, ↓o_abs, ↓o_max, ↓o_min, ↓o_tuple, ↓o_list, ↓o_tup0, ↓o_tup1, ↓o_tup2, ↓o_tup3, ↓o_tup4, ↓o_tup5, ↓o_tup6, ↓o_lst0, ↓o_lst1, ↓o_lst2, ↓o_lst3, ↓o_lst4, ↓o_lst5, ↓o_lst6, ↓o_sum, ↓W_meth, ↓o_append, ↓o_extend, ↓o_popAt, ↓W_cut, ↓W_noPart, ↓W_part, ↓o_cutT, ↓o_cutR, ↓o_cutL, ↓W_isi, ↓W_ch, ↓WS_for, ↓WI_iter, ↓WI_range1, ↓WI_range2, ↓WI_range3, ↓WI_enum, ↓WS_f0, ↓WS_f1, ↓W_alloc, ↓W_ofL, ↓W_comp, ↓WB_yes, ↓W_c0, ↓W_c1, ↓W_listRg, ↓W_tupRg, ↓W_rRange1, ↓W_rRange2, o_intT, o_intF, o_intB, o_ixL, o_ixT, beq_self_eq_true, decide_true, decide_false, okEq, okCmp, okIn, D.fits, D.fitsL, D.dep, D.depL, D.eqv, D.eqvL, D.alike, D.alikeL, isBl_bl, isN_non, isN_bl, isN_int, isN_str, isN_tup, isN_rol, isN_loc, Nat.reduceAdd, Nat.reduceSub, Nat.max_self, Nat.min_self, Nat.max_zero, Nat.zero_max, Nat.min_zero, Nat.zero_min, ty_non, ty_bl, ty_int, ty_str, ty_tup, ty_rol, ty_loc, kb_bool_bool, kb_bool_int, kb_bool_str, kb_bool_tuple, kb_bool_list, kb_int_bool, kb_int_int, kb_int_str, kb_int_tuple, kb_int_list, kb_str_bool, kb_str_int, kb_str_str, kb_str_tuple, kb_str_list, kb_tuple_bool, kb_tuple_int, kb_tuple_str, kb_tuple_tuple, kb_tuple_list, kb_list_bool, kb_list_int, kb_list_str, kb_list_tuple, kb_list_list, kb_NoneType_bool, kb_NoneType_int, kb_NoneType_str, kb_NoneType_tuple, kb_NoneType_list, Nat.zero_add, c02, lstAt_setE, Option.map_some, lstAt_set_ne, ne_eq, Nat.reduceEqDiff, Nat.one_ne_zero, Nat.zero_ne_one, ix_1_0, ix_2_0, ix_2_1, ix_3_0, ix_3_1, ix_3_2, ix_4_0, ix_4_1, ix_4_2, ix_4_3, ix_5_0, ix_5_1, ix_5_2, ix_5_3, ix_5_4, ix_6_0, ix_6_1, ix_6_2, ix_6_3, ix_6_4, ix_6_5, Nat.reduceLeDiff, Int.reduceAdd, Int.reduceSub, Int.reduceMul, Int.reduceNeg, Int.reducePow, Int.reduceLT, Int.reduceLE, Int.reduceEq, Int.reduceToNat, Bool.and_true, Bool.true_and, Bool.and_self, Bool.and_false, Bool.false_and, Bool.and_eq_true, Bool.and_eq_false_imp, and_self, WS_qdn, WS_qdr, WS_qde, WS_qdb, WS_qdc, qn1, qn2, qn3, qn4, qn5, qk1, qk5, lq1, lq2, lq3, lq4, lq5, intD_int, items_tup, items_rol, items_loc, listOf_loc, listOf_rol, isL_loc, at0, at1, at2, at3, at4, at5, atl1, atl2, atl3, atl4, lstAt_new, it_tup, it_rol, kTup_eq, kLen_eq, wipe0, wipe1, b_nm, List.set_cons_zero, List.set_cons_succ, List.length_cons, List.length_nil, List.nil_append, List.cons_append, List.append_nil, List.isEmpty_cons, List.isEmpty_nil, true_and, and_true, false_and, and_false, true_implies, forall_const, not_true_eq_false, not_false_eq_true, implies_true, decide_eq_true_eq, decide_eq_false_iff_not, Bool.not_eq_true', Bool.not_eq_false', Bool.not_true, Bool.not_false, if_true, if_false, Bool.false_eq_true, Bool.true_eq_false, reduceCtorEq, false_implies, eq_self, hL3]
    refine WM_at u0 u1 fun y hy => ?_
    obtain ⟨s, rfl, hs⟩ := say_at hy
    simp only [↓reduceIte, ↓W_ok, ↓W_exn, ↓W_var0, ↓W_varS, ↓W_K, ↓W_bin, ↓W_un, ↓W_aNil, ↓W_aCons, ↓W_arg, ↓W_call, ↓W_of, ↓WB_test, ↓tc_bl, ↓WB_tru, ↓trc, ↓WB_and, ↓WB_or, ↓WB_not, ↓W_if, ↓W_andV, ↓W_orV, ↓W_notV, ↓WM_some, ↓WM_none, ↓WO_some, ↓tr_bl, ↓tr_non, ↓tr_int, ↓tr_tup, ↓tr_rol, ↓WS_nx, ↓WS_rt, ↓WS_ct, ↓WS_bk, ↓WS_exn, ↓WS_seq, ↓WS_nil, ↓WS_retN, ↓WS_break, ↓WS_cont, ↓WS_expr, ↓WS_ret, ↓WS_if, ↓WS_set, ↓WS_par, ↓WS_asg, ↓WS_gSet, ↓WS_gN, ↓WS_gC, ↓WS_gUn, ↓WS_gSub, ↓WS_aug, ↓o_add, ↓o_iadd, ↓o_sub, ↓o_neg, ↓o_mul, ↓o_mod, ↓o_div, ↓o_pow, ↓o_addT, ↓o_addS, ↓o_addL, ↓o_lt, ↓o_le, ↓o_gt, ↓o_ge, ↓o_eq, ↓o_ne, ↓o_eqS, ↓o_neS, ↓o_eqB, ↓o_neB, ↓o_eqT, ↓o_neT, ↓o_eqN, ↓o_neN, ↓o_ltT, ↓o_leT, ↓o_is, ↓o_isnot, ↓o_isB, ↓o_isnotB, ↓o_inT, ↓o_ninT, ↓o_inL, ↓o_ninL, ↓o_ixT, ↓o_ixR, ↓o_ixL, ↓o_ixS, ↓o_str, ↓o_strS, ↓o_set, ↓o_lenT, ↓o_lenR, ↓o_lenL, ↓o_lenS, ↓o_int, ↓o_intT, ↓o_intF, ↓o_abs, ↓o_max, ↓o_min, ↓o_tuple, ↓o_list, ↓o_tup0, ↓o_tup1, ↓o_tup2, ↓o_tup3, ↓o_tup4, ↓o_tup5, ↓o_tup6, ↓o_lst0, ↓o_lst1, ↓o_lst2, ↓o_lst3, ↓o_lst4, ↓o_lst5, ↓o_lst6, ↓o_sum, ↓W_meth, ↓o_append, ↓o_extend, ↓o_popAt, ↓W_cut, ↓W_noPart, ↓W_part, ↓o_cutT, ↓o_cutR, ↓o_cutL, ↓W_isi, ↓W_ch, ↓WS_for, ↓WI_iter, ↓WI_range1, ↓WI_range2, ↓WI_range3, ↓WI_enum, ↓WS_f0, ↓WS_f1, ↓W_alloc, ↓W_ofL, ↓W_comp, ↓WB_yes, ↓W_c0, ↓W_c1, ↓W_listRg, ↓W_tupRg, ↓W_rRange1, ↓W_rRange2, o_intT, o_intF, o_intB, o_ixL, o_ixT, beq_self_eq_true, decide_true, decide_false, okEq, okCmp, okIn, D.fits, D.fitsL, D.dep, D.depL, D.eqv, D.eqvL, D.alike, D.alikeL, isBl_bl, isN_non, isN_bl, isN_int, isN_str, isN_tup, isN_rol, isN_loc, Nat.reduceAdd, Nat.reduceSub, Nat.max_self, Nat.min_self, Nat.max_zero, Nat.zero_max, Nat.min_zero, Nat.zero_min, ty_non, ty_bl, ty_int, ty_str, ty_tup, ty_rol, ty_loc, kb_bool_bool, kb_bool_int, kb_bool_str, kb_bool_tuple, kb_bool_list, kb_int_bool, kb_int_int, kb_int_str, kb_int_tuple, kb_int_list, kb_str_bool, kb_str_int, kb_str_str, kb_str_tuple, kb_str_list, kb_tuple_bool, kb_tuple_int, kb_tuple_str, kb_tuple_tuple, kb_tuple_list, kb_list_bool, kb_list_int, kb_list_str, kb_list_tuple, kb_list_list, kb_NoneType_bool, kb_NoneType_int, kb_NoneType_str, kb_NoneType_tuple, kb_NoneType_list, Nat.zero_add, c02, lstAt_setE, Option.map_some, lstAt_set_ne, ne_eq, Nat.reduceEqDiff, Nat.one_ne_zero, Nat.zero_ne_one, ix_1_0, ix_2_0, ix_2_1, ix_3_0, ix_3_1, ix_3_2, ix_4_0, ix_4_1, ix_4_2, ix_4_3, ix_5_0, ix_5_1, ix_5_2, ix_5_3, ix_5_4, ix_6_0, ix_6_1, ix_6_2, ix_6_3, ix_6_4, ix_6_5, Nat.reduceLeDiff, Int.reduceAdd, Int.reduceSub, Int.reduceMul, Int.reduceNeg, Int.reducePow, Int.reduceLT, Int.reduceLE, Int.reduceEq, Int.reduceToNat, Bool.and_true, Bool.true_and, Bool.and_self, Bool.and_false, Bool.false_and, Bool.and_eq_true, Bool.and_eq_false_imp, and_self, WS_qdn, WS_qdr, WS_qde, WS_qdb, WS_qdc, qn1, qn2, qn3, qn4, qn5, qk1, qk5, lq1, lq2, lq3, lq4, lq5, intD_int, items_tup, items_rol, items_loc, listOf_loc, listOf_rol, isL_loc, at0, at1, at2, at3, at4, at5, atl1, atl2, atl3, atl4, lstAt_new, it_tup, it_rol, kTup_eq, kLen_eq, wipe0, wipe1, b_nm, List.set_cons_zero, List.set_cons_succ, List.length_cons, List.length_nil, List.nil_append, List.cons_append, List.append_nil, List.isEmpty_cons, List.isEmpty_nil, true_and, and_true, false_and, and_false, true_implies, forall_const, not_true_eq_false, not_false_eq_true, implies_true, decide_eq_true_eq, decide_eq_false_iff_not, Bool.not_eq_true', Bool.not_eq_false', Bool.not_true, Bool.not_false, if_true, if_false, Bool.false_eq_true, Bool.true_eq_false, reduceCtorEq, false_implies, eq_self, hL3]
    refine draw_w hF3 (by omega) fun v S4 v0 v1 hF4 F4 => ?_
    have hL4 := F4.lst h2 hL3
    simp only [↓reduceIte, ↓W_ok, ↓W_exn, ↓W_var0, ↓W_varS, ↓W_K, ↓W_bin, ↓W_un, ↓W_aNil, ↓W_aCons, ↓W_arg, ↓W_call, ↓W_of, ↓WB_test, ↓tc_bl, ↓WB_tru, ↓trc, ↓WB_and, ↓WB_or, ↓WB_not, ↓W_if, ↓W_andV, ↓W_orV, ↓W_notV, ↓WM_some, ↓WM_none, ↓WO_some, ↓tr_bl, ↓tr_non, ↓tr_int, ↓tr_tup, ↓tr_rol, ↓WS_nx, ↓WS_rt, ↓WS_ct, ↓WS_bk, ↓WS_exn, ↓WS_seq, ↓WS_nil, ↓WS_retN, ↓WS_break, ↓WS_cont, ↓WS_expr, ↓WS_ret, ↓WS_if, ↓WS_set, ↓WS_par, ↓WS_asg, ↓WS_gSet, ↓WS_gN, ↓WS_gC, ↓WS_gUn, ↓WS_gSub, ↓WS_aug, ↓o_add, ↓o_iadd, ↓o_sub, ↓o_neg, ↓o_mul, ↓o_mod, ↓o_div, ↓o_pow, ↓o_addT, ↓o_addS, ↓o_addL, ↓o_lt, ↓o_le, ↓o_gt, ↓o_ge, ↓o_eq, ↓o_ne, ↓o_eqS, ↓o_neS, ↓o_eqB, ↓o_neB, ↓o_eqT, ↓o_neT, ↓o_eqN, ↓o_neN, ↓o_ltT, ↓o_leT, ↓o_is, ↓o_isnot, ↓o_isB, ↓o_isnotB, ↓o_inT, ↓o_ninT, ↓o_inL, ↓o_ninL, ↓o_ixT, ↓o_ixR, ↓o_ixL, ↓o_ixS, ↓o_str, ↓o_strS, ↓o_set, ↓o_lenT, ↓o_lenR, ↓o_lenL, ↓o_lenS, ↓o_int, ↓o_intT, ↓o_intF, ↓o_abs, ↓o_max, ↓o_min, ↓o_tuple, ↓o_list, ↓o_tup0, ↓o_tup1, ↓o_tup2, ↓o_tup3, ↓o_tup4, ↓o_tup5, ↓o_tup6, ↓o_lst0, ↓o_lst1, ↓o_lst2, ↓o_lst3, ↓o_lst4, ↓o_lst5, ↓o_lst6, ↓o_sum, ↓W_meth, ↓o_append, ↓o_extend, ↓o_popAt, ↓W_cut, ↓W_noPart, ↓W_part, ↓o_cutT, ↓o_cutR, ↓o_cutL, ↓W_isi, ↓W_ch, ↓WS_for, ↓WI_iter, ↓WI_range1, ↓WI_range2, ↓WI_range3, ↓WI_enum, ↓WS_f0, ↓WS_f1, ↓W_alloc, ↓W_ofL, ↓W_comp, ↓WB_yes, ↓W_c0, ↓W_c1, ↓W_listRg, ↓W_tupRg, ↓W_rRange1, ↓W_rRange2, o_intT, o_intF, o_intB, o_ixL, o_ixT, beq_self_eq_true, decide_true, decide_false, okEq, okCmp, okIn, D.fits, D.fitsL, D.dep, D.depL, D.eqv, D.eqvL, D.alike, D.alikeL, isBl_bl, isN_non, isN_bl, isN_int, isN_str, isN_tup, isN_rol, isN_loc, Nat.reduceAdd, Nat.reduceSub, Nat.max_self, Nat.min_self, Nat.max_zero, Nat.zero_max, Nat.min_zero, Nat.zero_min, ty_non, ty_bl, ty_int, ty_str, ty_tup, ty_rol, ty_loc, kb_bool_bool, kb_bool_int, kb_bool_str, kb_bool_tuple, kb_bool_list, kb_int_bool, kb_int_int, kb_int_str, kb_int_tuple, kb_int_list, kb_str_bool, kb_str_int, kb_str_str, kb_str_tuple, kb_str_list, kb_tuple_bool, kb_tuple_int, kb_tuple_str, kb_tuple_tuple, kb_tuple_list, kb_list_bool, kb_list_int, kb_list_str, kb_list_tuple, kb_list_list, kb_NoneType_bool, kb_NoneType_int, kb_NoneType_str, kb_NoneType_tuple, kb_NoneType_list, Nat.zero_add, c02, lstAt_setE, Option.map_some, lstAt_set_ne, ne_eq, Nat.reduceEqDiff, Nat.one_ne_zero, Nat.zero_ne_one, ix_1_0, ix_2_0, ix_2_1, ix_3_0, ix_3_1, ix_3_2, ix_4_0, ix_4_1, ix_4_2, ix_4_3, ix_5_0, ix_5_1, ix_5_2, ix_5_3, ix_5_4, ix_6_0, ix_6_1, ix_6_2, ix_6_3, ix_6_4, ix_6_5, Nat.reduceLeDiff, Int.reduceAdd, Int.reduceSub, Int.reduceMul, Int.reduceNeg, Int.reducePow, Int.reduceLT, Int.reduceLE, Int.reduceEq, Int.reduceToNat, Bool.and_true, Bool.true_and, Bool.and_self, Bool.and_false, Bool.false_and, Bool.and_eq_true, Bool.and_eq_false_imp, and_self, WS_qdn, WS_qdr, WS_qde, WS_qdb, WS_qdc, qn1, qn2, qn3, qn4, qn5, qk1, qk5, lq1, lq2, lq3, lq4, lq5, intD_int, items_tup, items_rol, items_loc, listOf_loc, listOf_rol, isL_loc, at0, at1, at2, at3, at4, at5, atl1, atl2, atl3, atl4, lstAt_new, it_tup, it_rol, kTup_eq, kLen_eq, wipe0, wipe1, b_nm, List.set_cons_zero, List.set_cons_succ, List.length_cons, List.length_nil, List.nil_append, List.cons_append, List.append_nil, List.isEmpty_cons, List.isEmpty_nil, true_and, and_true, false_and, and_false, true_implies, forall_const, not_true_eq_false, not_false_eq_true, implies_true, decide_eq_true_eq, decide_eq_false_iff_not, Bool.not_eq_true', Bool.not_eq_false', Bool.not_true, Bool.not_false, if_true, if_false, Bool.false_eq_true, Bool.true_eq_false, reduceCtorEq, false_implies, eq_self, hL4]
    refine WM_at v0 v1 fun y hy => ?_
    obtain ⟨t, rfl, ht⟩ := say_at hy
    have hR4 := (F3.trans F4).lst g2 hR
    simp only [↓reduceIte, ↓W_ok, ↓W_exn, ↓W_var0, ↓W_varS, ↓W_K, ↓W_bin, ↓W_un, ↓W_aNil, ↓W_aCons, ↓W_arg, ↓W_call, ↓W_of, ↓WB_test, ↓tc_bl, ↓WB_tru, ↓trc, ↓WB_and, ↓WB_or, ↓WB_not, ↓W_if, ↓W_andV, ↓W_orV, ↓W_notV, ↓WM_some, ↓WM_none, ↓WO_some, ↓tr_bl, ↓tr_non, ↓tr_int, ↓tr_tup, ↓tr_rol, ↓WS_nx, ↓WS_rt, ↓WS_ct, ↓WS_bk, ↓WS_exn, ↓WS_seq, ↓WS_nil, ↓WS_retN, ↓WS_break, ↓WS_cont, ↓WS_expr, ↓WS_ret, ↓WS_if, ↓WS_set, ↓WS_par, ↓WS_asg, ↓WS_gSet, ↓WS_gN, ↓WS_gC, ↓WS_gUn, ↓WS_gSub, ↓WS_aug, ↓o_add, ↓o_iadd, ↓o_sub, ↓o_neg, ↓o_mul, ↓o_mod, ↓o_div, ↓o_pow, ↓o_addT, ↓o_addS, ↓o_addL, ↓o_lt, ↓o_le, ↓o_gt, ↓o_ge, ↓o_eq, ↓o_ne, ↓o_eqS, ↓o_neS, ↓o_eqB, ↓o_neB, ↓o_eqT, ↓o_neT, ↓o_eqN, ↓o_neN, ↓o_ltT, ↓o_leT, ↓o_is, ↓o_isnot, ↓o_isB, ↓o_isnotB, ↓o_inT, ↓o_ninT, ↓o_inL, ↓o_ninL, ↓o_ixT, ↓o_ixR, ↓o_ixL, ↓o_ixS, ↓o_str, ↓o_strS, ↓o_set, ↓o_lenT, ↓o_lenR, ↓o_lenL, ↓o_lenS, ↓o_int, ↓o_intT, ↓o_intF, ↓o_abs, ↓o_max, ↓o_min, ↓o_tuple, ↓o_list, ↓o_tup0, ↓o_tup1, ↓o_tup2, ↓o_tup3, ↓o_tup4, ↓o_tup5, ↓o_tup6, ↓o_lst0, ↓o_lst1, ↓o_lst2, ↓o_lst3, ↓o_lst4, ↓o_lst5, ↓o_lst6, ↓o_sum, ↓W_meth, ↓o_append, ↓o_extend, ↓o_popAt, ↓W_cut, ↓W_noPart, ↓W_part, ↓o_cutT, ↓o_cutR, ↓o_cutL, ↓W_isi, ↓W_ch, ↓WS_for, ↓WI_iter, ↓WI_range1, ↓WI_range2, ↓WI_range3, ↓WI_enum, ↓WS_f0, ↓WS_f1, ↓W_alloc, ↓W_ofL, ↓W_comp, ↓WB_yes, ↓W_c0, ↓W_c1, ↓W_listRg, ↓W_tupRg, ↓W_rRange1, ↓W_rRange2, o_intT, o_intF, o_intB, o_ixL, o_ixT, beq_self_eq_true, decide_true, decide_false, okEq, okCmp, okIn, D.fits, D.fitsL, D.dep, D.depL, D.eqv, D.eqvL, D.alike, D.alikeL, isBl_bl, isN_non, isN_bl, isN_int, isN_str, isN_tup, isN_rol, isN_loc, Nat.reduceAdd, Nat.reduceSub, Nat.max_self, Nat.min_self, Nat.max_zero, Nat.zero_max, Nat.min_zero, Nat.zero_min, ty_non, ty_bl, ty_int, ty_str, ty_tup, ty_rol, ty_loc, kb_bool_bool, kb_bool_int, kb_bool_str, kb_bool_tuple, kb_bool_list, kb_int_bool, kb_int_int, kb_int_str, kb_int_tuple, kb_int_list, kb_str_bool, kb_str_int, kb_str_str, kb_str_tuple, kb_str_list, kb_tuple_bool, kb_tuple_int, kb_tuple_str, kb_tuple_tuple, kb_tuple_list, kb_list_bool, kb_list_int, kb_list_str, kb_list_tuple, kb_list_list, kb_NoneType_bool, kb_NoneType_int, kb_NoneType_str, kb_NoneType_tuple, kb_NoneType_list, Nat.zero_add, c02, lstAt_setE, Option.map_some, lstAt_set_ne, ne_eq, Nat.reduceEqDiff, Nat.one_ne_zero, Nat.zero_ne_one, ix_1_0, ix_2_0, ix_2_1, ix_3_0, ix_3_1, ix_3_2, ix_4_0, ix_4_1, ix_4_2, ix_4_3, ix_5_0, ix_5_1, ix_5_2, ix_5_3, ix_5_4, ix_6_0, ix_6_1, ix_6_2, ix_6_3, ix_6_4, ix_6_5, Nat.reduceLeDiff, Int.reduceAdd, Int.reduceSub, Int.reduceMul, Int.reduceNeg, Int.reducePow, Int.reduceLT, Int.reduceLE, Int.reduceEq, Int.reduceToNat, Bool.and_true, Bool.true_and, Bool.and_self, Bool.and_false, Bool.false_and, Bool.and_eq_true, Bool.and_eq_false_imp, and_self, WS_qdn, WS_qdr, WS_qde, WS_qdb, WS_qdc, qn1, qn2, qn3, qn4, qn5, qk1, qk5, lq1, lq2, lq3, lq4, lq5, intD_int, items_tup, items_rol, items_loc, listOf_loc, listOf_rol, isL_loc, at0, at1, at2, at3, at4, at5, atl1, atl2, atl3, atl4, lstAt_new, it_tup, it_rol, kTup_eq, kLen_eq, wipe0, wipe1, b_nm, List.set_cons_zero, List.set_cons_succ, List.length_cons, List.length_nil, List.nil_append, List.cons_append, List.append_nil, List.isEmpty_cons, List.isEmpty_nil, true_and, and_true, false_and, and_false, true_implies, forall_const, not_true_eq_false, not_false_eq_true, implies_true, decide_eq_true_eq, decide_eq_false_iff_not, Bool.not_eq_true', Bool.not_eq_false', Bool.not_true, Bool.not_false, if_true, if_false, Bool.false_eq_true, Bool.true_eq_false, reduceCtorEq, false_implies, eq_self]
    refine sort2 (s := s) (t := t) (fun a b hab => ?_) lstAt_new
    have hab2 : a.at_ fs.length ∧ b.at_ fs.length := by rcases hab with ⟨rfl, rfl⟩ | ⟨rfl, rfl⟩ <;> exact ⟨by assumption, by assumption⟩
    have erp : D.tup [a.d, b.d] = rp (a, b) := rfl
    have hR5 : lstAt ((S4 ++ [Cell.lst [s.d, t.d]]) ++ [Cell.lst [a.d, b.d]]) S.length = some (rs.map rp) := lstAt_app (lstAt_app hR4)
    have ok := okIn_rules (r := (a, b)) (rs := rs)
    simp only [↓reduceIte, ↓W_ok, ↓W_exn, ↓W_var0, ↓W_varS, ↓W_K, ↓W_bin, ↓W_un, ↓W_aNil, ↓W_aCons, ↓W_arg, ↓W_call, ↓W_of, ↓WB_test, ↓tc_bl, ↓WB_tru, ↓trc, ↓WB_and, ↓WB_or, ↓WB_not, ↓W_if, ↓W_andV, ↓W_orV, ↓W_notV, ↓WM_some, ↓WM_none, ↓WO_some, ↓tr_bl, ↓tr_non, ↓tr_int, ↓tr_tup, ↓tr_rol, ↓WS_nx, ↓WS_rt, ↓WS_ct, ↓WS_bk, ↓WS_exn, ↓WS_seq, ↓WS_nil, ↓WS_retN, ↓WS_break, ↓WS_cont, ↓WS_expr, ↓WS_ret, ↓WS_if, ↓WS_set, ↓WS_par, ↓WS_asg, ↓WS_gSet, ↓WS_gN, ↓WS_gC, ↓WS_gUn, ↓WS_gSub, ↓WS_aug, ↓o_add, ↓o_iadd, ↓o_sub, ↓o_neg, ↓o_mul, ↓o_mod, ↓o_div, ↓o_pow, ↓o_addT, ↓o_addS, ↓o_addL, ↓o_lt, ↓o_le, ↓o_gt, ↓o_ge, ↓o_eq, ↓o_ne, ↓o_eqS, ↓o_neS, ↓o_eqB, ↓o_neB, ↓o_eqT, ↓o_neT, ↓o_eqN, ↓o_neN, ↓o_ltT, ↓o_leT, ↓o_is, ↓o_isnot, ↓o_isB, ↓o_isnotB, ↓o_inT, ↓o_ninT, ↓o_inL, ↓o_ninL, ↓o_ixT, ↓o_ixR, ↓o_ixL, ↓o_ixS, ↓o_str, ↓o_strS, ↓o_set, ↓o_lenT, ↓o_lenR, ↓o_lenL, ↓o_lenS, ↓o_int, ↓o_intT, ↓o_intF, ↓o_abs, ↓o_max, ↓o_min, ↓o_tuple, ↓o_list, ↓o_tup0, ↓o_tup1, ↓o_tup2, ↓o_tup3, ↓o_tup4, ↓o_tup5, ↓o_tup6, ↓o_lst0, ↓o_lst1, ↓o_lst2, ↓o_lst3, ↓o_lst4, ↓o_lst5, ↓o_lst6, ↓o_sum, ↓W_meth, ↓o_append, ↓o_extend, ↓o_popAt, ↓W_cut, ↓W_noPart, ↓W_part, ↓o_cutT, ↓o_cutR, ↓o_cutL, ↓W_isi, ↓W_ch, ↓WS_for, ↓WI_iter, ↓WI_range1, ↓WI_range2, ↓WI_range3, ↓WI_enum, ↓WS_f0, ↓WS_f1, ↓W_alloc, ↓W_ofL, ↓W_comp, ↓WB_yes, ↓W_c0, ↓W_c1, ↓W_listRg, ↓W_tupRg, ↓W_rRange1, ↓W_rRange2, o_intT, o_intF, o_intB, o_ixL, o_ixT, beq_self_eq_true, decide_true, decide_false, okEq, okCmp, okIn, D.fits, D.fitsL, D.dep, D.depL, D.eqv, D.eqvL, D.alike, D.alikeL, isBl_bl, isN_non, isN_bl, isN_int, isN_str, isN_tup, isN_rol, isN_loc, Nat.reduceAdd, Nat.reduceSub, Nat.max_self, Nat.min_self, Nat.max_zero, Nat.zero_max, Nat.min_zero, Nat.zero_min, ty_non, ty_bl, ty_int, ty_str, ty_tup, ty_rol, ty_loc, kb_bool_bool, kb_bool_int, kb_bool_str, kb_bool_tuple, kb_bool_list, kb_int_bool, kb_int_int, kb_int_str, kb_int_tuple, kb_int_list, kb_str_bool, kb_str_int, kb_str_str, kb_str_tuple, kb_str_list, kb_tuple_bool, kb_tuple_int, kb_tuple_str, kb_tuple_tuple, kb_tuple_list, kb_list_bool, kb_list_int, kb_list_str, kb_list_tuple, kb_list_list, kb_NoneType_bool, kb_NoneType_int, kb_NoneType_str, kb_NoneType_tuple, kb_NoneType_list, Nat.zero_add, c02, lstAt_setE, Option.map_some, lstAt_set_ne, ne_eq, Nat.reduceEqDiff, Nat.one_ne_zero, Nat.zero_ne_one, ix_1_0, ix_2_0, ix_2_1, ix_3_0, ix_3_1, ix_3_2, ix_4_0, ix_4_1, ix_4_2, ix_4_3, ix_5_0, ix_5_1, ix_5_2, ix_5_3, ix_5_4, ix_6_0, ix_6_1, ix_6_2, ix_6_3, ix_6_4, ix_6_5, Nat.reduceLeDiff, Int.reduceAdd, Int.reduceSub, Int.reduceMul, Int.reduceNeg, Int.reducePow, Int.reduceLT, Int.reduceLE, Int.reduceEq, Int.reduceToNat, Bool.and_true, Bool.true_and, Bool.and_self, Bool.and_false, Bool.false_and, Bool.and_eq_true, Bool.and_eq_false_imp, and_self, WS_qdn, WS_qdr, WS_qde, WS_qdb, WS_qdc, qn1, qn2, qn3, qn4, qn5, qk1, qk5, lq1, lq2, lq3, lq4, lq5, intD_int, items_tup, items_rol, items_loc, listOf_loc, listOf_rol, isL_loc, at0, at1, at2, at3, at4, at5, atl1, atl2, atl3, atl4, lstAt_new, it_tup, it_rol, kTup_eq, kLen_eq, wipe0, wipe1, b_nm, List.set_cons_zero, List.set_cons_succ, List.length_cons, List.length_nil, List.nil_append, List.cons_append, List.append_nil, List.isEmpty_cons, List.isEmpty_nil, true_and, and_true, false_and, and_false, true_implies, forall_const, not_true_eq_false, not_false_eq_true, implies_true, decide_eq_true_eq, decide_eq_false_iff_not, Bool.not_eq_true', Bool.not_eq_false', Bool.not_true, Bool.not_false, if_true, if_false, Bool.false_eq_true, Bool.true_eq_false, reduceCtorEq, false_implies, eq_self, erp, hR5, ok.1, ok.2.1, ok.2.2]
    have hF5 : FeedOk ((S4 ++ [Cell.lst [s.d, t.d]]) ++ [Cell.lst [a.d, b.d]]) := (hF4.app _).app _
    have F5 : Fr S ((S4 ++ [Cell.lst [s.d, t.d]]) ++ [Cell.lst [a.d, b.d]]) := (((F2.trans F3).trans F4).app _).app _
    refine ⟨fun _ => ⟨by rw [List.length_map, sizeLine_eq]; omega, hF5.set g2, F5.set (Nat.le_refl _), rs ++ [(a, b)], _, _, _, _, rfl, by simp; omega, fun r hr => ?_, by rw [List.map_append]; rfl⟩, fun _ => ⟨hF5, F5, rs, _, _, _, _, rfl, by omega, hrs, rfl⟩⟩
    rcases List.mem_append.mp hr with hr | hr
    · exact hrs r hr
    · rw [List.mem_singleton.mp hr]; exact hab2
  · rintro σ S2 ⟨hF2, F2, rs, a, b, c, d, rfl, hrl, hrs, hR⟩
    simp only [↓reduceIte, ↓W_ok, ↓W_exn, ↓W_var0, ↓W_varS, ↓W_K, ↓W_bin, ↓W_un, ↓W_aNil, ↓W_aCons, ↓W_arg, ↓W_call, ↓W_of, ↓WB_test, ↓tc_bl, ↓WB_tru, ↓trc, ↓WB_and, ↓WB_or, ↓WB_not, ↓W_if, ↓W_andV, ↓W_orV, ↓W_notV, ↓WM_some, ↓WM_none, ↓WO_some, ↓tr_bl, ↓tr_non, ↓tr_int, ↓tr_tup, ↓tr_rol, ↓WS_nx, ↓WS_rt, ↓WS_ct, ↓WS_bk, ↓WS_exn, ↓WS_seq, ↓WS_nil, ↓WS_retN, ↓WS_break, ↓WS_cont, ↓WS_expr, ↓WS_if, ↓WS_set, ↓WS_par, ↓WS_asg, ↓WS_gSet, ↓WS_gN, ↓WS_gC, ↓WS_gUn, ↓WS_gSub, ↓WS_aug, ↓o_add, ↓o_iadd, ↓o_sub, ↓o_neg, ↓o_mul, ↓o_mod, ↓o_div, ↓o_pow, ↓o_addT, ↓o_addS, ↓o_addL, ↓o_lt, ↓o_le, ↓o_gt, ↓o_ge, ↓o_eq, ↓o_ne, ↓o_eqS, ↓o_neS, ↓o_eqB, ↓o_neB, ↓o_eqT, ↓o_neT, ↓o_eqN, ↓o_neN, ↓o_ltT, ↓o_leT, ↓o_is, ↓o_isnot, ↓o_isB, ↓o_isnotB, ↓o_inT, ↓o_ninT, ↓o_inL, ↓o_ninL, ↓o_ixT, ↓o_ixR, ↓o_ixL, ↓o_ixS, ↓o_str, ↓o_strS, ↓o_set, ↓o_lenT, ↓o_lenR, ↓o_lenL, ↓o_lenS, ↓o_int, ↓o_intT, ↓o_intF, ↓o_abs, ↓o_max, ↓o_min, ↓o_tuple, ↓o_list, ↓o_tup0, ↓o_tup1, ↓o_tup2, ↓o_tup3, ↓o_tup4, ↓o_tup5, ↓o_tup6, ↓o_lst0, ↓o_lst1, ↓o_lst2, ↓o_lst3, ↓o_lst4, ↓o_lst5, ↓o_lst6, ↓o_sum, ↓W_meth, ↓o_append, ↓o_extend, ↓o_popAt, ↓W_cut, ↓W_noPart, ↓W_part, ↓o_cutT, ↓o_cutR, ↓o_cutL, ↓W_isi, ↓W_ch, ↓WS_for, ↓WI_iter, ↓WI_range1, ↓WI_range2, ↓WI_range3, ↓WI_enum, ↓WS_f0, ↓WS_f1, ↓W_alloc, ↓W_ofL, ↓W_comp, ↓WB_yes, ↓W_c0, ↓W_c1, ↓W_listRg, ↓W_tupRg, ↓W_rRange1, ↓W_rRange2, o_intT, o_intF, o_intB, o_ixL, o_ixT, beq_self_eq_true, decide_true, decide_false, okEq, okCmp, okIn, D.fits, D.fitsL, D.dep, D.depL, D.eqv, D.eqvL, D.alike, D.alikeL, isBl_bl, isN_non, isN_bl, isN_int, isN_str, isN_tup, isN_rol, isN_loc, Nat.reduceAdd, Nat.reduceSub, Nat.max_self, Nat.min_self, Nat.max_zero, Nat.zero_max, Nat.min_zero, Nat.zero_min, ty_non, ty_bl, ty_int, ty_str, ty_tup, ty_rol, ty_loc, kb_bool_bool, kb_bool_int, kb_bool_str, kb_bool_tuple, kb_bool_list, kb_int_bool, kb_int_int, kb_int_str, kb_int_tuple, kb_int_list, kb_str_bool, kb_str_int, kb_str_str, kb_str_tuple, kb_str_list, kb_tuple_bool, kb_tuple_int, kb_tuple_str, kb_tuple_tuple, kb_tuple_list, kb_list_bool, kb_list_int, kb_list_str, kb_list_tuple, kb_list_list, kb_NoneType_bool, kb_NoneType_int, kb_NoneType_str, kb_NoneType_tuple, kb_NoneType_list, Nat.zero_add, c02, lstAt_setE, Option.map_some, lstAt_set_ne, ne_eq, Nat.reduceEqDiff, Nat.one_ne_zero, Nat.zero_ne_one, ix_1_0, ix_2_0, ix_2_1, ix_3_0, ix_3_1, ix_3_2, ix_4_0, ix_4_1, ix_4_2, ix_4_3, ix_5_0, ix_5_1, ix_5_2, ix_5_3, ix_5_4, ix_6_0, ix_6_1, ix_6_2, ix_6_3, ix_6_4, ix_6_5, Nat.reduceLeDiff, Int.reduceAdd, Int.reduceSub, Int.reduceMul, Int.reduceNeg, Int.reducePow, Int.reduceLT, Int.reduceLE, Int.reduceEq, Int.reduceToNat, Bool.and_true, Bool.true_and, Bool.and_self, Bool.and_false, Bool.false_and, Bool.and_eq_true, Bool.and_eq_false_imp, and_self, WS_qdn, WS_qdr, WS_qde, WS_qdb, WS_qdc, qn1, qn2, qn3, qn4, qn5, qk1, qk5, lq1, lq2, lq3, lq4, lq5, intD_int, items_tup, items_rol, items_loc, listOf_loc, listOf_rol, isL_loc, at0, at1, at2, at3, at4, at5, atl1, atl2, atl3, atl4, lstAt_new, it_tup, it_rol, kTup_eq, kLen_eq, wipe0, wipe1, b_nm, List.set_cons_zero, List.set_cons_succ, List.length_cons, List.length_nil, List.nil_append, List.cons_append, List.append_nil, List.isEmpty_cons, List.isEmpty_nil, true_and, and_true, false_and, and_false, true_implies, forall_const, not_true_eq_false, not_false_eq_true, implies_true, decide_eq_true_eq, decide_eq_false_iff_not, Bool.not_eq_true', Bool.not_eq_false', Bool.not_true, Bool.not_false, if_true, if_false, Bool.false_eq_true, Bool.true_eq_false, reduceCtorEq, false_implies, eq_self]
    exact end_ rs S2 (by omega) hrs hF2 F2 hR _ _ _ _
end
end LW

namespace LW
open PySem PySem.Spec PyProof.Rows L2 DL
section
variable {x : XQ} {Q : D → Store → Prop} {tt : Tg (x, Q)} {S : Store} {s t : Sy}
theorem fd2 {n m : Str} {lo : Int} : D.tup [.tup [.str n, .int lo, .int (lo + 4)], .tup [.str m, .int lo, .int (lo + 4)]] = FD [⟨n, lo, lo + 4⟩, ⟨m, lo, lo + 4⟩] := rfl
theorem kd_iff (s : Sy) (hs : s.ok) (i : Int) : kD s (.int i) = decide ((s.w = 1 ∧ s.v ≤ i) ∨ (s.w = -1 ∧ i ≤ s.v)) := by
  show s.h i = _
  unfold Sy.h
  rw [decide_eq_decide]
  rcases hs with h | h <;> rw [h] <;> simp <;> omega
theorem made_w (hF : FeedOk S) (h : ∀ S', FeedOk S' → Fr S S' → Q (.bl true) S') : W (x, Q) tt (m__law_made_good [.loc 1] S) := by
  have g0 := hF.len
  simp only [↓reduceIte, ↓W_ok, ↓W_exn, ↓W_var0, ↓W_varS, ↓W_K, ↓W_bin, ↓W_un, ↓W_aNil, ↓W_aCons, ↓W_arg, ↓W_call, ↓W_of, ↓WB_test, ↓tc_bl, ↓WB_tru, ↓trc, ↓WB_and, ↓WB_or, ↓WB_not, ↓W_if, ↓W_andV, ↓W_orV, ↓W_notV, ↓WM_some, ↓WM_none, ↓WO_some, ↓tr_bl, ↓tr_non, ↓tr_int, ↓tr_tup, ↓tr_rol, ↓WS_nx, ↓WS_rt, ↓WS_ct, ↓WS_bk, ↓WS_exn, ↓WS_seq, ↓WS_nil, ↓WS_retN, ↓WS_break, ↓WS_cont, ↓WS_expr, ↓WS_ret, ↓WS_if, ↓WS_set, ↓WS_par, ↓WS_asg, ↓WS_gSet, ↓WS_gN, ↓WS_gC, ↓WS_gUn, ↓WS_gSub, ↓WS_aug, ↓o_add, ↓o_iadd, ↓o_sub, ↓o_neg, ↓o_mul, ↓o_mod, ↓o_div, ↓o_pow, ↓o_addT, ↓o_addS, ↓o_addL, ↓o_lt, ↓o_le, ↓o_gt, ↓o_ge, ↓o_eq, ↓o_ne, ↓o_eqS, ↓o_neS, ↓o_eqB, ↓o_neB, ↓o_eqT, ↓o_neT, ↓o_eqN, ↓o_neN, ↓o_ltT, ↓o_leT, ↓o_is, ↓o_isnot, ↓o_isB, ↓o_isnotB, ↓o_inT, ↓o_ninT, ↓o_inL, ↓o_ninL, ↓o_ixT, ↓o_ixR, ↓o_ixL, ↓o_ixS, ↓o_str, ↓o_strS, ↓o_set, ↓o_lenT, ↓o_lenR, ↓o_lenL, ↓o_lenS, ↓o_int, ↓o_intT, ↓o_intF, ↓o_abs, ↓o_max, ↓o_min, ↓o_tuple, ↓o_list, ↓o_tup0, ↓o_tup1, ↓o_tup2, ↓o_tup3, ↓o_tup4, ↓o_tup5, ↓o_tup6, ↓o_lst0, ↓o_lst1, ↓o_lst2, ↓o_lst3, ↓o_lst4, ↓o_lst5, ↓o_lst6, ↓o_sum, ↓W_meth, ↓o_append, ↓o_extend, ↓o_popAt, ↓W_cut, ↓W_noPart, ↓W_part, ↓o_cutT, ↓o_cutR, ↓o_cutL, ↓W_isi, ↓W_ch, ↓WS_for, ↓WI_iter, ↓WI_range1, ↓WI_range2, ↓WI_range3, ↓WI_enum, ↓WS_f0, ↓WS_f1, ↓W_alloc, ↓W_ofL, ↓W_comp, ↓WB_yes, ↓W_c0, ↓W_c1, ↓W_listRg, ↓W_tupRg, ↓W_rRange1, ↓W_rRange2, o_intT, o_intF, o_intB, o_ixL, o_ixT, beq_self_eq_true, decide_true, decide_false, okEq, okCmp, okIn, D.fits, D.fitsL, D.dep, D.depL, D.eqv, D.eqvL, D.alike, D.alikeL, isBl_bl, isN_non, isN_bl, isN_int, isN_str, isN_tup, isN_rol, isN_loc, Nat.reduceAdd, Nat.reduceSub, Nat.max_self, Nat.min_self, Nat.max_zero, Nat.zero_max, Nat.min_zero, Nat.zero_min, ty_non, ty_bl, ty_int, ty_str, ty_tup, ty_rol, ty_loc, kb_bool_bool, kb_bool_int, kb_bool_str, kb_bool_tuple, kb_bool_list, kb_int_bool, kb_int_int, kb_int_str, kb_int_tuple, kb_int_list, kb_str_bool, kb_str_int, kb_str_str, kb_str_tuple, kb_str_list, kb_tuple_bool, kb_tuple_int, kb_tuple_str, kb_tuple_tuple, kb_tuple_list, kb_list_bool, kb_list_int, kb_list_str, kb_list_tuple, kb_list_list, kb_NoneType_bool, kb_NoneType_int, kb_NoneType_str, kb_NoneType_tuple, kb_NoneType_list, Nat.zero_add, c02, lstAt_setE, Option.map_some, lstAt_set_ne, ne_eq, Nat.reduceEqDiff, Nat.one_ne_zero, Nat.zero_ne_one, ix_1_0, ix_2_0, ix_2_1, ix_3_0, ix_3_1, ix_3_2, ix_4_0, ix_4_1, ix_4_2, ix_4_3, ix_5_0, ix_5_1, ix_5_2, ix_5_3, ix_5_4, ix_6_0, ix_6_1, ix_6_2, ix_6_3, ix_6_4, ix_6_5, Nat.reduceLeDiff, Int.reduceAdd, Int.reduceSub, Int.reduceMul, Int.reduceNeg, Int.reducePow, Int.reduceLT, Int.reduceLE, Int.reduceEq, Int.reduceToNat, Bool.and_true, Bool.true_and, Bool.and_self, Bool.and_false, Bool.false_and, Bool.and_eq_true, Bool.and_eq_false_imp, and_self, WS_qdn, WS_qdr, WS_qde, WS_qdb, WS_qdc, qn1, qn2, qn3, qn4, qn5, qk1, qk5, lq1, lq2, lq3, lq4, lq5, intD_int, items_tup, items_rol, items_loc, listOf_loc, listOf_rol, isL_loc, at0, at1, at2, at3, at4, at5, atl1, atl2, atl3, atl4, lstAt_new, it_tup, it_rol, kTup_eq, kLen_eq, wipe0, wipe1, b_nm, List.set_cons_zero, List.set_cons_succ, List.length_cons, List.length_nil, List.nil_append, List.cons_append, List.append_nil, List.isEmpty_cons, List.isEmpty_nil, true_and, and_true, false_and, and_false, true_implies, forall_const, not_true_eq_false, not_false_eq_true, implies_true, decide_eq_true_eq, decide_eq_false_iff_not, Bool.not_eq_true', Bool.not_eq_false', Bool.not_true, Bool.not_false, if_true, if_false, Bool.false_eq_true, Bool.true_eq_false, reduceCtorEq, false_implies, eq_self, wm__law_made_good, b__law_made_good]
  refine names_w hF (by omega) (by omega) fun ns S1 l hnl hn hF1 F1 hl1 hL => ?_
  obtain ⟨n, m, rfl⟩ : ∃ n m, ns = [n, m] := by
    rcases ns with _ | ⟨n, _ | ⟨m, _ | ⟨k, r⟩⟩⟩
    · simp at hnl
    · simp at hnl
    · exact ⟨n, m, rfl⟩
    · simp at hnl; omega
  have hL1 : lstAt S1 l = some [.str n, .str m] := hL
  simp only [↓reduceIte, ↓W_ok, ↓W_exn, ↓W_var0, ↓W_varS, ↓W_K, ↓W_bin, ↓W_un, ↓W_aNil, ↓W_aCons, ↓W_arg, ↓W_call, ↓W_of, ↓WB_test, ↓tc_bl, ↓WB_tru, ↓trc, ↓WB_and, ↓WB_or, ↓WB_not, ↓W_if, ↓W_andV, ↓W_orV, ↓W_notV, ↓WM_some, ↓WM_none, ↓WO_some, ↓tr_bl, ↓tr_non, ↓tr_int, ↓tr_tup, ↓tr_rol, ↓WS_nx, ↓WS_rt, ↓WS_ct, ↓WS_bk, ↓WS_exn, ↓WS_seq, ↓WS_nil, ↓WS_retN, ↓WS_break, ↓WS_cont, ↓WS_expr, ↓WS_ret, ↓WS_if, ↓WS_set, ↓WS_par, ↓WS_asg, ↓WS_gSet, ↓WS_gN, ↓WS_gC, ↓WS_gUn, ↓WS_gSub, ↓WS_aug, ↓o_add, ↓o_iadd, ↓o_sub, ↓o_neg, ↓o_mul, ↓o_mod, ↓o_div, ↓o_pow, ↓o_addT, ↓o_addS, ↓o_addL, ↓o_lt, ↓o_le, ↓o_gt, ↓o_ge, ↓o_eq, ↓o_ne, ↓o_eqS, ↓o_neS, ↓o_eqB, ↓o_neB, ↓o_eqT, ↓o_neT, ↓o_eqN, ↓o_neN, ↓o_ltT, ↓o_leT, ↓o_is, ↓o_isnot, ↓o_isB, ↓o_isnotB, ↓o_inT, ↓o_ninT, ↓o_inL, ↓o_ninL, ↓o_ixT, ↓o_ixR, ↓o_ixL, ↓o_ixS, ↓o_str, ↓o_strS, ↓o_set, ↓o_lenT, ↓o_lenR, ↓o_lenL, ↓o_lenS, ↓o_int, ↓o_intT, ↓o_intF, ↓o_abs, ↓o_max, ↓o_min, ↓o_tuple, ↓o_list, ↓o_tup0, ↓o_tup1, ↓o_tup2, ↓o_tup3, ↓o_tup4, ↓o_tup5, ↓o_tup6, ↓o_lst0, ↓o_lst1, ↓o_lst2, ↓o_lst3, ↓o_lst4, ↓o_lst5, ↓o_lst6, ↓o_sum, ↓W_meth, ↓o_append, ↓o_extend, ↓o_popAt, ↓W_cut, ↓W_noPart, ↓W_part, ↓o_cutT, ↓o_cutR, ↓o_cutL, ↓W_isi, ↓W_ch, ↓WS_for, ↓WI_iter, ↓WI_range1, ↓WI_range2, ↓WI_range3, ↓WI_enum, ↓WS_f0, ↓WS_f1, ↓W_alloc, ↓W_ofL, ↓W_comp, ↓WB_yes, ↓W_c0, ↓W_c1, ↓W_listRg, ↓W_tupRg, ↓W_rRange1, ↓W_rRange2, o_intT, o_intF, o_intB, o_ixL, o_ixT, beq_self_eq_true, decide_true, decide_false, okEq, okCmp, okIn, D.fits, D.fitsL, D.dep, D.depL, D.eqv, D.eqvL, D.alike, D.alikeL, isBl_bl, isN_non, isN_bl, isN_int, isN_str, isN_tup, isN_rol, isN_loc, Nat.reduceAdd, Nat.reduceSub, Nat.max_self, Nat.min_self, Nat.max_zero, Nat.zero_max, Nat.min_zero, Nat.zero_min, ty_non, ty_bl, ty_int, ty_str, ty_tup, ty_rol, ty_loc, kb_bool_bool, kb_bool_int, kb_bool_str, kb_bool_tuple, kb_bool_list, kb_int_bool, kb_int_int, kb_int_str, kb_int_tuple, kb_int_list, kb_str_bool, kb_str_int, kb_str_str, kb_str_tuple, kb_str_list, kb_tuple_bool, kb_tuple_int, kb_tuple_str, kb_tuple_tuple, kb_tuple_list, kb_list_bool, kb_list_int, kb_list_str, kb_list_tuple, kb_list_list, kb_NoneType_bool, kb_NoneType_int, kb_NoneType_str, kb_NoneType_tuple, kb_NoneType_list, Nat.zero_add, c02, lstAt_setE, Option.map_some, lstAt_set_ne, ne_eq, Nat.reduceEqDiff, Nat.one_ne_zero, Nat.zero_ne_one, ix_1_0, ix_2_0, ix_2_1, ix_3_0, ix_3_1, ix_3_2, ix_4_0, ix_4_1, ix_4_2, ix_4_3, ix_5_0, ix_5_1, ix_5_2, ix_5_3, ix_5_4, ix_6_0, ix_6_1, ix_6_2, ix_6_3, ix_6_4, ix_6_5, Nat.reduceLeDiff, Int.reduceAdd, Int.reduceSub, Int.reduceMul, Int.reduceNeg, Int.reducePow, Int.reduceLT, Int.reduceLE, Int.reduceEq, Int.reduceToNat, Bool.and_true, Bool.true_and, Bool.and_self, Bool.and_false, Bool.false_and, Bool.and_eq_true, Bool.and_eq_false_imp, and_self, WS_qdn, WS_qdr, WS_qde, WS_qdb, WS_qdc, qn1, qn2, qn3, qn4, qn5, qk1, qk5, lq1, lq2, lq3, lq4, lq5, intD_int, items_tup, items_rol, items_loc, listOf_loc, listOf_rol, isL_loc, at0, at1, at2, at3, at4, at5, atl1, atl2, atl3, atl4, lstAt_new, it_tup, it_rol, kTup_eq, kLen_eq, wipe0, wipe1, b_nm, List.set_cons_zero, List.set_cons_succ, List.length_cons, List.length_nil, List.nil_append, List.cons_append, List.append_nil, List.isEmpty_cons, List.isEmpty_nil, true_and, and_true, false_and, and_false, true_implies, forall_const, not_true_eq_false, not_false_eq_true, implies_true, decide_eq_true_eq, decide_eq_false_iff_not, Bool.not_eq_true', Bool.not_eq_false', Bool.not_true, Bool.not_false, if_true, if_false, Bool.false_eq_true, Bool.true_eq_false, reduceCtorEq, false_implies, eq_self]
  refine draw_w hF1 (by omega) fun v S2 v0 v1 hF2 F2 => ?_
  simp only [↓reduceIte, ↓W_ok, ↓W_exn, ↓W_var0, ↓W_varS, ↓W_K, ↓W_bin, ↓W_un, ↓W_aNil, ↓W_aCons, ↓W_arg, ↓W_call, ↓W_of, ↓WB_test, ↓tc_bl, ↓WB_tru, ↓trc, ↓WB_and, ↓WB_or, ↓WB_not, ↓W_if, ↓W_andV, ↓W_orV, ↓W_notV, ↓WM_some, ↓WM_none, ↓WO_some, ↓tr_bl, ↓tr_non, ↓tr_int, ↓tr_tup, ↓tr_rol, ↓WS_nx, ↓WS_rt, ↓WS_ct, ↓WS_bk, ↓WS_exn, ↓WS_seq, ↓WS_nil, ↓WS_retN, ↓WS_break, ↓WS_cont, ↓WS_expr, ↓WS_ret, ↓WS_if, ↓WS_set, ↓WS_par, ↓WS_asg, ↓WS_gSet, ↓WS_gN, ↓WS_gC, ↓WS_gUn, ↓WS_gSub, ↓WS_aug, ↓o_add, ↓o_iadd, ↓o_sub, ↓o_neg, ↓o_mul, ↓o_mod, ↓o_div, ↓o_pow, ↓o_addT, ↓o_addS, ↓o_addL, ↓o_lt, ↓o_le, ↓o_gt, ↓o_ge, ↓o_eq, ↓o_ne, ↓o_eqS, ↓o_neS, ↓o_eqB, ↓o_neB, ↓o_eqT, ↓o_neT, ↓o_eqN, ↓o_neN, ↓o_ltT, ↓o_leT, ↓o_is, ↓o_isnot, ↓o_isB, ↓o_isnotB, ↓o_inT, ↓o_ninT, ↓o_inL, ↓o_ninL, ↓o_ixT, ↓o_ixR, ↓o_ixL, ↓o_ixS, ↓o_str, ↓o_strS, ↓o_set, ↓o_lenT, ↓o_lenR, ↓o_lenL, ↓o_lenS, ↓o_int, ↓o_intT, ↓o_intF, ↓o_abs, ↓o_max, ↓o_min, ↓o_tuple, ↓o_list, ↓o_tup0, ↓o_tup1, ↓o_tup2, ↓o_tup3, ↓o_tup4, ↓o_tup5, ↓o_tup6, ↓o_lst0, ↓o_lst1, ↓o_lst2, ↓o_lst3, ↓o_lst4, ↓o_lst5, ↓o_lst6, ↓o_sum, ↓W_meth, ↓o_append, ↓o_extend, ↓o_popAt, ↓W_cut, ↓W_noPart, ↓W_part, ↓o_cutT, ↓o_cutR, ↓o_cutL, ↓W_isi, ↓W_ch, ↓WS_for, ↓WI_iter, ↓WI_range1, ↓WI_range2, ↓WI_range3, ↓WI_enum, ↓WS_f0, ↓WS_f1, ↓W_alloc, ↓W_ofL, ↓W_comp, ↓WB_yes, ↓W_c0, ↓W_c1, ↓W_listRg, ↓W_tupRg, ↓W_rRange1, ↓W_rRange2, o_intT, o_intF, o_intB, o_ixL, o_ixT, beq_self_eq_true, decide_true, decide_false, okEq, okCmp, okIn, D.fits, D.fitsL, D.dep, D.depL, D.eqv, D.eqvL, D.alike, D.alikeL, isBl_bl, isN_non, isN_bl, isN_int, isN_str, isN_tup, isN_rol, isN_loc, Nat.reduceAdd, Nat.reduceSub, Nat.max_self, Nat.min_self, Nat.max_zero, Nat.zero_max, Nat.min_zero, Nat.zero_min, ty_non, ty_bl, ty_int, ty_str, ty_tup, ty_rol, ty_loc, kb_bool_bool, kb_bool_int, kb_bool_str, kb_bool_tuple, kb_bool_list, kb_int_bool, kb_int_int, kb_int_str, kb_int_tuple, kb_int_list, kb_str_bool, kb_str_int, kb_str_str, kb_str_tuple, kb_str_list, kb_tuple_bool, kb_tuple_int, kb_tuple_str, kb_tuple_tuple, kb_tuple_list, kb_list_bool, kb_list_int, kb_list_str, kb_list_tuple, kb_list_list, kb_NoneType_bool, kb_NoneType_int, kb_NoneType_str, kb_NoneType_tuple, kb_NoneType_list, Nat.zero_add, c02, lstAt_setE, Option.map_some, lstAt_set_ne, ne_eq, Nat.reduceEqDiff, Nat.one_ne_zero, Nat.zero_ne_one, ix_1_0, ix_2_0, ix_2_1, ix_3_0, ix_3_1, ix_3_2, ix_4_0, ix_4_1, ix_4_2, ix_4_3, ix_5_0, ix_5_1, ix_5_2, ix_5_3, ix_5_4, ix_6_0, ix_6_1, ix_6_2, ix_6_3, ix_6_4, ix_6_5, Nat.reduceLeDiff, Int.reduceAdd, Int.reduceSub, Int.reduceMul, Int.reduceNeg, Int.reducePow, Int.reduceLT, Int.reduceLE, Int.reduceEq, Int.reduceToNat, Bool.and_true, Bool.true_and, Bool.and_self, Bool.and_false, Bool.false_and, Bool.and_eq_true, Bool.and_eq_false_imp, and_self, WS_qdn, WS_qdr, WS_qde, WS_qdb, WS_qdc, qn1, qn2, qn3, qn4, qn5, qk1, qk5, lq1, lq2, lq3, lq4, lq5, intD_int, items_tup, items_rol, items_loc, listOf_loc, listOf_rol, isL_loc, at0, at1, at2, at3, at4, at5, atl1, atl2, atl3, atl4, lstAt_new, it_tup, it_rol, kTup_eq, kLen_eq, wipe0, wipe1, b_nm, List.set_cons_zero, List.set_cons_succ, List.length_cons, List.length_nil, List.nil_append, List.cons_append, List.append_nil, List.isEmpty_cons, List.isEmpty_nil, true_and, and_true, false_and, and_false, true_implies, forall_const, not_true_eq_false, not_false_eq_true, implies_true, decide_eq_true_eq, decide_eq_false_iff_not, Bool.not_eq_true', Bool.not_eq_false', Bool.not_true, Bool.not_false, if_true, if_false, Bool.false_eq_true, Bool.true_eq_false, reduceCtorEq, false_implies, eq_self]
  refine draw_w hF2 (by omega) fun u S3 u0 u1 hF3 F3 => ?_
  have hL3 := (F2.trans F3).lst (by omega) hL1
  have F03 := (F1.trans F2).trans F3
  generalize hlow : v - 4 = low
  simp only [↓reduceIte, ↓W_ok, ↓W_exn, ↓W_var0, ↓W_varS, ↓W_K, ↓W_bin, ↓W_un, ↓W_aNil, ↓W_aCons, ↓W_arg, ↓W_call, ↓W_of, ↓WB_test, ↓tc_bl, ↓WB_tru, ↓trc, ↓WB_and, ↓WB_or, ↓WB_not, ↓W_if, ↓W_andV, ↓W_orV, ↓W_notV, ↓WM_some, ↓WM_none, ↓WO_some, ↓tr_bl, ↓tr_non, ↓tr_int, ↓tr_tup, ↓tr_rol, ↓WS_nx, ↓WS_rt, ↓WS_ct, ↓WS_bk, ↓WS_exn, ↓WS_seq, ↓WS_nil, ↓WS_retN, ↓WS_break, ↓WS_cont, ↓WS_expr, ↓WS_ret, ↓WS_if, ↓WS_set, ↓WS_par, ↓WS_asg, ↓WS_gSet, ↓WS_gN, ↓WS_gC, ↓WS_gUn, ↓WS_gSub, ↓WS_aug, ↓o_add, ↓o_iadd, ↓o_sub, ↓o_neg, ↓o_mul, ↓o_mod, ↓o_div, ↓o_pow, ↓o_addT, ↓o_addS, ↓o_addL, ↓o_lt, ↓o_le, ↓o_gt, ↓o_ge, ↓o_eq, ↓o_ne, ↓o_eqS, ↓o_neS, ↓o_eqB, ↓o_neB, ↓o_eqT, ↓o_neT, ↓o_eqN, ↓o_neN, ↓o_ltT, ↓o_leT, ↓o_is, ↓o_isnot, ↓o_isB, ↓o_isnotB, ↓o_inT, ↓o_ninT, ↓o_inL, ↓o_ninL, ↓o_ixT, ↓o_ixR, ↓o_ixL, ↓o_ixS, ↓o_str, ↓o_strS, ↓o_set, ↓o_lenT, ↓o_lenR, ↓o_lenL, ↓o_lenS, ↓o_int, ↓o_intT, ↓o_intF, ↓o_abs, ↓o_max, ↓o_min, ↓o_tuple, ↓o_list, ↓o_tup0, ↓o_tup1, ↓o_tup2, ↓o_tup3, ↓o_tup4, ↓o_tup5, ↓o_tup6, ↓o_lst0, ↓o_lst1, ↓o_lst2, ↓o_lst3, ↓o_lst4, ↓o_lst5, ↓o_lst6, ↓o_sum, ↓W_meth, ↓o_append, ↓o_extend, ↓o_popAt, ↓W_cut, ↓W_noPart, ↓W_part, ↓o_cutT, ↓o_cutR, ↓o_cutL, ↓W_isi, ↓W_ch, ↓WS_for, ↓WI_iter, ↓WI_range1, ↓WI_range2, ↓WI_range3, ↓WI_enum, ↓WS_f0, ↓WS_f1, ↓W_alloc, ↓W_ofL, ↓W_comp, ↓WB_yes, ↓W_c0, ↓W_c1, ↓W_listRg, ↓W_tupRg, ↓W_rRange1, ↓W_rRange2, o_intT, o_intF, o_intB, o_ixL, o_ixT, beq_self_eq_true, decide_true, decide_false, okEq, okCmp, okIn, D.fits, D.fitsL, D.dep, D.depL, D.eqv, D.eqvL, D.alike, D.alikeL, isBl_bl, isN_non, isN_bl, isN_int, isN_str, isN_tup, isN_rol, isN_loc, Nat.reduceAdd, Nat.reduceSub, Nat.max_self, Nat.min_self, Nat.max_zero, Nat.zero_max, Nat.min_zero, Nat.zero_min, ty_non, ty_bl, ty_int, ty_str, ty_tup, ty_rol, ty_loc, kb_bool_bool, kb_bool_int, kb_bool_str, kb_bool_tuple, kb_bool_list, kb_int_bool, kb_int_int, kb_int_str, kb_int_tuple, kb_int_list, kb_str_bool, kb_str_int, kb_str_str, kb_str_tuple, kb_str_list, kb_tuple_bool, kb_tuple_int, kb_tuple_str, kb_tuple_tuple, kb_tuple_list, kb_list_bool, kb_list_int, kb_list_str, kb_list_tuple, kb_list_list, kb_NoneType_bool, kb_NoneType_int, kb_NoneType_str, kb_NoneType_tuple, kb_NoneType_list, Nat.zero_add, c02, lstAt_setE, Option.map_some, lstAt_set_ne, ne_eq, Nat.reduceEqDiff, Nat.one_ne_zero, Nat.zero_ne_one, ix_1_0, ix_2_0, ix_2_1, ix_3_0, ix_3_1, ix_3_2, ix_4_0, ix_4_1, ix_4_2, ix_4_3, ix_5_0, ix_5_1, ix_5_2, ix_5_3, ix_5_4, ix_6_0, ix_6_1, ix_6_2, ix_6_3, ix_6_4, ix_6_5, Nat.reduceLeDiff, Int.reduceAdd, Int.reduceSub, Int.reduceMul, Int.reduceNeg, Int.reducePow, Int.reduceLT, Int.reduceLE, Int.reduceEq, Int.reduceToNat, Bool.and_true, Bool.true_and, Bool.and_self, Bool.and_false, Bool.false_and, Bool.and_eq_true, Bool.and_eq_false_imp, and_self, WS_qdn, WS_qdr, WS_qde, WS_qdb, WS_qdc, qn1, qn2, qn3, qn4, qn5, qk1, qk5, lq1, lq2, lq3, lq4, lq5, intD_int, items_tup, items_rol, items_loc, listOf_loc, listOf_rol, isL_loc, at0, at1, at2, at3, at4, at5, atl1, atl2, atl3, atl4, lstAt_new, it_tup, it_rol, kTup_eq, kLen_eq, wipe0, wipe1, b_nm, List.set_cons_zero, List.set_cons_succ, List.length_cons, List.length_nil, List.nil_append, List.cons_append, List.append_nil, List.isEmpty_cons, List.isEmpty_nil, true_and, and_true, false_and, and_false, true_implies, forall_const, not_true_eq_false, not_false_eq_true, implies_true, decide_eq_true_eq, decide_eq_false_iff_not, Bool.not_eq_true', Bool.not_eq_false', Bool.not_true, Bool.not_false, if_true, if_false, Bool.false_eq_true, Bool.true_eq_false, reduceCtorEq, false_implies, eq_self, hL3, fd2]
  generalize hat : low + 1 + u = at_
  have ha : low + 1 ≤ at_ ∧ at_ ≤ low + 3 := by omega
  have hrl : lstAt (S3 ++ [Cell.lst [D.tup [.tup [.int 0, .int (-1), .int (at_ - 1)], .tup [.int 1, .int 1, .int at_]], .tup [.tup [.int 0, .int (-1), .int low], .tup [.int 0, .int 1, .int (low + 2)]], .tup [.tup [.int 1, .int 1, .int (low + 1)], .tup [.int 1, .int 1, .int (low + 1)]]]]) S3.length = some (([(⟨0, -1, at_ - 1⟩, ⟨1, 1, at_⟩), (⟨0, -1, low⟩, ⟨0, 1, low + 2⟩), (⟨1, 1, low + 1⟩, ⟨1, 1, low + 1⟩)] : List (Sy × Sy)).map rp) := lstAt_new
  refine sort_rules hrl fun rs hm hm2 hrl2 => ?_
  have ok1 : ∀ f v : Int, (f = 0 ∨ f = 1) → ∀ w : Int, (w = 1 ∨ w = -1) → (⟨f, w, v⟩ : Sy).at_ 2 := fun f v hf w hw => ⟨hw, by simp only; omega, by simp only; omega⟩
  have hrs : RsOk rs 2 := fun r hr => by
    have := hm r hr
    simp only [List.mem_cons, List.not_mem_nil, or_false] at this
    rcases this with rfl | rfl | rfl
    · exact ⟨ok1 _ _ (.inl rfl) _ (.inr rfl), ok1 _ _ (.inr rfl) _ (.inl rfl)⟩
    · exact ⟨ok1 _ _ (.inl rfl) _ (.inr rfl), ok1 _ _ (.inl rfl) _ (.inl rfl)⟩
    · exact ⟨ok1 _ _ (.inr rfl) _ (.inl rfl), ok1 _ _ (.inr rfl) _ (.inl rfl)⟩
  have hrn : rs.length = 3 := hrl2
  simp only [↓reduceIte, ↓W_ok, ↓W_exn, ↓W_var0, ↓W_varS, ↓W_K, ↓W_bin, ↓W_un, ↓W_aNil, ↓W_aCons, ↓W_arg, ↓W_call, ↓W_of, ↓WB_test, ↓tc_bl, ↓WB_tru, ↓trc, ↓WB_and, ↓WB_or, ↓WB_not, ↓W_if, ↓W_andV, ↓W_orV, ↓W_notV, ↓WM_some, ↓WM_none, ↓WO_some, ↓tr_bl, ↓tr_non, ↓tr_int, ↓tr_tup, ↓tr_rol, ↓WS_nx, ↓WS_rt, ↓WS_ct, ↓WS_bk, ↓WS_exn, ↓WS_seq, ↓WS_nil, ↓WS_retN, ↓WS_break, ↓WS_cont, ↓WS_expr, ↓WS_ret, ↓WS_if, ↓WS_set, ↓WS_par, ↓WS_asg, ↓WS_gSet, ↓WS_gN, ↓WS_gC, ↓WS_gUn, ↓WS_gSub, ↓WS_aug, ↓o_add, ↓o_iadd, ↓o_sub, ↓o_neg, ↓o_mul, ↓o_mod, ↓o_div, ↓o_pow, ↓o_addT, ↓o_addS, ↓o_addL, ↓o_lt, ↓o_le, ↓o_gt, ↓o_ge, ↓o_eq, ↓o_ne, ↓o_eqS, ↓o_neS, ↓o_eqB, ↓o_neB, ↓o_eqT, ↓o_neT, ↓o_eqN, ↓o_neN, ↓o_ltT, ↓o_leT, ↓o_is, ↓o_isnot, ↓o_isB, ↓o_isnotB, ↓o_inT, ↓o_ninT, ↓o_inL, ↓o_ninL, ↓o_ixT, ↓o_ixR, ↓o_ixL, ↓o_ixS, ↓o_str, ↓o_strS, ↓o_set, ↓o_lenT, ↓o_lenR, ↓o_lenL, ↓o_lenS, ↓o_int, ↓o_intT, ↓o_intF, ↓o_abs, ↓o_max, ↓o_min, ↓o_tuple, ↓o_list, ↓o_tup0, ↓o_tup1, ↓o_tup2, ↓o_tup3, ↓o_tup4, ↓o_tup5, ↓o_tup6, ↓o_lst0, ↓o_lst1, ↓o_lst2, ↓o_lst3, ↓o_lst4, ↓o_lst5, ↓o_lst6, ↓o_sum, ↓W_meth, ↓o_append, ↓o_extend, ↓o_popAt, ↓W_cut, ↓W_noPart, ↓W_part, ↓o_cutT, ↓o_cutR, ↓o_cutL, ↓W_isi, ↓W_ch, ↓WS_for, ↓WI_iter, ↓WI_range1, ↓WI_range2, ↓WI_range3, ↓WI_enum, ↓WS_f0, ↓WS_f1, ↓W_alloc, ↓W_ofL, ↓W_comp, ↓WB_yes, ↓W_c0, ↓W_c1, ↓W_listRg, ↓W_tupRg, ↓W_rRange1, ↓W_rRange2, o_intT, o_intF, o_intB, o_ixL, o_ixT, beq_self_eq_true, decide_true, decide_false, okEq, okCmp, okIn, D.fits, D.fitsL, D.dep, D.depL, D.eqv, D.eqvL, D.alike, D.alikeL, isBl_bl, isN_non, isN_bl, isN_int, isN_str, isN_tup, isN_rol, isN_loc, Nat.reduceAdd, Nat.reduceSub, Nat.max_self, Nat.min_self, Nat.max_zero, Nat.zero_max, Nat.min_zero, Nat.zero_min, ty_non, ty_bl, ty_int, ty_str, ty_tup, ty_rol, ty_loc, kb_bool_bool, kb_bool_int, kb_bool_str, kb_bool_tuple, kb_bool_list, kb_int_bool, kb_int_int, kb_int_str, kb_int_tuple, kb_int_list, kb_str_bool, kb_str_int, kb_str_str, kb_str_tuple, kb_str_list, kb_tuple_bool, kb_tuple_int, kb_tuple_str, kb_tuple_tuple, kb_tuple_list, kb_list_bool, kb_list_int, kb_list_str, kb_list_tuple, kb_list_list, kb_NoneType_bool, kb_NoneType_int, kb_NoneType_str, kb_NoneType_tuple, kb_NoneType_list, Nat.zero_add, c02, lstAt_setE, Option.map_some, lstAt_set_ne, ne_eq, Nat.reduceEqDiff, Nat.one_ne_zero, Nat.zero_ne_one, ix_1_0, ix_2_0, ix_2_1, ix_3_0, ix_3_1, ix_3_2, ix_4_0, ix_4_1, ix_4_2, ix_4_3, ix_5_0, ix_5_1, ix_5_2, ix_5_3, ix_5_4, ix_6_0, ix_6_1, ix_6_2, ix_6_3, ix_6_4, ix_6_5, Nat.reduceLeDiff, Int.reduceAdd, Int.reduceSub, Int.reduceMul, Int.reduceNeg, Int.reducePow, Int.reduceLT, Int.reduceLE, Int.reduceEq, Int.reduceToNat, Bool.and_true, Bool.true_and, Bool.and_self, Bool.and_false, Bool.false_and, Bool.and_eq_true, Bool.and_eq_false_imp, and_self, WS_qdn, WS_qdr, WS_qde, WS_qdb, WS_qdc, qn1, qn2, qn3, qn4, qn5, qk1, qk5, lq1, lq2, lq3, lq4, lq5, intD_int, items_tup, items_rol, items_loc, listOf_loc, listOf_rol, isL_loc, at0, at1, at2, at3, at4, at5, atl1, atl2, atl3, atl4, lstAt_new, it_tup, it_rol, kTup_eq, kLen_eq, wipe0, wipe1, b_nm, List.set_cons_zero, List.set_cons_succ, List.length_cons, List.length_nil, List.nil_append, List.cons_append, List.append_nil, List.isEmpty_cons, List.isEmpty_nil, true_and, and_true, false_and, and_false, true_implies, forall_const, not_true_eq_false, not_false_eq_true, implies_true, decide_eq_true_eq, decide_eq_false_iff_not, Bool.not_eq_true', Bool.not_eq_false', Bool.not_true, Bool.not_false, if_true, if_false, Bool.false_eq_true, Bool.true_eq_false, reduceCtorEq, false_implies, eq_self]
  refine ⟨⟨by constructor <;> omega, by constructor <;> omega⟩, ?_⟩
  have hF4 : FeedOk ((S3 ++ [Cell.lst [D.tup [.tup [.int 0, .int (-1), .int (at_ - 1)], .tup [.int 1, .int 1, .int at_]], .tup [.tup [.int 0, .int (-1), .int low], .tup [.int 0, .int 1, .int (low + 2)]], .tup [.tup [.int 1, .int 1, .int (low + 1)], .tup [.int 1, .int 1, .int (low + 1)]]]]) ++ [Cell.lst (rs.map rp)]) := (hF3.app _).app _
  have F4 : Fr S ((S3 ++ [Cell.lst [D.tup [.tup [.int 0, .int (-1), .int (at_ - 1)], .tup [.int 1, .int 1, .int at_]], .tup [.tup [.int 0, .int (-1), .int low], .tup [.int 0, .int 1, .int (low + 2)]], .tup [.tup [.int 1, .int 1, .int (low + 1)], .tup [.int 1, .int 1, .int (low + 1)]]]]) ++ [Cell.lst (rs.map rp)]) := (F03.app _).app _
  refine WS_rloop (fun i σ S' => FeedOk S' ∧ Fr S S' ∧ ∃ (a b : Option D), σ = [some (.loc 1), some (.loc l), some (.int low), some (.int at_), some (FD [⟨n, low, low + 4⟩, ⟨m, low, low + 4⟩]), some (.tup (rs.map rp)), a, b]) ⟨hF4, F4, none, none, rfl⟩ ?_ ?_
  · rintro i σ S5 i0 i1 ⟨hF5, F5, a, b, rfl⟩
    simp only [↓reduceIte, ↓W_ok, ↓W_exn, ↓W_var0, ↓W_varS, ↓W_K, ↓W_bin, ↓W_un, ↓W_aNil, ↓W_aCons, ↓W_arg, ↓W_call, ↓W_of, ↓WB_test, ↓tc_bl, ↓WB_tru, ↓trc, ↓WB_and, ↓WB_or, ↓WB_not, ↓W_if, ↓W_andV, ↓W_orV, ↓W_notV, ↓WM_some, ↓WM_none, ↓WO_some, ↓tr_bl, ↓tr_non, ↓tr_int, ↓tr_tup, ↓tr_rol, ↓WS_nx, ↓WS_rt, ↓WS_ct, ↓WS_bk, ↓WS_exn, ↓WS_seq, ↓WS_nil, ↓WS_retN, ↓WS_break, ↓WS_cont, ↓WS_expr, ↓WS_ret, ↓WS_if, ↓WS_set, ↓WS_par, ↓WS_asg, ↓WS_gSet, ↓WS_gN, ↓WS_gC, ↓WS_gUn, ↓WS_gSub, ↓WS_aug, ↓o_add, ↓o_iadd, ↓o_sub, ↓o_neg, ↓o_mul, ↓o_mod, ↓o_div, ↓o_pow, ↓o_addT, ↓o_addS, ↓o_addL, ↓o_lt, ↓o_le, ↓o_gt, ↓o_ge, ↓o_eq, ↓o_ne, ↓o_eqS, ↓o_neS, ↓o_eqB, ↓o_neB, ↓o_eqT, ↓o_neT, ↓o_eqN, ↓o_neN, ↓o_ltT, ↓o_leT, ↓o_is, ↓o_isnot, ↓o_isB, ↓o_isnotB, ↓o_inT, ↓o_ninT, ↓o_inL, ↓o_ninL, ↓o_ixT, ↓o_ixR, ↓o_ixL, ↓o_ixS, ↓o_str, ↓o_strS, ↓o_set, ↓o_lenT, ↓o_lenR, ↓o_lenL, ↓o_lenS, ↓o_int, ↓o_intT, ↓o_intF, ↓o_abs, ↓o_max, ↓o_min, ↓o_tuple, ↓o_list, ↓o_tup0, ↓o_tup1, ↓o_tup2, ↓o_tup3, ↓o_tup4, ↓o_tup5, ↓o_tup6, ↓o_lst0, ↓o_lst1, ↓o_lst2, ↓o_lst3, ↓o_lst4, ↓o_lst5, ↓o_lst6, ↓o_sum, ↓W_meth, ↓o_append, ↓o_extend, ↓o_popAt, ↓W_cut, ↓W_noPart, ↓W_part, ↓o_cutT, ↓o_cutR, ↓o_cutL, ↓W_isi, ↓W_ch, ↓WS_for, ↓WI_iter, ↓WI_range1, ↓WI_range2, ↓WI_range3, ↓WI_enum, ↓WS_f0, ↓W_alloc, ↓W_ofL, ↓W_comp, ↓WB_yes, ↓W_c0, ↓W_c1, ↓W_listRg, ↓W_tupRg, ↓W_rRange1, ↓W_rRange2, o_intT, o_intF, o_intB, o_ixL, o_ixT, beq_self_eq_true, decide_true, decide_false, okEq, okCmp, okIn, D.fits, D.fitsL, D.dep, D.depL, D.eqv, D.eqvL, D.alike, D.alikeL, isBl_bl, isN_non, isN_bl, isN_int, isN_str, isN_tup, isN_rol, isN_loc, Nat.reduceAdd, Nat.reduceSub, Nat.max_self, Nat.min_self, Nat.max_zero, Nat.zero_max, Nat.min_zero, Nat.zero_min, ty_non, ty_bl, ty_int, ty_str, ty_tup, ty_rol, ty_loc, kb_bool_bool, kb_bool_int, kb_bool_str, kb_bool_tuple, kb_bool_list, kb_int_bool, kb_int_int, kb_int_str, kb_int_tuple, kb_int_list, kb_str_bool, kb_str_int, kb_str_str, kb_str_tuple, kb_str_list, kb_tuple_bool, kb_tuple_int, kb_tuple_str, kb_tuple_tuple, kb_tuple_list, kb_list_bool, kb_list_int, kb_list_str, kb_list_tuple, kb_list_list, kb_NoneType_bool, kb_NoneType_int, kb_NoneType_str, kb_NoneType_tuple, kb_NoneType_list, Nat.zero_add, c02, lstAt_setE, Option.map_some, lstAt_set_ne, ne_eq, Nat.reduceEqDiff, Nat.one_ne_zero, Nat.zero_ne_one, ix_1_0, ix_2_0, ix_2_1, ix_3_0, ix_3_1, ix_3_2, ix_4_0, ix_4_1, ix_4_2, ix_4_3, ix_5_0, ix_5_1, ix_5_2, ix_5_3, ix_5_4, ix_6_0, ix_6_1, ix_6_2, ix_6_3, ix_6_4, ix_6_5, Nat.reduceLeDiff, Int.reduceAdd, Int.reduceSub, Int.reduceMul, Int.reduceNeg, Int.reducePow, Int.reduceLT, Int.reduceLE, Int.reduceEq, Int.reduceToNat, Bool.and_true, Bool.true_and, Bool.and_self, Bool.and_false, Bool.false_and, Bool.and_eq_true, Bool.and_eq_false_imp, and_self, WS_qdn, WS_qdr, WS_qde, WS_qdb, WS_qdc, qn1, qn2, qn3, qn4, qn5, qk1, qk5, lq1, lq2, lq3, lq4, lq5, intD_int, items_tup, items_rol, items_loc, listOf_loc, listOf_rol, isL_loc, at0, at1, at2, at3, at4, at5, atl1, atl2, atl3, atl4, lstAt_new, it_tup, it_rol, kTup_eq, kLen_eq, wipe0, wipe1, b_nm, List.set_cons_zero, List.set_cons_succ, List.length_cons, List.length_nil, List.nil_append, List.cons_append, List.append_nil, List.isEmpty_cons, List.isEmpty_nil, true_and, and_true, false_and, and_false, true_implies, forall_const, not_true_eq_false, not_false_eq_true, implies_true, decide_eq_true_eq, decide_eq_false_iff_not, Bool.not_eq_true', Bool.not_eq_false', Bool.not_true, Bool.not_false, if_true, if_false, Bool.false_eq_true, Bool.true_eq_false, reduceCtorEq, false_implies, eq_self]
    have h5 := hF5.len
    have lt5 : lstAt (S5 ++ [Cell.lst [D.non, .int low, .int (at_ - 1), .int at_, .int (low + 4)]]) S5.length = some [D.non, .int low, .int (at_ - 1), .int at_, .int (low + 4)] := lstAt_new
    simp only [↓reduceIte, ↓W_ok, ↓W_exn, ↓W_var0, ↓W_varS, ↓W_K, ↓W_bin, ↓W_un, ↓W_aNil, ↓W_aCons, ↓W_arg, ↓W_call, ↓W_of, ↓WB_test, ↓tc_bl, ↓WB_tru, ↓trc, ↓WB_and, ↓WB_or, ↓WB_not, ↓W_if, ↓W_andV, ↓W_orV, ↓W_notV, ↓WM_some, ↓WM_none, ↓WO_some, ↓tr_bl, ↓tr_non, ↓tr_int, ↓tr_tup, ↓tr_rol, ↓WS_nx, ↓WS_rt, ↓WS_ct, ↓WS_bk, ↓WS_exn, ↓WS_seq, ↓WS_nil, ↓WS_retN, ↓WS_break, ↓WS_cont, ↓WS_expr, ↓WS_ret, ↓WS_if, ↓WS_set, ↓WS_par, ↓WS_asg, ↓WS_gSet, ↓WS_gN, ↓WS_gC, ↓WS_gUn, ↓WS_gSub, ↓WS_aug, ↓o_add, ↓o_iadd, ↓o_sub, ↓o_neg, ↓o_mul, ↓o_mod, ↓o_div, ↓o_pow, ↓o_addT, ↓o_addS, ↓o_addL, ↓o_lt, ↓o_le, ↓o_gt, ↓o_ge, ↓o_eq, ↓o_ne, ↓o_eqS, ↓o_neS, ↓o_eqB, ↓o_neB, ↓o_eqT, ↓o_neT, ↓o_eqN, ↓o_neN, ↓o_ltT, ↓o_leT, ↓o_is, ↓o_isnot, ↓o_isB, ↓o_isnotB, ↓o_inT, ↓o_ninT, ↓o_inL, ↓o_ninL, ↓o_ixT, ↓o_ixR, ↓o_ixL, ↓o_ixS, ↓o_str, ↓o_strS, ↓o_set, ↓o_lenT, ↓o_lenR, ↓o_lenL, ↓o_lenS, ↓o_int, ↓o_intT, ↓o_intF, ↓o_abs, ↓o_max, ↓o_min, ↓o_tuple, ↓o_list, ↓o_tup0, ↓o_tup1, ↓o_tup2, ↓o_tup3, ↓o_tup4, ↓o_tup5, ↓o_tup6, ↓o_lst0, ↓o_lst1, ↓o_lst2, ↓o_lst3, ↓o_lst4, ↓o_lst5, ↓o_lst6, ↓o_sum, ↓W_meth, ↓o_append, ↓o_extend, ↓o_popAt, ↓W_cut, ↓W_noPart, ↓W_part, ↓o_cutT, ↓o_cutR, ↓o_cutL, ↓W_isi, ↓W_ch, ↓WS_for, ↓WI_iter, ↓WI_range1, ↓WI_range2, ↓WI_range3, ↓WI_enum, ↓WS_f0, ↓W_alloc, ↓W_ofL, ↓W_comp, ↓WB_yes, ↓W_c0, ↓W_c1, ↓W_listRg, ↓W_tupRg, ↓W_rRange1, ↓W_rRange2, o_intT, o_intF, o_intB, o_ixL, o_ixT, beq_self_eq_true, decide_true, decide_false, okEq, okCmp, okIn, D.fits, D.fitsL, D.dep, D.depL, D.eqv, D.eqvL, D.alike, D.alikeL, isBl_bl, isN_non, isN_bl, isN_int, isN_str, isN_tup, isN_rol, isN_loc, Nat.reduceAdd, Nat.reduceSub, Nat.max_self, Nat.min_self, Nat.max_zero, Nat.zero_max, Nat.min_zero, Nat.zero_min, ty_non, ty_bl, ty_int, ty_str, ty_tup, ty_rol, ty_loc, kb_bool_bool, kb_bool_int, kb_bool_str, kb_bool_tuple, kb_bool_list, kb_int_bool, kb_int_int, kb_int_str, kb_int_tuple, kb_int_list, kb_str_bool, kb_str_int, kb_str_str, kb_str_tuple, kb_str_list, kb_tuple_bool, kb_tuple_int, kb_tuple_str, kb_tuple_tuple, kb_tuple_list, kb_list_bool, kb_list_int, kb_list_str, kb_list_tuple, kb_list_list, kb_NoneType_bool, kb_NoneType_int, kb_NoneType_str, kb_NoneType_tuple, kb_NoneType_list, Nat.zero_add, c02, lstAt_setE, Option.map_some, lstAt_set_ne, ne_eq, Nat.reduceEqDiff, Nat.one_ne_zero, Nat.zero_ne_one, ix_1_0, ix_2_0, ix_2_1, ix_3_0, ix_3_1, ix_3_2, ix_4_0, ix_4_1, ix_4_2, ix_4_3, ix_5_0, ix_5_1, ix_5_2, ix_5_3, ix_5_4, ix_6_0, ix_6_1, ix_6_2, ix_6_3, ix_6_4, ix_6_5, Nat.reduceLeDiff, Int.reduceAdd, Int.reduceSub, Int.reduceMul, Int.reduceNeg, Int.reducePow, Int.reduceLT, Int.reduceLE, Int.reduceEq, Int.reduceToNat, Bool.and_true, Bool.true_and, Bool.and_self, Bool.and_false, Bool.false_and, Bool.and_eq_true, Bool.and_eq_false_imp, and_self, WS_qdn, WS_qdr, WS_qde, WS_qdb, WS_qdc, qn1, qn2, qn3, qn4, qn5, qk1, qk5, lq1, lq2, lq3, lq4, lq5, intD_int, items_tup, items_rol, items_loc, listOf_loc, listOf_rol, isL_loc, at0, at1, at2, at3, at4, at5, atl1, atl2, atl3, atl4, lstAt_new, it_tup, it_rol, kTup_eq, kLen_eq, wipe0, wipe1, b_nm, List.set_cons_zero, List.set_cons_succ, List.length_cons, List.length_nil, List.nil_append, List.cons_append, List.append_nil, List.isEmpty_cons, List.isEmpty_nil, true_and, and_true, false_and, and_false, true_implies, forall_const, not_true_eq_false, not_false_eq_true, implies_true, decide_eq_true_eq, decide_eq_false_iff_not, Bool.not_eq_true', Bool.not_eq_false', Bool.not_true, Bool.not_false, if_true, if_false, Bool.false_eq_true, Bool.true_eq_false, reduceCtorEq, false_implies, eq_self, it_loc lt5]
    refine WS_loop (fun ds σ S' => FeedOk S' ∧ Fr S S' ∧ lstAt S' S5.length = some [D.non, .int low, .int (at_ - 1), .int at_, .int (low + 4)] ∧ (∀ y ∈ ds, Half y) ∧ ∃ (b : Option D), σ = [some (.loc 1), some (.loc l), some (.int low), some (.int at_), some (FD [⟨n, low, low + 4⟩, ⟨m, low, low + 4⟩]), some (.tup (rs.map rp)), some (.int i), b]) ⟨hF5.app _, F5.app _, lt5, ?_, b, rfl⟩ ?_ ?_
    · intro y hy
      simp only [List.mem_cons, List.not_mem_nil, or_false] at hy
      rcases hy with rfl | rfl | rfl | rfl | rfl
      · exact .inl rfl
      all_goals exact .inr ⟨_, rfl⟩
    · rintro d r σ S6 ⟨hF6, F6, hl6, hd, b, rfl⟩
      refine ⟨lstAt_iff.mp hl6, ?_⟩
      have hdh := hd d (by simp)
      simp only [↓reduceIte, ↓W_ok, ↓W_exn, ↓W_var0, ↓W_varS, ↓W_K, ↓W_bin, ↓W_un, ↓W_aNil, ↓W_aCons, ↓W_arg, ↓W_call, ↓W_of, ↓WB_test, ↓tc_bl, ↓WB_tru, ↓trc, ↓WB_and, ↓WB_or, ↓WB_not, ↓W_if, ↓W_andV, ↓W_orV, ↓W_notV, ↓WM_some, ↓WM_none, ↓WO_some, ↓tr_bl, ↓tr_non, ↓tr_int, ↓tr_tup, ↓tr_rol, ↓WS_nx, ↓WS_rt, ↓WS_ct, ↓WS_bk, ↓WS_exn, ↓WS_seq, ↓WS_nil, ↓WS_retN, ↓WS_break, ↓WS_cont, ↓WS_expr, ↓WS_ret, ↓WS_if, ↓WS_set, ↓WS_par, ↓WS_asg, ↓WS_gSet, ↓WS_gN, ↓WS_gC, ↓WS_gUn, ↓WS_gSub, ↓WS_aug, ↓o_add, ↓o_iadd, ↓o_sub, ↓o_neg, ↓o_mul, ↓o_mod, ↓o_div, ↓o_pow, ↓o_addT, ↓o_addS, ↓o_addL, ↓o_lt, ↓o_le, ↓o_gt, ↓o_ge, ↓o_eq, ↓o_ne, ↓o_eqS, ↓o_neS, ↓o_eqB, ↓o_neB, ↓o_eqT, ↓o_neT, ↓o_eqN, ↓o_neN, ↓o_ltT, ↓o_leT, ↓o_is, ↓o_isnot, ↓o_isB, ↓o_isnotB, ↓o_inT, ↓o_ninT, ↓o_inL, ↓o_ninL, ↓o_ixT, ↓o_ixR, ↓o_ixL, ↓o_ixS, ↓o_str, ↓o_strS, ↓o_set, ↓o_lenT, ↓o_lenR, ↓o_lenL, ↓o_lenS, ↓o_int, ↓o_intT, ↓o_intF, ↓o_abs, ↓o_max, ↓o_min, ↓o_tuple, ↓o_list, ↓o_tup0, ↓o_tup1, ↓o_tup2, ↓o_tup3, ↓o_tup4, ↓o_tup5, ↓o_tup6, ↓o_lst0, ↓o_lst1, ↓o_lst2, ↓o_lst3, ↓o_lst4, ↓o_lst5, ↓o_lst6, ↓o_sum, ↓W_meth, ↓o_append, ↓o_extend, ↓o_popAt, ↓W_cut, ↓W_noPart, ↓W_part, ↓o_cutT, ↓o_cutR, ↓o_cutL, ↓W_isi, ↓W_ch, ↓WS_for, ↓WI_iter, ↓WI_range1, ↓WI_range2, ↓WI_range3, ↓WI_enum, ↓WS_f0, ↓WS_f1, ↓W_alloc, ↓W_ofL, ↓W_comp, ↓WB_yes, ↓W_c0, ↓W_c1, ↓W_listRg, ↓W_tupRg, ↓W_rRange1, ↓W_rRange2, o_intT, o_intF, o_intB, o_ixL, o_ixT, beq_self_eq_true, decide_true, decide_false, okEq, okCmp, okIn, D.fits, D.fitsL, D.dep, D.depL, D.eqv, D.eqvL, D.alike, D.alikeL, isBl_bl, isN_non, isN_bl, isN_int, isN_str, isN_tup, isN_rol, isN_loc, Nat.reduceAdd, Nat.reduceSub, Nat.max_self, Nat.min_self, Nat.max_zero, Nat.zero_max, Nat.min_zero, Nat.zero_min, ty_non, ty_bl, ty_int, ty_str, ty_tup, ty_rol, ty_loc, kb_bool_bool, kb_bool_int, kb_bool_str, kb_bool_tuple, kb_bool_list, kb_int_bool, kb_int_int, kb_int_str, kb_int_tuple, kb_int_list, kb_str_bool, kb_str_int, kb_str_str, kb_str_tuple, kb_str_list, kb_tuple_bool, kb_tuple_int, kb_tuple_str, kb_tuple_tuple, kb_tuple_list, kb_list_bool, kb_list_int, kb_list_str, kb_list_tuple, kb_list_list, kb_NoneType_bool, kb_NoneType_int, kb_NoneType_str, kb_NoneType_tuple, kb_NoneType_list, Nat.zero_add, c02, lstAt_setE, Option.map_some, lstAt_set_ne, ne_eq, Nat.reduceEqDiff, Nat.one_ne_zero, Nat.zero_ne_one, ix_1_0, ix_2_0, ix_2_1, ix_3_0, ix_3_1, ix_3_2, ix_4_0, ix_4_1, ix_4_2, ix_4_3, ix_5_0, ix_5_1, ix_5_2, ix_5_3, ix_5_4, ix_6_0, ix_6_1, ix_6_2, ix_6_3, ix_6_4, ix_6_5, Nat.reduceLeDiff, Int.reduceAdd, Int.reduceSub, Int.reduceMul, Int.reduceNeg, Int.reducePow, Int.reduceLT, Int.reduceLE, Int.reduceEq, Int.reduceToNat, Bool.and_true, Bool.true_and, Bool.and_self, Bool.and_false, Bool.false_and, Bool.and_eq_true, Bool.and_eq_false_imp, and_self, WS_qdn, WS_qdr, WS_qde, WS_qdb, WS_qdc, qn1, qn2, qn3, qn4, qn5, qk1, qk5, lq1, lq2, lq3, lq4, lq5, intD_int, items_tup, items_rol, items_loc, listOf_loc, listOf_rol, isL_loc, at0, at1, at2, at3, at4, at5, atl1, atl2, atl3, atl4, lstAt_new, it_tup, it_rol, kTup_eq, kLen_eq, wipe0, wipe1, b_nm, List.set_cons_zero, List.set_cons_succ, List.length_cons, List.length_nil, List.nil_append, List.cons_append, List.append_nil, List.isEmpty_cons, List.isEmpty_nil, true_and, and_true, false_and, and_false, true_implies, forall_const, not_true_eq_false, not_false_eq_true, implies_true, decide_eq_true_eq, decide_eq_false_iff_not, Bool.not_eq_true', Bool.not_eq_false', Bool.not_true, Bool.not_false, if_true, if_false, Bool.false_eq_true, Bool.true_eq_false, reduceCtorEq, false_implies, eq_self]
      refine asked_w hF6 hrs (by omega) (by simp) (fun y hy => ?_) fun S7 hF7 F7 => ?_
      · simp only [List.mem_cons, List.not_mem_nil, or_false] at hy
        rcases hy with rfl | rfl
        · exact .inr ⟨_, rfl⟩
        · exact hdh
      simp only [↓reduceIte, ↓W_ok, ↓W_exn, ↓W_var0, ↓W_varS, ↓W_K, ↓W_bin, ↓W_un, ↓W_aNil, ↓W_aCons, ↓W_arg, ↓W_call, ↓W_of, ↓WB_test, ↓tc_bl, ↓WB_tru, ↓trc, ↓WB_and, ↓WB_or, ↓WB_not, ↓W_if, ↓W_andV, ↓W_orV, ↓W_notV, ↓WM_some, ↓WM_none, ↓WO_some, ↓tr_bl, ↓tr_non, ↓tr_int, ↓tr_tup, ↓tr_rol, ↓WS_nx, ↓WS_rt, ↓WS_ct, ↓WS_bk, ↓WS_exn, ↓WS_seq, ↓WS_nil, ↓WS_retN, ↓WS_break, ↓WS_cont, ↓WS_expr, ↓WS_ret, ↓WS_if, ↓WS_set, ↓WS_par, ↓WS_asg, ↓WS_gSet, ↓WS_gN, ↓WS_gC, ↓WS_gUn, ↓WS_gSub, ↓WS_aug, ↓o_add, ↓o_iadd, ↓o_sub, ↓o_neg, ↓o_mul, ↓o_mod, ↓o_div, ↓o_pow, ↓o_addT, ↓o_addS, ↓o_addL, ↓o_lt, ↓o_le, ↓o_gt, ↓o_ge, ↓o_eq, ↓o_ne, ↓o_eqS, ↓o_neS, ↓o_eqB, ↓o_neB, ↓o_eqT, ↓o_neT, ↓o_eqN, ↓o_neN, ↓o_ltT, ↓o_leT, ↓o_is, ↓o_isnot, ↓o_isB, ↓o_isnotB, ↓o_inT, ↓o_ninT, ↓o_inL, ↓o_ninL, ↓o_ixT, ↓o_ixR, ↓o_ixL, ↓o_ixS, ↓o_str, ↓o_strS, ↓o_set, ↓o_lenT, ↓o_lenR, ↓o_lenL, ↓o_lenS, ↓o_int, ↓o_intT, ↓o_intF, ↓o_abs, ↓o_max, ↓o_min, ↓o_tuple, ↓o_list, ↓o_tup0, ↓o_tup1, ↓o_tup2, ↓o_tup3, ↓o_tup4, ↓o_tup5, ↓o_tup6, ↓o_lst0, ↓o_lst1, ↓o_lst2, ↓o_lst3, ↓o_lst4, ↓o_lst5, ↓o_lst6, ↓o_sum, ↓W_meth, ↓o_append, ↓o_extend, ↓o_popAt, ↓W_cut, ↓W_noPart, ↓W_part, ↓o_cutT, ↓o_cutR, ↓o_cutL, ↓W_isi, ↓W_ch, ↓WS_for, ↓WI_iter, ↓WI_range1, ↓WI_range2, ↓WI_range3, ↓WI_enum, ↓WS_f0, ↓WS_f1, ↓W_alloc, ↓W_ofL, ↓W_comp, ↓WB_yes, ↓W_c0, ↓W_c1, ↓W_listRg, ↓W_tupRg, ↓W_rRange1, ↓W_rRange2, o_intT, o_intF, o_intB, o_ixL, o_ixT, beq_self_eq_true, decide_true, decide_false, okEq, okCmp, okIn, D.fits, D.fitsL, D.dep, D.depL, D.eqv, D.eqvL, D.alike, D.alikeL, isBl_bl, isN_non, isN_bl, isN_int, isN_str, isN_tup, isN_rol, isN_loc, Nat.reduceAdd, Nat.reduceSub, Nat.max_self, Nat.min_self, Nat.max_zero, Nat.zero_max, Nat.min_zero, Nat.zero_min, ty_non, ty_bl, ty_int, ty_str, ty_tup, ty_rol, ty_loc, kb_bool_bool, kb_bool_int, kb_bool_str, kb_bool_tuple, kb_bool_list, kb_int_bool, kb_int_int, kb_int_str, kb_int_tuple, kb_int_list, kb_str_bool, kb_str_int, kb_str_str, kb_str_tuple, kb_str_list, kb_tuple_bool, kb_tuple_int, kb_tuple_str, kb_tuple_tuple, kb_tuple_list, kb_list_bool, kb_list_int, kb_list_str, kb_list_tuple, kb_list_list, kb_NoneType_bool, kb_NoneType_int, kb_NoneType_str, kb_NoneType_tuple, kb_NoneType_list, Nat.zero_add, c02, lstAt_setE, Option.map_some, lstAt_set_ne, ne_eq, Nat.reduceEqDiff, Nat.one_ne_zero, Nat.zero_ne_one, ix_1_0, ix_2_0, ix_2_1, ix_3_0, ix_3_1, ix_3_2, ix_4_0, ix_4_1, ix_4_2, ix_4_3, ix_5_0, ix_5_1, ix_5_2, ix_5_3, ix_5_4, ix_6_0, ix_6_1, ix_6_2, ix_6_3, ix_6_4, ix_6_5, Nat.reduceLeDiff, Int.reduceAdd, Int.reduceSub, Int.reduceMul, Int.reduceNeg, Int.reducePow, Int.reduceLT, Int.reduceLE, Int.reduceEq, Int.reduceToNat, Bool.and_true, Bool.true_and, Bool.and_self, Bool.and_false, Bool.false_and, Bool.and_eq_true, Bool.and_eq_false_imp, and_self, WS_qdn, WS_qdr, WS_qde, WS_qdb, WS_qdc, qn1, qn2, qn3, qn4, qn5, qk1, qk5, lq1, lq2, lq3, lq4, lq5, intD_int, items_tup, items_rol, items_loc, listOf_loc, listOf_rol, isL_loc, at0, at1, at2, at3, at4, at5, atl1, atl2, atl3, atl4, lstAt_new, it_tup, it_rol, kTup_eq, kLen_eq, wipe0, wipe1, b_nm, List.set_cons_zero, List.set_cons_succ, List.length_cons, List.length_nil, List.nil_append, List.cons_append, List.append_nil, List.isEmpty_cons, List.isEmpty_nil, true_and, and_true, false_and, and_false, true_implies, forall_const, not_true_eq_false, not_false_eq_true, implies_true, decide_eq_true_eq, decide_eq_false_iff_not, Bool.not_eq_true', Bool.not_eq_false', Bool.not_true, Bool.not_false, if_true, if_false, Bool.false_eq_true, Bool.true_eq_false, reduceCtorEq, false_implies, eq_self]
      refine asked_w hF7 hrs (by omega) (by simp) (fun y hy => ?_) fun S8 hF8 F8 => ?_
      · simp only [List.mem_cons, List.not_mem_nil, or_false] at hy
        rcases hy with rfl | rfl
        · exact .inl rfl
        · exact hdh
      simp only [↓reduceIte, ↓W_ok, ↓W_exn, ↓W_var0, ↓W_varS, ↓W_K, ↓W_bin, ↓W_un, ↓W_aNil, ↓W_aCons, ↓W_arg, ↓W_call, ↓W_of, ↓WB_test, ↓tc_bl, ↓WB_tru, ↓trc, ↓WB_and, ↓WB_or, ↓WB_not, ↓W_if, ↓W_andV, ↓W_orV, ↓W_notV, ↓WM_some, ↓WM_none, ↓WO_some, ↓tr_bl, ↓tr_non, ↓tr_int, ↓tr_tup, ↓tr_rol, ↓WS_nx, ↓WS_rt, ↓WS_ct, ↓WS_bk, ↓WS_exn, ↓WS_seq, ↓WS_nil, ↓WS_retN, ↓WS_break, ↓WS_cont, ↓WS_expr, ↓WS_ret, ↓WS_if, ↓WS_set, ↓WS_par, ↓WS_asg, ↓WS_gSet, ↓WS_gN, ↓WS_gC, ↓WS_gUn, ↓WS_gSub, ↓WS_aug, ↓o_add, ↓o_iadd, ↓o_sub, ↓o_neg, ↓o_mul, ↓o_mod, ↓o_div, ↓o_pow, ↓o_addT, ↓o_addS, ↓o_addL, ↓o_lt, ↓o_le, ↓o_gt, ↓o_ge, ↓o_eq, ↓o_ne, ↓o_eqS, ↓o_neS, ↓o_eqB, ↓o_neB, ↓o_eqT, ↓o_neT, ↓o_eqN, ↓o_neN, ↓o_ltT, ↓o_leT, ↓o_is, ↓o_isnot, ↓o_isB, ↓o_isnotB, ↓o_inT, ↓o_ninT, ↓o_inL, ↓o_ninL, ↓o_ixT, ↓o_ixR, ↓o_ixL, ↓o_ixS, ↓o_str, ↓o_strS, ↓o_set, ↓o_lenT, ↓o_lenR, ↓o_lenL, ↓o_lenS, ↓o_int, ↓o_intT, ↓o_intF, ↓o_abs, ↓o_max, ↓o_min, ↓o_tuple, ↓o_list, ↓o_tup0, ↓o_tup1, ↓o_tup2, ↓o_tup3, ↓o_tup4, ↓o_tup5, ↓o_tup6, ↓o_lst0, ↓o_lst1, ↓o_lst2, ↓o_lst3, ↓o_lst4, ↓o_lst5, ↓o_lst6, ↓o_sum, ↓W_meth, ↓o_append, ↓o_extend, ↓o_popAt, ↓W_cut, ↓W_noPart, ↓W_part, ↓o_cutT, ↓o_cutR, ↓o_cutL, ↓W_isi, ↓W_ch, ↓WS_for, ↓WI_iter, ↓WI_range1, ↓WI_range2, ↓WI_range3, ↓WI_enum, ↓WS_f0, ↓WS_f1, ↓W_alloc, ↓W_ofL, ↓W_comp, ↓WB_yes, ↓W_c0, ↓W_c1, ↓W_listRg, ↓W_tupRg, ↓W_rRange1, ↓W_rRange2, o_intT, o_intF, o_intB, o_ixL, o_ixT, beq_self_eq_true, decide_true, decide_false, okEq, okCmp, okIn, D.fits, D.fitsL, D.dep, D.depL, D.eqv, D.eqvL, D.alike, D.alikeL, isBl_bl, isN_non, isN_bl, isN_int, isN_str, isN_tup, isN_rol, isN_loc, Nat.reduceAdd, Nat.reduceSub, Nat.max_self, Nat.min_self, Nat.max_zero, Nat.zero_max, Nat.min_zero, Nat.zero_min, ty_non, ty_bl, ty_int, ty_str, ty_tup, ty_rol, ty_loc, kb_bool_bool, kb_bool_int, kb_bool_str, kb_bool_tuple, kb_bool_list, kb_int_bool, kb_int_int, kb_int_str, kb_int_tuple, kb_int_list, kb_str_bool, kb_str_int, kb_str_str, kb_str_tuple, kb_str_list, kb_tuple_bool, kb_tuple_int, kb_tuple_str, kb_tuple_tuple, kb_tuple_list, kb_list_bool, kb_list_int, kb_list_str, kb_list_tuple, kb_list_list, kb_NoneType_bool, kb_NoneType_int, kb_NoneType_str, kb_NoneType_tuple, kb_NoneType_list, Nat.zero_add, c02, lstAt_setE, Option.map_some, lstAt_set_ne, ne_eq, Nat.reduceEqDiff, Nat.one_ne_zero, Nat.zero_ne_one, ix_1_0, ix_2_0, ix_2_1, ix_3_0, ix_3_1, ix_3_2, ix_4_0, ix_4_1, ix_4_2, ix_4_3, ix_5_0, ix_5_1, ix_5_2, ix_5_3, ix_5_4, ix_6_0, ix_6_1, ix_6_2, ix_6_3, ix_6_4, ix_6_5, Nat.reduceLeDiff, Int.reduceAdd, Int.reduceSub, Int.reduceMul, Int.reduceNeg, Int.reducePow, Int.reduceLT, Int.reduceLE, Int.reduceEq, Int.reduceToNat, Bool.and_true, Bool.true_and, Bool.and_self, Bool.and_false, Bool.false_and, Bool.and_eq_true, Bool.and_eq_false_imp, and_self, WS_qdn, WS_qdr, WS_qde, WS_qdb, WS_qdc, qn1, qn2, qn3, qn4, qn5, qk1, qk5, lq1, lq2, lq3, lq4, lq5, intD_int, items_tup, items_rol, items_loc, listOf_loc, listOf_rol, isL_loc, at0, at1, at2, at3, at4, at5, atl1, atl2, atl3, atl4, lstAt_new, it_tup, it_rol, kTup_eq, kLen_eq, wipe0, wipe1, b_nm, List.set_cons_zero, List.set_cons_succ, List.length_cons, List.length_nil, List.nil_append, List.cons_append, List.append_nil, List.isEmpty_cons, List.isEmpty_nil, true_and, and_true, false_and, and_false, true_implies, forall_const, not_true_eq_false, not_false_eq_true, implies_true, decide_eq_true_eq, decide_eq_false_iff_not, Bool.not_eq_true', Bool.not_eq_false', Bool.not_true, Bool.not_false, if_true, if_false, Bool.false_eq_true, Bool.true_eq_false, reduceCtorEq, false_implies, eq_self]
      exact ⟨hF8, (F6.trans F7).trans F8, (F7.trans F8).lst h5 hl6, fun y hy => hd y (List.mem_cons_of_mem _ hy), _, rfl⟩
    · rintro σ S6 ⟨hF6, F6, hl6, hd, b, rfl⟩
      refine ⟨lstAt_iff.mp hl6, ?_⟩
      simp only [↓reduceIte, ↓W_ok, ↓W_exn, ↓W_var0, ↓W_varS, ↓W_K, ↓W_bin, ↓W_un, ↓W_aNil, ↓W_aCons, ↓W_arg, ↓W_call, ↓W_of, ↓WB_test, ↓tc_bl, ↓WB_tru, ↓trc, ↓WB_and, ↓WB_or, ↓WB_not, ↓W_if, ↓W_andV, ↓W_orV, ↓W_notV, ↓WM_some, ↓WM_none, ↓WO_some, ↓tr_bl, ↓tr_non, ↓tr_int, ↓tr_tup, ↓tr_rol, ↓WS_nx, ↓WS_rt, ↓WS_ct, ↓WS_bk, ↓WS_exn, ↓WS_seq, ↓WS_nil, ↓WS_retN, ↓WS_break, ↓WS_cont, ↓WS_expr, ↓WS_ret, ↓WS_if, ↓WS_set, ↓WS_par, ↓WS_asg, ↓WS_gSet, ↓WS_gN, ↓WS_gC, ↓WS_gUn, ↓WS_gSub, ↓WS_aug, ↓o_add, ↓o_iadd, ↓o_sub, ↓o_neg, ↓o_mul, ↓o_mod, ↓o_div, ↓o_pow, ↓o_addT, ↓o_addS, ↓o_addL, ↓o_lt, ↓o_le, ↓o_gt, ↓o_ge, ↓o_eq, ↓o_ne, ↓o_eqS, ↓o_neS, ↓o_eqB, ↓o_neB, ↓o_eqT, ↓o_neT, ↓o_eqN, ↓o_neN, ↓o_ltT, ↓o_leT, ↓o_is, ↓o_isnot, ↓o_isB, ↓o_isnotB, ↓o_inT, ↓o_ninT, ↓o_inL, ↓o_ninL, ↓o_ixT, ↓o_ixR, ↓o_ixL, ↓o_ixS, ↓o_str, ↓o_strS, ↓o_set, ↓o_lenT, ↓o_lenR, ↓o_lenL, ↓o_lenS, ↓o_int, ↓o_intT, ↓o_intF, ↓o_abs, ↓o_max, ↓o_min, ↓o_tuple, ↓o_list, ↓o_tup0, ↓o_tup1, ↓o_tup2, ↓o_tup3, ↓o_tup4, ↓o_tup5, ↓o_tup6, ↓o_lst0, ↓o_lst1, ↓o_lst2, ↓o_lst3, ↓o_lst4, ↓o_lst5, ↓o_lst6, ↓o_sum, ↓W_meth, ↓o_append, ↓o_extend, ↓o_popAt, ↓W_cut, ↓W_noPart, ↓W_part, ↓o_cutT, ↓o_cutR, ↓o_cutL, ↓W_isi, ↓W_ch, ↓WS_for, ↓WI_iter, ↓WI_range1, ↓WI_range2, ↓WI_range3, ↓WI_enum, ↓WS_f0, ↓WS_f1, ↓W_alloc, ↓W_ofL, ↓W_comp, ↓WB_yes, ↓W_c0, ↓W_c1, ↓W_listRg, ↓W_tupRg, ↓W_rRange1, ↓W_rRange2, o_intT, o_intF, o_intB, o_ixL, o_ixT, beq_self_eq_true, decide_true, decide_false, okEq, okCmp, okIn, D.fits, D.fitsL, D.dep, D.depL, D.eqv, D.eqvL, D.alike, D.alikeL, isBl_bl, isN_non, isN_bl, isN_int, isN_str, isN_tup, isN_rol, isN_loc, Nat.reduceAdd, Nat.reduceSub, Nat.max_self, Nat.min_self, Nat.max_zero, Nat.zero_max, Nat.min_zero, Nat.zero_min, ty_non, ty_bl, ty_int, ty_str, ty_tup, ty_rol, ty_loc, kb_bool_bool, kb_bool_int, kb_bool_str, kb_bool_tuple, kb_bool_list, kb_int_bool, kb_int_int, kb_int_str, kb_int_tuple, kb_int_list, kb_str_bool, kb_str_int, kb_str_str, kb_str_tuple, kb_str_list, kb_tuple_bool, kb_tuple_int, kb_tuple_str, kb_tuple_tuple, kb_tuple_list, kb_list_bool, kb_list_int, kb_list_str, kb_list_tuple, kb_list_list, kb_NoneType_bool, kb_NoneType_int, kb_NoneType_str, kb_NoneType_tuple, kb_NoneType_list, Nat.zero_add, c02, lstAt_setE, Option.map_some, lstAt_set_ne, ne_eq, Nat.reduceEqDiff, Nat.one_ne_zero, Nat.zero_ne_one, ix_1_0, ix_2_0, ix_2_1, ix_3_0, ix_3_1, ix_3_2, ix_4_0, ix_4_1, ix_4_2, ix_4_3, ix_5_0, ix_5_1, ix_5_2, ix_5_3, ix_5_4, ix_6_0, ix_6_1, ix_6_2, ix_6_3, ix_6_4, ix_6_5, Nat.reduceLeDiff, Int.reduceAdd, Int.reduceSub, Int.reduceMul, Int.reduceNeg, Int.reducePow, Int.reduceLT, Int.reduceLE, Int.reduceEq, Int.reduceToNat, Bool.and_true, Bool.true_and, Bool.and_self, Bool.and_false, Bool.false_and, Bool.and_eq_true, Bool.and_eq_false_imp, and_self, WS_qdn, WS_qdr, WS_qde, WS_qdb, WS_qdc, qn1, qn2, qn3, qn4, qn5, qk1, qk5, lq1, lq2, lq3, lq4, lq5, intD_int, items_tup, items_rol, items_loc, listOf_loc, listOf_rol, isL_loc, at0, at1, at2, at3, at4, at5, atl1, atl2, atl3, atl4, lstAt_new, it_tup, it_rol, kTup_eq, kLen_eq, wipe0, wipe1, b_nm, List.set_cons_zero, List.set_cons_succ, List.length_cons, List.length_nil, List.nil_append, List.cons_append, List.append_nil, List.isEmpty_cons, List.isEmpty_nil, true_and, and_true, false_and, and_false, true_implies, forall_const, not_true_eq_false, not_false_eq_true, implies_true, decide_eq_true_eq, decide_eq_false_iff_not, Bool.not_eq_true', Bool.not_eq_false', Bool.not_true, Bool.not_false, if_true, if_false, Bool.false_eq_true, Bool.true_eq_false, reduceCtorEq, false_implies, eq_self]
      exact ⟨hF6, F6, _, _, rfl⟩
  · rintro σ S5 ⟨hF5, F5, a, b, rfl⟩
    have half2 : ∀ i j : Int, ∀ y ∈ [D.int i, .int j], Half y := fun i j y hy => by
      simp only [List.mem_cons, List.not_mem_nil, or_false] at hy
      rcases hy with rfl | rfl <;> exact .inr ⟨_, rfl⟩
    have g0 : ∀ i j : Int, getD [D.int i, .int j] 0 = .int i := fun _ _ => rfl
    have g1 : ∀ i j : Int, getD [D.int i, .int j] 1 = .int j := fun _ _ => rfl
    have b1 : brkS [.int low, .int (low + 4)] rs = false := by
      unfold brkS
      rw [List.any_eq_false]
      intro r hr
      have := hm r hr
      simp only [List.mem_cons, List.not_mem_nil, or_false] at this
      rcases this with rfl | rfl | rfl
      · simp only [brk, kp, g0, g1, kd_iff _ (.inr rfl : (⟨0, -1, at_ - 1⟩ : Sy).ok), kd_iff _ (.inl rfl : (⟨1, 1, at_⟩ : Sy).ok)]
        simp; omega
      · simp only [brk, kp, g0, g1, kd_iff _ (.inr rfl : (⟨0, -1, low⟩ : Sy).ok), kd_iff _ (.inl rfl : (⟨0, 1, low + 2⟩ : Sy).ok)]
        simp
      · simp only [brk, kp, g0, g1, kd_iff _ (.inl rfl : (⟨1, 1, low + 1⟩ : Sy).ok)]
        simp
    have b2 : brkS [.int at_, .int low] rs = true := by
      unfold brkS
      rw [List.any_eq_true]
      refine ⟨(⟨1, 1, low + 1⟩, ⟨1, 1, low + 1⟩), hm2 _ (by simp), ?_⟩
      simp only [brk, kp, g0, g1, kd_iff _ (.inl rfl : (⟨1, 1, low + 1⟩ : Sy).ok)]
      simp; omega
    simp only [↓reduceIte, ↓W_ok, ↓W_exn, ↓W_var0, ↓W_varS, ↓W_K, ↓W_bin, ↓W_un, ↓W_aNil, ↓W_aCons, ↓W_arg, ↓W_call, ↓W_of, ↓WB_test, ↓tc_bl, ↓WB_tru, ↓trc, ↓WB_and, ↓WB_or, ↓WB_not, ↓W_if, ↓W_andV, ↓W_orV, ↓W_notV, ↓WM_some, ↓WM_none, ↓WO_some, ↓tr_bl, ↓tr_non, ↓tr_int, ↓tr_tup, ↓tr_rol, ↓WS_nx, ↓WS_rt, ↓WS_ct, ↓WS_bk, ↓WS_exn, ↓WS_seq, ↓WS_nil, ↓WS_retN, ↓WS_break, ↓WS_cont, ↓WS_expr, ↓WS_ret, ↓WS_if, ↓WS_set, ↓WS_par, ↓WS_asg, ↓WS_gSet, ↓WS_gN, ↓WS_gC, ↓WS_gUn, ↓WS_gSub, ↓WS_aug, ↓o_add, ↓o_iadd, ↓o_sub, ↓o_neg, ↓o_mul, ↓o_mod, ↓o_div, ↓o_pow, ↓o_addT, ↓o_addS, ↓o_addL, ↓o_lt, ↓o_le, ↓o_gt, ↓o_ge, ↓o_eq, ↓o_ne, ↓o_eqS, ↓o_neS, ↓o_eqB, ↓o_neB, ↓o_eqT, ↓o_neT, ↓o_eqN, ↓o_neN, ↓o_ltT, ↓o_leT, ↓o_is, ↓o_isnot, ↓o_isB, ↓o_isnotB, ↓o_inT, ↓o_ninT, ↓o_inL, ↓o_ninL, ↓o_ixT, ↓o_ixR, ↓o_ixL, ↓o_ixS, ↓o_str, ↓o_strS, ↓o_set, ↓o_lenT, ↓o_lenR, ↓o_lenL, ↓o_lenS, ↓o_int, ↓o_intT, ↓o_intF, ↓o_abs, ↓o_max, ↓o_min, ↓o_tuple, ↓o_list, ↓o_tup0, ↓o_tup1, ↓o_tup2, ↓o_tup3, ↓o_tup4, ↓o_tup5, ↓o_tup6, ↓o_lst0, ↓o_lst1, ↓o_lst2, ↓o_lst3, ↓o_lst4, ↓o_lst5, ↓o_lst6, ↓o_sum, ↓W_meth, ↓o_append, ↓o_extend, ↓o_popAt, ↓W_cut, ↓W_noPart, ↓W_part, ↓o_cutT, ↓o_cutR, ↓o_cutL, ↓W_isi, ↓W_ch, ↓WS_for, ↓WI_iter, ↓WI_range1, ↓WI_range2, ↓WI_range3, ↓WI_enum, ↓WS_f0, ↓WS_f1, ↓W_alloc, ↓W_ofL, ↓W_comp, ↓WB_yes, ↓W_c0, ↓W_c1, ↓W_listRg, ↓W_tupRg, ↓W_rRange1, ↓W_rRange2, o_intT, o_intF, o_intB, o_ixL, o_ixT, beq_self_eq_true, decide_true, decide_false, okEq, okCmp, okIn, D.fits, D.fitsL, D.dep, D.depL, D.eqv, D.eqvL, D.alike, D.alikeL, isBl_bl, isN_non, isN_bl, isN_int, isN_str, isN_tup, isN_rol, isN_loc, Nat.reduceAdd, Nat.reduceSub, Nat.max_self, Nat.min_self, Nat.max_zero, Nat.zero_max, Nat.min_zero, Nat.zero_min, ty_non, ty_bl, ty_int, ty_str, ty_tup, ty_rol, ty_loc, kb_bool_bool, kb_bool_int, kb_bool_str, kb_bool_tuple, kb_bool_list, kb_int_bool, kb_int_int, kb_int_str, kb_int_tuple, kb_int_list, kb_str_bool, kb_str_int, kb_str_str, kb_str_tuple, kb_str_list, kb_tuple_bool, kb_tuple_int, kb_tuple_str, kb_tuple_tuple, kb_tuple_list, kb_list_bool, kb_list_int, kb_list_str, kb_list_tuple, kb_list_list, kb_NoneType_bool, kb_NoneType_int, kb_NoneType_str, kb_NoneType_tuple, kb_NoneType_list, Nat.zero_add, c02, lstAt_setE, Option.map_some, lstAt_set_ne, ne_eq, Nat.reduceEqDiff, Nat.one_ne_zero, Nat.zero_ne_one, ix_1_0, ix_2_0, ix_2_1, ix_3_0, ix_3_1, ix_3_2, ix_4_0, ix_4_1, ix_4_2, ix_4_3, ix_5_0, ix_5_1, ix_5_2, ix_5_3, ix_5_4, ix_6_0, ix_6_1, ix_6_2, ix_6_3, ix_6_4, ix_6_5, Nat.reduceLeDiff, Int.reduceAdd, Int.reduceSub, Int.reduceMul, Int.reduceNeg, Int.reducePow, Int.reduceLT, Int.reduceLE, Int.reduceEq, Int.reduceToNat, Bool.and_true, Bool.true_and, Bool.and_self, Bool.and_false, Bool.false_and, Bool.and_eq_true, Bool.and_eq_false_imp, and_self, WS_qdn, WS_qdr, WS_qde, WS_qdb, WS_qdc, qn1, qn2, qn3, qn4, qn5, qk1, qk5, lq1, lq2, lq3, lq4, lq5, intD_int, items_tup, items_rol, items_loc, listOf_loc, listOf_rol, isL_loc, at0, at1, at2, at3, at4, at5, atl1, atl2, atl3, atl4, lstAt_new, it_tup, it_rol, kTup_eq, kLen_eq, wipe0, wipe1, b_nm, List.set_cons_zero, List.set_cons_succ, List.length_cons, List.length_nil, List.nil_append, List.cons_append, List.append_nil, List.isEmpty_cons, List.isEmpty_nil, true_and, and_true, false_and, and_false, true_implies, forall_const, not_true_eq_false, not_false_eq_true, implies_true, decide_eq_true_eq, decide_eq_false_iff_not, Bool.not_eq_true', Bool.not_eq_false', Bool.not_true, Bool.not_false, if_true, if_false, Bool.false_eq_true, Bool.true_eq_false, reduceCtorEq, false_implies, eq_self]
    refine good_w hrs (half2 _ _) ?_
    simp only [↓reduceIte, ↓W_ok, ↓W_exn, ↓W_var0, ↓W_varS, ↓W_K, ↓W_bin, ↓W_un, ↓W_aNil, ↓W_aCons, ↓W_arg, ↓W_call, ↓W_of, ↓WB_test, ↓tc_bl, ↓WB_tru, ↓trc, ↓WB_and, ↓WB_or, ↓WB_not, ↓W_if, ↓W_andV, ↓W_orV, ↓W_notV, ↓WM_some, ↓WM_none, ↓WO_some, ↓tr_bl, ↓tr_non, ↓tr_int, ↓tr_tup, ↓tr_rol, ↓WS_nx, ↓WS_rt, ↓WS_ct, ↓WS_bk, ↓WS_exn, ↓WS_seq, ↓WS_nil, ↓WS_retN, ↓WS_break, ↓WS_cont, ↓WS_expr, ↓WS_ret, ↓WS_if, ↓WS_set, ↓WS_par, ↓WS_asg, ↓WS_gSet, ↓WS_gN, ↓WS_gC, ↓WS_gUn, ↓WS_gSub, ↓WS_aug, ↓o_add, ↓o_iadd, ↓o_sub, ↓o_neg, ↓o_mul, ↓o_mod, ↓o_div, ↓o_pow, ↓o_addT, ↓o_addS, ↓o_addL, ↓o_lt, ↓o_le, ↓o_gt, ↓o_ge, ↓o_eq, ↓o_ne, ↓o_eqS, ↓o_neS, ↓o_eqB, ↓o_neB, ↓o_eqT, ↓o_neT, ↓o_eqN, ↓o_neN, ↓o_ltT, ↓o_leT, ↓o_is, ↓o_isnot, ↓o_isB, ↓o_isnotB, ↓o_inT, ↓o_ninT, ↓o_inL, ↓o_ninL, ↓o_ixT, ↓o_ixR, ↓o_ixL, ↓o_ixS, ↓o_str, ↓o_strS, ↓o_set, ↓o_lenT, ↓o_lenR, ↓o_lenL, ↓o_lenS, ↓o_int, ↓o_intT, ↓o_intF, ↓o_abs, ↓o_max, ↓o_min, ↓o_tuple, ↓o_list, ↓o_tup0, ↓o_tup1, ↓o_tup2, ↓o_tup3, ↓o_tup4, ↓o_tup5, ↓o_tup6, ↓o_lst0, ↓o_lst1, ↓o_lst2, ↓o_lst3, ↓o_lst4, ↓o_lst5, ↓o_lst6, ↓o_sum, ↓W_meth, ↓o_append, ↓o_extend, ↓o_popAt, ↓W_cut, ↓W_noPart, ↓W_part, ↓o_cutT, ↓o_cutR, ↓o_cutL, ↓W_isi, ↓W_ch, ↓WS_for, ↓WI_iter, ↓WI_range1, ↓WI_range2, ↓WI_range3, ↓WI_enum, ↓WS_f0, ↓WS_f1, ↓W_alloc, ↓W_ofL, ↓W_comp, ↓WB_yes, ↓W_c0, ↓W_c1, ↓W_listRg, ↓W_tupRg, ↓W_rRange1, ↓W_rRange2, o_intT, o_intF, o_intB, o_ixL, o_ixT, beq_self_eq_true, decide_true, decide_false, okEq, okCmp, okIn, D.fits, D.fitsL, D.dep, D.depL, D.eqv, D.eqvL, D.alike, D.alikeL, isBl_bl, isN_non, isN_bl, isN_int, isN_str, isN_tup, isN_rol, isN_loc, Nat.reduceAdd, Nat.reduceSub, Nat.max_self, Nat.min_self, Nat.max_zero, Nat.zero_max, Nat.min_zero, Nat.zero_min, ty_non, ty_bl, ty_int, ty_str, ty_tup, ty_rol, ty_loc, kb_bool_bool, kb_bool_int, kb_bool_str, kb_bool_tuple, kb_bool_list, kb_int_bool, kb_int_int, kb_int_str, kb_int_tuple, kb_int_list, kb_str_bool, kb_str_int, kb_str_str, kb_str_tuple, kb_str_list, kb_tuple_bool, kb_tuple_int, kb_tuple_str, kb_tuple_tuple, kb_tuple_list, kb_list_bool, kb_list_int, kb_list_str, kb_list_tuple, kb_list_list, kb_NoneType_bool, kb_NoneType_int, kb_NoneType_str, kb_NoneType_tuple, kb_NoneType_list, Nat.zero_add, c02, lstAt_setE, Option.map_some, lstAt_set_ne, ne_eq, Nat.reduceEqDiff, Nat.one_ne_zero, Nat.zero_ne_one, ix_1_0, ix_2_0, ix_2_1, ix_3_0, ix_3_1, ix_3_2, ix_4_0, ix_4_1, ix_4_2, ix_4_3, ix_5_0, ix_5_1, ix_5_2, ix_5_3, ix_5_4, ix_6_0, ix_6_1, ix_6_2, ix_6_3, ix_6_4, ix_6_5, Nat.reduceLeDiff, Int.reduceAdd, Int.reduceSub, Int.reduceMul, Int.reduceNeg, Int.reducePow, Int.reduceLT, Int.reduceLE, Int.reduceEq, Int.reduceToNat, Bool.and_true, Bool.true_and, Bool.and_self, Bool.and_false, Bool.false_and, Bool.and_eq_true, Bool.and_eq_false_imp, and_self, WS_qdn, WS_qdr, WS_qde, WS_qdb, WS_qdc, qn1, qn2, qn3, qn4, qn5, qk1, qk5, lq1, lq2, lq3, lq4, lq5, intD_int, items_tup, items_rol, items_loc, listOf_loc, listOf_rol, isL_loc, at0, at1, at2, at3, at4, at5, atl1, atl2, atl3, atl4, lstAt_new, it_tup, it_rol, kTup_eq, kLen_eq, wipe0, wipe1, b_nm, List.set_cons_zero, List.set_cons_succ, List.length_cons, List.length_nil, List.nil_append, List.cons_append, List.append_nil, List.isEmpty_cons, List.isEmpty_nil, true_and, and_true, false_and, and_false, true_implies, forall_const, not_true_eq_false, not_false_eq_true, implies_true, decide_eq_true_eq, decide_eq_false_iff_not, Bool.not_eq_true', Bool.not_eq_false', Bool.not_true, Bool.not_false, if_true, if_false, Bool.false_eq_true, Bool.true_eq_false, reduceCtorEq, false_implies, eq_self, b1, full, List.any_cons, List.any_nil, Bool.or_self, Bool.or_false]
    refine good_w hrs (half2 _ _) ?_
    simp only [↓reduceIte, ↓W_ok, ↓W_exn, ↓W_var0, ↓W_varS, ↓W_K, ↓W_bin, ↓W_un, ↓W_aNil, ↓W_aCons, ↓W_arg, ↓W_call, ↓W_of, ↓WB_test, ↓tc_bl, ↓WB_tru, ↓trc, ↓WB_and, ↓WB_or, ↓WB_not, ↓W_if, ↓W_andV, ↓W_orV, ↓W_notV, ↓WM_some, ↓WM_none, ↓WO_some, ↓tr_bl, ↓tr_non, ↓tr_int, ↓tr_tup, ↓tr_rol, ↓WS_nx, ↓WS_rt, ↓WS_ct, ↓WS_bk, ↓WS_exn, ↓WS_seq, ↓WS_nil, ↓WS_retN, ↓WS_break, ↓WS_cont, ↓WS_expr, ↓WS_ret, ↓WS_if, ↓WS_set, ↓WS_par, ↓WS_asg, ↓WS_gSet, ↓WS_gN, ↓WS_gC, ↓WS_gUn, ↓WS_gSub, ↓WS_aug, ↓o_add, ↓o_iadd, ↓o_sub, ↓o_neg, ↓o_mul, ↓o_mod, ↓o_div, ↓o_pow, ↓o_addT, ↓o_addS, ↓o_addL, ↓o_lt, ↓o_le, ↓o_gt, ↓o_ge, ↓o_eq, ↓o_ne, ↓o_eqS, ↓o_neS, ↓o_eqB, ↓o_neB, ↓o_eqT, ↓o_neT, ↓o_eqN, ↓o_neN, ↓o_ltT, ↓o_leT, ↓o_is, ↓o_isnot, ↓o_isB, ↓o_isnotB, ↓o_inT, ↓o_ninT, ↓o_inL, ↓o_ninL, ↓o_ixT, ↓o_ixR, ↓o_ixL, ↓o_ixS, ↓o_str, ↓o_strS, ↓o_set, ↓o_lenT, ↓o_lenR, ↓o_lenL, ↓o_lenS, ↓o_int, ↓o_intT, ↓o_intF, ↓o_abs, ↓o_max, ↓o_min, ↓o_tuple, ↓o_list, ↓o_tup0, ↓o_tup1, ↓o_tup2, ↓o_tup3, ↓o_tup4, ↓o_tup5, ↓o_tup6, ↓o_lst0, ↓o_lst1, ↓o_lst2, ↓o_lst3, ↓o_lst4, ↓o_lst5, ↓o_lst6, ↓o_sum, ↓W_meth, ↓o_append, ↓o_extend, ↓o_popAt, ↓W_cut, ↓W_noPart, ↓W_part, ↓o_cutT, ↓o_cutR, ↓o_cutL, ↓W_isi, ↓W_ch, ↓WS_for, ↓WI_iter, ↓WI_range1, ↓WI_range2, ↓WI_range3, ↓WI_enum, ↓WS_f0, ↓WS_f1, ↓W_alloc, ↓W_ofL, ↓W_comp, ↓WB_yes, ↓W_c0, ↓W_c1, ↓W_listRg, ↓W_tupRg, ↓W_rRange1, ↓W_rRange2, o_intT, o_intF, o_intB, o_ixL, o_ixT, beq_self_eq_true, decide_true, decide_false, okEq, okCmp, okIn, D.fits, D.fitsL, D.dep, D.depL, D.eqv, D.eqvL, D.alike, D.alikeL, isBl_bl, isN_non, isN_bl, isN_int, isN_str, isN_tup, isN_rol, isN_loc, Nat.reduceAdd, Nat.reduceSub, Nat.max_self, Nat.min_self, Nat.max_zero, Nat.zero_max, Nat.min_zero, Nat.zero_min, ty_non, ty_bl, ty_int, ty_str, ty_tup, ty_rol, ty_loc, kb_bool_bool, kb_bool_int, kb_bool_str, kb_bool_tuple, kb_bool_list, kb_int_bool, kb_int_int, kb_int_str, kb_int_tuple, kb_int_list, kb_str_bool, kb_str_int, kb_str_str, kb_str_tuple, kb_str_list, kb_tuple_bool, kb_tuple_int, kb_tuple_str, kb_tuple_tuple, kb_tuple_list, kb_list_bool, kb_list_int, kb_list_str, kb_list_tuple, kb_list_list, kb_NoneType_bool, kb_NoneType_int, kb_NoneType_str, kb_NoneType_tuple, kb_NoneType_list, Nat.zero_add, c02, lstAt_setE, Option.map_some, lstAt_set_ne, ne_eq, Nat.reduceEqDiff, Nat.one_ne_zero, Nat.zero_ne_one, ix_1_0, ix_2_0, ix_2_1, ix_3_0, ix_3_1, ix_3_2, ix_4_0, ix_4_1, ix_4_2, ix_4_3, ix_5_0, ix_5_1, ix_5_2, ix_5_3, ix_5_4, ix_6_0, ix_6_1, ix_6_2, ix_6_3, ix_6_4, ix_6_5, Nat.reduceLeDiff, Int.reduceAdd, Int.reduceSub, Int.reduceMul, Int.reduceNeg, Int.reducePow, Int.reduceLT, Int.reduceLE, Int.reduceEq, Int.reduceToNat, Bool.and_true, Bool.true_and, Bool.and_self, Bool.and_false, Bool.false_and, Bool.and_eq_true, Bool.and_eq_false_imp, and_self, WS_qdn, WS_qdr, WS_qde, WS_qdb, WS_qdc, qn1, qn2, qn3, qn4, qn5, qk1, qk5, lq1, lq2, lq3, lq4, lq5, intD_int, items_tup, items_rol, items_loc, listOf_loc, listOf_rol, isL_loc, at0, at1, at2, at3, at4, at5, atl1, atl2, atl3, atl4, lstAt_new, it_tup, it_rol, kTup_eq, kLen_eq, wipe0, wipe1, b_nm, List.set_cons_zero, List.set_cons_succ, List.length_cons, List.length_nil, List.nil_append, List.cons_append, List.append_nil, List.isEmpty_cons, List.isEmpty_nil, true_and, and_true, false_and, and_false, true_implies, forall_const, not_true_eq_false, not_false_eq_true, implies_true, decide_eq_true_eq, decide_eq_false_iff_not, Bool.not_eq_true', Bool.not_eq_false', Bool.not_true, Bool.not_false, if_true, if_false, Bool.false_eq_true, Bool.true_eq_false, reduceCtorEq, false_implies, eq_self, b2, full, List.any_cons, List.any_nil, Bool.or_self, Bool.or_false]
    exact h _ hF5 F5
end
end LW

namespace LW
open PySem PySem.Spec PyProof.Rows L2 DL
section
variable {x : XQ} {Q : D → Store → Prop} {tt : Tg (x, Q)} {S : Store} {s t : Sy}
theorem sayL_38 : ∀ {k : Nat} {fs : List Fld}, (∀ f ∈ fs, f.hi = f.lo + 19) → (sayL k fs).length = 38 * fs.length
  | _, [], _ => rfl
  | k, f :: r, h => by
    rw [sayL, List.length_append, List.length_cons, sayL_38 (k := k + 1) fun g hg => h g (List.mem_cons_of_mem _ hg)]
    have := h f (by simp)
    unfold sayF
    rw [List.length_append, List.length_map, List.length_map, intsTo_len, intsTo_len]
    omega
/-- the sheet that is changed -/
def tW (rs : List (Sy × Sy)) (d : D) : Bool := (ixD d == 0) || !((D.eqv ((rs.map rp).getD (ixD d) .non) ((rs.map rp).getD (ixD d - 1) .non)))
theorem all2_ints {ds ys : List D} (h : All2 (fun _ y => ∃ i : Int, y = D.int i) ds ys) : ∃ as : List Int, ys = as.map D.int ∧ as.length = ds.length := by
  induction h with
  | nil => exact ⟨[], rfl, rfl⟩
  | cons p _ ih =>
    obtain ⟨i, rfl⟩ := p
    obtain ⟨as, rfl, hl⟩ := ih
    exact ⟨i :: as, rfl, by simp [hl]⟩
theorem ixN_of {n : Nat} {i : Int} (h0 : 0 ≤ i) (h1 : i < n) : ixN n i = some i.toNat := by
  unfold ixN
  rw [if_pos h0, if_pos h1]
theorem wide_w (hF : FeedOk S) (h : ∀ S', FeedOk S' → Fr S S' → Q (.bl true) S') : W (x, Q) tt (m__law_wide_good [.loc 1] S) := by
  have g0 := hF.len
  simp only [↓reduceIte, ↓W_ok, ↓W_exn, ↓W_var0, ↓W_varS, ↓W_K, ↓W_bin, ↓W_un, ↓W_aNil, ↓W_aCons, ↓W_arg, ↓W_call, ↓W_of, ↓WB_test, ↓tc_bl, ↓WB_tru, ↓trc, ↓WB_and, ↓WB_or, ↓WB_not, ↓W_if, ↓W_andV, ↓W_orV, ↓W_notV, ↓WM_some, ↓WM_none, ↓WO_some, ↓tr_bl, ↓tr_non, ↓tr_int, ↓tr_tup, ↓tr_rol, ↓WS_nx, ↓WS_rt, ↓WS_ct, ↓WS_bk, ↓WS_exn, ↓WS_seq, ↓WS_nil, ↓WS_retN, ↓WS_break, ↓WS_cont, ↓WS_expr, ↓WS_ret, ↓WS_if, ↓WS_set, ↓WS_par, ↓WS_asg, ↓WS_gSet, ↓WS_gN, ↓WS_gC, ↓WS_gUn, ↓WS_gSub, ↓WS_aug, ↓o_add, ↓o_iadd, ↓o_sub, ↓o_neg, ↓o_mul, ↓o_mod, ↓o_div, ↓o_pow, ↓o_addT, ↓o_addS, ↓o_addL, ↓o_lt, ↓o_le, ↓o_gt, ↓o_ge, ↓o_eq, ↓o_ne, ↓o_eqS, ↓o_neS, ↓o_eqB, ↓o_neB, ↓o_eqT, ↓o_neT, ↓o_eqN, ↓o_neN, ↓o_ltT, ↓o_leT, ↓o_is, ↓o_isnot, ↓o_isB, ↓o_isnotB, ↓o_inT, ↓o_ninT, ↓o_inL, ↓o_ninL, ↓o_ixT, ↓o_ixR, ↓o_ixL, ↓o_ixS, ↓o_str, ↓o_strS, ↓o_set, ↓o_lenT, ↓o_lenR, ↓o_lenL, ↓o_lenS, ↓o_int, ↓o_intT, ↓o_intF, ↓o_abs, ↓o_max, ↓o_min, ↓o_tuple, ↓o_list, ↓o_tup0, ↓o_tup1, ↓o_tup2, ↓o_tup3, ↓o_tup4, ↓o_tup5, ↓o_tup6, ↓o_lst0, ↓o_lst1, ↓o_lst2, ↓o_lst3, ↓o_lst4, ↓o_lst5, ↓o_lst6, ↓o_sum, ↓W_meth, ↓o_append, ↓o_extend, ↓o_popAt, ↓W_cut, ↓W_noPart, ↓W_part, ↓o_cutT, ↓o_cutR, ↓o_cutL, ↓W_isi, ↓W_ch, ↓WS_for, ↓WI_iter, ↓WI_range1, ↓WI_range2, ↓WI_range3, ↓WI_enum, ↓WS_f0, ↓WS_f1, ↓W_alloc, ↓W_ofL, ↓W_comp, ↓WB_yes, ↓W_c0, ↓W_c1, ↓W_listRg, ↓W_tupRg, ↓W_rRange1, ↓W_rRange2, o_intT, o_intF, o_intB, o_ixL, o_ixT, beq_self_eq_true, decide_true, decide_false, okEq, okCmp, okIn, D.fits, D.fitsL, D.dep, D.depL, D.eqv, D.eqvL, D.alike, D.alikeL, isBl_bl, isN_non, isN_bl, isN_int, isN_str, isN_tup, isN_rol, isN_loc, Nat.reduceAdd, Nat.reduceSub, Nat.max_self, Nat.min_self, Nat.max_zero, Nat.zero_max, Nat.min_zero, Nat.zero_min, ty_non, ty_bl, ty_int, ty_str, ty_tup, ty_rol, ty_loc, kb_bool_bool, kb_bool_int, kb_bool_str, kb_bool_tuple, kb_bool_list, kb_int_bool, kb_int_int, kb_int_str, kb_int_tuple, kb_int_list, kb_str_bool, kb_str_int, kb_str_str, kb_str_tuple, kb_str_list, kb_tuple_bool, kb_tuple_int, kb_tuple_str, kb_tuple_tuple, kb_tuple_list, kb_list_bool, kb_list_int, kb_list_str, kb_list_tuple, kb_list_list, kb_NoneType_bool, kb_NoneType_int, kb_NoneType_str, kb_NoneType_tuple, kb_NoneType_list, Nat.zero_add, c02, lstAt_setE, Option.map_some, lstAt_set_ne, ne_eq, Nat.reduceEqDiff, Nat.one_ne_zero, Nat.zero_ne_one, ix_1_0, ix_2_0, ix_2_1, ix_3_0, ix_3_1, ix_3_2, ix_4_0, ix_4_1, ix_4_2, ix_4_3, ix_5_0, ix_5_1, ix_5_2, ix_5_3, ix_5_4, ix_6_0, ix_6_1, ix_6_2, ix_6_3, ix_6_4, ix_6_5, Nat.reduceLeDiff, Int.reduceAdd, Int.reduceSub, Int.reduceMul, Int.reduceNeg, Int.reducePow, Int.reduceLT, Int.reduceLE, Int.reduceEq, Int.reduceToNat, Bool.and_true, Bool.true_and, Bool.and_self, Bool.and_false, Bool.false_and, Bool.and_eq_true, Bool.and_eq_false_imp, and_self, WS_qdn, WS_qdr, WS_qde, WS_qdb, WS_qdc, qn1, qn2, qn3, qn4, qn5, qk1, qk5, lq1, lq2, lq3, lq4, lq5, intD_int, items_tup, items_rol, items_loc, listOf_loc, listOf_rol, isL_loc, at0, at1, at2, at3, at4, at5, atl1, atl2, atl3, atl4, lstAt_new, it_tup, it_rol, kTup_eq, kLen_eq, wipe0, wipe1, b_nm, List.set_cons_zero, List.set_cons_succ, List.length_cons, List.length_nil, List.nil_append, List.cons_append, List.append_nil, List.isEmpty_cons, List.isEmpty_nil, true_and, and_true, false_and, and_false, true_implies, forall_const, not_true_eq_false, not_false_eq_true, implies_true, decide_eq_true_eq, decide_eq_false_iff_not, Bool.not_eq_true', Bool.not_eq_false', Bool.not_true, Bool.not_false, if_true, if_false, Bool.false_eq_true, Bool.true_eq_false, reduceCtorEq, false_implies, eq_self, wm__law_wide_good, b__law_wide_good]
  refine names_w hF (by omega) (by omega) fun ns S1 l hnl hn hF1 F1 hl1 hL => ?_
  have g1 := hF1.len
  have hlt := lstAt_lt hL
  simp only [↓reduceIte, ↓W_ok, ↓W_exn, ↓W_var0, ↓W_varS, ↓W_K, ↓W_bin, ↓W_un, ↓W_aNil, ↓W_aCons, ↓W_arg, ↓W_call, ↓W_of, ↓WB_test, ↓tc_bl, ↓WB_tru, ↓trc, ↓WB_and, ↓WB_or, ↓WB_not, ↓W_if, ↓W_andV, ↓W_orV, ↓W_notV, ↓WM_some, ↓WM_none, ↓WO_some, ↓tr_bl, ↓tr_non, ↓tr_int, ↓tr_tup, ↓tr_rol, ↓WS_nx, ↓WS_rt, ↓WS_ct, ↓WS_bk, ↓WS_exn, ↓WS_seq, ↓WS_nil, ↓WS_retN, ↓WS_break, ↓WS_cont, ↓WS_expr, ↓WS_ret, ↓WS_if, ↓WS_set, ↓WS_par, ↓WS_asg, ↓WS_gSet, ↓WS_gN, ↓WS_gC, ↓WS_gUn, ↓WS_gSub, ↓WS_aug, ↓o_add, ↓o_iadd, ↓o_sub, ↓o_neg, ↓o_mul, ↓o_mod, ↓o_div, ↓o_pow, ↓o_addT, ↓o_addS, ↓o_addL, ↓o_lt, ↓o_le, ↓o_gt, ↓o_ge, ↓o_eq, ↓o_ne, ↓o_eqS, ↓o_neS, ↓o_eqB, ↓o_neB, ↓o_eqT, ↓o_neT, ↓o_eqN, ↓o_neN, ↓o_ltT, ↓o_leT, ↓o_is, ↓o_isnot, ↓o_isB, ↓o_isnotB, ↓o_inT, ↓o_ninT, ↓o_inL, ↓o_ninL, ↓o_ixT, ↓o_ixR, ↓o_ixL, ↓o_ixS, ↓o_str, ↓o_strS, ↓o_set, ↓o_lenT, ↓o_lenR, ↓o_lenL, ↓o_lenS, ↓o_int, ↓o_intT, ↓o_intF, ↓o_abs, ↓o_max, ↓o_min, ↓o_tuple, ↓o_list, ↓o_tup0, ↓o_tup1, ↓o_tup2, ↓o_tup3, ↓o_tup4, ↓o_tup5, ↓o_tup6, ↓o_lst0, ↓o_lst1, ↓o_lst2, ↓o_lst3, ↓o_lst4, ↓o_lst5, ↓o_lst6, ↓o_sum, ↓W_meth, ↓o_append, ↓o_extend, ↓o_popAt, ↓W_cut, ↓W_noPart, ↓W_part, ↓o_cutT, ↓o_cutR, ↓o_cutL, ↓W_isi, ↓W_ch, ↓WS_for, ↓WI_iter, ↓WI_range1, ↓WI_range2, ↓WI_range3, ↓WI_enum, ↓WS_f0, ↓WS_f1, ↓W_alloc, ↓W_ofL, ↓W_comp, ↓WB_yes, ↓W_c0, ↓W_c1, ↓W_listRg, ↓W_tupRg, ↓W_rRange1, ↓W_rRange2, o_intT, o_intF, o_intB, o_ixL, o_ixT, beq_self_eq_true, decide_true, decide_false, okEq, okCmp, okIn, D.fits, D.fitsL, D.dep, D.depL, D.eqv, D.eqvL, D.alike, D.alikeL, isBl_bl, isN_non, isN_bl, isN_int, isN_str, isN_tup, isN_rol, isN_loc, Nat.reduceAdd, Nat.reduceSub, Nat.max_self, Nat.min_self, Nat.max_zero, Nat.zero_max, Nat.min_zero, Nat.zero_min, ty_non, ty_bl, ty_int, ty_str, ty_tup, ty_rol, ty_loc, kb_bool_bool, kb_bool_int, kb_bool_str, kb_bool_tuple, kb_bool_list, kb_int_bool, kb_int_int, kb_int_str, kb_int_tuple, kb_int_list, kb_str_bool, kb_str_int, kb_str_str, kb_str_tuple, kb_str_list, kb_tuple_bool, kb_tuple_int, kb_tuple_str, kb_tuple_tuple, kb_tuple_list, kb_list_bool, kb_list_int, kb_list_str, kb_list_tuple, kb_list_list, kb_NoneType_bool, kb_NoneType_int, kb_NoneType_str, kb_NoneType_tuple, kb_NoneType_list, Nat.zero_add, c02, lstAt_setE, Option.map_some, lstAt_set_ne, ne_eq, Nat.reduceEqDiff, Nat.one_ne_zero, Nat.zero_ne_one, ix_1_0, ix_2_0, ix_2_1, ix_3_0, ix_3_1, ix_3_2, ix_4_0, ix_4_1, ix_4_2, ix_4_3, ix_5_0, ix_5_1, ix_5_2, ix_5_3, ix_5_4, ix_6_0, ix_6_1, ix_6_2, ix_6_3, ix_6_4, ix_6_5, Nat.reduceLeDiff, Int.reduceAdd, Int.reduceSub, Int.reduceMul, Int.reduceNeg, Int.reducePow, Int.reduceLT, Int.reduceLE, Int.reduceEq, Int.reduceToNat, Bool.and_true, Bool.true_and, Bool.and_self, Bool.and_false, Bool.false_and, Bool.and_eq_true, Bool.and_eq_false_imp, and_self, WS_qdn, WS_qdr, WS_qde, WS_qdb, WS_qdc, qn1, qn2, qn3, qn4, qn5, qk1, qk5, lq1, lq2, lq3, lq4, lq5, intD_int, items_tup, items_rol, items_loc, listOf_loc, listOf_rol, isL_loc, at0, at1, at2, at3, at4, at5, atl1, atl2, atl3, atl4, lstAt_new, it_tup, it_rol, kTup_eq, kLen_eq, wipe0, wipe1, b_nm, List.set_cons_zero, List.set_cons_succ, List.length_cons, List.length_nil, List.nil_append, List.cons_append, List.append_nil, List.isEmpty_cons, List.isEmpty_nil, true_and, and_true, false_and, and_false, true_implies, forall_const, not_true_eq_false, not_false_eq_true, implies_true, decide_eq_true_eq, decide_eq_false_iff_not, Bool.not_eq_true', Bool.not_eq_false', Bool.not_true, Bool.not_false, if_true, if_false, Bool.false_eq_true, Bool.true_eq_false, reduceCtorEq, false_implies, eq_self]
  refine ⟨by constructor <;> omega, ?_⟩
  refine WS_rloop (fun i σ S' => FeedOk S' ∧ Fr S1 S' ∧ ∃ (fs : List Fld) (a b : Option D), σ = [some (.loc 1), some (.loc l), some (.loc S1.length), a, none, none, none, none, none, none, none, none, none, none, b, none] ∧ (fs.length : Int) = i ∧ (∀ f ∈ fs, f.ok ∧ f.hi = f.lo + 19) ∧ lstAt S' S1.length = some (fs.map Fld.d)) ⟨hF1.app _, (Fr.refl _).app _, [], none, none, rfl, rfl, by simp, lstAt_new⟩ ?_ ?_
  · rintro i σ S2 i0 i1 ⟨hF2, F2, fs, a, b, rfl, hfl, hok, hf⟩
    simp only [↓reduceIte, ↓W_ok, ↓W_exn, ↓W_var0, ↓W_varS, ↓W_K, ↓W_bin, ↓W_un, ↓W_aNil, ↓W_aCons, ↓W_arg, ↓W_call, ↓W_of, ↓WB_test, ↓tc_bl, ↓WB_tru, ↓trc, ↓WB_and, ↓WB_or, ↓WB_not, ↓W_if, ↓W_andV, ↓W_orV, ↓W_notV, ↓WM_some, ↓WM_none, ↓WO_some, ↓tr_bl, ↓tr_non, ↓tr_int, ↓tr_tup, ↓tr_rol, ↓WS_nx, ↓WS_rt, ↓WS_ct, ↓WS_bk, ↓WS_exn, ↓WS_seq, ↓WS_nil, ↓WS_retN, ↓WS_break, ↓WS_cont, ↓WS_expr, ↓WS_ret, ↓WS_if, ↓WS_set, ↓WS_par, ↓WS_asg, ↓WS_gSet, ↓WS_gN, ↓WS_gC, ↓WS_gUn, ↓WS_gSub, ↓WS_aug, ↓o_add, ↓o_iadd, ↓o_sub, ↓o_neg, ↓o_mul, ↓o_mod, ↓o_div, ↓o_pow, ↓o_addT, ↓o_addS, ↓o_addL, ↓o_lt, ↓o_le, ↓o_gt, ↓o_ge, ↓o_eq, ↓o_ne, ↓o_eqS, ↓o_neS, ↓o_eqB, ↓o_neB, ↓o_eqT, ↓o_neT, ↓o_eqN, ↓o_neN, ↓o_ltT, ↓o_leT, ↓o_is, ↓o_isnot, ↓o_isB, ↓o_isnotB, ↓o_inT, ↓o_ninT, ↓o_inL, ↓o_ninL, ↓o_ixT, ↓o_ixR, ↓o_ixL, ↓o_ixS, ↓o_str, ↓o_strS, ↓o_set, ↓o_lenT, ↓o_lenR, ↓o_lenL, ↓o_lenS, ↓o_int, ↓o_intT, ↓o_intF, ↓o_abs, ↓o_max, ↓o_min, ↓o_tuple, ↓o_list, ↓o_tup0, ↓o_tup1, ↓o_tup2, ↓o_tup3, ↓o_tup4, ↓o_tup5, ↓o_tup6, ↓o_lst0, ↓o_lst1, ↓o_lst2, ↓o_lst3, ↓o_lst4, ↓o_lst5, ↓o_lst6, ↓o_sum, ↓W_meth, ↓o_append, ↓o_extend, ↓o_popAt, ↓W_cut, ↓W_noPart, ↓W_part, ↓o_cutT, ↓o_cutR, ↓o_cutL, ↓W_isi, ↓W_ch, ↓WS_for, ↓WI_iter, ↓WI_range1, ↓WI_range2, ↓WI_range3, ↓WI_enum, ↓WS_f0, ↓WS_f1, ↓W_alloc, ↓W_ofL, ↓W_comp, ↓WB_yes, ↓W_c0, ↓W_c1, ↓W_listRg, ↓W_tupRg, ↓W_rRange1, ↓W_rRange2, o_intT, o_intF, o_intB, o_ixL, o_ixT, beq_self_eq_true, decide_true, decide_false, okEq, okCmp, okIn, D.fits, D.fitsL, D.dep, D.depL, D.eqv, D.eqvL, D.alike, D.alikeL, isBl_bl, isN_non, isN_bl, isN_int, isN_str, isN_tup, isN_rol, isN_loc, Nat.reduceAdd, Nat.reduceSub, Nat.max_self, Nat.min_self, Nat.max_zero, Nat.zero_max, Nat.min_zero, Nat.zero_min, ty_non, ty_bl, ty_int, ty_str, ty_tup, ty_rol, ty_loc, kb_bool_bool, kb_bool_int, kb_bool_str, kb_bool_tuple, kb_bool_list, kb_int_bool, kb_int_int, kb_int_str, kb_int_tuple, kb_int_list, kb_str_bool, kb_str_int, kb_str_str, kb_str_tuple, kb_str_list, kb_tuple_bool, kb_tuple_int, kb_tuple_str, kb_tuple_tuple, kb_tuple_list, kb_list_bool, kb_list_int, kb_list_str, kb_list_tuple, kb_list_list, kb_NoneType_bool, kb_NoneType_int, kb_NoneType_str, kb_NoneType_tuple, kb_NoneType_list, Nat.zero_add, c02, lstAt_setE, Option.map_some, lstAt_set_ne, ne_eq, Nat.reduceEqDiff, Nat.one_ne_zero, Nat.zero_ne_one, ix_1_0, ix_2_0, ix_2_1, ix_3_0, ix_3_1, ix_3_2, ix_4_0, ix_4_1, ix_4_2, ix_4_3, ix_5_0, ix_5_1, ix_5_2, ix_5_3, ix_5_4, ix_6_0, ix_6_1, ix_6_2, ix_6_3, ix_6_4, ix_6_5, Nat.reduceLeDiff, Int.reduceAdd, Int.reduceSub, Int.reduceMul, Int.reduceNeg, Int.reducePow, Int.reduceLT, Int.reduceLE, Int.reduceEq, Int.reduceToNat, Bool.and_true, Bool.true_and, Bool.and_self, Bool.and_false, Bool.false_and, Bool.and_eq_true, Bool.and_eq_false_imp, and_self, WS_qdn, WS_qdr, WS_qde, WS_qdb, WS_qdc, qn1, qn2, qn3, qn4, qn5, qk1, qk5, lq1, lq2, lq3, lq4, lq5, intD_int, items_tup, items_rol, items_loc, listOf_loc, listOf_rol, isL_loc, at0, at1, at2, at3, at4, at5, atl1, atl2, atl3, atl4, lstAt_new, it_tup, it_rol, kTup_eq, kLen_eq, wipe0, wipe1, b_nm, List.set_cons_zero, List.set_cons_succ, List.length_cons, List.length_nil, List.nil_append, List.cons_append, List.append_nil, List.isEmpty_cons, List.isEmpty_nil, true_and, and_true, false_and, and_false, true_implies, forall_const, not_true_eq_false, not_false_eq_true, implies_true, decide_eq_true_eq, decide_eq_false_iff_not, Bool.not_eq_true', Bool.not_eq_false', Bool.not_true, Bool.not_false, if_true, if_false, Bool.false_eq_true, Bool.true_eq_false, reduceCtorEq, false_implies, eq_self]
    refine draw_w hF2 (by omega) fun v S3 v0 v1 hF3 F3 => ?_
    have hL3 := (F2.trans F3).lst (by omega) hL
    have hf3 := F3.lst g1 hf
    simp only [↓reduceIte, ↓W_ok, ↓W_exn, ↓W_var0, ↓W_varS, ↓W_K, ↓W_bin, ↓W_un, ↓W_aNil, ↓W_aCons, ↓W_arg, ↓W_call, ↓W_of, ↓WB_test, ↓tc_bl, ↓WB_tru, ↓trc, ↓WB_and, ↓WB_or, ↓WB_not, ↓W_if, ↓W_andV, ↓W_orV, ↓W_notV, ↓WM_some, ↓WM_none, ↓WO_some, ↓tr_bl, ↓tr_non, ↓tr_int, ↓tr_tup, ↓tr_rol, ↓WS_nx, ↓WS_rt, ↓WS_ct, ↓WS_bk, ↓WS_exn, ↓WS_seq, ↓WS_nil, ↓WS_retN, ↓WS_break, ↓WS_cont, ↓WS_expr, ↓WS_ret, ↓WS_if, ↓WS_set, ↓WS_par, ↓WS_asg, ↓WS_gSet, ↓WS_gN, ↓WS_gC, ↓WS_gUn, ↓WS_gSub, ↓WS_aug, ↓o_add, ↓o_iadd, ↓o_sub, ↓o_neg, ↓o_mul, ↓o_mod, ↓o_div, ↓o_pow, ↓o_addT, ↓o_addS, ↓o_addL, ↓o_lt, ↓o_le, ↓o_gt, ↓o_ge, ↓o_eq, ↓o_ne, ↓o_eqS, ↓o_neS, ↓o_eqB, ↓o_neB, ↓o_eqT, ↓o_neT, ↓o_eqN, ↓o_neN, ↓o_ltT, ↓o_leT, ↓o_is, ↓o_isnot, ↓o_isB, ↓o_isnotB, ↓o_inT, ↓o_ninT, ↓o_inL, ↓o_ninL, ↓o_ixT, ↓o_ixR, ↓o_ixL, ↓o_ixS, ↓o_str, ↓o_strS, ↓o_set, ↓o_lenT, ↓o_lenR, ↓o_lenL, ↓o_lenS, ↓o_int, ↓o_intT, ↓o_intF, ↓o_abs, ↓o_max, ↓o_min, ↓o_tuple, ↓o_list, ↓o_tup0, ↓o_tup1, ↓o_tup2, ↓o_tup3, ↓o_tup4, ↓o_tup5, ↓o_tup6, ↓o_lst0, ↓o_lst1, ↓o_lst2, ↓o_lst3, ↓o_lst4, ↓o_lst5, ↓o_lst6, ↓o_sum, ↓W_meth, ↓o_append, ↓o_extend, ↓o_popAt, ↓W_cut, ↓W_noPart, ↓W_part, ↓o_cutT, ↓o_cutR, ↓o_cutL, ↓W_isi, ↓W_ch, ↓WS_for, ↓WI_iter, ↓WI_range1, ↓WI_range2, ↓WI_range3, ↓WI_enum, ↓WS_f0, ↓WS_f1, ↓W_alloc, ↓W_ofL, ↓W_comp, ↓WB_yes, ↓W_c0, ↓W_c1, ↓W_listRg, ↓W_tupRg, ↓W_rRange1, ↓W_rRange2, o_intT, o_intF, o_intB, o_ixL, o_ixT, beq_self_eq_true, decide_true, decide_false, okEq, okCmp, okIn, D.fits, D.fitsL, D.dep, D.depL, D.eqv, D.eqvL, D.alike, D.alikeL, isBl_bl, isN_non, isN_bl, isN_int, isN_str, isN_tup, isN_rol, isN_loc, Nat.reduceAdd, Nat.reduceSub, Nat.max_self, Nat.min_self, Nat.max_zero, Nat.zero_max, Nat.min_zero, Nat.zero_min, ty_non, ty_bl, ty_int, ty_str, ty_tup, ty_rol, ty_loc, kb_bool_bool, kb_bool_int, kb_bool_str, kb_bool_tuple, kb_bool_list, kb_int_bool, kb_int_int, kb_int_str, kb_int_tuple, kb_int_list, kb_str_bool, kb_str_int, kb_str_str, kb_str_tuple, kb_str_list, kb_tuple_bool, kb_tuple_int, kb_tuple_str, kb_tuple_tuple, kb_tuple_list, kb_list_bool, kb_list_int, kb_list_str, kb_list_tuple, kb_list_list, kb_NoneType_bool, kb_NoneType_int, kb_NoneType_str, kb_NoneType_tuple, kb_NoneType_list, Nat.zero_add, c02, lstAt_setE, Option.map_some, lstAt_set_ne, ne_eq, Nat.reduceEqDiff, Nat.one_ne_zero, Nat.zero_ne_one, ix_1_0, ix_2_0, ix_2_1, ix_3_0, ix_3_1, ix_3_2, ix_4_0, ix_4_1, ix_4_2, ix_4_3, ix_5_0, ix_5_1, ix_5_2, ix_5_3, ix_5_4, ix_6_0, ix_6_1, ix_6_2, ix_6_3, ix_6_4, ix_6_5, Nat.reduceLeDiff, Int.reduceAdd, Int.reduceSub, Int.reduceMul, Int.reduceNeg, Int.reducePow, Int.reduceLT, Int.reduceLE, Int.reduceEq, Int.reduceToNat, Bool.and_true, Bool.true_and, Bool.and_self, Bool.and_false, Bool.false_and, Bool.and_eq_true, Bool.and_eq_false_imp, and_self, WS_qdn, WS_qdr, WS_qde, WS_qdb, WS_qdc, qn1, qn2, qn3, qn4, qn5, qk1, qk5, lq1, lq2, lq3, lq4, lq5, intD_int, items_tup, items_rol, items_loc, listOf_loc, listOf_rol, isL_loc, at0, at1, at2, at3, at4, at5, atl1, atl2, atl3, atl4, lstAt_new, it_tup, it_rol, kTup_eq, kLen_eq, wipe0, wipe1, b_nm, List.set_cons_zero, List.set_cons_succ, List.length_cons, List.length_nil, List.nil_append, List.cons_append, List.append_nil, List.isEmpty_cons, List.isEmpty_nil, true_and, and_true, false_and, and_false, true_implies, forall_const, not_true_eq_false, not_false_eq_true, implies_true, decide_eq_true_eq, decide_eq_false_iff_not, Bool.not_eq_true', Bool.not_eq_false', Bool.not_true, Bool.not_false, if_true, if_false, Bool.false_eq_true, Bool.true_eq_false, reduceCtorEq, false_implies, eq_self, hL3, hf3]
    refine WM_at i0 (by rw [List.length_map]; omega) fun y hy => ?_
    obtain ⟨n, hn1, rfl⟩ := List.mem_map.mp hy
    simp only [↓reduceIte, ↓W_ok, ↓W_exn, ↓W_var0, ↓W_varS, ↓W_K, ↓W_bin, ↓W_un, ↓W_aNil, ↓W_aCons, ↓W_arg, ↓W_call, ↓W_of, ↓WB_test, ↓tc_bl, ↓WB_tru, ↓trc, ↓WB_and, ↓WB_or, ↓WB_not, ↓W_if, ↓W_andV, ↓W_orV, ↓W_notV, ↓WM_some, ↓WM_none, ↓WO_some, ↓tr_bl, ↓tr_non, ↓tr_int, ↓tr_tup, ↓tr_rol, ↓WS_nx, ↓WS_rt, ↓WS_ct, ↓WS_bk, ↓WS_exn, ↓WS_seq, ↓WS_nil, ↓WS_retN, ↓WS_break, ↓WS_cont, ↓WS_expr, ↓WS_ret, ↓WS_if, ↓WS_set, ↓WS_par, ↓WS_asg, ↓WS_gSet, ↓WS_gN, ↓WS_gC, ↓WS_gUn, ↓WS_gSub, ↓WS_aug, ↓o_add, ↓o_iadd, ↓o_sub, ↓o_neg, ↓o_mul, ↓o_mod, ↓o_div, ↓o_pow, ↓o_addT, ↓o_addS, ↓o_addL, ↓o_lt, ↓o_le, ↓o_gt, ↓o_ge, ↓o_eq, ↓o_ne, ↓o_eqS, ↓o_neS, ↓o_eqB, ↓o_neB, ↓o_eqT, ↓o_neT, ↓o_eqN, ↓o_neN, ↓o_ltT, ↓o_leT, ↓o_is, ↓o_isnot, ↓o_isB, ↓o_isnotB, ↓o_inT, ↓o_ninT, ↓o_inL, ↓o_ninL, ↓o_ixT, ↓o_ixR, ↓o_ixL, ↓o_ixS, ↓o_str, ↓o_strS, ↓o_set, ↓o_lenT, ↓o_lenR, ↓o_lenL, ↓o_lenS, ↓o_int, ↓o_intT, ↓o_intF, ↓o_abs, ↓o_max, ↓o_min, ↓o_tuple, ↓o_list, ↓o_tup0, ↓o_tup1, ↓o_tup2, ↓o_tup3, ↓o_tup4, ↓o_tup5, ↓o_tup6, ↓o_lst0, ↓o_lst1, ↓o_lst2, ↓o_lst3, ↓o_lst4, ↓o_lst5, ↓o_lst6, ↓o_sum, ↓W_meth, ↓o_append, ↓o_extend, ↓o_popAt, ↓W_cut, ↓W_noPart, ↓W_part, ↓o_cutT, ↓o_cutR, ↓o_cutL, ↓W_isi, ↓W_ch, ↓WS_for, ↓WI_iter, ↓WI_range1, ↓WI_range2, ↓WI_range3, ↓WI_enum, ↓WS_f0, ↓WS_f1, ↓W_alloc, ↓W_ofL, ↓W_comp, ↓WB_yes, ↓W_c0, ↓W_c1, ↓W_listRg, ↓W_tupRg, ↓W_rRange1, ↓W_rRange2, o_intT, o_intF, o_intB, o_ixL, o_ixT, beq_self_eq_true, decide_true, decide_false, okEq, okCmp, okIn, D.fits, D.fitsL, D.dep, D.depL, D.eqv, D.eqvL, D.alike, D.alikeL, isBl_bl, isN_non, isN_bl, isN_int, isN_str, isN_tup, isN_rol, isN_loc, Nat.reduceAdd, Nat.reduceSub, Nat.max_self, Nat.min_self, Nat.max_zero, Nat.zero_max, Nat.min_zero, Nat.zero_min, ty_non, ty_bl, ty_int, ty_str, ty_tup, ty_rol, ty_loc, kb_bool_bool, kb_bool_int, kb_bool_str, kb_bool_tuple, kb_bool_list, kb_int_bool, kb_int_int, kb_int_str, kb_int_tuple, kb_int_list, kb_str_bool, kb_str_int, kb_str_str, kb_str_tuple, kb_str_list, kb_tuple_bool, kb_tuple_int, kb_tuple_str, kb_tuple_tuple, kb_tuple_list, kb_list_bool, kb_list_int, kb_list_str, kb_list_tuple, kb_list_list, kb_NoneType_bool, kb_NoneType_int, kb_NoneType_str, kb_NoneType_tuple, kb_NoneType_list, Nat.zero_add, c02, lstAt_setE, Option.map_some, lstAt_set_ne, ne_eq, Nat.reduceEqDiff, Nat.one_ne_zero, Nat.zero_ne_one, ix_1_0, ix_2_0, ix_2_1, ix_3_0, ix_3_1, ix_3_2, ix_4_0, ix_4_1, ix_4_2, ix_4_3, ix_5_0, ix_5_1, ix_5_2, ix_5_3, ix_5_4, ix_6_0, ix_6_1, ix_6_2, ix_6_3, ix_6_4, ix_6_5, Nat.reduceLeDiff, Int.reduceAdd, Int.reduceSub, Int.reduceMul, Int.reduceNeg, Int.reducePow, Int.reduceLT, Int.reduceLE, Int.reduceEq, Int.reduceToNat, Bool.and_true, Bool.true_and, Bool.and_self, Bool.and_false, Bool.false_and, Bool.and_eq_true, Bool.and_eq_false_imp, and_self, WS_qdn, WS_qdr, WS_qde, WS_qdb, WS_qdc, qn1, qn2, qn3, qn4, qn5, qk1, qk5, lq1, lq2, lq3, lq4, lq5, intD_int, items_tup, items_rol, items_loc, listOf_loc, listOf_rol, isL_loc, at0, at1, at2, at3, at4, at5, atl1, atl2, atl3, atl4, lstAt_new, it_tup, it_rol, kTup_eq, kLen_eq, wipe0, wipe1, b_nm, List.set_cons_zero, List.set_cons_succ, List.length_cons, List.length_nil, List.nil_append, List.cons_append, List.append_nil, List.isEmpty_cons, List.isEmpty_nil, true_and, and_true, false_and, and_false, true_implies, forall_const, not_true_eq_false, not_false_eq_true, implies_true, decide_eq_true_eq, decide_eq_false_iff_not, Bool.not_eq_true', Bool.not_eq_false', Bool.not_true, Bool.not_false, if_true, if_false, Bool.false_eq_true, Bool.true_eq_false, reduceCtorEq, false_implies, eq_self, hf3]
    refine ⟨by rw [List.length_map, sizeLine_eq]; omega, hF3.set g1, (F2.trans F3).set (Nat.le_refl _), fs ++ [⟨n, v - 1000, v - 1000 + 19⟩], _, _, rfl, by simp; omega, fun f hf => ?_, by rw [List.map_append]; rfl⟩
    rcases List.mem_append.mp hf with hf | hf
    · exact hok f hf
    · rw [List.mem_singleton.mp hf]
      exact ⟨⟨hn n hn1, by simp only; omega, by simp only; omega, by simp only; omega, by simp only; omega⟩, rfl⟩
  · rintro σ S2 ⟨hF2, F2, fs, a, b, rfl, hfl, hok, hf⟩
    have hfl : fs.length = 12 := by omega
    have hoks : ∀ f ∈ fs, f.ok := fun f hf => (hok f hf).1
    have g2 := hF2.len
    simp only [↓reduceIte, ↓W_ok, ↓W_exn, ↓W_var0, ↓W_varS, ↓W_K, ↓W_bin, ↓W_un, ↓W_aNil, ↓W_aCons, ↓W_arg, ↓W_call, ↓W_of, ↓WB_test, ↓tc_bl, ↓WB_tru, ↓trc, ↓WB_and, ↓WB_or, ↓WB_not, ↓W_if, ↓W_andV, ↓W_orV, ↓W_notV, ↓WM_some, ↓WM_none, ↓WO_some, ↓tr_bl, ↓tr_non, ↓tr_int, ↓tr_tup, ↓tr_rol, ↓WS_nx, ↓WS_rt, ↓WS_ct, ↓WS_bk, ↓WS_exn, ↓WS_seq, ↓WS_nil, ↓WS_retN, ↓WS_break, ↓WS_cont, ↓WS_expr, ↓WS_ret, ↓WS_if, ↓WS_set, ↓WS_par, ↓WS_asg, ↓WS_gSet, ↓WS_gN, ↓WS_gC, ↓WS_gUn, ↓WS_gSub, ↓WS_aug, ↓o_add, ↓o_iadd, ↓o_sub, ↓o_neg, ↓o_mul, ↓o_mod, ↓o_div, ↓o_pow, ↓o_addT, ↓o_addS, ↓o_addL, ↓o_lt, ↓o_le, ↓o_gt, ↓o_ge, ↓o_eq, ↓o_ne, ↓o_eqS, ↓o_neS, ↓o_eqB, ↓o_neB, ↓o_eqT, ↓o_neT, ↓o_eqN, ↓o_neN, ↓o_ltT, ↓o_leT, ↓o_is, ↓o_isnot, ↓o_isB, ↓o_isnotB, ↓o_inT, ↓o_ninT, ↓o_inL, ↓o_ninL, ↓o_ixT, ↓o_ixR, ↓o_ixL, ↓o_ixS, ↓o_str, ↓o_strS, ↓o_set, ↓o_lenT, ↓o_lenR, ↓o_lenL, ↓o_lenS, ↓o_int, ↓o_intT, ↓o_intF, ↓o_abs, ↓o_max, ↓o_min, ↓o_tuple, ↓o_list, ↓o_tup0, ↓o_tup1, ↓o_tup2, ↓o_tup3, ↓o_tup4, ↓o_tup5, ↓o_tup6, ↓o_lst0, ↓o_lst1, ↓o_lst2, ↓o_lst3, ↓o_lst4, ↓o_lst5, ↓o_lst6, ↓o_sum, ↓W_meth, ↓o_append, ↓o_extend, ↓o_popAt, ↓W_cut, ↓W_noPart, ↓W_part, ↓o_cutT, ↓o_cutR, ↓o_cutL, ↓W_isi, ↓W_ch, ↓WS_for, ↓WI_iter, ↓WI_range1, ↓WI_range2, ↓WI_range3, ↓WI_enum, ↓WS_f0, ↓WS_f1, ↓W_alloc, ↓W_ofL, ↓W_comp, ↓WB_yes, ↓W_c0, ↓W_c1, ↓W_listRg, ↓W_tupRg, ↓W_rRange1, ↓W_rRange2, o_intT, o_intF, o_intB, o_ixL, o_ixT, beq_self_eq_true, decide_true, decide_false, okEq, okCmp, okIn, D.fits, D.fitsL, D.dep, D.depL, D.eqv, D.eqvL, D.alike, D.alikeL, isBl_bl, isN_non, isN_bl, isN_int, isN_str, isN_tup, isN_rol, isN_loc, Nat.reduceAdd, Nat.reduceSub, Nat.max_self, Nat.min_self, Nat.max_zero, Nat.zero_max, Nat.min_zero, Nat.zero_min, ty_non, ty_bl, ty_int, ty_str, ty_tup, ty_rol, ty_loc, kb_bool_bool, kb_bool_int, kb_bool_str, kb_bool_tuple, kb_bool_list, kb_int_bool, kb_int_int, kb_int_str, kb_int_tuple, kb_int_list, kb_str_bool, kb_str_int, kb_str_str, kb_str_tuple, kb_str_list, kb_tuple_bool, kb_tuple_int, kb_tuple_str, kb_tuple_tuple, kb_tuple_list, kb_list_bool, kb_list_int, kb_list_str, kb_list_tuple, kb_list_list, kb_NoneType_bool, kb_NoneType_int, kb_NoneType_str, kb_NoneType_tuple, kb_NoneType_list, Nat.zero_add, c02, lstAt_setE, Option.map_some, lstAt_set_ne, ne_eq, Nat.reduceEqDiff, Nat.one_ne_zero, Nat.zero_ne_one, ix_1_0, ix_2_0, ix_2_1, ix_3_0, ix_3_1, ix_3_2, ix_4_0, ix_4_1, ix_4_2, ix_4_3, ix_5_0, ix_5_1, ix_5_2, ix_5_3, ix_5_4, ix_6_0, ix_6_1, ix_6_2, ix_6_3, ix_6_4, ix_6_5, Nat.reduceLeDiff, Int.reduceAdd, Int.reduceSub, Int.reduceMul, Int.reduceNeg, Int.reducePow, Int.reduceLT, Int.reduceLE, Int.reduceEq, Int.reduceToNat, Bool.and_true, Bool.true_and, Bool.and_self, Bool.and_false, Bool.false_and, Bool.and_eq_true, Bool.and_eq_false_imp, and_self, WS_qdn, WS_qdr, WS_qde, WS_qdb, WS_qdc, qn1, qn2, qn3, qn4, qn5, qk1, qk5, lq1, lq2, lq3, lq4, lq5, intD_int, items_tup, items_rol, items_loc, listOf_loc, listOf_rol, isL_loc, at0, at1, at2, at3, at4, at5, atl1, atl2, atl3, atl4, lstAt_new, it_tup, it_rol, kTup_eq, kLen_eq, wipe0, wipe1, b_nm, List.set_cons_zero, List.set_cons_succ, List.length_cons, List.length_nil, List.nil_append, List.cons_append, List.append_nil, List.isEmpty_cons, List.isEmpty_nil, true_and, and_true, false_and, and_false, true_implies, forall_const, not_true_eq_false, not_false_eq_true, implies_true, decide_eq_true_eq, decide_eq_false_iff_not, Bool.not_eq_true', Bool.not_eq_false', Bool.not_true, Bool.not_false, if_true, if_false, Bool.false_eq_true, Bool.true_eq_false, reduceCtorEq, false_implies, eq_self]
    refine sayings_w hF2 (by omega) hoks (Cont.loc g1 hf) fun S3 hF3 F3 hY => ?_
    have hyl : (sayL 0 fs).length = 456 := by rw [sayL_38 fun f hf => (hok f hf).2, hfl]
    have g3 := hF3.len
    simp only [↓reduceIte, ↓W_ok, ↓W_exn, ↓W_var0, ↓W_varS, ↓W_K, ↓W_bin, ↓W_un, ↓W_aNil, ↓W_aCons, ↓W_arg, ↓W_call, ↓W_of, ↓WB_test, ↓tc_bl, ↓WB_tru, ↓trc, ↓WB_and, ↓WB_or, ↓WB_not, ↓W_if, ↓W_andV, ↓W_orV, ↓W_notV, ↓WM_some, ↓WM_none, ↓WO_some, ↓tr_bl, ↓tr_non, ↓tr_int, ↓tr_tup, ↓tr_rol, ↓WS_nx, ↓WS_rt, ↓WS_ct, ↓WS_bk, ↓WS_exn, ↓WS_seq, ↓WS_nil, ↓WS_retN, ↓WS_break, ↓WS_cont, ↓WS_expr, ↓WS_ret, ↓WS_if, ↓WS_set, ↓WS_par, ↓WS_asg, ↓WS_gSet, ↓WS_gN, ↓WS_gC, ↓WS_gUn, ↓WS_gSub, ↓WS_aug, ↓o_add, ↓o_iadd, ↓o_sub, ↓o_neg, ↓o_mul, ↓o_mod, ↓o_div, ↓o_pow, ↓o_addT, ↓o_addS, ↓o_addL, ↓o_lt, ↓o_le, ↓o_gt, ↓o_ge, ↓o_eq, ↓o_ne, ↓o_eqS, ↓o_neS, ↓o_eqB, ↓o_neB, ↓o_eqT, ↓o_neT, ↓o_eqN, ↓o_neN, ↓o_ltT, ↓o_leT, ↓o_is, ↓o_isnot, ↓o_isB, ↓o_isnotB, ↓o_inT, ↓o_ninT, ↓o_inL, ↓o_ninL, ↓o_ixT, ↓o_ixR, ↓o_ixL, ↓o_ixS, ↓o_str, ↓o_strS, ↓o_set, ↓o_lenT, ↓o_lenR, ↓o_lenL, ↓o_lenS, ↓o_int, ↓o_intT, ↓o_intF, ↓o_abs, ↓o_max, ↓o_min, ↓o_tuple, ↓o_list, ↓o_tup0, ↓o_tup1, ↓o_tup2, ↓o_tup3, ↓o_tup4, ↓o_tup5, ↓o_tup6, ↓o_lst0, ↓o_lst1, ↓o_lst2, ↓o_lst3, ↓o_lst4, ↓o_lst5, ↓o_lst6, ↓o_sum, ↓W_meth, ↓o_append, ↓o_extend, ↓o_popAt, ↓W_cut, ↓W_noPart, ↓W_part, ↓o_cutT, ↓o_cutR, ↓o_cutL, ↓W_isi, ↓W_ch, ↓WS_for, ↓WI_iter, ↓WI_range1, ↓WI_range2, ↓WI_range3, ↓WI_enum, ↓WS_f0, ↓WS_f1, ↓W_alloc, ↓W_ofL, ↓W_comp, ↓WB_yes, ↓W_c0, ↓W_c1, ↓W_listRg, ↓W_tupRg, ↓W_rRange1, ↓W_rRange2, o_intT, o_intF, o_intB, o_ixL, o_ixT, beq_self_eq_true, decide_true, decide_false, okEq, okCmp, okIn, D.fits, D.fitsL, D.dep, D.depL, D.eqv, D.eqvL, D.alike, D.alikeL, isBl_bl, isN_non, isN_bl, isN_int, isN_str, isN_tup, isN_rol, isN_loc, Nat.reduceAdd, Nat.reduceSub, Nat.max_self, Nat.min_self, Nat.max_zero, Nat.zero_max, Nat.min_zero, Nat.zero_min, ty_non, ty_bl, ty_int, ty_str, ty_tup, ty_rol, ty_loc, kb_bool_bool, kb_bool_int, kb_bool_str, kb_bool_tuple, kb_bool_list, kb_int_bool, kb_int_int, kb_int_str, kb_int_tuple, kb_int_list, kb_str_bool, kb_str_int, kb_str_str, kb_str_tuple, kb_str_list, kb_tuple_bool, kb_tuple_int, kb_tuple_str, kb_tuple_tuple, kb_tuple_list, kb_list_bool, kb_list_int, kb_list_str, kb_list_tuple, kb_list_list, kb_NoneType_bool, kb_NoneType_int, kb_NoneType_str, kb_NoneType_tuple, kb_NoneType_list, Nat.zero_add, c02, lstAt_setE, Option.map_some, lstAt_set_ne, ne_eq, Nat.reduceEqDiff, Nat.one_ne_zero, Nat.zero_ne_one, ix_1_0, ix_2_0, ix_2_1, ix_3_0, ix_3_1, ix_3_2, ix_4_0, ix_4_1, ix_4_2, ix_4_3, ix_5_0, ix_5_1, ix_5_2, ix_5_3, ix_5_4, ix_6_0, ix_6_1, ix_6_2, ix_6_3, ix_6_4, ix_6_5, Nat.reduceLeDiff, Int.reduceAdd, Int.reduceSub, Int.reduceMul, Int.reduceNeg, Int.reducePow, Int.reduceLT, Int.reduceLE, Int.reduceEq, Int.reduceToNat, Bool.and_true, Bool.true_and, Bool.and_self, Bool.and_false, Bool.false_and, Bool.and_eq_true, Bool.and_eq_false_imp, and_self, WS_qdn, WS_qdr, WS_qde, WS_qdb, WS_qdc, qn1, qn2, qn3, qn4, qn5, qk1, qk5, lq1, lq2, lq3, lq4, lq5, intD_int, items_tup, items_rol, items_loc, listOf_loc, listOf_rol, isL_loc, at0, at1, at2, at3, at4, at5, atl1, atl2, atl3, atl4, lstAt_new, it_tup, it_rol, kTup_eq, kLen_eq, wipe0, wipe1, b_nm, List.set_cons_zero, List.set_cons_succ, List.length_cons, List.length_nil, List.nil_append, List.cons_append, List.append_nil, List.isEmpty_cons, List.isEmpty_nil, true_and, and_true, false_and, and_false, true_implies, forall_const, not_true_eq_false, not_false_eq_true, implies_true, decide_eq_true_eq, decide_eq_false_iff_not, Bool.not_eq_true', Bool.not_eq_false', Bool.not_true, Bool.not_false, if_true, if_false, Bool.false_eq_true, Bool.true_eq_false, reduceCtorEq, false_implies, eq_self]
    refine draw_w (hF3.app _) (by omega) fun k S4 k0 k1 hF4 F4 => ?_
    simp only [↓reduceIte, ↓W_ok, ↓W_exn, ↓W_var0, ↓W_varS, ↓W_K, ↓W_bin, ↓W_un, ↓W_aNil, ↓W_aCons, ↓W_arg, ↓W_call, ↓W_of, ↓WB_test, ↓tc_bl, ↓WB_tru, ↓trc, ↓WB_and, ↓WB_or, ↓WB_not, ↓W_if, ↓W_andV, ↓W_orV, ↓W_notV, ↓WM_some, ↓WM_none, ↓WO_some, ↓tr_bl, ↓tr_non, ↓tr_int, ↓tr_tup, ↓tr_rol, ↓WS_nx, ↓WS_rt, ↓WS_ct, ↓WS_bk, ↓WS_exn, ↓WS_seq, ↓WS_nil, ↓WS_retN, ↓WS_break, ↓WS_cont, ↓WS_expr, ↓WS_ret, ↓WS_if, ↓WS_set, ↓WS_par, ↓WS_asg, ↓WS_gSet, ↓WS_gN, ↓WS_gC, ↓WS_gUn, ↓WS_gSub, ↓WS_aug, ↓o_add, ↓o_iadd, ↓o_sub, ↓o_neg, ↓o_mul, ↓o_mod, ↓o_div, ↓o_pow, ↓o_addT, ↓o_addS, ↓o_addL, ↓o_lt, ↓o_le, ↓o_gt, ↓o_ge, ↓o_eq, ↓o_ne, ↓o_eqS, ↓o_neS, ↓o_eqB, ↓o_neB, ↓o_eqT, ↓o_neT, ↓o_eqN, ↓o_neN, ↓o_ltT, ↓o_leT, ↓o_is, ↓o_isnot, ↓o_isB, ↓o_isnotB, ↓o_inT, ↓o_ninT, ↓o_inL, ↓o_ninL, ↓o_ixT, ↓o_ixR, ↓o_ixL, ↓o_ixS, ↓o_str, ↓o_strS, ↓o_set, ↓o_lenT, ↓o_lenR, ↓o_lenL, ↓o_lenS, ↓o_int, ↓o_intT, ↓o_intF, ↓o_abs, ↓o_max, ↓o_min, ↓o_tuple, ↓o_list, ↓o_tup0, ↓o_tup1, ↓o_tup2, ↓o_tup3, ↓o_tup4, ↓o_tup5, ↓o_tup6, ↓o_lst0, ↓o_lst1, ↓o_lst2, ↓o_lst3, ↓o_lst4, ↓o_lst5, ↓o_lst6, ↓o_sum, ↓W_meth, ↓o_append, ↓o_extend, ↓o_popAt, ↓W_cut, ↓W_noPart, ↓W_part, ↓o_cutT, ↓o_cutR, ↓o_cutL, ↓W_isi, ↓W_ch, ↓WS_for, ↓WI_iter, ↓WI_range1, ↓WI_range2, ↓WI_range3, ↓WI_enum, ↓WS_f0, ↓WS_f1, ↓W_alloc, ↓W_ofL, ↓W_comp, ↓WB_yes, ↓W_c0, ↓W_c1, ↓W_listRg, ↓W_tupRg, ↓W_rRange1, ↓W_rRange2, o_intT, o_intF, o_intB, o_ixL, o_ixT, beq_self_eq_true, decide_true, decide_false, okEq, okCmp, okIn, D.fits, D.fitsL, D.dep, D.depL, D.eqv, D.eqvL, D.alike, D.alikeL, isBl_bl, isN_non, isN_bl, isN_int, isN_str, isN_tup, isN_rol, isN_loc, Nat.reduceAdd, Nat.reduceSub, Nat.max_self, Nat.min_self, Nat.max_zero, Nat.zero_max, Nat.min_zero, Nat.zero_min, ty_non, ty_bl, ty_int, ty_str, ty_tup, ty_rol, ty_loc, kb_bool_bool, kb_bool_int, kb_bool_str, kb_bool_tuple, kb_bool_list, kb_int_bool, kb_int_int, kb_int_str, kb_int_tuple, kb_int_list, kb_str_bool, kb_str_int, kb_str_str, kb_str_tuple, kb_str_list, kb_tuple_bool, kb_tuple_int, kb_tuple_str, kb_tuple_tuple, kb_tuple_list, kb_list_bool, kb_list_int, kb_list_str, kb_list_tuple, kb_list_list, kb_NoneType_bool, kb_NoneType_int, kb_NoneType_str, kb_NoneType_tuple, kb_NoneType_list, Nat.zero_add, c02, lstAt_setE, Option.map_some, lstAt_set_ne, ne_eq, Nat.reduceEqDiff, Nat.one_ne_zero, Nat.zero_ne_one, ix_1_0, ix_2_0, ix_2_1, ix_3_0, ix_3_1, ix_3_2, ix_4_0, ix_4_1, ix_4_2, ix_4_3, ix_5_0, ix_5_1, ix_5_2, ix_5_3, ix_5_4, ix_6_0, ix_6_1, ix_6_2, ix_6_3, ix_6_4, ix_6_5, Nat.reduceLeDiff, Int.reduceAdd, Int.reduceSub, Int.reduceMul, Int.reduceNeg, Int.reducePow, Int.reduceLT, Int.reduceLE, Int.reduceEq, Int.reduceToNat, Bool.and_true, Bool.true_and, Bool.and_self, Bool.and_false, Bool.false_and, Bool.and_eq_true, Bool.and_eq_false_imp, and_self, WS_qdn, WS_qdr, WS_qde, WS_qdb, WS_qdc, qn1, qn2, qn3, qn4, qn5, qk1, qk5, lq1, lq2, lq3, lq4, lq5, intD_int, items_tup, items_rol, items_loc, listOf_loc, listOf_rol, isL_loc, at0, at1, at2, at3, at4, at5, atl1, atl2, atl3, atl4, lstAt_new, it_tup, it_rol, kTup_eq, kLen_eq, wipe0, wipe1, b_nm, List.set_cons_zero, List.set_cons_succ, List.length_cons, List.length_nil, List.nil_append, List.cons_append, List.append_nil, List.isEmpty_cons, List.isEmpty_nil, true_and, and_true, false_and, and_false, true_implies, forall_const, not_true_eq_false, not_false_eq_true, implies_true, decide_eq_true_eq, decide_eq_false_iff_not, Bool.not_eq_true', Bool.not_eq_false', Bool.not_true, Bool.not_false, if_true, if_false, Bool.false_eq_true, Bool.true_eq_false, reduceCtorEq, false_implies, eq_self, F4.lst g3 lstAt_new]
    refine WM_at k0 k1 fun y hy => ?_
    obtain ⟨st, rfl, hst⟩ : ∃ st : Int, y = .int st ∧ 0 ≤ st ∧ st ≤ 13 := by
      simp only [List.mem_cons, List.not_mem_nil, or_false] at hy
      rcases hy with rfl | rfl | rfl | rfl <;> exact ⟨_, rfl, by omega⟩
    simp only [↓reduceIte, ↓W_ok, ↓W_exn, ↓W_var0, ↓W_varS, ↓W_K, ↓W_bin, ↓W_un, ↓W_aNil, ↓W_aCons, ↓W_arg, ↓W_call, ↓W_of, ↓WB_test, ↓tc_bl, ↓WB_tru, ↓trc, ↓WB_and, ↓WB_or, ↓WB_not, ↓W_if, ↓W_andV, ↓W_orV, ↓W_notV, ↓WM_some, ↓WM_none, ↓WO_some, ↓tr_bl, ↓tr_non, ↓tr_int, ↓tr_tup, ↓tr_rol, ↓WS_nx, ↓WS_rt, ↓WS_ct, ↓WS_bk, ↓WS_exn, ↓WS_seq, ↓WS_nil, ↓WS_retN, ↓WS_break, ↓WS_cont, ↓WS_expr, ↓WS_ret, ↓WS_if, ↓WS_set, ↓WS_par, ↓WS_asg, ↓WS_gSet, ↓WS_gN, ↓WS_gC, ↓WS_gUn, ↓WS_gSub, ↓WS_aug, ↓o_add, ↓o_iadd, ↓o_sub, ↓o_neg, ↓o_mul, ↓o_mod, ↓o_div, ↓o_pow, ↓o_addT, ↓o_addS, ↓o_addL, ↓o_lt, ↓o_le, ↓o_gt, ↓o_ge, ↓o_eq, ↓o_ne, ↓o_eqS, ↓o_neS, ↓o_eqB, ↓o_neB, ↓o_eqT, ↓o_neT, ↓o_eqN, ↓o_neN, ↓o_ltT, ↓o_leT, ↓o_is, ↓o_isnot, ↓o_isB, ↓o_isnotB, ↓o_inT, ↓o_ninT, ↓o_inL, ↓o_ninL, ↓o_ixT, ↓o_ixR, ↓o_ixL, ↓o_ixS, ↓o_str, ↓o_strS, ↓o_set, ↓o_lenT, ↓o_lenR, ↓o_lenL, ↓o_lenS, ↓o_int, ↓o_intT, ↓o_intF, ↓o_abs, ↓o_max, ↓o_min, ↓o_tuple, ↓o_list, ↓o_tup0, ↓o_tup1, ↓o_tup2, ↓o_tup3, ↓o_tup4, ↓o_tup5, ↓o_tup6, ↓o_lst0, ↓o_lst1, ↓o_lst2, ↓o_lst3, ↓o_lst4, ↓o_lst5, ↓o_lst6, ↓o_sum, ↓W_meth, ↓o_append, ↓o_extend, ↓o_popAt, ↓W_cut, ↓W_noPart, ↓W_part, ↓o_cutT, ↓o_cutR, ↓o_cutL, ↓W_isi, ↓W_ch, ↓WS_for, ↓WI_iter, ↓WI_range1, ↓WI_range2, ↓WI_range3, ↓WI_enum, ↓WS_f0, ↓WS_f1, ↓W_alloc, ↓W_ofL, ↓W_comp, ↓WB_yes, ↓W_c0, ↓W_c1, ↓W_listRg, ↓W_tupRg, ↓W_rRange1, ↓W_rRange2, o_intT, o_intF, o_intB, o_ixL, o_ixT, beq_self_eq_true, decide_true, decide_false, okEq, okCmp, okIn, D.fits, D.fitsL, D.dep, D.depL, D.eqv, D.eqvL, D.alike, D.alikeL, isBl_bl, isN_non, isN_bl, isN_int, isN_str, isN_tup, isN_rol, isN_loc, Nat.reduceAdd, Nat.reduceSub, Nat.max_self, Nat.min_self, Nat.max_zero, Nat.zero_max, Nat.min_zero, Nat.zero_min, ty_non, ty_bl, ty_int, ty_str, ty_tup, ty_rol, ty_loc, kb_bool_bool, kb_bool_int, kb_bool_str, kb_bool_tuple, kb_bool_list, kb_int_bool, kb_int_int, kb_int_str, kb_int_tuple, kb_int_list, kb_str_bool, kb_str_int, kb_str_str, kb_str_tuple, kb_str_list, kb_tuple_bool, kb_tuple_int, kb_tuple_str, kb_tuple_tuple, kb_tuple_list, kb_list_bool, kb_list_int, kb_list_str, kb_list_tuple, kb_list_list, kb_NoneType_bool, kb_NoneType_int, kb_NoneType_str, kb_NoneType_tuple, kb_NoneType_list, Nat.zero_add, c02, lstAt_setE, Option.map_some, lstAt_set_ne, ne_eq, Nat.reduceEqDiff, Nat.one_ne_zero, Nat.zero_ne_one, ix_1_0, ix_2_0, ix_2_1, ix_3_0, ix_3_1, ix_3_2, ix_4_0, ix_4_1, ix_4_2, ix_4_3, ix_5_0, ix_5_1, ix_5_2, ix_5_3, ix_5_4, ix_6_0, ix_6_1, ix_6_2, ix_6_3, ix_6_4, ix_6_5, Nat.reduceLeDiff, Int.reduceAdd, Int.reduceSub, Int.reduceMul, Int.reduceNeg, Int.reducePow, Int.reduceLT, Int.reduceLE, Int.reduceEq, Int.reduceToNat, Bool.and_true, Bool.true_and, Bool.and_self, Bool.and_false, Bool.false_and, Bool.and_eq_true, Bool.and_eq_false_imp, and_self, WS_qdn, WS_qdr, WS_qde, WS_qdb, WS_qdc, qn1, qn2, qn3, qn4, qn5, qk1, qk5, lq1, lq2, lq3, lq4, lq5, intD_int, items_tup, items_rol, items_loc, listOf_loc, listOf_rol, isL_loc, at0, at1, at2, at3, at4, at5, atl1, atl2, atl3, atl4, lstAt_new, it_tup, it_rol, kTup_eq, kLen_eq, wipe0, wipe1, b_nm, List.set_cons_zero, List.set_cons_succ, List.length_cons, List.length_nil, List.nil_append, List.cons_append, List.append_nil, List.isEmpty_cons, List.isEmpty_nil, true_and, and_true, false_and, and_false, true_implies, forall_const, not_true_eq_false, not_false_eq_true, implies_true, decide_eq_true_eq, decide_eq_false_iff_not, Bool.not_eq_true', Bool.not_eq_false', Bool.not_true, Bool.not_false, if_true, if_false, Bool.false_eq_true, Bool.true_eq_false, reduceCtorEq, false_implies, eq_self]
    refine draw_w hF4 (by omega) fun first S5 p0 p1 hF5 F5 => ?_
    have hY5 := ((F4.trans F5)).lst g2 (lstAt_app hY)
    have F25 : Fr S2 S5 := (F3.app _).trans (F4.trans F5)
    have g5 := hF5.len
    simp only [↓reduceIte, ↓W_ok, ↓W_exn, ↓W_var0, ↓W_varS, ↓W_K, ↓W_bin, ↓W_un, ↓W_aNil, ↓W_aCons, ↓W_arg, ↓W_call, ↓W_of, ↓WB_test, ↓tc_bl, ↓WB_tru, ↓trc, ↓WB_and, ↓WB_or, ↓WB_not, ↓W_if, ↓W_andV, ↓W_orV, ↓W_notV, ↓WM_some, ↓WM_none, ↓WO_some, ↓tr_bl, ↓tr_non, ↓tr_int, ↓tr_tup, ↓tr_rol, ↓WS_nx, ↓WS_rt, ↓WS_ct, ↓WS_bk, ↓WS_exn, ↓WS_seq, ↓WS_nil, ↓WS_retN, ↓WS_break, ↓WS_cont, ↓WS_expr, ↓WS_ret, ↓WS_if, ↓WS_set, ↓WS_par, ↓WS_asg, ↓WS_gSet, ↓WS_gN, ↓WS_gC, ↓WS_gUn, ↓WS_gSub, ↓WS_aug, ↓o_add, ↓o_iadd, ↓o_sub, ↓o_neg, ↓o_mul, ↓o_mod, ↓o_div, ↓o_pow, ↓o_addT, ↓o_addS, ↓o_addL, ↓o_lt, ↓o_le, ↓o_gt, ↓o_ge, ↓o_eq, ↓o_ne, ↓o_eqS, ↓o_neS, ↓o_eqB, ↓o_neB, ↓o_eqT, ↓o_neT, ↓o_eqN, ↓o_neN, ↓o_ltT, ↓o_leT, ↓o_is, ↓o_isnot, ↓o_isB, ↓o_isnotB, ↓o_inT, ↓o_ninT, ↓o_inL, ↓o_ninL, ↓o_ixT, ↓o_ixR, ↓o_ixL, ↓o_ixS, ↓o_str, ↓o_strS, ↓o_set, ↓o_lenT, ↓o_lenR, ↓o_lenL, ↓o_lenS, ↓o_int, ↓o_intT, ↓o_intF, ↓o_abs, ↓o_max, ↓o_min, ↓o_tuple, ↓o_list, ↓o_tup0, ↓o_tup1, ↓o_tup2, ↓o_tup3, ↓o_tup4, ↓o_tup5, ↓o_tup6, ↓o_lst0, ↓o_lst1, ↓o_lst2, ↓o_lst3, ↓o_lst4, ↓o_lst5, ↓o_lst6, ↓o_sum, ↓W_meth, ↓o_append, ↓o_extend, ↓o_popAt, ↓W_cut, ↓W_noPart, ↓W_part, ↓o_cutT, ↓o_cutR, ↓o_cutL, ↓W_isi, ↓W_ch, ↓WS_for, ↓WI_iter, ↓WI_range1, ↓WI_range2, ↓WI_range3, ↓WI_enum, ↓WS_f0, ↓WS_f1, ↓W_alloc, ↓W_ofL, ↓W_comp, ↓WB_yes, ↓W_c0, ↓W_c1, ↓W_listRg, ↓W_tupRg, ↓W_rRange1, ↓W_rRange2, o_intT, o_intF, o_intB, o_ixL, o_ixT, beq_self_eq_true, decide_true, decide_false, okEq, okCmp, okIn, D.fits, D.fitsL, D.dep, D.depL, D.eqv, D.eqvL, D.alike, D.alikeL, isBl_bl, isN_non, isN_bl, isN_int, isN_str, isN_tup, isN_rol, isN_loc, Nat.reduceAdd, Nat.reduceSub, Nat.max_self, Nat.min_self, Nat.max_zero, Nat.zero_max, Nat.min_zero, Nat.zero_min, ty_non, ty_bl, ty_int, ty_str, ty_tup, ty_rol, ty_loc, kb_bool_bool, kb_bool_int, kb_bool_str, kb_bool_tuple, kb_bool_list, kb_int_bool, kb_int_int, kb_int_str, kb_int_tuple, kb_int_list, kb_str_bool, kb_str_int, kb_str_str, kb_str_tuple, kb_str_list, kb_tuple_bool, kb_tuple_int, kb_tuple_str, kb_tuple_tuple, kb_tuple_list, kb_list_bool, kb_list_int, kb_list_str, kb_list_tuple, kb_list_list, kb_NoneType_bool, kb_NoneType_int, kb_NoneType_str, kb_NoneType_tuple, kb_NoneType_list, Nat.zero_add, c02, lstAt_setE, Option.map_some, lstAt_set_ne, ne_eq, Nat.reduceEqDiff, Nat.one_ne_zero, Nat.zero_ne_one, ix_1_0, ix_2_0, ix_2_1, ix_3_0, ix_3_1, ix_3_2, ix_4_0, ix_4_1, ix_4_2, ix_4_3, ix_5_0, ix_5_1, ix_5_2, ix_5_3, ix_5_4, ix_6_0, ix_6_1, ix_6_2, ix_6_3, ix_6_4, ix_6_5, Nat.reduceLeDiff, Int.reduceAdd, Int.reduceSub, Int.reduceMul, Int.reduceNeg, Int.reducePow, Int.reduceLT, Int.reduceLE, Int.reduceEq, Int.reduceToNat, Bool.and_true, Bool.true_and, Bool.and_self, Bool.and_false, Bool.false_and, Bool.and_eq_true, Bool.and_eq_false_imp, and_self, WS_qdn, WS_qdr, WS_qde, WS_qdb, WS_qdc, qn1, qn2, qn3, qn4, qn5, qk1, qk5, lq1, lq2, lq3, lq4, lq5, intD_int, items_tup, items_rol, items_loc, listOf_loc, listOf_rol, isL_loc, at0, at1, at2, at3, at4, at5, atl1, atl2, atl3, atl4, lstAt_new, it_tup, it_rol, kTup_eq, kLen_eq, wipe0, wipe1, b_nm, List.set_cons_zero, List.set_cons_succ, List.length_cons, List.length_nil, List.nil_append, List.cons_append, List.append_nil, List.isEmpty_cons, List.isEmpty_nil, true_and, and_true, false_and, and_false, true_implies, forall_const, not_true_eq_false, not_false_eq_true, implies_true, decide_eq_true_eq, decide_eq_false_iff_not, Bool.not_eq_true', Bool.not_eq_false', Bool.not_true, Bool.not_false, if_true, if_false, Bool.false_eq_true, Bool.true_eq_false, reduceCtorEq, false_implies, eq_self]
    refine ⟨by constructor <;> omega, ?_⟩
    refine WS_rloop (fun i σ S' => FeedOk S' ∧ Fr S5 S' ∧ ∃ (rs : List (Sy × Sy)) (a : Option D), σ = [some (.loc 1), some (.loc l), some (.loc S1.length), a, some (.loc S2.length), some (.int st), some (.int first), some (.loc S5.length), none, none, none, none, none, none, b, none] ∧ (rs.length : Int) = i ∧ RsOk rs 12 ∧ lstAt S' S5.length = some (rs.map rp)) ⟨hF5.app _, (Fr.refl _).app _, [], _, rfl, rfl, fun r hr => by simp at hr, lstAt_new⟩ ?_ ?_
    · rintro i σ S6 i0 i1 ⟨hF6, F6, rs, a, rfl, hrl, hrs, hR⟩
      have hY6 := F6.lst g2 hY5
      simp only [↓reduceIte, ↓W_ok, ↓W_exn, ↓W_var0, ↓W_varS, ↓W_K, ↓W_bin, ↓W_un, ↓W_aNil, ↓W_aCons, ↓W_arg, ↓W_call, ↓W_of, ↓WB_test, ↓tc_bl, ↓WB_tru, ↓trc, ↓WB_and, ↓WB_or, ↓WB_not, ↓W_if, ↓W_andV, ↓W_orV, ↓W_notV, ↓WM_some, ↓WM_none, ↓WO_some, ↓tr_bl, ↓tr_non, ↓tr_int, ↓tr_tup, ↓tr_rol, ↓WS_nx, ↓WS_rt, ↓WS_ct, ↓WS_bk, ↓WS_exn, ↓WS_seq, ↓WS_nil, ↓WS_retN, ↓WS_break, ↓WS_cont, ↓WS_expr, ↓WS_ret, ↓WS_if, ↓WS_set, ↓WS_par, ↓WS_asg, ↓WS_gSet, ↓WS_gN, ↓WS_gC, ↓WS_gUn, ↓WS_gSub, ↓WS_aug, ↓o_add, ↓o_iadd, ↓o_sub, ↓o_neg, ↓o_mul, ↓o_mod, ↓o_div, ↓o_pow, ↓o_addT, ↓o_addS, ↓o_addL, ↓o_lt, ↓o_le, ↓o_gt, ↓o_ge, ↓o_eq, ↓o_ne, ↓o_eqS, ↓o_neS, ↓o_eqB, ↓o_neB, ↓o_eqT, ↓o_neT, ↓o_eqN, ↓o_neN, ↓o_ltT, ↓o_leT, ↓o_is, ↓o_isnot, ↓o_isB, ↓o_isnotB, ↓o_inT, ↓o_ninT, ↓o_inL, ↓o_ninL, ↓o_ixT, ↓o_ixR, ↓o_ixL, ↓o_ixS, ↓o_str, ↓o_strS, ↓o_set, ↓o_lenT, ↓o_lenR, ↓o_lenL, ↓o_lenS, ↓o_int, ↓o_intT, ↓o_intF, ↓o_abs, ↓o_max, ↓o_min, ↓o_tuple, ↓o_list, ↓o_tup0, ↓o_tup1, ↓o_tup2, ↓o_tup3, ↓o_tup4, ↓o_tup5, ↓o_tup6, ↓o_lst0, ↓o_lst1, ↓o_lst2, ↓o_lst3, ↓o_lst4, ↓o_lst5, ↓o_lst6, ↓o_sum, ↓W_meth, ↓o_append, ↓o_extend, ↓o_popAt, ↓W_cut, ↓W_noPart, ↓W_part, ↓o_cutT, ↓o_cutR, ↓o_cutL, ↓W_isi, ↓W_ch, ↓WS_for, ↓WI_iter, ↓WI_range1, ↓WI_range2, ↓WI_range3, ↓WI_enum, ↓WS_f0, ↓WS_f1, ↓W_alloc, ↓W_ofL, ↓W_comp, ↓WB_yes, ↓W_c0, ↓W_c1, ↓W_listRg, ↓W_tupRg, ↓W_rRange1, ↓W_rRange2, o_intT, o_intF, o_intB, o_ixL, o_ixT, beq_self_eq_true, decide_true, decide_false, okEq, okCmp, okIn, D.fits, D.fitsL, D.dep, D.depL, D.eqv, D.eqvL, D.alike, D.alikeL, isBl_bl, isN_non, isN_bl, isN_int, isN_str, isN_tup, isN_rol, isN_loc, Nat.reduceAdd, Nat.reduceSub, Nat.max_self, Nat.min_self, Nat.max_zero, Nat.zero_max, Nat.min_zero, Nat.zero_min, ty_non, ty_bl, ty_int, ty_str, ty_tup, ty_rol, ty_loc, kb_bool_bool, kb_bool_int, kb_bool_str, kb_bool_tuple, kb_bool_list, kb_int_bool, kb_int_int, kb_int_str, kb_int_tuple, kb_int_list, kb_str_bool, kb_str_int, kb_str_str, kb_str_tuple, kb_str_list, kb_tuple_bool, kb_tuple_int, kb_tuple_str, kb_tuple_tuple, kb_tuple_list, kb_list_bool, kb_list_int, kb_list_str, kb_list_tuple, kb_list_list, kb_NoneType_bool, kb_NoneType_int, kb_NoneType_str, kb_NoneType_tuple, kb_NoneType_list, Nat.zero_add, c02, lstAt_setE, Option.map_some, lstAt_set_ne, ne_eq, Nat.reduceEqDiff, Nat.one_ne_zero, Nat.zero_ne_one, ix_1_0, ix_2_0, ix_2_1, ix_3_0, ix_3_1, ix_3_2, ix_4_0, ix_4_1, ix_4_2, ix_4_3, ix_5_0, ix_5_1, ix_5_2, ix_5_3, ix_5_4, ix_6_0, ix_6_1, ix_6_2, ix_6_3, ix_6_4, ix_6_5, Nat.reduceLeDiff, Int.reduceAdd, Int.reduceSub, Int.reduceMul, Int.reduceNeg, Int.reducePow, Int.reduceLT, Int.reduceLE, Int.reduceEq, Int.reduceToNat, Bool.and_true, Bool.true_and, Bool.and_self, Bool.and_false, Bool.false_and, Bool.and_eq_true, Bool.and_eq_false_imp, and_self, WS_qdn, WS_qdr, WS_qde, WS_qdb, WS_qdc, qn1, qn2, qn3, qn4, qn5, qk1, qk5, lq1, lq2, lq3, lq4, lq5, intD_int, items_tup, items_rol, items_loc, listOf_loc, listOf_rol, isL_loc, at0, at1, at2, at3, at4, at5, atl1, atl2, atl3, atl4, lstAt_new, it_tup, it_rol, kTup_eq, kLen_eq, wipe0, wipe1, b_nm, List.set_cons_zero, List.set_cons_succ, List.length_cons, List.length_nil, List.nil_append, List.cons_append, List.append_nil, List.isEmpty_cons, List.isEmpty_nil, true_and, and_true, false_and, and_false, true_implies, forall_const, not_true_eq_false, not_false_eq_true, implies_true, decide_eq_true_eq, decide_eq_false_iff_not, Bool.not_eq_true', Bool.not_eq_false', Bool.not_true, Bool.not_false, if_true, if_false, Bool.false_eq_true, Bool.true_eq_false, reduceCtorEq, false_implies, eq_self, hY6]
      refine ⟨mul2 (by omega), WM_at (Int.emod_nonneg _ (by omega)) (by rw [hyl]; exact Int.emod_lt_of_pos _ (by omega)) fun y hy => ?_⟩
      obtain ⟨s, rfl, hs⟩ := say_at hy
      simp only [↓reduceIte, ↓W_ok, ↓W_exn, ↓W_var0, ↓W_varS, ↓W_K, ↓W_bin, ↓W_un, ↓W_aNil, ↓W_aCons, ↓W_arg, ↓W_call, ↓W_of, ↓WB_test, ↓tc_bl, ↓WB_tru, ↓trc, ↓WB_and, ↓WB_or, ↓WB_not, ↓W_if, ↓W_andV, ↓W_orV, ↓W_notV, ↓WM_some, ↓WM_none, ↓WO_some, ↓tr_bl, ↓tr_non, ↓tr_int, ↓tr_tup, ↓tr_rol, ↓WS_nx, ↓WS_rt, ↓WS_ct, ↓WS_bk, ↓WS_exn, ↓WS_seq, ↓WS_nil, ↓WS_retN, ↓WS_break, ↓WS_cont, ↓WS_expr, ↓WS_ret, ↓WS_if, ↓WS_set, ↓WS_par, ↓WS_asg, ↓WS_gSet, ↓WS_gN, ↓WS_gC, ↓WS_gUn, ↓WS_gSub, ↓WS_aug, ↓o_add, ↓o_iadd, ↓o_sub, ↓o_neg, ↓o_mul, ↓o_mod, ↓o_div, ↓o_pow, ↓o_addT, ↓o_addS, ↓o_addL, ↓o_lt, ↓o_le, ↓o_gt, ↓o_ge, ↓o_eq, ↓o_ne, ↓o_eqS, ↓o_neS, ↓o_eqB, ↓o_neB, ↓o_eqT, ↓o_neT, ↓o_eqN, ↓o_neN, ↓o_ltT, ↓o_leT, ↓o_is, ↓o_isnot, ↓o_isB, ↓o_isnotB, ↓o_inT, ↓o_ninT, ↓o_inL, ↓o_ninL, ↓o_ixT, ↓o_ixR, ↓o_ixL, ↓o_ixS, ↓o_str, ↓o_strS, ↓o_set, ↓o_lenT, ↓o_lenR, ↓o_lenL, ↓o_lenS, ↓o_int, ↓o_intT, ↓o_intF, ↓o_abs, ↓o_max, ↓o_min, ↓o_tuple, ↓o_list, ↓o_tup0, ↓o_tup1, ↓o_tup2, ↓o_tup3, ↓o_tup4, ↓o_tup5, ↓o_tup6, ↓o_lst0, ↓o_lst1, ↓o_lst2, ↓o_lst3, ↓o_lst4, ↓o_lst5, ↓o_lst6, ↓o_sum, ↓W_meth, ↓o_append, ↓o_extend, ↓o_popAt, ↓W_cut, ↓W_noPart, ↓W_part, ↓o_cutT, ↓o_cutR, ↓o_cutL, ↓W_isi, ↓W_ch, ↓WS_for, ↓WI_iter, ↓WI_range1, ↓WI_range2, ↓WI_range3, ↓WI_enum, ↓WS_f0, ↓WS_f1, ↓W_alloc, ↓W_ofL, ↓W_comp, ↓WB_yes, ↓W_c0, ↓W_c1, ↓W_listRg, ↓W_tupRg, ↓W_rRange1, ↓W_rRange2, o_intT, o_intF, o_intB, o_ixL, o_ixT, beq_self_eq_true, decide_true, decide_false, okEq, okCmp, okIn, D.fits, D.fitsL, D.dep, D.depL, D.eqv, D.eqvL, D.alike, D.alikeL, isBl_bl, isN_non, isN_bl, isN_int, isN_str, isN_tup, isN_rol, isN_loc, Nat.reduceAdd, Nat.reduceSub, Nat.max_self, Nat.min_self, Nat.max_zero, Nat.zero_max, Nat.min_zero, Nat.zero_min, ty_non, ty_bl, ty_int, ty_str, ty_tup, ty_rol, ty_loc, kb_bool_bool, kb_bool_int, kb_bool_str, kb_bool_tuple, kb_bool_list, kb_int_bool, kb_int_int, kb_int_str, kb_int_tuple, kb_int_list, kb_str_bool, kb_str_int, kb_str_str, kb_str_tuple, kb_str_list, kb_tuple_bool, kb_tuple_int, kb_tuple_str, kb_tuple_tuple, kb_tuple_list, kb_list_bool, kb_list_int, kb_list_str, kb_list_tuple, kb_list_list, kb_NoneType_bool, kb_NoneType_int, kb_NoneType_str, kb_NoneType_tuple, kb_NoneType_list, Nat.zero_add, c02, lstAt_setE, Option.map_some, lstAt_set_ne, ne_eq, Nat.reduceEqDiff, Nat.one_ne_zero, Nat.zero_ne_one, ix_1_0, ix_2_0, ix_2_1, ix_3_0, ix_3_1, ix_3_2, ix_4_0, ix_4_1, ix_4_2, ix_4_3, ix_5_0, ix_5_1, ix_5_2, ix_5_3, ix_5_4, ix_6_0, ix_6_1, ix_6_2, ix_6_3, ix_6_4, ix_6_5, Nat.reduceLeDiff, Int.reduceAdd, Int.reduceSub, Int.reduceMul, Int.reduceNeg, Int.reducePow, Int.reduceLT, Int.reduceLE, Int.reduceEq, Int.reduceToNat, Bool.and_true, Bool.true_and, Bool.and_self, Bool.and_false, Bool.false_and, Bool.and_eq_true, Bool.and_eq_false_imp, and_self, WS_qdn, WS_qdr, WS_qde, WS_qdb, WS_qdc, qn1, qn2, qn3, qn4, qn5, qk1, qk5, lq1, lq2, lq3, lq4, lq5, intD_int, items_tup, items_rol, items_loc, listOf_loc, listOf_rol, isL_loc, at0, at1, at2, at3, at4, at5, atl1, atl2, atl3, atl4, lstAt_new, it_tup, it_rol, kTup_eq, kLen_eq, wipe0, wipe1, b_nm, List.set_cons_zero, List.set_cons_succ, List.length_cons, List.length_nil, List.nil_append, List.cons_append, List.append_nil, List.isEmpty_cons, List.isEmpty_nil, true_and, and_true, false_and, and_false, true_implies, forall_const, not_true_eq_false, not_false_eq_true, implies_true, decide_eq_true_eq, decide_eq_false_iff_not, Bool.not_eq_true', Bool.not_eq_false', Bool.not_true, Bool.not_false, if_true, if_false, Bool.false_eq_true, Bool.true_eq_false, reduceCtorEq, false_implies, eq_self, hY6]
      refine ⟨mul2 (by omega), divS (by omega) (by omega), WM_at (Int.emod_nonneg _ (by omega)) (by rw [hyl]; exact Int.emod_lt_of_pos _ (by omega)) fun y hy => ?_⟩
      obtain ⟨t, rfl, ht⟩ := say_at hy
      simp only [↓reduceIte, ↓W_ok, ↓W_exn, ↓W_var0, ↓W_varS, ↓W_K, ↓W_bin, ↓W_un, ↓W_aNil, ↓W_aCons, ↓W_arg, ↓W_call, ↓W_of, ↓WB_test, ↓tc_bl, ↓WB_tru, ↓trc, ↓WB_and, ↓WB_or, ↓WB_not, ↓W_if, ↓W_andV, ↓W_orV, ↓W_notV, ↓WM_some, ↓WM_none, ↓WO_some, ↓tr_bl, ↓tr_non, ↓tr_int, ↓tr_tup, ↓tr_rol, ↓WS_nx, ↓WS_rt, ↓WS_ct, ↓WS_bk, ↓WS_exn, ↓WS_seq, ↓WS_nil, ↓WS_retN, ↓WS_break, ↓WS_cont, ↓WS_expr, ↓WS_ret, ↓WS_if, ↓WS_set, ↓WS_par, ↓WS_asg, ↓WS_gSet, ↓WS_gN, ↓WS_gC, ↓WS_gUn, ↓WS_gSub, ↓WS_aug, ↓o_add, ↓o_iadd, ↓o_sub, ↓o_neg, ↓o_mul, ↓o_mod, ↓o_div, ↓o_pow, ↓o_addT, ↓o_addS, ↓o_addL, ↓o_lt, ↓o_le, ↓o_gt, ↓o_ge, ↓o_eq, ↓o_ne, ↓o_eqS, ↓o_neS, ↓o_eqB, ↓o_neB, ↓o_eqT, ↓o_neT, ↓o_eqN, ↓o_neN, ↓o_ltT, ↓o_leT, ↓o_is, ↓o_isnot, ↓o_isB, ↓o_isnotB, ↓o_inT, ↓o_ninT, ↓o_inL, ↓o_ninL, ↓o_ixT, ↓o_ixR, ↓o_ixL, ↓o_ixS, ↓o_str, ↓o_strS, ↓o_set, ↓o_lenT, ↓o_lenR, ↓o_lenL, ↓o_lenS, ↓o_int, ↓o_intT, ↓o_intF, ↓o_abs, ↓o_max, ↓o_min, ↓o_tuple, ↓o_list, ↓o_tup0, ↓o_tup1, ↓o_tup2, ↓o_tup3, ↓o_tup4, ↓o_tup5, ↓o_tup6, ↓o_lst0, ↓o_lst1, ↓o_lst2, ↓o_lst3, ↓o_lst4, ↓o_lst5, ↓o_lst6, ↓o_sum, ↓W_meth, ↓o_append, ↓o_extend, ↓o_popAt, ↓W_cut, ↓W_noPart, ↓W_part, ↓o_cutT, ↓o_cutR, ↓o_cutL, ↓W_isi, ↓W_ch, ↓WS_for, ↓WI_iter, ↓WI_range1, ↓WI_range2, ↓WI_range3, ↓WI_enum, ↓WS_f0, ↓WS_f1, ↓W_alloc, ↓W_ofL, ↓W_comp, ↓WB_yes, ↓W_c0, ↓W_c1, ↓W_listRg, ↓W_tupRg, ↓W_rRange1, ↓W_rRange2, o_intT, o_intF, o_intB, o_ixL, o_ixT, beq_self_eq_true, decide_true, decide_false, okEq, okCmp, okIn, D.fits, D.fitsL, D.dep, D.depL, D.eqv, D.eqvL, D.alike, D.alikeL, isBl_bl, isN_non, isN_bl, isN_int, isN_str, isN_tup, isN_rol, isN_loc, Nat.reduceAdd, Nat.reduceSub, Nat.max_self, Nat.min_self, Nat.max_zero, Nat.zero_max, Nat.min_zero, Nat.zero_min, ty_non, ty_bl, ty_int, ty_str, ty_tup, ty_rol, ty_loc, kb_bool_bool, kb_bool_int, kb_bool_str, kb_bool_tuple, kb_bool_list, kb_int_bool, kb_int_int, kb_int_str, kb_int_tuple, kb_int_list, kb_str_bool, kb_str_int, kb_str_str, kb_str_tuple, kb_str_list, kb_tuple_bool, kb_tuple_int, kb_tuple_str, kb_tuple_tuple, kb_tuple_list, kb_list_bool, kb_list_int, kb_list_str, kb_list_tuple, kb_list_list, kb_NoneType_bool, kb_NoneType_int, kb_NoneType_str, kb_NoneType_tuple, kb_NoneType_list, Nat.zero_add, c02, lstAt_setE, Option.map_some, lstAt_set_ne, ne_eq, Nat.reduceEqDiff, Nat.one_ne_zero, Nat.zero_ne_one, ix_1_0, ix_2_0, ix_2_1, ix_3_0, ix_3_1, ix_3_2, ix_4_0, ix_4_1, ix_4_2, ix_4_3, ix_5_0, ix_5_1, ix_5_2, ix_5_3, ix_5_4, ix_6_0, ix_6_1, ix_6_2, ix_6_3, ix_6_4, ix_6_5, Nat.reduceLeDiff, Int.reduceAdd, Int.reduceSub, Int.reduceMul, Int.reduceNeg, Int.reducePow, Int.reduceLT, Int.reduceLE, Int.reduceEq, Int.reduceToNat, Bool.and_true, Bool.true_and, Bool.and_self, Bool.and_false, Bool.false_and, Bool.and_eq_true, Bool.and_eq_false_imp, and_self, WS_qdn, WS_qdr, WS_qde, WS_qdb, WS_qdc, qn1, qn2, qn3, qn4, qn5, qk1, qk5, lq1, lq2, lq3, lq4, lq5, intD_int, items_tup, items_rol, items_loc, listOf_loc, listOf_rol, isL_loc, at0, at1, at2, at3, at4, at5, atl1, atl2, atl3, atl4, lstAt_new, it_tup, it_rol, kTup_eq, kLen_eq, wipe0, wipe1, b_nm, List.set_cons_zero, List.set_cons_succ, List.length_cons, List.length_nil, List.nil_append, List.cons_append, List.append_nil, List.isEmpty_cons, List.isEmpty_nil, true_and, and_true, false_and, and_false, true_implies, forall_const, not_true_eq_false, not_false_eq_true, implies_true, decide_eq_true_eq, decide_eq_false_iff_not, Bool.not_eq_true', Bool.not_eq_false', Bool.not_true, Bool.not_false, if_true, if_false, Bool.false_eq_true, Bool.true_eq_false, reduceCtorEq, false_implies, eq_self]
      refine sort2 (s := s) (t := t) (fun a b hab => ?_) lstAt_new
      have hab2 : a.at_ 12 ∧ b.at_ 12 := by rw [hfl] at hs ht; rcases hab with ⟨rfl, rfl⟩ | ⟨rfl, rfl⟩ <;> exact ⟨by assumption, by assumption⟩
      have erp : D.tup [a.d, b.d] = rp (a, b) := rfl
      have hR6 : lstAt ((S6 ++ [Cell.lst [s.d, t.d]]) ++ [Cell.lst [a.d, b.d]]) S5.length = some (rs.map rp) := lstAt_app (lstAt_app hR)
      simp only [↓reduceIte, ↓W_ok, ↓W_exn, ↓W_var0, ↓W_varS, ↓W_K, ↓W_bin, ↓W_un, ↓W_aNil, ↓W_aCons, ↓W_arg, ↓W_call, ↓W_of, ↓WB_test, ↓tc_bl, ↓WB_tru, ↓trc, ↓WB_and, ↓WB_or, ↓WB_not, ↓W_if, ↓W_andV, ↓W_orV, ↓W_notV, ↓WM_some, ↓WM_none, ↓WO_some, ↓tr_bl, ↓tr_non, ↓tr_int, ↓tr_tup, ↓tr_rol, ↓WS_nx, ↓WS_rt, ↓WS_ct, ↓WS_bk, ↓WS_exn, ↓WS_seq, ↓WS_nil, ↓WS_retN, ↓WS_break, ↓WS_cont, ↓WS_expr, ↓WS_ret, ↓WS_if, ↓WS_set, ↓WS_par, ↓WS_asg, ↓WS_gSet, ↓WS_gN, ↓WS_gC, ↓WS_gUn, ↓WS_gSub, ↓WS_aug, ↓o_add, ↓o_iadd, ↓o_sub, ↓o_neg, ↓o_mul, ↓o_mod, ↓o_div, ↓o_pow, ↓o_addT, ↓o_addS, ↓o_addL, ↓o_lt, ↓o_le, ↓o_gt, ↓o_ge, ↓o_eq, ↓o_ne, ↓o_eqS, ↓o_neS, ↓o_eqB, ↓o_neB, ↓o_eqT, ↓o_neT, ↓o_eqN, ↓o_neN, ↓o_ltT, ↓o_leT, ↓o_is, ↓o_isnot, ↓o_isB, ↓o_isnotB, ↓o_inT, ↓o_ninT, ↓o_inL, ↓o_ninL, ↓o_ixT, ↓o_ixR, ↓o_ixL, ↓o_ixS, ↓o_str, ↓o_strS, ↓o_set, ↓o_lenT, ↓o_lenR, ↓o_lenL, ↓o_lenS, ↓o_int, ↓o_intT, ↓o_intF, ↓o_abs, ↓o_max, ↓o_min, ↓o_tuple, ↓o_list, ↓o_tup0, ↓o_tup1, ↓o_tup2, ↓o_tup3, ↓o_tup4, ↓o_tup5, ↓o_tup6, ↓o_lst0, ↓o_lst1, ↓o_lst2, ↓o_lst3, ↓o_lst4, ↓o_lst5, ↓o_lst6, ↓o_sum, ↓W_meth, ↓o_append, ↓o_extend, ↓o_popAt, ↓W_cut, ↓W_noPart, ↓W_part, ↓o_cutT, ↓o_cutR, ↓o_cutL, ↓W_isi, ↓W_ch, ↓WS_for, ↓WI_iter, ↓WI_range1, ↓WI_range2, ↓WI_range3, ↓WI_enum, ↓WS_f0, ↓WS_f1, ↓W_alloc, ↓W_ofL, ↓W_comp, ↓WB_yes, ↓W_c0, ↓W_c1, ↓W_listRg, ↓W_tupRg, ↓W_rRange1, ↓W_rRange2, o_intT, o_intF, o_intB, o_ixL, o_ixT, beq_self_eq_true, decide_true, decide_false, okEq, okCmp, okIn, D.fits, D.fitsL, D.dep, D.depL, D.eqv, D.eqvL, D.alike, D.alikeL, isBl_bl, isN_non, isN_bl, isN_int, isN_str, isN_tup, isN_rol, isN_loc, Nat.reduceAdd, Nat.reduceSub, Nat.max_self, Nat.min_self, Nat.max_zero, Nat.zero_max, Nat.min_zero, Nat.zero_min, ty_non, ty_bl, ty_int, ty_str, ty_tup, ty_rol, ty_loc, kb_bool_bool, kb_bool_int, kb_bool_str, kb_bool_tuple, kb_bool_list, kb_int_bool, kb_int_int, kb_int_str, kb_int_tuple, kb_int_list, kb_str_bool, kb_str_int, kb_str_str, kb_str_tuple, kb_str_list, kb_tuple_bool, kb_tuple_int, kb_tuple_str, kb_tuple_tuple, kb_tuple_list, kb_list_bool, kb_list_int, kb_list_str, kb_list_tuple, kb_list_list, kb_NoneType_bool, kb_NoneType_int, kb_NoneType_str, kb_NoneType_tuple, kb_NoneType_list, Nat.zero_add, c02, lstAt_setE, Option.map_some, lstAt_set_ne, ne_eq, Nat.reduceEqDiff, Nat.one_ne_zero, Nat.zero_ne_one, ix_1_0, ix_2_0, ix_2_1, ix_3_0, ix_3_1, ix_3_2, ix_4_0, ix_4_1, ix_4_2, ix_4_3, ix_5_0, ix_5_1, ix_5_2, ix_5_3, ix_5_4, ix_6_0, ix_6_1, ix_6_2, ix_6_3, ix_6_4, ix_6_5, Nat.reduceLeDiff, Int.reduceAdd, Int.reduceSub, Int.reduceMul, Int.reduceNeg, Int.reducePow, Int.reduceLT, Int.reduceLE, Int.reduceEq, Int.reduceToNat, Bool.and_true, Bool.true_and, Bool.and_self, Bool.and_false, Bool.false_and, Bool.and_eq_true, Bool.and_eq_false_imp, and_self, WS_qdn, WS_qdr, WS_qde, WS_qdb, WS_qdc, qn1, qn2, qn3, qn4, qn5, qk1, qk5, lq1, lq2, lq3, lq4, lq5, intD_int, items_tup, items_rol, items_loc, listOf_loc, listOf_rol, isL_loc, at0, at1, at2, at3, at4, at5, atl1, atl2, atl3, atl4, lstAt_new, it_tup, it_rol, kTup_eq, kLen_eq, wipe0, wipe1, b_nm, List.set_cons_zero, List.set_cons_succ, List.length_cons, List.length_nil, List.nil_append, List.cons_append, List.append_nil, List.isEmpty_cons, List.isEmpty_nil, true_and, and_true, false_and, and_false, true_implies, forall_const, not_true_eq_false, not_false_eq_true, implies_true, decide_eq_true_eq, decide_eq_false_iff_not, Bool.not_eq_true', Bool.not_eq_false', Bool.not_true, Bool.not_false, if_true, if_false, Bool.false_eq_true, Bool.true_eq_false, reduceCtorEq, false_implies, eq_self, erp, hR6]
      refine ⟨by rw [List.length_map, sizeLine_eq]; omega, ((hF6.app _).app _).set g5, ((F6.app _).app _).set (Nat.le_refl _), rs ++ [(a, b)], _, rfl, by simp; omega, fun r hr => ?_, by rw [List.map_append]; rfl⟩
      rcases List.mem_append.mp hr with hr | hr
      · exact hrs r hr
      · rw [List.mem_singleton.mp hr]; exact hab2
    · rintro σ S6 ⟨hF6, F6, rs, a, rfl, hrl, hrs, hR⟩
      simp only [↓reduceIte, ↓W_ok, ↓W_exn, ↓W_var0, ↓W_varS, ↓W_K, ↓W_bin, ↓W_un, ↓W_aNil, ↓W_aCons, ↓W_arg, ↓W_call, ↓W_of, ↓WB_test, ↓tc_bl, ↓WB_tru, ↓trc, ↓WB_and, ↓WB_or, ↓WB_not, ↓W_if, ↓W_andV, ↓W_orV, ↓W_notV, ↓WM_some, ↓WM_none, ↓WO_some, ↓tr_bl, ↓tr_non, ↓tr_int, ↓tr_tup, ↓tr_rol, ↓WS_nx, ↓WS_rt, ↓WS_ct, ↓WS_bk, ↓WS_exn, ↓WS_seq, ↓WS_nil, ↓WS_retN, ↓WS_break, ↓WS_cont, ↓WS_expr, ↓WS_ret, ↓WS_if, ↓WS_set, ↓WS_par, ↓WS_asg, ↓WS_gSet, ↓WS_gN, ↓WS_gC, ↓WS_gUn, ↓WS_gSub, ↓WS_aug, ↓o_add, ↓o_iadd, ↓o_sub, ↓o_neg, ↓o_mul, ↓o_mod, ↓o_div, ↓o_pow, ↓o_addT, ↓o_addS, ↓o_addL, ↓o_lt, ↓o_le, ↓o_gt, ↓o_ge, ↓o_eq, ↓o_ne, ↓o_eqS, ↓o_neS, ↓o_eqB, ↓o_neB, ↓o_eqT, ↓o_neT, ↓o_eqN, ↓o_neN, ↓o_ltT, ↓o_leT, ↓o_is, ↓o_isnot, ↓o_isB, ↓o_isnotB, ↓o_inT, ↓o_ninT, ↓o_inL, ↓o_ninL, ↓o_ixT, ↓o_ixR, ↓o_ixL, ↓o_ixS, ↓o_str, ↓o_strS, ↓o_set, ↓o_lenT, ↓o_lenR, ↓o_lenL, ↓o_lenS, ↓o_int, ↓o_intT, ↓o_intF, ↓o_abs, ↓o_max, ↓o_min, ↓o_tuple, ↓o_list, ↓o_tup0, ↓o_tup1, ↓o_tup2, ↓o_tup3, ↓o_tup4, ↓o_tup5, ↓o_tup6, ↓o_lst0, ↓o_lst1, ↓o_lst2, ↓o_lst3, ↓o_lst4, ↓o_lst5, ↓o_lst6, ↓o_sum, ↓W_meth, ↓o_append, ↓o_extend, ↓o_popAt, ↓W_cut, ↓W_noPart, ↓W_part, ↓o_cutT, ↓o_cutR, ↓o_cutL, ↓W_isi, ↓W_ch, ↓WS_for, ↓WI_iter, ↓WI_range1, ↓WI_range2, ↓WI_range3, ↓WI_enum, ↓WS_f0, ↓WS_f1, ↓W_alloc, ↓W_ofL, ↓W_comp, ↓WB_yes, ↓W_c0, ↓W_c1, ↓W_listRg, ↓W_tupRg, ↓W_rRange1, ↓W_rRange2, o_intT, o_intF, o_intB, o_ixL, o_ixT, beq_self_eq_true, decide_true, decide_false, okEq, okCmp, okIn, D.fits, D.fitsL, D.dep, D.depL, D.eqv, D.eqvL, D.alike, D.alikeL, isBl_bl, isN_non, isN_bl, isN_int, isN_str, isN_tup, isN_rol, isN_loc, Nat.reduceAdd, Nat.reduceSub, Nat.max_self, Nat.min_self, Nat.max_zero, Nat.zero_max, Nat.min_zero, Nat.zero_min, ty_non, ty_bl, ty_int, ty_str, ty_tup, ty_rol, ty_loc, kb_bool_bool, kb_bool_int, kb_bool_str, kb_bool_tuple, kb_bool_list, kb_int_bool, kb_int_int, kb_int_str, kb_int_tuple, kb_int_list, kb_str_bool, kb_str_int, kb_str_str, kb_str_tuple, kb_str_list, kb_tuple_bool, kb_tuple_int, kb_tuple_str, kb_tuple_tuple, kb_tuple_list, kb_list_bool, kb_list_int, kb_list_str, kb_list_tuple, kb_list_list, kb_NoneType_bool, kb_NoneType_int, kb_NoneType_str, kb_NoneType_tuple, kb_NoneType_list, Nat.zero_add, c02, lstAt_setE, Option.map_some, lstAt_set_ne, ne_eq, Nat.reduceEqDiff, Nat.one_ne_zero, Nat.zero_ne_one, ix_1_0, ix_2_0, ix_2_1, ix_3_0, ix_3_1, ix_3_2, ix_4_0, ix_4_1, ix_4_2, ix_4_3, ix_5_0, ix_5_1, ix_5_2, ix_5_3, ix_5_4, ix_6_0, ix_6_1, ix_6_2, ix_6_3, ix_6_4, ix_6_5, Nat.reduceLeDiff, Int.reduceAdd, Int.reduceSub, Int.reduceMul, Int.reduceNeg, Int.reducePow, Int.reduceLT, Int.reduceLE, Int.reduceEq, Int.reduceToNat, Bool.and_true, Bool.true_and, Bool.and_self, Bool.and_false, Bool.false_and, Bool.and_eq_true, Bool.and_eq_false_imp, and_self, WS_qdn, WS_qdr, WS_qde, WS_qdb, WS_qdc, qn1, qn2, qn3, qn4, qn5, qk1, qk5, lq1, lq2, lq3, lq4, lq5, intD_int, items_tup, items_rol, items_loc, listOf_loc, listOf_rol, isL_loc, at0, at1, at2, at3, at4, at5, atl1, atl2, atl3, atl4, lstAt_new, it_tup, it_rol, kTup_eq, kLen_eq, wipe0, wipe1, b_nm, List.set_cons_zero, List.set_cons_succ, List.length_cons, List.length_nil, List.nil_append, List.cons_append, List.append_nil, List.isEmpty_cons, List.isEmpty_nil, true_and, and_true, false_and, and_false, true_implies, forall_const, not_true_eq_false, not_false_eq_true, implies_true, decide_eq_true_eq, decide_eq_false_iff_not, Bool.not_eq_true', Bool.not_eq_false', Bool.not_true, Bool.not_false, if_true, if_false, Bool.false_eq_true, Bool.true_eq_false, reduceCtorEq, false_implies, eq_self]
      refine sort_rules hR fun rs2 hm hm2 hl2 => ?_
      have hrl2 : rs2.length = 240 := by omega
      have hrs2 : RsOk rs2 12 := fun r hr => hrs r (hm r hr)
      simp only [↓reduceIte, ↓W_ok, ↓W_exn, ↓W_var0, ↓W_varS, ↓W_K, ↓W_bin, ↓W_un, ↓W_aNil, ↓W_aCons, ↓W_arg, ↓W_call, ↓W_of, ↓WB_test, ↓tc_bl, ↓WB_tru, ↓trc, ↓WB_and, ↓WB_or, ↓WB_not, ↓W_if, ↓W_andV, ↓W_orV, ↓W_notV, ↓WM_some, ↓WM_none, ↓WO_some, ↓tr_bl, ↓tr_non, ↓tr_int, ↓tr_tup, ↓tr_rol, ↓WS_nx, ↓WS_rt, ↓WS_ct, ↓WS_bk, ↓WS_exn, ↓WS_seq, ↓WS_nil, ↓WS_retN, ↓WS_break, ↓WS_cont, ↓WS_expr, ↓WS_ret, ↓WS_if, ↓WS_set, ↓WS_par, ↓WS_asg, ↓WS_gSet, ↓WS_gN, ↓WS_gC, ↓WS_gUn, ↓WS_gSub, ↓WS_aug, ↓o_add, ↓o_iadd, ↓o_sub, ↓o_neg, ↓o_mul, ↓o_mod, ↓o_div, ↓o_pow, ↓o_addT, ↓o_addS, ↓o_addL, ↓o_lt, ↓o_le, ↓o_gt, ↓o_ge, ↓o_eq, ↓o_ne, ↓o_eqS, ↓o_neS, ↓o_eqB, ↓o_neB, ↓o_eqT, ↓o_neT, ↓o_eqN, ↓o_neN, ↓o_ltT, ↓o_leT, ↓o_is, ↓o_isnot, ↓o_isB, ↓o_isnotB, ↓o_inT, ↓o_ninT, ↓o_inL, ↓o_ninL, ↓o_ixT, ↓o_ixR, ↓o_ixL, ↓o_ixS, ↓o_str, ↓o_strS, ↓o_set, ↓o_lenT, ↓o_lenR, ↓o_lenL, ↓o_lenS, ↓o_int, ↓o_intT, ↓o_intF, ↓o_abs, ↓o_max, ↓o_min, ↓o_tuple, ↓o_list, ↓o_tup0, ↓o_tup1, ↓o_tup2, ↓o_tup3, ↓o_tup4, ↓o_tup5, ↓o_tup6, ↓o_lst0, ↓o_lst1, ↓o_lst2, ↓o_lst3, ↓o_lst4, ↓o_lst5, ↓o_lst6, ↓o_sum, ↓W_meth, ↓o_append, ↓o_extend, ↓o_popAt, ↓W_cut, ↓W_noPart, ↓W_part, ↓o_cutT, ↓o_cutR, ↓o_cutL, ↓W_isi, ↓W_ch, ↓WS_for, ↓WI_iter, ↓WI_range1, ↓WI_range2, ↓WI_range3, ↓WI_enum, ↓WS_f0, ↓WS_f1, ↓W_alloc, ↓W_ofL, ↓W_comp, ↓WB_yes, ↓W_c0, ↓W_c1, ↓W_listRg, ↓W_tupRg, ↓W_rRange1, ↓W_rRange2, o_intT, o_intF, o_intB, o_ixL, o_ixT, beq_self_eq_true, decide_true, decide_false, okEq, okCmp, okIn, D.fits, D.fitsL, D.dep, D.depL, D.eqv, D.eqvL, D.alike, D.alikeL, isBl_bl, isN_non, isN_bl, isN_int, isN_str, isN_tup, isN_rol, isN_loc, Nat.reduceAdd, Nat.reduceSub, Nat.max_self, Nat.min_self, Nat.max_zero, Nat.zero_max, Nat.min_zero, Nat.zero_min, ty_non, ty_bl, ty_int, ty_str, ty_tup, ty_rol, ty_loc, kb_bool_bool, kb_bool_int, kb_bool_str, kb_bool_tuple, kb_bool_list, kb_int_bool, kb_int_int, kb_int_str, kb_int_tuple, kb_int_list, kb_str_bool, kb_str_int, kb_str_str, kb_str_tuple, kb_str_list, kb_tuple_bool, kb_tuple_int, kb_tuple_str, kb_tuple_tuple, kb_tuple_list, kb_list_bool, kb_list_int, kb_list_str, kb_list_tuple, kb_list_list, kb_NoneType_bool, kb_NoneType_int, kb_NoneType_str, kb_NoneType_tuple, kb_NoneType_list, Nat.zero_add, c02, lstAt_setE, Option.map_some, lstAt_set_ne, ne_eq, Nat.reduceEqDiff, Nat.one_ne_zero, Nat.zero_ne_one, ix_1_0, ix_2_0, ix_2_1, ix_3_0, ix_3_1, ix_3_2, ix_4_0, ix_4_1, ix_4_2, ix_4_3, ix_5_0, ix_5_1, ix_5_2, ix_5_3, ix_5_4, ix_6_0, ix_6_1, ix_6_2, ix_6_3, ix_6_4, ix_6_5, Nat.reduceLeDiff, Int.reduceAdd, Int.reduceSub, Int.reduceMul, Int.reduceNeg, Int.reducePow, Int.reduceLT, Int.reduceLE, Int.reduceEq, Int.reduceToNat, Bool.and_true, Bool.true_and, Bool.and_self, Bool.and_false, Bool.false_and, Bool.and_eq_true, Bool.and_eq_false_imp, and_self, WS_qdn, WS_qdr, WS_qde, WS_qdb, WS_qdc, qn1, qn2, qn3, qn4, qn5, qk1, qk5, lq1, lq2, lq3, lq4, lq5, intD_int, items_tup, items_rol, items_loc, listOf_loc, listOf_rol, isL_loc, at0, at1, at2, at3, at4, at5, atl1, atl2, atl3, atl4, lstAt_new, it_tup, it_rol, kTup_eq, kLen_eq, wipe0, wipe1, b_nm, List.set_cons_zero, List.set_cons_succ, List.length_cons, List.length_nil, List.nil_append, List.cons_append, List.append_nil, List.isEmpty_cons, List.isEmpty_nil, true_and, and_true, false_and, and_false, true_implies, forall_const, not_true_eq_false, not_false_eq_true, implies_true, decide_eq_true_eq, decide_eq_false_iff_not, Bool.not_eq_true', Bool.not_eq_false', Bool.not_true, Bool.not_false, if_true, if_false, Bool.false_eq_true, Bool.true_eq_false, reduceCtorEq, false_implies, eq_self]
      refine ⟨by constructor <;> omega, ?_⟩
      have get : ∀ i : Int, 0 ≤ i → i < 240 → ∃ r ∈ rs2, (rs2.map rp).getD i.toNat .non = rp r ∧ atI (rs2.map rp) i = some (rp r) := fun i h0 h1 => by
        obtain ⟨d, e1, e2⟩ := atI_of (xs := rs2.map rp) h0 (by rw [List.length_map]; omega)
        obtain ⟨r, hr, rfl⟩ := List.mem_map.mp (List.mem_of_getElem? e1)
        exact ⟨r, hr, by rw [List.getD_eq_getElem?_getD, e1]; rfl, e2⟩
      refine W_cFilt (tW rs2) (fun d => (rs2.map rp).getD (ixD d) .non) trivial (by rw [intsTo_len, sizeLine_eq]; decide) (fun d hd => ?_) ?_
      · obtain ⟨i, rfl, i0, i1⟩ := intsTo_mem hd
        obtain ⟨r, hr, e1, e2⟩ := get i i0 (by omega)
        have eg : (rs2.map rp).getD (ixD (.int i)) .non = rp r := e1
        rw [eg]
        by_cases hz : i = 0
        · subst hz
          have et : tW rs2 (.int 0) = true := rfl
          simp only [↓reduceIte, ↓W_ok, ↓W_exn, ↓W_var0, ↓W_varS, ↓W_K, ↓W_bin, ↓W_un, ↓W_aNil, ↓W_aCons, ↓W_arg, ↓W_call, ↓W_of, ↓WB_test, ↓tc_bl, ↓WB_tru, ↓trc, ↓WB_and, ↓WB_or, ↓WB_not, ↓W_if, ↓W_andV, ↓W_orV, ↓W_notV, ↓WM_some, ↓WM_none, ↓WO_some, ↓tr_bl, ↓tr_non, ↓tr_int, ↓tr_tup, ↓tr_rol, ↓WS_nx, ↓WS_rt, ↓WS_ct, ↓WS_bk, ↓WS_exn, ↓WS_seq, ↓WS_nil, ↓WS_retN, ↓WS_break, ↓WS_cont, ↓WS_expr, ↓WS_ret, ↓WS_if, ↓WS_set, ↓WS_par, ↓WS_asg, ↓WS_gSet, ↓WS_gN, ↓WS_gC, ↓WS_gUn, ↓WS_gSub, ↓WS_aug, ↓o_add, ↓o_iadd, ↓o_sub, ↓o_neg, ↓o_mul, ↓o_mod, ↓o_div, ↓o_pow, ↓o_addT, ↓o_addS, ↓o_addL, ↓o_lt, ↓o_le, ↓o_gt, ↓o_ge, ↓o_eq, ↓o_ne, ↓o_eqS, ↓o_neS, ↓o_eqB, ↓o_neB, ↓o_eqT, ↓o_neT, ↓o_eqN, ↓o_neN, ↓o_ltT, ↓o_leT, ↓o_is, ↓o_isnot, ↓o_isB, ↓o_isnotB, ↓o_inT, ↓o_ninT, ↓o_inL, ↓o_ninL, ↓o_ixT, ↓o_ixR, ↓o_ixL, ↓o_ixS, ↓o_str, ↓o_strS, ↓o_set, ↓o_lenT, ↓o_lenR, ↓o_lenL, ↓o_lenS, ↓o_int, ↓o_intT, ↓o_intF, ↓o_abs, ↓o_max, ↓o_min, ↓o_tuple, ↓o_list, ↓o_tup0, ↓o_tup1, ↓o_tup2, ↓o_tup3, ↓o_tup4, ↓o_tup5, ↓o_tup6, ↓o_lst0, ↓o_lst1, ↓o_lst2, ↓o_lst3, ↓o_lst4, ↓o_lst5, ↓o_lst6, ↓o_sum, ↓W_meth, ↓o_append, ↓o_extend, ↓o_popAt, ↓W_cut, ↓W_noPart, ↓W_part, ↓o_cutT, ↓o_cutR, ↓o_cutL, ↓W_isi, ↓W_ch, ↓WS_for, ↓WI_iter, ↓WI_range1, ↓WI_range2, ↓WI_range3, ↓WI_enum, ↓WS_f0, ↓WS_f1, ↓W_alloc, ↓W_ofL, ↓W_comp, ↓WB_yes, ↓W_c0, ↓W_c1, ↓W_listRg, ↓W_tupRg, ↓W_rRange1, ↓W_rRange2, o_intT, o_intF, o_intB, o_ixL, o_ixT, beq_self_eq_true, decide_true, decide_false, okEq, okCmp, okIn, D.fits, D.fitsL, D.dep, D.depL, D.eqv, D.eqvL, D.alike, D.alikeL, isBl_bl, isN_non, isN_bl, isN_int, isN_str, isN_tup, isN_rol, isN_loc, Nat.reduceAdd, Nat.reduceSub, Nat.max_self, Nat.min_self, Nat.max_zero, Nat.zero_max, Nat.min_zero, Nat.zero_min, ty_non, ty_bl, ty_int, ty_str, ty_tup, ty_rol, ty_loc, kb_bool_bool, kb_bool_int, kb_bool_str, kb_bool_tuple, kb_bool_list, kb_int_bool, kb_int_int, kb_int_str, kb_int_tuple, kb_int_list, kb_str_bool, kb_str_int, kb_str_str, kb_str_tuple, kb_str_list, kb_tuple_bool, kb_tuple_int, kb_tuple_str, kb_tuple_tuple, kb_tuple_list, kb_list_bool, kb_list_int, kb_list_str, kb_list_tuple, kb_list_list, kb_NoneType_bool, kb_NoneType_int, kb_NoneType_str, kb_NoneType_tuple, kb_NoneType_list, Nat.zero_add, c02, lstAt_setE, Option.map_some, lstAt_set_ne, ne_eq, Nat.reduceEqDiff, Nat.one_ne_zero, Nat.zero_ne_one, ix_1_0, ix_2_0, ix_2_1, ix_3_0, ix_3_1, ix_3_2, ix_4_0, ix_4_1, ix_4_2, ix_4_3, ix_5_0, ix_5_1, ix_5_2, ix_5_3, ix_5_4, ix_6_0, ix_6_1, ix_6_2, ix_6_3, ix_6_4, ix_6_5, Nat.reduceLeDiff, Int.reduceAdd, Int.reduceSub, Int.reduceMul, Int.reduceNeg, Int.reducePow, Int.reduceLT, Int.reduceLE, Int.reduceEq, Int.reduceToNat, Bool.and_true, Bool.true_and, Bool.and_self, Bool.and_false, Bool.false_and, Bool.and_eq_true, Bool.and_eq_false_imp, and_self, WS_qdn, WS_qdr, WS_qde, WS_qdb, WS_qdc, qn1, qn2, qn3, qn4, qn5, qk1, qk5, lq1, lq2, lq3, lq4, lq5, intD_int, items_tup, items_rol, items_loc, listOf_loc, listOf_rol, isL_loc, at0, at1, at2, at3, at4, at5, atl1, atl2, atl3, atl4, lstAt_new, it_tup, it_rol, kTup_eq, kLen_eq, wipe0, wipe1, b_nm, List.set_cons_zero, List.set_cons_succ, List.length_cons, List.length_nil, List.nil_append, List.cons_append, List.append_nil, List.isEmpty_cons, List.isEmpty_nil, true_and, and_true, false_and, and_false, true_implies, forall_const, not_true_eq_false, not_false_eq_true, implies_true, decide_eq_true_eq, decide_eq_false_iff_not, Bool.not_eq_true', Bool.not_eq_false', Bool.not_true, Bool.not_false, if_true, if_false, Bool.false_eq_true, Bool.true_eq_false, reduceCtorEq, false_implies, eq_self, et, e2]
        · obtain ⟨r', hr', e3, e4⟩ := get (i - 1) (by omega) (by omega)
          have en : ∀ {Q : D → Store → Prop} {S : Store}, WO Q tg (oNe (rp r) (rp r') S) = Q (.bl (!D.eqv (rp r) (rp r'))) S := fun {Q S} => by
            show WO Q tg (oNe (.tup [r.1.d, r.2.d]) (rp r') S) = _
            rw [o_neT]
            exact propext ⟨fun z => z.2, fun z => ⟨⟨rfl, rfl, by simp [rp, rl, Sy.d, D.dep, D.depL]⟩, z⟩⟩
          have et : tW rs2 (.int i) = !D.eqv (rp r) (rp r') := by
            unfold tW
            rw [eg]
            have : ixD (.int i) - 1 = (i - 1).toNat := by unfold ixD; simp only; omega
            rw [this, e3]
            have : (ixD (.int i) == 0) = false := by unfold ixD; simp; omega
            rw [this, Bool.false_or]
          simp only [↓reduceIte, ↓W_ok, ↓W_exn, ↓W_var0, ↓W_varS, ↓W_K, ↓W_bin, ↓W_un, ↓W_aNil, ↓W_aCons, ↓W_arg, ↓W_call, ↓W_of, ↓WB_test, ↓tc_bl, ↓WB_tru, ↓trc, ↓WB_and, ↓WB_or, ↓WB_not, ↓W_if, ↓W_andV, ↓W_orV, ↓W_notV, ↓WM_some, ↓WM_none, ↓WO_some, ↓tr_bl, ↓tr_non, ↓tr_int, ↓tr_tup, ↓tr_rol, ↓WS_nx, ↓WS_rt, ↓WS_ct, ↓WS_bk, ↓WS_exn, ↓WS_seq, ↓WS_nil, ↓WS_retN, ↓WS_break, ↓WS_cont, ↓WS_expr, ↓WS_ret, ↓WS_if, ↓WS_set, ↓WS_par, ↓WS_asg, ↓WS_gSet, ↓WS_gN, ↓WS_gC, ↓WS_gUn, ↓WS_gSub, ↓WS_aug, ↓o_add, ↓o_iadd, ↓o_sub, ↓o_neg, ↓o_mul, ↓o_mod, ↓o_div, ↓o_pow, ↓o_addT, ↓o_addS, ↓o_addL, ↓o_lt, ↓o_le, ↓o_gt, ↓o_ge, ↓o_eq, ↓o_ne, ↓o_eqS, ↓o_neS, ↓o_eqB, ↓o_neB, ↓o_eqT, ↓o_neT, ↓o_eqN, ↓o_neN, ↓o_ltT, ↓o_leT, ↓o_is, ↓o_isnot, ↓o_isB, ↓o_isnotB, ↓o_inT, ↓o_ninT, ↓o_inL, ↓o_ninL, ↓o_ixT, ↓o_ixR, ↓o_ixL, ↓o_ixS, ↓o_str, ↓o_strS, ↓o_set, ↓o_lenT, ↓o_lenR, ↓o_lenL, ↓o_lenS, ↓o_int, ↓o_intT, ↓o_intF, ↓o_abs, ↓o_max, ↓o_min, ↓o_tuple, ↓o_list, ↓o_tup0, ↓o_tup1, ↓o_tup2, ↓o_tup3, ↓o_tup4, ↓o_tup5, ↓o_tup6, ↓o_lst0, ↓o_lst1, ↓o_lst2, ↓o_lst3, ↓o_lst4, ↓o_lst5, ↓o_lst6, ↓o_sum, ↓W_meth, ↓o_append, ↓o_extend, ↓o_popAt, ↓W_cut, ↓W_noPart, ↓W_part, ↓o_cutT, ↓o_cutR, ↓o_cutL, ↓W_isi, ↓W_ch, ↓WS_for, ↓WI_iter, ↓WI_range1, ↓WI_range2, ↓WI_range3, ↓WI_enum, ↓WS_f0, ↓WS_f1, ↓W_alloc, ↓W_ofL, ↓W_comp, ↓WB_yes, ↓W_c0, ↓W_c1, ↓W_listRg, ↓W_tupRg, ↓W_rRange1, ↓W_rRange2, o_intT, o_intF, o_intB, o_ixL, o_ixT, beq_self_eq_true, decide_true, decide_false, okEq, okCmp, okIn, D.fits, D.fitsL, D.dep, D.depL, D.eqv, D.eqvL, D.alike, D.alikeL, isBl_bl, isN_non, isN_bl, isN_int, isN_str, isN_tup, isN_rol, isN_loc, Nat.reduceAdd, Nat.reduceSub, Nat.max_self, Nat.min_self, Nat.max_zero, Nat.zero_max, Nat.min_zero, Nat.zero_min, ty_non, ty_bl, ty_int, ty_str, ty_tup, ty_rol, ty_loc, kb_bool_bool, kb_bool_int, kb_bool_str, kb_bool_tuple, kb_bool_list, kb_int_bool, kb_int_int, kb_int_str, kb_int_tuple, kb_int_list, kb_str_bool, kb_str_int, kb_str_str, kb_str_tuple, kb_str_list, kb_tuple_bool, kb_tuple_int, kb_tuple_str, kb_tuple_tuple, kb_tuple_list, kb_list_bool, kb_list_int, kb_list_str, kb_list_tuple, kb_list_list, kb_NoneType_bool, kb_NoneType_int, kb_NoneType_str, kb_NoneType_tuple, kb_NoneType_list, Nat.zero_add, c02, lstAt_setE, Option.map_some, lstAt_set_ne, ne_eq, Nat.reduceEqDiff, Nat.one_ne_zero, Nat.zero_ne_one, ix_1_0, ix_2_0, ix_2_1, ix_3_0, ix_3_1, ix_3_2, ix_4_0, ix_4_1, ix_4_2, ix_4_3, ix_5_0, ix_5_1, ix_5_2, ix_5_3, ix_5_4, ix_6_0, ix_6_1, ix_6_2, ix_6_3, ix_6_4, ix_6_5, Nat.reduceLeDiff, Int.reduceAdd, Int.reduceSub, Int.reduceMul, Int.reduceNeg, Int.reducePow, Int.reduceLT, Int.reduceLE, Int.reduceEq, Int.reduceToNat, Bool.and_true, Bool.true_and, Bool.and_self, Bool.and_false, Bool.false_and, Bool.and_eq_true, Bool.and_eq_false_imp, and_self, WS_qdn, WS_qdr, WS_qde, WS_qdb, WS_qdc, qn1, qn2, qn3, qn4, qn5, qk1, qk5, lq1, lq2, lq3, lq4, lq5, intD_int, items_tup, items_rol, items_loc, listOf_loc, listOf_rol, isL_loc, at0, at1, at2, at3, at4, at5, atl1, atl2, atl3, atl4, lstAt_new, it_tup, it_rol, kTup_eq, kLen_eq, wipe0, wipe1, b_nm, List.set_cons_zero, List.set_cons_succ, List.length_cons, List.length_nil, List.nil_append, List.cons_append, List.append_nil, List.isEmpty_cons, List.isEmpty_nil, true_and, and_true, false_and, and_false, true_implies, forall_const, not_true_eq_false, not_false_eq_true, implies_true, decide_eq_true_eq, decide_eq_false_iff_not, Bool.not_eq_true', Bool.not_eq_false', Bool.not_true, Bool.not_false, if_true, if_false, Bool.false_eq_true, Bool.true_eq_false, reduceCtorEq, false_implies, eq_self, et, e2, e4, en, hz]
          cases D.eqv (rp r) (rp r') <;> simp
      · have hys : ∃ rs3 : List (Sy × Sy), ((intsTo 0 240).filter (tW rs2)).map (fun d => (rs2.map rp).getD (ixD d) .non) = rs3.map rp ∧ (∀ r ∈ rs3, r ∈ rs2) ∧ rs3.length ≤ 240 ∧ 0 < rs3.length := by
          have z : ∀ ds : List D, (∀ d ∈ ds, ∃ r ∈ rs2, (rs2.map rp).getD (ixD d) .non = rp r) → ∃ rs3 : List (Sy × Sy), ds.map (fun d => (rs2.map rp).getD (ixD d) .non) = rs3.map rp ∧ (∀ r ∈ rs3, r ∈ rs2) ∧ rs3.length = ds.length := by
            intro ds
            induction ds with
            | nil => intro _; exact ⟨[], rfl, by simp, rfl⟩
            | cons d ds ih =>
              intro hd
              obtain ⟨r, hr, e⟩ := hd d (by simp)
              obtain ⟨rs3, e2, h3, h4⟩ := ih fun d hd' => hd d (List.mem_cons_of_mem _ hd')
              exact ⟨r :: rs3, by rw [List.map_cons, e, e2]; rfl, fun q hq => (List.mem_cons.mp hq).elim (fun e => e ▸ hr) (h3 q), by simp [h4]⟩
          obtain ⟨rs3, e, h3, h4⟩ := z ((intsTo 0 240).filter (tW rs2)) fun d hd => by
            obtain ⟨i, rfl, i0, i1⟩ := intsTo_mem (List.mem_filter.mp hd).1
            obtain ⟨r, hr, e1, e2⟩ := get i i0 (by omega)
            exact ⟨r, hr, e1⟩
          refine ⟨rs3, e, h3, ?_, ?_⟩
          · rw [h4]
            exact Nat.le_trans (List.length_filter_le _ _) (by rw [intsTo_len]; decide)
          · rw [h4]
            exact List.length_pos_of_mem (a := .int 0) (List.mem_filter.mpr ⟨by rw [show (240 : Nat) = 239 + 1 from rfl, intsTo_succ]; simp, rfl⟩)
        obtain ⟨rs3, e, h3, h4, h5⟩ := hys
        rw [List.nil_append, e]
        have hrs3 : RsOk rs3 12 := fun r hr => hrs2 r (h3 r hr)
        have hF7 : FeedOk ((S6 ++ [Cell.lst (rs2.map rp)]) ++ [Cell.lst (rs3.map rp)]) := (hF6.app _).app _
        have F17 : Fr S1 ((S6 ++ [Cell.lst (rs2.map rp)]) ++ [Cell.lst (rs3.map rp)]) := (((F2.trans F25).trans F6).app _).app _
        have hf7 : lstAt ((S6 ++ [Cell.lst (rs2.map rp)]) ++ [Cell.lst (rs3.map rp)]) S1.length = some (fs.map Fld.d) := lstAt_app (lstAt_app ((F25.trans F6).lst g1 hf))
        have hR7 : lstAt ((S6 ++ [Cell.lst (rs2.map rp)]) ++ [Cell.lst (rs3.map rp)]) (S6 ++ [Cell.lst (rs2.map rp)]).length = some (rs3.map rp) := lstAt_new
        have hm7 : 2 ≤ (S6 ++ [Cell.lst (rs2.map rp)]).length := (hF6.app _).len
        generalize (S6 ++ [Cell.lst (rs2.map rp)]).length = m at *
        generalize (S6 ++ [Cell.lst (rs2.map rp)]) ++ [Cell.lst (rs3.map rp)] = S7 at *
        have efd : D.tup (fs.map Fld.d) = FD fs := rfl
        simp only [↓reduceIte, ↓W_ok, ↓W_exn, ↓W_var0, ↓W_varS, ↓W_K, ↓W_bin, ↓W_un, ↓W_aNil, ↓W_aCons, ↓W_arg, ↓W_call, ↓W_of, ↓WB_test, ↓tc_bl, ↓WB_tru, ↓trc, ↓WB_and, ↓WB_or, ↓WB_not, ↓W_if, ↓W_andV, ↓W_orV, ↓W_notV, ↓WM_some, ↓WM_none, ↓WO_some, ↓tr_bl, ↓tr_non, ↓tr_int, ↓tr_tup, ↓tr_rol, ↓WS_nx, ↓WS_rt, ↓WS_ct, ↓WS_bk, ↓WS_exn, ↓WS_seq, ↓WS_nil, ↓WS_retN, ↓WS_break, ↓WS_cont, ↓WS_expr, ↓WS_ret, ↓WS_if, ↓WS_set, ↓WS_par, ↓WS_asg, ↓WS_gSet, ↓WS_gN, ↓WS_gC, ↓WS_gUn, ↓WS_gSub, ↓WS_aug, ↓o_add, ↓o_iadd, ↓o_sub, ↓o_neg, ↓o_mul, ↓o_mod, ↓o_div, ↓o_pow, ↓o_addT, ↓o_addS, ↓o_addL, ↓o_lt, ↓o_le, ↓o_gt, ↓o_ge, ↓o_eq, ↓o_ne, ↓o_eqS, ↓o_neS, ↓o_eqB, ↓o_neB, ↓o_eqT, ↓o_neT, ↓o_eqN, ↓o_neN, ↓o_ltT, ↓o_leT, ↓o_is, ↓o_isnot, ↓o_isB, ↓o_isnotB, ↓o_inT, ↓o_ninT, ↓o_inL, ↓o_ninL, ↓o_ixT, ↓o_ixR, ↓o_ixL, ↓o_ixS, ↓o_str, ↓o_strS, ↓o_set, ↓o_lenT, ↓o_lenR, ↓o_lenL, ↓o_lenS, ↓o_int, ↓o_intT, ↓o_intF, ↓o_abs, ↓o_max, ↓o_min, ↓o_tuple, ↓o_list, ↓o_tup0, ↓o_tup1, ↓o_tup2, ↓o_tup3, ↓o_tup4, ↓o_tup5, ↓o_tup6, ↓o_lst0, ↓o_lst1, ↓o_lst2, ↓o_lst3, ↓o_lst4, ↓o_lst5, ↓o_lst6, ↓o_sum, ↓W_meth, ↓o_append, ↓o_extend, ↓o_popAt, ↓W_cut, ↓W_noPart, ↓W_part, ↓o_cutT, ↓o_cutR, ↓o_cutL, ↓W_isi, ↓W_ch, ↓WS_for, ↓WI_iter, ↓WI_range1, ↓WI_range2, ↓WI_range3, ↓WI_enum, ↓WS_f0, ↓WS_f1, ↓W_alloc, ↓W_ofL, ↓W_comp, ↓WB_yes, ↓W_c0, ↓W_c1, ↓W_listRg, ↓W_tupRg, ↓W_rRange1, ↓W_rRange2, o_intT, o_intF, o_intB, o_ixL, o_ixT, beq_self_eq_true, decide_true, decide_false, okEq, okCmp, okIn, D.fits, D.fitsL, D.dep, D.depL, D.eqv, D.eqvL, D.alike, D.alikeL, isBl_bl, isN_non, isN_bl, isN_int, isN_str, isN_tup, isN_rol, isN_loc, Nat.reduceAdd, Nat.reduceSub, Nat.max_self, Nat.min_self, Nat.max_zero, Nat.zero_max, Nat.min_zero, Nat.zero_min, ty_non, ty_bl, ty_int, ty_str, ty_tup, ty_rol, ty_loc, kb_bool_bool, kb_bool_int, kb_bool_str, kb_bool_tuple, kb_bool_list, kb_int_bool, kb_int_int, kb_int_str, kb_int_tuple, kb_int_list, kb_str_bool, kb_str_int, kb_str_str, kb_str_tuple, kb_str_list, kb_tuple_bool, kb_tuple_int, kb_tuple_str, kb_tuple_tuple, kb_tuple_list, kb_list_bool, kb_list_int, kb_list_str, kb_list_tuple, kb_list_list, kb_NoneType_bool, kb_NoneType_int, kb_NoneType_str, kb_NoneType_tuple, kb_NoneType_list, Nat.zero_add, c02, lstAt_setE, Option.map_some, lstAt_set_ne, ne_eq, Nat.reduceEqDiff, Nat.one_ne_zero, Nat.zero_ne_one, ix_1_0, ix_2_0, ix_2_1, ix_3_0, ix_3_1, ix_3_2, ix_4_0, ix_4_1, ix_4_2, ix_4_3, ix_5_0, ix_5_1, ix_5_2, ix_5_3, ix_5_4, ix_6_0, ix_6_1, ix_6_2, ix_6_3, ix_6_4, ix_6_5, Nat.reduceLeDiff, Int.reduceAdd, Int.reduceSub, Int.reduceMul, Int.reduceNeg, Int.reducePow, Int.reduceLT, Int.reduceLE, Int.reduceEq, Int.reduceToNat, Bool.and_true, Bool.true_and, Bool.and_self, Bool.and_false, Bool.false_and, Bool.and_eq_true, Bool.and_eq_false_imp, and_self, WS_qdn, WS_qdr, WS_qde, WS_qdb, WS_qdc, qn1, qn2, qn3, qn4, qn5, qk1, qk5, lq1, lq2, lq3, lq4, lq5, intD_int, items_tup, items_rol, items_loc, listOf_loc, listOf_rol, isL_loc, at0, at1, at2, at3, at4, at5, atl1, atl2, atl3, atl4, lstAt_new, it_tup, it_rol, kTup_eq, kLen_eq, wipe0, wipe1, b_nm, List.set_cons_zero, List.set_cons_succ, List.length_cons, List.length_nil, List.nil_append, List.cons_append, List.append_nil, List.isEmpty_cons, List.isEmpty_nil, true_and, and_true, false_and, and_false, true_implies, forall_const, not_true_eq_false, not_false_eq_true, implies_true, decide_eq_true_eq, decide_eq_false_iff_not, Bool.not_eq_true', Bool.not_eq_false', Bool.not_true, Bool.not_false, if_true, if_false, Bool.false_eq_true, Bool.true_eq_false, reduceCtorEq, false_implies, eq_self, hf7, hR7, efd]
        refine half_w hF7 (by omega) (by omega) hoks (Cont.loc g1 hf7) fun as S8 hal hah hF8 F8 => ?_
        simp only [↓reduceIte, ↓W_ok, ↓W_exn, ↓W_var0, ↓W_varS, ↓W_K, ↓W_bin, ↓W_un, ↓W_aNil, ↓W_aCons, ↓W_arg, ↓W_call, ↓W_of, ↓WB_test, ↓tc_bl, ↓WB_tru, ↓trc, ↓WB_and, ↓WB_or, ↓WB_not, ↓W_if, ↓W_andV, ↓W_orV, ↓W_notV, ↓WM_some, ↓WM_none, ↓WO_some, ↓tr_bl, ↓tr_non, ↓tr_int, ↓tr_tup, ↓tr_rol, ↓WS_nx, ↓WS_rt, ↓WS_ct, ↓WS_bk, ↓WS_exn, ↓WS_seq, ↓WS_nil, ↓WS_retN, ↓WS_break, ↓WS_cont, ↓WS_expr, ↓WS_ret, ↓WS_if, ↓WS_set, ↓WS_par, ↓WS_asg, ↓WS_gSet, ↓WS_gN, ↓WS_gC, ↓WS_gUn, ↓WS_gSub, ↓WS_aug, ↓o_add, ↓o_iadd, ↓o_sub, ↓o_neg, ↓o_mul, ↓o_mod, ↓o_div, ↓o_pow, ↓o_addT, ↓o_addS, ↓o_addL, ↓o_lt, ↓o_le, ↓o_gt, ↓o_ge, ↓o_eq, ↓o_ne, ↓o_eqS, ↓o_neS, ↓o_eqB, ↓o_neB, ↓o_eqT, ↓o_neT, ↓o_eqN, ↓o_neN, ↓o_ltT, ↓o_leT, ↓o_is, ↓o_isnot, ↓o_isB, ↓o_isnotB, ↓o_inT, ↓o_ninT, ↓o_inL, ↓o_ninL, ↓o_ixT, ↓o_ixR, ↓o_ixL, ↓o_ixS, ↓o_str, ↓o_strS, ↓o_set, ↓o_lenT, ↓o_lenR, ↓o_lenL, ↓o_lenS, ↓o_int, ↓o_intT, ↓o_intF, ↓o_abs, ↓o_max, ↓o_min, ↓o_tuple, ↓o_list, ↓o_tup0, ↓o_tup1, ↓o_tup2, ↓o_tup3, ↓o_tup4, ↓o_tup5, ↓o_tup6, ↓o_lst0, ↓o_lst1, ↓o_lst2, ↓o_lst3, ↓o_lst4, ↓o_lst5, ↓o_lst6, ↓o_sum, ↓W_meth, ↓o_append, ↓o_extend, ↓o_popAt, ↓W_cut, ↓W_noPart, ↓W_part, ↓o_cutT, ↓o_cutR, ↓o_cutL, ↓W_isi, ↓W_ch, ↓WS_for, ↓WI_iter, ↓WI_range1, ↓WI_range2, ↓WI_range3, ↓WI_enum, ↓WS_f0, ↓WS_f1, ↓W_alloc, ↓W_ofL, ↓W_comp, ↓WB_yes, ↓W_c0, ↓W_c1, ↓W_listRg, ↓W_tupRg, ↓W_rRange1, ↓W_rRange2, o_intT, o_intF, o_intB, o_ixL, o_ixT, beq_self_eq_true, decide_true, decide_false, okEq, okCmp, okIn, D.fits, D.fitsL, D.dep, D.depL, D.eqv, D.eqvL, D.alike, D.alikeL, isBl_bl, isN_non, isN_bl, isN_int, isN_str, isN_tup, isN_rol, isN_loc, Nat.reduceAdd, Nat.reduceSub, Nat.max_self, Nat.min_self, Nat.max_zero, Nat.zero_max, Nat.min_zero, Nat.zero_min, ty_non, ty_bl, ty_int, ty_str, ty_tup, ty_rol, ty_loc, kb_bool_bool, kb_bool_int, kb_bool_str, kb_bool_tuple, kb_bool_list, kb_int_bool, kb_int_int, kb_int_str, kb_int_tuple, kb_int_list, kb_str_bool, kb_str_int, kb_str_str, kb_str_tuple, kb_str_list, kb_tuple_bool, kb_tuple_int, kb_tuple_str, kb_tuple_tuple, kb_tuple_list, kb_list_bool, kb_list_int, kb_list_str, kb_list_tuple, kb_list_list, kb_NoneType_bool, kb_NoneType_int, kb_NoneType_str, kb_NoneType_tuple, kb_NoneType_list, Nat.zero_add, c02, lstAt_setE, Option.map_some, lstAt_set_ne, ne_eq, Nat.reduceEqDiff, Nat.one_ne_zero, Nat.zero_ne_one, ix_1_0, ix_2_0, ix_2_1, ix_3_0, ix_3_1, ix_3_2, ix_4_0, ix_4_1, ix_4_2, ix_4_3, ix_5_0, ix_5_1, ix_5_2, ix_5_3, ix_5_4, ix_6_0, ix_6_1, ix_6_2, ix_6_3, ix_6_4, ix_6_5, Nat.reduceLeDiff, Int.reduceAdd, Int.reduceSub, Int.reduceMul, Int.reduceNeg, Int.reducePow, Int.reduceLT, Int.reduceLE, Int.reduceEq, Int.reduceToNat, Bool.and_true, Bool.true_and, Bool.and_self, Bool.and_false, Bool.false_and, Bool.and_eq_true, Bool.and_eq_false_imp, and_self, WS_qdn, WS_qdr, WS_qde, WS_qdb, WS_qdc, qn1, qn2, qn3, qn4, qn5, qk1, qk5, lq1, lq2, lq3, lq4, lq5, intD_int, items_tup, items_rol, items_loc, listOf_loc, listOf_rol, isL_loc, at0, at1, at2, at3, at4, at5, atl1, atl2, atl3, atl4, lstAt_new, it_tup, it_rol, kTup_eq, kLen_eq, wipe0, wipe1, b_nm, List.set_cons_zero, List.set_cons_succ, List.length_cons, List.length_nil, List.nil_append, List.cons_append, List.append_nil, List.isEmpty_cons, List.isEmpty_nil, true_and, and_true, false_and, and_false, true_implies, forall_const, not_true_eq_false, not_false_eq_true, implies_true, decide_eq_true_eq, decide_eq_false_iff_not, Bool.not_eq_true', Bool.not_eq_false', Bool.not_true, Bool.not_false, if_true, if_false, Bool.false_eq_true, Bool.true_eq_false, reduceCtorEq, false_implies, eq_self]
        refine asked_w hF8 (by rw [hal, hfl]; exact hrs3) (by omega) (by omega) hah fun S9 hF9 F9 => ?_
        have F79 := F8.trans F9
        simp only [↓reduceIte, ↓W_ok, ↓W_exn, ↓W_var0, ↓W_varS, ↓W_K, ↓W_bin, ↓W_un, ↓W_aNil, ↓W_aCons, ↓W_arg, ↓W_call, ↓W_of, ↓WB_test, ↓tc_bl, ↓WB_tru, ↓trc, ↓WB_and, ↓WB_or, ↓WB_not, ↓W_if, ↓W_andV, ↓W_orV, ↓W_notV, ↓WM_some, ↓WM_none, ↓WO_some, ↓tr_bl, ↓tr_non, ↓tr_int, ↓tr_tup, ↓tr_rol, ↓WS_nx, ↓WS_rt, ↓WS_ct, ↓WS_bk, ↓WS_exn, ↓WS_seq, ↓WS_nil, ↓WS_retN, ↓WS_break, ↓WS_cont, ↓WS_expr, ↓WS_ret, ↓WS_if, ↓WS_set, ↓WS_par, ↓WS_asg, ↓WS_gSet, ↓WS_gN, ↓WS_gC, ↓WS_gUn, ↓WS_gSub, ↓WS_aug, ↓o_add, ↓o_iadd, ↓o_sub, ↓o_neg, ↓o_mul, ↓o_mod, ↓o_div, ↓o_pow, ↓o_addT, ↓o_addS, ↓o_addL, ↓o_lt, ↓o_le, ↓o_gt, ↓o_ge, ↓o_eq, ↓o_ne, ↓o_eqS, ↓o_neS, ↓o_eqB, ↓o_neB, ↓o_eqT, ↓o_neT, ↓o_eqN, ↓o_neN, ↓o_ltT, ↓o_leT, ↓o_is, ↓o_isnot, ↓o_isB, ↓o_isnotB, ↓o_inT, ↓o_ninT, ↓o_inL, ↓o_ninL, ↓o_ixT, ↓o_ixR, ↓o_ixL, ↓o_ixS, ↓o_str, ↓o_strS, ↓o_set, ↓o_lenT, ↓o_lenR, ↓o_lenL, ↓o_lenS, ↓o_int, ↓o_intT, ↓o_intF, ↓o_abs, ↓o_max, ↓o_min, ↓o_tuple, ↓o_list, ↓o_tup0, ↓o_tup1, ↓o_tup2, ↓o_tup3, ↓o_tup4, ↓o_tup5, ↓o_tup6, ↓o_lst0, ↓o_lst1, ↓o_lst2, ↓o_lst3, ↓o_lst4, ↓o_lst5, ↓o_lst6, ↓o_sum, ↓W_meth, ↓o_append, ↓o_extend, ↓o_popAt, ↓W_cut, ↓W_noPart, ↓W_part, ↓o_cutT, ↓o_cutR, ↓o_cutL, ↓W_isi, ↓W_ch, ↓WS_for, ↓WI_iter, ↓WI_range1, ↓WI_range2, ↓WI_range3, ↓WI_enum, ↓WS_f0, ↓WS_f1, ↓W_alloc, ↓W_ofL, ↓W_comp, ↓WB_yes, ↓W_c0, ↓W_c1, ↓W_listRg, ↓W_tupRg, ↓W_rRange1, ↓W_rRange2, o_intT, o_intF, o_intB, o_ixL, o_ixT, beq_self_eq_true, decide_true, decide_false, okEq, okCmp, okIn, D.fits, D.fitsL, D.dep, D.depL, D.eqv, D.eqvL, D.alike, D.alikeL, isBl_bl, isN_non, isN_bl, isN_int, isN_str, isN_tup, isN_rol, isN_loc, Nat.reduceAdd, Nat.reduceSub, Nat.max_self, Nat.min_self, Nat.max_zero, Nat.zero_max, Nat.min_zero, Nat.zero_min, ty_non, ty_bl, ty_int, ty_str, ty_tup, ty_rol, ty_loc, kb_bool_bool, kb_bool_int, kb_bool_str, kb_bool_tuple, kb_bool_list, kb_int_bool, kb_int_int, kb_int_str, kb_int_tuple, kb_int_list, kb_str_bool, kb_str_int, kb_str_str, kb_str_tuple, kb_str_list, kb_tuple_bool, kb_tuple_int, kb_tuple_str, kb_tuple_tuple, kb_tuple_list, kb_list_bool, kb_list_int, kb_list_str, kb_list_tuple, kb_list_list, kb_NoneType_bool, kb_NoneType_int, kb_NoneType_str, kb_NoneType_tuple, kb_NoneType_list, Nat.zero_add, c02, lstAt_setE, Option.map_some, lstAt_set_ne, ne_eq, Nat.reduceEqDiff, Nat.one_ne_zero, Nat.zero_ne_one, ix_1_0, ix_2_0, ix_2_1, ix_3_0, ix_3_1, ix_3_2, ix_4_0, ix_4_1, ix_4_2, ix_4_3, ix_5_0, ix_5_1, ix_5_2, ix_5_3, ix_5_4, ix_6_0, ix_6_1, ix_6_2, ix_6_3, ix_6_4, ix_6_5, Nat.reduceLeDiff, Int.reduceAdd, Int.reduceSub, Int.reduceMul, Int.reduceNeg, Int.reducePow, Int.reduceLT, Int.reduceLE, Int.reduceEq, Int.reduceToNat, Bool.and_true, Bool.true_and, Bool.and_self, Bool.and_false, Bool.false_and, Bool.and_eq_true, Bool.and_eq_false_imp, and_self, WS_qdn, WS_qdr, WS_qde, WS_qdb, WS_qdc, qn1, qn2, qn3, qn4, qn5, qk1, qk5, lq1, lq2, lq3, lq4, lq5, intD_int, items_tup, items_rol, items_loc, listOf_loc, listOf_rol, isL_loc, at0, at1, at2, at3, at4, at5, atl1, atl2, atl3, atl4, lstAt_new, it_tup, it_rol, kTup_eq, kLen_eq, wipe0, wipe1, b_nm, List.set_cons_zero, List.set_cons_succ, List.length_cons, List.length_nil, List.nil_append, List.cons_append, List.append_nil, List.isEmpty_cons, List.isEmpty_nil, true_and, and_true, false_and, and_false, true_implies, forall_const, not_true_eq_false, not_false_eq_true, implies_true, decide_eq_true_eq, decide_eq_false_iff_not, Bool.not_eq_true', Bool.not_eq_false', Bool.not_true, Bool.not_false, if_true, if_false, Bool.false_eq_true, Bool.true_eq_false, reduceCtorEq, false_implies, eq_self]
        refine half_w hF9 (by omega) (by omega) hoks (Cont.loc g1 (F79.lst g1 hf7)) fun as2 S10 hal2 hah2 hF10 F10 => ?_
        simp only [↓reduceIte, ↓W_ok, ↓W_exn, ↓W_var0, ↓W_varS, ↓W_K, ↓W_bin, ↓W_un, ↓W_aNil, ↓W_aCons, ↓W_arg, ↓W_call, ↓W_of, ↓WB_test, ↓tc_bl, ↓WB_tru, ↓trc, ↓WB_and, ↓WB_or, ↓WB_not, ↓W_if, ↓W_andV, ↓W_orV, ↓W_notV, ↓WM_some, ↓WM_none, ↓WO_some, ↓tr_bl, ↓tr_non, ↓tr_int, ↓tr_tup, ↓tr_rol, ↓WS_nx, ↓WS_rt, ↓WS_ct, ↓WS_bk, ↓WS_exn, ↓WS_seq, ↓WS_nil, ↓WS_retN, ↓WS_break, ↓WS_cont, ↓WS_expr, ↓WS_ret, ↓WS_if, ↓WS_set, ↓WS_par, ↓WS_asg, ↓WS_gSet, ↓WS_gN, ↓WS_gC, ↓WS_gUn, ↓WS_gSub, ↓WS_aug, ↓o_add, ↓o_iadd, ↓o_sub, ↓o_neg, ↓o_mul, ↓o_mod, ↓o_div, ↓o_pow, ↓o_addT, ↓o_addS, ↓o_addL, ↓o_lt, ↓o_le, ↓o_gt, ↓o_ge, ↓o_eq, ↓o_ne, ↓o_eqS, ↓o_neS, ↓o_eqB, ↓o_neB, ↓o_eqT, ↓o_neT, ↓o_eqN, ↓o_neN, ↓o_ltT, ↓o_leT, ↓o_is, ↓o_isnot, ↓o_isB, ↓o_isnotB, ↓o_inT, ↓o_ninT, ↓o_inL, ↓o_ninL, ↓o_ixT, ↓o_ixR, ↓o_ixL, ↓o_ixS, ↓o_str, ↓o_strS, ↓o_set, ↓o_lenT, ↓o_lenR, ↓o_lenL, ↓o_lenS, ↓o_int, ↓o_intT, ↓o_intF, ↓o_abs, ↓o_max, ↓o_min, ↓o_tuple, ↓o_list, ↓o_tup0, ↓o_tup1, ↓o_tup2, ↓o_tup3, ↓o_tup4, ↓o_tup5, ↓o_tup6, ↓o_lst0, ↓o_lst1, ↓o_lst2, ↓o_lst3, ↓o_lst4, ↓o_lst5, ↓o_lst6, ↓o_sum, ↓W_meth, ↓o_append, ↓o_extend, ↓o_popAt, ↓W_cut, ↓W_noPart, ↓W_part, ↓o_cutT, ↓o_cutR, ↓o_cutL, ↓W_isi, ↓W_ch, ↓WS_for, ↓WI_iter, ↓WI_range1, ↓WI_range2, ↓WI_range3, ↓WI_enum, ↓WS_f0, ↓WS_f1, ↓W_alloc, ↓W_ofL, ↓W_comp, ↓WB_yes, ↓W_c0, ↓W_c1, ↓W_listRg, ↓W_tupRg, ↓W_rRange1, ↓W_rRange2, o_intT, o_intF, o_intB, o_ixL, o_ixT, beq_self_eq_true, decide_true, decide_false, okEq, okCmp, okIn, D.fits, D.fitsL, D.dep, D.depL, D.eqv, D.eqvL, D.alike, D.alikeL, isBl_bl, isN_non, isN_bl, isN_int, isN_str, isN_tup, isN_rol, isN_loc, Nat.reduceAdd, Nat.reduceSub, Nat.max_self, Nat.min_self, Nat.max_zero, Nat.zero_max, Nat.min_zero, Nat.zero_min, ty_non, ty_bl, ty_int, ty_str, ty_tup, ty_rol, ty_loc, kb_bool_bool, kb_bool_int, kb_bool_str, kb_bool_tuple, kb_bool_list, kb_int_bool, kb_int_int, kb_int_str, kb_int_tuple, kb_int_list, kb_str_bool, kb_str_int, kb_str_str, kb_str_tuple, kb_str_list, kb_tuple_bool, kb_tuple_int, kb_tuple_str, kb_tuple_tuple, kb_tuple_list, kb_list_bool, kb_list_int, kb_list_str, kb_list_tuple, kb_list_list, kb_NoneType_bool, kb_NoneType_int, kb_NoneType_str, kb_NoneType_tuple, kb_NoneType_list, Nat.zero_add, c02, lstAt_setE, Option.map_some, lstAt_set_ne, ne_eq, Nat.reduceEqDiff, Nat.one_ne_zero, Nat.zero_ne_one, ix_1_0, ix_2_0, ix_2_1, ix_3_0, ix_3_1, ix_3_2, ix_4_0, ix_4_1, ix_4_2, ix_4_3, ix_5_0, ix_5_1, ix_5_2, ix_5_3, ix_5_4, ix_6_0, ix_6_1, ix_6_2, ix_6_3, ix_6_4, ix_6_5, Nat.reduceLeDiff, Int.reduceAdd, Int.reduceSub, Int.reduceMul, Int.reduceNeg, Int.reducePow, Int.reduceLT, Int.reduceLE, Int.reduceEq, Int.reduceToNat, Bool.and_true, Bool.true_and, Bool.and_self, Bool.and_false, Bool.false_and, Bool.and_eq_true, Bool.and_eq_false_imp, and_self, WS_qdn, WS_qdr, WS_qde, WS_qdb, WS_qdc, qn1, qn2, qn3, qn4, qn5, qk1, qk5, lq1, lq2, lq3, lq4, lq5, intD_int, items_tup, items_rol, items_loc, listOf_loc, listOf_rol, isL_loc, at0, at1, at2, at3, at4, at5, atl1, atl2, atl3, atl4, lstAt_new, it_tup, it_rol, kTup_eq, kLen_eq, wipe0, wipe1, b_nm, List.set_cons_zero, List.set_cons_succ, List.length_cons, List.length_nil, List.nil_append, List.cons_append, List.append_nil, List.isEmpty_cons, List.isEmpty_nil, true_and, and_true, false_and, and_false, true_implies, forall_const, not_true_eq_false, not_false_eq_true, implies_true, decide_eq_true_eq, decide_eq_false_iff_not, Bool.not_eq_true', Bool.not_eq_false', Bool.not_true, Bool.not_false, if_true, if_false, Bool.false_eq_true, Bool.true_eq_false, reduceCtorEq, false_implies, eq_self]
        refine asked_w hF10 (by rw [hal2, hfl]; exact hrs3) (by omega) (by omega) hah2 fun S11 hF11 F11 => ?_
        have F711 := (F79.trans F10).trans F11
        have hR11 := F711.lst hm7 hR7
        have hf11 := F711.lst g1 hf7
        simp only [↓reduceIte, ↓W_ok, ↓W_exn, ↓W_var0, ↓W_varS, ↓W_K, ↓W_bin, ↓W_un, ↓W_aNil, ↓W_aCons, ↓W_arg, ↓W_call, ↓W_of, ↓WB_test, ↓tc_bl, ↓WB_tru, ↓trc, ↓WB_and, ↓WB_or, ↓WB_not, ↓W_if, ↓W_andV, ↓W_orV, ↓W_notV, ↓WM_some, ↓WM_none, ↓WO_some, ↓tr_bl, ↓tr_non, ↓tr_int, ↓tr_tup, ↓tr_rol, ↓WS_nx, ↓WS_rt, ↓WS_ct, ↓WS_bk, ↓WS_exn, ↓WS_seq, ↓WS_nil, ↓WS_retN, ↓WS_break, ↓WS_cont, ↓WS_expr, ↓WS_ret, ↓WS_if, ↓WS_set, ↓WS_par, ↓WS_asg, ↓WS_gSet, ↓WS_gN, ↓WS_gC, ↓WS_gUn, ↓WS_gSub, ↓WS_aug, ↓o_add, ↓o_iadd, ↓o_sub, ↓o_neg, ↓o_mul, ↓o_mod, ↓o_div, ↓o_pow, ↓o_addT, ↓o_addS, ↓o_addL, ↓o_lt, ↓o_le, ↓o_gt, ↓o_ge, ↓o_eq, ↓o_ne, ↓o_eqS, ↓o_neS, ↓o_eqB, ↓o_neB, ↓o_eqT, ↓o_neT, ↓o_eqN, ↓o_neN, ↓o_ltT, ↓o_leT, ↓o_is, ↓o_isnot, ↓o_isB, ↓o_isnotB, ↓o_inT, ↓o_ninT, ↓o_inL, ↓o_ninL, ↓o_ixT, ↓o_ixR, ↓o_ixL, ↓o_ixS, ↓o_str, ↓o_strS, ↓o_set, ↓o_lenT, ↓o_lenR, ↓o_lenL, ↓o_lenS, ↓o_int, ↓o_intT, ↓o_intF, ↓o_abs, ↓o_max, ↓o_min, ↓o_tuple, ↓o_list, ↓o_tup0, ↓o_tup1, ↓o_tup2, ↓o_tup3, ↓o_tup4, ↓o_tup5, ↓o_tup6, ↓o_lst0, ↓o_lst1, ↓o_lst2, ↓o_lst3, ↓o_lst4, ↓o_lst5, ↓o_lst6, ↓o_sum, ↓W_meth, ↓o_append, ↓o_extend, ↓o_popAt, ↓W_cut, ↓W_noPart, ↓W_part, ↓o_cutT, ↓o_cutR, ↓o_cutL, ↓W_isi, ↓W_ch, ↓WS_for, ↓WI_iter, ↓WI_range1, ↓WI_range2, ↓WI_range3, ↓WI_enum, ↓WS_f0, ↓WS_f1, ↓W_alloc, ↓W_ofL, ↓W_comp, ↓WB_yes, ↓W_c0, ↓W_c1, ↓W_listRg, ↓W_tupRg, ↓W_rRange1, ↓W_rRange2, o_intT, o_intF, o_intB, o_ixL, o_ixT, beq_self_eq_true, decide_true, decide_false, okEq, okCmp, okIn, D.fits, D.fitsL, D.dep, D.depL, D.eqv, D.eqvL, D.alike, D.alikeL, isBl_bl, isN_non, isN_bl, isN_int, isN_str, isN_tup, isN_rol, isN_loc, Nat.reduceAdd, Nat.reduceSub, Nat.max_self, Nat.min_self, Nat.max_zero, Nat.zero_max, Nat.min_zero, Nat.zero_min, ty_non, ty_bl, ty_int, ty_str, ty_tup, ty_rol, ty_loc, kb_bool_bool, kb_bool_int, kb_bool_str, kb_bool_tuple, kb_bool_list, kb_int_bool, kb_int_int, kb_int_str, kb_int_tuple, kb_int_list, kb_str_bool, kb_str_int, kb_str_str, kb_str_tuple, kb_str_list, kb_tuple_bool, kb_tuple_int, kb_tuple_str, kb_tuple_tuple, kb_tuple_list, kb_list_bool, kb_list_int, kb_list_str, kb_list_tuple, kb_list_list, kb_NoneType_bool, kb_NoneType_int, kb_NoneType_str, kb_NoneType_tuple, kb_NoneType_list, Nat.zero_add, c02, lstAt_setE, Option.map_some, lstAt_set_ne, ne_eq, Nat.reduceEqDiff, Nat.one_ne_zero, Nat.zero_ne_one, ix_1_0, ix_2_0, ix_2_1, ix_3_0, ix_3_1, ix_3_2, ix_4_0, ix_4_1, ix_4_2, ix_4_3, ix_5_0, ix_5_1, ix_5_2, ix_5_3, ix_5_4, ix_6_0, ix_6_1, ix_6_2, ix_6_3, ix_6_4, ix_6_5, Nat.reduceLeDiff, Int.reduceAdd, Int.reduceSub, Int.reduceMul, Int.reduceNeg, Int.reducePow, Int.reduceLT, Int.reduceLE, Int.reduceEq, Int.reduceToNat, Bool.and_true, Bool.true_and, Bool.and_self, Bool.and_false, Bool.false_and, Bool.and_eq_true, Bool.and_eq_false_imp, and_self, WS_qdn, WS_qdr, WS_qde, WS_qdb, WS_qdc, qn1, qn2, qn3, qn4, qn5, qk1, qk5, lq1, lq2, lq3, lq4, lq5, intD_int, items_tup, items_rol, items_loc, listOf_loc, listOf_rol, isL_loc, at0, at1, at2, at3, at4, at5, atl1, atl2, atl3, atl4, lstAt_new, it_tup, it_rol, kTup_eq, kLen_eq, wipe0, wipe1, b_nm, List.set_cons_zero, List.set_cons_succ, List.length_cons, List.length_nil, List.nil_append, List.cons_append, List.append_nil, List.isEmpty_cons, List.isEmpty_nil, true_and, and_true, false_and, and_false, true_implies, forall_const, not_true_eq_false, not_false_eq_true, implies_true, decide_eq_true_eq, decide_eq_false_iff_not, Bool.not_eq_true', Bool.not_eq_false', Bool.not_true, Bool.not_false, if_true, if_false, Bool.false_eq_true, Bool.true_eq_false, reduceCtorEq, false_implies, eq_self, hR11]
        refine WM_at (by rw [List.length_map]; omega) (by rw [List.length_map]; omega) fun y hy => ?_
        obtain ⟨r, hr, rfl⟩ := List.mem_map.mp hy
        obtain ⟨⟨hs, s0, s1⟩, ⟨ht, t0, t1⟩⟩ := hrs3 r hr
        simp only [↓reduceIte, ↓W_ok, ↓W_exn, ↓W_var0, ↓W_varS, ↓W_K, ↓W_bin, ↓W_un, ↓W_aNil, ↓W_aCons, ↓W_arg, ↓W_call, ↓W_of, ↓WB_test, ↓tc_bl, ↓WB_tru, ↓trc, ↓WB_and, ↓WB_or, ↓WB_not, ↓W_if, ↓W_andV, ↓W_orV, ↓W_notV, ↓WM_some, ↓WM_none, ↓WO_some, ↓tr_bl, ↓tr_non, ↓tr_int, ↓tr_tup, ↓tr_rol, ↓WS_nx, ↓WS_rt, ↓WS_ct, ↓WS_bk, ↓WS_exn, ↓WS_seq, ↓WS_nil, ↓WS_retN, ↓WS_break, ↓WS_cont, ↓WS_expr, ↓WS_ret, ↓WS_if, ↓WS_set, ↓WS_par, ↓WS_asg, ↓WS_gSet, ↓WS_gN, ↓WS_gC, ↓WS_gUn, ↓WS_gSub, ↓WS_aug, ↓o_add, ↓o_iadd, ↓o_sub, ↓o_neg, ↓o_mul, ↓o_mod, ↓o_div, ↓o_pow, ↓o_addT, ↓o_addS, ↓o_addL, ↓o_lt, ↓o_le, ↓o_gt, ↓o_ge, ↓o_eq, ↓o_ne, ↓o_eqS, ↓o_neS, ↓o_eqB, ↓o_neB, ↓o_eqT, ↓o_neT, ↓o_eqN, ↓o_neN, ↓o_ltT, ↓o_leT, ↓o_is, ↓o_isnot, ↓o_isB, ↓o_isnotB, ↓o_inT, ↓o_ninT, ↓o_inL, ↓o_ninL, ↓o_ixT, ↓o_ixR, ↓o_ixL, ↓o_ixS, ↓o_str, ↓o_strS, ↓o_set, ↓o_lenT, ↓o_lenR, ↓o_lenL, ↓o_lenS, ↓o_int, ↓o_intT, ↓o_intF, ↓o_abs, ↓o_max, ↓o_min, ↓o_tuple, ↓o_list, ↓o_tup0, ↓o_tup1, ↓o_tup2, ↓o_tup3, ↓o_tup4, ↓o_tup5, ↓o_tup6, ↓o_lst0, ↓o_lst1, ↓o_lst2, ↓o_lst3, ↓o_lst4, ↓o_lst5, ↓o_lst6, ↓o_sum, ↓W_meth, ↓o_append, ↓o_extend, ↓o_popAt, ↓W_cut, ↓W_noPart, ↓W_part, ↓o_cutT, ↓o_cutR, ↓o_cutL, ↓W_isi, ↓W_ch, ↓WS_for, ↓WI_iter, ↓WI_range1, ↓WI_range2, ↓WI_range3, ↓WI_enum, ↓WS_f0, ↓WS_f1, ↓W_alloc, ↓W_ofL, ↓W_comp, ↓WB_yes, ↓W_c0, ↓W_c1, ↓W_listRg, ↓W_tupRg, ↓W_rRange1, ↓W_rRange2, o_intT, o_intF, o_intB, o_ixL, o_ixT, beq_self_eq_true, decide_true, decide_false, okEq, okCmp, okIn, D.fits, D.fitsL, D.dep, D.depL, D.eqv, D.eqvL, D.alike, D.alikeL, isBl_bl, isN_non, isN_bl, isN_int, isN_str, isN_tup, isN_rol, isN_loc, Nat.reduceAdd, Nat.reduceSub, Nat.max_self, Nat.min_self, Nat.max_zero, Nat.zero_max, Nat.min_zero, Nat.zero_min, ty_non, ty_bl, ty_int, ty_str, ty_tup, ty_rol, ty_loc, kb_bool_bool, kb_bool_int, kb_bool_str, kb_bool_tuple, kb_bool_list, kb_int_bool, kb_int_int, kb_int_str, kb_int_tuple, kb_int_list, kb_str_bool, kb_str_int, kb_str_str, kb_str_tuple, kb_str_list, kb_tuple_bool, kb_tuple_int, kb_tuple_str, kb_tuple_tuple, kb_tuple_list, kb_list_bool, kb_list_int, kb_list_str, kb_list_tuple, kb_list_list, kb_NoneType_bool, kb_NoneType_int, kb_NoneType_str, kb_NoneType_tuple, kb_NoneType_list, Nat.zero_add, c02, lstAt_setE, Option.map_some, lstAt_set_ne, ne_eq, Nat.reduceEqDiff, Nat.one_ne_zero, Nat.zero_ne_one, ix_1_0, ix_2_0, ix_2_1, ix_3_0, ix_3_1, ix_3_2, ix_4_0, ix_4_1, ix_4_2, ix_4_3, ix_5_0, ix_5_1, ix_5_2, ix_5_3, ix_5_4, ix_6_0, ix_6_1, ix_6_2, ix_6_3, ix_6_4, ix_6_5, Nat.reduceLeDiff, Int.reduceAdd, Int.reduceSub, Int.reduceMul, Int.reduceNeg, Int.reducePow, Int.reduceLT, Int.reduceLE, Int.reduceEq, Int.reduceToNat, Bool.and_true, Bool.true_and, Bool.and_self, Bool.and_false, Bool.false_and, Bool.and_eq_true, Bool.and_eq_false_imp, and_self, WS_qdn, WS_qdr, WS_qde, WS_qdb, WS_qdc, qn1, qn2, qn3, qn4, qn5, qk1, qk5, lq1, lq2, lq3, lq4, lq5, intD_int, items_tup, items_rol, items_loc, listOf_loc, listOf_rol, isL_loc, at0, at1, at2, at3, at4, at5, atl1, atl2, atl3, atl4, lstAt_new, it_tup, it_rol, kTup_eq, kLen_eq, wipe0, wipe1, b_nm, List.set_cons_zero, List.set_cons_succ, List.length_cons, List.length_nil, List.nil_append, List.cons_append, List.append_nil, List.isEmpty_cons, List.isEmpty_nil, true_and, and_true, false_and, and_false, true_implies, forall_const, not_true_eq_false, not_false_eq_true, implies_true, decide_eq_true_eq, decide_eq_false_iff_not, Bool.not_eq_true', Bool.not_eq_false', Bool.not_true, Bool.not_false, if_true, if_false, Bool.false_eq_true, Bool.true_eq_false, reduceCtorEq, false_implies, eq_self, it_loc hf11]
        refine W_cMap (fun _ y => ∃ i : Int, y = D.int i) (fun S' => S' = S11) rfl (by rw [List.length_map, sizeLine_eq]; simp; omega) (fun S' e => e ▸ lstAt_iff.mp hf11) (fun d S' hd e => ?_) fun ys S' e hys => ?_
        · subst e
          obtain ⟨f, hf, rfl⟩ := List.mem_map.mp hd
          simp only [↓reduceIte, ↓W_ok, ↓W_exn, ↓W_var0, ↓W_varS, ↓W_K, ↓W_bin, ↓W_un, ↓W_aNil, ↓W_aCons, ↓W_arg, ↓W_call, ↓W_of, ↓WB_test, ↓tc_bl, ↓WB_tru, ↓trc, ↓WB_and, ↓WB_or, ↓WB_not, ↓W_if, ↓W_andV, ↓W_orV, ↓W_notV, ↓WM_some, ↓WM_none, ↓WO_some, ↓tr_bl, ↓tr_non, ↓tr_int, ↓tr_tup, ↓tr_rol, ↓WS_nx, ↓WS_rt, ↓WS_ct, ↓WS_bk, ↓WS_exn, ↓WS_seq, ↓WS_nil, ↓WS_retN, ↓WS_break, ↓WS_cont, ↓WS_expr, ↓WS_ret, ↓WS_if, ↓WS_set, ↓WS_par, ↓WS_asg, ↓WS_gSet, ↓WS_gN, ↓WS_gC, ↓WS_gUn, ↓WS_gSub, ↓WS_aug, ↓o_add, ↓o_iadd, ↓o_sub, ↓o_neg, ↓o_mul, ↓o_mod, ↓o_div, ↓o_pow, ↓o_addT, ↓o_addS, ↓o_addL, ↓o_lt, ↓o_le, ↓o_gt, ↓o_ge, ↓o_eq, ↓o_ne, ↓o_eqS, ↓o_neS, ↓o_eqB, ↓o_neB, ↓o_eqT, ↓o_neT, ↓o_eqN, ↓o_neN, ↓o_ltT, ↓o_leT, ↓o_is, ↓o_isnot, ↓o_isB, ↓o_isnotB, ↓o_inT, ↓o_ninT, ↓o_inL, ↓o_ninL, ↓o_ixT, ↓o_ixR, ↓o_ixL, ↓o_ixS, ↓o_str, ↓o_strS, ↓o_set, ↓o_lenT, ↓o_lenR, ↓o_lenL, ↓o_lenS, ↓o_int, ↓o_intT, ↓o_intF, ↓o_abs, ↓o_max, ↓o_min, ↓o_tuple, ↓o_list, ↓o_tup0, ↓o_tup1, ↓o_tup2, ↓o_tup3, ↓o_tup4, ↓o_tup5, ↓o_tup6, ↓o_lst0, ↓o_lst1, ↓o_lst2, ↓o_lst3, ↓o_lst4, ↓o_lst5, ↓o_lst6, ↓o_sum, ↓W_meth, ↓o_append, ↓o_extend, ↓o_popAt, ↓W_cut, ↓W_noPart, ↓W_part, ↓o_cutT, ↓o_cutR, ↓o_cutL, ↓W_isi, ↓W_ch, ↓WS_for, ↓WI_iter, ↓WI_range1, ↓WI_range2, ↓WI_range3, ↓WI_enum, ↓WS_f0, ↓WS_f1, ↓W_alloc, ↓W_ofL, ↓W_comp, ↓WB_yes, ↓W_c0, ↓W_c1, ↓W_listRg, ↓W_tupRg, ↓W_rRange1, ↓W_rRange2, o_intT, o_intF, o_intB, o_ixL, o_ixT, beq_self_eq_true, decide_true, decide_false, okEq, okCmp, okIn, D.fits, D.fitsL, D.dep, D.depL, D.eqv, D.eqvL, D.alike, D.alikeL, isBl_bl, isN_non, isN_bl, isN_int, isN_str, isN_tup, isN_rol, isN_loc, Nat.reduceAdd, Nat.reduceSub, Nat.max_self, Nat.min_self, Nat.max_zero, Nat.zero_max, Nat.min_zero, Nat.zero_min, ty_non, ty_bl, ty_int, ty_str, ty_tup, ty_rol, ty_loc, kb_bool_bool, kb_bool_int, kb_bool_str, kb_bool_tuple, kb_bool_list, kb_int_bool, kb_int_int, kb_int_str, kb_int_tuple, kb_int_list, kb_str_bool, kb_str_int, kb_str_str, kb_str_tuple, kb_str_list, kb_tuple_bool, kb_tuple_int, kb_tuple_str, kb_tuple_tuple, kb_tuple_list, kb_list_bool, kb_list_int, kb_list_str, kb_list_tuple, kb_list_list, kb_NoneType_bool, kb_NoneType_int, kb_NoneType_str, kb_NoneType_tuple, kb_NoneType_list, Nat.zero_add, c02, lstAt_setE, Option.map_some, lstAt_set_ne, ne_eq, Nat.reduceEqDiff, Nat.one_ne_zero, Nat.zero_ne_one, ix_1_0, ix_2_0, ix_2_1, ix_3_0, ix_3_1, ix_3_2, ix_4_0, ix_4_1, ix_4_2, ix_4_3, ix_5_0, ix_5_1, ix_5_2, ix_5_3, ix_5_4, ix_6_0, ix_6_1, ix_6_2, ix_6_3, ix_6_4, ix_6_5, Nat.reduceLeDiff, Int.reduceAdd, Int.reduceSub, Int.reduceMul, Int.reduceNeg, Int.reducePow, Int.reduceLT, Int.reduceLE, Int.reduceEq, Int.reduceToNat, Bool.and_true, Bool.true_and, Bool.and_self, Bool.and_false, Bool.false_and, Bool.and_eq_true, Bool.and_eq_false_imp, and_self, WS_qdn, WS_qdr, WS_qde, WS_qdb, WS_qdc, qn1, qn2, qn3, qn4, qn5, qk1, qk5, lq1, lq2, lq3, lq4, lq5, intD_int, items_tup, items_rol, items_loc, listOf_loc, listOf_rol, isL_loc, at0, at1, at2, at3, at4, at5, atl1, atl2, atl3, atl4, lstAt_new, it_tup, it_rol, kTup_eq, kLen_eq, wipe0, wipe1, b_nm, List.set_cons_zero, List.set_cons_succ, List.length_cons, List.length_nil, List.nil_append, List.cons_append, List.append_nil, List.isEmpty_cons, List.isEmpty_nil, true_and, and_true, false_and, and_false, true_implies, forall_const, not_true_eq_false, not_false_eq_true, implies_true, decide_eq_true_eq, decide_eq_false_iff_not, Bool.not_eq_true', Bool.not_eq_false', Bool.not_true, Bool.not_false, if_true, if_false, Bool.false_eq_true, Bool.true_eq_false, reduceCtorEq, false_implies, eq_self, fd_eq]
          exact ⟨_, rfl⟩
        · subst e
          obtain ⟨as, rfl, hasl⟩ := all2_ints hys
          rw [List.length_map] at hasl
          have it2 : ∀ {S : Store}, itOf S (rp r) = some (none, [r.1.d, r.2.d]) := rfl
          have halfs : ∀ (as : List Int), ∀ y ∈ as.map D.int, Half y := fun as y hy => by
            obtain ⟨i, _, rfl⟩ := List.mem_map.mp hy
            exact .inr ⟨i, rfl⟩
          have h11 := hF11.len
          rw [List.nil_append]
          simp only [↓reduceIte, ↓W_ok, ↓W_exn, ↓W_var0, ↓W_varS, ↓W_K, ↓W_bin, ↓W_un, ↓W_aNil, ↓W_aCons, ↓W_arg, ↓W_call, ↓W_of, ↓WB_test, ↓tc_bl, ↓WB_tru, ↓trc, ↓WB_and, ↓WB_or, ↓WB_not, ↓W_if, ↓W_andV, ↓W_orV, ↓W_notV, ↓WM_some, ↓WM_none, ↓WO_some, ↓tr_bl, ↓tr_non, ↓tr_int, ↓tr_tup, ↓tr_rol, ↓WS_nx, ↓WS_rt, ↓WS_ct, ↓WS_bk, ↓WS_exn, ↓WS_seq, ↓WS_nil, ↓WS_retN, ↓WS_break, ↓WS_cont, ↓WS_expr, ↓WS_ret, ↓WS_if, ↓WS_set, ↓WS_par, ↓WS_asg, ↓WS_gSet, ↓WS_gN, ↓WS_gC, ↓WS_gUn, ↓WS_gSub, ↓WS_aug, ↓o_add, ↓o_iadd, ↓o_sub, ↓o_neg, ↓o_mul, ↓o_mod, ↓o_div, ↓o_pow, ↓o_addT, ↓o_addS, ↓o_addL, ↓o_lt, ↓o_le, ↓o_gt, ↓o_ge, ↓o_eq, ↓o_ne, ↓o_eqS, ↓o_neS, ↓o_eqB, ↓o_neB, ↓o_eqT, ↓o_neT, ↓o_eqN, ↓o_neN, ↓o_ltT, ↓o_leT, ↓o_is, ↓o_isnot, ↓o_isB, ↓o_isnotB, ↓o_inT, ↓o_ninT, ↓o_inL, ↓o_ninL, ↓o_ixT, ↓o_ixR, ↓o_ixL, ↓o_ixS, ↓o_str, ↓o_strS, ↓o_set, ↓o_lenT, ↓o_lenR, ↓o_lenL, ↓o_lenS, ↓o_int, ↓o_intT, ↓o_intF, ↓o_abs, ↓o_max, ↓o_min, ↓o_tuple, ↓o_list, ↓o_tup0, ↓o_tup1, ↓o_tup2, ↓o_tup3, ↓o_tup4, ↓o_tup5, ↓o_tup6, ↓o_lst0, ↓o_lst1, ↓o_lst2, ↓o_lst3, ↓o_lst4, ↓o_lst5, ↓o_lst6, ↓o_sum, ↓W_meth, ↓o_append, ↓o_extend, ↓o_popAt, ↓W_cut, ↓W_noPart, ↓W_part, ↓o_cutT, ↓o_cutR, ↓o_cutL, ↓W_isi, ↓W_ch, ↓WS_for, ↓WI_iter, ↓WI_range1, ↓WI_range2, ↓WI_range3, ↓WI_enum, ↓WS_f0, ↓W_alloc, ↓W_ofL, ↓W_comp, ↓WB_yes, ↓W_c0, ↓W_c1, ↓W_listRg, ↓W_tupRg, ↓W_rRange1, ↓W_rRange2, o_intT, o_intF, o_intB, o_ixL, o_ixT, beq_self_eq_true, decide_true, decide_false, okEq, okCmp, okIn, D.fits, D.fitsL, D.dep, D.depL, D.eqv, D.eqvL, D.alike, D.alikeL, isBl_bl, isN_non, isN_bl, isN_int, isN_str, isN_tup, isN_rol, isN_loc, Nat.reduceAdd, Nat.reduceSub, Nat.max_self, Nat.min_self, Nat.max_zero, Nat.zero_max, Nat.min_zero, Nat.zero_min, ty_non, ty_bl, ty_int, ty_str, ty_tup, ty_rol, ty_loc, kb_bool_bool, kb_bool_int, kb_bool_str, kb_bool_tuple, kb_bool_list, kb_int_bool, kb_int_int, kb_int_str, kb_int_tuple, kb_int_list, kb_str_bool, kb_str_int, kb_str_str, kb_str_tuple, kb_str_list, kb_tuple_bool, kb_tuple_int, kb_tuple_str, kb_tuple_tuple, kb_tuple_list, kb_list_bool, kb_list_int, kb_list_str, kb_list_tuple, kb_list_list, kb_NoneType_bool, kb_NoneType_int, kb_NoneType_str, kb_NoneType_tuple, kb_NoneType_list, Nat.zero_add, c02, lstAt_setE, Option.map_some, lstAt_set_ne, ne_eq, Nat.reduceEqDiff, Nat.one_ne_zero, Nat.zero_ne_one, ix_1_0, ix_2_0, ix_2_1, ix_3_0, ix_3_1, ix_3_2, ix_4_0, ix_4_1, ix_4_2, ix_4_3, ix_5_0, ix_5_1, ix_5_2, ix_5_3, ix_5_4, ix_6_0, ix_6_1, ix_6_2, ix_6_3, ix_6_4, ix_6_5, Nat.reduceLeDiff, Int.reduceAdd, Int.reduceSub, Int.reduceMul, Int.reduceNeg, Int.reducePow, Int.reduceLT, Int.reduceLE, Int.reduceEq, Int.reduceToNat, Bool.and_true, Bool.true_and, Bool.and_self, Bool.and_false, Bool.false_and, Bool.and_eq_true, Bool.and_eq_false_imp, and_self, WS_qdn, WS_qdr, WS_qde, WS_qdb, WS_qdc, qn1, qn2, qn3, qn4, qn5, qk1, qk5, lq1, lq2, lq3, lq4, lq5, intD_int, items_tup, items_rol, items_loc, listOf_loc, listOf_rol, isL_loc, at0, at1, at2, at3, at4, at5, atl1, atl2, atl3, atl4, lstAt_new, it_tup, it_rol, kTup_eq, kLen_eq, wipe0, wipe1, b_nm, List.set_cons_zero, List.set_cons_succ, List.length_cons, List.length_nil, List.nil_append, List.cons_append, List.append_nil, List.isEmpty_cons, List.isEmpty_nil, true_and, and_true, false_and, and_false, true_implies, forall_const, not_true_eq_false, not_false_eq_true, implies_true, decide_eq_true_eq, decide_eq_false_iff_not, Bool.not_eq_true', Bool.not_eq_false', Bool.not_true, Bool.not_false, if_true, if_false, Bool.false_eq_true, Bool.true_eq_false, reduceCtorEq, false_implies, eq_self, it2]
          refine WS_loop (fun ds σ T => FeedOk T ∧ Fr S T ∧ (∀ y ∈ ds, ∃ s : Sy, y = s.d ∧ s.at_ 12) ∧ ∃ (bs : List Int) (p : Option D), lstAt T S'.length = some (bs.map D.int) ∧ bs.length = 12 ∧ σ = [some (D.loc 1), some (D.loc l), some (D.loc (List.length S1)), a, some (D.loc (List.length S2)), some (D.int st), some (D.int first), some (D.loc m), some (D.loc (List.length S6)), some (D.tup [FD fs, D.tup (List.map rp rs3)]), some (D.tup _), some (rp r), some (D.loc (List.length S')), p, b, none])
            ⟨hF11.app _, ((F1.trans F17).trans F711).app _, fun y hy => ?_, as, _, lstAt_new, by rw [hasl, hfl], rfl⟩ ?_ ?_
          · simp only [List.mem_cons, List.not_mem_nil, or_false] at hy
            rcases hy with rfl | rfl
            · exact ⟨_, rfl, hs, s0, s1⟩
            · exact ⟨_, rfl, ht, t0, t1⟩
          · rintro d q σ T ⟨hFT, FT, hd, bs, p, hb, hbl, rfl⟩
            refine ⟨trivial, ?_⟩
            obtain ⟨s, rfl, hs, s0, s1⟩ := hd d (by simp)
            have hix : ixN (bs.map D.int).length s.f = some s.f.toNat := ixN_of s0 (by rw [List.length_map, hbl]; exact s1)
            have go : ∀ (u : Int) (L : List D), FeedOk ((T ++ [Cell.lst L]).set S'.length (.lst ((bs.map D.int).set s.f.toNat (.int u)))) ∧ Fr S ((T ++ [Cell.lst L]).set S'.length (.lst ((bs.map D.int).set s.f.toNat (.int u)))) ∧ ∃ bs' : List Int, (bs.map D.int).set s.f.toNat (.int u) = bs'.map D.int ∧ bs'.length = 12 := fun u L => by
              have lenS := ((F1.trans F17).trans F711).len
              exact ⟨(hFT.app _).set h11, (FT.app _).set lenS, bs.set s.f.toNat u, by rw [List.map_set], by rw [List.length_set, hbl]⟩
            rcases hs with hw | hw
            all_goals
              simp only [↓reduceIte, ↓W_ok, ↓W_exn, ↓W_var0, ↓W_varS, ↓W_K, ↓W_bin, ↓W_un, ↓W_aNil, ↓W_aCons, ↓W_arg, ↓W_call, ↓W_of, ↓WB_test, ↓tc_bl, ↓WB_tru, ↓trc, ↓WB_and, ↓WB_or, ↓WB_not, ↓W_if, ↓W_andV, ↓W_orV, ↓W_notV, ↓WM_some, ↓WM_none, ↓WO_some, ↓tr_bl, ↓tr_non, ↓tr_int, ↓tr_tup, ↓tr_rol, ↓WS_nx, ↓WS_rt, ↓WS_ct, ↓WS_bk, ↓WS_exn, ↓WS_seq, ↓WS_nil, ↓WS_retN, ↓WS_break, ↓WS_cont, ↓WS_expr, ↓WS_ret, ↓WS_if, ↓WS_set, ↓WS_par, ↓WS_asg, ↓WS_gSet, ↓WS_gN, ↓WS_gC, ↓WS_gUn, ↓WS_gSub, ↓WS_aug, ↓o_add, ↓o_iadd, ↓o_sub, ↓o_neg, ↓o_mul, ↓o_mod, ↓o_div, ↓o_pow, ↓o_addT, ↓o_addS, ↓o_addL, ↓o_lt, ↓o_le, ↓o_gt, ↓o_ge, ↓o_eq, ↓o_ne, ↓o_eqS, ↓o_neS, ↓o_eqB, ↓o_neB, ↓o_eqT, ↓o_neT, ↓o_eqN, ↓o_neN, ↓o_ltT, ↓o_leT, ↓o_is, ↓o_isnot, ↓o_isB, ↓o_isnotB, ↓o_inT, ↓o_ninT, ↓o_inL, ↓o_ninL, ↓o_ixT, ↓o_ixR, ↓o_ixL, ↓o_ixS, ↓o_str, ↓o_strS, ↓o_set, ↓o_lenT, ↓o_lenR, ↓o_lenL, ↓o_lenS, ↓o_int, ↓o_intT, ↓o_intF, ↓o_abs, ↓o_max, ↓o_min, ↓o_tuple, ↓o_list, ↓o_tup0, ↓o_tup1, ↓o_tup2, ↓o_tup3, ↓o_tup4, ↓o_tup5, ↓o_tup6, ↓o_lst0, ↓o_lst1, ↓o_lst2, ↓o_lst3, ↓o_lst4, ↓o_lst5, ↓o_lst6, ↓o_sum, ↓W_meth, ↓o_append, ↓o_extend, ↓o_popAt, ↓W_cut, ↓W_noPart, ↓W_part, ↓o_cutT, ↓o_cutR, ↓o_cutL, ↓W_isi, ↓W_ch, ↓WS_for, ↓WI_iter, ↓WI_range1, ↓WI_range2, ↓WI_range3, ↓WI_enum, ↓WS_f0, ↓WS_f1, ↓W_alloc, ↓W_ofL, ↓W_comp, ↓WB_yes, ↓W_c0, ↓W_c1, ↓W_listRg, ↓W_tupRg, ↓W_rRange1, ↓W_rRange2, o_intT, o_intF, o_intB, o_ixL, o_ixT, beq_self_eq_true, decide_true, decide_false, okEq, okCmp, okIn, D.fits, D.fitsL, D.dep, D.depL, D.eqv, D.eqvL, D.alike, D.alikeL, isBl_bl, isN_non, isN_bl, isN_int, isN_str, isN_tup, isN_rol, isN_loc, Nat.reduceAdd, Nat.reduceSub, Nat.max_self, Nat.min_self, Nat.max_zero, Nat.zero_max, Nat.min_zero, Nat.zero_min, ty_non, ty_bl, ty_int, ty_str, ty_tup, ty_rol, ty_loc, kb_bool_bool, kb_bool_int, kb_bool_str, kb_bool_tuple, kb_bool_list, kb_int_bool, kb_int_int, kb_int_str, kb_int_tuple, kb_int_list, kb_str_bool, kb_str_int, kb_str_str, kb_str_tuple, kb_str_list, kb_tuple_bool, kb_tuple_int, kb_tuple_str, kb_tuple_tuple, kb_tuple_list, kb_list_bool, kb_list_int, kb_list_str, kb_list_tuple, kb_list_list, kb_NoneType_bool, kb_NoneType_int, kb_NoneType_str, kb_NoneType_tuple, kb_NoneType_list, Nat.zero_add, c02, lstAt_setE, Option.map_some, lstAt_set_ne, ne_eq, Nat.reduceEqDiff, Nat.one_ne_zero, Nat.zero_ne_one, ix_1_0, ix_2_0, ix_2_1, ix_3_0, ix_3_1, ix_3_2, ix_4_0, ix_4_1, ix_4_2, ix_4_3, ix_5_0, ix_5_1, ix_5_2, ix_5_3, ix_5_4, ix_6_0, ix_6_1, ix_6_2, ix_6_3, ix_6_4, ix_6_5, Nat.reduceLeDiff, Int.reduceAdd, Int.reduceSub, Int.reduceMul, Int.reduceNeg, Int.reducePow, Int.reduceLT, Int.reduceLE, Int.reduceEq, Int.reduceToNat, Bool.and_true, Bool.true_and, Bool.and_self, Bool.and_false, Bool.false_and, Bool.and_eq_true, Bool.and_eq_false_imp, and_self, WS_qdn, WS_qdr, WS_qde, WS_qdb, WS_qdc, qn1, qn2, qn3, qn4, qn5, qk1, qk5, lq1, lq2, lq3, lq4, lq5, intD_int, items_tup, items_rol, items_loc, listOf_loc, listOf_rol, isL_loc, at0, at1, at2, at3, at4, at5, atl1, atl2, atl3, atl4, lstAt_new, it_tup, it_rol, kTup_eq, kLen_eq, wipe0, wipe1, b_nm, List.set_cons_zero, List.set_cons_succ, List.length_cons, List.length_nil, List.nil_append, List.cons_append, List.append_nil, List.isEmpty_cons, List.isEmpty_nil, true_and, and_true, false_and, and_false, true_implies, forall_const, not_true_eq_false, not_false_eq_true, implies_true, decide_eq_true_eq, decide_eq_false_iff_not, Bool.not_eq_true', Bool.not_eq_false', Bool.not_true, Bool.not_false, if_true, if_false, Bool.false_eq_true, Bool.true_eq_false, reduceCtorEq, false_implies, eq_self, ix_d, hw, lstAt_app hb, hix]
              obtain ⟨z1, z2, bs', z3, z4⟩ := go _ _
              exact ⟨z1, z2, fun y hy => hd y (List.mem_cons_of_mem _ hy), bs', _, by rw [← z3], z4, rfl⟩
          · rintro σ T ⟨hFT, FT, hd, bs, p, hb, hbl, rfl⟩
            refine ⟨trivial, ?_⟩
            simp only [↓reduceIte, ↓W_ok, ↓W_exn, ↓W_var0, ↓W_varS, ↓W_K, ↓W_bin, ↓W_un, ↓W_aNil, ↓W_aCons, ↓W_arg, ↓W_call, ↓W_of, ↓WB_test, ↓tc_bl, ↓WB_tru, ↓trc, ↓WB_and, ↓WB_or, ↓WB_not, ↓W_if, ↓W_andV, ↓W_orV, ↓W_notV, ↓WM_some, ↓WM_none, ↓WO_some, ↓tr_bl, ↓tr_non, ↓tr_int, ↓tr_tup, ↓tr_rol, ↓WS_nx, ↓WS_rt, ↓WS_ct, ↓WS_bk, ↓WS_exn, ↓WS_seq, ↓WS_nil, ↓WS_retN, ↓WS_break, ↓WS_cont, ↓WS_expr, ↓WS_ret, ↓WS_if, ↓WS_set, ↓WS_par, ↓WS_asg, ↓WS_gSet, ↓WS_gN, ↓WS_gC, ↓WS_gUn, ↓WS_gSub, ↓WS_aug, ↓o_add, ↓o_iadd, ↓o_sub, ↓o_neg, ↓o_mul, ↓o_mod, ↓o_div, ↓o_pow, ↓o_addT, ↓o_addS, ↓o_addL, ↓o_lt, ↓o_le, ↓o_gt, ↓o_ge, ↓o_eq, ↓o_ne, ↓o_eqS, ↓o_neS, ↓o_eqB, ↓o_neB, ↓o_eqT, ↓o_neT, ↓o_eqN, ↓o_neN, ↓o_ltT, ↓o_leT, ↓o_is, ↓o_isnot, ↓o_isB, ↓o_isnotB, ↓o_inT, ↓o_ninT, ↓o_inL, ↓o_ninL, ↓o_ixT, ↓o_ixR, ↓o_ixL, ↓o_ixS, ↓o_str, ↓o_strS, ↓o_set, ↓o_lenT, ↓o_lenR, ↓o_lenL, ↓o_lenS, ↓o_int, ↓o_intT, ↓o_intF, ↓o_abs, ↓o_max, ↓o_min, ↓o_tuple, ↓o_list, ↓o_tup0, ↓o_tup1, ↓o_tup2, ↓o_tup3, ↓o_tup4, ↓o_tup5, ↓o_tup6, ↓o_lst0, ↓o_lst1, ↓o_lst2, ↓o_lst3, ↓o_lst4, ↓o_lst5, ↓o_lst6, ↓o_sum, ↓W_meth, ↓o_append, ↓o_extend, ↓o_popAt, ↓W_cut, ↓W_noPart, ↓W_part, ↓o_cutT, ↓o_cutR, ↓o_cutL, ↓W_isi, ↓W_ch, ↓WS_for, ↓WI_iter, ↓WI_range1, ↓WI_range2, ↓WI_range3, ↓WI_enum, ↓WS_f0, ↓WS_f1, ↓W_alloc, ↓W_ofL, ↓W_comp, ↓WB_yes, ↓W_c0, ↓W_c1, ↓W_listRg, ↓W_tupRg, ↓W_rRange1, ↓W_rRange2, o_intT, o_intF, o_intB, o_ixL, o_ixT, beq_self_eq_true, decide_true, decide_false, okEq, okCmp, okIn, D.fits, D.fitsL, D.dep, D.depL, D.eqv, D.eqvL, D.alike, D.alikeL, isBl_bl, isN_non, isN_bl, isN_int, isN_str, isN_tup, isN_rol, isN_loc, Nat.reduceAdd, Nat.reduceSub, Nat.max_self, Nat.min_self, Nat.max_zero, Nat.zero_max, Nat.min_zero, Nat.zero_min, ty_non, ty_bl, ty_int, ty_str, ty_tup, ty_rol, ty_loc, kb_bool_bool, kb_bool_int, kb_bool_str, kb_bool_tuple, kb_bool_list, kb_int_bool, kb_int_int, kb_int_str, kb_int_tuple, kb_int_list, kb_str_bool, kb_str_int, kb_str_str, kb_str_tuple, kb_str_list, kb_tuple_bool, kb_tuple_int, kb_tuple_str, kb_tuple_tuple, kb_tuple_list, kb_list_bool, kb_list_int, kb_list_str, kb_list_tuple, kb_list_list, kb_NoneType_bool, kb_NoneType_int, kb_NoneType_str, kb_NoneType_tuple, kb_NoneType_list, Nat.zero_add, c02, lstAt_setE, Option.map_some, lstAt_set_ne, ne_eq, Nat.reduceEqDiff, Nat.one_ne_zero, Nat.zero_ne_one, ix_1_0, ix_2_0, ix_2_1, ix_3_0, ix_3_1, ix_3_2, ix_4_0, ix_4_1, ix_4_2, ix_4_3, ix_5_0, ix_5_1, ix_5_2, ix_5_3, ix_5_4, ix_6_0, ix_6_1, ix_6_2, ix_6_3, ix_6_4, ix_6_5, Nat.reduceLeDiff, Int.reduceAdd, Int.reduceSub, Int.reduceMul, Int.reduceNeg, Int.reducePow, Int.reduceLT, Int.reduceLE, Int.reduceEq, Int.reduceToNat, Bool.and_true, Bool.true_and, Bool.and_self, Bool.and_false, Bool.false_and, Bool.and_eq_true, Bool.and_eq_false_imp, and_self, WS_qdn, WS_qdr, WS_qde, WS_qdb, WS_qdc, qn1, qn2, qn3, qn4, qn5, qk1, qk5, lq1, lq2, lq3, lq4, lq5, intD_int, items_tup, items_rol, items_loc, listOf_loc, listOf_rol, isL_loc, at0, at1, at2, at3, at4, at5, atl1, atl2, atl3, atl4, lstAt_new, it_tup, it_rol, kTup_eq, kLen_eq, wipe0, wipe1, b_nm, List.set_cons_zero, List.set_cons_succ, List.length_cons, List.length_nil, List.nil_append, List.cons_append, List.append_nil, List.isEmpty_cons, List.isEmpty_nil, true_and, and_true, false_and, and_false, true_implies, forall_const, not_true_eq_false, not_false_eq_true, implies_true, decide_eq_true_eq, decide_eq_false_iff_not, Bool.not_eq_true', Bool.not_eq_false', Bool.not_true, Bool.not_false, if_true, if_false, Bool.false_eq_true, Bool.true_eq_false, reduceCtorEq, false_implies, eq_self, hb]
            refine asked_w hFT (by rw [List.length_map, hbl]; exact hrs3) (by omega) (by rw [List.length_map]; omega) (halfs _) fun S12 hF12 F12 => ?_
            exact h _ hF12 (FT.trans F12)
end
end LW

namespace LW
open PySem PySem.Spec PyProof.Rows L2 DL
section
theorem law_true : ∀ ns : List Int, ns.length ≤ 63 → (∀ z ∈ ns, Builtin.Int.intBits z ≤ 1048576) → ∃ S', m_law [.rol (ns.map D.int)] [] = .ok (.bl true) S' := by
  intro ns hl _
  suffices h : W (X0, fun d _ => d = .bl true) tg (m_law [.rol (ns.map D.int)] []) by
    obtain ⟨a, S, e, rfl⟩ := W_ex h
    exact ⟨S, e⟩
  simp only [↓reduceIte, ↓W_ok, ↓W_exn, ↓W_var0, ↓W_varS, ↓W_K, ↓W_bin, ↓W_un, ↓W_aNil, ↓W_aCons, ↓W_arg, ↓W_call, ↓W_of, ↓WB_test, ↓tc_bl, ↓WB_tru, ↓trc, ↓WB_and, ↓WB_or, ↓WB_not, ↓W_if, ↓W_andV, ↓W_orV, ↓W_notV, ↓WM_some, ↓WM_none, ↓WO_some, ↓tr_bl, ↓tr_non, ↓tr_int, ↓tr_tup, ↓tr_rol, ↓WS_nx, ↓WS_rt, ↓WS_ct, ↓WS_bk, ↓WS_exn, ↓WS_seq, ↓WS_nil, ↓WS_retN, ↓WS_break, ↓WS_cont, ↓WS_expr, ↓WS_ret, ↓WS_if, ↓WS_set, ↓WS_par, ↓WS_asg, ↓WS_gSet, ↓WS_gN, ↓WS_gC, ↓WS_gUn, ↓WS_gSub, ↓WS_aug, ↓o_add, ↓o_iadd, ↓o_sub, ↓o_neg, ↓o_mul, ↓o_mod, ↓o_div, ↓o_pow, ↓o_addT, ↓o_addS, ↓o_addL, ↓o_lt, ↓o_le, ↓o_gt, ↓o_ge, ↓o_eq, ↓o_ne, ↓o_eqS, ↓o_neS, ↓o_eqB, ↓o_neB, ↓o_eqT, ↓o_neT, ↓o_eqN, ↓o_neN, ↓o_ltT, ↓o_leT, ↓o_is, ↓o_isnot, ↓o_isB, ↓o_isnotB, ↓o_inT, ↓o_ninT, ↓o_inL, ↓o_ninL, ↓o_ixT, ↓o_ixR, ↓o_ixL, ↓o_ixS, ↓o_str, ↓o_strS, ↓o_set, ↓o_lenT, ↓o_lenR, ↓o_lenL, ↓o_lenS, ↓o_int, ↓o_intT, ↓o_intF, ↓o_abs, ↓o_max, ↓o_min, ↓o_tuple, ↓o_list, ↓o_tup0, ↓o_tup1, ↓o_tup2, ↓o_tup3, ↓o_tup4, ↓o_tup5, ↓o_tup6, ↓o_lst0, ↓o_lst1, ↓o_lst2, ↓o_lst3, ↓o_lst4, ↓o_lst5, ↓o_lst6, ↓o_sum, ↓W_meth, ↓o_append, ↓o_extend, ↓o_popAt, ↓W_cut, ↓W_noPart, ↓W_part, ↓o_cutT, ↓o_cutR, ↓o_cutL, ↓W_isi, ↓W_ch, ↓WS_for, ↓WI_iter, ↓WI_range1, ↓WI_range2, ↓WI_range3, ↓WI_enum, ↓WS_f0, ↓WS_f1, ↓W_alloc, ↓W_ofL, ↓W_comp, ↓WB_yes, ↓W_c0, ↓W_c1, ↓W_listRg, ↓W_tupRg, ↓W_rRange1, ↓W_rRange2, o_intT, o_intF, o_intB, o_ixL, o_ixT, beq_self_eq_true, decide_true, decide_false, okEq, okCmp, okIn, D.fits, D.fitsL, D.dep, D.depL, D.eqv, D.eqvL, D.alike, D.alikeL, isBl_bl, isN_non, isN_bl, isN_int, isN_str, isN_tup, isN_rol, isN_loc, Nat.reduceAdd, Nat.reduceSub, Nat.max_self, Nat.min_self, Nat.max_zero, Nat.zero_max, Nat.min_zero, Nat.zero_min, ty_non, ty_bl, ty_int, ty_str, ty_tup, ty_rol, ty_loc, kb_bool_bool, kb_bool_int, kb_bool_str, kb_bool_tuple, kb_bool_list, kb_int_bool, kb_int_int, kb_int_str, kb_int_tuple, kb_int_list, kb_str_bool, kb_str_int, kb_str_str, kb_str_tuple, kb_str_list, kb_tuple_bool, kb_tuple_int, kb_tuple_str, kb_tuple_tuple, kb_tuple_list, kb_list_bool, kb_list_int, kb_list_str, kb_list_tuple, kb_list_list, kb_NoneType_bool, kb_NoneType_int, kb_NoneType_str, kb_NoneType_tuple, kb_NoneType_list, Nat.zero_add, c02, lstAt_setE, Option.map_some, lstAt_set_ne, ne_eq, Nat.reduceEqDiff, Nat.one_ne_zero, Nat.zero_ne_one, ix_1_0, ix_2_0, ix_2_1, ix_3_0, ix_3_1, ix_3_2, ix_4_0, ix_4_1, ix_4_2, ix_4_3, ix_5_0, ix_5_1, ix_5_2, ix_5_3, ix_5_4, ix_6_0, ix_6_1, ix_6_2, ix_6_3, ix_6_4, ix_6_5, Nat.reduceLeDiff, Int.reduceAdd, Int.reduceSub, Int.reduceMul, Int.reduceNeg, Int.reducePow, Int.reduceLT, Int.reduceLE, Int.reduceEq, Int.reduceToNat, Bool.and_true, Bool.true_and, Bool.and_self, Bool.and_false, Bool.false_and, Bool.and_eq_true, Bool.and_eq_false_imp, and_self, WS_qdn, WS_qdr, WS_qde, WS_qdb, WS_qdc, qn1, qn2, qn3, qn4, qn5, qk1, qk5, lq1, lq2, lq3, lq4, lq5, intD_int, items_tup, items_rol, items_loc, listOf_loc, listOf_rol, isL_loc, at0, at1, at2, at3, at4, at5, atl1, atl2, atl3, atl4, lstAt_new, it_tup, it_rol, kTup_eq, kLen_eq, wipe0, wipe1, b_nm, List.set_cons_zero, List.set_cons_succ, List.length_cons, List.length_nil, List.nil_append, List.cons_append, List.append_nil, List.isEmpty_cons, List.isEmpty_nil, true_and, and_true, false_and, and_false, true_implies, forall_const, not_true_eq_false, not_false_eq_true, implies_true, decide_eq_true_eq, decide_eq_false_iff_not, Bool.not_eq_true', Bool.not_eq_false', Bool.not_true, Bool.not_false, if_true, if_false, Bool.false_eq_true, Bool.true_eq_false, reduceCtorEq, false_implies, eq_self, wm_law, b_law]
  refine feed_w ns hl fun S1 hF1 l1 => ?_
  simp only [↓reduceIte, ↓W_ok, ↓W_exn, ↓W_var0, ↓W_varS, ↓W_K, ↓W_bin, ↓W_un, ↓W_aNil, ↓W_aCons, ↓W_arg, ↓W_call, ↓W_of, ↓WB_test, ↓tc_bl, ↓WB_tru, ↓trc, ↓WB_and, ↓WB_or, ↓WB_not, ↓W_if, ↓W_andV, ↓W_orV, ↓W_notV, ↓WM_some, ↓WM_none, ↓WO_some, ↓tr_bl, ↓tr_non, ↓tr_int, ↓tr_tup, ↓tr_rol, ↓WS_nx, ↓WS_rt, ↓WS_ct, ↓WS_bk, ↓WS_exn, ↓WS_seq, ↓WS_nil, ↓WS_retN, ↓WS_break, ↓WS_cont, ↓WS_expr, ↓WS_ret, ↓WS_if, ↓WS_set, ↓WS_par, ↓WS_asg, ↓WS_gSet, ↓WS_gN, ↓WS_gC, ↓WS_gUn, ↓WS_gSub, ↓WS_aug, ↓o_add, ↓o_iadd, ↓o_sub, ↓o_neg, ↓o_mul, ↓o_mod, ↓o_div, ↓o_pow, ↓o_addT, ↓o_addS, ↓o_addL, ↓o_lt, ↓o_le, ↓o_gt, ↓o_ge, ↓o_eq, ↓o_ne, ↓o_eqS, ↓o_neS, ↓o_eqB, ↓o_neB, ↓o_eqT, ↓o_neT, ↓o_eqN, ↓o_neN, ↓o_ltT, ↓o_leT, ↓o_is, ↓o_isnot, ↓o_isB, ↓o_isnotB, ↓o_inT, ↓o_ninT, ↓o_inL, ↓o_ninL, ↓o_ixT, ↓o_ixR, ↓o_ixL, ↓o_ixS, ↓o_str, ↓o_strS, ↓o_set, ↓o_lenT, ↓o_lenR, ↓o_lenL, ↓o_lenS, ↓o_int, ↓o_intT, ↓o_intF, ↓o_abs, ↓o_max, ↓o_min, ↓o_tuple, ↓o_list, ↓o_tup0, ↓o_tup1, ↓o_tup2, ↓o_tup3, ↓o_tup4, ↓o_tup5, ↓o_tup6, ↓o_lst0, ↓o_lst1, ↓o_lst2, ↓o_lst3, ↓o_lst4, ↓o_lst5, ↓o_lst6, ↓o_sum, ↓W_meth, ↓o_append, ↓o_extend, ↓o_popAt, ↓W_cut, ↓W_noPart, ↓W_part, ↓o_cutT, ↓o_cutR, ↓o_cutL, ↓W_isi, ↓W_ch, ↓WS_for, ↓WI_iter, ↓WI_range1, ↓WI_range2, ↓WI_range3, ↓WI_enum, ↓WS_f0, ↓WS_f1, ↓W_alloc, ↓W_ofL, ↓W_comp, ↓WB_yes, ↓W_c0, ↓W_c1, ↓W_listRg, ↓W_tupRg, ↓W_rRange1, ↓W_rRange2, o_intT, o_intF, o_intB, o_ixL, o_ixT, beq_self_eq_true, decide_true, decide_false, okEq, okCmp, okIn, D.fits, D.fitsL, D.dep, D.depL, D.eqv, D.eqvL, D.alike, D.alikeL, isBl_bl, isN_non, isN_bl, isN_int, isN_str, isN_tup, isN_rol, isN_loc, Nat.reduceAdd, Nat.reduceSub, Nat.max_self, Nat.min_self, Nat.max_zero, Nat.zero_max, Nat.min_zero, Nat.zero_min, ty_non, ty_bl, ty_int, ty_str, ty_tup, ty_rol, ty_loc, kb_bool_bool, kb_bool_int, kb_bool_str, kb_bool_tuple, kb_bool_list, kb_int_bool, kb_int_int, kb_int_str, kb_int_tuple, kb_int_list, kb_str_bool, kb_str_int, kb_str_str, kb_str_tuple, kb_str_list, kb_tuple_bool, kb_tuple_int, kb_tuple_str, kb_tuple_tuple, kb_tuple_list, kb_list_bool, kb_list_int, kb_list_str, kb_list_tuple, kb_list_list, kb_NoneType_bool, kb_NoneType_int, kb_NoneType_str, kb_NoneType_tuple, kb_NoneType_list, Nat.zero_add, c02, lstAt_setE, Option.map_some, lstAt_set_ne, ne_eq, Nat.reduceEqDiff, Nat.one_ne_zero, Nat.zero_ne_one, ix_1_0, ix_2_0, ix_2_1, ix_3_0, ix_3_1, ix_3_2, ix_4_0, ix_4_1, ix_4_2, ix_4_3, ix_5_0, ix_5_1, ix_5_2, ix_5_3, ix_5_4, ix_6_0, ix_6_1, ix_6_2, ix_6_3, ix_6_4, ix_6_5, Nat.reduceLeDiff, Int.reduceAdd, Int.reduceSub, Int.reduceMul, Int.reduceNeg, Int.reducePow, Int.reduceLT, Int.reduceLE, Int.reduceEq, Int.reduceToNat, Bool.and_true, Bool.true_and, Bool.and_self, Bool.and_false, Bool.false_and, Bool.and_eq_true, Bool.and_eq_false_imp, and_self, WS_qdn, WS_qdr, WS_qde, WS_qdb, WS_qdc, qn1, qn2, qn3, qn4, qn5, qk1, qk5, lq1, lq2, lq3, lq4, lq5, intD_int, items_tup, items_rol, items_loc, listOf_loc, listOf_rol, isL_loc, at0, at1, at2, at3, at4, at5, atl1, atl2, atl3, atl4, lstAt_new, it_tup, it_rol, kTup_eq, kLen_eq, wipe0, wipe1, b_nm, List.set_cons_zero, List.set_cons_succ, List.length_cons, List.length_nil, List.nil_append, List.cons_append, List.append_nil, List.isEmpty_cons, List.isEmpty_nil, true_and, and_true, false_and, and_false, true_implies, forall_const, not_true_eq_false, not_false_eq_true, implies_true, decide_eq_true_eq, decide_eq_false_iff_not, Bool.not_eq_true', Bool.not_eq_false', Bool.not_true, Bool.not_false, if_true, if_false, Bool.false_eq_true, Bool.true_eq_false, reduceCtorEq, false_implies, eq_self]
  refine fields_w hF1 (by omega) (by omega) (by omega) fun fs S2 hfl hok hF2 F2 => ?_
  have hfl : fs.length ≤ 4 := by omega
  have cf : ∀ S : Store, Cont (FD fs) none (fs.map Fld.d) S := fun S => Cont.tup
  have g2 := hF2.len
  simp only [↓reduceIte, ↓W_ok, ↓W_exn, ↓W_var0, ↓W_varS, ↓W_K, ↓W_bin, ↓W_un, ↓W_aNil, ↓W_aCons, ↓W_arg, ↓W_call, ↓W_of, ↓WB_test, ↓tc_bl, ↓WB_tru, ↓trc, ↓WB_and, ↓WB_or, ↓WB_not, ↓W_if, ↓W_andV, ↓W_orV, ↓W_notV, ↓WM_some, ↓WM_none, ↓WO_some, ↓tr_bl, ↓tr_non, ↓tr_int, ↓tr_tup, ↓tr_rol, ↓WS_nx, ↓WS_rt, ↓WS_ct, ↓WS_bk, ↓WS_exn, ↓WS_seq, ↓WS_nil, ↓WS_retN, ↓WS_break, ↓WS_cont, ↓WS_expr, ↓WS_ret, ↓WS_if, ↓WS_set, ↓WS_par, ↓WS_asg, ↓WS_gSet, ↓WS_gN, ↓WS_gC, ↓WS_gUn, ↓WS_gSub, ↓WS_aug, ↓o_add, ↓o_iadd, ↓o_sub, ↓o_neg, ↓o_mul, ↓o_mod, ↓o_div, ↓o_pow, ↓o_addT, ↓o_addS, ↓o_addL, ↓o_lt, ↓o_le, ↓o_gt, ↓o_ge, ↓o_eq, ↓o_ne, ↓o_eqS, ↓o_neS, ↓o_eqB, ↓o_neB, ↓o_eqT, ↓o_neT, ↓o_eqN, ↓o_neN, ↓o_ltT, ↓o_leT, ↓o_is, ↓o_isnot, ↓o_isB, ↓o_isnotB, ↓o_inT, ↓o_ninT, ↓o_inL, ↓o_ninL, ↓o_ixT, ↓o_ixR, ↓o_ixL, ↓o_ixS, ↓o_str, ↓o_strS, ↓o_set, ↓o_lenT, ↓o_lenR, ↓o_lenL, ↓o_lenS, ↓o_int, ↓o_intT, ↓o_intF, ↓o_abs, ↓o_max, ↓o_min, ↓o_tuple, ↓o_list, ↓o_tup0, ↓o_tup1, ↓o_tup2, ↓o_tup3, ↓o_tup4, ↓o_tup5, ↓o_tup6, ↓o_lst0, ↓o_lst1, ↓o_lst2, ↓o_lst3, ↓o_lst4, ↓o_lst5, ↓o_lst6, ↓o_sum, ↓W_meth, ↓o_append, ↓o_extend, ↓o_popAt, ↓W_cut, ↓W_noPart, ↓W_part, ↓o_cutT, ↓o_cutR, ↓o_cutL, ↓W_isi, ↓W_ch, ↓WS_for, ↓WI_iter, ↓WI_range1, ↓WI_range2, ↓WI_range3, ↓WI_enum, ↓WS_f0, ↓WS_f1, ↓W_alloc, ↓W_ofL, ↓W_comp, ↓WB_yes, ↓W_c0, ↓W_c1, ↓W_listRg, ↓W_tupRg, ↓W_rRange1, ↓W_rRange2, o_intT, o_intF, o_intB, o_ixL, o_ixT, beq_self_eq_true, decide_true, decide_false, okEq, okCmp, okIn, D.fits, D.fitsL, D.dep, D.depL, D.eqv, D.eqvL, D.alike, D.alikeL, isBl_bl, isN_non, isN_bl, isN_int, isN_str, isN_tup, isN_rol, isN_loc, Nat.reduceAdd, Nat.reduceSub, Nat.max_self, Nat.min_self, Nat.max_zero, Nat.zero_max, Nat.min_zero, Nat.zero_min, ty_non, ty_bl, ty_int, ty_str, ty_tup, ty_rol, ty_loc, kb_bool_bool, kb_bool_int, kb_bool_str, kb_bool_tuple, kb_bool_list, kb_int_bool, kb_int_int, kb_int_str, kb_int_tuple, kb_int_list, kb_str_bool, kb_str_int, kb_str_str, kb_str_tuple, kb_str_list, kb_tuple_bool, kb_tuple_int, kb_tuple_str, kb_tuple_tuple, kb_tuple_list, kb_list_bool, kb_list_int, kb_list_str, kb_list_tuple, kb_list_list, kb_NoneType_bool, kb_NoneType_int, kb_NoneType_str, kb_NoneType_tuple, kb_NoneType_list, Nat.zero_add, c02, lstAt_setE, Option.map_some, lstAt_set_ne, ne_eq, Nat.reduceEqDiff, Nat.one_ne_zero, Nat.zero_ne_one, ix_1_0, ix_2_0, ix_2_1, ix_3_0, ix_3_1, ix_3_2, ix_4_0, ix_4_1, ix_4_2, ix_4_3, ix_5_0, ix_5_1, ix_5_2, ix_5_3, ix_5_4, ix_6_0, ix_6_1, ix_6_2, ix_6_3, ix_6_4, ix_6_5, Nat.reduceLeDiff, Int.reduceAdd, Int.reduceSub, Int.reduceMul, Int.reduceNeg, Int.reducePow, Int.reduceLT, Int.reduceLE, Int.reduceEq, Int.reduceToNat, Bool.and_true, Bool.true_and, Bool.and_self, Bool.and_false, Bool.false_and, Bool.and_eq_true, Bool.and_eq_false_imp, and_self, WS_qdn, WS_qdr, WS_qde, WS_qdb, WS_qdc, qn1, qn2, qn3, qn4, qn5, qk1, qk5, lq1, lq2, lq3, lq4, lq5, intD_int, items_tup, items_rol, items_loc, listOf_loc, listOf_rol, isL_loc, at0, at1, at2, at3, at4, at5, atl1, atl2, atl3, atl4, lstAt_new, it_tup, it_rol, kTup_eq, kLen_eq, wipe0, wipe1, b_nm, List.set_cons_zero, List.set_cons_succ, List.length_cons, List.length_nil, List.nil_append, List.cons_append, List.append_nil, List.isEmpty_cons, List.isEmpty_nil, true_and, and_true, false_and, and_false, true_implies, forall_const, not_true_eq_false, not_false_eq_true, implies_true, decide_eq_true_eq, decide_eq_false_iff_not, Bool.not_eq_true', Bool.not_eq_false', Bool.not_true, Bool.not_false, if_true, if_false, Bool.false_eq_true, Bool.true_eq_false, reduceCtorEq, false_implies, eq_self]
  refine sayings_w hF2 (by omega) hok (cf S2) fun S3 hF3 F3 hY => ?_
  simp only [↓reduceIte, ↓W_ok, ↓W_exn, ↓W_var0, ↓W_varS, ↓W_K, ↓W_bin, ↓W_un, ↓W_aNil, ↓W_aCons, ↓W_arg, ↓W_call, ↓W_of, ↓WB_test, ↓tc_bl, ↓WB_tru, ↓trc, ↓WB_and, ↓WB_or, ↓WB_not, ↓W_if, ↓W_andV, ↓W_orV, ↓W_notV, ↓WM_some, ↓WM_none, ↓WO_some, ↓tr_bl, ↓tr_non, ↓tr_int, ↓tr_tup, ↓tr_rol, ↓WS_nx, ↓WS_rt, ↓WS_ct, ↓WS_bk, ↓WS_exn, ↓WS_seq, ↓WS_nil, ↓WS_retN, ↓WS_break, ↓WS_cont, ↓WS_expr, ↓WS_ret, ↓WS_if, ↓WS_set, ↓WS_par, ↓WS_asg, ↓WS_gSet, ↓WS_gN, ↓WS_gC, ↓WS_gUn, ↓WS_gSub, ↓WS_aug, ↓o_add, ↓o_iadd, ↓o_sub, ↓o_neg, ↓o_mul, ↓o_mod, ↓o_div, ↓o_pow, ↓o_addT, ↓o_addS, ↓o_addL, ↓o_lt, ↓o_le, ↓o_gt, ↓o_ge, ↓o_eq, ↓o_ne, ↓o_eqS, ↓o_neS, ↓o_eqB, ↓o_neB, ↓o_eqT, ↓o_neT, ↓o_eqN, ↓o_neN, ↓o_ltT, ↓o_leT, ↓o_is, ↓o_isnot, ↓o_isB, ↓o_isnotB, ↓o_inT, ↓o_ninT, ↓o_inL, ↓o_ninL, ↓o_ixT, ↓o_ixR, ↓o_ixL, ↓o_ixS, ↓o_str, ↓o_strS, ↓o_set, ↓o_lenT, ↓o_lenR, ↓o_lenL, ↓o_lenS, ↓o_int, ↓o_intT, ↓o_intF, ↓o_abs, ↓o_max, ↓o_min, ↓o_tuple, ↓o_list, ↓o_tup0, ↓o_tup1, ↓o_tup2, ↓o_tup3, ↓o_tup4, ↓o_tup5, ↓o_tup6, ↓o_lst0, ↓o_lst1, ↓o_lst2, ↓o_lst3, ↓o_lst4, ↓o_lst5, ↓o_lst6, ↓o_sum, ↓W_meth, ↓o_append, ↓o_extend, ↓o_popAt, ↓W_cut, ↓W_noPart, ↓W_part, ↓o_cutT, ↓o_cutR, ↓o_cutL, ↓W_isi, ↓W_ch, ↓WS_for, ↓WI_iter, ↓WI_range1, ↓WI_range2, ↓WI_range3, ↓WI_enum, ↓WS_f0, ↓WS_f1, ↓W_alloc, ↓W_ofL, ↓W_comp, ↓WB_yes, ↓W_c0, ↓W_c1, ↓W_listRg, ↓W_tupRg, ↓W_rRange1, ↓W_rRange2, o_intT, o_intF, o_intB, o_ixL, o_ixT, beq_self_eq_true, decide_true, decide_false, okEq, okCmp, okIn, D.fits, D.fitsL, D.dep, D.depL, D.eqv, D.eqvL, D.alike, D.alikeL, isBl_bl, isN_non, isN_bl, isN_int, isN_str, isN_tup, isN_rol, isN_loc, Nat.reduceAdd, Nat.reduceSub, Nat.max_self, Nat.min_self, Nat.max_zero, Nat.zero_max, Nat.min_zero, Nat.zero_min, ty_non, ty_bl, ty_int, ty_str, ty_tup, ty_rol, ty_loc, kb_bool_bool, kb_bool_int, kb_bool_str, kb_bool_tuple, kb_bool_list, kb_int_bool, kb_int_int, kb_int_str, kb_int_tuple, kb_int_list, kb_str_bool, kb_str_int, kb_str_str, kb_str_tuple, kb_str_list, kb_tuple_bool, kb_tuple_int, kb_tuple_str, kb_tuple_tuple, kb_tuple_list, kb_list_bool, kb_list_int, kb_list_str, kb_list_tuple, kb_list_list, kb_NoneType_bool, kb_NoneType_int, kb_NoneType_str, kb_NoneType_tuple, kb_NoneType_list, Nat.zero_add, c02, lstAt_setE, Option.map_some, lstAt_set_ne, ne_eq, Nat.reduceEqDiff, Nat.one_ne_zero, Nat.zero_ne_one, ix_1_0, ix_2_0, ix_2_1, ix_3_0, ix_3_1, ix_3_2, ix_4_0, ix_4_1, ix_4_2, ix_4_3, ix_5_0, ix_5_1, ix_5_2, ix_5_3, ix_5_4, ix_6_0, ix_6_1, ix_6_2, ix_6_3, ix_6_4, ix_6_5, Nat.reduceLeDiff, Int.reduceAdd, Int.reduceSub, Int.reduceMul, Int.reduceNeg, Int.reducePow, Int.reduceLT, Int.reduceLE, Int.reduceEq, Int.reduceToNat, Bool.and_true, Bool.true_and, Bool.and_self, Bool.and_false, Bool.false_and, Bool.and_eq_true, Bool.and_eq_false_imp, and_self, WS_qdn, WS_qdr, WS_qde, WS_qdb, WS_qdc, qn1, qn2, qn3, qn4, qn5, qk1, qk5, lq1, lq2, lq3, lq4, lq5, intD_int, items_tup, items_rol, items_loc, listOf_loc, listOf_rol, isL_loc, at0, at1, at2, at3, at4, at5, atl1, atl2, atl3, atl4, lstAt_new, it_tup, it_rol, kTup_eq, kLen_eq, wipe0, wipe1, b_nm, List.set_cons_zero, List.set_cons_succ, List.length_cons, List.length_nil, List.nil_append, List.cons_append, List.append_nil, List.isEmpty_cons, List.isEmpty_nil, true_and, and_true, false_and, and_false, true_implies, forall_const, not_true_eq_false, not_false_eq_true, implies_true, decide_eq_true_eq, decide_eq_false_iff_not, Bool.not_eq_true', Bool.not_eq_false', Bool.not_true, Bool.not_false, if_true, if_false, Bool.false_eq_true, Bool.true_eq_false, reduceCtorEq, false_implies, eq_self]
  refine rules_w hF3 g2 hY (by omega) hok (by omega) (by omega) fun rs S4 hrl hrs hF4 F4 => ?_
  have hrl : rs.length ≤ 12 := by omega
  simp only [↓reduceIte, ↓W_ok, ↓W_exn, ↓W_var0, ↓W_varS, ↓W_K, ↓W_bin, ↓W_un, ↓W_aNil, ↓W_aCons, ↓W_arg, ↓W_call, ↓W_of, ↓WB_test, ↓tc_bl, ↓WB_tru, ↓trc, ↓WB_and, ↓WB_or, ↓WB_not, ↓W_if, ↓W_andV, ↓W_orV, ↓W_notV, ↓WM_some, ↓WM_none, ↓WO_some, ↓tr_bl, ↓tr_non, ↓tr_int, ↓tr_tup, ↓tr_rol, ↓WS_nx, ↓WS_rt, ↓WS_ct, ↓WS_bk, ↓WS_exn, ↓WS_seq, ↓WS_nil, ↓WS_retN, ↓WS_break, ↓WS_cont, ↓WS_expr, ↓WS_ret, ↓WS_if, ↓WS_set, ↓WS_par, ↓WS_asg, ↓WS_gSet, ↓WS_gN, ↓WS_gC, ↓WS_gUn, ↓WS_gSub, ↓WS_aug, ↓o_add, ↓o_iadd, ↓o_sub, ↓o_neg, ↓o_mul, ↓o_mod, ↓o_div, ↓o_pow, ↓o_addT, ↓o_addS, ↓o_addL, ↓o_lt, ↓o_le, ↓o_gt, ↓o_ge, ↓o_eq, ↓o_ne, ↓o_eqS, ↓o_neS, ↓o_eqB, ↓o_neB, ↓o_eqT, ↓o_neT, ↓o_eqN, ↓o_neN, ↓o_ltT, ↓o_leT, ↓o_is, ↓o_isnot, ↓o_isB, ↓o_isnotB, ↓o_inT, ↓o_ninT, ↓o_inL, ↓o_ninL, ↓o_ixT, ↓o_ixR, ↓o_ixL, ↓o_ixS, ↓o_str, ↓o_strS, ↓o_set, ↓o_lenT, ↓o_lenR, ↓o_lenL, ↓o_lenS, ↓o_int, ↓o_intT, ↓o_intF, ↓o_abs, ↓o_max, ↓o_min, ↓o_tuple, ↓o_list, ↓o_tup0, ↓o_tup1, ↓o_tup2, ↓o_tup3, ↓o_tup4, ↓o_tup5, ↓o_tup6, ↓o_lst0, ↓o_lst1, ↓o_lst2, ↓o_lst3, ↓o_lst4, ↓o_lst5, ↓o_lst6, ↓o_sum, ↓W_meth, ↓o_append, ↓o_extend, ↓o_popAt, ↓W_cut, ↓W_noPart, ↓W_part, ↓o_cutT, ↓o_cutR, ↓o_cutL, ↓W_isi, ↓W_ch, ↓WS_for, ↓WI_iter, ↓WI_range1, ↓WI_range2, ↓WI_range3, ↓WI_enum, ↓WS_f0, ↓WS_f1, ↓W_alloc, ↓W_ofL, ↓W_comp, ↓WB_yes, ↓W_c0, ↓W_c1, ↓W_listRg, ↓W_tupRg, ↓W_rRange1, ↓W_rRange2, o_intT, o_intF, o_intB, o_ixL, o_ixT, beq_self_eq_true, decide_true, decide_false, okEq, okCmp, okIn, D.fits, D.fitsL, D.dep, D.depL, D.eqv, D.eqvL, D.alike, D.alikeL, isBl_bl, isN_non, isN_bl, isN_int, isN_str, isN_tup, isN_rol, isN_loc, Nat.reduceAdd, Nat.reduceSub, Nat.max_self, Nat.min_self, Nat.max_zero, Nat.zero_max, Nat.min_zero, Nat.zero_min, ty_non, ty_bl, ty_int, ty_str, ty_tup, ty_rol, ty_loc, kb_bool_bool, kb_bool_int, kb_bool_str, kb_bool_tuple, kb_bool_list, kb_int_bool, kb_int_int, kb_int_str, kb_int_tuple, kb_int_list, kb_str_bool, kb_str_int, kb_str_str, kb_str_tuple, kb_str_list, kb_tuple_bool, kb_tuple_int, kb_tuple_str, kb_tuple_tuple, kb_tuple_list, kb_list_bool, kb_list_int, kb_list_str, kb_list_tuple, kb_list_list, kb_NoneType_bool, kb_NoneType_int, kb_NoneType_str, kb_NoneType_tuple, kb_NoneType_list, Nat.zero_add, c02, lstAt_setE, Option.map_some, lstAt_set_ne, ne_eq, Nat.reduceEqDiff, Nat.one_ne_zero, Nat.zero_ne_one, ix_1_0, ix_2_0, ix_2_1, ix_3_0, ix_3_1, ix_3_2, ix_4_0, ix_4_1, ix_4_2, ix_4_3, ix_5_0, ix_5_1, ix_5_2, ix_5_3, ix_5_4, ix_6_0, ix_6_1, ix_6_2, ix_6_3, ix_6_4, ix_6_5, Nat.reduceLeDiff, Int.reduceAdd, Int.reduceSub, Int.reduceMul, Int.reduceNeg, Int.reducePow, Int.reduceLT, Int.reduceLE, Int.reduceEq, Int.reduceToNat, Bool.and_true, Bool.true_and, Bool.and_self, Bool.and_false, Bool.false_and, Bool.and_eq_true, Bool.and_eq_false_imp, and_self, WS_qdn, WS_qdr, WS_qde, WS_qdb, WS_qdc, qn1, qn2, qn3, qn4, qn5, qk1, qk5, lq1, lq2, lq3, lq4, lq5, intD_int, items_tup, items_rol, items_loc, listOf_loc, listOf_rol, isL_loc, at0, at1, at2, at3, at4, at5, atl1, atl2, atl3, atl4, lstAt_new, it_tup, it_rol, kTup_eq, kLen_eq, wipe0, wipe1, b_nm, List.set_cons_zero, List.set_cons_succ, List.length_cons, List.length_nil, List.nil_append, List.cons_append, List.append_nil, List.isEmpty_cons, List.isEmpty_nil, true_and, and_true, false_and, and_false, true_implies, forall_const, not_true_eq_false, not_false_eq_true, implies_true, decide_eq_true_eq, decide_eq_false_iff_not, Bool.not_eq_true', Bool.not_eq_false', Bool.not_true, Bool.not_false, if_true, if_false, Bool.false_eq_true, Bool.true_eq_false, reduceCtorEq, false_implies, eq_self]
  refine ⟨by constructor <;> omega, ?_⟩
  refine WS_rloop (fun i σ S' => FeedOk S' ∧ ∃ a, σ = [some (.rol (ns.map D.int)), some (.loc 1), some (FD fs), some (.tup [FD fs, .tup (rs.map rp)]), a, none, none]) ⟨hF4, _, rfl⟩ ?_ ?_
  · rintro i σ S5 i0 i1 ⟨hF5, a, rfl⟩
    simp only [↓reduceIte, ↓W_ok, ↓W_exn, ↓W_var0, ↓W_varS, ↓W_K, ↓W_bin, ↓W_un, ↓W_aNil, ↓W_aCons, ↓W_arg, ↓W_call, ↓W_of, ↓WB_test, ↓tc_bl, ↓WB_tru, ↓trc, ↓WB_and, ↓WB_or, ↓WB_not, ↓W_if, ↓W_andV, ↓W_orV, ↓W_notV, ↓WM_some, ↓WM_none, ↓WO_some, ↓tr_bl, ↓tr_non, ↓tr_int, ↓tr_tup, ↓tr_rol, ↓WS_nx, ↓WS_rt, ↓WS_ct, ↓WS_bk, ↓WS_exn, ↓WS_seq, ↓WS_nil, ↓WS_retN, ↓WS_break, ↓WS_cont, ↓WS_expr, ↓WS_ret, ↓WS_if, ↓WS_set, ↓WS_par, ↓WS_asg, ↓WS_gSet, ↓WS_gN, ↓WS_gC, ↓WS_gUn, ↓WS_gSub, ↓WS_aug, ↓o_add, ↓o_iadd, ↓o_sub, ↓o_neg, ↓o_mul, ↓o_mod, ↓o_div, ↓o_pow, ↓o_addT, ↓o_addS, ↓o_addL, ↓o_lt, ↓o_le, ↓o_gt, ↓o_ge, ↓o_eq, ↓o_ne, ↓o_eqS, ↓o_neS, ↓o_eqB, ↓o_neB, ↓o_eqT, ↓o_neT, ↓o_eqN, ↓o_neN, ↓o_ltT, ↓o_leT, ↓o_is, ↓o_isnot, ↓o_isB, ↓o_isnotB, ↓o_inT, ↓o_ninT, ↓o_inL, ↓o_ninL, ↓o_ixT, ↓o_ixR, ↓o_ixL, ↓o_ixS, ↓o_str, ↓o_strS, ↓o_set, ↓o_lenT, ↓o_lenR, ↓o_lenL, ↓o_lenS, ↓o_int, ↓o_intT, ↓o_intF, ↓o_abs, ↓o_max, ↓o_min, ↓o_tuple, ↓o_list, ↓o_tup0, ↓o_tup1, ↓o_tup2, ↓o_tup3, ↓o_tup4, ↓o_tup5, ↓o_tup6, ↓o_lst0, ↓o_lst1, ↓o_lst2, ↓o_lst3, ↓o_lst4, ↓o_lst5, ↓o_lst6, ↓o_sum, ↓W_meth, ↓o_append, ↓o_extend, ↓o_popAt, ↓W_cut, ↓W_noPart, ↓W_part, ↓o_cutT, ↓o_cutR, ↓o_cutL, ↓W_isi, ↓W_ch, ↓WS_for, ↓WI_iter, ↓WI_range1, ↓WI_range2, ↓WI_range3, ↓WI_enum, ↓WS_f0, ↓WS_f1, ↓W_alloc, ↓W_ofL, ↓W_comp, ↓WB_yes, ↓W_c0, ↓W_c1, ↓W_listRg, ↓W_tupRg, ↓W_rRange1, ↓W_rRange2, o_intT, o_intF, o_intB, o_ixL, o_ixT, beq_self_eq_true, decide_true, decide_false, okEq, okCmp, okIn, D.fits, D.fitsL, D.dep, D.depL, D.eqv, D.eqvL, D.alike, D.alikeL, isBl_bl, isN_non, isN_bl, isN_int, isN_str, isN_tup, isN_rol, isN_loc, Nat.reduceAdd, Nat.reduceSub, Nat.max_self, Nat.min_self, Nat.max_zero, Nat.zero_max, Nat.min_zero, Nat.zero_min, ty_non, ty_bl, ty_int, ty_str, ty_tup, ty_rol, ty_loc, kb_bool_bool, kb_bool_int, kb_bool_str, kb_bool_tuple, kb_bool_list, kb_int_bool, kb_int_int, kb_int_str, kb_int_tuple, kb_int_list, kb_str_bool, kb_str_int, kb_str_str, kb_str_tuple, kb_str_list, kb_tuple_bool, kb_tuple_int, kb_tuple_str, kb_tuple_tuple, kb_tuple_list, kb_list_bool, kb_list_int, kb_list_str, kb_list_tuple, kb_list_list, kb_NoneType_bool, kb_NoneType_int, kb_NoneType_str, kb_NoneType_tuple, kb_NoneType_list, Nat.zero_add, c02, lstAt_setE, Option.map_some, lstAt_set_ne, ne_eq, Nat.reduceEqDiff, Nat.one_ne_zero, Nat.zero_ne_one, ix_1_0, ix_2_0, ix_2_1, ix_3_0, ix_3_1, ix_3_2, ix_4_0, ix_4_1, ix_4_2, ix_4_3, ix_5_0, ix_5_1, ix_5_2, ix_5_3, ix_5_4, ix_6_0, ix_6_1, ix_6_2, ix_6_3, ix_6_4, ix_6_5, Nat.reduceLeDiff, Int.reduceAdd, Int.reduceSub, Int.reduceMul, Int.reduceNeg, Int.reducePow, Int.reduceLT, Int.reduceLE, Int.reduceEq, Int.reduceToNat, Bool.and_true, Bool.true_and, Bool.and_self, Bool.and_false, Bool.false_and, Bool.and_eq_true, Bool.and_eq_false_imp, and_self, WS_qdn, WS_qdr, WS_qde, WS_qdb, WS_qdc, qn1, qn2, qn3, qn4, qn5, qk1, qk5, lq1, lq2, lq3, lq4, lq5, intD_int, items_tup, items_rol, items_loc, listOf_loc, listOf_rol, isL_loc, at0, at1, at2, at3, at4, at5, atl1, atl2, atl3, atl4, lstAt_new, it_tup, it_rol, kTup_eq, kLen_eq, wipe0, wipe1, b_nm, List.set_cons_zero, List.set_cons_succ, List.length_cons, List.length_nil, List.nil_append, List.cons_append, List.append_nil, List.isEmpty_cons, List.isEmpty_nil, true_and, and_true, false_and, and_false, true_implies, forall_const, not_true_eq_false, not_false_eq_true, implies_true, decide_eq_true_eq, decide_eq_false_iff_not, Bool.not_eq_true', Bool.not_eq_false', Bool.not_true, Bool.not_false, if_true, if_false, Bool.false_eq_true, Bool.true_eq_false, reduceCtorEq, false_implies, eq_self]
    refine WM_at (Int.emod_nonneg _ (by omega)) (Int.emod_lt_of_pos _ (by decide)) fun y hy => ?_
    obtain ⟨b, rfl, hb⟩ : ∃ b : Int, y = .int b ∧ 0 < b := by
      simp only [List.mem_cons, List.not_mem_nil, or_false] at hy
      rcases hy with rfl | rfl | rfl <;> exact ⟨_, rfl, by omega⟩
    simp only [↓reduceIte, ↓W_ok, ↓W_exn, ↓W_var0, ↓W_varS, ↓W_K, ↓W_bin, ↓W_un, ↓W_aNil, ↓W_aCons, ↓W_arg, ↓W_call, ↓W_of, ↓WB_test, ↓tc_bl, ↓WB_tru, ↓trc, ↓WB_and, ↓WB_or, ↓WB_not, ↓W_if, ↓W_andV, ↓W_orV, ↓W_notV, ↓WM_some, ↓WM_none, ↓WO_some, ↓tr_bl, ↓tr_non, ↓tr_int, ↓tr_tup, ↓tr_rol, ↓WS_nx, ↓WS_rt, ↓WS_ct, ↓WS_bk, ↓WS_exn, ↓WS_seq, ↓WS_nil, ↓WS_retN, ↓WS_break, ↓WS_cont, ↓WS_expr, ↓WS_ret, ↓WS_if, ↓WS_set, ↓WS_par, ↓WS_asg, ↓WS_gSet, ↓WS_gN, ↓WS_gC, ↓WS_gUn, ↓WS_gSub, ↓WS_aug, ↓o_add, ↓o_iadd, ↓o_sub, ↓o_neg, ↓o_mul, ↓o_mod, ↓o_div, ↓o_pow, ↓o_addT, ↓o_addS, ↓o_addL, ↓o_lt, ↓o_le, ↓o_gt, ↓o_ge, ↓o_eq, ↓o_ne, ↓o_eqS, ↓o_neS, ↓o_eqB, ↓o_neB, ↓o_eqT, ↓o_neT, ↓o_eqN, ↓o_neN, ↓o_ltT, ↓o_leT, ↓o_is, ↓o_isnot, ↓o_isB, ↓o_isnotB, ↓o_inT, ↓o_ninT, ↓o_inL, ↓o_ninL, ↓o_ixT, ↓o_ixR, ↓o_ixL, ↓o_ixS, ↓o_str, ↓o_strS, ↓o_set, ↓o_lenT, ↓o_lenR, ↓o_lenL, ↓o_lenS, ↓o_int, ↓o_intT, ↓o_intF, ↓o_abs, ↓o_max, ↓o_min, ↓o_tuple, ↓o_list, ↓o_tup0, ↓o_tup1, ↓o_tup2, ↓o_tup3, ↓o_tup4, ↓o_tup5, ↓o_tup6, ↓o_lst0, ↓o_lst1, ↓o_lst2, ↓o_lst3, ↓o_lst4, ↓o_lst5, ↓o_lst6, ↓o_sum, ↓W_meth, ↓o_append, ↓o_extend, ↓o_popAt, ↓W_cut, ↓W_noPart, ↓W_part, ↓o_cutT, ↓o_cutR, ↓o_cutL, ↓W_isi, ↓W_ch, ↓WS_for, ↓WI_iter, ↓WI_range1, ↓WI_range2, ↓WI_range3, ↓WI_enum, ↓WS_f0, ↓WS_f1, ↓W_alloc, ↓W_ofL, ↓W_comp, ↓WB_yes, ↓W_c0, ↓W_c1, ↓W_listRg, ↓W_tupRg, ↓W_rRange1, ↓W_rRange2, o_intT, o_intF, o_intB, o_ixL, o_ixT, beq_self_eq_true, decide_true, decide_false, okEq, okCmp, okIn, D.fits, D.fitsL, D.dep, D.depL, D.eqv, D.eqvL, D.alike, D.alikeL, isBl_bl, isN_non, isN_bl, isN_int, isN_str, isN_tup, isN_rol, isN_loc, Nat.reduceAdd, Nat.reduceSub, Nat.max_self, Nat.min_self, Nat.max_zero, Nat.zero_max, Nat.min_zero, Nat.zero_min, ty_non, ty_bl, ty_int, ty_str, ty_tup, ty_rol, ty_loc, kb_bool_bool, kb_bool_int, kb_bool_str, kb_bool_tuple, kb_bool_list, kb_int_bool, kb_int_int, kb_int_str, kb_int_tuple, kb_int_list, kb_str_bool, kb_str_int, kb_str_str, kb_str_tuple, kb_str_list, kb_tuple_bool, kb_tuple_int, kb_tuple_str, kb_tuple_tuple, kb_tuple_list, kb_list_bool, kb_list_int, kb_list_str, kb_list_tuple, kb_list_list, kb_NoneType_bool, kb_NoneType_int, kb_NoneType_str, kb_NoneType_tuple, kb_NoneType_list, Nat.zero_add, c02, lstAt_setE, Option.map_some, lstAt_set_ne, ne_eq, Nat.reduceEqDiff, Nat.one_ne_zero, Nat.zero_ne_one, ix_1_0, ix_2_0, ix_2_1, ix_3_0, ix_3_1, ix_3_2, ix_4_0, ix_4_1, ix_4_2, ix_4_3, ix_5_0, ix_5_1, ix_5_2, ix_5_3, ix_5_4, ix_6_0, ix_6_1, ix_6_2, ix_6_3, ix_6_4, ix_6_5, Nat.reduceLeDiff, Int.reduceAdd, Int.reduceSub, Int.reduceMul, Int.reduceNeg, Int.reducePow, Int.reduceLT, Int.reduceLE, Int.reduceEq, Int.reduceToNat, Bool.and_true, Bool.true_and, Bool.and_self, Bool.and_false, Bool.false_and, Bool.and_eq_true, Bool.and_eq_false_imp, and_self, WS_qdn, WS_qdr, WS_qde, WS_qdb, WS_qdc, qn1, qn2, qn3, qn4, qn5, qk1, qk5, lq1, lq2, lq3, lq4, lq5, intD_int, items_tup, items_rol, items_loc, listOf_loc, listOf_rol, isL_loc, at0, at1, at2, at3, at4, at5, atl1, atl2, atl3, atl4, lstAt_new, it_tup, it_rol, kTup_eq, kLen_eq, wipe0, wipe1, b_nm, List.set_cons_zero, List.set_cons_succ, List.length_cons, List.length_nil, List.nil_append, List.cons_append, List.append_nil, List.isEmpty_cons, List.isEmpty_nil, true_and, and_true, false_and, and_false, true_implies, forall_const, not_true_eq_false, not_false_eq_true, implies_true, decide_eq_true_eq, decide_eq_false_iff_not, Bool.not_eq_true', Bool.not_eq_false', Bool.not_true, Bool.not_false, if_true, if_false, Bool.false_eq_true, Bool.true_eq_false, reduceCtorEq, false_implies, eq_self]
    refine half_w (hF5.app _) (by omega) hb hok (cf _) fun as S6 hal hah hF6 F6 => ?_
    simp only [↓reduceIte, ↓W_ok, ↓W_exn, ↓W_var0, ↓W_varS, ↓W_K, ↓W_bin, ↓W_un, ↓W_aNil, ↓W_aCons, ↓W_arg, ↓W_call, ↓W_of, ↓WB_test, ↓tc_bl, ↓WB_tru, ↓trc, ↓WB_and, ↓WB_or, ↓WB_not, ↓W_if, ↓W_andV, ↓W_orV, ↓W_notV, ↓WM_some, ↓WM_none, ↓WO_some, ↓tr_bl, ↓tr_non, ↓tr_int, ↓tr_tup, ↓tr_rol, ↓WS_nx, ↓WS_rt, ↓WS_ct, ↓WS_bk, ↓WS_exn, ↓WS_seq, ↓WS_nil, ↓WS_retN, ↓WS_break, ↓WS_cont, ↓WS_expr, ↓WS_ret, ↓WS_if, ↓WS_set, ↓WS_par, ↓WS_asg, ↓WS_gSet, ↓WS_gN, ↓WS_gC, ↓WS_gUn, ↓WS_gSub, ↓WS_aug, ↓o_add, ↓o_iadd, ↓o_sub, ↓o_neg, ↓o_mul, ↓o_mod, ↓o_div, ↓o_pow, ↓o_addT, ↓o_addS, ↓o_addL, ↓o_lt, ↓o_le, ↓o_gt, ↓o_ge, ↓o_eq, ↓o_ne, ↓o_eqS, ↓o_neS, ↓o_eqB, ↓o_neB, ↓o_eqT, ↓o_neT, ↓o_eqN, ↓o_neN, ↓o_ltT, ↓o_leT, ↓o_is, ↓o_isnot, ↓o_isB, ↓o_isnotB, ↓o_inT, ↓o_ninT, ↓o_inL, ↓o_ninL, ↓o_ixT, ↓o_ixR, ↓o_ixL, ↓o_ixS, ↓o_str, ↓o_strS, ↓o_set, ↓o_lenT, ↓o_lenR, ↓o_lenL, ↓o_lenS, ↓o_int, ↓o_intT, ↓o_intF, ↓o_abs, ↓o_max, ↓o_min, ↓o_tuple, ↓o_list, ↓o_tup0, ↓o_tup1, ↓o_tup2, ↓o_tup3, ↓o_tup4, ↓o_tup5, ↓o_tup6, ↓o_lst0, ↓o_lst1, ↓o_lst2, ↓o_lst3, ↓o_lst4, ↓o_lst5, ↓o_lst6, ↓o_sum, ↓W_meth, ↓o_append, ↓o_extend, ↓o_popAt, ↓W_cut, ↓W_noPart, ↓W_part, ↓o_cutT, ↓o_cutR, ↓o_cutL, ↓W_isi, ↓W_ch, ↓WS_for, ↓WI_iter, ↓WI_range1, ↓WI_range2, ↓WI_range3, ↓WI_enum, ↓WS_f0, ↓WS_f1, ↓W_alloc, ↓W_ofL, ↓W_comp, ↓WB_yes, ↓W_c0, ↓W_c1, ↓W_listRg, ↓W_tupRg, ↓W_rRange1, ↓W_rRange2, o_intT, o_intF, o_intB, o_ixL, o_ixT, beq_self_eq_true, decide_true, decide_false, okEq, okCmp, okIn, D.fits, D.fitsL, D.dep, D.depL, D.eqv, D.eqvL, D.alike, D.alikeL, isBl_bl, isN_non, isN_bl, isN_int, isN_str, isN_tup, isN_rol, isN_loc, Nat.reduceAdd, Nat.reduceSub, Nat.max_self, Nat.min_self, Nat.max_zero, Nat.zero_max, Nat.min_zero, Nat.zero_min, ty_non, ty_bl, ty_int, ty_str, ty_tup, ty_rol, ty_loc, kb_bool_bool, kb_bool_int, kb_bool_str, kb_bool_tuple, kb_bool_list, kb_int_bool, kb_int_int, kb_int_str, kb_int_tuple, kb_int_list, kb_str_bool, kb_str_int, kb_str_str, kb_str_tuple, kb_str_list, kb_tuple_bool, kb_tuple_int, kb_tuple_str, kb_tuple_tuple, kb_tuple_list, kb_list_bool, kb_list_int, kb_list_str, kb_list_tuple, kb_list_list, kb_NoneType_bool, kb_NoneType_int, kb_NoneType_str, kb_NoneType_tuple, kb_NoneType_list, Nat.zero_add, c02, lstAt_setE, Option.map_some, lstAt_set_ne, ne_eq, Nat.reduceEqDiff, Nat.one_ne_zero, Nat.zero_ne_one, ix_1_0, ix_2_0, ix_2_1, ix_3_0, ix_3_1, ix_3_2, ix_4_0, ix_4_1, ix_4_2, ix_4_3, ix_5_0, ix_5_1, ix_5_2, ix_5_3, ix_5_4, ix_6_0, ix_6_1, ix_6_2, ix_6_3, ix_6_4, ix_6_5, Nat.reduceLeDiff, Int.reduceAdd, Int.reduceSub, Int.reduceMul, Int.reduceNeg, Int.reducePow, Int.reduceLT, Int.reduceLE, Int.reduceEq, Int.reduceToNat, Bool.and_true, Bool.true_and, Bool.and_self, Bool.and_false, Bool.false_and, Bool.and_eq_true, Bool.and_eq_false_imp, and_self, WS_qdn, WS_qdr, WS_qde, WS_qdb, WS_qdc, qn1, qn2, qn3, qn4, qn5, qk1, qk5, lq1, lq2, lq3, lq4, lq5, intD_int, items_tup, items_rol, items_loc, listOf_loc, listOf_rol, isL_loc, at0, at1, at2, at3, at4, at5, atl1, atl2, atl3, atl4, lstAt_new, it_tup, it_rol, kTup_eq, kLen_eq, wipe0, wipe1, b_nm, List.set_cons_zero, List.set_cons_succ, List.length_cons, List.length_nil, List.nil_append, List.cons_append, List.append_nil, List.isEmpty_cons, List.isEmpty_nil, true_and, and_true, false_and, and_false, true_implies, forall_const, not_true_eq_false, not_false_eq_true, implies_true, decide_eq_true_eq, decide_eq_false_iff_not, Bool.not_eq_true', Bool.not_eq_false', Bool.not_true, Bool.not_false, if_true, if_false, Bool.false_eq_true, Bool.true_eq_false, reduceCtorEq, false_implies, eq_self]
    refine asked_w hF6 (by rw [hal]; exact hrs) (by omega) (by omega) hah fun S7 hF7 F7 => ?_
    simp only [↓reduceIte, ↓W_ok, ↓W_exn, ↓W_var0, ↓W_varS, ↓W_K, ↓W_bin, ↓W_un, ↓W_aNil, ↓W_aCons, ↓W_arg, ↓W_call, ↓W_of, ↓WB_test, ↓tc_bl, ↓WB_tru, ↓trc, ↓WB_and, ↓WB_or, ↓WB_not, ↓W_if, ↓W_andV, ↓W_orV, ↓W_notV, ↓WM_some, ↓WM_none, ↓WO_some, ↓tr_bl, ↓tr_non, ↓tr_int, ↓tr_tup, ↓tr_rol, ↓WS_nx, ↓WS_rt, ↓WS_ct, ↓WS_bk, ↓WS_exn, ↓WS_seq, ↓WS_nil, ↓WS_retN, ↓WS_break, ↓WS_cont, ↓WS_expr, ↓WS_ret, ↓WS_if, ↓WS_set, ↓WS_par, ↓WS_asg, ↓WS_gSet, ↓WS_gN, ↓WS_gC, ↓WS_gUn, ↓WS_gSub, ↓WS_aug, ↓o_add, ↓o_iadd, ↓o_sub, ↓o_neg, ↓o_mul, ↓o_mod, ↓o_div, ↓o_pow, ↓o_addT, ↓o_addS, ↓o_addL, ↓o_lt, ↓o_le, ↓o_gt, ↓o_ge, ↓o_eq, ↓o_ne, ↓o_eqS, ↓o_neS, ↓o_eqB, ↓o_neB, ↓o_eqT, ↓o_neT, ↓o_eqN, ↓o_neN, ↓o_ltT, ↓o_leT, ↓o_is, ↓o_isnot, ↓o_isB, ↓o_isnotB, ↓o_inT, ↓o_ninT, ↓o_inL, ↓o_ninL, ↓o_ixT, ↓o_ixR, ↓o_ixL, ↓o_ixS, ↓o_str, ↓o_strS, ↓o_set, ↓o_lenT, ↓o_lenR, ↓o_lenL, ↓o_lenS, ↓o_int, ↓o_intT, ↓o_intF, ↓o_abs, ↓o_max, ↓o_min, ↓o_tuple, ↓o_list, ↓o_tup0, ↓o_tup1, ↓o_tup2, ↓o_tup3, ↓o_tup4, ↓o_tup5, ↓o_tup6, ↓o_lst0, ↓o_lst1, ↓o_lst2, ↓o_lst3, ↓o_lst4, ↓o_lst5, ↓o_lst6, ↓o_sum, ↓W_meth, ↓o_append, ↓o_extend, ↓o_popAt, ↓W_cut, ↓W_noPart, ↓W_part, ↓o_cutT, ↓o_cutR, ↓o_cutL, ↓W_isi, ↓W_ch, ↓WS_for, ↓WI_iter, ↓WI_range1, ↓WI_range2, ↓WI_range3, ↓WI_enum, ↓WS_f0, ↓WS_f1, ↓W_alloc, ↓W_ofL, ↓W_comp, ↓WB_yes, ↓W_c0, ↓W_c1, ↓W_listRg, ↓W_tupRg, ↓W_rRange1, ↓W_rRange2, o_intT, o_intF, o_intB, o_ixL, o_ixT, beq_self_eq_true, decide_true, decide_false, okEq, okCmp, okIn, D.fits, D.fitsL, D.dep, D.depL, D.eqv, D.eqvL, D.alike, D.alikeL, isBl_bl, isN_non, isN_bl, isN_int, isN_str, isN_tup, isN_rol, isN_loc, Nat.reduceAdd, Nat.reduceSub, Nat.max_self, Nat.min_self, Nat.max_zero, Nat.zero_max, Nat.min_zero, Nat.zero_min, ty_non, ty_bl, ty_int, ty_str, ty_tup, ty_rol, ty_loc, kb_bool_bool, kb_bool_int, kb_bool_str, kb_bool_tuple, kb_bool_list, kb_int_bool, kb_int_int, kb_int_str, kb_int_tuple, kb_int_list, kb_str_bool, kb_str_int, kb_str_str, kb_str_tuple, kb_str_list, kb_tuple_bool, kb_tuple_int, kb_tuple_str, kb_tuple_tuple, kb_tuple_list, kb_list_bool, kb_list_int, kb_list_str, kb_list_tuple, kb_list_list, kb_NoneType_bool, kb_NoneType_int, kb_NoneType_str, kb_NoneType_tuple, kb_NoneType_list, Nat.zero_add, c02, lstAt_setE, Option.map_some, lstAt_set_ne, ne_eq, Nat.reduceEqDiff, Nat.one_ne_zero, Nat.zero_ne_one, ix_1_0, ix_2_0, ix_2_1, ix_3_0, ix_3_1, ix_3_2, ix_4_0, ix_4_1, ix_4_2, ix_4_3, ix_5_0, ix_5_1, ix_5_2, ix_5_3, ix_5_4, ix_6_0, ix_6_1, ix_6_2, ix_6_3, ix_6_4, ix_6_5, Nat.reduceLeDiff, Int.reduceAdd, Int.reduceSub, Int.reduceMul, Int.reduceNeg, Int.reducePow, Int.reduceLT, Int.reduceLE, Int.reduceEq, Int.reduceToNat, Bool.and_true, Bool.true_and, Bool.and_self, Bool.and_false, Bool.false_and, Bool.and_eq_true, Bool.and_eq_false_imp, and_self, WS_qdn, WS_qdr, WS_qde, WS_qdb, WS_qdc, qn1, qn2, qn3, qn4, qn5, qk1, qk5, lq1, lq2, lq3, lq4, lq5, intD_int, items_tup, items_rol, items_loc, listOf_loc, listOf_rol, isL_loc, at0, at1, at2, at3, at4, at5, atl1, atl2, atl3, atl4, lstAt_new, it_tup, it_rol, kTup_eq, kLen_eq, wipe0, wipe1, b_nm, List.set_cons_zero, List.set_cons_succ, List.length_cons, List.length_nil, List.nil_append, List.cons_append, List.append_nil, List.isEmpty_cons, List.isEmpty_nil, true_and, and_true, false_and, and_false, true_implies, forall_const, not_true_eq_false, not_false_eq_true, implies_true, decide_eq_true_eq, decide_eq_false_iff_not, Bool.not_eq_true', Bool.not_eq_false', Bool.not_true, Bool.not_false, if_true, if_false, Bool.false_eq_true, Bool.true_eq_false, reduceCtorEq, false_implies, eq_self]
    exact ⟨hF7, _, rfl⟩
  · rintro σ S5 ⟨hF5, a, rfl⟩
    have eit : itOf S5 (FD fs) = some (none, fs.map Fld.d) := rfl
    simp only [↓reduceIte, ↓W_ok, ↓W_exn, ↓W_var0, ↓W_varS, ↓W_K, ↓W_bin, ↓W_un, ↓W_aNil, ↓W_aCons, ↓W_arg, ↓W_call, ↓W_of, ↓WB_test, ↓tc_bl, ↓WB_tru, ↓trc, ↓WB_and, ↓WB_or, ↓WB_not, ↓W_if, ↓W_andV, ↓W_orV, ↓W_notV, ↓WM_some, ↓WM_none, ↓WO_some, ↓tr_bl, ↓tr_non, ↓tr_int, ↓tr_tup, ↓tr_rol, ↓WS_nx, ↓WS_rt, ↓WS_ct, ↓WS_bk, ↓WS_exn, ↓WS_seq, ↓WS_nil, ↓WS_retN, ↓WS_break, ↓WS_cont, ↓WS_expr, ↓WS_ret, ↓WS_if, ↓WS_set, ↓WS_par, ↓WS_asg, ↓WS_gSet, ↓WS_gN, ↓WS_gC, ↓WS_gUn, ↓WS_gSub, ↓WS_aug, ↓o_add, ↓o_iadd, ↓o_sub, ↓o_neg, ↓o_mul, ↓o_mod, ↓o_div, ↓o_pow, ↓o_addT, ↓o_addS, ↓o_addL, ↓o_lt, ↓o_le, ↓o_gt, ↓o_ge, ↓o_eq, ↓o_ne, ↓o_eqS, ↓o_neS, ↓o_eqB, ↓o_neB, ↓o_eqT, ↓o_neT, ↓o_eqN, ↓o_neN, ↓o_ltT, ↓o_leT, ↓o_is, ↓o_isnot, ↓o_isB, ↓o_isnotB, ↓o_inT, ↓o_ninT, ↓o_inL, ↓o_ninL, ↓o_ixT, ↓o_ixR, ↓o_ixL, ↓o_ixS, ↓o_str, ↓o_strS, ↓o_set, ↓o_lenT, ↓o_lenR, ↓o_lenL, ↓o_lenS, ↓o_int, ↓o_intT, ↓o_intF, ↓o_abs, ↓o_max, ↓o_min, ↓o_tuple, ↓o_list, ↓o_tup0, ↓o_tup1, ↓o_tup2, ↓o_tup3, ↓o_tup4, ↓o_tup5, ↓o_tup6, ↓o_lst0, ↓o_lst1, ↓o_lst2, ↓o_lst3, ↓o_lst4, ↓o_lst5, ↓o_lst6, ↓o_sum, ↓W_meth, ↓o_append, ↓o_extend, ↓o_popAt, ↓W_cut, ↓W_noPart, ↓W_part, ↓o_cutT, ↓o_cutR, ↓o_cutL, ↓W_isi, ↓W_ch, ↓WS_for, ↓WI_iter, ↓WI_range1, ↓WI_range2, ↓WI_range3, ↓WI_enum, ↓WS_f0, ↓WS_f1, ↓W_alloc, ↓W_ofL, ↓W_comp, ↓WB_yes, ↓W_c0, ↓W_c1, ↓W_listRg, ↓W_tupRg, ↓W_rRange1, ↓W_rRange2, o_intT, o_intF, o_intB, o_ixL, o_ixT, beq_self_eq_true, decide_true, decide_false, okEq, okCmp, okIn, D.fits, D.fitsL, D.dep, D.depL, D.eqv, D.eqvL, D.alike, D.alikeL, isBl_bl, isN_non, isN_bl, isN_int, isN_str, isN_tup, isN_rol, isN_loc, Nat.reduceAdd, Nat.reduceSub, Nat.max_self, Nat.min_self, Nat.max_zero, Nat.zero_max, Nat.min_zero, Nat.zero_min, ty_non, ty_bl, ty_int, ty_str, ty_tup, ty_rol, ty_loc, kb_bool_bool, kb_bool_int, kb_bool_str, kb_bool_tuple, kb_bool_list, kb_int_bool, kb_int_int, kb_int_str, kb_int_tuple, kb_int_list, kb_str_bool, kb_str_int, kb_str_str, kb_str_tuple, kb_str_list, kb_tuple_bool, kb_tuple_int, kb_tuple_str, kb_tuple_tuple, kb_tuple_list, kb_list_bool, kb_list_int, kb_list_str, kb_list_tuple, kb_list_list, kb_NoneType_bool, kb_NoneType_int, kb_NoneType_str, kb_NoneType_tuple, kb_NoneType_list, Nat.zero_add, c02, lstAt_setE, Option.map_some, lstAt_set_ne, ne_eq, Nat.reduceEqDiff, Nat.one_ne_zero, Nat.zero_ne_one, ix_1_0, ix_2_0, ix_2_1, ix_3_0, ix_3_1, ix_3_2, ix_4_0, ix_4_1, ix_4_2, ix_4_3, ix_5_0, ix_5_1, ix_5_2, ix_5_3, ix_5_4, ix_6_0, ix_6_1, ix_6_2, ix_6_3, ix_6_4, ix_6_5, Nat.reduceLeDiff, Int.reduceAdd, Int.reduceSub, Int.reduceMul, Int.reduceNeg, Int.reducePow, Int.reduceLT, Int.reduceLE, Int.reduceEq, Int.reduceToNat, Bool.and_true, Bool.true_and, Bool.and_self, Bool.and_false, Bool.false_and, Bool.and_eq_true, Bool.and_eq_false_imp, and_self, WS_qdn, WS_qdr, WS_qde, WS_qdb, WS_qdc, qn1, qn2, qn3, qn4, qn5, qk1, qk5, lq1, lq2, lq3, lq4, lq5, intD_int, items_tup, items_rol, items_loc, listOf_loc, listOf_rol, isL_loc, at0, at1, at2, at3, at4, at5, atl1, atl2, atl3, atl4, lstAt_new, it_tup, it_rol, kTup_eq, kLen_eq, wipe0, wipe1, b_nm, List.set_cons_zero, List.set_cons_succ, List.length_cons, List.length_nil, List.nil_append, List.cons_append, List.append_nil, List.isEmpty_cons, List.isEmpty_nil, true_and, and_true, false_and, and_false, true_implies, forall_const, not_true_eq_false, not_false_eq_true, implies_true, decide_eq_true_eq, decide_eq_false_iff_not, Bool.not_eq_true', Bool.not_eq_false', Bool.not_true, Bool.not_false, if_true, if_false, Bool.false_eq_true, Bool.true_eq_false, reduceCtorEq, false_implies, eq_self, eit]
    refine W_cPure (fun _ => .non) trivial (by rw [List.length_map, sizeLine_eq]; simp; omega) (fun d hd => ?_) ?_
    · simp only [↓reduceIte, ↓W_ok, ↓W_exn, ↓W_var0, ↓W_varS, ↓W_K, ↓W_bin, ↓W_un, ↓W_aNil, ↓W_aCons, ↓W_arg, ↓W_call, ↓W_of, ↓WB_test, ↓tc_bl, ↓WB_tru, ↓trc, ↓WB_and, ↓WB_or, ↓WB_not, ↓W_if, ↓W_andV, ↓W_orV, ↓W_notV, ↓WM_some, ↓WM_none, ↓WO_some, ↓tr_bl, ↓tr_non, ↓tr_int, ↓tr_tup, ↓tr_rol, ↓WS_nx, ↓WS_rt, ↓WS_ct, ↓WS_bk, ↓WS_exn, ↓WS_seq, ↓WS_nil, ↓WS_retN, ↓WS_break, ↓WS_cont, ↓WS_expr, ↓WS_ret, ↓WS_if, ↓WS_set, ↓WS_par, ↓WS_asg, ↓WS_gSet, ↓WS_gN, ↓WS_gC, ↓WS_gUn, ↓WS_gSub, ↓WS_aug, ↓o_add, ↓o_iadd, ↓o_sub, ↓o_neg, ↓o_mul, ↓o_mod, ↓o_div, ↓o_pow, ↓o_addT, ↓o_addS, ↓o_addL, ↓o_lt, ↓o_le, ↓o_gt, ↓o_ge, ↓o_eq, ↓o_ne, ↓o_eqS, ↓o_neS, ↓o_eqB, ↓o_neB, ↓o_eqT, ↓o_neT, ↓o_eqN, ↓o_neN, ↓o_ltT, ↓o_leT, ↓o_is, ↓o_isnot, ↓o_isB, ↓o_isnotB, ↓o_inT, ↓o_ninT, ↓o_inL, ↓o_ninL, ↓o_ixT, ↓o_ixR, ↓o_ixL, ↓o_ixS, ↓o_str, ↓o_strS, ↓o_set, ↓o_lenT, ↓o_lenR, ↓o_lenL, ↓o_lenS, ↓o_int, ↓o_intT, ↓o_intF, ↓o_abs, ↓o_max, ↓o_min, ↓o_tuple, ↓o_list, ↓o_tup0, ↓o_tup1, ↓o_tup2, ↓o_tup3, ↓o_tup4, ↓o_tup5, ↓o_tup6, ↓o_lst0, ↓o_lst1, ↓o_lst2, ↓o_lst3, ↓o_lst4, ↓o_lst5, ↓o_lst6, ↓o_sum, ↓W_meth, ↓o_append, ↓o_extend, ↓o_popAt, ↓W_cut, ↓W_noPart, ↓W_part, ↓o_cutT, ↓o_cutR, ↓o_cutL, ↓W_isi, ↓W_ch, ↓WS_for, ↓WI_iter, ↓WI_range1, ↓WI_range2, ↓WI_range3, ↓WI_enum, ↓WS_f0, ↓WS_f1, ↓W_alloc, ↓W_ofL, ↓W_comp, ↓WB_yes, ↓W_c0, ↓W_c1, ↓W_listRg, ↓W_tupRg, ↓W_rRange1, ↓W_rRange2, o_intT, o_intF, o_intB, o_ixL, o_ixT, beq_self_eq_true, decide_true, decide_false, okEq, okCmp, okIn, D.fits, D.fitsL, D.dep, D.depL, D.eqv, D.eqvL, D.alike, D.alikeL, isBl_bl, isN_non, isN_bl, isN_int, isN_str, isN_tup, isN_rol, isN_loc, Nat.reduceAdd, Nat.reduceSub, Nat.max_self, Nat.min_self, Nat.max_zero, Nat.zero_max, Nat.min_zero, Nat.zero_min, ty_non, ty_bl, ty_int, ty_str, ty_tup, ty_rol, ty_loc, kb_bool_bool, kb_bool_int, kb_bool_str, kb_bool_tuple, kb_bool_list, kb_int_bool, kb_int_int, kb_int_str, kb_int_tuple, kb_int_list, kb_str_bool, kb_str_int, kb_str_str, kb_str_tuple, kb_str_list, kb_tuple_bool, kb_tuple_int, kb_tuple_str, kb_tuple_tuple, kb_tuple_list, kb_list_bool, kb_list_int, kb_list_str, kb_list_tuple, kb_list_list, kb_NoneType_bool, kb_NoneType_int, kb_NoneType_str, kb_NoneType_tuple, kb_NoneType_list, Nat.zero_add, c02, lstAt_setE, Option.map_some, lstAt_set_ne, ne_eq, Nat.reduceEqDiff, Nat.one_ne_zero, Nat.zero_ne_one, ix_1_0, ix_2_0, ix_2_1, ix_3_0, ix_3_1, ix_3_2, ix_4_0, ix_4_1, ix_4_2, ix_4_3, ix_5_0, ix_5_1, ix_5_2, ix_5_3, ix_5_4, ix_6_0, ix_6_1, ix_6_2, ix_6_3, ix_6_4, ix_6_5, Nat.reduceLeDiff, Int.reduceAdd, Int.reduceSub, Int.reduceMul, Int.reduceNeg, Int.reducePow, Int.reduceLT, Int.reduceLE, Int.reduceEq, Int.reduceToNat, Bool.and_true, Bool.true_and, Bool.and_self, Bool.and_false, Bool.false_and, Bool.and_eq_true, Bool.and_eq_false_imp, and_self, WS_qdn, WS_qdr, WS_qde, WS_qdb, WS_qdc, qn1, qn2, qn3, qn4, qn5, qk1, qk5, lq1, lq2, lq3, lq4, lq5, intD_int, items_tup, items_rol, items_loc, listOf_loc, listOf_rol, isL_loc, at0, at1, at2, at3, at4, at5, atl1, atl2, atl3, atl4, lstAt_new, it_tup, it_rol, kTup_eq, kLen_eq, wipe0, wipe1, b_nm, List.set_cons_zero, List.set_cons_succ, List.length_cons, List.length_nil, List.nil_append, List.cons_append, List.append_nil, List.isEmpty_cons, List.isEmpty_nil, true_and, and_true, false_and, and_false, true_implies, forall_const, not_true_eq_false, not_false_eq_true, implies_true, decide_eq_true_eq, decide_eq_false_iff_not, Bool.not_eq_true', Bool.not_eq_false', Bool.not_true, Bool.not_false, if_true, if_false, Bool.false_eq_true, Bool.true_eq_false, reduceCtorEq, false_implies, eq_self]
    · rw [List.nil_append]
      have hb : ∀ y ∈ (fs.map Fld.d).map (fun _ => D.non), Half y := fun y hy => by
        obtain ⟨z, _, rfl⟩ := List.mem_map.mp hy
        exact .inl rfl
      have hbl : ((fs.map Fld.d).map (fun _ => D.non)).length = fs.length := by rw [List.length_map, List.length_map]
      simp only [↓reduceIte, ↓W_ok, ↓W_exn, ↓W_var0, ↓W_varS, ↓W_K, ↓W_bin, ↓W_un, ↓W_aNil, ↓W_aCons, ↓W_arg, ↓W_call, ↓W_of, ↓WB_test, ↓tc_bl, ↓WB_tru, ↓trc, ↓WB_and, ↓WB_or, ↓WB_not, ↓W_if, ↓W_andV, ↓W_orV, ↓W_notV, ↓WM_some, ↓WM_none, ↓WO_some, ↓tr_bl, ↓tr_non, ↓tr_int, ↓tr_tup, ↓tr_rol, ↓WS_nx, ↓WS_rt, ↓WS_ct, ↓WS_bk, ↓WS_exn, ↓WS_seq, ↓WS_nil, ↓WS_retN, ↓WS_break, ↓WS_cont, ↓WS_expr, ↓WS_ret, ↓WS_if, ↓WS_set, ↓WS_par, ↓WS_asg, ↓WS_gSet, ↓WS_gN, ↓WS_gC, ↓WS_gUn, ↓WS_gSub, ↓WS_aug, ↓o_add, ↓o_iadd, ↓o_sub, ↓o_neg, ↓o_mul, ↓o_mod, ↓o_div, ↓o_pow, ↓o_addT, ↓o_addS, ↓o_addL, ↓o_lt, ↓o_le, ↓o_gt, ↓o_ge, ↓o_eq, ↓o_ne, ↓o_eqS, ↓o_neS, ↓o_eqB, ↓o_neB, ↓o_eqT, ↓o_neT, ↓o_eqN, ↓o_neN, ↓o_ltT, ↓o_leT, ↓o_is, ↓o_isnot, ↓o_isB, ↓o_isnotB, ↓o_inT, ↓o_ninT, ↓o_inL, ↓o_ninL, ↓o_ixT, ↓o_ixR, ↓o_ixL, ↓o_ixS, ↓o_str, ↓o_strS, ↓o_set, ↓o_lenT, ↓o_lenR, ↓o_lenL, ↓o_lenS, ↓o_int, ↓o_intT, ↓o_intF, ↓o_abs, ↓o_max, ↓o_min, ↓o_tuple, ↓o_list, ↓o_tup0, ↓o_tup1, ↓o_tup2, ↓o_tup3, ↓o_tup4, ↓o_tup5, ↓o_tup6, ↓o_lst0, ↓o_lst1, ↓o_lst2, ↓o_lst3, ↓o_lst4, ↓o_lst5, ↓o_lst6, ↓o_sum, ↓W_meth, ↓o_append, ↓o_extend, ↓o_popAt, ↓W_cut, ↓W_noPart, ↓W_part, ↓o_cutT, ↓o_cutR, ↓o_cutL, ↓W_isi, ↓W_ch, ↓WS_for, ↓WI_iter, ↓WI_range1, ↓WI_range2, ↓WI_range3, ↓WI_enum, ↓WS_f0, ↓WS_f1, ↓W_alloc, ↓W_ofL, ↓W_comp, ↓WB_yes, ↓W_c0, ↓W_c1, ↓W_listRg, ↓W_tupRg, ↓W_rRange1, ↓W_rRange2, o_intT, o_intF, o_intB, o_ixL, o_ixT, beq_self_eq_true, decide_true, decide_false, okEq, okCmp, okIn, D.fits, D.fitsL, D.dep, D.depL, D.eqv, D.eqvL, D.alike, D.alikeL, isBl_bl, isN_non, isN_bl, isN_int, isN_str, isN_tup, isN_rol, isN_loc, Nat.reduceAdd, Nat.reduceSub, Nat.max_self, Nat.min_self, Nat.max_zero, Nat.zero_max, Nat.min_zero, Nat.zero_min, ty_non, ty_bl, ty_int, ty_str, ty_tup, ty_rol, ty_loc, kb_bool_bool, kb_bool_int, kb_bool_str, kb_bool_tuple, kb_bool_list, kb_int_bool, kb_int_int, kb_int_str, kb_int_tuple, kb_int_list, kb_str_bool, kb_str_int, kb_str_str, kb_str_tuple, kb_str_list, kb_tuple_bool, kb_tuple_int, kb_tuple_str, kb_tuple_tuple, kb_tuple_list, kb_list_bool, kb_list_int, kb_list_str, kb_list_tuple, kb_list_list, kb_NoneType_bool, kb_NoneType_int, kb_NoneType_str, kb_NoneType_tuple, kb_NoneType_list, Nat.zero_add, c02, lstAt_setE, Option.map_some, lstAt_set_ne, ne_eq, Nat.reduceEqDiff, Nat.one_ne_zero, Nat.zero_ne_one, ix_1_0, ix_2_0, ix_2_1, ix_3_0, ix_3_1, ix_3_2, ix_4_0, ix_4_1, ix_4_2, ix_4_3, ix_5_0, ix_5_1, ix_5_2, ix_5_3, ix_5_4, ix_6_0, ix_6_1, ix_6_2, ix_6_3, ix_6_4, ix_6_5, Nat.reduceLeDiff, Int.reduceAdd, Int.reduceSub, Int.reduceMul, Int.reduceNeg, Int.reducePow, Int.reduceLT, Int.reduceLE, Int.reduceEq, Int.reduceToNat, Bool.and_true, Bool.true_and, Bool.and_self, Bool.and_false, Bool.false_and, Bool.and_eq_true, Bool.and_eq_false_imp, and_self, WS_qdn, WS_qdr, WS_qde, WS_qdb, WS_qdc, qn1, qn2, qn3, qn4, qn5, qk1, qk5, lq1, lq2, lq3, lq4, lq5, intD_int, items_tup, items_rol, items_loc, listOf_loc, listOf_rol, isL_loc, at0, at1, at2, at3, at4, at5, atl1, atl2, atl3, atl4, lstAt_new, it_tup, it_rol, kTup_eq, kLen_eq, wipe0, wipe1, b_nm, List.set_cons_zero, List.set_cons_succ, List.length_cons, List.length_nil, List.nil_append, List.cons_append, List.append_nil, List.isEmpty_cons, List.isEmpty_nil, true_and, and_true, false_and, and_false, true_implies, forall_const, not_true_eq_false, not_false_eq_true, implies_true, decide_eq_true_eq, decide_eq_false_iff_not, Bool.not_eq_true', Bool.not_eq_false', Bool.not_true, Bool.not_false, if_true, if_false, Bool.false_eq_true, Bool.true_eq_false, reduceCtorEq, false_implies, eq_self]
      refine asked_w hF5 (by rw [hbl]; exact hrs) (by omega) (by omega) hb fun S6 hF6 F6 => ?_
      simp only [↓reduceIte, ↓W_ok, ↓W_exn, ↓W_var0, ↓W_varS, ↓W_K, ↓W_bin, ↓W_un, ↓W_aNil, ↓W_aCons, ↓W_arg, ↓W_call, ↓W_of, ↓WB_test, ↓tc_bl, ↓WB_tru, ↓trc, ↓WB_and, ↓WB_or, ↓WB_not, ↓W_if, ↓W_andV, ↓W_orV, ↓W_notV, ↓WM_some, ↓WM_none, ↓WO_some, ↓tr_bl, ↓tr_non, ↓tr_int, ↓tr_tup, ↓tr_rol, ↓WS_nx, ↓WS_rt, ↓WS_ct, ↓WS_bk, ↓WS_exn, ↓WS_seq, ↓WS_nil, ↓WS_retN, ↓WS_break, ↓WS_cont, ↓WS_expr, ↓WS_ret, ↓WS_if, ↓WS_set, ↓WS_par, ↓WS_asg, ↓WS_gSet, ↓WS_gN, ↓WS_gC, ↓WS_gUn, ↓WS_gSub, ↓WS_aug, ↓o_add, ↓o_iadd, ↓o_sub, ↓o_neg, ↓o_mul, ↓o_mod, ↓o_div, ↓o_pow, ↓o_addT, ↓o_addS, ↓o_addL, ↓o_lt, ↓o_le, ↓o_gt, ↓o_ge, ↓o_eq, ↓o_ne, ↓o_eqS, ↓o_neS, ↓o_eqB, ↓o_neB, ↓o_eqT, ↓o_neT, ↓o_eqN, ↓o_neN, ↓o_ltT, ↓o_leT, ↓o_is, ↓o_isnot, ↓o_isB, ↓o_isnotB, ↓o_inT, ↓o_ninT, ↓o_inL, ↓o_ninL, ↓o_ixT, ↓o_ixR, ↓o_ixL, ↓o_ixS, ↓o_str, ↓o_strS, ↓o_set, ↓o_lenT, ↓o_lenR, ↓o_lenL, ↓o_lenS, ↓o_int, ↓o_intT, ↓o_intF, ↓o_abs, ↓o_max, ↓o_min, ↓o_tuple, ↓o_list, ↓o_tup0, ↓o_tup1, ↓o_tup2, ↓o_tup3, ↓o_tup4, ↓o_tup5, ↓o_tup6, ↓o_lst0, ↓o_lst1, ↓o_lst2, ↓o_lst3, ↓o_lst4, ↓o_lst5, ↓o_lst6, ↓o_sum, ↓W_meth, ↓o_append, ↓o_extend, ↓o_popAt, ↓W_cut, ↓W_noPart, ↓W_part, ↓o_cutT, ↓o_cutR, ↓o_cutL, ↓W_isi, ↓W_ch, ↓WS_for, ↓WI_iter, ↓WI_range1, ↓WI_range2, ↓WI_range3, ↓WI_enum, ↓WS_f0, ↓WS_f1, ↓W_alloc, ↓W_ofL, ↓W_comp, ↓WB_yes, ↓W_c0, ↓W_c1, ↓W_listRg, ↓W_tupRg, ↓W_rRange1, ↓W_rRange2, o_intT, o_intF, o_intB, o_ixL, o_ixT, beq_self_eq_true, decide_true, decide_false, okEq, okCmp, okIn, D.fits, D.fitsL, D.dep, D.depL, D.eqv, D.eqvL, D.alike, D.alikeL, isBl_bl, isN_non, isN_bl, isN_int, isN_str, isN_tup, isN_rol, isN_loc, Nat.reduceAdd, Nat.reduceSub, Nat.max_self, Nat.min_self, Nat.max_zero, Nat.zero_max, Nat.min_zero, Nat.zero_min, ty_non, ty_bl, ty_int, ty_str, ty_tup, ty_rol, ty_loc, kb_bool_bool, kb_bool_int, kb_bool_str, kb_bool_tuple, kb_bool_list, kb_int_bool, kb_int_int, kb_int_str, kb_int_tuple, kb_int_list, kb_str_bool, kb_str_int, kb_str_str, kb_str_tuple, kb_str_list, kb_tuple_bool, kb_tuple_int, kb_tuple_str, kb_tuple_tuple, kb_tuple_list, kb_list_bool, kb_list_int, kb_list_str, kb_list_tuple, kb_list_list, kb_NoneType_bool, kb_NoneType_int, kb_NoneType_str, kb_NoneType_tuple, kb_NoneType_list, Nat.zero_add, c02, lstAt_setE, Option.map_some, lstAt_set_ne, ne_eq, Nat.reduceEqDiff, Nat.one_ne_zero, Nat.zero_ne_one, ix_1_0, ix_2_0, ix_2_1, ix_3_0, ix_3_1, ix_3_2, ix_4_0, ix_4_1, ix_4_2, ix_4_3, ix_5_0, ix_5_1, ix_5_2, ix_5_3, ix_5_4, ix_6_0, ix_6_1, ix_6_2, ix_6_3, ix_6_4, ix_6_5, Nat.reduceLeDiff, Int.reduceAdd, Int.reduceSub, Int.reduceMul, Int.reduceNeg, Int.reducePow, Int.reduceLT, Int.reduceLE, Int.reduceEq, Int.reduceToNat, Bool.and_true, Bool.true_and, Bool.and_self, Bool.and_false, Bool.false_and, Bool.and_eq_true, Bool.and_eq_false_imp, and_self, WS_qdn, WS_qdr, WS_qde, WS_qdb, WS_qdc, qn1, qn2, qn3, qn4, qn5, qk1, qk5, lq1, lq2, lq3, lq4, lq5, intD_int, items_tup, items_rol, items_loc, listOf_loc, listOf_rol, isL_loc, at0, at1, at2, at3, at4, at5, atl1, atl2, atl3, atl4, lstAt_new, it_tup, it_rol, kTup_eq, kLen_eq, wipe0, wipe1, b_nm, List.set_cons_zero, List.set_cons_succ, List.length_cons, List.length_nil, List.nil_append, List.cons_append, List.append_nil, List.isEmpty_cons, List.isEmpty_nil, true_and, and_true, false_and, and_false, true_implies, forall_const, not_true_eq_false, not_false_eq_true, implies_true, decide_eq_true_eq, decide_eq_false_iff_not, Bool.not_eq_true', Bool.not_eq_false', Bool.not_true, Bool.not_false, if_true, if_false, Bool.false_eq_true, Bool.true_eq_false, reduceCtorEq, false_implies, eq_self]
      refine half_w hF6 (by omega) (by omega) hok (cf _) fun as S7 hal hah hF7 F7 => ?_
      simp only [↓reduceIte, ↓W_ok, ↓W_exn, ↓W_var0, ↓W_varS, ↓W_K, ↓W_bin, ↓W_un, ↓W_aNil, ↓W_aCons, ↓W_arg, ↓W_call, ↓W_of, ↓WB_test, ↓tc_bl, ↓WB_tru, ↓trc, ↓WB_and, ↓WB_or, ↓WB_not, ↓W_if, ↓W_andV, ↓W_orV, ↓W_notV, ↓WM_some, ↓WM_none, ↓WO_some, ↓tr_bl, ↓tr_non, ↓tr_int, ↓tr_tup, ↓tr_rol, ↓WS_nx, ↓WS_rt, ↓WS_ct, ↓WS_bk, ↓WS_exn, ↓WS_seq, ↓WS_nil, ↓WS_retN, ↓WS_break, ↓WS_cont, ↓WS_expr, ↓WS_ret, ↓WS_if, ↓WS_set, ↓WS_par, ↓WS_asg, ↓WS_gSet, ↓WS_gN, ↓WS_gC, ↓WS_gUn, ↓WS_gSub, ↓WS_aug, ↓o_add, ↓o_iadd, ↓o_sub, ↓o_neg, ↓o_mul, ↓o_mod, ↓o_div, ↓o_pow, ↓o_addT, ↓o_addS, ↓o_addL, ↓o_lt, ↓o_le, ↓o_gt, ↓o_ge, ↓o_eq, ↓o_ne, ↓o_eqS, ↓o_neS, ↓o_eqB, ↓o_neB, ↓o_eqT, ↓o_neT, ↓o_eqN, ↓o_neN, ↓o_ltT, ↓o_leT, ↓o_is, ↓o_isnot, ↓o_isB, ↓o_isnotB, ↓o_inT, ↓o_ninT, ↓o_inL, ↓o_ninL, ↓o_ixT, ↓o_ixR, ↓o_ixL, ↓o_ixS, ↓o_str, ↓o_strS, ↓o_set, ↓o_lenT, ↓o_lenR, ↓o_lenL, ↓o_lenS, ↓o_int, ↓o_intT, ↓o_intF, ↓o_abs, ↓o_max, ↓o_min, ↓o_tuple, ↓o_list, ↓o_tup0, ↓o_tup1, ↓o_tup2, ↓o_tup3, ↓o_tup4, ↓o_tup5, ↓o_tup6, ↓o_lst0, ↓o_lst1, ↓o_lst2, ↓o_lst3, ↓o_lst4, ↓o_lst5, ↓o_lst6, ↓o_sum, ↓W_meth, ↓o_append, ↓o_extend, ↓o_popAt, ↓W_cut, ↓W_noPart, ↓W_part, ↓o_cutT, ↓o_cutR, ↓o_cutL, ↓W_isi, ↓W_ch, ↓WS_for, ↓WI_iter, ↓WI_range1, ↓WI_range2, ↓WI_range3, ↓WI_enum, ↓WS_f0, ↓WS_f1, ↓W_alloc, ↓W_ofL, ↓W_comp, ↓WB_yes, ↓W_c0, ↓W_c1, ↓W_listRg, ↓W_tupRg, ↓W_rRange1, ↓W_rRange2, o_intT, o_intF, o_intB, o_ixL, o_ixT, beq_self_eq_true, decide_true, decide_false, okEq, okCmp, okIn, D.fits, D.fitsL, D.dep, D.depL, D.eqv, D.eqvL, D.alike, D.alikeL, isBl_bl, isN_non, isN_bl, isN_int, isN_str, isN_tup, isN_rol, isN_loc, Nat.reduceAdd, Nat.reduceSub, Nat.max_self, Nat.min_self, Nat.max_zero, Nat.zero_max, Nat.min_zero, Nat.zero_min, ty_non, ty_bl, ty_int, ty_str, ty_tup, ty_rol, ty_loc, kb_bool_bool, kb_bool_int, kb_bool_str, kb_bool_tuple, kb_bool_list, kb_int_bool, kb_int_int, kb_int_str, kb_int_tuple, kb_int_list, kb_str_bool, kb_str_int, kb_str_str, kb_str_tuple, kb_str_list, kb_tuple_bool, kb_tuple_int, kb_tuple_str, kb_tuple_tuple, kb_tuple_list, kb_list_bool, kb_list_int, kb_list_str, kb_list_tuple, kb_list_list, kb_NoneType_bool, kb_NoneType_int, kb_NoneType_str, kb_NoneType_tuple, kb_NoneType_list, Nat.zero_add, c02, lstAt_setE, Option.map_some, lstAt_set_ne, ne_eq, Nat.reduceEqDiff, Nat.one_ne_zero, Nat.zero_ne_one, ix_1_0, ix_2_0, ix_2_1, ix_3_0, ix_3_1, ix_3_2, ix_4_0, ix_4_1, ix_4_2, ix_4_3, ix_5_0, ix_5_1, ix_5_2, ix_5_3, ix_5_4, ix_6_0, ix_6_1, ix_6_2, ix_6_3, ix_6_4, ix_6_5, Nat.reduceLeDiff, Int.reduceAdd, Int.reduceSub, Int.reduceMul, Int.reduceNeg, Int.reducePow, Int.reduceLT, Int.reduceLE, Int.reduceEq, Int.reduceToNat, Bool.and_true, Bool.true_and, Bool.and_self, Bool.and_false, Bool.false_and, Bool.and_eq_true, Bool.and_eq_false_imp, and_self, WS_qdn, WS_qdr, WS_qde, WS_qdb, WS_qdc, qn1, qn2, qn3, qn4, qn5, qk1, qk5, lq1, lq2, lq3, lq4, lq5, intD_int, items_tup, items_rol, items_loc, listOf_loc, listOf_rol, isL_loc, at0, at1, at2, at3, at4, at5, atl1, atl2, atl3, atl4, lstAt_new, it_tup, it_rol, kTup_eq, kLen_eq, wipe0, wipe1, b_nm, List.set_cons_zero, List.set_cons_succ, List.length_cons, List.length_nil, List.nil_append, List.cons_append, List.append_nil, List.isEmpty_cons, List.isEmpty_nil, true_and, and_true, false_and, and_false, true_implies, forall_const, not_true_eq_false, not_false_eq_true, implies_true, decide_eq_true_eq, decide_eq_false_iff_not, Bool.not_eq_true', Bool.not_eq_false', Bool.not_true, Bool.not_false, if_true, if_false, Bool.false_eq_true, Bool.true_eq_false, reduceCtorEq, false_implies, eq_self]
      refine asked_w (rs := []) hF7 (fun r hr => by simp at hr) (by simp) (by omega) hah fun S8 hF8 F8 => ?_
      simp only [↓reduceIte, ↓W_ok, ↓W_exn, ↓W_var0, ↓W_varS, ↓W_K, ↓W_bin, ↓W_un, ↓W_aNil, ↓W_aCons, ↓W_arg, ↓W_call, ↓W_of, ↓WB_test, ↓tc_bl, ↓WB_tru, ↓trc, ↓WB_and, ↓WB_or, ↓WB_not, ↓W_if, ↓W_andV, ↓W_orV, ↓W_notV, ↓WM_some, ↓WM_none, ↓WO_some, ↓tr_bl, ↓tr_non, ↓tr_int, ↓tr_tup, ↓tr_rol, ↓WS_nx, ↓WS_rt, ↓WS_ct, ↓WS_bk, ↓WS_exn, ↓WS_seq, ↓WS_nil, ↓WS_retN, ↓WS_break, ↓WS_cont, ↓WS_expr, ↓WS_ret, ↓WS_if, ↓WS_set, ↓WS_par, ↓WS_asg, ↓WS_gSet, ↓WS_gN, ↓WS_gC, ↓WS_gUn, ↓WS_gSub, ↓WS_aug, ↓o_add, ↓o_iadd, ↓o_sub, ↓o_neg, ↓o_mul, ↓o_mod, ↓o_div, ↓o_pow, ↓o_addT, ↓o_addS, ↓o_addL, ↓o_lt, ↓o_le, ↓o_gt, ↓o_ge, ↓o_eq, ↓o_ne, ↓o_eqS, ↓o_neS, ↓o_eqB, ↓o_neB, ↓o_eqT, ↓o_neT, ↓o_eqN, ↓o_neN, ↓o_ltT, ↓o_leT, ↓o_is, ↓o_isnot, ↓o_isB, ↓o_isnotB, ↓o_inT, ↓o_ninT, ↓o_inL, ↓o_ninL, ↓o_ixT, ↓o_ixR, ↓o_ixL, ↓o_ixS, ↓o_str, ↓o_strS, ↓o_set, ↓o_lenT, ↓o_lenR, ↓o_lenL, ↓o_lenS, ↓o_int, ↓o_intT, ↓o_intF, ↓o_abs, ↓o_max, ↓o_min, ↓o_tuple, ↓o_list, ↓o_tup0, ↓o_tup1, ↓o_tup2, ↓o_tup3, ↓o_tup4, ↓o_tup5, ↓o_tup6, ↓o_lst0, ↓o_lst1, ↓o_lst2, ↓o_lst3, ↓o_lst4, ↓o_lst5, ↓o_lst6, ↓o_sum, ↓W_meth, ↓o_append, ↓o_extend, ↓o_popAt, ↓W_cut, ↓W_noPart, ↓W_part, ↓o_cutT, ↓o_cutR, ↓o_cutL, ↓W_isi, ↓W_ch, ↓WS_for, ↓WI_iter, ↓WI_range1, ↓WI_range2, ↓WI_range3, ↓WI_enum, ↓WS_f0, ↓WS_f1, ↓W_alloc, ↓W_ofL, ↓W_comp, ↓WB_yes, ↓W_c0, ↓W_c1, ↓W_listRg, ↓W_tupRg, ↓W_rRange1, ↓W_rRange2, o_intT, o_intF, o_intB, o_ixL, o_ixT, beq_self_eq_true, decide_true, decide_false, okEq, okCmp, okIn, D.fits, D.fitsL, D.dep, D.depL, D.eqv, D.eqvL, D.alike, D.alikeL, isBl_bl, isN_non, isN_bl, isN_int, isN_str, isN_tup, isN_rol, isN_loc, Nat.reduceAdd, Nat.reduceSub, Nat.max_self, Nat.min_self, Nat.max_zero, Nat.zero_max, Nat.min_zero, Nat.zero_min, ty_non, ty_bl, ty_int, ty_str, ty_tup, ty_rol, ty_loc, kb_bool_bool, kb_bool_int, kb_bool_str, kb_bool_tuple, kb_bool_list, kb_int_bool, kb_int_int, kb_int_str, kb_int_tuple, kb_int_list, kb_str_bool, kb_str_int, kb_str_str, kb_str_tuple, kb_str_list, kb_tuple_bool, kb_tuple_int, kb_tuple_str, kb_tuple_tuple, kb_tuple_list, kb_list_bool, kb_list_int, kb_list_str, kb_list_tuple, kb_list_list, kb_NoneType_bool, kb_NoneType_int, kb_NoneType_str, kb_NoneType_tuple, kb_NoneType_list, Nat.zero_add, c02, lstAt_setE, Option.map_some, lstAt_set_ne, ne_eq, Nat.reduceEqDiff, Nat.one_ne_zero, Nat.zero_ne_one, ix_1_0, ix_2_0, ix_2_1, ix_3_0, ix_3_1, ix_3_2, ix_4_0, ix_4_1, ix_4_2, ix_4_3, ix_5_0, ix_5_1, ix_5_2, ix_5_3, ix_5_4, ix_6_0, ix_6_1, ix_6_2, ix_6_3, ix_6_4, ix_6_5, Nat.reduceLeDiff, Int.reduceAdd, Int.reduceSub, Int.reduceMul, Int.reduceNeg, Int.reducePow, Int.reduceLT, Int.reduceLE, Int.reduceEq, Int.reduceToNat, Bool.and_true, Bool.true_and, Bool.and_self, Bool.and_false, Bool.false_and, Bool.and_eq_true, Bool.and_eq_false_imp, and_self, WS_qdn, WS_qdr, WS_qde, WS_qdb, WS_qdc, qn1, qn2, qn3, qn4, qn5, qk1, qk5, lq1, lq2, lq3, lq4, lq5, intD_int, items_tup, items_rol, items_loc, listOf_loc, listOf_rol, isL_loc, at0, at1, at2, at3, at4, at5, atl1, atl2, atl3, atl4, lstAt_new, it_tup, it_rol, kTup_eq, kLen_eq, wipe0, wipe1, b_nm, List.set_cons_zero, List.set_cons_succ, List.length_cons, List.length_nil, List.nil_append, List.cons_append, List.append_nil, List.isEmpty_cons, List.isEmpty_nil, true_and, and_true, false_and, and_false, true_implies, forall_const, not_true_eq_false, not_false_eq_true, implies_true, decide_eq_true_eq, decide_eq_false_iff_not, Bool.not_eq_true', Bool.not_eq_false', Bool.not_true, Bool.not_false, if_true, if_false, Bool.false_eq_true, Bool.true_eq_false, reduceCtorEq, false_implies, eq_self]
      refine made_w hF8 fun S9 hF9 F9 => ?_
      simp only [↓reduceIte, ↓W_ok, ↓W_exn, ↓W_var0, ↓W_varS, ↓W_K, ↓W_bin, ↓W_un, ↓W_aNil, ↓W_aCons, ↓W_arg, ↓W_call, ↓W_of, ↓WB_test, ↓tc_bl, ↓WB_tru, ↓trc, ↓WB_and, ↓WB_or, ↓WB_not, ↓W_if, ↓W_andV, ↓W_orV, ↓W_notV, ↓WM_some, ↓WM_none, ↓WO_some, ↓tr_bl, ↓tr_non, ↓tr_int, ↓tr_tup, ↓tr_rol, ↓WS_nx, ↓WS_rt, ↓WS_ct, ↓WS_bk, ↓WS_exn, ↓WS_seq, ↓WS_nil, ↓WS_retN, ↓WS_break, ↓WS_cont, ↓WS_expr, ↓WS_ret, ↓WS_if, ↓WS_set, ↓WS_par, ↓WS_asg, ↓WS_gSet, ↓WS_gN, ↓WS_gC, ↓WS_gUn, ↓WS_gSub, ↓WS_aug, ↓o_add, ↓o_iadd, ↓o_sub, ↓o_neg, ↓o_mul, ↓o_mod, ↓o_div, ↓o_pow, ↓o_addT, ↓o_addS, ↓o_addL, ↓o_lt, ↓o_le, ↓o_gt, ↓o_ge, ↓o_eq, ↓o_ne, ↓o_eqS, ↓o_neS, ↓o_eqB, ↓o_neB, ↓o_eqT, ↓o_neT, ↓o_eqN, ↓o_neN, ↓o_ltT, ↓o_leT, ↓o_is, ↓o_isnot, ↓o_isB, ↓o_isnotB, ↓o_inT, ↓o_ninT, ↓o_inL, ↓o_ninL, ↓o_ixT, ↓o_ixR, ↓o_ixL, ↓o_ixS, ↓o_str, ↓o_strS, ↓o_set, ↓o_lenT, ↓o_lenR, ↓o_lenL, ↓o_lenS, ↓o_int, ↓o_intT, ↓o_intF, ↓o_abs, ↓o_max, ↓o_min, ↓o_tuple, ↓o_list, ↓o_tup0, ↓o_tup1, ↓o_tup2, ↓o_tup3, ↓o_tup4, ↓o_tup5, ↓o_tup6, ↓o_lst0, ↓o_lst1, ↓o_lst2, ↓o_lst3, ↓o_lst4, ↓o_lst5, ↓o_lst6, ↓o_sum, ↓W_meth, ↓o_append, ↓o_extend, ↓o_popAt, ↓W_cut, ↓W_noPart, ↓W_part, ↓o_cutT, ↓o_cutR, ↓o_cutL, ↓W_isi, ↓W_ch, ↓WS_for, ↓WI_iter, ↓WI_range1, ↓WI_range2, ↓WI_range3, ↓WI_enum, ↓WS_f0, ↓WS_f1, ↓W_alloc, ↓W_ofL, ↓W_comp, ↓WB_yes, ↓W_c0, ↓W_c1, ↓W_listRg, ↓W_tupRg, ↓W_rRange1, ↓W_rRange2, o_intT, o_intF, o_intB, o_ixL, o_ixT, beq_self_eq_true, decide_true, decide_false, okEq, okCmp, okIn, D.fits, D.fitsL, D.dep, D.depL, D.eqv, D.eqvL, D.alike, D.alikeL, isBl_bl, isN_non, isN_bl, isN_int, isN_str, isN_tup, isN_rol, isN_loc, Nat.reduceAdd, Nat.reduceSub, Nat.max_self, Nat.min_self, Nat.max_zero, Nat.zero_max, Nat.min_zero, Nat.zero_min, ty_non, ty_bl, ty_int, ty_str, ty_tup, ty_rol, ty_loc, kb_bool_bool, kb_bool_int, kb_bool_str, kb_bool_tuple, kb_bool_list, kb_int_bool, kb_int_int, kb_int_str, kb_int_tuple, kb_int_list, kb_str_bool, kb_str_int, kb_str_str, kb_str_tuple, kb_str_list, kb_tuple_bool, kb_tuple_int, kb_tuple_str, kb_tuple_tuple, kb_tuple_list, kb_list_bool, kb_list_int, kb_list_str, kb_list_tuple, kb_list_list, kb_NoneType_bool, kb_NoneType_int, kb_NoneType_str, kb_NoneType_tuple, kb_NoneType_list, Nat.zero_add, c02, lstAt_setE, Option.map_some, lstAt_set_ne, ne_eq, Nat.reduceEqDiff, Nat.one_ne_zero, Nat.zero_ne_one, ix_1_0, ix_2_0, ix_2_1, ix_3_0, ix_3_1, ix_3_2, ix_4_0, ix_4_1, ix_4_2, ix_4_3, ix_5_0, ix_5_1, ix_5_2, ix_5_3, ix_5_4, ix_6_0, ix_6_1, ix_6_2, ix_6_3, ix_6_4, ix_6_5, Nat.reduceLeDiff, Int.reduceAdd, Int.reduceSub, Int.reduceMul, Int.reduceNeg, Int.reducePow, Int.reduceLT, Int.reduceLE, Int.reduceEq, Int.reduceToNat, Bool.and_true, Bool.true_and, Bool.and_self, Bool.and_false, Bool.false_and, Bool.and_eq_true, Bool.and_eq_false_imp, and_self, WS_qdn, WS_qdr, WS_qde, WS_qdb, WS_qdc, qn1, qn2, qn3, qn4, qn5, qk1, qk5, lq1, lq2, lq3, lq4, lq5, intD_int, items_tup, items_rol, items_loc, listOf_loc, listOf_rol, isL_loc, at0, at1, at2, at3, at4, at5, atl1, atl2, atl3, atl4, lstAt_new, it_tup, it_rol, kTup_eq, kLen_eq, wipe0, wipe1, b_nm, List.set_cons_zero, List.set_cons_succ, List.length_cons, List.length_nil, List.nil_append, List.cons_append, List.append_nil, List.isEmpty_cons, List.isEmpty_nil, true_and, and_true, false_and, and_false, true_implies, forall_const, not_true_eq_false, not_false_eq_true, implies_true, decide_eq_true_eq, decide_eq_false_iff_not, Bool.not_eq_true', Bool.not_eq_false', Bool.not_true, Bool.not_false, if_true, if_false, Bool.false_eq_true, Bool.true_eq_false, reduceCtorEq, false_implies, eq_self]
      refine draw_w hF9 (by omega) fun v S10 v0 v1 hF10 F10 => ?_
      simp only [↓reduceIte, ↓W_ok, ↓W_exn, ↓W_var0, ↓W_varS, ↓W_K, ↓W_bin, ↓W_un, ↓W_aNil, ↓W_aCons, ↓W_arg, ↓W_call, ↓W_of, ↓WB_test, ↓tc_bl, ↓WB_tru, ↓trc, ↓WB_and, ↓WB_or, ↓WB_not, ↓W_if, ↓W_andV, ↓W_orV, ↓W_notV, ↓WM_some, ↓WM_none, ↓WO_some, ↓tr_bl, ↓tr_non, ↓tr_int, ↓tr_tup, ↓tr_rol, ↓WS_nx, ↓WS_rt, ↓WS_ct, ↓WS_bk, ↓WS_exn, ↓WS_seq, ↓WS_nil, ↓WS_retN, ↓WS_break, ↓WS_cont, ↓WS_expr, ↓WS_ret, ↓WS_if, ↓WS_set, ↓WS_par, ↓WS_asg, ↓WS_gSet, ↓WS_gN, ↓WS_gC, ↓WS_gUn, ↓WS_gSub, ↓WS_aug, ↓o_add, ↓o_iadd, ↓o_sub, ↓o_neg, ↓o_mul, ↓o_mod, ↓o_div, ↓o_pow, ↓o_addT, ↓o_addS, ↓o_addL, ↓o_lt, ↓o_le, ↓o_gt, ↓o_ge, ↓o_eq, ↓o_ne, ↓o_eqS, ↓o_neS, ↓o_eqB, ↓o_neB, ↓o_eqT, ↓o_neT, ↓o_eqN, ↓o_neN, ↓o_ltT, ↓o_leT, ↓o_is, ↓o_isnot, ↓o_isB, ↓o_isnotB, ↓o_inT, ↓o_ninT, ↓o_inL, ↓o_ninL, ↓o_ixT, ↓o_ixR, ↓o_ixL, ↓o_ixS, ↓o_str, ↓o_strS, ↓o_set, ↓o_lenT, ↓o_lenR, ↓o_lenL, ↓o_lenS, ↓o_int, ↓o_intT, ↓o_intF, ↓o_abs, ↓o_max, ↓o_min, ↓o_tuple, ↓o_list, ↓o_tup0, ↓o_tup1, ↓o_tup2, ↓o_tup3, ↓o_tup4, ↓o_tup5, ↓o_tup6, ↓o_lst0, ↓o_lst1, ↓o_lst2, ↓o_lst3, ↓o_lst4, ↓o_lst5, ↓o_lst6, ↓o_sum, ↓W_meth, ↓o_append, ↓o_extend, ↓o_popAt, ↓W_cut, ↓W_noPart, ↓W_part, ↓o_cutT, ↓o_cutR, ↓o_cutL, ↓W_isi, ↓W_ch, ↓WS_for, ↓WI_iter, ↓WI_range1, ↓WI_range2, ↓WI_range3, ↓WI_enum, ↓WS_f0, ↓WS_f1, ↓W_alloc, ↓W_ofL, ↓W_comp, ↓WB_yes, ↓W_c0, ↓W_c1, ↓W_listRg, ↓W_tupRg, ↓W_rRange1, ↓W_rRange2, o_intT, o_intF, o_intB, o_ixL, o_ixT, beq_self_eq_true, decide_true, decide_false, okEq, okCmp, okIn, D.fits, D.fitsL, D.dep, D.depL, D.eqv, D.eqvL, D.alike, D.alikeL, isBl_bl, isN_non, isN_bl, isN_int, isN_str, isN_tup, isN_rol, isN_loc, Nat.reduceAdd, Nat.reduceSub, Nat.max_self, Nat.min_self, Nat.max_zero, Nat.zero_max, Nat.min_zero, Nat.zero_min, ty_non, ty_bl, ty_int, ty_str, ty_tup, ty_rol, ty_loc, kb_bool_bool, kb_bool_int, kb_bool_str, kb_bool_tuple, kb_bool_list, kb_int_bool, kb_int_int, kb_int_str, kb_int_tuple, kb_int_list, kb_str_bool, kb_str_int, kb_str_str, kb_str_tuple, kb_str_list, kb_tuple_bool, kb_tuple_int, kb_tuple_str, kb_tuple_tuple, kb_tuple_list, kb_list_bool, kb_list_int, kb_list_str, kb_list_tuple, kb_list_list, kb_NoneType_bool, kb_NoneType_int, kb_NoneType_str, kb_NoneType_tuple, kb_NoneType_list, Nat.zero_add, c02, lstAt_setE, Option.map_some, lstAt_set_ne, ne_eq, Nat.reduceEqDiff, Nat.one_ne_zero, Nat.zero_ne_one, ix_1_0, ix_2_0, ix_2_1, ix_3_0, ix_3_1, ix_3_2, ix_4_0, ix_4_1, ix_4_2, ix_4_3, ix_5_0, ix_5_1, ix_5_2, ix_5_3, ix_5_4, ix_6_0, ix_6_1, ix_6_2, ix_6_3, ix_6_4, ix_6_5, Nat.reduceLeDiff, Int.reduceAdd, Int.reduceSub, Int.reduceMul, Int.reduceNeg, Int.reducePow, Int.reduceLT, Int.reduceLE, Int.reduceEq, Int.reduceToNat, Bool.and_true, Bool.true_and, Bool.and_self, Bool.and_false, Bool.false_and, Bool.and_eq_true, Bool.and_eq_false_imp, and_self, WS_qdn, WS_qdr, WS_qde, WS_qdb, WS_qdc, qn1, qn2, qn3, qn4, qn5, qk1, qk5, lq1, lq2, lq3, lq4, lq5, intD_int, items_tup, items_rol, items_loc, listOf_loc, listOf_rol, isL_loc, at0, at1, at2, at3, at4, at5, atl1, atl2, atl3, atl4, lstAt_new, it_tup, it_rol, kTup_eq, kLen_eq, wipe0, wipe1, b_nm, List.set_cons_zero, List.set_cons_succ, List.length_cons, List.length_nil, List.nil_append, List.cons_append, List.append_nil, List.isEmpty_cons, List.isEmpty_nil, true_and, and_true, false_and, and_false, true_implies, forall_const, not_true_eq_false, not_false_eq_true, implies_true, decide_eq_true_eq, decide_eq_false_iff_not, Bool.not_eq_true', Bool.not_eq_false', Bool.not_true, Bool.not_false, if_true, if_false, Bool.false_eq_true, Bool.true_eq_false, reduceCtorEq, false_implies, eq_self]
      by_cases hv : 0 < v
      · simp [hv]
      · simp only [hv, decide_false, Bool.false_eq_true, false_implies, true_and, forall_const]
        intro _
        refine wide_w hF10 fun S11 hF11 F11 => ?_
        rfl
end
end LW

namespace LW
open PySem PySem.Spec PyProof.Rows L2 DL
def topS (i : Nat) : Stmt := PySem.Challenge.pw_halffilled_k21_broken_rules.main.body.getD i (.Pass ⟨0, 0, 0, 0⟩)
abbrev s_holds_at : Stmt := topS 1
abbrev s__law_feed : Stmt := topS 10
abbrev s__law_draw : Stmt := topS 11
abbrev s__law_whole : Stmt := topS 12
abbrev s__law_sayings : Stmt := topS 16
abbrev s__law_holds : Stmt := topS 18
abbrev s_holds_in : Stmt := topS 2
abbrev s__law_same : Stmt := topS 13
abbrev s__law_names : Stmt := topS 14
abbrev s__law_rules : Stmt := topS 17
abbrev s__law_half : Stmt := topS 19
abbrev s__law_due : Stmt := topS 20
abbrev s_breaks_rule : Stmt := topS 4
abbrev s__law_fields : Stmt := topS 15
abbrev s_broken_rules : Stmt := topS 6
abbrev s_breaks_some : Stmt := topS 7
abbrev s_is_good : Stmt := topS 8
abbrev s__law_asked : Stmt := topS 21
abbrev s__law_made_good : Stmt := topS 22
abbrev s__law_wide_good : Stmt := topS 23
abbrev s_law : Stmt := topS 24
structure Top (K : PySem.W.Frag) (mg : Str → Option Value) : Prop where
  f_holds_at : ∃ f fd, mg "holds_at" = some (.ref f) ∧ Fun K "holds_at" "holds_at" s_holds_at f fd
  f__law_feed : ∃ f fd, mg "_law_feed" = some (.ref f) ∧ Fun K "_law_feed" "_law_feed" s__law_feed f fd
  f__law_draw : ∃ f fd, mg "_law_draw" = some (.ref f) ∧ Fun K "_law_draw" "_law_draw" s__law_draw f fd
  f__law_whole : ∃ f fd, mg "_law_whole" = some (.ref f) ∧ Fun K "_law_whole" "_law_whole" s__law_whole f fd
  f__law_sayings : ∃ f fd, mg "_law_sayings" = some (.ref f) ∧ Fun K "_law_sayings" "_law_sayings" s__law_sayings f fd
  f__law_holds : ∃ f fd, mg "_law_holds" = some (.ref f) ∧ Fun K "_law_holds" "_law_holds" s__law_holds f fd
  f_holds_in : ∃ f fd, mg "holds_in" = some (.ref f) ∧ Fun K "holds_in" "holds_in" s_holds_in f fd
  f__law_same : ∃ f fd, mg "_law_same" = some (.ref f) ∧ Fun K "_law_same" "_law_same" s__law_same f fd
  f__law_names : ∃ f fd, mg "_law_names" = some (.ref f) ∧ Fun K "_law_names" "_law_names" s__law_names f fd
  f__law_rules : ∃ f fd, mg "_law_rules" = some (.ref f) ∧ Fun K "_law_rules" "_law_rules" s__law_rules f fd
  f__law_half : ∃ f fd, mg "_law_half" = some (.ref f) ∧ Fun K "_law_half" "_law_half" s__law_half f fd
  f__law_due : ∃ f fd, mg "_law_due" = some (.ref f) ∧ Fun K "_law_due" "_law_due" s__law_due f fd
  f_breaks_rule : ∃ f fd, mg "breaks_rule" = some (.ref f) ∧ Fun K "breaks_rule" "breaks_rule" s_breaks_rule f fd
  f__law_fields : ∃ f fd, mg "_law_fields" = some (.ref f) ∧ Fun K "_law_fields" "_law_fields" s__law_fields f fd
  f_broken_rules : ∃ f fd, mg "broken_rules" = some (.ref f) ∧ Fun K "broken_rules" "broken_rules" s_broken_rules f fd
  f_breaks_some : ∃ f fd, mg "breaks_some" = some (.ref f) ∧ Fun K "breaks_some" "breaks_some" s_breaks_some f fd
  f_is_good : ∃ f fd, mg "is_good" = some (.ref f) ∧ Fun K "is_good" "is_good" s_is_good f fd
  f__law_asked : ∃ f fd, mg "_law_asked" = some (.ref f) ∧ Fun K "_law_asked" "_law_asked" s__law_asked f fd
  f__law_made_good : ∃ f fd, mg "_law_made_good" = some (.ref f) ∧ Fun K "_law_made_good" "_law_made_good" s__law_made_good f fd
  f__law_wide_good : ∃ f fd, mg "_law_wide_good" = some (.ref f) ∧ Fun K "_law_wide_good" "_law_wide_good" s__law_wide_good f fd
  f_law : ∃ f fd, mg "law" = some (.ref f) ∧ Fun K "law" "law" s_law f fd
  z_abs : mg "abs" = none
  z_bool : mg "bool" = none
  z_enumerate : mg "enumerate" = none
  z_int : mg "int" = none
  z_isinstance : mg "isinstance" = none
  z_len : mg "len" = none
  z_min : mg "min" = none
  z_range : mg "range" = none
  z_sorted : mg "sorted" = none
  z_str : mg "str" = none
  z_tuple : mg "tuple" = none
section
variable {P : Program} {w : World} {K : PySem.W.Frag} {mg : Str → Option Value} {base : Heap}
theorem sc_holds_at : FnScope ["saying", "answer"] ["saying", "answer"] (defScope s_holds_at) := ⟨rfl, rfl, rfl, by decide +kernel, rfl, by decide +kernel, by decide +kernel⟩
theorem ok_holds_at (T : Top K mg) : FnD P w K mg base 1 "holds_at" 2 m_holds_at := by
  unfold m_holds_at b_holds_at
  exact d_def (N := ["saying", "answer"]) (ps := ["saying", "answer"]) T.f_holds_at sc_holds_at rfl rfl (fun _ _ _ _ _ _ us hl => match us, hl with | [_, _], _ => rfl) (fun f cdv A outer s H E hr tk hp =>
    (ss_one (s_ret (e_cmp d_ge (e_bin d_mul (e_ix (e_var 0) e_int) (e_var 1)) (e_bin d_mul (e_ix (e_var 0) e_int) (e_ix (e_var 0) e_int))))))
theorem sc__law_feed : FnScope ["script", "numbers", "mixed", "cell", "whole", "turn"] ["script"] (defScope s__law_feed) := ⟨rfl, rfl, rfl, by decide +kernel, rfl, by decide +kernel, by decide +kernel⟩
theorem ok__law_feed (T : Top K mg) : FnD P w K mg base 1 "_law_feed" 1 m__law_feed := by
  unfold m__law_feed b__law_feed
  exact d_def (N := ["script", "numbers", "mixed", "cell", "whole", "turn"]) (ps := ["script"]) T.f__law_feed sc__law_feed rfl rfl (fun _ _ _ _ _ _ us hl => match us, hl with | [_], _ => rfl) (fun f cdv A outer s H E hr tk hp =>
    (ss_cons (s_set (i := 1) sc__law_feed.nd (e_lst a_nil))
    (ss_cons (s_set (i := 2) sc__law_feed.nd e_int)
    (ss_cons (s_for hp (i_seq (e_var 0)) (g_name 3 sc__law_feed.nd) (ss_cons (s_set (i := 4) sc__law_feed.nd (e_callB d_abs T.z_abs (by decide +kernel) (a_cons (e_callTy d_int T.z_int (by decide +kernel) (a_cons (e_var 3) a_nil)) a_nil)))
    (ss_cons (s_set (i := 2) sc__law_feed.nd (e_bin d_mod (e_callTy d_int T.z_int (by decide +kernel) (a_cons (e_bin d_add (e_bin d_add (e_bin d_mul (e_var 2) e_int) (e_bin d_mod (e_callTy d_int T.z_int (by decide +kernel) (a_cons (e_var 4) a_nil)) e_int)) e_int) a_nil)) e_int))
    (ss_one (s_if (t_cmp (d_lt hr.units) (e_var 4) e_int) (ss_one (s_expr (e_append (e_var 1) (a_cons (e_bin d_mod (e_callTy d_int T.z_int (by decide +kernel) (a_cons (e_bin d_add (e_bin d_mul (e_var 2) e_int) (e_bin d_mod (e_callTy d_int T.z_int (by decide +kernel) (a_cons (e_var 4) a_nil)) e_int)) a_nil)) e_int) a_nil)))) (ss_one (s_for hp (i_range1 T.z_range e_int) (g_name 5 sc__law_feed.nd) (ss_one (s_if (t_cmp d_gt (e_var 4) e_int) (ss_cons (s_expr (e_append (e_var 1) (a_cons (e_bin d_mod (e_callTy d_int T.z_int (by decide +kernel) (a_cons (e_var 4) a_nil)) e_int) a_nil)))
    (ss_one (s_set (i := 4) sc__law_feed.nd (e_bin d_div (e_var 4) e_int)))) ss_nil)))))))))
    (ss_one (s_ret (e_lst (a_cons (e_var 1) (a_cons e_int (a_cons (e_var 2) a_nil))))))))))
theorem sc__law_draw : FnScope ["feed", "most", "at", "numbers"] ["feed", "most"] (defScope s__law_draw) := ⟨rfl, rfl, rfl, by decide +kernel, rfl, by decide +kernel, by decide +kernel⟩
theorem ok__law_draw (T : Top K mg) : FnD P w K mg base 1 "_law_draw" 2 m__law_draw := by
  unfold m__law_draw b__law_draw
  exact d_def (N := ["feed", "most", "at", "numbers"]) (ps := ["feed", "most"]) T.f__law_draw sc__law_draw rfl rfl (fun _ _ _ _ _ _ us hl => match us, hl with | [_, _], _ => rfl) (fun f cdv A outer s H E hr tk hp =>
    (ss_cons (s_set (i := 2) sc__law_draw.nd (e_ix (e_var 0) e_int))
    (ss_cons (s_asg (e_bin d_add (e_var 2) e_int) (g_sub (e_var 0) e_int))
    (ss_cons (s_set (i := 3) sc__law_draw.nd (e_ix (e_var 0) e_int))
    (ss_cons (s_if (t_cmp (d_lt hr.units) (e_var 2) (e_callB d_len T.z_len (by decide +kernel) (a_cons (e_var 3) a_nil))) (ss_one (s_ret (e_bin d_mod (e_callTy d_int T.z_int (by decide +kernel) (a_cons (e_ix (e_var 3) (e_var 2)) a_nil)) (e_var 1)))) ss_nil)
    (ss_cons (s_asg (e_bin d_mod (e_callTy d_int T.z_int (by decide +kernel) (a_cons (e_bin d_add (e_bin d_add (e_bin d_mul (e_ix (e_var 0) e_int) e_int) (e_bin d_mul (e_var 2) e_int)) e_int) a_nil)) e_int) (g_sub (e_var 0) e_int))
    (ss_one (s_ret (e_bin d_mod (e_callTy d_int T.z_int (by decide +kernel) (a_cons (e_bin d_div (e_ix (e_var 0) e_int) e_int) a_nil)) (e_var 1))))))))))
theorem sc__law_whole : FnScope ["thing"] ["thing"] (defScope s__law_whole) := ⟨rfl, rfl, rfl, by decide +kernel, rfl, by decide +kernel, by decide +kernel⟩
theorem ok__law_whole (T : Top K mg) : FnD P w K mg base 1 "_law_whole" 1 m__law_whole := by
  unfold m__law_whole b__law_whole
  exact d_def (N := ["thing"]) (ps := ["thing"]) T.f__law_whole sc__law_whole rfl rfl (fun _ _ _ _ _ _ us hl => match us, hl with | [_], _ => rfl) (fun f cdv A outer s H E hr tk hp =>
    (ss_one (s_ret (e_and (e_isi T.z_isinstance T.z_int (by decide +kernel) (e_var 0)) (e_one (e_not (e_isi T.z_isinstance T.z_bool (by decide +kernel) (e_var 0))))))))
theorem sc__law_sayings : FnScope ["fields", "found", "k", "v"] ["fields"] (defScope s__law_sayings) := ⟨rfl, rfl, rfl, by decide +kernel, rfl, by decide +kernel, by decide +kernel⟩
theorem ok__law_sayings (T : Top K mg) : FnD P w K mg base 1 "_law_sayings" 1 m__law_sayings := by
  unfold m__law_sayings b__law_sayings
  exact d_def (N := ["fields", "found", "k", "v"]) (ps := ["fields"]) T.f__law_sayings sc__law_sayings rfl rfl (fun _ _ _ _ _ _ us hl => match us, hl with | [_], _ => rfl) (fun f cdv A outer s H E hr tk hp =>
    (ss_cons (s_set (i := 1) sc__law_sayings.nd (e_lst a_nil))
    (ss_cons (s_for hp (i_range1 T.z_range (e_callB d_len T.z_len (by decide +kernel) (a_cons (e_var 0) a_nil))) (g_name 2 sc__law_sayings.nd) (ss_cons (s_expr (e_extend (e_var 1) (a_cons (l_alloc (l_comp (own := [("v", 3)]) sc__law_sayings.nd (i_range2 T.z_range (e_ix (e_ix (e_var 0) (e_var 2)) e_int) (e_ix (e_ix (e_var 0) (e_var 2)) e_int)) (blkOk_by (N := ["fields", "found", "k", "v"]) (sc := defScope s__law_sayings) (by decide +kernel)) (by decide) (fun _ _ _ _ _ => (p_name 3 sc__law_sayings.nd)) (fun _ _ _ _ _ => ts_nil) (fun _ _ _ _ _ => (e_tup (a_cons (e_var 2) (a_cons (e_un d_neg e_int) (a_cons (e_var 3) a_nil))))))) a_nil)))
    (ss_one (s_expr (e_extend (e_var 1) (a_cons (l_alloc (l_comp (own := [("v", 3)]) sc__law_sayings.nd (i_range2 T.z_range (e_bin d_add (e_ix (e_ix (e_var 0) (e_var 2)) e_int) e_int) (e_bin d_add (e_ix (e_ix (e_var 0) (e_var 2)) e_int) e_int)) (blkOk_by (N := ["fields", "found", "k", "v"]) (sc := defScope s__law_sayings) (by decide +kernel)) (by decide) (fun _ _ _ _ _ => (p_name 3 sc__law_sayings.nd)) (fun _ _ _ _ _ => ts_nil) (fun _ _ _ _ _ => (e_tup (a_cons (e_var 2) (a_cons e_int (a_cons (e_var 3) a_nil))))))) a_nil))))))
    (ss_one (s_ret (e_var 1))))))
theorem sc__law_holds : FnScope ["saying", "answer"] ["saying", "answer"] (defScope s__law_holds) := ⟨rfl, rfl, rfl, by decide +kernel, rfl, by decide +kernel, by decide +kernel⟩
theorem ok__law_holds (T : Top K mg) : FnD P w K mg base 1 "_law_holds" 2 m__law_holds := by
  unfold m__law_holds b__law_holds
  exact d_def (N := ["saying", "answer"]) (ps := ["saying", "answer"]) T.f__law_holds sc__law_holds rfl rfl (fun _ _ _ _ _ _ us hl => match us, hl with | [_, _], _ => rfl) (fun f cdv A outer s H E hr tk hp =>
    (ss_one (s_ret (e_cmp d_ge (e_bin d_mul (e_bin d_sub (e_var 1) (e_ix (e_var 0) e_int)) (e_ix (e_var 0) e_int)) e_int))))
theorem sc_holds_in : FnScope ["saying", "sheet", "answer"] ["saying", "sheet"] (defScope s_holds_in) := ⟨rfl, rfl, rfl, by decide +kernel, rfl, by decide +kernel, by decide +kernel⟩
theorem ok_holds_in (T : Top K mg) : FnD P w K mg base 2 "holds_in" 2 m_holds_in := by
  unfold m_holds_in b_holds_in
  exact d_def (N := ["saying", "sheet", "answer"]) (ps := ["saying", "sheet"]) T.f_holds_in sc_holds_in rfl rfl (fun _ _ _ _ _ _ us hl => match us, hl with | [_, _], _ => rfl) (fun f cdv A outer s H E hr tk hp =>
    (ss_cons (s_set (i := 2) sc_holds_in.nd (e_ix (e_var 1) (e_ix (e_var 0) e_int)))
    (ss_one (s_ret (e_and (e_cmp d_isnot (e_var 2) e_non) (e_one (e_call (ok_holds_at T) hr (by decide) tk (a_cons (e_var 0) (a_cons (e_var 2) a_nil)) (aCons_len (aCons_len aNil_len)))))))))
theorem sc__law_same : FnScope ["told", "due", "todo", "one", "two", "k"] ["told", "due"] (defScope s__law_same) := ⟨rfl, rfl, rfl, by decide +kernel, rfl, by decide +kernel, by decide +kernel⟩
theorem ok__law_same (T : Top K mg) : FnD P w K mg base 2 "_law_same" 2 m__law_same := by
  unfold m__law_same b__law_same
  exact d_def (N := ["told", "due", "todo", "one", "two", "k"]) (ps := ["told", "due"]) T.f__law_same sc__law_same rfl rfl (fun _ _ _ _ _ _ us hl => match us, hl with | [_, _], _ => rfl) (fun f cdv A outer s H E hr tk hp =>
    (ss_cons (s_set (i := 2) sc__law_same.nd (e_lst (a_cons (e_tup (a_cons (e_var 0) (a_cons (e_var 1) a_nil))) a_nil)))
    (ss_cons (s_while hp (t_cmp d_gt (e_callB d_len T.z_len (by decide +kernel) (a_cons (e_var 2) a_nil)) e_int) (ss_cons (s_asg (e_pop (e_var 2)) (g_un (gs_cons (g_name 3 sc__law_same.nd) (gs_cons (g_name 4 sc__law_same.nd) gs_nil))))
    (ss_one (s_if (t_tru (e_isi T.z_isinstance T.z_tuple (by decide +kernel) (e_var 4))) (ss_cons (s_if (PW.pt (w_or (t_not (t_tru (e_isi T.z_isinstance T.z_tuple (by decide +kernel) (e_var 3)))) (w_or1 (t_cmp (d_ne hr.units) (e_callB d_len T.z_len (by decide +kernel) (a_cons (e_var 3) a_nil)) (e_callB d_len T.z_len (by decide +kernel) (a_cons (e_var 4) a_nil)))))) (ss_one (s_ret e_bl)) ss_nil)
    (ss_one (s_expr (e_extend (e_var 2) (a_cons (l_alloc (l_comp (own := [("k", 5)]) sc__law_same.nd (i_range1 T.z_range (e_callB d_len T.z_len (by decide +kernel) (a_cons (e_var 4) a_nil))) (blkOk_by (N := ["told", "due", "todo", "one", "two", "k"]) (sc := defScope s__law_same) (by decide +kernel)) (by decide) (fun _ _ _ _ _ => (p_name 5 sc__law_same.nd)) (fun _ _ _ _ _ => ts_nil) (fun _ _ _ _ _ => (e_tup (a_cons (e_ix (e_var 3) (e_var 5)) (a_cons (e_ix (e_var 4) (e_var 5)) a_nil)))))) a_nil))))) (ss_one (s_if (t_cmp d_is (e_var 4) e_non) (ss_one (s_if (t_cmp d_isnot (e_var 3) e_non) (ss_one (s_ret e_bl)) ss_nil)) (ss_one (s_if (t_tru (e_isi T.z_isinstance T.z_bool (by decide +kernel) (e_var 4))) (ss_one (s_if (PW.pt (w_or (t_not (t_tru (e_isi T.z_isinstance T.z_bool (by decide +kernel) (e_var 3)))) (w_or1 (t_cmp (d_ne hr.units) (e_var 3) (e_var 4))))) (ss_one (s_ret e_bl)) ss_nil)) (ss_one (s_if (t_tru (e_isi T.z_isinstance T.z_str (by decide +kernel) (e_var 4))) (ss_one (s_if (PW.pt (w_or (t_not (t_tru (e_isi T.z_isinstance T.z_str (by decide +kernel) (e_var 3)))) (w_or1 (t_cmp (d_ne hr.units) (e_var 3) (e_var 4))))) (ss_one (s_ret e_bl)) ss_nil)) (ss_one (s_if (PW.pt (w_or (t_not (t_tru (e_call (ok__law_whole T) hr (by decide) tk (a_cons (e_var 3) a_nil) (aCons_len aNil_len)))) (w_or1 (t_cmp (d_ne hr.units) (e_var 3) (e_var 4))))) (ss_one (s_ret e_bl)) ss_nil))))))))))))
    (ss_one (s_ret e_bl)))))
theorem sc__law_names : FnScope ["feed", "many", "letters", "step", "base", "found", "k", "number"] ["feed", "many"] (defScope s__law_names) := ⟨rfl, rfl, rfl, by decide +kernel, rfl, by decide +kernel, by decide +kernel⟩
theorem ok__law_names (T : Top K mg) : FnD P w K mg base 2 "_law_names" 2 m__law_names := by
  unfold m__law_names b__law_names
  exact d_def (N := ["feed", "many", "letters", "step", "base", "found", "k", "number"]) (ps := ["feed", "many"]) T.f__law_names sc__law_names rfl rfl (fun _ _ _ _ _ _ us hl => match us, hl with | [_, _], _ => rfl) (fun f cdv A outer s H E hr tk hp =>
    (ss_cons (s_set (i := 2) sc__law_names.nd e_str)
    (ss_cons (s_set (i := 3) sc__law_names.nd (e_bin d_add e_int (e_call (ok__law_draw T) hr (by decide) tk (a_cons (e_var 0) (a_cons e_int a_nil)) (aCons_len (aCons_len aNil_len)))))
    (ss_cons (s_set (i := 4) sc__law_names.nd (e_call (ok__law_draw T) hr (by decide) tk (a_cons (e_var 0) (a_cons e_int a_nil)) (aCons_len (aCons_len aNil_len))))
    (ss_cons (s_set (i := 5) sc__law_names.nd (e_lst a_nil))
    (ss_cons (s_for hp (i_range1 T.z_range (e_var 1)) (g_name 6 sc__law_names.nd) (ss_cons (s_set (i := 7) sc__law_names.nd (e_bin d_mod (e_callTy d_int T.z_int (by decide +kernel) (a_cons (e_bin d_add (e_var 4) (e_bin d_mul (e_var 6) (e_var 3))) a_nil)) e_int))
    (ss_one (s_expr (e_append (e_var 5) (a_cons (e_bin d_add (e_bin d_add (e_ix (e_var 2) (e_bin d_mod (e_callTy d_int T.z_int (by decide +kernel) (a_cons (e_bin d_add (e_var 4) (e_bin d_mul (e_var 6) e_int)) a_nil)) e_int)) (e_ix (e_lst (a_cons e_str (a_cons e_str (a_cons e_str a_nil)))) (e_bin d_mod (e_callTy d_int T.z_int (by decide +kernel) (a_cons (e_var 7) a_nil)) e_int))) (e_callTy d_str T.z_str (by decide +kernel) (a_cons (e_var 7) a_nil))) a_nil))))))
    (ss_one (s_ret (e_var 5)))))))))
theorem sc__law_rules : FnScope ["feed", "sayings", "most", "rules", "k", "one", "other", "rule"] ["feed", "sayings", "most"] (defScope s__law_rules) := ⟨rfl, rfl, rfl, by decide +kernel, rfl, by decide +kernel, by decide +kernel⟩
theorem ok__law_rules (T : Top K mg) : FnD P w K mg base 2 "_law_rules" 3 m__law_rules := by
  unfold m__law_rules b__law_rules
  exact d_def (N := ["feed", "sayings", "most", "rules", "k", "one", "other", "rule"]) (ps := ["feed", "sayings", "most"]) T.f__law_rules sc__law_rules rfl rfl (fun _ _ _ _ _ _ us hl => match us, hl with | [_, _, _], _ => rfl) (fun f cdv A outer s H E hr tk hp =>
    (ss_cons (s_set (i := 3) sc__law_rules.nd (e_lst a_nil))
    (ss_cons (s_if (t_cmp d_gt (e_callB d_len T.z_len (by decide +kernel) (a_cons (e_var 1) a_nil)) e_int) (ss_one (s_for hp (i_range1 T.z_range (e_call (ok__law_draw T) hr (by decide) tk (a_cons (e_var 0) (a_cons (e_bin d_add (e_var 2) e_int) a_nil)) (aCons_len (aCons_len aNil_len)))) (g_name 4 sc__law_rules.nd) (ss_cons (s_set (i := 5) sc__law_rules.nd (e_ix (e_var 1) (e_call (ok__law_draw T) hr (by decide) tk (a_cons (e_var 0) (a_cons (e_callB d_len T.z_len (by decide +kernel) (a_cons (e_var 1) a_nil)) a_nil)) (aCons_len (aCons_len aNil_len)))))
    (ss_cons (s_set (i := 6) sc__law_rules.nd (e_ix (e_var 1) (e_call (ok__law_draw T) hr (by decide) tk (a_cons (e_var 0) (a_cons (e_callB d_len T.z_len (by decide +kernel) (a_cons (e_var 1) a_nil)) a_nil)) (aCons_len (aCons_len aNil_len)))))
    (ss_cons (s_set (i := 7) sc__law_rules.nd (e_callTy d_tuple T.z_tuple (by decide +kernel) (a_cons (e_callB (d_sorted hr.units) T.z_sorted (by decide +kernel) (a_cons (e_lst (a_cons (e_var 5) (a_cons (e_var 6) a_nil))) a_nil)) a_nil)))
    (ss_one (s_if (t_cmp (d_notin hr.units) (e_var 7) (e_var 3)) (ss_one (s_expr (e_append (e_var 3) (a_cons (e_var 7) a_nil)))) ss_nil))))))) ss_nil)
    (ss_one (s_ret (e_callTy d_tuple T.z_tuple (by decide +kernel) (a_cons (e_callB (d_sorted hr.units) T.z_sorted (by decide +kernel) (a_cons (e_var 3) a_nil)) a_nil)))))))
theorem sc__law_half : FnScope ["feed", "fields", "blanks", "sheet", "field", "answer"] ["feed", "fields", "blanks"] (defScope s__law_half) := ⟨rfl, rfl, rfl, by decide +kernel, rfl, by decide +kernel, by decide +kernel⟩
theorem ok__law_half (T : Top K mg) : FnD P w K mg base 2 "_law_half" 3 m__law_half := by
  unfold m__law_half b__law_half
  exact d_def (N := ["feed", "fields", "blanks", "sheet", "field", "answer"]) (ps := ["feed", "fields", "blanks"]) T.f__law_half sc__law_half rfl rfl (fun _ _ _ _ _ _ us hl => match us, hl with | [_, _, _], _ => rfl) (fun f cdv A outer s H E hr tk hp =>
    (ss_cons (s_set (i := 3) sc__law_half.nd (e_lst a_nil))
    (ss_cons (s_for hp (i_seq (e_var 1)) (g_name 4 sc__law_half.nd) (ss_cons (s_set (i := 5) sc__law_half.nd (e_bin d_add (e_ix (e_var 4) e_int) (e_call (ok__law_draw T) hr (by decide) tk (a_cons (e_var 0) (a_cons (e_bin d_add (e_bin d_sub (e_ix (e_var 4) e_int) (e_ix (e_var 4) e_int)) e_int) a_nil)) (aCons_len (aCons_len aNil_len)))))
    (ss_cons (s_if (t_cmp (d_eq hr.units) (e_call (ok__law_draw T) hr (by decide) tk (a_cons (e_var 0) (a_cons (e_var 2) a_nil)) (aCons_len (aCons_len aNil_len))) e_int) (ss_one (s_set (i := 5) sc__law_half.nd e_non)) ss_nil)
    (ss_one (s_expr (e_append (e_var 3) (a_cons (e_var 5) a_nil)))))))
    (ss_one (s_ret (e_callTy d_tuple T.z_tuple (by decide +kernel) (a_cons (e_var 3) a_nil)))))))
theorem sc__law_due : FnScope ["form", "sheet", "found", "k", "broken", "saying"] ["form", "sheet"] (defScope s__law_due) := ⟨rfl, rfl, rfl, by decide +kernel, rfl, by decide +kernel, by decide +kernel⟩
theorem ok__law_due (T : Top K mg) : FnD P w K mg base 2 "_law_due" 2 m__law_due := by
  unfold m__law_due b__law_due
  exact d_def (N := ["form", "sheet", "found", "k", "broken", "saying"]) (ps := ["form", "sheet"]) T.f__law_due sc__law_due rfl rfl (fun _ _ _ _ _ _ us hl => match us, hl with | [_, _], _ => rfl) (fun f cdv A outer s H E hr tk hp =>
    (ss_cons (s_set (i := 2) sc__law_due.nd (e_lst a_nil))
    (ss_cons (s_for hp (i_range1 T.z_range (e_callB d_len T.z_len (by decide +kernel) (a_cons (e_ix (e_var 0) e_int) a_nil))) (g_name 3 sc__law_due.nd) (ss_cons (s_set (i := 4) sc__law_due.nd e_bl)
    (ss_cons (s_for hp (i_seq (e_ix (e_ix (e_var 0) e_int) (e_var 3))) (g_name 5 sc__law_due.nd) (ss_one (s_if (PW.pt (w_or (t_cmp d_is (e_ix (e_var 1) (e_ix (e_var 5) e_int)) e_non) (w_or1 (t_tru (e_call (ok__law_holds T) hr (by decide) tk (a_cons (e_var 5) (a_cons (e_ix (e_var 1) (e_ix (e_var 5) e_int)) a_nil)) (aCons_len (aCons_len aNil_len))))))) (ss_one (s_set (i := 4) sc__law_due.nd e_bl)) ss_nil)))
    (ss_one (s_if (t_tru (e_var 4)) (ss_one (s_expr (e_append (e_var 2) (a_cons (e_var 3) a_nil)))) ss_nil)))))
    (ss_one (s_ret (e_callTy d_tuple T.z_tuple (by decide +kernel) (a_cons (e_var 2) a_nil)))))))
theorem sc_breaks_rule : FnScope ["rule", "sheet", "saying"] ["rule", "sheet"] (defScope s_breaks_rule) := ⟨rfl, rfl, rfl, by decide +kernel, rfl, by decide +kernel, by decide +kernel⟩
theorem ok_breaks_rule (T : Top K mg) : FnD P w K mg base 3 "breaks_rule" 2 m_breaks_rule := by
  unfold m_breaks_rule b_breaks_rule
  exact d_def (N := ["rule", "sheet", "saying"]) (ps := ["rule", "sheet"]) T.f_breaks_rule sc_breaks_rule rfl rfl (fun _ _ _ _ _ _ us hl => match us, hl with | [_, _], _ => rfl) (fun f cdv A outer s H E hr tk hp =>
    (ss_cons (s_for hp (i_seq (e_var 0)) (g_name 2 sc_breaks_rule.nd) (ss_one (s_if (PW.pt (w_or (t_cmp d_is (e_ix (e_var 1) (e_ix (e_var 2) e_int)) e_non) (w_or1 (t_tru (e_call (ok_holds_in T) hr (by decide) tk (a_cons (e_var 2) (a_cons (e_var 1) a_nil)) (aCons_len (aCons_len aNil_len))))))) (ss_one (s_ret e_bl)) ss_nil)))
    (ss_one (s_ret e_bl))))
theorem sc__law_fields : FnScope ["feed", "most", "size", "names", "fields", "left", "name", "many", "low"] ["feed", "most", "size"] (defScope s__law_fields) := ⟨rfl, rfl, rfl, by decide +kernel, rfl, by decide +kernel, by decide +kernel⟩
theorem ok__law_fields (T : Top K mg) : FnD P w K mg base 3 "_law_fields" 3 m__law_fields := by
  unfold m__law_fields b__law_fields
  exact d_def (N := ["feed", "most", "size", "names", "fields", "left", "name", "many", "low"]) (ps := ["feed", "most", "size"]) T.f__law_fields sc__law_fields rfl rfl (fun _ _ _ _ _ _ us hl => match us, hl with | [_, _, _], _ => rfl) (fun f cdv A outer s H E hr tk hp =>
    (ss_cons (s_set (i := 3) sc__law_fields.nd (e_call (ok__law_names T) hr (by decide) tk (a_cons (e_var 0) (a_cons (e_bin d_add e_int (e_call (ok__law_draw T) hr (by decide) tk (a_cons (e_var 0) (a_cons (e_var 1) a_nil)) (aCons_len (aCons_len aNil_len)))) a_nil)) (aCons_len (aCons_len aNil_len))))
    (ss_cons (s_set (i := 4) sc__law_fields.nd (e_lst a_nil))
    (ss_cons (s_set (i := 5) sc__law_fields.nd (e_var 2))
    (ss_cons (s_for hp (i_seq (e_var 3)) (g_name 6 sc__law_fields.nd) (ss_cons (s_set (i := 7) sc__law_fields.nd (e_bin d_add e_int (e_call (ok__law_draw T) hr (by decide) tk (a_cons (e_var 0) (a_cons (e_callB (d_min rfl) T.z_min (by decide +kernel) (a_cons e_int (a_cons (e_var 5) a_nil))) a_nil)) (aCons_len (aCons_len aNil_len)))))
    (ss_cons (s_set (i := 5) sc__law_fields.nd (e_bin d_div (e_var 5) (e_var 7)))
    (ss_cons (s_set (i := 8) sc__law_fields.nd (e_bin d_sub (e_call (ok__law_draw T) hr (by decide) tk (a_cons (e_var 0) (a_cons e_int a_nil)) (aCons_len (aCons_len aNil_len))) e_int))
    (ss_one (s_expr (e_append (e_var 4) (a_cons (e_tup (a_cons (e_var 6) (a_cons (e_var 8) (a_cons (e_bin d_sub (e_bin d_add (e_var 8) (e_var 7)) e_int) a_nil)))) a_nil))))))))
    (ss_one (s_ret (e_callTy d_tuple T.z_tuple (by decide +kernel) (a_cons (e_var 4) a_nil)))))))))
theorem sc_broken_rules : FnScope ["form", "sheet", "number", "rule"] ["form", "sheet"] (defScope s_broken_rules) := ⟨rfl, rfl, rfl, by decide +kernel, rfl, by decide +kernel, by decide +kernel⟩
theorem ok_broken_rules (T : Top K mg) : FnD P w K mg base 4 "broken_rules" 2 m_broken_rules := by
  unfold m_broken_rules b_broken_rules
  exact d_def (N := ["form", "sheet", "number", "rule"]) (ps := ["form", "sheet"]) T.f_broken_rules sc_broken_rules rfl rfl (fun _ _ _ _ _ _ us hl => match us, hl with | [_, _], _ => rfl) (fun f cdv A outer s H E hr tk hp =>
    (ss_one (s_ret (e_tupL T.z_tuple (l_comp (own := [("number", 2), ("rule", 3)]) sc_broken_rules.nd (i_enum T.z_enumerate (e_ix (e_var 0) e_int)) (blkOk_by (N := ["form", "sheet", "number", "rule"]) (sc := defScope s_broken_rules) (by decide +kernel)) (by decide) (fun _ _ _ _ _ => (p_un (ps_cons (p_name 2 sc_broken_rules.nd) (ps_cons (p_name 3 sc_broken_rules.nd) ps_nil)))) (fun _ _ _ _ _ => (ts_one (t_tru (e_call (ok_breaks_rule T) hr (by decide) takes0' (a_cons (e_var 3) (a_cons (e_var 1) a_nil)) (aCons_len (aCons_len aNil_len)))))) (fun _ _ _ _ _ => (e_var 2)))))))
theorem sc_breaks_some : FnScope ["form", "sheet", "rule"] ["form", "sheet"] (defScope s_breaks_some) := ⟨rfl, rfl, rfl, by decide +kernel, rfl, by decide +kernel, by decide +kernel⟩
theorem ok_breaks_some (T : Top K mg) : FnD P w K mg base 4 "breaks_some" 2 m_breaks_some := by
  unfold m_breaks_some b_breaks_some
  exact d_def (N := ["form", "sheet", "rule"]) (ps := ["form", "sheet"]) T.f_breaks_some sc_breaks_some rfl rfl (fun _ _ _ _ _ _ us hl => match us, hl with | [_, _], _ => rfl) (fun f cdv A outer s H E hr tk hp =>
    (ss_cons (s_for hp (i_seq (e_ix (e_var 0) e_int)) (g_name 2 sc_breaks_some.nd) (ss_one (s_if (t_tru (e_call (ok_breaks_rule T) hr (by decide) tk (a_cons (e_var 2) (a_cons (e_var 1) a_nil)) (aCons_len (aCons_len aNil_len)))) (ss_one (s_ret e_bl)) ss_nil)))
    (ss_one (s_ret e_bl))))
theorem sc_is_good : FnScope ["form", "sheet"] ["form", "sheet"] (defScope s_is_good) := ⟨rfl, rfl, rfl, by decide +kernel, rfl, by decide +kernel, by decide +kernel⟩
theorem ok_is_good (T : Top K mg) : FnD P w K mg base 5 "is_good" 2 m_is_good := by
  unfold m_is_good b_is_good
  exact d_def (N := ["form", "sheet"]) (ps := ["form", "sheet"]) T.f_is_good sc_is_good rfl rfl (fun _ _ _ _ _ _ us hl => match us, hl with | [_, _], _ => rfl) (fun f cdv A outer s H E hr tk hp =>
    (ss_one (s_ret (e_and (e_cmp (d_notin hr.units) e_non (e_var 1)) (e_one (e_not (e_call (ok_breaks_some T) hr (by decide) tk (a_cons (e_var 0) (a_cons (e_var 1) a_nil)) (aCons_len (aCons_len aNil_len)))))))))
theorem sc__law_asked : FnScope ["form", "sheet", "due", "good", "answer"] ["form", "sheet"] (defScope s__law_asked) := ⟨rfl, rfl, rfl, by decide +kernel, rfl, by decide +kernel, by decide +kernel⟩
theorem ok__law_asked (T : Top K mg) : FnD P w K mg base 6 "_law_asked" 2 m__law_asked := by
  unfold m__law_asked b__law_asked
  exact d_def (N := ["form", "sheet", "due", "good", "answer"]) (ps := ["form", "sheet"]) T.f__law_asked sc__law_asked rfl rfl (fun _ _ _ _ _ _ us hl => match us, hl with | [_, _], _ => rfl) (fun f cdv A outer s H E hr tk hp =>
    (ss_cons (s_set (i := 2) sc__law_asked.nd (e_call (ok__law_due T) hr (by decide) tk (a_cons (e_var 0) (a_cons (e_var 1) a_nil)) (aCons_len (aCons_len aNil_len))))
    (ss_cons (s_set (i := 3) sc__law_asked.nd (e_and (e_cmp (d_eq hr.units) (e_callB d_len T.z_len (by decide +kernel) (a_cons (e_var 2) a_nil)) e_int) (e_one (e_cmp (d_eq hr.units) (e_lenL T.z_len (l_comp (own := [("answer", 4)]) sc__law_asked.nd (i_seq (e_var 1)) (blkOk_by (N := ["form", "sheet", "due", "good", "answer"]) (sc := defScope s__law_asked) (by decide +kernel)) (by decide) (fun _ _ _ _ _ => (p_name 4 sc__law_asked.nd)) (fun _ _ _ _ _ => (ts_one (t_cmp d_is (e_var 4) e_non))) (fun _ _ _ _ _ => (e_var 4)))) e_int))))
    (ss_one (s_ret (e_and (e_call (ok__law_same T) hr (by decide) tk (a_cons (e_call (ok_broken_rules T) hr (by decide) tk (a_cons (e_var 0) (a_cons (e_var 1) a_nil)) (aCons_len (aCons_len aNil_len))) (a_cons (e_var 2) a_nil)) (aCons_len (aCons_len aNil_len))) (e_one (e_call (ok__law_same T) hr (by decide) tk (a_cons (e_call (ok_is_good T) hr (by decide) tk (a_cons (e_var 0) (a_cons (e_var 1) a_nil)) (aCons_len (aCons_len aNil_len))) (a_cons (e_var 3) a_nil)) (aCons_len (aCons_len aNil_len))))))))))
theorem sc__law_made_good : FnScope ["feed", "names", "low", "at", "fields", "rules", "one", "other"] ["feed"] (defScope s__law_made_good) := ⟨rfl, rfl, rfl, by decide +kernel, rfl, by decide +kernel, by decide +kernel⟩
theorem ok__law_made_good (T : Top K mg) : FnD P w K mg base 7 "_law_made_good" 1 m__law_made_good := by
  unfold m__law_made_good b__law_made_good
  exact d_def (N := ["feed", "names", "low", "at", "fields", "rules", "one", "other"]) (ps := ["feed"]) T.f__law_made_good sc__law_made_good rfl rfl (fun _ _ _ _ _ _ us hl => match us, hl with | [_], _ => rfl) (fun f cdv A outer s H E hr tk hp =>
    (ss_cons (s_set (i := 1) sc__law_made_good.nd (e_call (ok__law_names T) hr (by decide) tk (a_cons (e_var 0) (a_cons e_int a_nil)) (aCons_len (aCons_len aNil_len))))
    (ss_cons (s_set (i := 2) sc__law_made_good.nd (e_bin d_sub (e_call (ok__law_draw T) hr (by decide) tk (a_cons (e_var 0) (a_cons e_int a_nil)) (aCons_len (aCons_len aNil_len))) e_int))
    (ss_cons (s_set (i := 3) sc__law_made_good.nd (e_bin d_add (e_bin d_add (e_var 2) e_int) (e_call (ok__law_draw T) hr (by decide) tk (a_cons (e_var 0) (a_cons e_int a_nil)) (aCons_len (aCons_len aNil_len)))))
    (ss_cons (s_set (i := 4) sc__law_made_good.nd (e_tup (a_cons (e_tup (a_cons (e_ix (e_var 1) e_int) (a_cons (e_var 2) (a_cons (e_bin d_add (e_var 2) e_int) a_nil)))) (a_cons (e_tup (a_cons (e_ix (e_var 1) e_int) (a_cons (e_var 2) (a_cons (e_bin d_add (e_var 2) e_int) a_nil)))) a_nil))))
    (ss_cons (s_set (i := 5) sc__law_made_good.nd (e_callTy d_tuple T.z_tuple (by decide +kernel) (a_cons (e_callB (d_sorted hr.units) T.z_sorted (by decide +kernel) (a_cons (e_lst (a_cons (e_tup (a_cons (e_tup (a_cons e_int (a_cons (e_un d_neg e_int) (a_cons (e_bin d_sub (e_var 3) e_int) a_nil)))) (a_cons (e_tup (a_cons e_int (a_cons e_int (a_cons (e_var 3) a_nil)))) a_nil))) (a_cons (e_tup (a_cons (e_tup (a_cons e_int (a_cons (e_un d_neg e_int) (a_cons (e_var 2) a_nil)))) (a_cons (e_tup (a_cons e_int (a_cons e_int (a_cons (e_bin d_add (e_var 2) e_int) a_nil)))) a_nil))) (a_cons (e_tup (a_cons (e_tup (a_cons e_int (a_cons e_int (a_cons (e_bin d_add (e_var 2) e_int) a_nil)))) (a_cons (e_tup (a_cons e_int (a_cons e_int (a_cons (e_bin d_add (e_var 2) e_int) a_nil)))) a_nil))) a_nil)))) a_nil)) a_nil)))
    (ss_cons (s_for hp (i_range2 T.z_range (e_var 2) (e_bin d_add (e_var 2) e_int)) (g_name 6 sc__law_made_good.nd) (ss_one (s_for hp (i_seq (e_lst (a_cons e_non (a_cons (e_var 2) (a_cons (e_bin d_sub (e_var 3) e_int) (a_cons (e_var 3) (a_cons (e_bin d_add (e_var 2) e_int) a_nil))))))) (g_name 7 sc__law_made_good.nd) (ss_one (s_if (PW.pt (w_or (t_not (t_tru (e_call (ok__law_asked T) hr (by decide) tk (a_cons (e_tup (a_cons (e_var 4) (a_cons (e_var 5) a_nil))) (a_cons (e_tup (a_cons (e_var 6) (a_cons (e_var 7) a_nil))) a_nil)) (aCons_len (aCons_len aNil_len))))) (w_or1 (t_not (t_tru (e_call (ok__law_asked T) hr (by decide) tk (a_cons (e_tup (a_cons (e_var 4) (a_cons (e_var 5) a_nil))) (a_cons (e_tup (a_cons e_non (a_cons (e_var 7) a_nil))) a_nil)) (aCons_len (aCons_len aNil_len)))))))) (ss_one (s_ret e_bl)) ss_nil)))))
    (ss_one (s_ret (e_and (e_cmp d_is (e_call (ok_is_good T) hr (by decide) tk (a_cons (e_tup (a_cons (e_var 4) (a_cons (e_var 5) a_nil))) (a_cons (e_tup (a_cons (e_var 2) (a_cons (e_bin d_add (e_var 2) e_int) a_nil))) a_nil)) (aCons_len (aCons_len aNil_len))) e_bl) (e_one (e_cmp d_is (e_call (ok_is_good T) hr (by decide) tk (a_cons (e_tup (a_cons (e_var 4) (a_cons (e_var 5) a_nil))) (a_cons (e_tup (a_cons (e_var 3) (a_cons (e_var 2) a_nil))) a_nil)) (aCons_len (aCons_len aNil_len))) e_bl))))))))))))
theorem sc__law_wide_good : FnScope ["feed", "names", "fields", "k", "sayings", "step", "first", "rules", "distinct", "form", "full", "late", "lows", "saying", "low", "field"] ["feed"] (defScope s__law_wide_good) := ⟨rfl, rfl, rfl, by decide +kernel, rfl, by decide +kernel, by decide +kernel⟩
theorem ok__law_wide_good (T : Top K mg) : FnD P w K mg base 7 "_law_wide_good" 1 m__law_wide_good := by
  unfold m__law_wide_good b__law_wide_good
  exact d_def (N := ["feed", "names", "fields", "k", "sayings", "step", "first", "rules", "distinct", "form", "full", "late", "lows", "saying", "low", "field"]) (ps := ["feed"]) T.f__law_wide_good sc__law_wide_good rfl rfl (fun _ _ _ _ _ _ us hl => match us, hl with | [_], _ => rfl) (fun f cdv A outer s H E hr tk hp =>
    (ss_cons (s_set (i := 1) sc__law_wide_good.nd (e_call (ok__law_names T) hr (by decide) tk (a_cons (e_var 0) (a_cons e_int a_nil)) (aCons_len (aCons_len aNil_len))))
    (ss_cons (s_set (i := 2) sc__law_wide_good.nd (e_lst a_nil))
    (ss_cons (s_for hp (i_range1 T.z_range e_int) (g_name 3 sc__law_wide_good.nd) (ss_cons (s_set (i := 14) sc__law_wide_good.nd (e_bin d_sub (e_call (ok__law_draw T) hr (by decide) tk (a_cons (e_var 0) (a_cons e_int a_nil)) (aCons_len (aCons_len aNil_len))) e_int))
    (ss_one (s_expr (e_append (e_var 2) (a_cons (e_tup (a_cons (e_ix (e_var 1) (e_var 3)) (a_cons (e_var 14) (a_cons (e_bin d_add (e_var 14) e_int) a_nil)))) a_nil))))))
    (ss_cons (s_set (i := 4) sc__law_wide_good.nd (e_call (ok__law_sayings T) hr (by decide) tk (a_cons (e_var 2) a_nil) (aCons_len aNil_len)))
    (ss_cons (s_set (i := 5) sc__law_wide_good.nd (e_ix (e_lst (a_cons e_int (a_cons e_int (a_cons e_int (a_cons e_int a_nil))))) (e_call (ok__law_draw T) hr (by decide) tk (a_cons (e_var 0) (a_cons e_int a_nil)) (aCons_len (aCons_len aNil_len)))))
    (ss_cons (s_set (i := 6) sc__law_wide_good.nd (e_call (ok__law_draw T) hr (by decide) tk (a_cons (e_var 0) (a_cons e_int a_nil)) (aCons_len (aCons_len aNil_len))))
    (ss_cons (s_set (i := 7) sc__law_wide_good.nd (e_lst a_nil))
    (ss_cons (s_for hp (i_range1 T.z_range e_int) (g_name 3 sc__law_wide_good.nd) (ss_one (s_expr (e_append (e_var 7) (a_cons (e_callTy d_tuple T.z_tuple (by decide +kernel) (a_cons (e_callB (d_sorted hr.units) T.z_sorted (by decide +kernel) (a_cons (e_lst (a_cons (e_ix (e_var 4) (e_bin d_mod (e_callTy d_int T.z_int (by decide +kernel) (a_cons (e_bin d_add (e_var 6) (e_bin d_mul (e_var 3) (e_var 5))) a_nil)) e_int)) (a_cons (e_ix (e_var 4) (e_bin d_mod (e_callTy d_int T.z_int (by decide +kernel) (a_cons (e_bin d_add (e_bin d_add (e_var 6) (e_bin d_mul (e_var 3) e_int)) (e_bin d_div (e_var 3) e_int)) a_nil)) e_int)) a_nil))) a_nil)) a_nil)) a_nil)))))
    (ss_cons (s_set (i := 8) sc__law_wide_good.nd (e_callB (d_sorted hr.units) T.z_sorted (by decide +kernel) (a_cons (e_var 7) a_nil)))
    (ss_cons (s_setLc (i := 7) (own := [("k", 3)]) sc__law_wide_good.nd (i_range1 T.z_range e_int) (blkOk_by (N := ["feed", "names", "fields", "k", "sayings", "step", "first", "rules", "distinct", "form", "full", "late", "lows", "saying", "low", "field"]) (sc := defScope s__law_wide_good) (by decide +kernel)) (by decide) (fun _ _ _ _ _ => (p_name 3 sc__law_wide_good.nd)) (fun _ _ _ _ _ => (ts_one (PW.pt (w_or (t_cmp (d_eq hr.units) (e_var 3) e_int) (w_or1 (t_cmp (d_ne hr.units) (e_ix (e_var 8) (e_var 3)) (e_ix (e_var 8) (e_bin d_sub (e_var 3) e_int)))))))) (fun _ _ _ _ _ => (e_ix (e_var 8) (e_var 3))) (sw_true rfl rfl rfl (by decide +kernel)))
    (ss_cons (s_set (i := 9) sc__law_wide_good.nd (e_tup (a_cons (e_callTy d_tuple T.z_tuple (by decide +kernel) (a_cons (e_var 2) a_nil)) (a_cons (e_callTy d_tuple T.z_tuple (by decide +kernel) (a_cons (e_var 7) a_nil)) a_nil))))
    (ss_cons (s_set (i := 10) sc__law_wide_good.nd (e_call (ok__law_half T) hr (by decide) tk (a_cons (e_var 0) (a_cons (e_var 2) (a_cons e_int a_nil))) (aCons_len (aCons_len (aCons_len aNil_len)))))
    (ss_cons (s_if (PW.pt (w_or (t_not (t_tru (e_call (ok__law_asked T) hr (by decide) tk (a_cons (e_var 9) (a_cons (e_var 10) a_nil)) (aCons_len (aCons_len aNil_len))))) (w_or1 (t_not (t_tru (e_call (ok__law_asked T) hr (by decide) tk (a_cons (e_var 9) (a_cons (e_call (ok__law_half T) hr (by decide) tk (a_cons (e_var 0) (a_cons (e_var 2) (a_cons e_int a_nil))) (aCons_len (aCons_len (aCons_len aNil_len)))) a_nil)) (aCons_len (aCons_len aNil_len)))))))) (ss_one (s_ret e_bl)) ss_nil)
    (ss_cons (s_set (i := 11) sc__law_wide_good.nd (e_ix (e_var 7) (e_bin d_sub (e_callB d_len T.z_len (by decide +kernel) (a_cons (e_var 7) a_nil)) e_int)))
    (ss_cons (s_setLc (i := 12) (own := [("field", 15)]) sc__law_wide_good.nd (i_seq (e_var 2)) (blkOk_by (N := ["feed", "names", "fields", "k", "sayings", "step", "first", "rules", "distinct", "form", "full", "late", "lows", "saying", "low", "field"]) (sc := defScope s__law_wide_good) (by decide +kernel)) (by decide) (fun _ _ _ _ _ => (p_name 15 sc__law_wide_good.nd)) (fun _ _ _ _ _ => ts_nil) (fun _ _ _ _ _ => (e_ix (e_var 15) e_int)) (sw_true rfl rfl rfl (by decide +kernel)))
    (ss_cons (s_for hp (i_seq (e_var 11)) (g_name 13 sc__law_wide_good.nd) (ss_one (s_asg (e_ix (e_lst (a_cons (e_bin d_add (e_ix (e_var 13) e_int) e_int) (a_cons (e_bin d_sub (e_ix (e_var 13) e_int) e_int) a_nil))) (e_callTy d_int T.z_int (by decide +kernel) (a_cons (e_cmp (d_eq hr.units) (e_ix (e_var 13) e_int) e_int) a_nil))) (g_sub (e_var 12) (e_ix (e_var 13) e_int)))))
    (ss_one (s_ret (e_call (ok__law_asked T) hr (by decide) tk (a_cons (e_var 9) (a_cons (e_callTy d_tuple T.z_tuple (by decide +kernel) (a_cons (e_var 12) a_nil)) a_nil)) (aCons_len (aCons_len aNil_len))))))))))))))))))))))
theorem sc_law : FnScope ["script", "feed", "fields", "form", "turn", "blank", "field"] ["script"] (defScope s_law) := ⟨rfl, rfl, rfl, by decide +kernel, rfl, by decide +kernel, by decide +kernel⟩
theorem ok_law (T : Top K mg) {f : Addr} {fd : FuncData} (F : Fun K "law" "law" s_law f fd) : FnOk P w K mg base (L2.CX P w) 8 f fd ["script"] (spD K mg 1 m_law) := by
  unfold m_law b_law
  exact d_fn (N := ["script", "feed", "fields", "form", "turn", "blank", "field"]) (ps := ["script"]) F sc_law rfl rfl (fun f cdv A outer s H E hr tk hp =>
    (ss_cons (s_set (i := 1) sc_law.nd (e_call (ok__law_feed T) hr (by decide) tk (a_cons (e_var 0) a_nil) (aCons_len aNil_len)))
    (ss_cons (s_set (i := 2) sc_law.nd (e_call (ok__law_fields T) hr (by decide) tk (a_cons (e_var 1) (a_cons e_int (a_cons e_int a_nil))) (aCons_len (aCons_len (aCons_len aNil_len)))))
    (ss_cons (s_set (i := 3) sc_law.nd (e_tup (a_cons (e_var 2) (a_cons (e_call (ok__law_rules T) hr (by decide) tk (a_cons (e_var 1) (a_cons (e_call (ok__law_sayings T) hr (by decide) tk (a_cons (e_var 2) a_nil) (aCons_len aNil_len)) (a_cons e_int a_nil))) (aCons_len (aCons_len (aCons_len aNil_len)))) a_nil))))
    (ss_cons (s_for hp (i_range1 T.z_range e_int) (g_name 4 sc_law.nd) (ss_one (s_if (t_not (t_tru (e_call (ok__law_asked T) hr (by decide) tk (a_cons (e_var 3) (a_cons (e_call (ok__law_half T) hr (by decide) tk (a_cons (e_var 1) (a_cons (e_var 2) (a_cons (e_ix (e_lst (a_cons e_int (a_cons e_int (a_cons e_int a_nil)))) (e_bin d_mod (e_var 4) e_int)) a_nil))) (aCons_len (aCons_len (aCons_len aNil_len)))) a_nil)) (aCons_len (aCons_len aNil_len))))) (ss_one (s_ret e_bl)) ss_nil)))
    (ss_cons (s_set (i := 5) sc_law.nd (e_tupL T.z_tuple (l_comp (own := [("field", 6)]) sc_law.nd (i_seq (e_var 2)) (blkOk_by (N := ["script", "feed", "fields", "form", "turn", "blank", "field"]) (sc := defScope s_law) (by decide +kernel)) (by decide) (fun _ _ _ _ _ => (p_name 6 sc_law.nd)) (fun _ _ _ _ _ => ts_nil) (fun _ _ _ _ _ => e_non))))
    (ss_cons (s_if (PW.pt (w_or (t_not (t_tru (e_call (ok__law_asked T) hr (by decide) tk (a_cons (e_var 3) (a_cons (e_var 5) a_nil)) (aCons_len (aCons_len aNil_len))))) (w_or (t_not (t_tru (e_call (ok__law_asked T) hr (by decide) tk (a_cons (e_tup (a_cons (e_var 2) (a_cons (e_tup a_nil) a_nil))) (a_cons (e_call (ok__law_half T) hr (by decide) tk (a_cons (e_var 1) (a_cons (e_var 2) (a_cons e_int a_nil))) (aCons_len (aCons_len (aCons_len aNil_len)))) a_nil)) (aCons_len (aCons_len aNil_len))))) (w_or1 (t_not (t_tru (e_call (ok__law_made_good T) hr (by decide) tk (a_cons (e_var 1) a_nil) (aCons_len aNil_len)))))))) (ss_one (s_ret e_bl)) ss_nil)
    (ss_one (s_ret (e_or (e_cmp d_gt (e_call (ok__law_draw T) hr (by decide) tk (a_cons (e_var 1) (a_cons e_int a_nil)) (aCons_len (aCons_len aNil_len))) e_int) (e_one (e_call (ok__law_wide_good T) hr (by decide) tk (a_cons (e_var 1) a_nil) (aCons_len aNil_len)))))))))))))
end
end LW

namespace LW
open PySem PySem.Spec PyProof.Rows L2 DL
theorem all_mk {K : PySem.W.Frag} {h : Heap} {mg : Str → Option Value} {fa f : Addr} {od an : Option Addr} {sl : Array (Option Value)} {oc kV dc pm cd ct : Value} {P : Program} {w : World} (T : Top K mg) (X : K.In h) (G : h.Ns mainGlobals mg) (hfa : mg "law" = some (.ref fa))
    (a : PySem.W.nsIn K mainGlobals "law" = some (some (.ref f))) (l : K.lookup f = some ⟨oc, od, .func (PySem.W.fnOf "law" "law" (defArgs s_law) (defBody s_law) (defScope s_law) .none kV dc pm an cd ct), sl⟩) (c : PySem.W.codeIn K cd "law" = true) (k : PySem.W.keepIn K (.ref f) = true) :
    ∃ fd : FuncData, (∀ (s : Shared) (v : Value), BindsTo s fd ⟨[v], []⟩ [("script", v)]) ∧ ∀ base : Heap, K.In base → base.Ns mainGlobals mg → FnOk P w K mg base (L2.CX P w) 8 fa fd ["script"] (spLaw K m_law) := by
  have e := hfa.symm.trans (PySem.W.mg_of X G a)
  cases e
  exact ⟨_, fun s v => .of_eq rfl, fun base _ _ => law_imp (ok_law T (fun_mk l c k))⟩
end LW
open PySem PySem.W PyProof.Rows
set_option maxHeartbeats 0 in
theorem PySem.Challenge.cw_halffilled_k21_broken_rules_holds : PySem.Challenge.rw_halffilled_k21_broken_rules.Holds := by
  w_on; o_law; k_head; (case hw => w_witness2)
  k_fill
  refine L2.walk_ofB (l := PySem.Challenge.rw_halffilled_k21_broken_rules) (n := 63) (k := 8) (x := "script") (CX := fun w => L2.CX (PySem.Challenge.rw_halffilled_k21_broken_rules).prog w) (sp := fun w => DL.spLaw _ LW.m_law) rfl (by decide) rfl ⟨rfl, by decide, by decide⟩ (fun w h Y => PySem.W.kIn_of Y) ?F (fun w H a ns hl hb ho hS => ⟨a, ns, rfl, DL.only_sq ho hS, Nat.le_trans hl (by decide), LW.law_true ns hl hb, fun _ => rfl⟩) (fun _ _ _ _ _ h => DL.cx_end h)
  case F =>
    intro w mg fa h KX G hmg
    refine' LW.all_mk ?T KX G hmg ?a ?l ?c ?k; (case a => k_is); (case l => k_is); (case c => k_is); (case k => k_is)
    case T =>
      constructor
      · refine' DL.top_f KX G (st := LW.s_holds_at) ?a ?l ?c ?k; (case a => k_is); (case l => k_is); (case c => k_is); (case k => k_is)
      · refine' DL.top_f KX G (st := LW.s__law_feed) ?a ?l ?c ?k; (case a => k_is); (case l => k_is); (case c => k_is); (case k => k_is)
      · refine' DL.top_f KX G (st := LW.s__law_draw) ?a ?l ?c ?k; (case a => k_is); (case l => k_is); (case c => k_is); (case k => k_is)
      · refine' DL.top_f KX G (st := LW.s__law_whole) ?a ?l ?c ?k; (case a => k_is); (case l => k_is); (case c => k_is); (case k => k_is)
      · refine' DL.top_f KX G (st := LW.s__law_sayings) ?a ?l ?c ?k; (case a => k_is); (case l => k_is); (case c => k_is); (case k => k_is)
      · refine' DL.top_f KX G (st := LW.s__law_holds) ?a ?l ?c ?k; (case a => k_is); (case l => k_is); (case c => k_is); (case k => k_is)
      · refine' DL.top_f KX G (st := LW.s_holds_in) ?a ?l ?c ?k; (case a => k_is); (case l => k_is); (case c => k_is); (case k => k_is)
      · refine' DL.top_f KX G (st := LW.s__law_same) ?a ?l ?c ?k; (case a => k_is); (case l => k_is); (case c => k_is); (case k => k_is)
      · refine' DL.top_f KX G (st := LW.s__law_names) ?a ?l ?c ?k; (case a => k_is); (case l => k_is); (case c => k_is); (case k => k_is)
      · refine' DL.top_f KX G (st := LW.s__law_rules) ?a ?l ?c ?k; (case a => k_is); (case l => k_is); (case c => k_is); (case k => k_is)
      · refine' DL.top_f KX G (st := LW.s__law_half) ?a ?l ?c ?k; (case a => k_is); (case l => k_is); (case c => k_is); (case k => k_is)
      · refine' DL.top_f KX G (st := LW.s__law_due) ?a ?l ?c ?k; (case a => k_is); (case l => k_is); (case c => k_is); (case k => k_is)
      · refine' DL.top_f KX G (st := LW.s_breaks_rule) ?a ?l ?c ?k; (case a => k_is); (case l => k_is); (case c => k_is); (case k => k_is)
      · refine' DL.top_f KX G (st := LW.s__law_fields) ?a ?l ?c ?k; (case a => k_is); (case l => k_is); (case c => k_is); (case k => k_is)
      · refine' DL.top_f KX G (st := LW.s_broken_rules) ?a ?l ?c ?k; (case a => k_is); (case l => k_is); (case c => k_is); (case k => k_is)
      · refine' DL.top_f KX G (st := LW.s_breaks_some) ?a ?l ?c ?k; (case a => k_is); (case l => k_is); (case c => k_is); (case k => k_is)
      · refine' DL.top_f KX G (st := LW.s_is_good) ?a ?l ?c ?k; (case a => k_is); (case l => k_is); (case c => k_is); (case k => k_is)
      · refine' DL.top_f KX G (st := LW.s__law_asked) ?a ?l ?c ?k; (case a => k_is); (case l => k_is); (case c => k_is); (case k => k_is)
      · refine' DL.top_f KX G (st := LW.s__law_made_good) ?a ?l ?c ?k; (case a => k_is); (case l => k_is); (case c => k_is); (case k => k_is)
      · refine' DL.top_f KX G (st := LW.s__law_wide_good) ?a ?l ?c ?k; (case a => k_is); (case l => k_is); (case c => k_is); (case k => k_is)
      · refine' DL.top_f KX G (st := LW.s_law) ?a ?l ?c ?k; (case a => k_is); (case l => k_is); (case c => k_is); (case k => k_is)
      · refine' PySem.W.mg_none_of KX G ?z; (case z => k_is)
      · refine' PySem.W.mg_none_of KX G ?z; (case z => k_is)
      · refine' PySem.W.mg_none_of KX G ?z; (case z => k_is)
      · refine' PySem.W.mg_none_of KX G ?z; (case z => k_is)
      · refine' PySem.W.mg_none_of KX G ?z; (case z => k_is)
      · refine' PySem.W.mg_none_of KX G ?z; (case z => k_is)
      · refine' PySem.W.mg_none_of KX G ?z; (case z => k_is)
      · refine' PySem.W.mg_none_of KX G ?z; (case z => k_is)
      · refine' PySem.W.mg_none_of KX G ?z; (case z => k_is)
      · refine' PySem.W.mg_none_of KX G ?z; (case z => k_is)
      · refine' PySem.W.mg_none_of KX G ?z; (case z => k_is)

