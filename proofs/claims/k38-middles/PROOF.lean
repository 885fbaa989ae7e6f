import PyProof.Rows.All
import Wide.All
import OpenK.AllK
import Wide.FinOn
import HandS.ForMost
import HandS.Exc
import HandS.ExcOwn
import HandS.ExcSuper
import HandS.Wide
import HandS.EndBits
import HandS.Walk
import HandS.IsInst
import HandS.TryOnly
import HandS.Flow
import HandS.WordsExc
import KE.KDictKeyed
import KE.SortData
import HandS.TupAny
import HandS.TupLe
import HandS.Deep
import HandS.Zip
import HandS.Conv
import KE.GoesMore
import PyProof.EnumMake
import HandS.RaiseMore
import KE.GoesNew
import KE.GoesEnum
import HandS.Style
import KE.KDictZip
import PyProof.TupleOfSeq
import PyProof.ListStr
import PySem.Challenge.RW_halffilled_k38_middles
set_option Elab.async false
set_option linter.all false
set_option maxRecDepth 100000
set_option maxHeartbeats 4000000
/-! DL: data values, a store of lists, combinators, and what they say of the text's code. -/
namespace DL
open PySem PySem.Spec PyProof.Rows L2

/-! ### values, cells, results -/
inductive D where
  | non | bl (b : Bool) | int (i : Int) | str (x : Str) | tup (xs : List D) | rol (xs : List D) | loc (l : Nat)
inductive Cell where
  | lst (xs : List D) | dct (kvs : List (D × D))
mutual
/-- a key of a dict -/
def nkO : D → Option NestedKey
  | .non => some .none
  | .bl b => some (.num (if b = true then 1 else 0))
  | .int i => some (.num i)
  | .str x => some (.text x)
  | .tup xs => (nkL xs).map .tup
  | .rol _ => none
  | .loc _ => none
def nkL : List D → Option (List NestedKey)
  | [] => some []
  | x :: xs => match nkO x, nkL xs with
    | some a, some as => some (a :: as)
    | _, _ => none
end
abbrev Store := List Cell
structure Exn where
  cls : Str
  fs : List (Str × D)
inductive Res (α : Type) where
  | ok (a : α) (S : Store) | ex (e : Exn) (S : Store) | no
def Res.bind {α β : Type} (r : Res α) (k : α → Store → Res β) : Res β := match r with
  | .ok a S => k a S
  | .ex e S => .ex e S
  | .no => .no
@[simp] theorem Res.bind_ok {α β : Type} (a : α) (S : Store) (k : α → Store → Res β) : (Res.ok a S).bind k = k a S := rfl
@[simp] theorem Res.bind_ex {α β : Type} (e : Exn) (S : Store) (k : α → Store → Res β) : (Res.ex e S : Res α).bind k = .ex e S := rfl
@[simp] theorem Res.bind_no {α β : Type} (k : α → Store → Res β) : (Res.no : Res α).bind k = .no := rfl
abbrev Sg := List (Option D)
abbrev DE := Sg → Store → Res D
abbrev DT := Sg → Store → Res Bool
abbrev DA := Sg → Store → Res (List D)
inductive SR where
  | nx (σ : Sg) (S : Store) | rt (d : D) (S : Store) | bk (σ : Sg) (S : Store) | ct (σ : Sg) (S : Store) | ex (e : Exn) (σ : Sg) (S : Store) | no
abbrev DS := Sg → Store → SR
abbrev K1 := D → Store → Res D
abbrev K2 := D → D → Store → Res D
abbrev KA := List D → Store → Res D

/-! ### what they stand for -/
/-- the text's own things, and the world (for the hashes of dicts) -/
structure KW where
  f : PySem.W.Frag
  w : World
instance : CoeOut KW PySem.W.Frag := ⟨KW.f⟩
@[reducible] def _root_.L2.Cx.kw (X : L2.Cx) : KW := ⟨X.K, X.w⟩
/-- what never changes -/
def imm : HO → Prop
  | .tup _ => True
  | .frz _ _ => True
  | _ => False
/-- a list that stays: locked, or one of the text's own -/
def SqI (K : PySem.W.Frag) (H : Hp) (a : Addr) (xs : List V) : Prop :=
  (∃ o, H a = some (.frz o (.lst xs))) ∨
    ∃ (o : Obj) (its : Array Value) (n : Nat), K.lookup a = some o ∧ o.cls = .type "list" ∧ o.dict = none ∧ o.data = .seq its n ∧ its.size ≤ sizeLine ∧ Vals xs its.toList
theorem SqI.sq {K : PySem.W.Frag} {H : Hp} {a : Addr} {xs : List V} (h : SqI K H a xs) : SqL K H a xs := by
  rcases h with ⟨o, h⟩ | h
  · exact .inl (.inr ⟨o, h⟩)
  · exact .inr h
mutual
inductive R (K : KW) (μ : List Addr) (H : Hp) : D → V → Prop
  | non : R K μ H .non .non
  | bl (b : Bool) : R K μ H (.bl b) (.bl b)
  | int (i : Int) : R K μ H (.int i) (.int i)
  | str (x : Str) : R K μ H (.str x) (.str x)
  | tup {a : Addr} {vs : List V} {xs : List D} : SqT K H a vs → vs.length ≤ sizeLine → RL K μ H xs vs → R K μ H (.tup xs) (.ref a)
  | rol {a : Addr} {vs : List V} {xs : List D} : SqI K H a vs → vs.length ≤ sizeLine → RL K μ H xs vs → R K μ H (.rol xs) (.ref a)
  | loc {l : Nat} {a : Addr} : μ[l]? = some a → R K μ H (.loc l) (.ref a)
inductive RL (K : KW) (μ : List Addr) (H : Hp) : List D → List V → Prop
  | nil : RL K μ H [] []
  | cons {x : D} {v : V} {xs : List D} {vs : List V} : R K μ H x v → RL K μ H xs vs → RL K μ H (x :: xs) (v :: vs)
end
def entW (w : World) (x : NestedKey × Addr × Value) : DictEntry := ⟨x.1.hash w, .ref x.2.1, x.2.2⟩
/-- a dict whose keys are tuples -/
def dctO (w : World) (a : Addr) (xs : List (NestedKey × Addr × Value)) : HO := .ext fun h => ∃ o es ep, h.get? a = some o ∧ o.ExactDict ∧ o.data = .dict es ep ∧ es.toList = xs.map (entW w)
inductive KR (K : KW) (μ : List Addr) (H : Hp) : List (D × D) → List (NestedKey × Addr × Value) → Prop
  | nil : KR K μ H [] []
  | cons {ds : List D} {nk : NestedKey} {b : Addr} {d : D} {v : V} {u : Value} {kvs : List (D × D)} {xs : List (NestedKey × Addr × Value)} : nkO (.tup ds) = some nk → nk.depth ≤ 8 → R K μ H (.tup ds) (.ref b) → R K μ H d v → RelV v u →
      KR K μ H kvs xs → KR K μ H ((.tup ds, d) :: kvs) ((nk, b, u) :: xs)
def CellR (K : KW) (μ : List Addr) (H : Hp) (a : Addr) : Cell → Prop
  | .dct kvs => ∃ xs, H a = some (dctO K.w a xs) ∧ (a == sysModules) = false ∧ xs.length ≤ sizeLine ∧ (xs.map (·.1)).Nodup ∧ KR K μ H kvs xs
  | .lst xs => ∃ vs, H a = some (.lst vs) ∧ vs.length ≤ sizeLine ∧ RL K μ H xs vs
structure Ok (K : KW) (μ : List Addr) (H : Hp) (S : Store) : Prop where
  len : μ.length = S.length
  nd : μ.Nodup
  cell : ∀ (l : Nat) (a : Addr) (c : Cell), μ[l]? = some a → S[l]? = some c → CellR K μ H a c
structure Ext (μ : List Addr) (H : Hp) (μ' : List Addr) (H' : Hp) : Prop where
  pre : ∃ ν, μ' = μ ++ ν
  keep : ∀ b o, H b = some o → (b ∈ μ → imm o) → H' b = some o
  new : ∀ a, a ∈ μ' → a ∉ μ → H a = none

section
variable {K : KW} {μ μ1 μ2 : List Addr} {H H1 H2 : Hp}
theorem Ext.refl (μ : List Addr) (H : Hp) : Ext μ H μ H := ⟨⟨[], by simp⟩, fun _ _ e _ => e, fun a h h' => absurd h h'⟩
theorem Ext.trans (a : Ext μ H μ1 H1) (b : Ext μ1 H1 μ2 H2) : Ext μ H μ2 H2 := by
  obtain ⟨ν, e⟩ := a.pre
  obtain ⟨ν', e'⟩ := b.pre
  refine ⟨⟨ν ++ ν', by rw [e', e, List.append_assoc]⟩, fun c o h hc => b.keep c o (a.keep c o h hc) fun hm => ?_, fun c h1 h2 => ?_⟩
  · by_cases hμ : c ∈ μ
    · exact hc hμ
    · rw [a.new c hm hμ] at h; cases h
  · by_cases h3 : c ∈ μ1
    · exact a.new c h3 h2
    · have z := b.new c h1 h3
      cases q : H c with
      | none => rfl
      | some o => rw [a.keep c o q fun hm => absurd hm h2] at z; cases z
theorem Ext.tup (a : Ext μ H μ1 H1) {b : Addr} {vs : List V} (h : H b = some (.tup vs)) : H1 b = some (.tup vs) := a.keep _ _ h fun _ => trivial
theorem Ext.frz (a : Ext μ H μ1 H1) {b : Addr} {o : Obj} {u : HO} (h : H b = some (.frz o u)) : H1 b = some (.frz o u) := a.keep _ _ h fun _ => trivial
/-- what never changes is kept -/
structure Sub (μ : List Addr) (H : Hp) (μ' : List Addr) (H' : Hp) : Prop where
  pre : ∃ ν, μ' = μ ++ ν
  imm : ∀ b o, H b = some o → imm o → H' b = some o
theorem Ext.sub (a : Ext μ H μ1 H1) : Sub μ H μ1 H1 := ⟨a.pre, fun b o h i => a.keep b o h fun _ => i⟩
theorem Sub.sqT (x : Sub μ H μ1 H1) {a : Addr} {vs : List V} (h : SqT K H a vs) : SqT K H1 a vs := by
  rcases h with (h | ⟨o, h⟩) | h
  · exact .inl (.inl (x.imm _ _ h trivial))
  · exact .inl (.inr ⟨o, x.imm _ _ h trivial⟩)
  · exact .inr h
theorem Ext.sqT (x : Ext μ H μ1 H1) {a : Addr} {vs : List V} (h : SqT K H a vs) : SqT K H1 a vs := x.sub.sqT h
theorem Sub.at (x : Sub μ H μ1 H1) {l : Nat} {a : Addr} (h : μ[l]? = some a) : μ1[l]? = some a := by
  obtain ⟨ν, e⟩ := x.pre
  rw [e, List.getElem?_append_left (List.getElem?_eq_some_iff.mp h).1]
  exact h
theorem Ext.at (x : Ext μ H μ1 H1) {l : Nat} {a : Addr} (h : μ[l]? = some a) : μ1[l]? = some a := x.sub.at h
theorem Sub.sqI (x : Sub μ H μ1 H1) {a : Addr} {vs : List V} (h : SqI K H a vs) : SqI K H1 a vs := by
  rcases h with ⟨o, h⟩ | h
  · exact .inl ⟨o, x.imm _ _ h trivial⟩
  · exact .inr h
theorem Ext.sqI (x : Ext μ H μ1 H1) {a : Addr} {vs : List V} (h : SqI K H a vs) : SqI K H1 a vs := x.sub.sqI h
mutual
theorem R.subM (x : Sub μ H μ1 H1) : ∀ {d : D} {v : V}, R K μ H d v → R K μ1 H1 d v
  | _, _, .non => .non
  | _, _, .bl b => .bl b
  | _, _, .int i => .int i
  | _, _, .str z => .str z
  | _, _, .tup h l r => .tup (x.sqT h) l (RL.subM x r)
  | _, _, .rol h l r => .rol (x.sqI h) l (RL.subM x r)
  | _, _, .loc h => .loc (x.at h)
theorem RL.subM (x : Sub μ H μ1 H1) : ∀ {ds : List D} {vs : List V}, RL K μ H ds vs → RL K μ1 H1 ds vs
  | _, _, .nil => .nil
  | _, _, .cons r t => .cons (R.subM x r) (RL.subM x t)
end
theorem R.mono (x : Ext μ H μ1 H1) {d : D} {v : V} (r : R K μ H d v) : R K μ1 H1 d v := r.subM x.sub
theorem RL.mono (x : Ext μ H μ1 H1) {ds : List D} {vs : List V} (r : RL K μ H ds vs) : RL K μ1 H1 ds vs := r.subM x.sub
theorem RL.length : ∀ {ds : List D} {vs : List V}, RL K μ H ds vs → ds.length = vs.length
  | _, _, .nil => rfl
  | _, _, .cons _ t => by rw [List.length_cons, List.length_cons, RL.length t]
theorem RL.get : ∀ {ds : List D} {vs : List V} {i : Nat} {d : D}, RL K μ H ds vs → ds[i]? = some d → ∃ v, vs[i]? = some v ∧ R K μ H d v
  | _, _, _, _, .nil, e => by simp at e
  | _, _, 0, _, .cons r _, e => by simp at e; subst e; exact ⟨_, rfl, r⟩
  | _, _, i + 1, _, .cons _ t, e => by
    obtain ⟨v, h1, h2⟩ := RL.get (i := i) t (by simpa using e)
    exact ⟨v, by simpa using h1, h2⟩
theorem RL.getV : ∀ {ds : List D} {vs : List V} {i : Nat} {v : V}, RL K μ H ds vs → vs[i]? = some v → ∃ d, ds[i]? = some d ∧ R K μ H d v
  | _, _, _, _, .nil, e => by simp at e
  | _, _, 0, _, .cons r _, e => by simp at e; subst e; exact ⟨_, rfl, r⟩
  | _, _, i + 1, _, .cons _ t, e => by
    obtain ⟨v, h1, h2⟩ := RL.getV (i := i) t (by simpa using e)
    exact ⟨v, by simpa using h1, h2⟩
theorem RL.set {d : D} {v : V} (r : R K μ H d v) : ∀ {ds : List D} {vs : List V} (i : Nat), RL K μ H ds vs → RL K μ H (ds.set i d) (vs.set i v)
  | _, _, _, .nil => .nil
  | _, _, 0, .cons _ t => .cons r t
  | _, _, i + 1, .cons q t => .cons q (RL.set r i t)
theorem RL.append : ∀ {ds es : List D} {vs ws : List V}, RL K μ H ds vs → RL K μ H es ws → RL K μ H (ds ++ es) (vs ++ ws)
  | _, _, _, _, .nil, s => s
  | _, _, _, _, .cons r t, s => .cons r (RL.append t s)
theorem RL.take : ∀ {ds : List D} {vs : List V} (n : Nat), RL K μ H ds vs → RL K μ H (ds.take n) (vs.take n)
  | _, _, 0, _ => .nil
  | _, _, _ + 1, .nil => .nil
  | _, _, n + 1, .cons r t => .cons r (RL.take n t)
theorem RL.drop : ∀ {ds : List D} {vs : List V} (n : Nat), RL K μ H ds vs → RL K μ H (ds.drop n) (vs.drop n)
  | _, _, 0, r => r
  | _, _, _ + 1, .nil => .nil
  | _, _, n + 1, .cons _ t => RL.drop n t
theorem RL.eraseIdx : ∀ {ds : List D} {vs : List V} (n : Nat), RL K μ H ds vs → RL K μ H (ds.eraseIdx n) (vs.eraseIdx n)
  | _, _, _, .nil => .nil
  | _, _, 0, .cons _ t => t
  | _, _, n + 1, .cons r t => .cons r (RL.eraseIdx n t)
theorem RL.reverse : ∀ {ds : List D} {vs : List V}, RL K μ H ds vs → RL K μ H ds.reverse vs.reverse
  | _, _, .nil => .nil
  | _, _, .cons r t => by
    rw [List.reverse_cons, List.reverse_cons]
    exact RL.append (RL.reverse t) (.cons r .nil)
theorem RL.dropLast : ∀ {ds : List D} {vs : List V}, RL K μ H ds vs → RL K μ H ds.dropLast vs.dropLast := fun {ds vs} r => by
  rw [List.dropLast_eq_take, List.dropLast_eq_take, r.length]
  exact r.take _
theorem RL.ints : ∀ (ns : List Int), RL K μ H (ns.map D.int) (ns.map V.int)
  | [] => .nil
  | n :: r => .cons (.int n) (RL.ints r)
theorem RL.intsV : ∀ {ns : List Int} {vs : List V}, RL K μ H (ns.map D.int) vs → vs = ns.map V.int
  | [], _, .nil => rfl
  | n :: r, _, .cons h t => by
    cases h
    rw [RL.intsV t]; rfl
theorem KR.subM (x : Sub μ H μ1 H1) : ∀ {kvs : List (D × D)} {xs : List (NestedKey × Addr × Value)}, KR K μ H kvs xs → KR K μ1 H1 kvs xs
  | _, _, .nil => .nil
  | _, _, .cons a b c d e t => .cons a b (c.subM x) (d.subM x) e (KR.subM x t)
theorem CellR.subM (x : Sub μ H μ1 H1) {a : Addr} (hk : ∀ o, H a = some o → H1 a = some o) : ∀ {c : Cell}, CellR K μ H a c → CellR K μ1 H1 a c
  | .lst _, ⟨vs, h, l, r⟩ => ⟨vs, hk _ h, l, r.subM x⟩
  | .dct _, ⟨vs, h, l, z, n, r⟩ => ⟨vs, hk _ h, l, z, n, r.subM x⟩
theorem CellR.mono (x : Ext μ H μ1 H1) {a : Addr} (hk : ∀ o, H a = some o → H1 a = some o) {c : Cell} (h : CellR K μ H a c) : CellR K μ1 H1 a c := h.subM x.sub hk
end

/-! ### the store's steps -/
section
variable {K : KW} {μ : List Addr} {H : Hp} {S : Store}
theorem Ok.at (ok : Ok K μ H S) {l : Nat} {c : Cell} (h : S[l]? = some c) : ∃ a, μ[l]? = some a ∧ CellR K μ H a c := by
  have hl : l < μ.length := by rw [ok.len]; exact (List.getElem?_eq_some_iff.mp h).1
  exact ⟨μ[l], by simp [hl], ok.cell l _ c (by simp [hl]) h⟩
theorem Ok.lst (ok : Ok K μ H S) {a : Addr} (h : a ∈ μ) : ∃ o, H a = some o ∧ ((∃ vs, o = .lst vs) ∨ ∃ φ, o = .ext φ) := by
  obtain ⟨l, hl, e⟩ := List.getElem_of_mem h
  have hs : l < S.length := by rw [← ok.len]; exact hl
  have z := ok.cell l a S[l] (by simp [hl, e]) (by simp [hs])
  cases q : S[l] with
  | lst xs =>
    rw [q] at z
    obtain ⟨vs, h, _⟩ := z
    exact ⟨_, h, .inl ⟨vs, rfl⟩⟩
  | dct xs =>
    rw [q] at z
    obtain ⟨vs, h, _⟩ := z
    exact ⟨_, h, .inr ⟨_, rfl⟩⟩
theorem ext_new {p : Addr} {o : HO} (h : H p = none) : Ext μ H μ (upd H p o) := ⟨⟨[], by simp⟩, fun b o' e _ => by rw [upd_ne (ne_of_none e h)]; exact e, fun a h1 h2 => absurd h1 h2⟩
/-- something that the store does not tell of -/
theorem Ok.ext (ok : Ok K μ H S) {H' : Hp} (x : Ext μ H μ H') (hk : ∀ a ∈ μ, ∀ o, H a = some o → H' a = some o) : Ok K μ H' S :=
  ⟨ok.len, ok.nd, fun l a c h1 h2 => (ok.cell l a c h1 h2).mono x fun o e => hk a (List.mem_of_getElem? h1) o e⟩
theorem Ok.laid (ok : Ok K μ H S) {p : Addr} {o : HO} (h : H p = none) : Ok K μ (upd H p o) S :=
  ok.ext (ext_new h) fun a _ o' e => by rw [upd_ne (ne_of_none e h)]; exact e
theorem Ok.notin (ok : Ok K μ H S) {p : Addr} (h : H p = none) : p ∉ μ := fun hm => by
  obtain ⟨vs, e, _⟩ := ok.lst hm
  rw [h] at e; cases e
/-- a list is laid -/
theorem ext_add {p : Addr} {o : HO} (h : H p = none) : Ext μ H (μ ++ [p]) (upd H p o) := ⟨⟨[p], rfl⟩, fun b o' e _ => by rw [upd_ne (ne_of_none e h)]; exact e, fun a h1 h2 => by
  rcases List.mem_append.mp h1 with z | z
  · exact absurd z h2
  · rw [List.mem_singleton.mp z]; exact h⟩
theorem Ok.add (ok : Ok K μ H S) {p : Addr} {vs : List V} {xs : List D} (h : H p = none) (l : vs.length ≤ sizeLine) (r : RL K μ H xs vs) : Ok K (μ ++ [p]) (upd H p (.lst vs)) (S ++ [.lst xs]) := by
  have x : Ext μ H (μ ++ [p]) (upd H p (.lst vs)) := ext_add h
  refine ⟨by rw [List.length_append, List.length_append, ok.len]; rfl, ?_, fun i a c h1 h2 => ?_⟩
  · rw [List.nodup_append]
    refine ⟨ok.nd, by simp, fun a ha b hb e => ?_⟩
    rw [List.mem_singleton.mp hb] at e
    rw [e] at ha
    exact ok.notin h ha
  · by_cases hi : i < μ.length
    · rw [List.getElem?_append_left hi] at h1
      rw [List.getElem?_append_left (by rw [← ok.len]; exact hi)] at h2
      exact (ok.cell i a c h1 h2).mono x fun o e => by rw [upd_ne (ne_of_none e h)]; exact e
    · rw [List.getElem?_append_right (by omega)] at h1
      rw [List.getElem?_append_right (by rw [← ok.len]; omega)] at h2
      have e0 : i - μ.length = 0 := by
        have := (List.getElem?_eq_some_iff.mp h1).1
        simp at this
        omega
      have e1 : i - S.length = 0 := by rw [← ok.len]; exact e0
      rw [e0] at h1
      rw [e1] at h2
      simp at h1 h2
      subst h1 h2
      exact ⟨vs, upd_same, l, r.mono x⟩
/-- a list is changed -/
theorem ext_set {a : Addr} {o : HO} (hm : a ∈ μ) (hi : ∀ o, H a = some o → ¬ imm o) : Ext μ H μ (upd H a o) := ⟨⟨[], by simp⟩, fun b o' e hb => by
  by_cases z : b = a
  · subst z
    exact absurd (hb hm) (hi _ e)
  · rw [upd_ne z]; exact e, fun a h1 h2 => absurd h1 h2⟩
theorem Ok.set (ok : Ok K μ H S) {i : Nat} {a : Addr} {vs : List V} {xs : List D} (h : μ[i]? = some a) (l : vs.length ≤ sizeLine) (r : RL K μ H xs vs) : Ext μ H μ (upd H a (.lst vs)) ∧ Ok K μ (upd H a (.lst vs)) (S.set i (.lst xs)) := by
  have hm := List.mem_of_getElem? h
  obtain ⟨ws, hw, hq⟩ := ok.lst hm
  have x : Ext μ H μ (upd H a (.lst vs)) := ext_set hm fun o e => by
    rw [hw] at e; cases e
    rcases hq with ⟨_, rfl⟩ | ⟨_, rfl⟩ <;> exact fun z => z
  refine ⟨x, ⟨by rw [List.length_set]; exact ok.len, ok.nd, fun j b c h1 h2 => ?_⟩⟩
  by_cases hj : i = j
  · subst hj
    rw [h] at h1; cases h1
    have hi : i < S.length := by rw [← ok.len]; exact (List.getElem?_eq_some_iff.mp h).1
    rw [List.getElem?_set_self hi] at h2
    cases h2
    exact ⟨vs, upd_same, l, r.mono x⟩
  · rw [List.getElem?_set_ne hj] at h2
    have hb : b ≠ a := fun e => hj (by
      subst e
      obtain ⟨l1, e1⟩ := List.getElem?_eq_some_iff.mp h
      obtain ⟨l2, e2⟩ := List.getElem?_eq_some_iff.mp h1
      exact (List.getElem_inj ok.nd).mp (e1.trans e2.symm))
    exact (ok.cell j b c h1 h2).mono x fun o e => by rw [upd_ne hb]; exact e
end

/-! ### what is wanted behind -/
inductive FR (K : KW) (μ : List Addr) (H : Hp) : List (Str × D) → List (Str × V) → Prop
  | nil : FR K μ H [] []
  | cons {n : Str} {x : D} {v : V} {xs : List (Str × D)} {vs : List (Str × V)} : R K μ H x v → FR K μ H xs vs → FR K μ H ((n, x) :: xs) ((n, v) :: vs)
/-- an exception of a class of the text, its fields -/
def ExR (K : KW) (mg : Str → Option Value) (μ : List Addr) (H : Hp) (e : Exn) (cls : Value) (dx : Option Addr) : Prop :=
  ∃ C da vs, mg e.cls = some (.ref C) ∧ cls = .ref C ∧ dx = some da ∧ H da = some (.xd vs) ∧ da ∉ μ ∧ FR K μ H e.fs vs
section
variable {α β γ δ : Type} (K : KW) (mg : Str → Option Value) (W : WX)
def Post (RA : List Addr → Hp → α → β → Prop) (μ : List Addr) (H : Hp) (σV : L2.St) (r : Res α) (Q : β → Hp → Prop) : Prop := match r with
  | .ok a S' => ∀ μ' H' b, Ext μ H μ' H' → Ok K μ' H' S' → RA μ' H' a b → Q b H'
  | .ex e S' => ∀ μ' H' cls dx, Ext μ H μ' H' → Ok K μ' H' S' → ExR K mg μ' H' e cls dx → W cls dx σV H'
  | .no => False
end
section
variable {α β γ δ : Type} {K : KW} {mg : Str → Option Value} {W : WX} {μ μ1 : List Addr} {H H1 : Hp} {σV : L2.St}
  {RA : List Addr → Hp → α → β → Prop} {RC : List Addr → Hp → γ → δ → Prop}
theorem Post.mono (x : Ext μ H μ1 H1) {r : Res α} {Q : β → Hp → Prop} (h : Post K mg W RA μ H σV r Q) : Post K mg W RA μ1 H1 σV r Q := by
  cases r with
  | ok a S => exact fun μ' H' b e => h μ' H' b (x.trans e)
  | ex e S => exact fun μ' H' c d e => h μ' H' c d (x.trans e)
  | no => exact h
theorem Post.bind {r : Res α} {k : α → Store → Res γ} {Q : δ → Hp → Prop} {Q1 : β → Hp → Prop} (h : Post K mg W RC μ H σV (r.bind k) Q)
    (hk : ∀ a S1 μ1 H1 b, Ext μ H μ1 H1 → Ok K μ1 H1 S1 → RA μ1 H1 a b → Post K mg W RC μ1 H1 σV (k a S1) Q → Q1 b H1) : Post K mg W RA μ H σV r Q1 := by
  cases r with
  | ok a S => exact fun μ' H' b x ok ra => hk a S μ' H' b x ok ra (Post.mono x h)
  | ex e S => exact h
  | no => exact h
theorem Post.imp {r : Res α} {Q Q' : β → Hp → Prop} (h : Post K mg W RA μ H σV r Q) (hq : ∀ b H', Q b H' → Q' b H') : Post K mg W RA μ H σV r Q' := by
  cases r with
  | ok a S => exact fun μ' H' b e o ra => hq _ _ (h μ' H' b e o ra)
  | ex e S => exact h
  | no => exact h
end
abbrev RB : List Addr → Hp → Bool → Bool → Prop := fun _ _ a b => a = b
/-- the slots -/
structure EnvR (K : KW) (μ : List Addr) (H : Hp) (σ : Sg) (σV : L2.St) : Prop where
  len : σ.length = σV.length
  get : ∀ (i : Nat) (d : D), σ[i]? = some (some d) → ∃ v, σV[i]? = some (some v) ∧ R K μ H d v
theorem EnvR.mono {K : KW} {μ μ1 : List Addr} {H H1 : Hp} {σ : Sg} {σV : L2.St} (x : Ext μ H μ1 H1) (e : EnvR K μ H σ σV) : EnvR K μ1 H1 σ σV := ⟨e.len, fun i d h => by
  obtain ⟨v, h1, r⟩ := e.get i d h
  exact ⟨v, h1, r.mono x⟩⟩
theorem EnvR.set {K : KW} {μ : List Addr} {H : Hp} {σ : Sg} {σV : L2.St} {d : D} {v : V} (e : EnvR K μ H σ σV) (i : Nat) (r : R K μ H d v) : EnvR K μ H (σ.set i (some d)) (σV.set i (some v)) := by
  refine ⟨by rw [List.length_set, List.length_set]; exact e.len, fun j d' h => ?_⟩
  by_cases hj : i = j
  · subst hj
    have hi : i < σ.length := by
      have := (List.getElem?_eq_some_iff.mp h).1
      rwa [List.length_set] at this
    rw [List.getElem?_set_self hi] at h
    cases h
    exact ⟨v, List.getElem?_set_self (by rw [← e.len]; exact hi), r⟩
  · rw [List.getElem?_set_ne hj] at h ⊢
    exact e.get j d' h
/-! ### the readings -/
section
variable (K : KW) (mg : Str → Option Value) (W : WX)
def tG {α β : Type} (RA : List Addr → Hp → α → β → Prop) (f : Sg → Store → Res α) (σV : L2.St) (H : Hp) (Q : β → Hp → Prop) : Prop :=
  ∃ μ σ S, Ok K μ H S ∧ EnvR K μ H σ σV ∧ Post K mg W RA μ H σV (f σ S) Q
abbrev tE (f : DE) : TE := tG K mg W (R K) f
abbrev tT (f : DT) : TT := tG K mg W RB f
abbrev tA (f : DA) : TA := tG K mg W (RL K) f
/-- behind a statement -/
def SPost (μ : List Addr) (H : Hp) (r : SR) (Dn : Ends) : Prop := match r with
  | .nx σ S => ∀ μ' H' σV', Ext μ H μ' H' → Ok K μ' H' S → EnvR K μ' H' σ σV' → Dn.nx σV' H'
  | .rt d S => ∀ μ' H' v, Ext μ H μ' H' → Ok K μ' H' S → R K μ' H' d v → Dn.rt v H'
  | .bk σ S => ∀ μ' H' σV', Ext μ H μ' H' → Ok K μ' H' S → EnvR K μ' H' σ σV' → Dn.bk σV' H'
  | .ct σ S => ∀ μ' H' σV', Ext μ H μ' H' → Ok K μ' H' S → EnvR K μ' H' σ σV' → Dn.ct σV' H'
  | .ex e σ S => ∀ μ' H' σV' cls dx, Ext μ H μ' H' → Ok K μ' H' S → EnvR K μ' H' σ σV' → ExR K mg μ' H' e cls dx → W cls dx σV' H'
  | .no => False
def tS (f : DS) : TS := fun Dn σV H => ∃ μ σ S, Ok K μ H S ∧ EnvR K μ H σ σV ∧ SPost K mg W μ H (f σ S) Dn
end
theorem SPost.mono {K : KW} {mg : Str → Option Value} {W : WX} {μ μ1 : List Addr} {H H1 : Hp} {r : SR} {Dn : Ends} (x : Ext μ H μ1 H1) (h : SPost K mg W μ H r Dn) : SPost K mg W μ1 H1 r Dn := by
  cases r with
  | nx σ S => exact fun μ' H' s e => h μ' H' s (x.trans e)
  | rt d S => exact fun μ' H' s e => h μ' H' s (x.trans e)
  | bk σ S => exact fun μ' H' s e => h μ' H' s (x.trans e)
  | ct σ S => exact fun μ' H' s e => h μ' H' s (x.trans e)
  | ex e σ S => exact fun μ' H' s c d e => h μ' H' s c d (x.trans e)
  | no => exact h
theorem PE.weak {X : Cx} {e : Expr} {t t' : TE} (h : PE X e t) (w : ∀ σ H Q, t' σ H Q → t σ H Q) : PE X e t' := ⟨fun pins s σ H Q I q => h.run pins s σ H Q I (w σ H Q q)⟩
theorem PT.weak {X : Cx} {e : Expr} {t t' : TT} (h : PT X e t) (w : ∀ σ H Q, t' σ H Q → t σ H Q) : PT X e t' := ⟨fun pins s σ H Q I q => h.run pins s σ H Q I (w σ H Q q)⟩
theorem PA.weak {X : Cx} {e : List Expr} {t t' : TA} (h : PA X e t) (w : ∀ σ H Q, t' σ H Q → t σ H Q) : PA X e t' := ⟨fun pos pins s σ H Q I q => h.run pos pins s σ H Q I (w σ H Q q)⟩
theorem PS.weak {X : Cx} {e : Stmt} {t t' : TS} (h : PS X e t) (w : ∀ D σ H, t' D σ H → t D σ H) : PS X e t' := ⟨fun pins s σ H D I q => h.run pins s σ H D I (w D σ H q)⟩
theorem PSs.weak {X : Cx} {e : List Stmt} {t t' : TS} (h : PSs X e t) (w : ∀ D σ H, t' D σ H → t D σ H) : PSs X e t' := ⟨fun pins s σ H D I q => h.run pins s σ H D I (w D σ H q)⟩
end DL

namespace DL
open PySem PySem.Spec PyProof.Rows L2

/-! ### operations on values -/
abbrev O1 := D → Store → Option (D × Store)
abbrev O2 := D → D → Store → Option (D × Store)
abbrev OA := List D → Store → Option (D × Store)
def Res.of {α : Type} : Option (α × Store) → Res α
  | some (a, S) => .ok a S
  | none => .no
@[simp] theorem Res.of_some {α : Type} (a : α) (S : Store) : Res.of (some (a, S)) = .ok a S := rfl
@[simp] theorem Res.of_none {α : Type} : (Res.of none : Res α) = .no := rfl
def PV {α β : Type} (K : KW) (RA : List Addr → Hp → α → β → Prop) (μ : List Addr) (H : Hp) (r : Option (α × Store)) (Q : β → Hp → Prop) : Prop := match r with
  | some (a, S') => ∀ μ' H' b, Ext μ H μ' H' → Ok K μ' H' S' → RA μ' H' a b → Q b H'
  | none => False
theorem Post.of {α β : Type} {K : KW} {mg : Str → Option Value} {W : WX} {RA : List Addr → Hp → α → β → Prop} {μ : List Addr} {H : Hp} {σV : L2.St} {r : Option (α × Store)} {Q : β → Hp → Prop} (h : Post K mg W RA μ H σV (Res.of r) Q) : PV K RA μ H r Q := by
  cases r with
  | none => exact h
  | some p => exact h
theorem PV.same {α β : Type} {K : KW} {RA : List Addr → Hp → α → β → Prop} {μ : List Addr} {H : Hp} {S : Store} {a : α} {b : β} {Q : β → Hp → Prop} (h : PV K RA μ H (some (a, S)) Q) (ok : Ok K μ H S) (r : RA μ H a b) : Q b H := h μ H b (Ext.refl _ _) ok r
/-- a new tuple -/
theorem PV.tup {K : KW} {μ : List Addr} {H : Hp} {S : Store} {xs : List D} {vs : List V} {Q : V → Hp → Prop} (h : PV K (R K) μ H (some (D.tup xs, S)) Q) (ok : Ok K μ H S) (l : vs.length ≤ sizeLine) (r : RL K μ H xs vs) : ∀ p, H p = none → Q (.ref p) (upd H p (.tup vs)) := fun p hp =>
  h μ _ _ (ext_new hp) (ok.laid hp) (.tup (.inl (.inl upd_same)) l (r.mono (ext_new hp)))
/-- a new list -/
theorem PV.lst {K : KW} {μ : List Addr} {H : Hp} {S : Store} {xs : List D} {vs : List V} {Q : V → Hp → Prop} (h : PV K (R K) μ H (some (D.loc S.length, S ++ [.lst xs])) Q) (ok : Ok K μ H S) (l : vs.length ≤ sizeLine) (r : RL K μ H xs vs) : ∀ p, H p = none → Q (.ref p) (upd H p (.lst vs)) := fun p hp =>
  h _ _ _ (ext_add hp) (ok.add hp l r) (.loc (by rw [← ok.len, List.getElem?_append_right (Nat.le_refl _)]; simp))

def r1 (K : KW) (k : O1) : V → Hp → VK → Prop := fun v H Q => ∃ μ S x, Ok K μ H S ∧ R K μ H x v ∧ PV K (R K) μ H (k x S) Q
def r2 (K : KW) (k : O2) : R2 := fun v u H Q => ∃ μ S x y, Ok K μ H S ∧ R K μ H x v ∧ R K μ H y u ∧ PV K (R K) μ H (k x y S) Q
def rA (K : KW) (k : OA) : List V → Hp → VK → Prop := fun vs H Q => ∃ μ S xs, Ok K μ H S ∧ RL K μ H xs vs ∧ PV K (R K) μ H (k xs S) Q

/-! ### combinators: expressions -/
def cVar (i : Nat) : DE := fun σ S => match σ[i]? with
  | some (some d) => .ok d S
  | _ => .no
def cK (d : D) : DE := fun _ S => .ok d S
def cUn (k : O1) (f : DE) : DE := fun σ S => (f σ S).bind fun x S1 => Res.of (k x S1)
def cBin (k : O2) (f g : DE) : DE := fun σ S => (f σ S).bind fun x S1 => (g σ S1).bind fun y S2 => Res.of (k x y S2)
def aNil : DA := fun _ S => .ok [] S
def aCons (f : DE) (g : DA) : DA := fun σ S => (f σ S).bind fun x S1 => (g σ S1).bind fun xs S2 => .ok (x :: xs) S2
def cArg (k : OA) (a : DA) : DE := fun σ S => (a σ S).bind fun xs S1 => Res.of (k xs S1)
/-- a value that is a bool, as a test -/
def cTest (f : DE) : DT := fun σ S => (f σ S).bind fun x S1 => match x with
  | .bl b => .ok b S1
  | _ => .no
def dTru (x : D) (S : Store) : Option Bool := match x with
  | .non => some false
  | .bl b => some b
  | .int i => some (i != 0)
  | .str y => if y.length ≤ sizeLine then some ((y.length : Int) != 0) else none
  | .tup xs => some (!xs.isEmpty)
  | .rol xs => some (!xs.isEmpty)
  | .loc l => match S[l]? with
    | some (.lst xs) => some (!xs.isEmpty)
    | _ => none
def cTru (f : DE) : DT := fun σ S => (f σ S).bind fun x S1 => Res.of ((dTru x S1).map fun b => (b, S1))
def cAnd (f g : DT) : DT := fun σ S => (f σ S).bind fun b S1 => if b = true then g σ S1 else .ok false S1
def cOr (f g : DT) : DT := fun σ S => (f σ S).bind fun b S1 => if b = true then .ok true S1 else g σ S1
def cNot (f : DT) : DT := fun σ S => (f σ S).bind fun b S1 => .ok (!b) S1
def cIf (t : DT) (f g : DE) : DE := fun σ S => (t σ S).bind fun b S1 => if b = true then f σ S1 else g σ S1
/-- as values, by truth -/
def cAndV (f g : DE) : DE := fun σ S => (f σ S).bind fun x S1 => match dTru x S1 with
  | some true => g σ S1
  | some false => .ok x S1
  | none => .no
def cOrV (f g : DE) : DE := fun σ S => (f σ S).bind fun x S1 => match dTru x S1 with
  | some true => .ok x S1
  | some false => g σ S1
  | none => .no
def cNotV (f : DE) : DE := fun σ S => (f σ S).bind fun x S1 => match dTru x S1 with
  | some b => .ok (.bl (!b)) S1
  | none => .no

section
variable {X : Cx} {W : WX} {pos : Pos} {a b c e : Expr} {es : List Expr} {f g h : DE} {t u : DT} {fa : DA}
variable {K : KW} {mg : Str → Option Value}

/-! ### rules: expressions -/
theorem tE_var {i : Nat} {σ : L2.St} {H : Hp} {Q : VK} (h : tE K mg W (cVar i) σ H Q) : tVar i σ H Q := by
  obtain ⟨μ, σD, S, ok, en, h⟩ := h
  unfold cVar at h
  cases q : σD[i]? with
  | none => rw [q] at h; exact h.elim
  | some o =>
    cases o with
    | none => rw [q] at h; exact h.elim
    | some d =>
      rw [q] at h
      obtain ⟨v, hv, r⟩ := en.get i d q
      exact ⟨v, hv, h μ H v (Ext.refl _ _) ok r⟩
theorem e_var (i : Nat) {x : Str} (hN : X.N[i]? = some x := by rfl) (hv : Vis X.env.scope x := by first | exact Or.inl rfl | exact Or.inr (Or.inl rfl) | exact Or.inr (Or.inr rfl)) (hd : (x == ("__debug__" : Str)) = false := by decide)
    (hcd : (x == ("__classdict__" : Str)) = false := by decide) : PE X (.Name x pos) (tE X.kw X.mg W (cVar i)) := PE.weak (pv i hN hv hd hcd) fun _ _ _ => tE_var
theorem tE_const {d : D} {v : V} (r : ∀ μ H, R K μ H d v) {σ : L2.St} {H : Hp} {Q : VK} (h : tE K mg W (cK d) σ H Q) : tC v σ H Q := by
  obtain ⟨μ, σD, S, ok, en, h⟩ := h
  exact h μ H v (Ext.refl _ _) ok (r μ H)
theorem e_int {i : Int} {j} : PE X (.Constant (.int i) j pos) (tE X.kw X.mg W (cK (.int i))) := PE.weak pe_int fun _ _ _ => tE_const fun _ _ => .int i
theorem e_bl {i : Bool} {j} : PE X (.Constant (.bool i) j pos) (tE X.kw X.mg W (cK (.bl i))) := PE.weak pe_bl fun _ _ _ => tE_const fun _ _ => .bl i
theorem e_non {j} : PE X (.Constant .none j pos) (tE X.kw X.mg W (cK .non)) := PE.weak pe_non fun _ _ _ => tE_const fun _ _ => .non
theorem e_str {x : Str} {j} : PE X (.Constant (.str x) j pos) (tE X.kw X.mg W (cK (.str x))) := PE.weak pe_str fun _ _ _ => tE_const fun _ _ => .str x
/-- a constant of the text -/
theorem e_glob {x : Str} {d : D} {v : V} {u : Value} (hg : Gl X x) (hm : X.mg x = some u) (rv : RelV v u) (r : ∀ μ H, R X.kw μ H d v) (hd : (x == ("__debug__" : Str)) = false := by decide) : PE X (.Name x pos) (tE X.kw X.mg W (cK d)) :=
  PE.weak (pe_glob hg hm rv hd) fun _ _ _ => tE_const r
/-- two expressions, one after the other -/
theorem tG2 {α β γ δ ε ζ : Type} {RA : List Addr → Hp → α → β → Prop} {RB : List Addr → Hp → γ → δ → Prop} {RC : List Addr → Hp → ε → ζ → Prop} {f : Sg → Store → Res α} {g : Sg → Store → Res γ} {k : α → γ → Store → Res ε}
    (mono : ∀ μ H μ1 H1 x v, Ext μ H μ1 H1 → RA μ H x v → RA μ1 H1 x v)
    {σ : L2.St} {H : Hp} {Q : ζ → Hp → Prop} {Q2 : β → δ → Hp → Prop}
    (h : tG K mg W RC (fun σ S => (f σ S).bind fun x S1 => (g σ S1).bind fun y S2 => k x y S2) σ H Q)
    (hk : ∀ x y S μ H v u, Ok K μ H S → RA μ H x v → RB μ H y u → Post K mg W RC μ H σ (k x y S) Q → Q2 v u H) :
    tG K mg W RA f σ H fun v H1 => tG K mg W RB g σ H1 fun u H2 => Q2 v u H2 := by
  obtain ⟨μ, σD, S, ok, en, h⟩ := h
  refine ⟨μ, σD, S, ok, en, Post.bind h fun x S1 μ1 H1 v x1 ok1 rx h1 => ⟨μ1, σD, S1, ok1, en.mono x1, Post.bind h1 fun y S2 μ2 H2 u x2 ok2 ry h2 => hk x y S2 μ2 H2 v u ok2 (mono _ _ _ _ _ _ x2 rx) ry h2⟩⟩
theorem tG1 {α β ε ζ : Type} {RA : List Addr → Hp → α → β → Prop} {RC : List Addr → Hp → ε → ζ → Prop} {f : Sg → Store → Res α} {k : α → Store → Res ε}
    {σ : L2.St} {H : Hp} {Q : ζ → Hp → Prop} {Q2 : β → Hp → Prop}
    (h : tG K mg W RC (fun σ S => (f σ S).bind fun x S1 => k x S1) σ H Q)
    (hk : ∀ x S μ H v, Ok K μ H S → RA μ H x v → Post K mg W RC μ H σ (k x S) Q → Q2 v H) : tG K mg W RA f σ H Q2 := by
  obtain ⟨μ, σD, S, ok, en, h⟩ := h
  exact ⟨μ, σD, S, ok, en, Post.bind h fun x S1 μ1 H1 v x1 ok1 rx h1 => hk x S1 μ1 H1 v ok1 rx h1⟩
/-- .. and the slots are still there -/
theorem tG1e {α β ε ζ : Type} {RA : List Addr → Hp → α → β → Prop} {RC : List Addr → Hp → ε → ζ → Prop} {f : Sg → Store → Res α} {k : Sg → α → Store → Res ε}
    {σ : L2.St} {H : Hp} {Q : ζ → Hp → Prop} {Q2 : β → Hp → Prop}
    (h : tG K mg W RC (fun σ S => (f σ S).bind fun x S1 => k σ x S1) σ H Q)
    (hk : ∀ σD x S μ H v, Ok K μ H S → EnvR K μ H σD σ → RA μ H x v → Post K mg W RC μ H σ (k σD x S) Q → Q2 v H) : tG K mg W RA f σ H Q2 := by
  obtain ⟨μ, σD, S, ok, en, h⟩ := h
  exact ⟨μ, σD, S, ok, en, Post.bind h fun x S1 μ1 H1 v x1 ok1 rx h1 => hk σD x S1 μ1 H1 v ok1 (en.mono x1) rx h1⟩
theorem tE_bin {k : O2} {σ : L2.St} {H : Hp} {Q : VK} (h : tE K mg W (cBin k f g) σ H Q) : tOp (r2 K k) (tE K mg W f) (tE K mg W g) σ H Q :=
  tG2 (RA := R K) (RB := R K) (fun _ _ _ _ _ _ x r => r.mono x) h fun x y S μ H v u ok rx ry h => ⟨μ, S, x, y, ok, rx, ry, h.of⟩
theorem tE_un {k : O1} {σ : L2.St} {H : Hp} {Q : VK} (h : tE K mg W (cUn k f) σ H Q) : tUn (r1 K k) (tE K mg W f) σ H Q :=
  tG1 (RA := R K) h fun x S μ H v ok rx h => ⟨μ, S, x, ok, rx, h.of⟩
theorem e_bin {op : Operator} {k : O2} (ho : OpR X (binaryOp op) (r2 X.kw k)) (ha : PE X a (tE X.kw X.mg W f)) (hb : PE X b (tE X.kw X.mg W g)) : PE X (.BinOp a op b pos) (tE X.kw X.mg W (cBin k f g)) := PE.weak (pe_op ho ha hb) fun _ _ _ => tE_bin
theorem e_un {op : UnaryOp} {k : O1} (ho : UnR X (unaryOp op) (r1 X.kw k)) (ha : PE X a (tE X.kw X.mg W f)) : PE X (.UnaryOp op a pos) (tE X.kw X.mg W (cUn k f)) := PE.weak (pe_un ho ha) fun _ _ _ => tE_un
theorem e_cmp {op : CmpOp} {k : O2} (ho : OpR X (compareOp op) (r2 X.kw k)) (ha : PE X a (tE X.kw X.mg W f)) (hb : PE X b (tE X.kw X.mg W g)) (hm : behindInMarks op b = false := by first | exact nomark _ | rfl) : PE X (.Compare a [op] [b] pos) (tE X.kw X.mg W (cBin k f g)) :=
  PE.weak (pe_cmpR ho ha hb hm) fun _ _ _ => tE_bin
theorem t_cmp {op : CmpOp} {k : O2} (ho : OpR X (compareOp op) (r2 X.kw k)) (ha : PE X a (tE X.kw X.mg W f)) (hb : PE X b (tE X.kw X.mg W g)) (hm : behindInMarks op b = false := by first | exact nomark _ | rfl) : PT X (.Compare a [op] [b] pos) (tT X.kw X.mg W (cTest (cBin k f g))) := by
  refine PT.weak (pt_cmpR ho ha hb hm) fun σ H Q h => ?_
  have h1 : tE X.kw X.mg W (cBin k f g) σ H fun v H1 => ∃ k, v = .bl k ∧ Q k H1 := tG1 (RA := R X.kw) h fun x S μ H v ok rx h => by
    cases x with
    | bl b =>
      cases rx
      exact ⟨b, rfl, h μ H b (Ext.refl _ _) ok rfl⟩
    | _ => exact h.elim
  exact tE_bin h1
def cChain (k k' : O2) (f g h : DE) : DE := fun σ S => (f σ S).bind fun x S1 => (g σ S1).bind fun y S2 => (Res.of (k x y S2)).bind fun z S3 => match z with
  | .bl true => (h σ S3).bind fun w S4 => Res.of (k' y w S4)
  | .bl false => .ok (.bl false) S3
  | _ => .no
/-- an argument list -/
theorem tA_nil {σ : L2.St} {H : Hp} {Q : List V → Hp → Prop} (h : tA K mg W aNil σ H Q) : tNil σ H Q := by
  obtain ⟨μ, σD, S, ok, en, h⟩ := h
  exact h μ H [] (Ext.refl _ _) ok .nil
theorem tA_cons {σ : L2.St} {H : Hp} {Q : List V → Hp → Prop} (h : tA K mg W (aCons f fa) σ H Q) : tCons (tE K mg W f) (tA K mg W fa) σ H Q :=
  tG2 (RA := R K) (RB := RL K) (fun _ _ _ _ _ _ x r => r.mono x) h fun x y S μ H v u ok rx ry h => h μ H _ (Ext.refl _ _) ok (.cons rx ry)
theorem a_nil : PA X [] (tA X.kw X.mg W aNil) := PA.weak pa_nil fun _ _ _ => tA_nil
theorem a_cons (ha : PE X e (tE X.kw X.mg W f)) (hr : PA X es (tA X.kw X.mg W fa)) (hs : starEach (e :: es) X.env = (false, eval e X.env) :: starEach es X.env := by rfl) : PA X (e :: es) (tA X.kw X.mg W (aCons f fa)) :=
  PA.weak (pa_cons ha hr hs) fun _ _ _ => tA_cons
theorem tE_arg {k : OA} {σ : L2.St} {H : Hp} {Q : VK} (h : tE K mg W (cArg k fa) σ H Q) : tA K mg W fa σ H fun vs H1 => rA K k vs H1 Q :=
  tG1 (RA := RL K) h fun x S μ H v ok rx h => ⟨μ, S, x, ok, rx, h.of⟩
/-- f(..), f a built-in function or type -/
theorem e_callB {x : Str} {id : String} {k : OA} {p : Pos} (hc : CallR X (.builtin id) (rA X.kw k)) (hm : X.mg x = none) (hv : bootBuiltins x = some (.builtin id)) (ha : PA X (e :: es) (tA X.kw X.mg W fa)) (hg : Gl X x := by rfl) (hn : x ≠ "__name__" := by decide) (hdb : (x == ("__debug__" : Str)) = false := by decide)
    (he : starEach (e :: es) X.env = (false, eval e X.env) :: starEach es X.env := by rfl) (hpl : (backTo pos (starEach es X.env)).any (·.1) = false := by rfl) : PE X (.Call (.Name x p) (e :: es) [] pos) (tE X.kw X.mg W (cArg k fa)) :=
  PE.weak (pe_callB hc hg hm hv ha hn hdb he hpl) fun _ _ _ => tE_arg
theorem e_callTy {x : Str} {T : String} {k : OA} {p : Pos} (hc : CallR X (.type T) (rA X.kw k)) (hm : X.mg x = none) (hv : bootBuiltins x = some (.type T)) (ha : PA X (e :: es) (tA X.kw X.mg W fa)) (hg : Gl X x := by rfl) (hn : x ≠ "__name__" := by decide) (hdb : (x == ("__debug__" : Str)) = false := by decide)
    (he : starEach (e :: es) X.env = (false, eval e X.env) :: starEach es X.env := by rfl) (hpl : (backTo pos (starEach es X.env)).any (·.1) = false := by rfl) : PE X (.Call (.Name x p) (e :: es) [] pos) (tE X.kw X.mg W (cArg k fa)) :=
  PE.weak (pe_callTy hc hg hm hv ha hn hdb he hpl) fun _ _ _ => tE_arg
/-- displays -/
def oTup : OA := fun xs S => if xs.length ≤ sizeLine then some (.tup xs, S) else none
def oLst : OA := fun xs S => if xs.length ≤ sizeLine then some (.loc S.length, S ++ [.lst xs]) else none
theorem e_tup {x1} (ha : PA X es (tA X.kw X.mg W fa)) : PE X (.Tuple es x1 pos) (tE X.kw X.mg W (cArg oTup fa)) := by
  refine PE.weak (pe_tup ha) fun σ H Q h => ?_
  refine tG1 (RA := RL X.kw) h fun x S μ H v ok rx h => ?_
  have h := h.of
  unfold oTup at h
  split at h
  · rename_i hl
    have hl' : v.length ≤ sizeLine := by rw [← rx.length]; exact hl
    exact ⟨hl', h.tup ok hl' rx⟩
  · exact h.elim
theorem e_lst (ha : PA X es (tA X.kw X.mg W fa)) : PE X (.List es pos) (tE X.kw X.mg W (cArg oLst fa)) := by
  refine PE.weak (pe_lst ha) fun σ H Q h => ?_
  refine tG1 (RA := RL X.kw) h fun x S μ H v ok rx h => ?_
  have h := h.of
  unfold oLst at h
  split at h
  · rename_i hl
    have hl' : v.length ≤ sizeLine := by rw [← rx.length]; exact hl
    exact ⟨hl', h.lst ok hl' rx⟩
  · exact h.elim
/-! ### tests -/
theorem dTru_ok {μ : List Addr} {H : Hp} {S : Store} {x : D} {v : V} {k : Bool} (ok : Ok K μ H S) (r : R K μ H x v) (h : dTru x S = some k) : TruV K v H k := by
  cases r with
  | non => cases h; rfl
  | bl b => cases h; rfl
  | int i => cases h; rfl
  | str y =>
    simp only [dTru] at h
    split at h
    · rename_i hl; cases h; exact ⟨hl, rfl⟩
    · cases h
  | @tup a vs xs hs l rr =>
    cases h
    refine .inr (.inl ⟨vs, hs, ?_⟩)
    cases rr <;> rfl
  | @rol a vs xs hs l rr =>
    cases h
    refine .inl ⟨vs, hs.sq, ?_⟩
    cases rr <;> rfl
  | @loc l a ha =>
    simp only [dTru] at h
    cases q : S[l]? with
    | none => rw [q] at h; cases h
    | some c =>
      rw [q] at h
      obtain ⟨a', h1, hc⟩ := ok.at q
      rw [ha] at h1; cases h1
      cases c with
      | dct _ => (first | exact hp.elim | exact h.elim | exact hh.elim | (cases h; done) | (cases hp; done) | (cases hh; done) | (rw [e1, e2] at hp; exact hp.elim) | (rw [e1] at hp; exact hp.elim) | (rw [q] at hp; exact hp.elim) | (rw [q] at h; cases h; done) | (rw [q] at hh; exact hh.elim) | (rw [q] at h; exact h.elim) | (rw [q2] at hh; exact hh.elim) | (rw [q2] at h; exact h.elim) | (rw [q2] at hp; exact hp.elim))
      | lst xs =>
        obtain ⟨vs, hv, _, rr⟩ := hc
        cases h
        refine .inl ⟨vs, .inl (.inl hv), ?_⟩
        cases rr <;> rfl
theorem t_tru (ha : PE X a (tE X.kw X.mg W f)) (he : ∀ whole, isTrue a X.env whole = (do let v ← whole; standAt a.pos; holding [v] (truthy v)) := by intro _; rfl) : PT X a (tT X.kw X.mg W (cTru f)) := by
  refine PT.weak (pt_truth ha he) fun σ H Q h => ?_
  refine tG1 (RA := R X.kw) h fun x S μ H v ok rx h => ?_
  have h := h.of
  cases q : dTru x S with
  | none => rw [q] at h; exact h.elim
  | some b =>
    rw [q] at h
    exact ⟨b, dTru_ok ok rx q, h μ H b (Ext.refl _ _) ok rfl⟩
theorem tT_and {σ : L2.St} {H : Hp} {Q : Bool → Hp → Prop} (h : tT K mg W (cAnd t u) σ H Q) : tAnd (tT K mg W t) (tT K mg W u) σ H Q :=
  tG1e (k := fun σ b S1 => if b = true then u σ S1 else .ok false S1) (RA := RB) h fun σD x S μ H v ok en rx h => by
    cases rx
    cases x with
    | true => exact ⟨μ, σD, S, ok, en, h⟩
    | false => exact h μ H false (Ext.refl _ _) ok rfl
theorem tT_or {σ : L2.St} {H : Hp} {Q : Bool → Hp → Prop} (h : tT K mg W (cOr t u) σ H Q) : tOr (tT K mg W t) (tT K mg W u) σ H Q :=
  tG1e (k := fun σ b S1 => if b = true then .ok true S1 else u σ S1) (RA := RB) h fun σD x S μ H v ok en rx h => by
    cases rx
    cases x with
    | false => exact ⟨μ, σD, S, ok, en, h⟩
    | true => exact h μ H true (Ext.refl _ _) ok rfl
theorem PW.weak {X : Cx} {e : Expr} {t t' : TT} (h : PW X e t) (w : ∀ σ H Q, t' σ H Q → t σ H Q) : PW X e t' := ⟨fun wh pins s σ H Q I q => h.run wh pins s σ H Q I (w σ H Q q)⟩
theorem w_and1 (ha : PT X a (tT X.kw X.mg W t)) : PW X (.BoolOp .And [a] pos) (tT X.kw X.mg W t) := pw_and1 ha
theorem w_or1 (ha : PT X a (tT X.kw X.mg W t)) : PW X (.BoolOp .Or [a] pos) (tT X.kw X.mg W t) := pw_or1 ha
theorem w_and {rest : List Expr} (ha : PT X a (tT X.kw X.mg W t)) (hb : PW X (.BoolOp .And (b :: rest) pos) (tT X.kw X.mg W u)) : PW X (.BoolOp .And (a :: b :: rest) pos) (tT X.kw X.mg W (cAnd t u)) := PW.weak (pw_and ha hb) fun _ _ _ => tT_and
theorem w_or {rest : List Expr} (ha : PT X a (tT X.kw X.mg W t)) (hb : PW X (.BoolOp .Or (b :: rest) pos) (tT X.kw X.mg W u)) : PW X (.BoolOp .Or (a :: b :: rest) pos) (tT X.kw X.mg W (cOr t u)) := PW.weak (pw_or ha hb) fun _ _ _ => tT_or
theorem t_not (ha : PT X a (tT X.kw X.mg W t)) : PT X (.UnaryOp .Not a pos) (tT X.kw X.mg W (cNot t)) := PT.weak (pt_not ha) fun σ H Q h => tG1 (RA := RB) h fun x S μ H v ok rx h => by
  cases rx
  exact h μ H _ (Ext.refl _ _) ok rfl
theorem e_if (hc : PT X c (tT X.kw X.mg W t)) (ha : PE X a (tE X.kw X.mg W f)) (hb : PE X b (tE X.kw X.mg W g)) : PE X (.IfExp c a b pos) (tE X.kw X.mg W (cIf t f g)) := PE.weak (pe_ifExp hc ha hb) fun σ H Q h =>
  tG1e (k := fun σ b S1 => if b = true then f σ S1 else g σ S1) (RA := RB) h fun σD x S μ H v ok en rx h => by
    cases rx
    cases x with
    | false => exact ⟨μ, σD, S, ok, en, h⟩
    | true => exact ⟨μ, σD, S, ok, en, h⟩
theorem e_one {op} (h : PE X a (tE X.kw X.mg W f)) : PE X (.BoolOp op [a] pos) (tE X.kw X.mg W f) := pe_one h
theorem e_and {rest : List Expr} (ha : PE X a (tE X.kw X.mg W f)) (hb : PE X (.BoolOp .And (b :: rest) pos) (tE X.kw X.mg W g)) : PE X (.BoolOp .And (a :: b :: rest) pos) (tE X.kw X.mg W (cAndV f g)) := PE.weak (pe_andT ha hb) fun σ H Q h =>
  tG1e (k := fun σ x S1 => match dTru x S1 with
    | some true => g σ S1
    | some false => .ok x S1
    | none => .no) (RA := R X.kw) h fun σD x S μ H v ok en rx h => by
    cases q : dTru x S with
    | none => rw [q] at h; exact h.elim
    | some b =>
      rw [q] at h
      refine ⟨b, dTru_ok ok rx q, ?_⟩
      cases b with
      | true => exact ⟨μ, σD, S, ok, en, h⟩
      | false => exact h μ H v (Ext.refl _ _) ok rx
theorem e_or {rest : List Expr} (ha : PE X a (tE X.kw X.mg W f)) (hb : PE X (.BoolOp .Or (b :: rest) pos) (tE X.kw X.mg W g)) : PE X (.BoolOp .Or (a :: b :: rest) pos) (tE X.kw X.mg W (cOrV f g)) := PE.weak (pe_orT ha hb) fun σ H Q h =>
  tG1e (k := fun σ x S1 => match dTru x S1 with
    | some true => .ok x S1
    | some false => g σ S1
    | none => .no) (RA := R X.kw) h fun σD x S μ H v ok en rx h => by
    cases q : dTru x S with
    | none => rw [q] at h; exact h.elim
    | some b =>
      rw [q] at h
      refine ⟨b, dTru_ok ok rx q, ?_⟩
      cases b with
      | false => exact ⟨μ, σD, S, ok, en, h⟩
      | true => exact h μ H v (Ext.refl _ _) ok rx
theorem e_not (ha : PE X a (tE X.kw X.mg W f)) : PE X (.UnaryOp .Not a pos) (tE X.kw X.mg W (cNotV f)) := PE.weak (pe_notT ha) fun σ H Q h => tG1 (RA := R X.kw) h fun x S μ H v ok rx h => by
  cases q : dTru x S with
  | none => rw [q] at h; exact h.elim
  | some b =>
    rw [q] at h
    exact ⟨b, dTru_ok ok rx q, h μ H _ (Ext.refl _ _) ok (.bl _)⟩
end
end DL

namespace DL
open PySem PySem.Spec PyProof.Rows L2

section
variable {X : Cx}
/-! ### ints -/
theorem o2_int {f : Value → Value → Sem Value} {C : Int → Int → Prop} [∀ i j, Decidable (C i j)] {gv : Int → Int → V} {gd : Int → Int → D} (h : OpR X f (rI C gv)) (hg : ∀ μ H i j, R X.kw μ H (gd i j) (gv i j))
    {k : O2} (hk : ∀ x y S r, k x y S = some r → ∃ i j, x = .int i ∧ y = .int j ∧ C i j ∧ r = (gd i j, S)) : OpR X f (r2 X.kw k) := by
  intro pins s σ H x y v u Q I rx ry hr
  obtain ⟨μ, S, a, b, ok, ra, rb, hp⟩ := hr
  cases q : k a b S with
  | none => rw [q] at hp; exact hp.elim
  | some r =>
    obtain ⟨i, j, rfl, rfl, c, rfl⟩ := hk a b S r q
    rw [q] at hp
    cases ra
    cases rb
    exact h pins s σ H _ _ v u Q I rx ry ⟨i, j, rfl, rfl, c, hp.same ok (hg _ _ _ _)⟩
def MulOk (i j : Int) : Prop := CMul i j ∨ CMulW i j
instance (i j : Int) : Decidable (MulOk i j) := by unfold MulOk CMul CMulW; infer_instance
def DivOk (j : Int) : Prop := (0 < j ∧ j < 1073741824) ∨ CDivW 0 j
instance (j : Int) : Decidable (DivOk j) := by unfold DivOk CDivW; infer_instance
def PowOk (i j : Int) : Prop := CPow i j
instance (i j : Int) : Decidable (PowOk i j) := by unfold PowOk CPow; infer_instance
def oSub : O2 := fun x y S => match x, y with
  | .int i, .int j => some (.int (i - j), S)
  | _, _ => none
def oMod : O2 := fun x y S => match x, y with
  | .int i, .int j => if 0 < j then some (.int (i % j), S) else none
  | _, _ => none
def oDiv : O2 := fun x y S => match x, y with
  | .int i, .int j => if DivOk j then some (.int (i / j), S) else none
  | _, _ => none
def oPow : O2 := fun x y S => match x, y with
  | .int i, .int j => if PowOk i j then some (.int (i ^ j.toNat), S) else none
  | _, _ => none
def oNeg : O1 := fun x S => match x with
  | .int i => some (.int (-i), S)
  | _ => none
theorem op_mul' {i j : Int} (h : MulOk i j) : IntMulOk i j := h.elim CMul.ok CMulW.ok
theorem two_ints {k : O2} {gd : Int → Int → D} {x y : D} {S : Store} {r : D × Store} {C : Int → Int → Prop} [∀ i j, Decidable (C i j)]
    (h : (match x, y with | .int i, .int j => if C i j then some (gd i j, S) else none | _, _ => none) = some r) : ∃ i j, x = .int i ∧ y = .int j ∧ C i j ∧ r = (gd i j, S) := by
  cases x with
  | int i =>
    cases y with
    | int j =>
      simp only at h
      split at h
      · rename_i hc
        cases h
        exact ⟨i, j, rfl, rfl, hc, rfl⟩
      · cases h
    | _ => simp at h
  | _ => simp at h
theorem d_sub : OpR X (binaryOp .Sub) (r2 X.kw oSub) := o2_int (C := fun _ _ => True) (gv := fun i j => .int (i - j)) (gd := fun i j => .int (i - j)) (opI fun _ _ _ _ _ _ _ _ q => sub_int q) (fun _ _ _ _ => .int _) fun x y S r h => by
  cases x with
  | int i =>
    cases y with
    | int j => cases h; exact ⟨i, j, rfl, rfl, trivial, rfl⟩
    | _ => cases h
  | _ => cases h
theorem d_isub : OpR X (inplaceOp .Sub) (r2 X.kw oSub) := o2_int (C := fun _ _ => True) (gv := fun i j => .int (i - j)) (gd := fun i j => .int (i - j)) (opI fun _ _ _ _ _ _ _ _ q => isub_int q) (fun _ _ _ _ => .int _) fun x y S r h => by
  cases x with
  | int i =>
    cases y with
    | int j => cases h; exact ⟨i, j, rfl, rfl, trivial, rfl⟩
    | _ => cases h
  | _ => cases h
theorem d_mod : OpR X (binaryOp .Mod) (r2 X.kw oMod) := o2_int (C := fun _ j => 0 < j) (gd := fun i j => .int (i % j)) op_mod (fun _ _ _ _ => .int _) fun x y S r h => two_ints (k := oMod) (gd := fun i j => .int (i % j)) (C := fun _ j => 0 < j) h
theorem d_pow : OpR X (binaryOp .Pow) (r2 X.kw oPow) := o2_int (C := PowOk) (gd := fun i j => .int (i ^ j.toNat)) op_pow (fun _ _ _ _ => .int _) fun x y S r h => two_ints (k := oPow) (gd := fun i j => .int (i ^ j.toNat)) (C := PowOk) h
theorem op_div : OpR X (binaryOp .FloorDiv) (rI (fun _ j => DivOk j) fun i j => .int (i / j)) := by
  intro pins s σ H x y v u Q I rx ry h
  obtain ⟨i, j, rfl, rfl, c, q⟩ := h
  rcases c with c | c
  · exact op_fdiv pins s σ H _ _ v u Q I rx ry ⟨i, j, rfl, rfl, c, q⟩
  · exact op_fdivW pins s σ H _ _ v u Q I rx ry ⟨i, j, rfl, rfl, c, q⟩
theorem iop_div : OpR X (inplaceOp .FloorDiv) (rI (fun _ j => 0 < j ∧ j < 1073741824) fun i j => .int (i / j)) := iop_fdiv
theorem d_div : OpR X (binaryOp .FloorDiv) (r2 X.kw oDiv) := o2_int (C := fun _ j => DivOk j) (gd := fun i j => .int (i / j)) op_div (fun _ _ _ _ => .int _) fun x y S r h => two_ints (k := oDiv) (gd := fun i j => .int (i / j)) (C := fun _ j => DivOk j) h
theorem d_neg : UnR X (unaryOp .USub) (r1 X.kw oNeg) := by
  intro pins s σ H x v Q I rx hr
  obtain ⟨μ, S, a, ok, ra, hp⟩ := hr
  cases ra with
  | int i => exact un_neg pins s σ H _ v Q I rx ⟨i, rfl, hp.same ok (.int _)⟩
  | _ => exact hp.elim
/-! ### + and * of several kinds -/
def catL (S : Store) (xs ys : List D) : Option (D × Store) := if xs.length + ys.length ≤ sizeLine then some (.loc S.length, S ++ [.lst (xs ++ ys)]) else none
def oAdd : O2 := fun x y S => match x, y with
  | .int i, .int j => some (.int (i + j), S)
  | .str a, .str b => if a.length + b.length ≤ sizeLine then some (.str (a ++ b), S) else none
  | .tup xs, .tup ys => if xs.length + ys.length ≤ sizeLine then some (.tup (xs ++ ys), S) else none
  | .loc l, .loc m => match S[l]?, S[m]? with
    | some (.lst xs), some (.lst ys) => catL S xs ys
    | _, _ => none
  | _, _ => none
theorem RL.nil_iff {K : KW} {μ : List Addr} {H : Hp} {xs : List D} {vs : List V} (r : RL K μ H xs vs) : xs = [] ↔ vs = [] := by
  cases r with
  | nil => simp
  | cons _ _ => simp
theorem d_add : OpR X (binaryOp .Add) (r2 X.kw oAdd) := by
  intro pins s σ H x y v u Q I rx ry hr
  obtain ⟨μ, S, a, b, ok, ra, rb, hp⟩ := hr
  cases ra with
  | int i =>
    cases rb with
    | int j => exact op_add pins s σ H _ _ v u Q I rx ry ⟨i, j, rfl, rfl, hp.same ok (.int _)⟩
    | _ => exact hp.elim
  | str i =>
    cases rb with
    | str j =>
      simp only [oAdd] at hp
      split at hp
      · rename_i hl
        exact op_add_str pins s σ H _ _ v u Q I rx ry ⟨i, j, rfl, rfl, hl, hp.same ok (.str _)⟩
      · exact hp.elim
    | _ => exact hp.elim
  | @tup p vs xs hs hl rr =>
    cases rb with
    | @tup q ws ys hs' hl' rr' =>
      simp only [oAdd] at hp
      split at hp
      · rename_i hz
        rw [rr.length, rr'.length] at hz
        refine op_catA pins s σ H _ _ v u Q I rx ry ⟨p, q, vs, ws, rfl, rfl, hs, hs', hz, fun e => ?_, fun _ e => ?_, fun _ _ => hp.tup ok (by rw [List.length_append]; exact hz) (rr.append rr')⟩
        · subst e
          have e2 := rr.nil_iff.mpr rfl
          subst e2
          exact hp.same ok (.tup hs' hl' rr')
        · subst e
          have e2 := rr'.nil_iff.mpr rfl
          subst e2
          rw [List.append_nil] at hp
          exact hp.same ok (.tup hs hl rr)
      · exact hp.elim
    | _ => exact hp.elim
  | @loc l p hp1 =>
    cases rb with
    | @loc m q hq1 =>
      simp only [oAdd] at hp
      cases e1 : S[l]? with
      | none => rw [e1] at hp; exact hp.elim
      | some c1 =>
        cases e2 : S[m]? with
        | none => rw [e1, e2] at hp; cases c1 <;> exact hp.elim
        | some c2 =>
          obtain ⟨p', h1, hc1⟩ := ok.at e1
          obtain ⟨q', h2, hc2⟩ := ok.at e2
          rw [hp1] at h1; cases h1
          rw [hq1] at h2; cases h2
          cases c1 with
          | dct _ => (first | exact hp.elim | exact h.elim | exact hh.elim | (cases h; done) | (cases hp; done) | (cases hh; done) | (rw [e1, e2] at hp; exact hp.elim) | (rw [e1] at hp; exact hp.elim) | (rw [q] at hp; exact hp.elim) | (rw [q] at h; cases h; done) | (rw [q] at hh; exact hh.elim) | (rw [q] at h; exact h.elim) | (rw [q2] at hh; exact hh.elim) | (rw [q2] at h; exact h.elim) | (rw [q2] at hp; exact hp.elim))
          | lst xs =>
            cases c2 with
            | dct _ => (first | exact hp.elim | exact h.elim | exact hh.elim | (cases h; done) | (cases hp; done) | (cases hh; done) | (rw [e1, e2] at hp; exact hp.elim) | (rw [e1] at hp; exact hp.elim) | (rw [q] at hp; exact hp.elim) | (rw [q] at h; cases h; done) | (rw [q] at hh; exact hh.elim) | (rw [q] at h; exact h.elim) | (rw [q2] at hh; exact hh.elim) | (rw [q2] at h; exact h.elim) | (rw [q2] at hp; exact hp.elim))
            | lst ys =>
              obtain ⟨vs, hv, lv, rv⟩ := hc1
              obtain ⟨ws, hw, lw, rw'⟩ := hc2
              rw [e1, e2] at hp
              simp only [catL] at hp
              split at hp
              · rename_i hz
                rw [rv.length, rw'.length] at hz
                exact op_cat pins s σ H _ _ v u Q I rx ry ⟨p, q, vs, ws, rfl, rfl, hv, hw, hz, hp.lst ok (by rw [List.length_append]; exact hz) (rv.append rw')⟩
              · exact hp.elim
    | _ => exact hp.elim
  | _ => exact hp.elim
/-- += of ints and texts -/
def oIAdd : O2 := fun x y S => match x, y with
  | .int i, .int j => some (.int (i + j), S)
  | .str a, .str b => if a.length + b.length ≤ sizeLine then some (.str (a ++ b), S) else none
  | _, _ => none
theorem d_iadd : OpR X (inplaceOp .Add) (r2 X.kw oIAdd) := by
  intro pins s σ H x y v u Q I rx ry hr
  obtain ⟨μ, S, a, b, ok, ra, rb, hp⟩ := hr
  cases ra with
  | int i =>
    cases rb with
    | int j => exact iop_add pins s σ H _ _ v u Q I rx ry ⟨i, j, rfl, rfl, hp.same ok (.int _)⟩
    | _ => exact hp.elim
  | str i =>
    cases rb with
    | str j =>
      simp only [oIAdd] at hp
      split at hp
      · rename_i hl
        exact iop_add_str pins s σ H _ _ v u Q I rx ry ⟨i, j, rfl, rfl, hl, hp.same ok (.str _)⟩
      · exact hp.elim
    | _ => exact hp.elim
  | _ => exact hp.elim
/-- ints, a list by a number -/
def oMul : O2 := fun x y S => match x, y with
  | .int i, .int j => if MulOk i j then some (.int (i * j), S) else none
  | .loc l, .int k => match S[l]? with
    | some (.lst xs) => if -(2 ^ 63) ≤ k ∧ k < 2 ^ 63 ∧ xs.length * k.toNat ≤ sizeLine then some (.loc S.length, S ++ [.lst (List.replicate k.toNat xs).flatten]) else none
    | _ => none
  | _, _ => none
theorem RL.rep {K : KW} {μ : List Addr} {H : Hp} {xs : List D} {vs : List V} (r : RL K μ H xs vs) : ∀ k : Nat, RL K μ H (List.replicate k xs).flatten (List.replicate k vs).flatten
  | 0 => .nil
  | k + 1 => by
    rw [List.replicate_succ, List.replicate_succ, List.flatten_cons, List.flatten_cons]
    exact r.append (RL.rep r k)
theorem d_mul : OpR X (binaryOp .Mult) (r2 X.kw oMul) := by
  intro pins s σ H x y v u Q I rx ry hr
  obtain ⟨μ, S, a, b, ok, ra, rb, hp⟩ := hr
  cases ra with
  | int i =>
    cases rb with
    | int j =>
      simp only [oMul] at hp
      split at hp
      · rename_i hm
        rcases hm with hm | hm
        · exact op_mul pins s σ H _ _ v u Q I rx ry ⟨i, j, rfl, rfl, hm, hp.same ok (.int _)⟩
        · exact op_mulW pins s σ H _ _ v u Q I rx ry ⟨i, j, rfl, rfl, hm, hp.same ok (.int _)⟩
      · exact hp.elim
    | _ => exact hp.elim
  | @loc l p hp1 =>
    cases rb with
    | int k =>
      simp only [oMul] at hp
      cases e1 : S[l]? with
      | none => rw [e1] at hp; exact hp.elim
      | some c1 =>
        obtain ⟨p', h1, hc1⟩ := ok.at e1
        rw [hp1] at h1; cases h1
        cases c1 with
        | dct _ => (first | exact hp.elim | exact h.elim | exact hh.elim | (cases h; done) | (cases hp; done) | (cases hh; done) | (rw [e1, e2] at hp; exact hp.elim) | (rw [e1] at hp; exact hp.elim) | (rw [q] at hp; exact hp.elim) | (rw [q] at h; cases h; done) | (rw [q] at hh; exact hh.elim) | (rw [q] at h; exact h.elim) | (rw [q2] at hh; exact hh.elim) | (rw [q2] at h; exact h.elim) | (rw [q2] at hp; exact hp.elim))
        | lst xs =>
          obtain ⟨vs, hv, lv, rv⟩ := hc1
          rw [e1] at hp
          simp only at hp
          split at hp
          · rename_i hz
            obtain ⟨z1, z2, z3⟩ := hz
            rw [rv.length] at z3
            refine op_rep pins s σ H _ _ v u Q I rx ry ⟨p, k, vs, rfl, rfl, hv, z1, z2, z3, hp.lst ok ?_ (rv.rep _)⟩
            rw [List.length_flatten, List.map_replicate, List.sum_replicate_nat, Nat.mul_comm]
            exact z3
          · exact hp.elim
    | _ => exact hp.elim
  | _ => exact hp.elim
end
end DL

namespace DL
open PySem PySem.Spec PyProof.Rows L2

/-! ### data, compared -/
mutual
def D.py : D → PyData
  | .non => .none
  | .bl b => .bool b
  | .int i => .int i
  | .str x => .str x
  | .tup xs => .tuple (D.pys xs)
  | .rol xs => .list (D.pys xs)
  | .loc _ => .none
def D.pys : List D → List PyData
  | [] => []
  | x :: xs => x.py :: D.pys xs
end
mutual
/-- no list of the store in it, the texts in order -/
def D.fits : D → Bool
  | .str x => PyData.strOk x
  | .tup xs => D.fitsL xs
  | .rol xs => D.fitsL xs
  | .loc _ => false
  | _ => true
def D.fitsL : List D → Bool
  | [] => true
  | x :: xs => x.fits && D.fitsL xs
end
mutual
def D.dep : D → Nat
  | .tup xs => D.depL xs + 1
  | .rol xs => D.depL xs + 1
  | _ => 0
def D.depL : List D → Nat
  | [] => 0
  | x :: xs => max x.dep (D.depL xs)
end
mutual
def D.eqv : D → D → Bool
  | .non, .non => true
  | .bl a, .bl b => a == b
  | .bl a, .int j => decide ((if a then 1 else 0) = j)
  | .int i, .bl b => decide (i = (if b then 1 else 0))
  | .int i, .int j => decide (i = j)
  | .str x, .str y => decide (x = y)
  | .tup xs, .tup ys => D.eqvL xs ys
  | .rol xs, .rol ys => D.eqvL xs ys
  | _, _ => false
def D.eqvL : List D → List D → Bool
  | [], [] => true
  | x :: xs, y :: ys => D.eqv x y && D.eqvL xs ys
  | _, _ => false
end
mutual
def D.lt : D → D → Bool
  | .bl a, .bl b => decide (PyProof.Rows.b2i a < PyProof.Rows.b2i b)
  | .int i, .int j => decide (i < j)
  | .str x, .str y => decide (x.cps.toList < y.cps.toList)
  | .tup xs, .tup ys => D.ltL xs ys
  | _, _ => false
def D.ltL : List D → List D → Bool
  | [], [] => false
  | [], _ :: _ => true
  | _ :: _, [] => false
  | x :: xs, y :: ys => if D.eqv x y = true then D.ltL xs ys else D.lt x y
end
mutual
def D.le : D → D → Bool
  | .int i, .int j => decide (i ≤ j)
  | .str x, .str y => !decide (y.cps.toList < x.cps.toList)
  | .tup xs, .tup ys => D.leL xs ys
  | _, _ => false
def D.leL : List D → List D → Bool
  | [], _ => true
  | _ :: _, [] => false
  | x :: xs, y :: ys => if D.eqv x y = true then D.leL xs ys else D.le x y
end
mutual
/-- ints, texts, tuples of these, place by place -/
def D.alike : D → D → Bool
  | .non, .non => true
  | .int _, .int _ => true
  | .str _, .str _ => true
  | .tup xs, .tup ys => D.alikeL xs ys
  | _, _ => false
def D.alikeL : List D → List D → Bool
  | x :: xs, y :: ys => D.alike x y && D.alikeL xs ys
  | [], _ => true
  | _ :: _, [] => true
end
theorem D.pys_map : ∀ xs : List D, D.pys xs = xs.map D.py
  | [] => rfl
  | x :: xs => by rw [D.pys, D.pys_map xs]; rfl
mutual
theorem D.canLay : ∀ x : D, x.fits = true → x.py.canLay0 = true
  | .non, _ => by simp only [D.py, PyData.canLay0]
  | .bl _, _ => by simp only [D.py, PyData.canLay0]
  | .int _, _ => by simp only [D.py, PyData.canLay0]
  | .str x, h => by
    simp only [D.py, PyData.canLay0]
    simpa [D.fits] using h
  | .tup xs, h => by
    simp only [D.py, PyData.canLay0]
    exact D.canLayL xs (by simpa [D.fits] using h)
  | .rol xs, h => by
    simp only [D.py, PyData.canLay0]
    exact D.canLayL xs (by simpa [D.fits] using h)
  | .loc _, h => by simp [D.fits] at h
theorem D.canLayL : ∀ xs : List D, D.fitsL xs = true → PyData.canLayAll0 (D.pys xs) = true
  | [], _ => by simp only [D.pys, PyData.canLayAll0]
  | x :: xs, h => by
    simp only [D.fitsL, Bool.and_eq_true] at h
    simp only [D.pys, PyData.canLayAll0, D.canLay x h.1, D.canLayL xs h.2, Bool.and_self]
end
mutual
theorem D.depth : ∀ x : D, x.fits = true → x.py.depth = x.dep
  | .non, _ => by simp only [D.py, D.dep, PyData.depth]
  | .bl _, _ => by simp only [D.py, D.dep, PyData.depth]
  | .int _, _ => by simp only [D.py, D.dep, PyData.depth]
  | .str x, h => by simp only [D.py, D.dep, PyData.depth]
  | .tup xs, h => by
    simp only [D.py, D.dep, PyData.depth]
    rw [D.depthL xs (by simpa [D.fits] using h)]
  | .rol xs, h => by
    simp only [D.py, D.dep, PyData.depth]
    rw [D.depthL xs (by simpa [D.fits] using h)]
  | .loc _, h => by simp [D.fits] at h
theorem D.depthL : ∀ xs : List D, D.fitsL xs = true → PyData.depthAll (D.pys xs) = D.depL xs
  | [], _ => by simp only [D.pys, D.depL, PyData.depthAll]
  | x :: xs, h => by
    simp only [D.fitsL, Bool.and_eq_true] at h
    simp only [D.pys, D.depL, PyData.depthAll, D.depth x h.1, D.depthL xs h.2]
end
theorem str_beq (x y : Str) : (x == y) = decide (x = y) := by
  by_cases h : x = y
  · subst h; simp
  · rw [decide_eq_false h]; exact beq_eq_false_iff_ne.mpr h
mutual
theorem D.eqv_py : ∀ x y : D, x.fits = true → y.fits = true → PyData.eqv x.py y.py = D.eqv x y
  | .non, y, _, hy => by cases y <;> simp_all [D.py, D.eqv, PyData.eqv, D.fits]
  | .bl _, y, _, hy => by
    cases y <;> simp_all [D.py, D.eqv, PyData.eqv, D.fits]
    exact Bool.beq_eq_decide_eq _ _
  | .int _, y, _, hy => by
    cases y <;> simp_all [D.py, D.eqv, PyData.eqv, D.fits]
    all_goals exact Bool.beq_eq_decide_eq _ _
  | .str x, y, _, hy => by
    cases y <;> simp_all [D.py, D.eqv, PyData.eqv, D.fits, str_beq]
  | .tup xs, y, hx, hy => by
    cases y with
    | tup ys =>
      simp only [D.py, D.eqv, PyData.eqv]
      exact D.eqvL_py xs ys (by simpa [D.fits] using hx) (by simpa [D.fits] using hy)
    | _ => simp_all [D.py, D.eqv, PyData.eqv, D.fits]
  | .rol xs, y, hx, hy => by
    cases y with
    | rol ys =>
      simp only [D.py, D.eqv, PyData.eqv]
      exact D.eqvL_py xs ys (by simpa [D.fits] using hx) (by simpa [D.fits] using hy)
    | _ => simp_all [D.py, D.eqv, PyData.eqv, D.fits]
  | .loc _, _, h, _ => by simp [D.fits] at h
theorem D.eqvL_py : ∀ xs ys : List D, D.fitsL xs = true → D.fitsL ys = true → PyData.eqvAll (D.pys xs) (D.pys ys) = D.eqvL xs ys
  | [], [], _, _ => by simp only [D.pys, D.eqvL, PyData.eqvAll]
  | [], _ :: _, _, _ => by simp only [D.pys, D.eqvL, PyData.eqvAll]
  | _ :: _, [], _, _ => by simp only [D.pys, D.eqvL, PyData.eqvAll]
  | x :: xs, y :: ys, h, h' => by
    simp only [D.fitsL, Bool.and_eq_true] at h h'
    simp only [D.pys, D.eqvL, PyData.eqvAll, D.eqv_py x y h.1 h'.1, D.eqvL_py xs ys h.2 h'.2]
end
section
variable {K : KW} {μ : List Addr} {H : Hp}
mutual
theorem R.dp : ∀ {x : D} {v : V}, R K μ H x v → x.fits = true → Dp K H v x.py
  | _, _, .non, _ => .non
  | _, _, .bl b, _ => .bl b
  | _, _, .int i, _ => .int i
  | _, _, .str x, _ => .str x
  | _, _, .tup h l r, f => by
    rw [D.py]
    exact .tup h (RL.dp r (by simpa [D.fits] using f))
  | _, _, .rol h l r, f => by
    rw [D.py]
    exact .lst h.sq (RL.dp r (by simpa [D.fits] using f))
  | _, _, .loc h, f => by simp [D.fits] at f
theorem RL.dp : ∀ {xs : List D} {vs : List V}, RL K μ H xs vs → D.fitsL xs = true → DpAll K H vs (D.pys xs)
  | _, _, .nil, _ => by rw [D.pys]; exact .nil
  | _, _, .cons r t, f => by
    simp only [D.fitsL, Bool.and_eq_true] at f
    rw [D.pys]
    exact .cons (R.dp r f.1) (RL.dp t f.2)
end
end
theorem D.fits_shaped {x : D} (f : x.fits = true) (d : x.dep ≤ 64) : SeqAt.shaped x.py = true := by
  unfold SeqAt.shaped
  rw [D.canLay x f, D.depth x f, decide_eq_true d]; rfl
section
variable {X : Cx} {pins : List (Addr × Obj)} {σ : L2.St} {H : Hp} {s : Shared} {μ : List Addr}
theorem R.reads (I : Inv X pins σ H s) {x : D} {v : V} {u : Value} (r : R X.kw μ H x v) (f : x.fits = true) (rv : RelV v u) : ∃ as, Reads s.heap u x.py as := Dp.reads I x.py v u (r.dp f) rv
theorem eqAtD {A : Around} {s : Shared} {x y : D} {u w : Value} {as bs : List Addr} (rx : Reads s.heap u x.py as) (ry : Reads s.heap w y.py bs) (fx : x.fits = true) (fy : y.fits = true) (hu : A.units + min x.dep y.dep < cLine) : SeqAt.EqAt A s u w (D.eqv x y) := by
  rw [← D.eqv_py x y fx fy]
  exact SeqAt.eqAt_reads _ _ A s u w as bs rx ry (D.canLay x fx) (D.canLay y fy) (by rw [D.depth x fx, D.depth y fy]; exact hu)
end
/-- == of data -/
def okEq (x y : D) : Prop := x.fits = true ∧ y.fits = true ∧ min x.dep y.dep ≤ 64
instance (x y : D) : Decidable (okEq x y) := by unfold okEq; infer_instance
def oEq : O2 := fun x y S => match x, y with
  | .int i, .int j => some (.bl (decide (i = j)), S)
  | .str i, .str j => some (.bl (decide (i = j)), S)
  | x, y => if okEq x y then some (.bl (D.eqv x y), S) else none
def oNe : O2 := fun x y S => match x, y with
  | .int i, .int j => some (.bl (!decide (i = j)), S)
  | .str i, .str j => some (.bl (!decide (i = j)), S)
  | x, y => if okEq x y then some (.bl (!D.eqv x y), S) else none
theorem dec_int' {i j : Int} : decide (V.int i = V.int j) = decide (i = j) := by
  by_cases h : i = j
  · subst h; simp
  · rw [decide_eq_false h, decide_eq_false (fun e => h (V.int.inj e))]
theorem dec_str' {i j : Str} : decide (V.str i = V.str j) = decide (i = j) := by
  by_cases h : i = j
  · subst h; simp
  · rw [decide_eq_false h, decide_eq_false (fun e => h (V.str.inj e))]
section
variable {X : Cx}
theorem d_eq (hu : X.A.units + 64 < cLine) : OpR X (compareOp .Eq) (r2 X.kw oEq) := by
  intro pins s σ H x y v u Q I rx ry hr
  obtain ⟨μ, S, a, b, ok, ra, rb, hp⟩ := hr
  have gen : okEq a b → PV X.kw (R X.kw) μ H (some (.bl (D.eqv a b), S)) Q → wpAny (model X.prog X.w) X.A (compareOp .Eq v u) (EP X pins σ Q) X.xe s := fun ho hp => by
    obtain ⟨fa, fb, hd⟩ := ho
    obtain ⟨as, r1⟩ := ra.reads I fa rx
    obtain ⟨bs, r2⟩ := rb.reads I fb ry
    refine SeqAt.compareEq_reads r1 r2 (D.canLay a fa) (D.canLay b fb) (by rw [D.depth a fa, D.depth b fb]; omega) ⟨.bl _, H, I, rfl, ?_⟩
    rw [D.eqv_py a b fa fb]
    exact hp.same ok (.bl _)
  unfold oEq at hp
  split at hp
  · cases ra
    cases rb
    exact op_eq pins s σ H _ _ v u Q I rx ry ⟨rfl, by rw [dec_int']; exact hp.same ok (.bl _)⟩
  · cases ra
    cases rb
    exact op_eq pins s σ H _ _ v u Q I rx ry ⟨rfl, by rw [dec_str']; exact hp.same ok (.bl _)⟩
  · split at hp
    · rename_i ho
      exact gen ho hp
    · exact hp.elim
theorem d_ne (hu : X.A.units + 64 < cLine) : OpR X (compareOp .NotEq) (r2 X.kw oNe) := by
  intro pins s σ H x y v u Q I rx ry hr
  obtain ⟨μ, S, a, b, ok, ra, rb, hp⟩ := hr
  have gen : okEq a b → PV X.kw (R X.kw) μ H (some (.bl (!D.eqv a b), S)) Q → wpAny (model X.prog X.w) X.A (compareOp .NotEq v u) (EP X pins σ Q) X.xe s := fun ho hp => by
    obtain ⟨fa, fb, hd⟩ := ho
    obtain ⟨as, r1⟩ := ra.reads I fa rx
    obtain ⟨bs, r2⟩ := rb.reads I fb ry
    refine SeqAt.compareNe_reads r1 r2 (D.canLay a fa) (D.canLay b fb) (by rw [D.depth a fa, D.depth b fb]; omega) ⟨.bl _, H, I, rfl, ?_⟩
    rw [D.eqv_py a b fa fb]
    exact hp.same ok (.bl _)
  unfold oNe at hp
  split at hp
  · cases ra
    cases rb
    exact op_ne pins s σ H _ _ v u Q I rx ry ⟨rfl, by rw [dec_int']; exact hp.same ok (.bl _)⟩
  · cases ra
    cases rb
    exact op_ne pins s σ H _ _ v u Q I rx ry ⟨rfl, by rw [dec_str']; exact hp.same ok (.bl _)⟩
  · split at hp
    · rename_i ho
      exact gen ho hp
    · exact hp.elim
end
/-! ### the order -/
theorem readsAll_get {h : Heap} : ∀ {us : List Value} {ds : List PyData} {as : List Addr} {j : Nat} {u : Value} {d : PyData}, ReadsAll h us ds as → us[j]? = some u → ds[j]? = some d → ∃ bs, Reads h u d bs
  | _, _, _, _, _, _, .nil, e, _ => by simp at e
  | _, _, _, 0, _, _, .cons r _, e, e' => by
    simp at e e'
    subst e e'
    exact ⟨_, r⟩
  | _, _, _, j + 1, _, _, .cons _ t, e, e' => readsAll_get (j := j) t (by simpa using e) (by simpa using e')
theorem depL_get : ∀ {xs : List D} {j : Nat} {x : D}, xs[j]? = some x → x.dep ≤ D.depL xs
  | [], _, _, e => by simp at e
  | y :: xs, 0, x, e => by
    simp at e
    subst e
    rw [D.depL]
    exact Nat.le_max_left _ _
  | y :: xs, j + 1, x, e => by
    rw [D.depL]
    exact Nat.le_trans (depL_get (j := j) (by simpa using e)) (Nat.le_max_right _ _)
theorem fitsL_get : ∀ {xs : List D} {j : Nat} {x : D}, D.fitsL xs = true → xs[j]? = some x → x.fits = true
  | [], _, _, _, e => by simp at e
  | y :: xs, 0, x, f, e => by
    simp at e
    subst e
    rw [D.fitsL, Bool.and_eq_true] at f
    exact f.1
  | y :: xs, j + 1, x, f, e => by
    rw [D.fitsL, Bool.and_eq_true] at f
    exact fitsL_get (j := j) f.2 (by simpa using e)
def lexO (f : D → D → Bool) (z : Nat → Nat → Bool) : List D → List D → Bool
  | [], ys => z 0 ys.length
  | x :: xs, [] => z (xs.length + 1) 0
  | x :: xs, y :: ys => if D.eqv x y = true then lexO f z xs ys else f x y
theorem lexAt_O {f : D → D → Bool} {z : Nat → Nat → Bool} (hz : ∀ a b, z (a + 1) (b + 1) = z a b) (e r : Nat → Bool) : ∀ (xs ys : List D) (i : Nat),
    (∀ (j : Nat) (x y : D), xs[j]? = some x → ys[j]? = some y → e (i + j) = D.eqv x y ∧ r (i + j) = f x y) →
    Ob.lexAt e r (z xs.length ys.length) i (min xs.length ys.length) = lexO f z xs ys
  | [], ys, i, h => by
    rw [List.length_nil, Nat.zero_min]
    rfl
  | x :: xs, [], i, h => by
    rw [List.length_nil, Nat.min_zero]
    rfl
  | x :: xs, y :: ys, i, h => by
    have h0 := h 0 x y rfl rfl
    rw [Nat.add_zero] at h0
    rw [lexO]
    rw [List.length_cons, List.length_cons, show min (xs.length + 1) (ys.length + 1) = min xs.length ys.length + 1 by omega, Ob.lexAt_succ, h0.1]
    by_cases q : D.eqv x y = true
    · rw [if_pos q, if_pos q, hz]
      exact lexAt_O hz e r xs ys (i + 1) fun j x' y' hx hy => by
        have := h (j + 1) x' y' (by simpa using hx) (by simpa using hy)
        rw [show i + (j + 1) = i + 1 + j by omega] at this
        exact this
    · rw [if_neg q, if_neg q]
      exact h0.2
theorem ltL_O : ∀ xs ys : List D, D.ltL xs ys = lexO D.lt (fun a b => decide (a < b)) xs ys
  | [], [] => by rw [D.ltL, lexO]; rfl
  | [], y :: ys => by rw [D.ltL, lexO, List.length_cons]; simp
  | x :: xs, [] => by rw [D.ltL, lexO]; rfl
  | x :: xs, y :: ys => by rw [D.ltL, lexO, ltL_O xs ys]
theorem leL_O : ∀ xs ys : List D, D.leL xs ys = lexO D.le (fun a b => decide (a ≤ b)) xs ys
  | [], ys => by rw [D.leL, lexO]; simp
  | x :: xs, [] => by rw [D.leL, lexO]; simp
  | x :: xs, y :: ys => by rw [D.leL, lexO, leL_O xs ys]
theorem alikeL_get : ∀ {xs ys : List D} {j : Nat} {x y : D}, D.alikeL xs ys = true → xs[j]? = some x → ys[j]? = some y → D.alike x y = true
  | [], _, _, _, _, _, e, _ => by simp at e
  | _ :: _, [], _, _, _, _, _, e => by simp at e
  | a :: xs, b :: ys, 0, x, y, f, e, e' => by
    simp at e e'
    subst e e'
    rw [D.alikeL, Bool.and_eq_true] at f
    exact f.1
  | a :: xs, b :: ys, j + 1, x, y, f, e, e' => by
    rw [D.alikeL, Bool.and_eq_true] at f
    exact alikeL_get (j := j) f.2 (by simpa using e) (by simpa using e')
theorem tupRc {op : CmpOp} {A : Around} {s : Shared} {f : D → D → Bool} {z : Nat → Nat → Bool} (hz : ∀ a b, z (a + 1) (b + 1) = z a b) {xs ys : List D} {a b : Addr} {vs ws : Array Value} {as bs : List Addr}
    (rule : ∀ (e r : Nat → Bool), (∀ j (h1 : j < vs.size) (h2 : j < ws.size), SeqAt.EqAt A.in1 s vs[j] ws[j] (e j)) → (∀ j (h1 : j < vs.size) (h2 : j < ws.size), e j = false → Ob.RcOp op A.in1 s vs[j] ws[j] (r j)) →
      Ob.RcOp op A s (.ref a) (.ref b) (Ob.lexAt e r (z vs.size ws.size) 0 (min vs.size ws.size)))
    (r1 : ReadsAll s.heap vs.toList (D.pys xs) as) (r2 : ReadsAll s.heap ws.toList (D.pys ys) bs) (f1 : D.fitsL xs = true) (f2 : D.fitsL ys = true) (hu : A.in1.units + min (D.depL xs) (D.depL ys) < cLine)
    (ih : ∀ (j : Nat) (x y : D) (u w : Value) (as bs : List Addr), xs[j]? = some x → ys[j]? = some y → Reads s.heap u x.py as → Reads s.heap w y.py bs → D.eqv x y = false → Ob.RcOp op A.in1 s u w (f x y)) :
    Ob.RcOp op A s (.ref a) (.ref b) (lexO f z xs ys) := by
  have n1 : vs.size = xs.length := by
    have := SeqAt.ReadsAll.length _ _ _ r1
    rw [D.pys_map, List.length_map] at this
    simpa using this
  have n2 : ws.size = ys.length := by
    have := SeqAt.ReadsAll.length _ _ _ r2
    rw [D.pys_map, List.length_map] at this
    simpa using this
  have key : ∀ j (h1 : j < vs.size) (h2 : j < ws.size), ∃ x y as bs, xs[j]? = some x ∧ ys[j]? = some y ∧ Reads s.heap vs[j] x.py as ∧ Reads s.heap ws[j] y.py bs := fun j h1 h2 => by
    have g1 : xs[j]? = some (xs[j]'(by omega)) := List.getElem?_eq_getElem (by omega)
    have g2 : ys[j]? = some (ys[j]'(by omega)) := List.getElem?_eq_getElem (by omega)
    obtain ⟨as', q1⟩ := readsAll_get r1 (j := j) (u := vs[j]) (by simp [h1]) (by rw [D.pys_map, List.getElem?_map, g1]; rfl)
    obtain ⟨bs', q2⟩ := readsAll_get r2 (j := j) (u := ws[j]) (by simp [h2]) (by rw [D.pys_map, List.getElem?_map, g2]; rfl)
    exact ⟨_, _, as', bs', g1, g2, q1, q2⟩
  have q := rule (fun j => D.eqv (xs.getD j .non) (ys.getD j .non)) (fun j => f (xs.getD j .non) (ys.getD j .non)) (fun j h1 h2 => ?_) (fun j h1 h2 he => ?_)
  · rw [n1, n2, lexAt_O hz _ _ xs ys 0 fun j x y hx hy => ?_] at q
    · exact q
    · rw [Nat.zero_add, List.getD_eq_getElem?_getD, List.getD_eq_getElem?_getD, hx, hy]
      exact ⟨rfl, rfl⟩
  · obtain ⟨x, y, as', bs', g1, g2, q1, q2⟩ := key j h1 h2
    rw [List.getD_eq_getElem?_getD, List.getD_eq_getElem?_getD, g1, g2]
    show SeqAt.EqAt _ _ _ _ (D.eqv x y)
    refine eqAtD q1 q2 (fitsL_get f1 g1) (fitsL_get f2 g2) ?_
    have d1 := depL_get g1
    have d2 := depL_get g2
    omega
  · obtain ⟨x, y, as', bs', g1, g2, q1, q2⟩ := key j h1 h2
    rw [List.getD_eq_getElem?_getD, List.getD_eq_getElem?_getD, g1, g2] at he ⊢
    exact ih j x y _ _ as' bs' g1 g2 q1 q2 he
theorem units_in {A : Around} {a b : Nat} (h : A.units + min (a + 1) (b + 1) < cLine) : A.in1.units + min a b < cLine := SeqAt.room_in h
mutual
theorem ltAtD : ∀ (x y : D) (A : Around) (s : Shared) (u w : Value) (as bs : List Addr), Reads s.heap u x.py as → Reads s.heap w y.py bs → x.fits = true → y.fits = true → D.alike x y = true → D.eqv x y = false → A.units + min x.dep y.dep < cLine → Ob.RcOp .Lt A s u w (D.lt x y)
  | .int i, y, A, s, u, w, as, bs, r1, r2, f1, f2, al, ne, hu => by
    cases y with
    | int j =>
      rw [D.py] at r1 r2
      cases r1
      cases r2
      rw [D.lt]
      exact Ob.RcOp.lt_int _ _ _ _
    | _ => simp [D.alike] at al
  | .str i, y, A, s, u, w, as, bs, r1, r2, f1, f2, al, ne, hu => by
    cases y with
    | str j =>
      rw [D.py] at r1 r2
      cases r1
      cases r2
      rw [D.lt]
      exact fun _ _ _ _ h => P.lt_str h
    | _ => simp [D.alike] at al
  | .tup xs, y, A, s, u, w, as, bs, r1, r2, f1, f2, al, ne, hu => by
    cases y with
    | tup ys =>
      rw [D.py] at r1 r2
      simp only [D.fits] at f1 f2
      simp only [D.alike] at al
      simp only [D.dep] at hu
      rw [D.lt, ltL_O]
      cases r1 with
      | @tuple a o vs n _ as₁ h1 h2 h3 h4 =>
        cases r2 with
        | @tuple b o' ws n' _ bs₁ k1 k2 k3 k4 =>
          exact tupRc (by intro a b; simp) (fun e r he hr => Ob.RcOp.tuples_lt ⟨_, h1, h2, _, h3⟩ ⟨_, k1, k2, _, k3⟩ (SeqAt.room_here hu) he hr) h4 k4 f1 f2 (units_in hu) (ltAtDL xs ys A.in1 s f1 f2 al (units_in hu))
    | _ => simp [D.alike] at al
  | .non, y, A, s, u, w, as, bs, r1, r2, f1, f2, al, ne, hu => by cases y <;> simp_all [D.alike, D.eqv]
  | .bl _, y, A, s, u, w, as, bs, r1, r2, f1, f2, al, ne, hu => by cases y <;> simp_all [D.alike, D.eqv]
  | .rol _, y, A, s, u, w, as, bs, r1, r2, f1, f2, al, ne, hu => by cases y <;> simp_all [D.alike, D.eqv]
  | .loc _, y, A, s, u, w, as, bs, r1, r2, f1, f2, al, ne, hu => by cases y <;> simp_all [D.alike, D.eqv]
theorem ltAtDL : ∀ (xs ys : List D) (A : Around) (s : Shared), D.fitsL xs = true → D.fitsL ys = true → D.alikeL xs ys = true → A.units + min (D.depL xs) (D.depL ys) < cLine →
    ∀ (j : Nat) (x y : D) (u w : Value) (as bs : List Addr), xs[j]? = some x → ys[j]? = some y → Reads s.heap u x.py as → Reads s.heap w y.py bs → D.eqv x y = false → Ob.RcOp .Lt A s u w (D.lt x y)
  | [], _, _, _, _, _, _, _, _, _, _, _, _, _, _, e, _, _, _, _ => by simp at e
  | _ :: _, [], _, _, _, _, _, _, _, _, _, _, _, _, _, _, e, _, _, _ => by simp at e
  | a :: xs, b :: ys, A, s, f1, f2, al, hu, j, x, y, u, w, as, bs, e, e', r1, r2, ne => by
    rw [D.fitsL, Bool.and_eq_true] at f1 f2
    rw [D.alikeL, Bool.and_eq_true] at al
    rw [D.depL, D.depL] at hu
    cases j with
    | zero =>
      simp at e e'
      subst e e'
      exact ltAtD a b A s u w as bs r1 r2 f1.1 f2.1 al.1 ne (SeqAt.room_head hu)
    | succ j => exact ltAtDL xs ys A s f1.2 f2.2 al.2 (SeqAt.room_tail hu) j x y u w as bs (by simpa using e) (by simpa using e') r1 r2 ne
end
mutual
theorem leAtD : ∀ (x y : D) (A : Around) (s : Shared) (u w : Value) (as bs : List Addr), Reads s.heap u x.py as → Reads s.heap w y.py bs → x.fits = true → y.fits = true → D.alike x y = true → D.eqv x y = false → A.units + min x.dep y.dep < cLine → Ob.RcOp .LtE A s u w (D.le x y)
  | .int i, y, A, s, u, w, as, bs, r1, r2, f1, f2, al, ne, hu => by
    cases y with
    | int j =>
      rw [D.py] at r1 r2
      cases r1
      cases r2
      rw [D.le]
      exact Ob.RcOp.le_int _ _ _ _
    | _ => simp [D.alike] at al
  | .str i, y, A, s, u, w, as, bs, r1, r2, f1, f2, al, ne, hu => by
    cases y with
    | str j =>
      rw [D.py] at r1 r2
      cases r1
      cases r2
      rw [D.le]
      exact fun _ _ _ _ h => P.le_str h
    | _ => simp [D.alike] at al
  | .tup xs, y, A, s, u, w, as, bs, r1, r2, f1, f2, al, ne, hu => by
    cases y with
    | tup ys =>
      rw [D.py] at r1 r2
      simp only [D.fits] at f1 f2
      simp only [D.alike] at al
      simp only [D.dep] at hu
      rw [D.le, leL_O]
      cases r1 with
      | @tuple a o vs n _ as₁ h1 h2 h3 h4 =>
        cases r2 with
        | @tuple b o' ws n' _ bs₁ k1 k2 k3 k4 =>
          exact tupRc (by intro a b; simp) (fun e r he hr => Ob.RcOp.tuples_le ⟨_, h1, h2, _, h3⟩ ⟨_, k1, k2, _, k3⟩ (SeqAt.room_here hu) he hr) h4 k4 f1 f2 (units_in hu) (leAtDL xs ys A.in1 s f1 f2 al (units_in hu))
    | _ => simp [D.alike] at al
  | .non, y, A, s, u, w, as, bs, r1, r2, f1, f2, al, ne, hu => by cases y <;> simp_all [D.alike, D.eqv]
  | .bl _, y, A, s, u, w, as, bs, r1, r2, f1, f2, al, ne, hu => by cases y <;> simp_all [D.alike, D.eqv]
  | .rol _, y, A, s, u, w, as, bs, r1, r2, f1, f2, al, ne, hu => by cases y <;> simp_all [D.alike, D.eqv]
  | .loc _, y, A, s, u, w, as, bs, r1, r2, f1, f2, al, ne, hu => by cases y <;> simp_all [D.alike, D.eqv]
theorem leAtDL : ∀ (xs ys : List D) (A : Around) (s : Shared), D.fitsL xs = true → D.fitsL ys = true → D.alikeL xs ys = true → A.units + min (D.depL xs) (D.depL ys) < cLine →
    ∀ (j : Nat) (x y : D) (u w : Value) (as bs : List Addr), xs[j]? = some x → ys[j]? = some y → Reads s.heap u x.py as → Reads s.heap w y.py bs → D.eqv x y = false → Ob.RcOp .LtE A s u w (D.le x y)
  | [], _, _, _, _, _, _, _, _, _, _, _, _, _, _, e, _, _, _, _ => by simp at e
  | _ :: _, [], _, _, _, _, _, _, _, _, _, _, _, _, _, _, e, _, _, _ => by simp at e
  | a :: xs, b :: ys, A, s, f1, f2, al, hu, j, x, y, u, w, as, bs, e, e', r1, r2, ne => by
    rw [D.fitsL, Bool.and_eq_true] at f1 f2
    rw [D.alikeL, Bool.and_eq_true] at al
    rw [D.depL, D.depL] at hu
    cases j with
    | zero =>
      simp at e e'
      subst e e'
      exact leAtD a b A s u w as bs r1 r2 f1.1 f2.1 al.1 ne (SeqAt.room_head hu)
    | succ j => exact leAtDL xs ys A s f1.2 f2.2 al.2 (SeqAt.room_tail hu) j x y u w as bs (by simpa using e) (by simpa using e') r1 r2 ne
end
end DL

namespace DL
open PySem PySem.Spec PyProof.Rows L2

/-! ### the order of ints, texts, tuples -/
def okCmp (xs ys : List D) : Prop := D.fitsL xs = true ∧ D.fitsL ys = true ∧ D.alikeL xs ys = true ∧ min (D.depL xs) (D.depL ys) ≤ 60
instance (xs ys : List D) : Decidable (okCmp xs ys) := by unfold okCmp; infer_instance
def oLt : O2 := fun x y S => match x, y with
  | .int i, .int j => some (.bl (decide (i < j)), S)
  | .str i, .str j => some (.bl (decide (i.cps.toList < j.cps.toList)), S)
  | .tup xs, .tup ys => if okCmp xs ys then some (.bl (D.ltL xs ys), S) else none
  | _, _ => none
def oLe : O2 := fun x y S => match x, y with
  | .int i, .int j => some (.bl (decide (i ≤ j)), S)
  | .str i, .str j => some (.bl (!decide (j.cps.toList < i.cps.toList)), S)
  | .tup xs, .tup ys => if okCmp xs ys then some (.bl (D.leL xs ys), S) else none
  | _, _ => none
def oGt : O2 := fun x y S => match x, y with
  | .int i, .int j => some (.bl (decide (j < i)), S)
  | _, _ => none
def oGe : O2 := fun x y S => match x, y with
  | .int i, .int j => some (.bl (decide (j ≤ i)), S)
  | _, _ => none
/-- the items of what is read -/
def itemsOf (S : Store) : D → Option (List D)
  | .tup xs => some xs
  | .rol xs => some xs
  | .loc l => match S[l]? with
    | some (.lst xs) => some xs
    | _ => none
  | _ => none
section
variable {K : KW} {μ : List Addr} {H : Hp} {S : Store}
theorem itemsOf_ok (ok : Ok K μ H S) {x : D} {v : V} {xs : List D} (r : R K μ H x v) (h : itemsOf S x = some xs) : ∃ p vs, v = .ref p ∧ (SqL K H p vs ∨ SqT K H p vs) ∧ vs.length ≤ sizeLine ∧ RL K μ H xs vs := by
  cases r with
  | @tup p vs ys hs l rr => cases h; exact ⟨p, vs, rfl, .inr hs, l, rr⟩
  | @rol p vs ys hs l rr => cases h; exact ⟨p, vs, rfl, .inl hs.sq, l, rr⟩
  | @loc l p hp =>
    simp only [itemsOf] at h
    cases q : S[l]? with
    | none => rw [q] at h; cases h
    | some c =>
      rw [q] at h
      obtain ⟨p', h1, hc⟩ := ok.at q
      rw [hp] at h1; cases h1
      cases c with
      | dct _ => (first | exact hp.elim | exact h.elim | exact hh.elim | (cases h; done) | (cases hp; done) | (cases hh; done) | (rw [e1, e2] at hp; exact hp.elim) | (rw [e1] at hp; exact hp.elim) | (rw [q] at hp; exact hp.elim) | (rw [q] at h; cases h; done) | (rw [q] at hh; exact hh.elim) | (rw [q] at h; exact h.elim) | (rw [q2] at hh; exact hh.elim) | (rw [q2] at h; exact h.elim) | (rw [q2] at hp; exact hp.elim))
      | lst ys =>
        cases h
        obtain ⟨vs, hv, l, rr⟩ := hc
        exact ⟨p, vs, rfl, .inl (.inl (.inl hv)), l, rr⟩
  | _ => cases h
end
section
variable {X : Cx}
theorem d_lt (hu : X.A.units + 64 < cLine) : OpR X (compareOp .Lt) (r2 X.kw oLt) := by
  intro pins s σ H x y v u Q I rx ry hr
  obtain ⟨μ, S, a, b, ok, ra, rb, hp⟩ := hr
  unfold oLt at hp
  split at hp
  · cases ra
    cases rb
    exact op_lt pins s σ H _ _ v u Q I rx ry ⟨_, _, rfl, rfl, hp.same ok (.bl _)⟩
  · cases ra
    cases rb
    exact op_lt_str pins s σ H _ _ v u Q I rx ry ⟨_, _, rfl, rfl, hp.same ok (.bl _)⟩
  · rename_i xs ys
    split at hp
    · rename_i hc
      obtain ⟨f1, f2, al, hd⟩ := hc
      obtain ⟨as, r1⟩ := ra.reads I (by simpa [D.fits] using f1) rx
      obtain ⟨bs, r2⟩ := rb.reads I (by simpa [D.fits] using f2) ry
      have hu2 : X.A.in1.units + min (D.depL xs) (D.depL ys) < cLine := by
        have : X.A.in1.units = X.A.units + 1 := rfl
        omega
      rw [D.py] at r1 r2
      cases r1 with
      | @tuple a o vs n _ as₁ h1 h2 h3 h4 =>
        cases r2 with
        | @tuple b o' ws n' _ bs₁ k1 k2 k3 k4 =>
          rw [ltL_O] at hp
          have z := tupRc (A := X.A) (s := s) (a := a) (b := b) (f := D.lt) (z := fun a b => decide (a < b)) (by intro a b; simp) (fun e r he hr => Ob.RcOp.tuples_lt ⟨_, h1, h2, _, h3⟩ ⟨_, k1, k2, _, k3⟩ (by omega) he hr) h4 k4 f1 f2 hu2 (ltAtDL xs ys X.A.in1 s f1 f2 al hu2)
          exact z X.prog X.w X.xe (EP X pins σ Q) ⟨.bl _, H, I, rfl, hp.same ok (.bl _)⟩
    · exact hp.elim
  · exact hp.elim
theorem d_le (hu : X.A.units + 64 < cLine) : OpR X (compareOp .LtE) (r2 X.kw oLe) := by
  intro pins s σ H x y v u Q I rx ry hr
  obtain ⟨μ, S, a, b, ok, ra, rb, hp⟩ := hr
  unfold oLe at hp
  split at hp
  · cases ra
    cases rb
    exact op_le pins s σ H _ _ v u Q I rx ry ⟨_, _, rfl, rfl, hp.same ok (.bl _)⟩
  · cases ra
    cases rb
    exact op_le_str pins s σ H _ _ v u Q I rx ry ⟨_, _, rfl, rfl, hp.same ok (.bl _)⟩
  · rename_i xs ys
    split at hp
    · rename_i hc
      obtain ⟨f1, f2, al, hd⟩ := hc
      obtain ⟨as, r1⟩ := ra.reads I (by simpa [D.fits] using f1) rx
      obtain ⟨bs, r2⟩ := rb.reads I (by simpa [D.fits] using f2) ry
      have hu2 : X.A.in1.units + min (D.depL xs) (D.depL ys) < cLine := by
        have : X.A.in1.units = X.A.units + 1 := rfl
        omega
      rw [D.py] at r1 r2
      cases r1 with
      | @tuple a o vs n _ as₁ h1 h2 h3 h4 =>
        cases r2 with
        | @tuple b o' ws n' _ bs₁ k1 k2 k3 k4 =>
          rw [leL_O] at hp
          have z := tupRc (A := X.A) (s := s) (a := a) (b := b) (f := D.le) (z := fun a b => decide (a ≤ b)) (by intro a b; simp) (fun e r he hr => Ob.RcOp.tuples_le ⟨_, h1, h2, _, h3⟩ ⟨_, k1, k2, _, k3⟩ (by omega) he hr) h4 k4 f1 f2 hu2 (leAtDL xs ys X.A.in1 s f1 f2 al hu2)
          exact z X.prog X.w X.xe (EP X pins σ Q) ⟨.bl _, H, I, rfl, hp.same ok (.bl _)⟩
    · exact hp.elim
  · exact hp.elim
theorem d_gt : OpR X (compareOp .Gt) (r2 X.kw oGt) := by
  intro pins s σ H x y v u Q I rx ry hr
  obtain ⟨μ, S, a, b, ok, ra, rb, hp⟩ := hr
  unfold oGt at hp
  split at hp
  · cases ra
    cases rb
    exact op_gt pins s σ H _ _ v u Q I rx ry ⟨_, _, rfl, rfl, hp.same ok (.bl _)⟩
  · exact hp.elim
theorem d_ge : OpR X (compareOp .GtE) (r2 X.kw oGe) := by
  intro pins s σ H x y v u Q I rx ry hr
  obtain ⟨μ, S, a, b, ok, ra, rb, hp⟩ := hr
  unfold oGe at hp
  split at hp
  · cases ra
    cases rb
    exact op_ge pins s σ H _ _ v u Q I rx ry ⟨_, _, rfl, rfl, hp.same ok (.bl _)⟩
  · exact hp.elim
/-! ### is None -/
def isBl (b : Bool) : D → Bool
  | .bl a => a == b
  | _ => false
def oIs : O2 := fun x y S => match y with
  | .non => some (.bl (match x with | .non => true | _ => false), S)
  | .bl b => some (.bl (isBl b x), S)
  | _ => none
def oIsNot : O2 := fun x y S => match y with
  | .non => some (.bl (match x with | .non => false | _ => true), S)
  | .bl b => some (.bl (!isBl b x), S)
  | _ => none
theorem is_bl {pins : List (Addr × Obj)} {s : Shared} {σ : L2.St} {H : Hp} {μ : List Addr} {x : D} {v : V} {u : Value} {b : Bool} (I : Inv X pins σ H s) (r : R X.kw μ H x v) (rx : RelV v u) : PySem.plainIs u (.bool b) = true ∧ (u == Value.bool b) = isBl b x := by
  cases r with
  | bl a =>
    cases rx
    refine ⟨rfl, ?_⟩
    cases a <;> cases b <;> rfl
  | non => cases rx; exact ⟨rfl, rfl⟩
  | int i => obtain ⟨t, rfl⟩ := rx; exact ⟨rfl, rfl⟩
  | str i => obtain ⟨t, rfl⟩ := rx; exact ⟨rfl, rfl⟩
  | tup h1 h2 h3 => cases rx; exact ⟨rfl, rfl⟩
  | rol h1 h2 h3 => cases rx; exact ⟨rfl, rfl⟩
  | loc h1 => cases rx; exact ⟨rfl, rfl⟩
theorem d_is : OpR X (compareOp .Is) (r2 X.kw oIs) := by
  intro pins s σ H x y v u Q I rx ry hr
  obtain ⟨μ, S, a, b, ok, ra, rb, hp⟩ := hr
  cases rb with
  | non =>
    refine op_isN pins s σ H _ _ v u Q I rx ry ⟨rfl, ?_⟩
    cases ra <;> exact hp.same ok (.bl _)
  | bl b =>
    cases ry
    obtain ⟨h1, h2⟩ := is_bl (b := b) I ra rx
    exact PySem.wpAny_is_plain h1 (by rw [h2]; exact ⟨.bl _, H, I, rfl, hp.same ok (.bl _)⟩)
  | _ => exact hp.elim
theorem d_isnot : OpR X (compareOp .IsNot) (r2 X.kw oIsNot) := by
  intro pins s σ H x y v u Q I rx ry hr
  obtain ⟨μ, S, a, b, ok, ra, rb, hp⟩ := hr
  cases rb with
  | non =>
    refine op_notN pins s σ H _ _ v u Q I rx ry ⟨rfl, ?_⟩
    cases ra <;> exact hp.same ok (.bl _)
  | bl b =>
    cases ry
    obtain ⟨h1, h2⟩ := is_bl (b := b) I ra rx
    exact PySem.wpAny_isNot_plain h1 (by rw [h2]; exact ⟨.bl _, H, I, rfl, hp.same ok (.bl _)⟩)
  | _ => exact hp.elim
/-! ### in -/
def okIn (x : D) (xs : List D) : Prop := x.fits = true ∧ D.fitsL xs = true ∧ min (D.depL xs) x.dep ≤ 60
instance (x : D) (xs : List D) : Decidable (okIn x xs) := by unfold okIn; infer_instance
def inL (x : D) (xs : List D) : Bool := xs.any fun z => D.eqv z x
def oIn : O2 := fun x y S => match itemsOf S y with
  | some xs => if okIn x xs then some (.bl (inL x xs), S) else none
  | none => match x, y with
    | .str i, .str j => some (.bl (!(Builtin.Str.occurrences j i 0 j.length 1).isEmpty), S)
    | _, _ => none
def oNotIn : O2 := fun x y S => match itemsOf S y with
  | some xs => if okIn x xs then some (.bl (!inL x xs), S) else none
  | none => match x, y with
    | .str i, .str j => some (.bl (!(!(Builtin.Str.occurrences j i 0 j.length 1).isEmpty)), S)
    | _, _ => none
theorem any_pys (x : D) (fx : x.fits = true) : ∀ xs : List D, D.fitsL xs = true → (D.pys xs).any (fun z => PyData.eqv z x.py) = inL x xs
  | [], _ => rfl
  | y :: xs, f => by
    rw [D.fitsL, Bool.and_eq_true] at f
    have ih := any_pys x fx xs f.2
    unfold inL at ih ⊢
    rw [D.pys, List.any_cons, List.any_cons, ih, D.eqv_py y x f.1 fx]
theorem inItems {pins : List (Addr × Obj)} {s : Shared} {σ : L2.St} {H : Hp} {μ : List Addr} (hu : X.A.units + 64 < cLine) (I : Inv X pins σ H s) {x : D} {xs : List D} {vs : List V} {v : V} {u : Value} {its : List Value} (rx : R X.kw μ H x v) (ru : RelV v u) (rr : RL X.kw μ H xs vs) (rv : Vals vs its) (h : okIn x xs) :
    ∃ e : Value → Bool, (∀ y, y ∈ its.toArray → SeqAt.EqAt X.A.in1 s y u (e y)) ∧ its.toArray.any e = inL x xs := by
  obtain ⟨fx, fl, hd⟩ := h
  obtain ⟨as, r1⟩ := rx.reads I fx ru
  obtain ⟨bs, r2⟩ := Dp.readsAll I _ _ _ (rr.dp fl) rv
  refine ⟨fun y => PyData.eqv (SeqAt.readOf s.heap y) x.py, SeqAt.items_eqAt r2 r1 (D.canLayL xs fl) (D.canLay x fx) (by rw [D.depthL xs fl, D.depth x fx]; omega), ?_⟩
  rw [← any_pys x fx xs fl, ← SeqAt.readsAll_map _ _ _ (D.canLayL xs fl) r2]
  simp [List.any_map, Function.comp_def]
theorem d_in (hu : X.A.units + 64 < cLine) : OpR X (compareOp .In) (r2 X.kw oIn) := by
  intro pins s σ H x y v u Q I rx ry hr
  obtain ⟨μ, S, a, b, ok, ra, rb, hp⟩ := hr
  unfold oIn at hp
  cases q : itemsOf S b with
  | some xs =>
    rw [q] at hp
    simp only at hp
    split at hp
    · rename_i hc
      obtain ⟨p, vs, rfl, hs, hl, rr⟩ := itemsOf_ok ok rb q
      cases ry
      rcases hs with hs | hs
      · obtain ⟨its, rv, pl, _⟩ := I.list hs
        obtain ⟨e, he, ha⟩ := inItems hu I ra rx rr rv hc
        exact SeqAt.in_listAt e pl.isList he ⟨.bl _, H, I, rfl, by rw [ha]; exact hp.same ok (.bl _)⟩
      · obtain ⟨its, rv, pl, _⟩ := I.tuple hs
        obtain ⟨e, he, ha⟩ := inItems hu I ra rx rr rv hc
        exact SeqAt.in_tupleAt e pl he ⟨.bl _, H, I, rfl, by rw [ha]; exact hp.same ok (.bl _)⟩
    · exact hp.elim
  | none =>
    rw [q] at hp
    simp only at hp
    split at hp
    · cases ra
      cases rb
      exact op_in_str pins s σ H _ _ v u Q I rx ry ⟨_, _, rfl, rfl, hp.same ok (.bl _)⟩
    · exact hp.elim
theorem d_notin (hu : X.A.units + 64 < cLine) : OpR X (compareOp .NotIn) (r2 X.kw oNotIn) := by
  intro pins s σ H x y v u Q I rx ry hr
  obtain ⟨μ, S, a, b, ok, ra, rb, hp⟩ := hr
  unfold oNotIn at hp
  cases q : itemsOf S b with
  | some xs =>
    rw [q] at hp
    simp only at hp
    split at hp
    · rename_i hc
      obtain ⟨p, vs, rfl, hs, hl, rr⟩ := itemsOf_ok ok rb q
      cases ry
      rcases hs with hs | hs
      · obtain ⟨its, rv, pl, _⟩ := I.list hs
        obtain ⟨e, he, ha⟩ := inItems hu I ra rx rr rv hc
        exact SeqAt.notIn_listAt e pl.isList he ⟨.bl _, H, I, rfl, by rw [ha]; exact hp.same ok (.bl _)⟩
      · obtain ⟨its, rv, pl, _⟩ := I.tuple hs
        obtain ⟨e, he, ha⟩ := inItems hu I ra rx rr rv hc
        exact SeqAt.notIn_tupleAt e pl he ⟨.bl _, H, I, rfl, by rw [ha]; exact hp.same ok (.bl _)⟩
    · exact hp.elim
  | none =>
    rw [q] at hp
    simp only at hp
    split at hp
    · cases ra
      cases rb
      exact op_notin_str pins s σ H _ _ v u Q I rx ry ⟨_, _, rfl, rfl, hp.same ok (.bl _)⟩
    · exact hp.elim
/-! ### subscripts, slices -/
def oIx : O2 := fun x y S => match y with
  | .int i => match itemsOf S x with
    | some xs => match atI xs i with
      | some d => some (d, S)
      | none => none
    | none => match x with
      | .str z => if z.length ≤ sizeLine then match atI z.cps.toList i with
          | some c => some (.str ⟨#[c]⟩, S)
          | none => none
        else none
      | _ => none
  | _ => none
theorem RL.atI {K : KW} {μ : List Addr} {H : Hp} {xs : List D} {vs : List V} {i : Int} {d : D} (r : RL K μ H xs vs) (h : atI xs i = some d) : ∃ v, L2.atI vs i = some v ∧ R K μ H d v := by
  unfold L2.atI at h ⊢
  rw [← r.length]
  cases q : ixN xs.length i with
  | none => rw [q] at h; cases h
  | some j =>
    rw [q] at h
    exact r.get h
theorem d_ix : IxR X (r2 X.kw oIx) := by
  intro value slice pins s σ H x y v u Q I rx ry hr hsub
  obtain ⟨μ, S, a, b, ok, ra, rb, hp⟩ := hr
  cases rb with
  | int i =>
    simp only [oIx] at hp
    cases q : itemsOf S a with
    | some xs =>
      rw [q] at hp
      simp only at hp
      cases q2 : atI xs i with
      | none => rw [q2] at hp; exact hp.elim
      | some d =>
        rw [q2] at hp
        obtain ⟨p, vs, rfl, hs, hl, rr⟩ := itemsOf_ok ok ra q
        obtain ⟨w, hw, rw'⟩ := rr.atI q2
        rcases hs with hs | hs
        · exact ix_list value slice pins s σ H _ _ v u Q I rx ry ⟨p, vs, i, w, rfl, rfl, hs, hw, hp.same ok rw'⟩ hsub
        · exact ix_tup value slice pins s σ H _ _ v u Q I rx ry ⟨p, vs, i, w, rfl, rfl, hs, hw, hp.same ok rw'⟩ hsub
    | none =>
      rw [q] at hp
      simp only at hp
      cases ra with
      | str z =>
        simp only at hp
        split at hp
        · rename_i hl
          cases q2 : atI z.cps.toList i with
          | none => rw [q2] at hp; exact hp.elim
          | some c =>
            rw [q2] at hp
            exact ix_str value slice pins s σ H _ _ v u Q I rx ry ⟨z, i, c, rfl, rfl, hl, q2, hp.same ok (.str _)⟩ hsub
        · exact hp.elim
      | _ => exact hp.elim
  | _ => exact hp.elim
variable {W : WX} {pos : Pos} {a b c e : Expr} {es : List Expr} {f g h : DE}
theorem e_ix (ha : PE X a (tE X.kw X.mg W f)) (hb : PE X b (tE X.kw X.mg W g)) (hs : PlainIx b := by exact fun _ _ => rfl) : PE X (.Subscript a b pos) (tE X.kw X.mg W (cBin oIx f g)) := PE.weak (pe_ix d_ix ha hb hs) fun _ _ _ => tE_bin
abbrev DO := Sg → Store → Res (Option Int)
def cNoPart : DO := fun _ S => .ok none S
def cPart (f : DE) : DO := fun σ S => (f σ S).bind fun x S1 => match x with
  | .int i => .ok (some i) S1
  | _ => .no
abbrev RO : List Addr → Hp → Option Int → Option Int → Prop := fun _ _ a b => a = b
abbrev tO (K : KW) (mg : Str → Option Value) (W : WX) (f : DO) : TO := tG K mg W RO f
theorem PO.weak {X : Cx} {e : Option Expr} {t t' : TO} (h : PO X e t) (w : ∀ σ H Q, t' σ H Q → t σ H Q) : PO X e t' := ⟨fun pins s σ H Q I q => h.run pins s σ H Q I (w σ H Q q)⟩
theorem o_none : PO X none (tO X.kw X.mg W cNoPart) := PO.weak po_none fun σ H Q h => by
  obtain ⟨μ, σD, S, ok, en, h⟩ := h
  exact h μ H none (Ext.refl _ _) ok rfl
theorem o_some (he : PE X e (tE X.kw X.mg W f)) : PO X (some e) (tO X.kw X.mg W (cPart f)) := PO.weak (po_some he) fun σ H Q h => tG1 (RA := R X.kw) h fun x S μ H v ok rx h => by
  cases rx with
  | int i => exact ⟨i, rfl, h μ H (some i) (Ext.refl _ _) ok rfl⟩
  | _ => exact h.elim
def cutD (xs : List D) (lo hi : Option Int) : List D := (xs.drop (HT.sIx xs.length 0 lo)).take (HT.sIx xs.length xs.length hi - HT.sIx xs.length 0 lo)
def oCut (x : D) (lo hi : Option Int) (S : Store) : Option (D × Store) := match x with
  | .tup xs => some (.tup (cutD xs lo hi), S)
  | .str z => if z.length ≤ sizeLine then some (.str (cutS z lo hi), S) else none
  | x => match itemsOf S x with
    | some xs => some (.loc S.length, S ++ [.lst (cutD xs lo hi)])
    | none => none
def cCut (f : DE) (l u : DO) : DE := fun σ S => (f σ S).bind fun x S1 => (l σ S1).bind fun lo S2 => (u σ S2).bind fun hi S3 => Res.of (oCut x lo hi S3)
theorem RL.cut {K : KW} {μ : List Addr} {H : Hp} {xs : List D} {vs : List V} {lo hi : Option Int} (r : RL K μ H xs vs) : RL K μ H (cutD xs lo hi) (cutV vs lo hi) := by
  unfold cutD cutV
  rw [r.length]
  exact (r.drop _).take _
end
end DL

namespace DL
open PySem PySem.Spec PyProof.Rows L2
section
variable {X : Cx} {W : WX} {pos : Pos} {a b c e : Expr} {es : List Expr} {f g h : DE} {K : KW} {mg : Str → Option Value}
/-! ### slices -/
theorem items_lst {H : Hp} {μ : List Addr} {S : Store} (ok : Ok K μ H S) {l : Nat} {p : Addr} {xs : List D} (hl : μ[l]? = some p) (z : itemsOf S (.loc l) = some xs) : ∃ ws, H p = some (.lst ws) := by
  simp only [itemsOf] at z
  cases q : S[l]? with
  | none => rw [q] at z; cases z
  | some c =>
    obtain ⟨p', h1, hc⟩ := ok.at q
    rw [hl] at h1; cases h1
    cases c with
    | dct _ => rw [q] at z; cases z
    | lst ws =>
      obtain ⟨vs, h, _⟩ := hc
      exact ⟨vs, h⟩
def rSl (K : KW) : V → Option Int → Option Int → Hp → VK → Prop := fun v lo hi H Q => ∃ μ S x, Ok K μ H S ∧ R K μ H x v ∧ PV K (R K) μ H (oCut x lo hi S) Q
theorem d_cut : SlR X (rSl X.kw) := by
  intro pins s σ H x v vl vu lo hi sl Q I rx hs pl pu hr
  obtain ⟨μ, S, d, ok, rd, hp⟩ := hr
  cases rd with
  | @tup p vs xs ht l rr =>
    refine sl_tupA pins s σ H _ v vl vu lo hi sl Q I rx hs pl pu ⟨p, vs, rfl, ht, fun hw => ?_, fun _ => hp.tup ok (Nat.le_trans (cutV_length _ _ _) l) rr.cut⟩
    have e : cutD xs lo hi = xs := by
      unfold cutD
      rw [rr.length, hw.1, hw.2, List.drop_zero, Nat.sub_zero, ← rr.length, List.take_length]
    rw [oCut, e] at hp
    exact hp.same ok (.tup ht l rr)
  | str z =>
    simp only [oCut] at hp
    split at hp
    · rename_i hl
      exact sl_str pins s σ H _ v vl vu lo hi sl Q I rx hs pl pu ⟨z, rfl, hl, hp.same ok (.str _)⟩
    · exact hp.elim
  | @rol p vs xs ht l rr =>
    exact sl_list pins s σ H _ v vl vu lo hi sl Q I rx hs pl pu ⟨p, vs, rfl, ht.sq, PV.lst hp ok (Nat.le_trans (cutV_length _ _ _) l) rr.cut⟩
  | @loc l p hl =>
    simp only [oCut] at hp
    cases q : itemsOf S (.loc l) with
    | none => rw [q] at hp; exact hp.elim
    | some xs =>
      rw [q] at hp
      obtain ⟨p', vs, e1, hs', hz, rr⟩ := itemsOf_ok ok (R.loc hl) q
      cases e1
      rcases hs' with hs' | hs'
      · exact sl_list pins s σ H _ v vl vu lo hi sl Q I rx hs pl pu ⟨p, vs, rfl, hs', PV.lst hp ok (Nat.le_trans (cutV_length _ _ _) hz) rr.cut⟩
      · obtain ⟨ws, hw⟩ := items_lst ok hl q
        rcases hs' with (z | ⟨o, z⟩) | ⟨o, its, n, hk, hc, _⟩
        · rw [hw] at z; cases z
        · rw [hw] at z; cases z
        · obtain ⟨_, its', n', _, e⟩ := I.hok _ _ hw
          have := I.kIn _ _ hk
          rw [e] at this
          cases this
          exact absurd hc (by simp)
  | _ => exact hp.elim
theorem e_cut {lo hi : Option Expr} {p2 : Pos} {l u : DO} (he : PE X e (tE X.kw X.mg W f)) (hl : PO X lo (tO X.kw X.mg W l)) (hu : PO X hi (tO X.kw X.mg W u)) : PE X (.Subscript e (.Slice lo hi none p2) pos) (tE X.kw X.mg W (cCut f l u)) := by
  refine PE.weak (pe_slice d_cut he hl hu) fun σ H Q hh => ?_
  refine tG1e (k := fun σ x S1 => (l σ S1).bind fun lo S2 => (u σ S2).bind fun hi S3 => Res.of (oCut x lo hi S3)) (RA := R X.kw) hh fun σD x S μ H v ok en rx hh => ?_
  refine ⟨μ, σD, S, ok, en, Post.bind hh fun lo S2 μ2 H2 lo' x2 ok2 rl hh => ?_⟩
  cases rl
  refine ⟨μ2, σD, S2, ok2, en.mono x2, Post.bind hh fun hi S3 μ3 H3 hi' x3 ok3 ru hh => ?_⟩
  cases ru
  exact ⟨μ3, S3, x, ok3, (rx.mono x2).mono x3, hh.of⟩
/-! ### calls of built-in functions -/
def oLen : OA := fun xs S => match xs with
  | [x] => match itemsOf S x with
    | some ys => some (.int ys.length, S)
    | none => match x with
      | .str z => if z.length ≤ sizeLine then some (.int z.length, S) else none
      | _ => none
  | _ => none
theorem RL.one {μ : List Addr} {H : Hp} {x : D} {vs : List V} (r : RL K μ H [x] vs) : ∃ v, vs = [v] ∧ R K μ H x v := by
  cases r with
  | cons r t => cases t; exact ⟨_, rfl, r⟩
theorem RL.two {μ : List Addr} {H : Hp} {x y : D} {vs : List V} (r : RL K μ H [x, y] vs) : ∃ v u, vs = [v, u] ∧ R K μ H x v ∧ R K μ H y u := by
  cases r with
  | cons r t =>
    obtain ⟨u, rfl, r2⟩ := t.one
    exact ⟨_, u, rfl, r, r2⟩
theorem d_len : CallR X (.builtin "len") (rA X.kw oLen) := by
  intro pins s σ H xs us Q I r hr
  obtain ⟨μ, S, ds, ok, rd, hp⟩ := hr
  unfold oLen at hp
  split at hp
  · rename_i x
    obtain ⟨v, rfl, rx⟩ := rd.one
    cases q : itemsOf S x with
    | some ys =>
      rw [q] at hp
      obtain ⟨p, vs, rfl, hs, hl, rr⟩ := itemsOf_ok ok rx q
      refine call_len_seq pins s σ H _ us Q I r ⟨p, vs, rfl, hs, ?_⟩
      rw [← rr.length]
      exact hp.same ok (.int _)
    | none =>
      rw [q] at hp
      simp only at hp
      cases rx with
      | str z =>
        simp only at hp
        split at hp
        · rename_i hl
          exact call_len_str pins s σ H _ us Q I r ⟨z, rfl, hl, hp.same ok (.int _)⟩
        · exact hp.elim
      | _ => exact hp.elim
  · exact hp.elim
def oInt : OA := fun xs S => match xs with
  | [.int i] => some (.int i, S)
  | [.bl b] => some (.int (if b then 1 else 0), S)
  | _ => none
theorem d_int : CallR X (.type "int") (rA X.kw oInt) := by
  intro pins s σ H xs us Q I r hr
  obtain ⟨μ, S, ds, ok, rd, hp⟩ := hr
  unfold oInt at hp
  split at hp
  · obtain ⟨v, rfl, rx⟩ := rd.one
    cases rx
    exact call_int1 pins s σ H _ us Q I r (.inl ⟨_, rfl, hp.same ok (.int _)⟩)
  · obtain ⟨v, rfl, rx⟩ := rd.one
    cases rx
    exact call_int1 pins s σ H _ us Q I r (.inr ⟨_, rfl, hp.same ok (.int _)⟩)
  · exact hp.elim
def oAbs : OA := fun xs S => match xs with
  | [.int i] => some (.int (if i < 0 then -i else i), S)
  | _ => none
theorem d_abs : CallR X (.builtin "abs") (rA X.kw oAbs) := by
  intro pins s σ H xs us Q I r hr
  obtain ⟨μ, S, ds, ok, rd, hp⟩ := hr
  unfold oAbs at hp
  split at hp
  · obtain ⟨v, rfl, rx⟩ := rd.one
    cases rx
    exact call_abs pins s σ H _ us Q I r ⟨_, rfl, hp.same ok (.int _)⟩
  · exact hp.elim
/-- max, min of two ints -/
def oMax : OA := fun xs S => match xs with
  | [.int i, .int j] => some (.int (if j > i then j else i), S)
  | _ => none
def oMin : OA := fun xs S => match xs with
  | [.int i, .int j] => some (.int (if j < i then j else i), S)
  | _ => none
theorem d_max (hc : X.calm = true) : CallR X (.builtin "max") (rA X.kw oMax) := by
  intro pins s σ H xs us Q I r hr
  obtain ⟨μ, S, ds, ok, rd, hp⟩ := hr
  unfold oMax at hp
  split at hp
  · obtain ⟨v, u, rfl, rx, ry⟩ := rd.two
    cases rx
    cases ry
    exact call_max2 hc pins s σ H _ us Q I r ⟨_, _, rfl, hp.same ok (.int _)⟩
  · exact hp.elim
theorem d_min (hc : X.calm = true) : CallR X (.builtin "min") (rA X.kw oMin) := by
  intro pins s σ H xs us Q I r hr
  obtain ⟨μ, S, ds, ok, rd, hp⟩ := hr
  unfold oMin at hp
  split at hp
  · obtain ⟨v, u, rfl, rx, ry⟩ := rd.two
    cases rx
    cases ry
    exact call_min2 hc pins s σ H _ us Q I r ⟨_, _, rfl, hp.same ok (.int _)⟩
  · exact hp.elim
def oTuple : OA := fun xs S => match xs with
  | [x] => match itemsOf S x with
    | some ys => some (.tup ys, S)
    | none => none
  | _ => none
def oList : OA := fun xs S => match xs with
  | [x] => match itemsOf S x with
    | some ys => some (.loc S.length, S ++ [.lst ys])
    | none => none
  | _ => none
/-- a list at an address that is tracked is no tuple -/
theorem loc_notT {pins : List (Addr × Obj)} {s : Shared} {σ : L2.St} {H : Hp} {p : Addr} {ws vs : List V} (I : Inv X pins σ H s) (hw : H p = some (.lst ws)) (h : SqT X.kw H p vs) : False := by
  rcases h with (z | ⟨o, z⟩) | ⟨o, its, n, hk, hc, _⟩
  · rw [hw] at z; cases z
  · rw [hw] at z; cases z
  · obtain ⟨_, its', n', _, e⟩ := I.hok _ _ hw
    have := I.kIn _ _ hk
    rw [e] at this
    cases this
    exact absurd hc (by simp)
theorem d_tuple : CallR X (.type "tuple") (rA X.kw oTuple) := by
  intro pins s σ H xs us Q I r hr
  obtain ⟨μ, S, ds, ok, rd, hp⟩ := hr
  unfold oTuple at hp
  split at hp
  · rename_i x
    obtain ⟨v, rfl, rx⟩ := rd.one
    cases q : itemsOf S x with
    | none => rw [q] at hp; exact hp.elim
    | some ys =>
      rw [q] at hp
      simp only at hp
      cases rx with
      | @tup p vs zs hs l rr =>
        cases q
        exact call_tuple_of pins s σ H _ us Q I r ⟨p, vs, rfl, .inr ⟨hs, hp.same ok (.tup hs l rr)⟩⟩
      | @rol p vs zs hs l rr =>
        cases q
        exact call_tuple_of pins s σ H _ us Q I r ⟨p, vs, rfl, .inl ⟨hs.sq, hp.tup ok l rr⟩⟩
      | @loc l p hl =>
        obtain ⟨p', vs, e1, hs', hz, rr⟩ := itemsOf_ok ok (R.loc hl) q
        cases e1
        rcases hs' with hs' | hs'
        · exact call_tuple_of pins s σ H _ us Q I r ⟨p, vs, rfl, .inl ⟨hs', hp.tup ok hz rr⟩⟩
        · obtain ⟨ws, hw⟩ := items_lst ok hl q
          exact (loc_notT I hw hs').elim
      | _ => cases q
  · exact hp.elim
theorem d_list : CallR X (.type "list") (rA X.kw oList) := by
  intro pins s σ H xs us Q I r hr
  obtain ⟨μ, S, ds, ok, rd, hp⟩ := hr
  unfold oList at hp
  split at hp
  · rename_i x
    obtain ⟨v, rfl, rx⟩ := rd.one
    cases q : itemsOf S x with
    | none => rw [q] at hp; exact hp.elim
    | some ys =>
      rw [q] at hp
      simp only at hp
      obtain ⟨p, vs, rfl, hs, hl, rr⟩ := itemsOf_ok ok rx q
      exact call_list_of pins s σ H _ us Q I r ⟨p, vs, rfl, hs, hp.lst ok hl rr⟩
  · exact hp.elim
/-- sum of ints, any and all of bools -/
def intsOf : List D → Option (List Int)
  | [] => some []
  | .int i :: r => (intsOf r).map (i :: ·)
  | _ :: _ => none
def bolsOf : List D → Option (List Bool)
  | [] => some []
  | .bl i :: r => (bolsOf r).map (i :: ·)
  | _ :: _ => none
theorem intsOf_eq : ∀ {xs : List D} {ns : List Int}, intsOf xs = some ns → xs = ns.map D.int
  | [], ns, h => by cases h; rfl
  | .int i :: r, ns, h => by
    rw [intsOf] at h
    cases q : intsOf r with
    | none => rw [q] at h; cases h
    | some ms => rw [q] at h; cases h; rw [intsOf_eq q]; rfl
  | .non :: _, _, h => by simp [intsOf] at h
  | .bl _ :: _, _, h => by simp [intsOf] at h
  | .str _ :: _, _, h => by simp [intsOf] at h
  | .tup _ :: _, _, h => by simp [intsOf] at h
  | .rol _ :: _, _, h => by simp [intsOf] at h
  | .loc _ :: _, _, h => by simp [intsOf] at h
theorem intsOf_map : ∀ ns : List Int, intsOf (ns.map D.int) = some ns
  | [] => rfl
  | n :: r => by rw [List.map_cons, intsOf, intsOf_map r]; rfl
theorem bolsOf_map : ∀ ns : List Bool, bolsOf (ns.map D.bl) = some ns
  | [] => rfl
  | n :: r => by rw [List.map_cons, bolsOf, bolsOf_map r]; rfl
theorem bolsOf_eq : ∀ {xs : List D} {ns : List Bool}, bolsOf xs = some ns → xs = ns.map D.bl
  | [], ns, h => by cases h; rfl
  | .bl i :: r, ns, h => by
    rw [bolsOf] at h
    cases q : bolsOf r with
    | none => rw [q] at h; cases h
    | some ms => rw [q] at h; cases h; rw [bolsOf_eq q]; rfl
  | .non :: _, _, h => by simp [bolsOf] at h
  | .int _ :: _, _, h => by simp [bolsOf] at h
  | .str _ :: _, _, h => by simp [bolsOf] at h
  | .tup _ :: _, _, h => by simp [bolsOf] at h
  | .rol _ :: _, _, h => by simp [bolsOf] at h
  | .loc _ :: _, _, h => by simp [bolsOf] at h
theorem RL.bolsV {μ : List Addr} {H : Hp} : ∀ {ns : List Bool} {vs : List V}, RL K μ H (ns.map D.bl) vs → vs = ns.map V.bl
  | [], _, .nil => rfl
  | n :: r, _, .cons h t => by
    cases h
    rw [RL.bolsV t]; rfl
/-- a list (no tuple) -/
def listOf (S : Store) : D → Option (List D)
  | .rol xs => some xs
  | .loc l => match S[l]? with
    | some (.lst xs) => some xs
    | _ => none
  | _ => none
theorem listOf_ok {μ : List Addr} {H : Hp} {S : Store} (ok : Ok K μ H S) {x : D} {v : V} {xs : List D} (r : R K μ H x v) (h : listOf S x = some xs) : ∃ p vs, v = .ref p ∧ SqL K H p vs ∧ vs.length ≤ sizeLine ∧ RL K μ H xs vs := by
  cases r with
  | @rol p vs ys hs l rr => cases h; exact ⟨p, vs, rfl, hs.sq, l, rr⟩
  | @loc l p hp =>
    simp only [listOf] at h
    cases q : S[l]? with
    | none => rw [q] at h; cases h
    | some c =>
      rw [q] at h
      obtain ⟨p', h1, hc⟩ := ok.at q
      rw [hp] at h1; cases h1
      cases c with
      | dct _ => (first | exact hp.elim | exact h.elim | exact hh.elim | (cases h; done) | (cases hp; done) | (cases hh; done) | (rw [e1, e2] at hp; exact hp.elim) | (rw [e1] at hp; exact hp.elim) | (rw [q] at hp; exact hp.elim) | (rw [q] at h; cases h; done) | (rw [q] at hh; exact hh.elim) | (rw [q] at h; exact h.elim) | (rw [q2] at hh; exact hh.elim) | (rw [q2] at h; exact h.elim) | (rw [q2] at hp; exact hp.elim))
      | lst ys =>
        cases h
        obtain ⟨vs, hv, l, rr⟩ := hc
        exact ⟨p, vs, rfl, .inl (.inl hv), l, rr⟩
  | _ => cases h
def oSum : OA := fun xs S => match xs with
  | [x] => match (listOf S x).bind intsOf with
    | some ns => some (.int ns.sum, S)
    | none => none
  | _ => none
def oAny : OA := fun xs S => match xs with
  | [x] => match (listOf S x).bind bolsOf with
    | some ns => some (.bl (ns.any id), S)
    | none => none
  | _ => none
def oAll : OA := fun xs S => match xs with
  | [x] => match (listOf S x).bind bolsOf with
    | some ns => some (.bl (ns.all id), S)
    | none => none
  | _ => none
theorem listInts {μ : List Addr} {H : Hp} {S : Store} (ok : Ok K μ H S) {x : D} {v : V} {ns : List Int} (r : R K μ H x v) (h : (listOf S x).bind intsOf = some ns) : ∃ p, v = .ref p ∧ SqL K H p (ns.map V.int) := by
  cases q : listOf S x with
  | none => rw [q] at h; cases h
  | some ys =>
    rw [q] at h
    obtain ⟨p, vs, rfl, hs, hl, rr⟩ := listOf_ok ok r q
    have e := intsOf_eq (show intsOf ys = some ns from h)
    subst e
    rw [rr.intsV] at hs
    exact ⟨p, rfl, hs⟩
theorem listBols {μ : List Addr} {H : Hp} {S : Store} (ok : Ok K μ H S) {x : D} {v : V} {ns : List Bool} (r : R K μ H x v) (h : (listOf S x).bind bolsOf = some ns) : ∃ p, v = .ref p ∧ SqL K H p (ns.map V.bl) := by
  cases q : listOf S x with
  | none => rw [q] at h; cases h
  | some ys =>
    rw [q] at h
    obtain ⟨p, vs, rfl, hs, hl, rr⟩ := listOf_ok ok r q
    have e := bolsOf_eq (show bolsOf ys = some ns from h)
    subst e
    rw [rr.bolsV] at hs
    exact ⟨p, rfl, hs⟩
theorem d_sum (hc : X.calm = true) : CallR X (.builtin "sum") (rA X.kw oSum) := by
  intro pins s σ H xs us Q I r hr
  obtain ⟨μ, S, ds, ok, rd, hp⟩ := hr
  unfold oSum at hp
  split at hp
  · obtain ⟨v, rfl, rx⟩ := rd.one
    split at hp
    · rename_i ns q
      obtain ⟨p, rfl, hs⟩ := listInts ok rx q
      exact cr_sum hc pins s σ H _ us Q I r ⟨p, ns, rfl, hs, hp.same ok (.int _)⟩
    · exact hp.elim
  · exact hp.elim
theorem d_any (hc : X.calm = true) : CallR X (.builtin "any") (rA X.kw oAny) := by
  intro pins s σ H xs us Q I r hr
  obtain ⟨μ, S, ds, ok, rd, hp⟩ := hr
  unfold oAny at hp
  split at hp
  · obtain ⟨v, rfl, rx⟩ := rd.one
    split at hp
    · rename_i ns q
      obtain ⟨p, rfl, hs⟩ := listBols ok rx q
      exact cr_any hc pins s σ H _ us Q I r ⟨p, ns, rfl, hs, hp.same ok (.bl _)⟩
    · exact hp.elim
  · exact hp.elim
theorem d_all (hc : X.calm = true) : CallR X (.builtin "all") (rA X.kw oAll) := by
  intro pins s σ H xs us Q I r hr
  obtain ⟨μ, S, ds, ok, rd, hp⟩ := hr
  unfold oAll at hp
  split at hp
  · obtain ⟨v, rfl, rx⟩ := rd.one
    split at hp
    · rename_i ns q
      obtain ⟨p, rfl, hs⟩ := listBols ok rx q
      exact cr_all hc pins s σ H _ us Q I r ⟨p, ns, rfl, hs, hp.same ok (.bl _)⟩
    · exact hp.elim
  · exact hp.elim
/-! ### sorted -/
def okSort (xs : List D) : Prop := D.fitsL xs = true ∧ D.depL xs ≤ 60 ∧ (∀ x ∈ xs, ∀ y ∈ xs, PySem.W.alike x.py y.py = true) ∧ PySem.W.Sortable (xs.map D.py)
noncomputable def sortD (xs : List D) : List D := xs.mergeSort (PySem.W.dataLe false D.py)
open Classical in
noncomputable def oSorted : OA := fun xs S => match xs with
  | [x] => match listOf S x with
    | some ys => if okSort ys then some (.loc S.length, S ++ [.lst (sortD ys)]) else none
    | none => none
  | _ => none
theorem each_of {pins : List (Addr × Obj)} {s : Shared} {σ : L2.St} {H : Hp} {μ : List Addr} (I : Inv X pins σ H s) : ∀ {xs : List D} {vs : List V} {us : List Value}, RL X.kw μ H xs vs → Vals vs us → D.fitsL xs = true →
    PySem.W.EachIs (fun (u : Value) (d : D) => ∃ v, RelV v u ∧ R X.kw μ H d v) us xs ∧ PySem.W.EachIs (fun (u : Value) (d : D) => ∃ as, Reads s.heap u d.py as) us xs
  | _, _, _, .nil, .nil, _ => ⟨.nil, .nil⟩
  | _, _, _, .cons r t, .cons q qs, f => by
    rw [D.fitsL, Bool.and_eq_true] at f
    obtain ⟨h1, h2⟩ := each_of I t qs f.2
    exact ⟨.cons ⟨_, q, r⟩ h1, .cons (r.reads I f.1 q) h2⟩
theorem of_each {H : Hp} {μ : List Addr} : ∀ {xs : List D} {us : List Value}, PySem.W.EachIs (fun (u : Value) (d : D) => ∃ v, RelV v u ∧ R X.kw μ H d v) us xs → ∃ vs, RL X.kw μ H xs vs ∧ Vals vs us
  | _, _, .nil => ⟨[], .nil, .nil⟩
  | _, _, .cons ⟨v, r, q⟩ t => by
    obtain ⟨vs, h1, h2⟩ := of_each t
    exact ⟨v :: vs, .cons q h1, .cons r h2⟩
theorem depL_mem {xs : List D} {x : D} (h : x ∈ xs) : x.dep ≤ D.depL xs := by
  obtain ⟨j, hj, e⟩ := List.getElem_of_mem h
  exact depL_get (j := j) (by rw [List.getElem?_eq_getElem hj, e])
theorem fitsL_mem {xs : List D} {x : D} (f : D.fitsL xs = true) (h : x ∈ xs) : x.fits = true := by
  obtain ⟨j, hj, e⟩ := List.getElem_of_mem h
  exact fitsL_get (j := j) f (by rw [List.getElem?_eq_getElem hj, e])
theorem d_sorted (hu : X.A.units + 64 < cLine) : CallR X (.builtin "sorted") (rA X.kw oSorted) := by
  intro pins s σ H xs us Q I r hr
  obtain ⟨μ, S, ds, ok, rd, hp⟩ := hr
  unfold oSorted at hp
  split at hp
  · rename_i x
    obtain ⟨v, rfl, rx⟩ := rd.one
    cases q : listOf S x with
    | none => rw [q] at hp; exact hp.elim
    | some ys =>
      rw [q] at hp
      simp only at hp
      split at hp
      · rename_i hk
        obtain ⟨hf, hd, hal, hso⟩ := hk
        obtain ⟨p, vs, rfl, hs, hl, rr⟩ := listOf_ok ok rx q
        obtain ⟨u, rfl, ru⟩ := vals1 r
        cases ru
        obtain ⟨its, rv, pl, _⟩ := I.list hs
        obtain ⟨e1, e2⟩ := each_of I rr rv hf
        refine PySem.W.sorted_data (enc := D.py) (bs := ys) pl.isList e1 e2 (fun d h1 d' h2 => ?_) hso (by rw [rr.length]; exact hl) (fun b hb => ?_) fun out ho hout => ?_
        · obtain ⟨x, hx, rfl⟩ := List.mem_map.mp h1
          obtain ⟨y, hy, rfl⟩ := List.mem_map.mp h2
          exact hal x hx y hy
        · rw [D.depth b (fitsL_mem hf hb)]
          have := depL_mem hb
          omega
        · obtain ⟨ws, h1, h2⟩ := of_each hout
          obtain ⟨n, hn⟩ := sortedAll_at s.heap its out.toArray
          have hfr : H (s.heap.objs.size + 1) = none := I.hok.fresh (Nat.le_succ _)
          have hlen : ws.length ≤ sizeLine := by
            rw [← h1.length, List.length_mergeSort, rr.length]
            exact hl
          exact ⟨.ref (s.heap.objs.size + 1), _, I.laid (t' := s.toks) (fun _ _ => sortedAll_old) (Nat.le_succ _) (show ObjOk X.prog X.w _ _ _ (.lst ws) from ⟨hlen, out, n, h2, hn⟩), rfl, PV.lst hp ok hlen h1 _ hfr⟩
      · exact hp.elim
  · exact hp.elim
/-! ### isinstance with a built-in type -/
def tyName : D → String
  | .non => "NoneType"
  | .bl _ => "bool"
  | .int _ => "int"
  | .str _ => "str"
  | .tup _ => "tuple"
  | .rol _ => "list"
  | .loc _ => "list"
/-- no dict -/
def noDct (x : D) (S : Store) : Bool := match x with
  | .loc l => match S[l]? with
    | some (.lst _) => true
    | _ => false
  | _ => true
theorem noDct_lst {H : Hp} {μ : List Addr} {S : Store} (ok : Ok K μ H S) {l : Nat} {p : Addr} (hl : μ[l]? = some p) (z : noDct (.loc l) S = true) : ∃ ws, H p = some (.lst ws) := by
  simp only [noDct] at z
  cases q : S[l]? with
  | none => rw [q] at z; cases z
  | some c =>
    obtain ⟨p', h1, hc⟩ := ok.at q
    rw [hl] at h1; cases h1
    cases c with
    | dct _ => rw [q] at z; cases z
    | lst ws =>
      obtain ⟨vs, h, _⟩ := hc
      exact ⟨vs, h⟩
theorem ty_of {H : Hp} {μ : List Addr} {S : Store} (ok : Ok X.kw μ H S) {x : D} {v : V} (r : R X.kw μ H x v) (z : noDct x S = true) : TyX X.kw H v (.type (tyName x)) := by
  cases r with
  | non => exact .base .non
  | bl b => exact .base (.bl b)
  | int i => exact .base (.int i)
  | str y => exact .base (.str y)
  | @tup p vs xs hs l rr =>
    rcases hs with (h | ⟨o, h⟩) | ⟨o, its, n, hk, hc, _⟩
    · exact .base (.tup h)
    · exact .fTuple h
    · exact .kTuple hk hc
  | @rol p vs xs hs l rr =>
    rcases hs with ⟨o, h⟩ | ⟨o, its, n, hk, hc, _⟩
    · exact .base (.frz h)
    · exact .kList hk hc
  | @loc l p hl =>
    obtain ⟨ws, hw⟩ := noDct_lst ok hl z
    exact .base (.lst hw)
def cIsi (T : String) (f : DE) : DE := fun σ S => (f σ S).bind fun x S1 => if noDct x S1 = true then match kitB (tyName x) T with
  | some b => .ok (.bl b) S1
  | none => .no
  else .no
theorem e_isi {T : Str} {n : String} {p p2 : Pos} (hm : X.mg "isinstance" = none) (hm2 : X.mg T = none) (hv : bootBuiltins T = some (.type n)) (ha : PE X e (tE X.kw X.mg W f)) (hg : Gl X "isinstance" := by rfl) (hg2 : Gl X T := by rfl) (hn : T ≠ "__name__" := by decide) (hdb : (T == ("__debug__" : Str)) = false := by decide)
    (he : starEach [e, .Name T p2] X.env = (false, eval e X.env) :: starEach [.Name T p2] X.env := by rfl) (he2 : starEach [.Name T p2] X.env = (false, eval (.Name T p2) X.env) :: starEach [] X.env := by rfl) (hpl : (backTo pos (starEach [.Name T p2] X.env)).any (·.1) = false := by rfl) :
    PE X (.Call (.Name "isinstance" p) [e, .Name T p2] [] pos) (tE X.kw X.mg W (cIsi n f)) := by
  refine PE.weak (pe_callB (pos := pos) (p := p) call_isi hg hm (by decide +kernel) (pa_cons ha (pa_cons (pe_bltn (v := .ty n) hg2 hm2 hv rfl hn hdb) pa_nil he2) he) (by decide) (by decide) he hpl) fun σ H Q hh => ?_
  refine tG1 (RA := R X.kw) hh fun x S μ H v ok rx hh => ?_
  cases z : noDct x S with
  | false => rw [if_neg (by rw [z]; decide)] at hh; exact hh.elim
  | true =>
  rw [if_pos z] at hh
  cases q : kitB (tyName x) n with
  | none => rw [q] at hh; exact hh.elim
  | some b =>
    rw [q] at hh
    exact ⟨v, .ty n, _, _, b, rfl, .ty n, ty_of ok rx z, kit_ty q, hh μ H _ (Ext.refl _ _) ok (.bl _)⟩
end
end DL

namespace DL
open PySem PySem.Spec PyProof.Rows L2
/-! ### methods of a list -/
def isL : D → Store → Bool
  | .rol _, _ => true
  | .loc l, S => noDct (.loc l) S
  | _, _ => false
abbrev OM := D → List D → Store → Option (D × Store)
def cMeth (isT : D → Store → Bool) (k : OM) (f : DE) (a : DA) : DE := fun σ S => (f σ S).bind fun x S1 => if isT x S1 = true then (a σ S1).bind fun xs S2 => Res.of (k x xs S2) else .no
def rM (K : KW) (k : OM) : V → List V → Hp → VK → Prop := fun v vs H Q => ∃ μ S x xs, Ok K μ H S ∧ R K μ H x v ∧ RL K μ H xs vs ∧ PV K (R K) μ H (k x xs S) Q
/-- a list of the store that is changed -/
def upL (l : Nat) (S : Store) (ys : List D) : Option (D × Store) := if ys.length ≤ sizeLine then some (.non, S.set l (.lst ys)) else none
def mAppend : OM := fun x xs S => match x, xs with
  | .loc l, [d] => match S[l]? with
    | some (.lst ys) => upL l S (ys ++ [d])
    | _ => none
  | _, _ => none
def mExtend : OM := fun x xs S => match x, xs with
  | .loc l, [.loc m] => match S[l]?, S[m]? with
    | some (.lst ys), some (.lst zs) => upL l S (ys ++ zs)
    | _, _ => none
  | _, _ => none
def mPop : OM := fun x xs S => match x, xs with
  | .loc l, [] => match S[l]? with
    | some (.lst ys) => match ys[ys.length - 1]? with
      | some d => some (d, S.set l (.lst ys.dropLast))
      | none => none
    | _ => none
  | .loc l, [.int i] => match S[l]? with
    | some (.lst ys) => match ixN ys.length i with
      | some k => match ys[k]? with
        | some d => some (d, S.set l (.lst (ys.eraseIdx k)))
        | none => none
      | none => none
    | _ => none
  | _, _ => none
def mReverse : OM := fun x xs S => match x, xs with
  | .loc l, [] => match S[l]? with
    | some (.lst ys) => some (.non, S.set l (.lst ys.reverse))
    | _ => none
  | _, _ => none
section
variable {X : Cx} {W : WX} {pos : Pos} {a b c e o : Expr} {es : List Expr} {f g h : DE} {fa : DA} {K : KW} {mg : Str → Option Value}
theorem tyL {H : Hp} {μ : List Addr} {S : Store} (ok : Ok K μ H S) {x : D} {v : V} (r : R K μ H x v) (h : isL x S = true) : tyV K "list" v H := by
  cases r with
  | @rol p vs xs hs l rr => exact .inl ⟨rfl, vs, hs.sq⟩
  | @loc l p hl =>
    obtain ⟨ws, hw⟩ := noDct_lst ok hl h
    exact .inl ⟨rfl, ws, .inl (.inl hw)⟩
  | _ => cases h
def isS : D → Bool
  | .str _ => true
  | _ => false
theorem tyS {H : Hp} {μ : List Addr} {S : Store} (ok : Ok K μ H S) {x : D} {v : V} (r : R K μ H x v) (h : isS x = true) : tyV K "str" v H := by
  cases r with
  | str z => rfl
  | _ => cases h
theorem tE_meth {T : String} {isT : D → Store → Bool} {k : OM} (hT : ∀ {H : Hp} {μ : List Addr} {S : Store}, Ok K μ H S → ∀ {x : D} {v : V}, R K μ H x v → isT x S = true → tyV K T v H) {σ : L2.St} {H : Hp} {Q : VK} (hh : tE K mg W (cMeth isT k f fa) σ H Q) :
    tBM K T (rM K k) (tE K mg W f) (tA K mg W fa) σ H Q := by
  refine tG1e (k := fun σ x S1 => if isT x S1 = true then (fa σ S1).bind fun xs S2 => Res.of (k x xs S2) else .no) (RA := R K) hh fun σD x S μ H v ok en rx hh => ?_
  split at hh
  · rename_i ht
    exact ⟨hT ok rx ht, μ, σD, S, ok, en, Post.bind hh fun xs S2 μ2 H2 vs x2 ok2 rxs hh => ⟨μ2, S2, x, xs, ok2, rx.mono x2, rxs, hh.of⟩⟩
  · exact hh.elim
theorem tE_meth0 {T : String} {isT : D → Store → Bool} {k : OM} (hT : ∀ {H : Hp} {μ : List Addr} {S : Store}, Ok K μ H S → ∀ {x : D} {v : V}, R K μ H x v → isT x S = true → tyV K T v H) {σ : L2.St} {H : Hp} {Q : VK} (hh : tE K mg W (cMeth isT k f aNil) σ H Q) :
    tBM0 K T (rM K k) (tE K mg W f) σ H Q := by
  refine tG1e (k := fun σ x S1 => if isT x S1 = true then (aNil σ S1).bind fun xs S2 => Res.of (k x xs S2) else .no) (RA := R K) hh fun σD x S μ H v ok en rx hh => ?_
  split at hh
  · rename_i ht
    exact ⟨hT ok rx ht, μ, S, x, [], ok, rx, .nil, hh.of⟩
  · exact hh.elim
theorem upL_ok {μ : List Addr} {H : Hp} {S : Store} (ok : Ok K μ H S) {l : Nat} {p : Addr} (hl : μ[l]? = some p) {ys : List D} {ws : List V} (rr : RL K μ H ys ws) {Q : VK} (hp : PV K (R K) μ H (upL l S ys) Q) : ws.length ≤ sizeLine ∧ Q .non (upd H p (.lst ws)) := by
  unfold upL at hp
  split at hp
  · rename_i hz
    rw [rr.length] at hz
    obtain ⟨x1, ok1⟩ := ok.set hl hz rr
    exact ⟨hz, hp μ _ _ x1 ok1 .non⟩
  · exact hp.elim
theorem loc_at {μ : List Addr} {H : Hp} {S : Store} (ok : Ok K μ H S) {l : Nat} {v : V} (r : R K μ H (.loc l) v) {ys : List D} (q : S[l]? = some (.lst ys)) : ∃ p vs, v = .ref p ∧ μ[l]? = some p ∧ H p = some (.lst vs) ∧ vs.length ≤ sizeLine ∧ RL K μ H ys vs := by
  cases r with
  | @loc _ p hl =>
    obtain ⟨p', h1, hc⟩ := ok.at q
    rw [hl] at h1; cases h1
    obtain ⟨vs, hv, l, rr⟩ := hc
    exact ⟨p, vs, rfl, hl, hv, l, rr⟩
theorem d_append : MtR X "list.append" (rM X.kw mAppend) := by
  intro pins s σ H x xs v us Q I rx rs hr
  obtain ⟨μ, S, d, ds, ok, rd, rds, hp⟩ := hr
  unfold mAppend at hp
  split at hp
  · split at hp
    · rename_i l y ys q
      obtain ⟨p, vs, rfl, hl, hv, hz, rr⟩ := loc_at ok rd q
      obtain ⟨w, rfl, rw'⟩ := rds.one
      obtain ⟨hz', hq⟩ := upL_ok ok hl (rr.append (.cons rw' .nil)) hp
      rw [List.length_append] at hz'
      exact mt_append pins s σ H _ _ v us Q I rx rs ⟨p, vs, w, rfl, rfl, hv, Nat.lt_of_lt_of_le (Nat.lt_succ_self _) hz', hq⟩
    · exact hp.elim
  · exact hp.elim
theorem d_extend : MtR X "list.extend" (rM X.kw mExtend) := by
  intro pins s σ H x xs v us Q I rx rs hr
  obtain ⟨μ, S, d, ds, ok, rd, rds, hp⟩ := hr
  unfold mExtend at hp
  split at hp
  · split at hp
    · rename_i l m ys zs q1 q2
      obtain ⟨p, vs, rfl, hl, hv, hz, rr⟩ := loc_at ok rd q1
      obtain ⟨w, rfl, rw'⟩ := rds.one
      obtain ⟨p2, ws, rfl, hl2, hv2, hz2, rr2⟩ := loc_at ok rw' q2
      obtain ⟨hz', hq⟩ := upL_ok ok hl (rr.append rr2) hp
      rw [List.length_append] at hz'
      exact mt_extend pins s σ H _ _ v us Q I rx rs ⟨p, p2, vs, ws, rfl, rfl, hv, hv2, hz', hq⟩
    · exact hp.elim
  · exact hp.elim
theorem d_pop : MtR X "list.pop" (rM X.kw mPop) := by
  intro pins s σ H x xs v us Q I rx rs hr
  obtain ⟨μ, S, d, ds, ok, rd, rds, hp⟩ := hr
  unfold mPop at hp
  split at hp
  · split at hp
    · rename_i l ys q
      split at hp
      · rename_i d' qd
        obtain ⟨p, vs, rfl, hl, hv, hz, rr⟩ := loc_at ok rd q
        cases rds
        obtain ⟨w, hw, rw'⟩ := rr.get qd
        obtain ⟨x1, ok1⟩ := ok.set hl (vs := vs.dropLast) (by rw [List.length_dropLast]; omega) rr.dropLast
        exact mt_pop pins s σ H _ _ v us Q I rx rs ⟨p, vs, w, rfl, rfl, hv, by rw [← rr.length]; exact hw, hp μ _ _ x1 ok1 (rw'.mono x1)⟩
      · exact hp.elim
    · exact hp.elim
  · split at hp
    · rename_i l i _ ys q
      split at hp
      · rename_i k qk
        split at hp
        · rename_i d' qd
          obtain ⟨p, vs, rfl, hl, hv, hz, rr⟩ := loc_at ok rd q
          obtain ⟨w0, rfl, rw0⟩ := rds.one
          cases rw0
          obtain ⟨w, hw, rw'⟩ := rr.get qd
          obtain ⟨h1, h2, h3, h4⟩ := ixN_seq qk
          rw [rr.length] at h1 h2 h3 h4
          obtain ⟨x1, ok1⟩ := ok.set hl (vs := vs.eraseIdx k) (Nat.le_trans (len_erase _ _) hz) (rr.eraseIdx k)
          have hs := sizeLine_eq
          exact mt_popAt pins s σ H _ _ v us Q I rx rs ⟨p, vs, i, k, w, rfl, rfl, hv, by omega, by omega, h1, hw, hp μ _ _ x1 ok1 (rw'.mono x1)⟩
        · exact hp.elim
      · exact hp.elim
    · exact hp.elim
  · exact hp.elim
theorem d_reverse : MtR X "list.reverse" (rM X.kw mReverse) := by
  intro pins s σ H x xs v us Q I rx rs hr
  obtain ⟨μ, S, d, ds, ok, rd, rds, hp⟩ := hr
  unfold mReverse at hp
  split at hp
  · split at hp
    · rename_i l ys q
      obtain ⟨p, vs, rfl, hl, hv, hz, rr⟩ := loc_at ok rd q
      cases rds
      obtain ⟨x1, ok1⟩ := ok.set hl (vs := vs.reverse) (by rw [List.length_reverse]; exact hz) rr.reverse
      exact mt_reverse pins s σ H _ _ v us Q I rx rs ⟨p, vs, rfl, rfl, hv, hp μ _ _ x1 ok1 .non⟩
    · exact hp.elim
  · exact hp.elim
theorem e_append (ho : PE X o (tE X.kw X.mg W f)) (ha : PA X (e :: es) (tA X.kw X.mg W fa)) {apos : Pos} (hbase : attributeBase o "append" X.env (eval o X.env) = eval o X.env := by rfl)
    (hfew : ((backTo pos (starEach (e :: es) X.env)).all (fun x => !x.1) && (backToKw pos (keywordEach [] X.env)).all (fun x => x.1.isSome) && decide ((e :: es).length + ([] : List Keyword).length + (if ([] : List Keyword).isEmpty then 0 else 1) < 30)) = true := by rfl)
    (hline : (apos.endLine == pos.line) = true := by rfl) (hs : starEach (e :: es) X.env = (false, eval e X.env) :: starEach es X.env := by rfl) (hplain : (backTo pos (starEach es X.env)).any (·.1) = false := by rfl) :
    PE X (.Call (.Attribute o "append" apos) (e :: es) [] pos) (tE X.kw X.mg W (cMeth isL mAppend f fa)) :=
  PE.weak (pe_bm PySem.F.plainAttrs_list PySem.F.slot_list_append PySem.F.type_list_append d_append ho ha hbase hfew hline hs hplain) fun _ _ _ => tE_meth tyL
theorem e_extend (ho : PE X o (tE X.kw X.mg W f)) (ha : PA X (e :: es) (tA X.kw X.mg W fa)) {apos : Pos} (hbase : attributeBase o "extend" X.env (eval o X.env) = eval o X.env := by rfl)
    (hfew : ((backTo pos (starEach (e :: es) X.env)).all (fun x => !x.1) && (backToKw pos (keywordEach [] X.env)).all (fun x => x.1.isSome) && decide ((e :: es).length + ([] : List Keyword).length + (if ([] : List Keyword).isEmpty then 0 else 1) < 30)) = true := by rfl)
    (hline : (apos.endLine == pos.line) = true := by rfl) (hs : starEach (e :: es) X.env = (false, eval e X.env) :: starEach es X.env := by rfl) (hplain : (backTo pos (starEach es X.env)).any (·.1) = false := by rfl) :
    PE X (.Call (.Attribute o "extend" apos) (e :: es) [] pos) (tE X.kw X.mg W (cMeth isL mExtend f fa)) :=
  PE.weak (pe_bm PySem.F.plainAttrs_list PySem.F.slot_list_extend PySem.F.type_list_extend d_extend ho ha hbase hfew hline hs hplain) fun _ _ _ => tE_meth tyL
theorem e_popAt (ho : PE X o (tE X.kw X.mg W f)) (ha : PA X (e :: es) (tA X.kw X.mg W fa)) {apos : Pos} (hbase : attributeBase o "pop" X.env (eval o X.env) = eval o X.env := by rfl)
    (hfew : ((backTo pos (starEach (e :: es) X.env)).all (fun x => !x.1) && (backToKw pos (keywordEach [] X.env)).all (fun x => x.1.isSome) && decide ((e :: es).length + ([] : List Keyword).length + (if ([] : List Keyword).isEmpty then 0 else 1) < 30)) = true := by rfl)
    (hline : (apos.endLine == pos.line) = true := by rfl) (hs : starEach (e :: es) X.env = (false, eval e X.env) :: starEach es X.env := by rfl) (hplain : (backTo pos (starEach es X.env)).any (·.1) = false := by rfl) :
    PE X (.Call (.Attribute o "pop" apos) (e :: es) [] pos) (tE X.kw X.mg W (cMeth isL mPop f fa)) :=
  PE.weak (pe_bm PySem.F.plainAttrs_list PySem.F.slot_list_pop PySem.F.type_list_pop d_pop ho ha hbase hfew hline hs hplain) fun _ _ _ => tE_meth tyL
theorem e_pop (ho : PE X o (tE X.kw X.mg W f)) {apos : Pos} (hbase : attributeBase o "pop" X.env (eval o X.env) = eval o X.env := by rfl) (hline : (apos.endLine == pos.line) = true := by rfl) :
    PE X (.Call (.Attribute o "pop" apos) [] [] pos) (tE X.kw X.mg W (cMeth isL mPop f aNil)) :=
  PE.weak (pe_bm0 PySem.F.plainAttrs_list PySem.F.slot_list_pop PySem.F.type_list_pop d_pop ho hbase hline) fun _ _ _ => tE_meth0 tyL
theorem e_reverse (ho : PE X o (tE X.kw X.mg W f)) {apos : Pos} (hbase : attributeBase o "reverse" X.env (eval o X.env) = eval o X.env := by rfl) (hline : (apos.endLine == pos.line) = true := by rfl) :
    PE X (.Call (.Attribute o "reverse" apos) [] [] pos) (tE X.kw X.mg W (cMeth isL mReverse f aNil)) :=
  PE.weak (pe_bm0 PySem.F.plainAttrs_list PySem.F.slot_list_reverse PySem.F.type_list_reverse d_reverse ho hbase hline) fun _ _ _ => tE_meth0 tyL
end

/-! ### statements -/
def sNil : DS := fun σ S => .nx σ S
def sSeq (f g : DS) : DS := fun σ S => match f σ S with
  | .nx σ' S' => g σ' S'
  | r => r
def SR.ofE (σ : Sg) (r : Res D) (k : D → Store → SR) : SR := match r with
  | .ok d S => k d S
  | .ex e S => .ex e σ S
  | .no => .no
def sExpr (f : DE) : DS := fun σ S => SR.ofE σ (f σ S) fun _ S1 => .nx σ S1
def sRet (f : DE) : DS := fun σ S => SR.ofE σ (f σ S) fun d S1 => .rt d S1
def sRetN : DS := fun _ S => .rt .non S
def sBreak : DS := fun σ S => .bk σ S
def sCont : DS := fun σ S => .ct σ S
def SR.ofT (σ : Sg) (r : Res Bool) (k : Bool → Store → SR) : SR := match r with
  | .ok d S => k d S
  | .ex e S => .ex e σ S
  | .no => .no
def sIf (t : DT) (f g : DS) : DS := fun σ S => SR.ofT σ (t σ S) fun b S1 => if b = true then f σ S1 else g σ S1
/-- a target: the value, the slots, the store -/
abbrev DG := D → Sg → Store → SR
def gSet (i : Nat) : DG := fun d σ S => .nx (σ.set i (some d)) S
abbrev DGs := List D → Sg → Store → SR
def gN : DGs := fun ds σ S => match ds with
  | [] => .nx σ S
  | _ :: _ => .no
def gC (g : DG) (gs : DGs) : DGs := fun ds σ S => match ds with
  | [] => .no
  | d :: r => match g d σ S with
    | .nx σ' S' => gs r σ' S'
    | .ex e σ' S' => .ex e σ' S'
    | _ => .no
def gUn (n : Nat) (gs : DGs) : DG := fun d σ S => match itemsOf S d with
  | some xs => if xs.length = n then gs xs σ S else .no
  | none => .no
/-- o[i] = d -/
def oSet (o i d : D) (S : Store) : Option Store := match o, i with
  | .loc l, .int k => match S[l]? with
    | some (.lst ys) => match ixN ys.length k with
      | some j => some (S.set l (.lst (ys.set j d)))
      | none => none
    | _ => none
  | _, _ => none
def gSubD (fo fi : DE) : DG := fun d σ S => SR.ofE σ (fo σ S) fun o S1 => SR.ofE σ (fi σ S1) fun i S2 => match oSet o i d S2 with
  | some S3 => .nx σ S3
  | none => .no
def sAsg (f : DE) (g : DG) : DS := fun σ S => SR.ofE σ (f σ S) fun d S1 => match g d σ S1 with
  | .nx σ' S' => .nx σ' S'
  | .ex e σ' S' => .ex e σ' S'
  | _ => .no
def sSet (i : Nat) (f : DE) : DS := fun σ S => SR.ofE σ (f σ S) fun d S1 => .nx (σ.set i (some d)) S1
/-- a, b = e1, e2 -/
def sPar (i j : Nat) (f g : DE) : DS := fun σ S => SR.ofE σ (f σ S) fun x S1 => SR.ofE σ (g σ S1) fun y S2 => .nx ((σ.set i (some x)).set j (some y)) S2
def sAug (i : Nat) (k : O2) (f : DE) : DS := fun σ S => match σ[i]? with
  | some (some x) => SR.ofE σ (f σ S) fun y S1 => match k x y S1 with
    | some (z, S2) => .nx (σ.set i (some z)) S2
    | none => .no
  | _ => .no
section
variable {X : Cx} {W : WX} {pos : Pos} {a b c e o : Expr} {es : List Expr} {f g h : DE} {t : DT} {fa : DA} {K : KW} {mg : Str → Option Value} {st : Stmt} {rest : List Stmt} {fs gs : DS}
theorem ss_nil : PSs X [] (tS X.kw X.mg W sNil) := PSs.weak pss_nil fun D σ H hh => by
  obtain ⟨μ, σD, S, ok, en, hh⟩ := hh
  exact hh μ H σ (Ext.refl _ _) ok en
theorem SPost.seq {μ : List Addr} {H : Hp} {r : SR} {k : Sg → Store → SR} {Dn : Ends} {nx : L2.St → Hp → Prop} (hh : SPost K mg W μ H (match r with | .nx σ' S' => k σ' S' | r => r) Dn)
    (hk : ∀ σ S μ' H' σV', Ext μ H μ' H' → Ok K μ' H' S → EnvR K μ' H' σ σV' → SPost K mg W μ' H' (k σ S) Dn → nx σV' H') : SPost K mg W μ H r { Dn with nx := nx } := by
  cases r with
  | nx σ S => exact fun μ' H' σV' x ok en => hk σ S μ' H' σV' x ok en (SPost.mono x hh)
  | rt d S => exact hh
  | bk σ S => exact hh
  | ct σ S => exact hh
  | ex e σ S => exact hh
  | no => exact hh
theorem ss_cons (h1 : PS X st (tS X.kw X.mg W fs)) (h2 : PSs X rest (tS X.kw X.mg W gs)) : PSs X (st :: rest) (tS X.kw X.mg W (sSeq fs gs)) := PSs.weak (pss_cons h1 h2) fun D σ H hh => by
  obtain ⟨μ, σD, S, ok, en, hh⟩ := hh
  exact ⟨μ, σD, S, ok, en, SPost.seq hh fun σ' S' μ' H' σV' x ok' en' hh' => ⟨μ', σ', S', ok', en', hh'⟩⟩
theorem ss_one (h1 : PS X st (tS X.kw X.mg W fs)) : PSs X [st] (tS X.kw X.mg W fs) := pss_one h1
/-- an expression first -/
theorem tS_E {σ : L2.St} {H : Hp} {k : Sg → D → Store → SR} {Dn : Ends} {Q : VK} (hh : tS K mg W (fun σ S => SR.ofE σ (f σ S) (k σ)) Dn σ H)
    (hk : ∀ σD d S μ' H' v, Ok K μ' H' S → EnvR K μ' H' σD σ → R K μ' H' d v → SPost K mg W μ' H' (k σD d S) Dn → Q v H') : tE K mg W f σ H Q := by
  obtain ⟨μ, σD, S, ok, en, hh⟩ := hh
  dsimp only at hh
  refine ⟨μ, σD, S, ok, en, ?_⟩
  cases q : f σD S with
  | ok d S1 =>
    rw [q] at hh
    exact fun μ' H' v x ok' r => hk σD d S1 μ' H' v ok' (en.mono x) r (SPost.mono x hh)
  | ex e S1 =>
    rw [q] at hh
    exact fun μ' H' cls dx x ok' r => hh μ' H' σ cls dx x ok' (en.mono x) r
  | no => rw [q] at hh; exact hh.elim
theorem tS_T {σ : L2.St} {H : Hp} {k : Sg → Bool → Store → SR} {Dn : Ends} {Q : Bool → Hp → Prop} (hh : tS K mg W (fun σ S => SR.ofT σ (t σ S) (k σ)) Dn σ H)
    (hk : ∀ σD d S μ' H', Ok K μ' H' S → EnvR K μ' H' σD σ → SPost K mg W μ' H' (k σD d S) Dn → Q d H') : tT K mg W t σ H Q := by
  obtain ⟨μ, σD, S, ok, en, hh⟩ := hh
  dsimp only at hh
  refine ⟨μ, σD, S, ok, en, ?_⟩
  cases q : t σD S with
  | ok d S1 =>
    rw [q] at hh
    exact fun μ' H' v x ok' r => by
      cases r
      exact hk σD d S1 μ' H' ok' (en.mono x) (SPost.mono x hh)
  | ex e S1 =>
    rw [q] at hh
    exact fun μ' H' cls dx x ok' r => hh μ' H' σ cls dx x ok' (en.mono x) r
  | no => rw [q] at hh; exact hh.elim
theorem s_expr (he : PE X e (tE X.kw X.mg W f)) (hs : swapsWith e none pos.line X.env = pure false := by rfl) : PS X (.Expr e pos) (tS X.kw X.mg W (sExpr f)) := PS.weak (ps_expr he hs) fun D σ H hh =>
  tS_E (k := fun σ _ S1 => .nx σ S1) hh fun σD d S μ' H' v ok en r hh => hh μ' H' σ (Ext.refl _ _) ok en
theorem s_doc {x j pos'} : PS X (.Expr (.Constant (.str x) j pos') pos) (tS X.kw X.mg W sNil) := PS.weak ps_doc fun D σ H hh => by
  obtain ⟨μ, σD, S, ok, en, hh⟩ := hh
  exact hh μ H σ (Ext.refl _ _) ok en
theorem s_pass : PS X (.Pass pos) (tS X.kw X.mg W sNil) := PS.weak ps_pass fun D σ H hh => by
  obtain ⟨μ, σD, S, ok, en, hh⟩ := hh
  exact hh μ H σ (Ext.refl _ _) ok en
theorem s_break : PS X (.Break pos) (tS X.kw X.mg W sBreak) := PS.weak ps_break fun D σ H hh => by
  obtain ⟨μ, σD, S, ok, en, hh⟩ := hh
  exact hh μ H σ (Ext.refl _ _) ok en
theorem s_cont : PS X (.Continue pos) (tS X.kw X.mg W sCont) := PS.weak ps_continue fun D σ H hh => by
  obtain ⟨μ, σD, S, ok, en, hh⟩ := hh
  exact hh μ H σ (Ext.refl _ _) ok en
theorem s_ret (he : PE X e (tE X.kw X.mg W f)) : PS X (.Return (some e) pos) (tS X.kw X.mg W (sRet f)) := PS.weak (ps_ret he) fun D σ H hh =>
  tS_E (k := fun σ d S1 => .rt d S1) hh fun σD d S μ' H' v ok en r hh => hh μ' H' v (Ext.refl _ _) ok r
theorem s_retN : PS X (.Return none pos) (tS X.kw X.mg W sRetN) := PS.weak ps_retN fun D σ H hh => by
  obtain ⟨μ, σD, S, ok, en, hh⟩ := hh
  exact hh μ H .non (Ext.refl _ _) ok .non
theorem s_if {c : Expr} {p q : List Stmt} (hc : PT X c (tT X.kw X.mg W t)) (ha : PSs X p (tS X.kw X.mg W fs)) (hb : PSs X q (tS X.kw X.mg W gs)) : PS X (.If c p q pos) (tS X.kw X.mg W (sIf t fs gs)) := PS.weak (ps_if hc ha hb) fun D σ H hh =>
  tS_T (k := fun σ b S1 => if b = true then fs σ S1 else gs σ S1) hh fun σD d S μ' H' ok en hh => by
    cases d with
    | true => exact ⟨μ', σD, S, ok, en, hh⟩
    | false => exact ⟨μ', σD, S, ok, en, hh⟩
theorem s_set {i : Nat} {x : Str} {e : Expr} {pos' : Pos} (hN : X.N.Nodup) (he : PE X e (tE X.kw X.mg W f)) (hi : X.N[i]? = some x := by rfl) (hx : Loc X.env.scope x := by first | exact .inl rfl | exact .inr rfl) (hs : swapsWith e (some (.Name x pos')) pos.line X.env = pure false := by rfl) (hf : X.fn x = true ∨ X.env.scope.names.lookup x = some .local := by first | exact .inl rfl | exact .inr rfl | assumption) :
    PS X (.Assign [.Name x pos'] e pos) (tS X.kw X.mg W (sSet i f)) := PS.weak (ps_set hN hi hx he hs hf) fun D σ H hh =>
  tS_E (k := fun σ d S1 => .nx (σ.set i (some d)) S1) hh fun σD d S μ' H' v ok en r hh => hh μ' H' _ (Ext.refl _ _) ok (en.set i r)
/-! targets -/
def tGt (K : KW) (mg : Str → Option Value) (W : WX) (g : DG) : TG := fun v σ H Q => ∃ μ σD S d, Ok K μ H S ∧ EnvR K μ H σD σ ∧ R K μ H d v ∧ match g d σD S with
  | .nx σ' S' => ∀ μ' H' σV', Ext μ H μ' H' → Ok K μ' H' S' → EnvR K μ' H' σ' σV' → Q σV' H'
  | .ex e σ' S' => ∀ μ' H' σV' cls dx, Ext μ H μ' H' → Ok K μ' H' S' → EnvR K μ' H' σ' σV' → ExR K mg μ' H' e cls dx → W cls dx σV' H'
  | _ => False
def tGts (K : KW) (mg : Str → Option Value) (W : WX) (g : DGs) : TGs := fun vs σ H Q => ∃ μ σD S ds, Ok K μ H S ∧ EnvR K μ H σD σ ∧ RL K μ H ds vs ∧ match g ds σD S with
  | .nx σ' S' => ∀ μ' H' σV', Ext μ H μ' H' → Ok K μ' H' S' → EnvR K μ' H' σ' σV' → Q σV' H'
  | .ex e σ' S' => ∀ μ' H' σV' cls dx, Ext μ H μ' H' → Ok K μ' H' S' → EnvR K μ' H' σ' σV' → ExR K mg μ' H' e cls dx → W cls dx σV' H'
  | _ => False
theorem PG.weak {X : Cx} {e : Expr} {t t' : TG} (h : PG X e t) (w : ∀ v σ H Q, t' v σ H Q → t v σ H Q) : PG X e t' := ⟨fun pins s σ H v u Q I r q => h.run pins s σ H v u Q I r (w v σ H Q q)⟩
theorem PGs.weak {X : Cx} {e : List Expr} {t t' : TGs} (h : PGs X e t) (w : ∀ v σ H Q, t' v σ H Q → t v σ H Q) : PGs X e t' := ⟨fun pins s σ H v u Q I r q => h.run pins s σ H v u Q I r (w v σ H Q q)⟩
theorem PG.or {X : Cx} {e : Expr} {t t' : TG} (h : PG X e t) (h' : PG X e t') : PG X e (fun v σ H Q => t v σ H Q ∨ t' v σ H Q) := ⟨fun pins s σ H v u Q I r q => q.elim (h.run pins s σ H v u Q I r) (h'.run pins s σ H v u Q I r)⟩
theorem g_name (i : Nat) {x : Str} (hN : X.N.Nodup) (hi : X.N[i]? = some x := by rfl) (hx : Loc X.env.scope x := by first | exact .inl rfl | exact .inr rfl) (hf : X.fn x = true ∨ X.env.scope.names.lookup x = some .local := by first | exact .inl rfl | exact .inr rfl | assumption) : PG X (.Name x pos) (tGt X.kw X.mg W (gSet i)) :=
  PG.weak (pg_name hN hi hx hf) fun v σ H Q hh => by
    obtain ⟨μ, σD, S, d, ok, en, r, hh⟩ := hh
    exact hh μ H _ (Ext.refl _ _) ok (en.set i r)
theorem gs_nil : PGs X [] (tGts X.kw X.mg W gN) := PGs.weak pgs_nil fun v σ H Q hh => by
  obtain ⟨μ, σD, S, d, ok, en, r, hh⟩ := hh
  cases r with
  | nil => exact ⟨rfl, hh μ H _ (Ext.refl _ _) ok en⟩
  | cons _ _ => exact hh.elim
theorem gs_cons {g : DG} {gs : DGs} (h1 : PG X e (tGt X.kw X.mg W g)) (h2 : PGs X es (tGts X.kw X.mg W gs)) (hs : (assignEach (e :: es) X.env).map (·.2) = assign e X.env :: (assignEach es X.env).map (·.2) := by rfl) : PGs X (e :: es) (tGts X.kw X.mg W (gC g gs)) :=
  PGs.weak (pgs_cons h1 h2 hs) fun v σ H Q hh => by
    obtain ⟨μ, σD, S, d, ok, en, r, hh⟩ := hh
    cases r with
    | nil => exact hh.elim
    | @cons x v xs vs r1 r2 =>
      refine ⟨v, vs, rfl, μ, σD, S, x, ok, en, r1, ?_⟩
      simp only [gC] at hh
      cases q : g x σD S with
      | nx σ' S' =>
        rw [q] at hh
        exact fun μ' H' σV' x ok' en' => ⟨μ', σ', S', xs, ok', en', r2.mono x, by
          simp only at hh
          cases q2 : gs xs σ' S' with
          | nx σ2 S2 =>
            rw [q2] at hh
            exact fun μ2 H2 σ3 x2 => hh μ2 H2 σ3 (x.trans x2)
          | ex e σ2 S2 =>
            rw [q2] at hh
            exact fun μ2 H2 σ3 c d x2 => hh μ2 H2 σ3 c d (x.trans x2)
          | _ => rw [q2] at hh; exact hh.elim⟩
      | ex e σ' S' =>
        rw [q] at hh
        exact hh
      | _ => rw [q] at hh; exact hh.elim
theorem g_un {g : DGs} {k : Nat} {n : Nat} (h : PGs X es (tGts X.kw X.mg W g)) (hc : X.calm = true := by rfl) (hn : (assignEach es X.env).length = n := by rfl) (hst : (assignEach es X.env).findIdx? (·.1) = none := by rfl) : PG X (.Tuple es k pos) (tGt X.kw X.mg W (gUn n g)) :=
  PG.weak (PG.or (pg_tup hc h hn hst) (pg_lst hc h hn hst)) fun v σ H Q hh => by
    obtain ⟨μ, σD, S, d, ok, en, r, hh⟩ := hh
    simp only [gUn] at hh
    cases q : itemsOf S d with
    | none => rw [q] at hh; exact hh.elim
    | some xs =>
      rw [q] at hh
      simp only at hh
      obtain ⟨p, vs, rfl, hs, hl, rr⟩ := itemsOf_ok ok r q
      by_cases hln : xs.length = n
      · rw [if_pos hln] at hh
        rw [rr.length] at hln
        rcases hs with hs | hs
        · exact .inr ⟨p, vs, rfl, hs, hln, μ, σD, S, xs, ok, en, rr, hh⟩
        · exact .inl ⟨p, vs, rfl, hs, hln, μ, σD, S, xs, ok, en, rr, hh⟩
      · rw [if_neg hln] at hh
        exact hh.elim
/-- o[i] = v, by values -/
def rSet (K : KW) : V → V → V → Hp → (Hp → Prop) → Prop := fun vo vi v H Q => ∃ μ S o i d, Ok K μ H S ∧ R K μ H o vo ∧ R K μ H i vi ∧ R K μ H d v ∧ match oSet o i d S with
  | some S' => ∀ μ' H', Ext μ H μ' H' → Ok K μ' H' S' → Q H'
  | none => False
theorem d_set : PSet X (rSet X.kw) := by
  intro pins s σ H vo vi v ov iv u Q I r1 r2 r3 hr
  obtain ⟨μ, S, o, i, d, ok, ro, ri, rd, hh⟩ := hr
  unfold oSet at hh
  split at hh
  · rename_i S' q
    split at q
    · split at q
      · rename_i l k _ ys q1
        split at q
        · rename_i j q2
          cases q
          obtain ⟨p, vs, rfl, hl, hv, hz, rr⟩ := loc_at ok ro q1
          cases ri
          obtain ⟨x1, ok1⟩ := ok.set hl (vs := vs.set j v) (by rw [List.length_set]; exact hz) (rr.set rd j)
          rw [rr.length] at q2
          exact set_list pins s σ H _ _ v ov iv u Q I r1 r2 r3 ⟨p, vs, k, j, rfl, rfl, hv, q2, hh μ _ x1 ok1⟩
        · cases q
      · cases q
    · cases q
  · exact hh.elim
theorem g_sub {o i : Expr} {fo fi : DE} (ho : PE X o (tE X.kw X.mg W fo)) (hi : PE X i (tE X.kw X.mg W fi)) (ha : ∀ v, assign (.Subscript o i pos) X.env v = (do
      let ov ← holding [v] (eval o X.env)
      let iv ← holding [v, ov] (eval i X.env)
      standAt pos
      holding [v, ov, iv] (setItem ov iv v)
      release [v, ov, iv] []) := by intro _; rfl) : PG X (.Subscript o i pos) (tGt X.kw X.mg W (gSubD fo fi)) :=
  PG.weak (pg_sub ho hi d_set ha) fun v σ H Q hh => by
    obtain ⟨μ, σD, S, d, ok, en, r, hh⟩ := hh
    simp only [gSubD] at hh
    refine ⟨μ, σD, S, ok, en, ?_⟩
    cases q : fo σD S with
    | no => rw [q] at hh; exact hh.elim
    | ex e S1 =>
      rw [q] at hh
      exact fun μ' H' cls dx x ok' => hh μ' H' σ cls dx x ok' (en.mono x)
    | ok o1 S1 =>
      rw [q] at hh
      simp only [SR.ofE] at hh
      refine fun μ1 H1 vo x1 ok1 ro => ⟨μ1, σD, S1, ok1, en.mono x1, ?_⟩
      cases q2 : fi σD S1 with
      | no => rw [q2] at hh; exact hh.elim
      | ex e S2 =>
        rw [q2] at hh
        exact fun μ' H' cls dx x ok' => hh μ' H' σ cls dx (x1.trans x) ok' (en.mono (x1.trans x))
      | ok i1 S2 =>
        rw [q2] at hh
        simp only at hh
        refine fun μ2 H2 vi x2 ok2 ri => ⟨μ2, S2, o1, i1, d, ok2, ro.mono x2, ri, r.mono (x1.trans x2), ?_⟩
        cases q3 : oSet o1 i1 d S2 with
        | none => rw [q3] at hh; exact hh.elim
        | some S3 =>
          rw [q3] at hh
          exact fun μ3 H3 x3 ok3 => hh μ3 H3 σ ((x1.trans x2).trans x3) ok3 (en.mono ((x1.trans x2).trans x3))
theorem s_asg {tg e : Expr} {g : DG} (he : PE X e (tE X.kw X.mg W f)) (hg : PG X tg (tGt X.kw X.mg W g)) (hs : swapsWithSole [tg] e pos.line X.env = pure false := by rfl) (hw : swappedStores [tg] e X.env = pure none := by rfl)
    (h1 : (assignEach [tg] X.env).map (·.2) = [assign tg X.env] := by rfl) : PS X (.Assign [tg] e pos) (tS X.kw X.mg W (sAsg f g)) := PS.weak (ps_asg he hg hs hw h1) fun D σ H hh =>
  tS_E (k := fun σ d S1 => match g d σ S1 with
    | .nx σ' S' => .nx σ' S'
    | .ex e σ' S' => .ex e σ' S'
    | _ => .no) hh fun σD d S μ' H' v ok en r hh => ⟨μ', σD, S, d, ok, en, r, by
      cases q : g d σD S with
      | nx σ' S' => rw [q] at hh; exact hh
      | ex e σ' S' => rw [q] at hh; exact hh
      | _ => rw [q] at hh; exact hh.elim⟩
theorem s_par {i j : Nat} {x y : Str} {a b : Expr} {px py pt : Pos} {kt k2 pt2} (hN : X.N.Nodup) (hij : i ≠ j) (ha : PE X a (tE X.kw X.mg W f)) (hb : PE X b (tE X.kw X.mg W g)) (hc : X.calm = true := by rfl) (hi : X.N[i]? = some x := by rfl) (hj : X.N[j]? = some y := by rfl)
    (hx : X.env.scope.names.lookup x = some .local := by rfl) (hy : X.env.scope.names.lookup y = some .local := by rfl)
    (hw : swappedStores [.Tuple [.Name x px, .Name y py] kt pt] (.Tuple [a, b] k2 pt2) X.env = pure (some [x, y]) := by rfl)
    (hs : swapsWithSole [.Tuple [.Name x px, .Name y py] kt pt] (.Tuple [a, b] k2 pt2) pos.line X.env = pure false := by rfl)
    (he1 : starEach [a, b] X.env = (false, eval a X.env) :: starEach [b] X.env := by rfl) (he2 : starEach [b] X.env = (false, eval b X.env) :: starEach [] X.env := by rfl) :
    PS X (.Assign [.Tuple [.Name x px, .Name y py] kt pt] (.Tuple [a, b] k2 pt2) pos) (tS X.kw X.mg W (sPar i j f g)) :=
  PS.weak (ps_par hc hN hi hj hij hx hy (pa_cons ha (pa_cons hb pa_nil he2) he1) hw hs) fun D σ H hh => by
  obtain ⟨μ, σD, S, ok, en, hh⟩ := hh
  simp only [sPar] at hh
  refine ⟨μ, σD, S, ok, en, ?_⟩
  cases q : f σD S with
  | no => rw [q] at hh; exact hh.elim
  | ex e S1 =>
    rw [q] at hh
    exact fun μ' H' cls dx x ok' => hh μ' H' σ cls dx x ok' (en.mono x)
  | ok x1 S1 =>
    rw [q] at hh
    simp only [SR.ofE] at hh
    refine fun μ1 H1 v x1' ok1 r1 => ?_
    show tCons (tE X.kw X.mg W g) tNil σ H1 _
    refine ⟨μ1, σD, S1, ok1, en.mono x1', ?_⟩
    cases q2 : g σD S1 with
    | no => rw [q2] at hh; exact hh.elim
    | ex e S2 =>
      rw [q2] at hh
      exact fun μ' H' cls dx x ok' => hh μ' H' σ cls dx (x1'.trans x) ok' (en.mono (x1'.trans x))
    | ok y1 S2 =>
      rw [q2] at hh
      refine fun μ2 H2 u x2 ok2 r2 => ?_
      exact ⟨v, u, rfl, hh μ2 H2 _ (x1'.trans x2) ok2 (((en.mono (x1'.trans x2)).set i (r1.mono x2)).set j r2)⟩
theorem s_aug {i : Nat} {x : Str} {e : Expr} {op : Operator} {k : O2} {pos' : Pos} (hN : X.N.Nodup) (ho : OpR X (inplaceOp op) (r2 X.kw k)) (he : PE X e (tE X.kw X.mg W f)) (hi : X.N[i]? = some x := by rfl) (hx : Loc X.env.scope x := by first | exact .inl rfl | exact .inr rfl) (hf : X.fn x = true ∨ X.env.scope.names.lookup x = some .local := by first | exact .inl rfl | exact .inr rfl | assumption) :
    PS X (.AugAssign (.Name x pos') op e pos) (tS X.kw X.mg W (sAug i k f)) := PS.weak (ps_aug hN hi hx he (fun pins s σ H x y v u Q I r1 r2 q => ho pins s σ H x y v u Q I r1 r2 q) hf) fun D σ H hh => by
  obtain ⟨μ, σD, S, ok, en, hh⟩ := hh
  simp only [sAug] at hh
  cases q : σD[i]? with
  | none => rw [q] at hh; exact hh.elim
  | some oo =>
    cases oo with
    | none => rw [q] at hh; exact hh.elim
    | some d =>
      rw [q] at hh
      simp only at hh
      obtain ⟨v, hv, r⟩ := en.get i d q
      refine ⟨v, hv, μ, σD, S, ok, en, ?_⟩
      cases q2 : f σD S with
      | no => rw [q2] at hh; exact hh.elim
      | ex e S1 =>
        rw [q2] at hh
        exact fun μ' H' cls dx x ok' => hh μ' H' σ cls dx x ok' (en.mono x)
      | ok y S1 =>
        rw [q2] at hh
        simp only [SR.ofE] at hh
        refine fun μ1 H1 vy x1 ok1 ry => ⟨μ1, S1, d, y, ok1, r.mono x1, ry, ?_⟩
        cases q3 : k d y S1 with
        | none => rw [q3] at hh; exact hh.elim
        | some p =>
          obtain ⟨z, S2⟩ := p
          rw [q3] at hh
          exact fun μ2 H2 vz x2 ok2 rz => hh μ2 H2 _ (x1.trans x2) ok2 ((en.mono (x1.trans x2)).set i rz)
end
end DL

namespace DL
open PySem PySem.Spec PyProof.Rows L2
/-! ### what is walked -/
/-- a list of the store that has to stay as it is -/
abbrev Gd := Option (Nat × List D)
def Gd.ok : Gd → Store → Prop
  | none, _ => True
  | some (l, xs), S => S[l]? = some (.lst xs)
abbrev DI := Sg → Store → Res (Gd × List D)
structure Wlk (K : KW) (J : It) (μ0 : List Addr) (H0 : Hp) (p : Gd × List D) : Prop where
  go : ∀ (i : Nat) (μ : List Addr) (H : Hp) (S : Store) (d : D), Sub μ0 H0 μ H → Ok K μ H S → p.1.ok S → p.2[i]? = some d → J.go i H ∧ ∀ x H', J.yld i H x H' → Ext μ H μ H' ∧ Ok K μ H' S ∧ R K μ H' d x
  stop : ∀ (i : Nat) (μ : List Addr) (H : Hp) (S : Store), Sub μ0 H0 μ H → Ok K μ H S → p.1.ok S → p.2.length ≤ i → J.stop i H
abbrev RI (K : KW) : List Addr → Hp → (Gd × List D) → It → Prop := fun μ H p J => Wlk K J μ H p
abbrev tI (K : KW) (mg : Str → Option Value) (W : WX) (f : DI) : TI := tG K mg W (RI K) f
theorem PI.weak {X : Cx} {tg e : Expr} {t t' : TI} (h : PI X tg e t) (w : ∀ σ H Q, t' σ H Q → t σ H Q) : PI X tg e t' := ⟨fun pins s σ H R I q => h.run pins s σ H R I (w σ H R q)⟩
theorem PI.or {X : Cx} {tg e : Expr} {t t' : TI} (h : PI X tg e t) (h' : PI X tg e t') : PI X tg e (fun σ H Q => t σ H Q ∨ t' σ H Q) := ⟨fun pins s σ H R I q => q.elim (h.run pins s σ H R I) (h'.run pins s σ H R I)⟩
section
variable {X : Cx} {W : WX} {pos : Pos} {tg a b c e o : Expr} {es : List Expr} {f g h : DE} {t : DT} {fa : DA} {K : KW} {mg : Str → Option Value}
/-- a list, a tuple -/
def cIter (f : DE) : DI := fun σ S => (f σ S).bind fun x S1 => match x with
  | .tup xs => .ok (none, xs) S1
  | .rol xs => .ok (none, xs) S1
  | .loc l => match S1[l]? with
    | some (.lst xs) => .ok (some (l, xs), xs) S1
    | _ => .no
  | _ => .no
theorem wlk_tup {μ : List Addr} {H : Hp} {a : Addr} {vs : List V} {xs : List D} (h : SqT K H a vs) (r : RL K μ H xs vs) : Wlk K (Itt K a) μ H (none, xs) where
  go := fun i μ' H' S d x ok _ hd => by
    obtain ⟨v, hv, _⟩ := r.get hd
    refine ⟨⟨vs, v, x.sqT h, hv⟩, fun y H'' hy => ?_⟩
    obtain ⟨rfl, hy⟩ := hy
    have e := hy vs (x.sqT h)
    obtain ⟨d', hd', rd⟩ := r.getV e
    rw [show xs[i]? = some d from hd] at hd'; cases hd'
    exact ⟨Ext.refl _ _, ok, rd.subM x⟩
  stop := fun i μ' H' S x ok _ hi => ⟨vs, x.sqT h, by rw [← r.length]; exact hi⟩
theorem wlk_rol {μ : List Addr} {H : Hp} {a : Addr} {vs : List V} {xs : List D} (h : SqI K H a vs) (r : RL K μ H xs vs) : Wlk K (Itl K a) μ H (none, xs) where
  go := fun i μ' H' S d x ok _ hd => by
    obtain ⟨v, hv, _⟩ := r.get hd
    refine ⟨⟨vs, v, (x.sqI h).sq, hv⟩, fun y H'' hy => ?_⟩
    obtain ⟨rfl, hy⟩ := hy
    have e := hy vs (x.sqI h).sq
    obtain ⟨d', hd', rd⟩ := r.getV e
    rw [show xs[i]? = some d from hd] at hd'; cases hd'
    exact ⟨Ext.refl _ _, ok, rd.subM x⟩
  stop := fun i μ' H' S x ok _ hi => ⟨vs, (x.sqI h).sq, by rw [← r.length]; exact hi⟩
/-- what a guard says -/
theorem gd_loc {μ0 μ : List Addr} {H0 H : Hp} {S : Store} {l : Nat} {a : Addr} {xs : List D} (hl : μ0[l]? = some a) (x : Sub μ0 H0 μ H) (ok : Ok K μ H S) (g : S[l]? = some (.lst xs)) : ∃ vs, SqL K H a vs ∧ RL K μ H xs vs := by
  obtain ⟨a', h1, hc⟩ := ok.at g
  rw [x.at hl] at h1; cases h1
  obtain ⟨vs, hv, _, r⟩ := hc
  exact ⟨vs, .inl (.inl hv), r⟩
theorem wlk_loc {μ : List Addr} {H : Hp} {l : Nat} {a : Addr} {xs : List D} (hl : μ[l]? = some a) : Wlk K (Itl K a) μ H (some (l, xs), xs) where
  go := fun i μ' H' S d x ok g hd => by
    obtain ⟨vs, hs, r⟩ := gd_loc hl x ok g
    obtain ⟨v, hv, _⟩ := r.get hd
    refine ⟨⟨vs, v, hs, hv⟩, fun y H'' hy => ?_⟩
    obtain ⟨rfl, hy⟩ := hy
    have e := hy vs hs
    obtain ⟨d', hd', rd⟩ := r.getV e
    rw [show xs[i]? = some d from hd] at hd'; cases hd'
    exact ⟨Ext.refl _ _, ok, rd⟩
  stop := fun i μ' H' S x ok g hi => by
    obtain ⟨vs, hs, r⟩ := gd_loc hl x ok g
    exact ⟨vs, hs, by rw [← r.length]; exact hi⟩
theorem i_seq (he : PE X e (tE X.kw X.mg W f)) : PI X tg e (tI X.kw X.mg W (cIter f)) := by
  refine PI.weak (PI.or (pi_list he) (pi_tup he)) fun σ H Q hh => ?_
  obtain ⟨μ, σD, S, ok, en, hh⟩ := hh
  unfold cIter at hh
  cases q : f σD S with
  | no => rw [q] at hh; exact hh.elim
  | ex e S1 =>
    rw [q] at hh
    exact .inl ⟨μ, σD, S, ok, en, by rw [q]; exact hh⟩
  | ok x S1 =>
    rw [q] at hh
    cases x with
    | tup xs =>
      refine .inr ⟨μ, σD, S, ok, en, ?_⟩
      rw [q]
      intro μ' H' v x1 ok1 r
      cases r with
      | @tup p vs _ hs hl rr => exact ⟨p, rfl, ⟨vs, hs⟩, hh μ' H' _ x1 ok1 (wlk_tup hs rr)⟩
    | rol xs =>
      refine .inl ⟨μ, σD, S, ok, en, ?_⟩
      rw [q]
      intro μ' H' v x1 ok1 r
      cases r with
      | @rol p vs _ hs hl rr => exact ⟨p, rfl, ⟨vs, hs.sq⟩, hh μ' H' _ x1 ok1 (wlk_rol hs rr)⟩
    | loc l =>
      refine .inl ⟨μ, σD, S, ok, en, ?_⟩
      rw [q]
      intro μ' H' v x1 ok1 r
      simp only [Res.bind_ok] at hh
      cases q2 : S1[l]? with
      | none => rw [q2] at hh; exact hh.elim
      | some c =>
        cases c with
        | dct _ => (first | exact hp.elim | exact h.elim | exact hh.elim | (cases h; done) | (cases hp; done) | (cases hh; done) | (rw [e1, e2] at hp; exact hp.elim) | (rw [e1] at hp; exact hp.elim) | (rw [q] at hp; exact hp.elim) | (rw [q] at h; cases h; done) | (rw [q] at hh; exact hh.elim) | (rw [q] at h; exact h.elim) | (rw [q2] at hh; exact hh.elim) | (rw [q2] at h; exact h.elim) | (rw [q2] at hp; exact hp.elim))
        | lst xs =>
          rw [q2] at hh
          obtain ⟨p, vs, rfl, hl, hv, _, rr⟩ := loc_at ok1 r q2
          exact ⟨p, rfl, ⟨vs, .inl (.inl hv)⟩, hh μ' H' _ x1 ok1 (wlk_loc hl)⟩
    | _ => exact hh.elim
/-- ranges -/
def intsTo (lo : Int) (n : Nat) : List D := (List.range n).map fun i : Nat => D.int (lo + i)
def okB (i : Int) : Prop := -(2 ^ 62) ≤ i ∧ i < 2 ^ 62
instance (i : Int) : Decidable (okB i) := by unfold okB; infer_instance
theorem wlk_range {lo : Int} {n : Nat} {μ : List Addr} {H : Hp} : Wlk K (Itr lo n) μ H (none, intsTo lo n) where
  go := fun i μ' H' S d x ok _ hd => by
    unfold intsTo at hd
    rw [List.getElem?_map] at hd
    have hi : i < n := by
      rcases Nat.lt_or_ge i n with h | h
      · exact h
      · rw [List.getElem?_eq_none (by simpa using h)] at hd; cases hd
    rw [List.getElem?_range hi] at hd
    cases hd
    refine ⟨hi, fun y H'' hy => ?_⟩
    obtain ⟨rfl, rfl⟩ := hy
    exact ⟨Ext.refl _ _, ok, .int _⟩
  stop := fun i μ' H' S x ok _ hi => by
    unfold intsTo at hi
    have : n ≤ i := by simpa using hi
    exact this
def cRange1 (f : DE) : DI := fun σ S => (f σ S).bind fun x S1 => match x with
  | .int j => if okB j then .ok (none, intsTo 0 j.toNat) S1 else .no
  | _ => .no
def cRange2 (f g : DE) : DI := fun σ S => (f σ S).bind fun x S1 => (g σ S1).bind fun y S2 => match x, y with
  | .int i, .int j => if okB i ∧ okB j then .ok (none, intsTo i (j - i).toNat) S2 else .no
  | _, _ => .no
theorem tNil_A {σ : L2.St} {H : Hp} {Q : List V → Hp → Prop} : Q [] H → tNil σ H Q := fun h => h
theorem i_range1 {p : Pos} (hm : X.mg "range" = none) (ha : PE X a (tE X.kw X.mg W f)) (hg : Gl X "range" := by rfl) (hs : starEach [a] X.env = [(false, eval a X.env)] := by rfl) : PI X tg (.Call (.Name "range" p) [a] [] pos) (tI X.kw X.mg W (cRange1 f)) :=
  PI.weak (pi_range1 hg hm (pa_cons ha pa_nil hs) hs) fun σ H Q hh => tG1 (RA := R X.kw) hh fun x S μ H v ok rx hh => by
    cases rx with
    | int j =>
      simp only at hh
      split at hh
      · rename_i hb
        exact ⟨j, rfl, hb.1, hb.2, hh μ H _ (Ext.refl _ _) ok wlk_range⟩
      · exact hh.elim
    | _ => exact hh.elim
theorem i_range2 {p : Pos} (hm : X.mg "range" = none) (ha : PE X a (tE X.kw X.mg W f)) (hb : PE X b (tE X.kw X.mg W g)) (hg : Gl X "range" := by rfl) (hs : starEach [a, b] X.env = [(false, eval a X.env), (false, eval b X.env)] := by rfl) (hs2 : starEach [b] X.env = [(false, eval b X.env)] := by rfl)
    (hs3 : starEach [a, b] X.env = (false, eval a X.env) :: starEach [b] X.env := by rfl) : PI X tg (.Call (.Name "range" p) [a, b] [] pos) (tI X.kw X.mg W (cRange2 f g)) :=
  PI.weak (pi_range2 hg hm (pa_cons ha (pa_cons hb pa_nil hs2) hs3) hs hs2) fun σ H Q hh => tG2 (RA := R X.kw) (RB := R X.kw) (fun _ _ _ _ _ _ x r => r.mono x) hh fun x y S μ H v u ok rx ry hh => by
    cases rx with
    | int i =>
      cases ry with
      | int j =>
        simp only at hh
        split at hh
        · rename_i hb
          exact ⟨i, j, rfl, ⟨hb.1.1, hb.1.2, hb.2.1, hb.2.2⟩, hh μ H _ (Ext.refl _ _) ok wlk_range⟩
        · exact hh.elim
      | _ => exact hh.elim
    | _ => exact hh.elim
/-- range(i, j, c) -/
def stepsTo (i c : Int) (n : Nat) : List D := (List.range n).map fun k : Nat => D.int (i + (k : Int) * c)
def rgN (i j c : Int) : Nat := (Builtin.Range.rangeSize i j c).toNat
def okRg (i j c : Int) : Prop := c ≠ 0 ∧ c.natAbs < 1073741824 ∧ Builtin.Range.small i j c = true ∧ 0 ≤ Builtin.Range.rangeSize i j c
instance (i j c : Int) : Decidable (okRg i j c) := by unfold okRg; infer_instance
theorem wlk_rangeC {lo c : Int} {n : Nat} {μ : List Addr} {H : Hp} : Wlk K (Itc lo c n) μ H (none, stepsTo lo c n) where
  go := fun i μ' H' S d x ok _ hd => by
    unfold stepsTo at hd
    rw [List.getElem?_map] at hd
    have hi : i < n := by
      rcases Nat.lt_or_ge i n with h | h
      · exact h
      · rw [List.getElem?_eq_none (by simpa using h)] at hd; cases hd
    rw [List.getElem?_range hi] at hd
    cases hd
    refine ⟨hi, fun y H'' hy => ?_⟩
    obtain ⟨rfl, rfl⟩ := hy
    exact ⟨Ext.refl _ _, ok, .int _⟩
  stop := fun i μ' H' S x ok _ hi => by
    unfold stepsTo at hi
    have : n ≤ i := by simpa using hi
    exact this
def rg3 (x y z : D) (S : Store) : Res (Gd × List D) := match x, y, z with
  | .int i, .int j, .int c => if okRg i j c then .ok (none, stepsTo i c (rgN i j c)) S else .no
  | _, _, _ => .no
def cRange3 (f g h : DE) : DI := fun σ S => (f σ S).bind fun x S1 => (g σ S1).bind fun y S2 => (h σ S2).bind fun z S3 => rg3 x y z S3
theorem i_range3 {p : Pos} (hm : X.mg "range" = none) (ha : PE X a (tE X.kw X.mg W f)) (hb : PE X b (tE X.kw X.mg W g)) (hc : PE X c (tE X.kw X.mg W h)) (hg : Gl X "range" := by rfl)
    (hs1 : starEach [a, b, c] X.env = (false, eval a X.env) :: starEach [b, c] X.env := by rfl) (hs2 : starEach [b, c] X.env = (false, eval b X.env) :: starEach [c] X.env := by rfl) (hs3 : starEach [c] X.env = (false, eval c X.env) :: starEach [] X.env := by rfl)
    (hpl : (backTo pos (starEach [b, c] X.env)).any (·.1) = false := by rfl) : PI X tg (.Call (.Name "range" p) [a, b, c] [] pos) (tI X.kw X.mg W (cRange3 f g h)) := by
  refine PI.weak (pi_range3 hg hm (pa_cons ha (pa_cons hb (pa_cons hc pa_nil hs3) hs2) hs1) hs1 hpl) fun σ H Q hh => ?_
  refine tG1e (k := fun σ x S1 => (g σ S1).bind fun y S2 => (h σ S2).bind fun z S3 => rg3 x y z S3) (RA := R X.kw) hh fun σD x S μ H v ok en rx hh => ?_
  show tCons (tE X.kw X.mg W g) (tCons (tE X.kw X.mg W h) tNil) σ H _
  refine tG1e (RC := RI X.kw) (RA := R X.kw) (k := fun σ y S2 => (h σ S2).bind fun z S3 => rg3 x y z S3) (Q := Q) ⟨μ, σD, S, ok, en, hh⟩ fun σD2 y S2 μ2 H2 u ok2 en2 ry hh => ?_
  show tCons (tE X.kw X.mg W h) tNil σ H2 _
  refine tG1 (RC := RI X.kw) (RA := R X.kw) (k := fun z S3 => rg3 x y z S3) (Q := Q) ⟨μ2, σD2, S2, ok2, en2, hh⟩ fun z S3 μ3 H3 w ok3 rz hh => ?_
  show ∃ i j c n, [v, u, w] = [V.int i, V.int j, V.int c] ∧ _
  cases x with
  | int i =>
    cases y with
    | int j =>
      cases z with
      | int c =>
        cases rx
        cases ry
        cases rz
        simp only [rg3] at hh
        split at hh
        · rename_i hb
          refine ⟨i, j, c, rgN i j c, rfl, ⟨hb.1, hb.2.1, hb.2.2.1, ?_⟩, hh μ3 H3 _ (Ext.refl _ _) ok3 wlk_rangeC⟩
          unfold rgN
          exact (Int.toNat_of_nonneg hb.2.2.2).symm
        · exact hh.elim
      | _ => exact hh.elim
    | _ => exact hh.elim
  | _ => exact hh.elim
/-- enumerate(list) -/
def numbered (k : Nat) : List D → List D
  | [] => []
  | x :: xs => .tup [.int (k : Nat), x] :: numbered (k + 1) xs
theorem numbered_get : ∀ (xs : List D) (k i : Nat), (numbered k xs)[i]? = xs[i]?.map fun x => D.tup [.int ((k + i : Nat) : Int), x]
  | [], k, i => by simp [numbered]
  | x :: xs, k, 0 => by simp [numbered]
  | x :: xs, k, i + 1 => by
    rw [numbered, List.getElem?_cons_succ, List.getElem?_cons_succ, numbered_get xs (k + 1) i, show k + 1 + i = k + (i + 1) by omega]
theorem numbered_length : ∀ (xs : List D) (k : Nat), (numbered k xs).length = xs.length
  | [], _ => rfl
  | _ :: xs, k => by rw [numbered, List.length_cons, List.length_cons, numbered_length xs]
/-- the items of a list that is numbered, with its guard -/
def enumL (x : D) (S : Store) : Res (Gd × List D) := match x with
  | .rol xs => .ok (none, numbered 0 xs) S
  | .loc l => match S[l]? with
    | some (.lst xs) => .ok (some (l, xs), numbered 0 xs) S
    | _ => .no
  | _ => .no
theorem wlk_enum {μ0 : List Addr} {H0 : Hp} {a : Addr} {gd : Gd} {xs : List D} (hq : ∀ μ H S, Sub μ0 H0 μ H → Ok K μ H S → gd.ok S → ∃ vs, SqL K H a vs ∧ RL K μ H xs vs) : Wlk K (Ite K a) μ0 H0 (gd, numbered 0 xs) where
  go := fun i μ' H' S d x ok g hd => by
    obtain ⟨vs, hs, r⟩ := hq μ' H' S x ok g
    rw [numbered_get] at hd
    cases q : xs[i]? with
    | none => rw [q] at hd; cases hd
    | some y =>
      rw [q] at hd
      cases hd
      obtain ⟨v, hv, rv⟩ := r.get q
      refine ⟨⟨vs, v, hs, hv⟩, fun z H'' hy => ?_⟩
      obtain ⟨T, w, rfl, hT, rfl, hw⟩ := hy
      have e := hw vs hs
      rw [hv] at e; cases e
      refine ⟨ext_new hT, ok.laid hT, .tup (.inl (.inl upd_same)) (by show 2 ≤ sizeLine; decide) (.cons ?_ (.cons (rv.mono (ext_new hT)) .nil))⟩
      rw [Nat.zero_add]
      exact .int _
  stop := fun i μ' H' S x ok g hi => by
    obtain ⟨vs, hs, r⟩ := hq μ' H' S x ok g
    rw [numbered_length] at hi
    exact ⟨vs, hs, by rw [← r.length]; exact hi⟩
end
end DL

namespace DL
open PySem PySem.Spec PyProof.Rows L2
/-! ### for -/
open Classical in
noncomputable def forL (gd : Gd) (g : DG) (b : DS) : List D → Sg → Store → SR
  | [], σ, S => if gd.ok S then .nx σ S else .no
  | x :: xs, σ, S => if gd.ok S then match g x σ S with
      | .nx σ1 S1 => match b σ1 S1 with
        | .nx σ2 S2 => forL gd g b xs σ2 S2
        | .ct σ2 S2 => forL gd g b xs σ2 S2
        | .bk σ2 S2 => .nx σ2 S2
        | r => r
      | .ex e σ1 S1 => .ex e σ1 S1
      | _ => .no
    else .no
def SR.ofI (σ : Sg) (r : Res (Gd × List D)) (k : Gd → List D → Store → SR) : SR := match r with
  | .ok d S => k d.1 d.2 S
  | .ex e S => .ex e σ S
  | .no => .no
noncomputable def sFor (src : DI) (g : DG) (b : DS) : DS := fun σ S => SR.ofI σ (src σ S) fun gd ds S1 => forL gd g b ds σ S1
def whileN (t : DT) (b : DS) : Nat → Sg → Store → SR
  | 0, _, _ => .no
  | n + 1, σ, S => SR.ofT σ (t σ S) fun c S1 => if c = true then match b σ S1 with
      | .nx σ2 S2 => whileN t b n σ2 S2
      | .ct σ2 S2 => whileN t b n σ2 S2
      | .bk σ2 S2 => .nx σ2 S2
      | r => r
    else .nx σ S1
def WF : Nat := 100000000
def sWhile (t : DT) (b : DS) : DS := fun σ S => whileN t b WF σ S
section
variable {X : Cx} {W : WX} {pos : Pos} {tg iter a c e o : Expr} {es : List Expr} {f h : DE} {t : DT} {fa : DA} {K : KW} {mg : Str → Option Value} {body : List Stmt} {b : DS} {g : DG} {src : DI}
theorem s_for (hp : PassesOwn (model X.prog X.w) X.A X.env X.xe) (hi : PI X tg iter (tI X.kw X.mg W src)) (hg : PG X tg (tGt X.kw X.mg W g)) (hb : PSs X body (tS X.kw X.mg W b)) (hc : X.calm = true := by rfl)
    (hs : ∀ x, foldedSetIterable iter X.env x = pure x := by intro _; rfl) : PS X (.For tg iter body [] pos) (tS X.kw X.mg W (sFor src g b)) := by
  refine PS.weak (ps_for hp hc hi hg hb hs) fun Dn σ H hh => ?_
  obtain ⟨μ, σD, S, ok, en, hh⟩ := hh
  refine ⟨μ, σD, S, ok, en, ?_⟩
  simp only [sFor] at hh
  cases q : src σD S with
  | no => rw [q] at hh; exact hh.elim
  | ex e S1 =>
    rw [q] at hh
    exact fun μ' H' cls dx x ok' => hh μ' H' σ cls dx x ok' (en.mono x)
  | ok p S1 =>
    rw [q] at hh
    obtain ⟨gd, ds⟩ := p
    simp only [SR.ofI] at hh
    intro μ1 H1 J x1 ok1 wk
    refine ⟨fun i m σ2 H2 => m = ds.length - i ∧ i ≤ ds.length ∧ ∃ μ2 σD2 S2, Ext μ1 H1 μ2 H2 ∧ Ok X.kw μ2 H2 S2 ∧ EnvR X.kw μ2 H2 σD2 σ2 ∧ SPost X.kw X.mg W μ2 H2 (forL gd g b (ds.drop i) σD2 S2) Dn,
      ⟨ds.length, rfl, Nat.zero_le _, μ1, σD, S1, Ext.refl _ _, ok1, en.mono x1, SPost.mono x1 hh⟩, ?_⟩
    rintro i m σ2 H2 ⟨rfl, hi, μ2, σD2, S2, x2, ok2, en2, h2⟩
    by_cases hlt : i < ds.length
    · rw [List.drop_eq_getElem_cons hlt, forL] at h2
      by_cases hgd : gd.ok S2
      · rw [if_pos hgd] at h2
        obtain ⟨go, yl⟩ := wk.go i μ2 H2 S2 ds[i] x2.sub ok2 hgd (List.getElem?_eq_getElem hlt)
        refine .inr ⟨go, fun σ3 H3 => ∃ μ3 σD3 S3, Ext μ1 H1 μ3 H3 ∧ Ok X.kw μ3 H3 S3 ∧ EnvR X.kw μ3 H3 σD3 σ3 ∧ SPost X.kw X.mg W μ3 H3 (forL gd g b (ds.drop (i + 1)) σD3 S3) Dn,
          fun σ3 H3 h3 => ⟨ds.length - (i + 1), by omega, rfl, hlt, h3⟩, fun x H' hy => ?_⟩
        obtain ⟨xe, oke, re⟩ := yl x H' hy
        refine ⟨μ2, σD2, S2, ds[i], oke, en2.mono xe, re, ?_⟩
        cases q2 : g ds[i] σD2 S2 with
        | nx σD3 S3 =>
          rw [q2] at h2
          simp only at h2
          intro μ3 H3 σ3 x3 ok3 en3
          refine ⟨μ3, σD3, S3, ok3, en3, ?_⟩
          have x23 : Ext μ2 H2 μ3 H3 := xe.trans x3
          have h3 := SPost.mono x23 h2
          cases q3 : b σD3 S3 with
          | nx σ4 S4 =>
            rw [q3] at h3
            exact fun μ4 H4 σ5 x4 ok4 en4 => ⟨μ4, σ4, S4, x2.trans (x23.trans x4), ok4, en4, SPost.mono x4 h3⟩
          | ct σ4 S4 =>
            rw [q3] at h3
            exact fun μ4 H4 σ5 x4 ok4 en4 => ⟨μ4, σ4, S4, x2.trans (x23.trans x4), ok4, en4, SPost.mono x4 h3⟩
          | bk σ4 S4 =>
            rw [q3] at h3
            exact h3
          | rt d S4 =>
            rw [q3] at h3
            exact h3
          | ex e σ4 S4 =>
            rw [q3] at h3
            exact h3
          | no => rw [q3] at h3; exact h3.elim
        | ex e σD3 S3 =>
          rw [q2] at h2
          exact fun μ3 H3 σ3 c d x3 => h2 μ3 H3 σ3 c d (xe.trans x3)
        | _ => rw [q2] at h2; exact h2.elim
      · rw [if_neg hgd] at h2
        exact h2.elim
    · have e : i = ds.length := by omega
      subst e
      rw [List.drop_length, forL] at h2
      by_cases hgd : gd.ok S2
      · rw [if_pos hgd] at h2
        exact .inl ⟨wk.stop _ μ2 H2 S2 x2.sub ok2 hgd (Nat.le_refl _), h2 μ2 H2 σ2 (Ext.refl _ _) ok2 en2⟩
      · rw [if_neg hgd] at h2
        exact h2.elim
theorem s_while (hp : PassesOwn (model X.prog X.w) X.A X.env X.xe) (hc : PT X c (tT X.kw X.mg W t)) (hb : PSs X body (tS X.kw X.mg W b)) : PS X (.While c body [] pos) (tS X.kw X.mg W (sWhile t b)) := by
  refine PS.weak (ps_while hp hc hb) fun Dn σ H hh => ?_
  obtain ⟨μ, σD, S, ok, en, hh⟩ := hh
  refine ⟨fun m σ2 H2 => ∃ μ2 σD2 S2, Ok X.kw μ2 H2 S2 ∧ EnvR X.kw μ2 H2 σD2 σ2 ∧ SPost X.kw X.mg W μ2 H2 (whileN t b m σD2 S2) Dn, ⟨WF, μ, σD, S, ok, en, hh⟩, ?_⟩
  rintro m σ2 H2 ⟨μ2, σD2, S2, ok2, en2, h2⟩
  cases m with
  | zero => exact h2.elim
  | succ n =>
    rw [whileN] at h2
    refine ⟨μ2, σD2, S2, ok2, en2, ?_⟩
    cases q : t σD2 S2 with
    | no => rw [q] at h2; exact h2.elim
    | ex e S3 =>
      rw [q] at h2
      exact fun μ' H' cls dx x ok' => h2 μ' H' σ2 cls dx x ok' (en2.mono x)
    | ok k S3 =>
      rw [q] at h2
      simp only [SR.ofT] at h2
      intro μ3 H3 k' x3 ok3 ek
      cases ek
      cases k with
      | false => exact h2 μ3 H3 σ2 x3 ok3 (en2.mono x3)
      | true =>
        rw [if_pos rfl] at h2 ⊢
        refine ⟨fun σ4 H4 => ∃ μ4 σD4 S4, Ok X.kw μ4 H4 S4 ∧ EnvR X.kw μ4 H4 σD4 σ4 ∧ SPost X.kw X.mg W μ4 H4 (whileN t b n σD4 S4) Dn, fun σ4 H4 h4 => ⟨n, Nat.lt_succ_self _, h4⟩, μ3, σD2, S3, ok3, en2.mono x3, ?_⟩
        have h3 := SPost.mono x3 h2
        cases q3 : b σD2 S3 with
        | nx σ4 S4 =>
          rw [q3] at h3
          exact fun μ4 H4 σ5 x4 ok4 en4 => ⟨μ4, σ4, S4, ok4, en4, SPost.mono x4 h3⟩
        | ct σ4 S4 =>
          rw [q3] at h3
          exact fun μ4 H4 σ5 x4 ok4 en4 => ⟨μ4, σ4, S4, ok4, en4, SPost.mono x4 h3⟩
        | bk σ4 S4 => rw [q3] at h3; exact h3
        | rt d S4 => rw [q3] at h3; exact h3
        | ex e σ4 S4 => rw [q3] at h3; exact h3
        | no => rw [q3] at h3; exact h3.elim
/-- enumerate(list) -/
def cEnum (f : DE) : DI := fun σ S => (f σ S).bind enumL
theorem i_enumL {elts : List Expr} {kk : Nat} {p tpos : Pos} (hm : X.mg "enumerate" = none) (he : PE X e (tE X.kw X.mg W f)) (hg : Gl X "enumerate" := by rfl) (hs : starEach [e] X.env = [(false, eval e X.env)] := by rfl) :
    PI X (.Tuple elts kk tpos) (.Call (.Name "enumerate" p) [e] [] pos) (tI X.kw X.mg W (cEnum f)) :=
  PI.weak (pi_enum hg hm (pa_cons he pa_nil hs) hs) fun σ H Q hh => tG1 (k := enumL) (RA := R X.kw) hh fun x S μ H v ok rx hh => by
    cases rx with
    | @rol p vs xs hs hl rr =>
      exact ⟨p, vs, rfl, hs.sq, hh μ H _ (Ext.refl _ _) ok (wlk_enum fun μ' H' S' x _ _ => ⟨vs, (x.sqI hs).sq, rr.subM x⟩)⟩
    | @loc l p hl =>
      simp only [enumL] at hh
      cases q : S[l]? with
      | none => rw [q] at hh; exact hh.elim
      | some c =>
        cases c with
        | dct _ => (first | exact hp.elim | exact h.elim | exact hh.elim | (cases h; done) | (cases hp; done) | (cases hh; done) | (rw [e1, e2] at hp; exact hp.elim) | (rw [e1] at hp; exact hp.elim) | (rw [q] at hp; exact hp.elim) | (rw [q] at h; cases h; done) | (rw [q] at hh; exact hh.elim) | (rw [q] at h; exact h.elim) | (rw [q2] at hh; exact hh.elim) | (rw [q2] at h; exact h.elim) | (rw [q2] at hp; exact hp.elim))
        | lst xs =>
          rw [q] at hh
          obtain ⟨p', vs, e1, _, hv, _, rr⟩ := loc_at ok (R.loc hl) q
          cases e1
          exact ⟨p, vs, rfl, .inl (.inl hv), hh μ H _ (Ext.refl _ _) ok (wlk_enum fun μ' H' S' x ok' g => gd_loc hl x ok' g)⟩
    | _ => exact hh.elim
end

/-! ### comprehensions -/
/-- a pattern of names -/
inductive Pat where
  | nm (i : Nat) | un (ps : List Pat)
mutual
def Pat.slots : Pat → List Nat
  | .nm i => [i]
  | .un ps => Pat.slotsL ps
def Pat.slotsL : List Pat → List Nat
  | [] => []
  | p :: ps => p.slots ++ Pat.slotsL ps
end
mutual
def Pat.bind (S : Store) : Pat → D → Sg → Option Sg
  | .nm i, d, σ => some (σ.set i (some d))
  | .un ps, d, σ => match itemsOf S d with
    | some xs => Pat.bindL S ps xs σ
    | none => none
def Pat.bindL (S : Store) : List Pat → List D → Sg → Option Sg
  | [], [], σ => some σ
  | p :: ps, x :: xs, σ => match Pat.bind S p x σ with
    | some σ' => Pat.bindL S ps xs σ'
    | none => none
  | _, _, _ => none
end
def wipeD (σ : Sg) : List Nat → Sg
  | [] => σ
  | v :: vs => (wipeD σ vs).set v none
theorem EnvR.wipe {K : KW} {μ : List Addr} {H : Hp} {σ : Sg} {σV : L2.St} (e : EnvR K μ H σ σV) : ∀ vs, EnvR K μ H (wipeD σ vs) (L2.wipe σV vs)
  | [] => e
  | v :: vs => by
    have ih := EnvR.wipe e vs
    rw [wipeD, L2.wipe]
    refine ⟨by rw [List.length_set, List.length_set]; exact ih.len, fun j d h => ?_⟩
    by_cases hj : v = j
    · subst hj
      have hi : v < (wipeD σ vs).length := by
        have := (List.getElem?_eq_some_iff.mp h).1
        rwa [List.length_set] at this
      rw [List.getElem?_set_self hi] at h
      cases h
    · rw [List.getElem?_set_ne hj] at h ⊢
      exact ih.get j d h
theorem wipe_set {σ : L2.St} {i : Nat} {o : Option V} : ∀ {vs : List Nat}, i ∈ vs → L2.wipe (σ.set i o) vs = L2.wipe σ vs
  | [], h => by cases h
  | v :: vs, h => by
    unfold L2.wipe
    by_cases hv : i ∈ vs
    · rw [wipe_set hv]
    · have e : i = v := by
        rcases List.mem_cons.mp h with z | z
        · exact z
        · exact absurd z hv
      subst e
      have out : ∀ {ws : List Nat} {σ : L2.St}, i ∉ ws → L2.wipe (σ.set i o) ws = (L2.wipe σ ws).set i o := by
        intro ws
        induction ws with
        | nil => intro σ _; rfl
        | cons w ws ih =>
          intro σ hw
          rw [List.mem_cons, not_or] at hw
          unfold L2.wipe
          rw [ih hw.2, List.set_comm _ _ hw.1]
      rw [out hv, List.set_set]
def tPt (K : KW) (p : Pat) : TG := fun v σ H Q => ∃ μ σD S d, Ok K μ H S ∧ EnvR K μ H σD σ ∧ R K μ H d v ∧ match p.bind S d σD with
  | some σ' => ∀ σV', EnvR K μ H σ' σV' → (∀ vs, (∀ i ∈ p.slots, i ∈ vs) → L2.wipe σV' vs = L2.wipe σ vs) → Q σV' H
  | none => False
def tPts (K : KW) (ps : List Pat) : TGs := fun vs σ H Q => ∃ μ σD S ds, Ok K μ H S ∧ EnvR K μ H σD σ ∧ RL K μ H ds vs ∧ match Pat.bindL S ps ds σD with
  | some σ' => ∀ σV', EnvR K μ H σ' σV' → (∀ vs, (∀ i ∈ Pat.slotsL ps, i ∈ vs) → L2.wipe σV' vs = L2.wipe σ vs) → Q σV' H
  | none => False
section
variable {X : Cx} {pos : Pos} {e : Expr} {es : List Expr}
theorem p_name (i : Nat) {x : Str} (hN : X.N.Nodup) (hi : X.N[i]? = some x := by rfl) (hx : Loc X.env.scope x := by first | exact .inl rfl | exact .inr rfl) (hf : X.fn x = true ∨ X.env.scope.names.lookup x = some .local := by first | exact .inl rfl | exact .inr rfl | assumption) : PG X (.Name x pos) (tPt X.kw (.nm i)) :=
  PG.weak (pg_name hN hi hx hf) fun v σ H Q hh => by
    obtain ⟨μ, σD, S, d, ok, en, r, hh⟩ := hh
    exact hh _ (en.set i r) fun vs hv => wipe_set (hv i (by simp [Pat.slots]))
theorem ps_nil : PGs X [] (tPts X.kw []) := PGs.weak pgs_nil fun v σ H Q hh => by
  obtain ⟨μ, σD, S, d, ok, en, r, hh⟩ := hh
  cases r with
  | nil => exact ⟨rfl, hh _ en fun _ _ => rfl⟩
  | cons _ _ => exact hh.elim
theorem ps_cons {p : Pat} {ps : List Pat} (h1 : PG X e (tPt X.kw p)) (h2 : PGs X es (tPts X.kw ps)) (hs : (assignEach (e :: es) X.env).map (·.2) = assign e X.env :: (assignEach es X.env).map (·.2) := by rfl) : PGs X (e :: es) (tPts X.kw (p :: ps)) :=
  PGs.weak (pgs_cons h1 h2 hs) fun v σ H Q hh => by
    obtain ⟨μ, σD, S, d, ok, en, r, hh⟩ := hh
    cases r with
    | nil => exact hh.elim
    | @cons x v xs vs r1 r2 =>
      refine ⟨v, vs, rfl, μ, σD, S, x, ok, en, r1, ?_⟩
      rw [Pat.bindL] at hh
      cases q : p.bind S x σD with
      | none => rw [q] at hh; exact hh.elim
      | some σ' =>
        rw [q] at hh
        simp only at hh
        refine fun σV' en' hw => ⟨μ, σ', S, xs, ok, en', r2, ?_⟩
        cases q2 : Pat.bindL S ps xs σ' with
        | none => rw [q2] at hh; exact hh.elim
        | some σ2 =>
          rw [q2] at hh
          exact fun σV2 en2 hw2 => hh σV2 en2 fun vs hv => by
            rw [hw2 vs fun i hi => hv i (by rw [Pat.slotsL]; exact List.mem_append_right _ hi), hw vs fun i hi => hv i (by rw [Pat.slotsL]; exact List.mem_append_left _ hi)]
theorem bindL_len {S : Store} : ∀ {ps : List Pat} {xs : List D} {σ σ' : Sg}, Pat.bindL S ps xs σ = some σ' → xs.length = ps.length
  | [], [], _, _, _ => rfl
  | [], _ :: _, _, _, h => by simp [Pat.bindL] at h
  | _ :: _, [], _, _, h => by simp [Pat.bindL] at h
  | p :: ps, x :: xs, σ, σ', h => by
    rw [Pat.bindL] at h
    cases q : p.bind S x σ with
    | none => rw [q] at h; cases h
    | some σ2 =>
      rw [q] at h
      rw [List.length_cons, List.length_cons, bindL_len h]
theorem p_un {ps : List Pat} {k : Nat} (h : PGs X es (tPts X.kw ps)) (hc : X.calm = true := by rfl) (hn : (assignEach es X.env).length = ps.length := by rfl) (hst : (assignEach es X.env).findIdx? (·.1) = none := by rfl) : PG X (.Tuple es k pos) (tPt X.kw (.un ps)) :=
  PG.weak (PG.or (pg_tup hc h hn hst) (pg_lst hc h hn hst)) fun v σ H Q hh => by
    obtain ⟨μ, σD, S, d, ok, en, r, hh⟩ := hh
    rw [Pat.bind] at hh
    cases q : itemsOf S d with
    | none => rw [q] at hh; exact hh.elim
    | some xs =>
      rw [q] at hh
      simp only at hh
      obtain ⟨p, vs, rfl, hs, hl, rr⟩ := itemsOf_ok ok r q
      have hln : vs.length = ps.length := by
        cases q2 : Pat.bindL S ps xs σD with
        | none => rw [q2] at hh; exact hh.elim
        | some σ2 => rw [← rr.length]; exact bindL_len q2
      have hh' : tPts X.kw ps vs σ H Q := ⟨μ, σD, S, xs, ok, en, rr, by
        cases q2 : Pat.bindL S ps xs σD with
        | none => rw [q2] at hh; exact hh.elim
        | some σ2 =>
          rw [q2] at hh
          exact fun σV' e1 e2 => hh σV' e1 fun vs hv => e2 vs (by simpa [Pat.slots] using hv)⟩
      rcases hs with hs | hs
      · exact .inr ⟨p, vs, rfl, hs, hln, hh'⟩
      · exact .inl ⟨p, vs, rfl, hs, hln, hh'⟩
end
end DL

namespace DL
open PySem PySem.Spec PyProof.Rows L2
/-! ### expressions that make a new list -/
abbrev DL' := Sg → Store → Res (List D)
/-- a new list, not (yet) of the store -/
def tL (K : KW) (mg : Str → Option Value) (W : WX) (f : DL') : TE := fun σV H Q => ∃ μ σ S, Ok K μ H S ∧ EnvR K μ H σ σV ∧ match f σ S with
  | .ok xs S' => ∀ μ' H' a vs, Ext μ H μ' H' → Ok K μ' H' S' → a ∉ μ' → H a = none → H' a = some (.lst vs) → vs.length ≤ sizeLine → RL K μ' H' xs vs → Q (.ref a) H'
  | .ex e S' => ∀ μ' H' cls dx, Ext μ H μ' H' → Ok K μ' H' S' → ExR K mg μ' H' e cls dx → W cls dx σV H'
  | .no => False
def cAlloc (f : DL') : DE := fun σ S => (f σ S).bind fun xs S1 => .ok (.loc S1.length) (S1 ++ [.lst xs])
section
variable {K : KW} {mg : Str → Option Value} {W : WX}
/-- a list that stands becomes one of the store -/
theorem Ok.adopt {μ : List Addr} {H : Hp} {S : Store} (ok : Ok K μ H S) {p : Addr} {vs : List V} {xs : List D} (hn : p ∉ μ) (h : H p = some (.lst vs)) (l : vs.length ≤ sizeLine) (r : RL K μ H xs vs) : Ok K (μ ++ [p]) H (S ++ [.lst xs]) := by
  have x : Sub μ H (μ ++ [p]) H := ⟨⟨[p], rfl⟩, fun _ _ e _ => e⟩
  refine ⟨by rw [List.length_append, List.length_append, ok.len]; rfl, ?_, fun i a c h1 h2 => ?_⟩
  · rw [List.nodup_append]
    refine ⟨ok.nd, by simp, fun a ha b hb e => ?_⟩
    rw [List.mem_singleton.mp hb] at e
    rw [e] at ha
    exact hn ha
  · by_cases hi : i < μ.length
    · rw [List.getElem?_append_left hi] at h1
      rw [List.getElem?_append_left (by rw [← ok.len]; exact hi)] at h2
      exact (ok.cell i a c h1 h2).subM x fun o e => e
    · rw [List.getElem?_append_right (by omega)] at h1
      rw [List.getElem?_append_right (by rw [← ok.len]; omega)] at h2
      have e0 : i - μ.length = 0 := by
        have := (List.getElem?_eq_some_iff.mp h1).1
        simp at this
        omega
      have e1 : i - S.length = 0 := by rw [← ok.len]; exact e0
      rw [e0] at h1
      rw [e1] at h2
      simp at h1 h2
      subst h1 h2
      exact ⟨vs, h, l, r.subM x⟩
theorem ext_adopt {μ μ' : List Addr} {H H' : Hp} (x : Ext μ H μ' H') {p : Addr} (h : H p = none) : Ext μ H (μ' ++ [p]) H' := by
  obtain ⟨ν, e⟩ := x.pre
  refine ⟨⟨ν ++ [p], by rw [e, List.append_assoc]⟩, x.keep, fun a h1 h2 => ?_⟩
  rcases List.mem_append.mp h1 with z | z
  · exact x.new a z h2
  · rw [List.mem_singleton.mp z]; exact h
theorem tL_alloc {f : DL'} {σ : L2.St} {H : Hp} {Q : VK} (hh : tE K mg W (cAlloc f) σ H Q) : tL K mg W f σ H Q := by
  obtain ⟨μ, σD, S, ok, en, hh⟩ := hh
  refine ⟨μ, σD, S, ok, en, ?_⟩
  unfold cAlloc at hh
  cases q : f σD S with
  | no => rw [q] at hh; exact hh.elim
  | ex e S1 => rw [q] at hh; exact hh
  | ok xs S1 =>
    rw [q] at hh
    exact fun μ' H' a vs x ok' hn ha h l r => hh _ _ _ (ext_adopt x ha) (ok'.adopt hn h l r) (.loc (by rw [← ok'.len, List.getElem?_append_right (Nat.le_refl _)]; simp))
end
section
variable {X : Cx} {W : WX} {pos : Pos} {tg iter e elt : Expr} {f : DL'} {te : DE} {tt : DT} {src : DI} {ifs : List Expr}
theorem l_alloc (h : PE X e (tL X.kw X.mg W f)) : PE X e (tE X.kw X.mg W (cAlloc f)) := PE.weak h fun _ _ _ => tL_alloc
open Classical in
noncomputable def compL (gd : Gd) (p : Pat) (tt : DT) (te : DE) : List D → List D → Sg → Store → Res (List D)
  | [], acc, _, S => if gd.ok S then .ok acc S else .no
  | x :: xs, acc, σ, S => if gd.ok S then match p.bind S x σ with
      | some σ1 => match tt σ1 S with
        | .ok true S2 => match te σ1 S2 with
          | .ok y S3 => if acc.length < sizeLine then compL gd p tt te xs (acc ++ [y]) σ S3 else .no
          | _ => .no
        | .ok false S2 => compL gd p tt te xs acc σ S2
        | _ => .no
      | none => .no
    else .no
noncomputable def lComp (src : DI) (p : Pat) (tt : DT) (te : DE) (vs : List Nat) : DL' := fun σ S => (src σ S).bind fun d S1 => compL d.1 p tt te d.2 [] (wipeD σ vs) S1
def tYesD : DT := fun _ S => .ok true S
abbrev W0 : WX := fun _ _ _ _ => False
theorem PTs.weak {X : Cx} {e : List Expr} {t t' : TT} (h : PTs X e t) (w : ∀ σ H Q, t' σ H Q → t σ H Q) : PTs X e t' := ⟨fun pins s σ H Q I q => h.run pins s σ H Q I (w σ H Q q)⟩
theorem ts_nil : PTs X [] (tT X.kw X.mg W tYesD) := PTs.weak pts_nil fun σ H Q hh => by
  obtain ⟨μ, σD, S, ok, en, hh⟩ := hh
  exact hh μ H true (Ext.refl _ _) ok rfl
theorem ts_one {c : Expr} {t : DT} (h : PT X c (tT X.kw X.mg W t)) : PTs X [c] (tT X.kw X.mg W t) := pts_one h
theorem tL_comp {K : KW} {mg : Str → Option Value} {p : Pat} {vs : List Nat} (hp : ∀ i ∈ p.slots, i ∈ vs) {σ : L2.St} {H : Hp} {Q : VK} (hh : tL K mg W (lComp src p tt te vs) σ H Q) :
    tLc (tI K mg W src) (tPt K p) (tT K mg W0 tt) (tE K mg W0 te) vs σ H Q := by
  obtain ⟨μ, σD, S, ok, en, hh⟩ := hh
  refine ⟨μ, σD, S, ok, en, ?_⟩
  unfold lComp at hh
  cases q : src σD S with
  | no => rw [q] at hh; exact hh.elim
  | ex e S1 => rw [q] at hh; exact hh
  | ok d S1 =>
    rw [q] at hh
    obtain ⟨gd, ds⟩ := d
    simp only [Res.bind_ok] at hh
    intro μ1 H1 J x1 ok1 wk Da hDa
    have hDm : Da ∉ μ1 := ok1.notin hDa
    refine ⟨fun i m H2 => m = ds.length - i ∧ i ≤ ds.length ∧ ∃ μ2 S2 acc va, Ext μ1 H1 μ2 H2 ∧ Ok K μ2 H2 S2 ∧ Da ∉ μ2 ∧ H2 Da = some (.lst va) ∧ va.length ≤ sizeLine ∧ RL K μ2 H2 acc va ∧
        match compL gd p tt te (ds.drop i) acc (wipeD σD vs) S2 with
        | .ok xs S' => ∀ μ' H' a vs, Ext μ H μ' H' → Ok K μ' H' S' → a ∉ μ' → H a = none → H' a = some (.lst vs) → vs.length ≤ sizeLine → RL K μ' H' xs vs → Q (.ref a) H'
        | _ => False,
      ⟨ds.length, rfl, Nat.zero_le _, μ1, S1, [], [], ext_new hDa, ok1.laid hDa, hDm, upd_same, Nat.zero_le _, .nil, ?_⟩, ?_⟩
    · rw [List.drop_zero]
      cases q2 : compL gd p tt te ds [] (wipeD σD vs) S1 with
      | no => rw [q2] at hh; exact hh.elim
      | ex e S2 =>
        exfalso
        have noex : ∀ (ds : List D) acc σ S e S2, compL gd p tt te ds acc σ S ≠ .ex e S2 := by
          intro ds
          induction ds with
          | nil =>
            intro acc σ S e S2 h
            rw [compL] at h
            split at h <;> cases h
          | cons x xs ih =>
            intro acc σ S e S2 h
            rw [compL] at h
            split at h
            · split at h
              · split at h
                · split at h
                  · split at h
                    · exact ih _ _ _ _ _ h
                    · cases h
                  · cases h
                · exact ih _ _ _ _ _ h
                · cases h
              · cases h
            · cases h
        exact noex _ _ _ _ _ _ q2
      | ok xs S2 =>
        rw [q2] at hh
        exact hh
    · rintro i m H2 ⟨rfl, hi, μ2, S2, acc, va, x2, ok2, hm2, hd2, hl2, ra, h2⟩
      by_cases hlt : i < ds.length
      · rw [List.drop_eq_getElem_cons hlt, compL] at h2
        by_cases hgd : gd.ok S2
        · rw [if_pos hgd] at h2
          obtain ⟨go, yl⟩ := wk.go i μ2 H2 S2 ds[i] x2.sub ok2 hgd (List.getElem?_eq_getElem hlt)
          refine .inr ⟨go, fun H3 => ∃ μ3 S3 acc va, Ext μ1 H1 μ3 H3 ∧ Ok K μ3 H3 S3 ∧ Da ∉ μ3 ∧ H3 Da = some (.lst va) ∧ va.length ≤ sizeLine ∧ RL K μ3 H3 acc va ∧
              match compL gd p tt te (ds.drop (i + 1)) acc (wipeD σD vs) S3 with
              | .ok xs S' => ∀ μ' H' a vs, Ext μ H μ' H' → Ok K μ' H' S' → a ∉ μ' → H a = none → H' a = some (.lst vs) → vs.length ≤ sizeLine → RL K μ' H' xs vs → Q (.ref a) H'
              | _ => False,
            fun H3 h3 => ⟨ds.length - (i + 1), by omega, rfl, hlt, h3⟩, fun x H' hy => ?_⟩
          obtain ⟨xe, oke, re⟩ := yl x H' hy
          cases q2 : p.bind S2 ds[i] (wipeD σD vs) with
          | none => rw [q2] at h2; exact h2.elim
          | some σ1 =>
            rw [q2] at h2
            simp only at h2
            refine ⟨μ2, wipeD σD vs, S2, ds[i], oke, ((((en.mono x1).wipe vs).mono x2).mono xe), re, ?_⟩
            rw [q2]
            refine fun σV1 en1 hw => ⟨?_, ?_⟩
            · rw [hw vs hp]
              have : ∀ (l : List Nat) (τ : L2.St), L2.wipe (L2.wipe τ l) l = L2.wipe τ l := by
                intro l τ
                have gen : ∀ (a b : List Nat), (∀ i ∈ a, i ∈ b) → L2.wipe (L2.wipe τ b) a = L2.wipe τ b := by
                  intro a b
                  induction a with
                  | nil => intro _; rfl
                  | cons v a ih =>
                    intro hs
                    rw [L2.wipe, ih fun i hi => hs i (List.mem_cons_of_mem _ hi)]
                    -- the slot is forgotten already
                    have hv : v ∈ b := hs v List.mem_cons_self
                    apply List.ext_getElem?
                    intro j
                    by_cases hj : v = j
                    · subst hj
                      by_cases hlen : v < (L2.wipe τ b).length
                      · rw [List.getElem?_set_self hlen]
                        cases z : (L2.wipe τ b)[v]? with
                        | none => rw [List.getElem?_eq_getElem hlen] at z; cases z
                        | some o =>
                          cases o with
                          | none => rfl
                          | some y => exact absurd hv (wipe_some z).2
                      · rw [List.getElem?_eq_none (by rw [List.length_set]; omega), List.getElem?_eq_none (by omega)]
                    · rw [List.getElem?_set_ne hj]
                exact gen l l fun _ h => h
              exact this vs σ
            · refine ⟨μ2, σ1, S2, oke, en1, ?_⟩
              cases q3 : tt σ1 S2 with
              | no => rw [q3] at h2; exact h2.elim
              | ex e S3 => rw [q3] at h2; exact h2.elim
              | ok k S3 =>
                rw [q3] at h2
                intro μ3 H3 k' x3 ok3 ek
                cases ek
                have x23 : Ext μ2 H2 μ3 H3 := xe.trans x3
                have hm3 : Da ∉ μ3 := fun z => by
                  have := x23.new Da z hm2
                  rw [hd2] at this; cases this
                have hd3 : H3 Da = some (.lst va) := x23.keep _ _ hd2 fun z => absurd z hm2
                cases k with
                | false =>
                  rw [if_neg Bool.false_ne_true]
                  refine ⟨μ3, S3, acc, va, x2.trans x23, ok3, hm3, hd3, hl2, ra.mono x23, ?_⟩
                  simp only at h2
                  cases q4 : compL gd p tt te (ds.drop (i + 1)) acc (wipeD σD vs) S3 with
                  | ok xs S' =>
                    rw [q4] at h2
                    exact h2
                  | _ => rw [q4] at h2; exact h2.elim
                | true =>
                  rw [if_pos rfl]
                  simp only at h2
                  refine ⟨μ3, σ1, S3, ok3, en1.mono x3, ?_⟩
                  cases q4 : te σ1 S3 with
                  | no => rw [q4] at h2; exact h2.elim
                  | ex e S4 => rw [q4] at h2; exact h2.elim
                  | ok y S4 =>
                    rw [q4] at h2
                    simp only at h2
                    intro μ4 H4 vy x4 ok4 ry
                    have x24 : Ext μ2 H2 μ4 H4 := x23.trans x4
                    have hm4 : Da ∉ μ4 := fun z => by
                      have := x24.new Da z hm2
                      rw [hd2] at this; cases this
                    have hd4 : H4 Da = some (.lst va) := x24.keep _ _ hd2 fun z => absurd z hm2
                    by_cases hz : acc.length < sizeLine
                    · rw [if_pos hz] at h2
                      have hza : va.length < sizeLine := by rw [← ra.length]; exact hz
                      refine ⟨va, hd4, hza, ?_⟩
                      have xs4 : Sub μ4 H4 μ4 (upd H4 Da (.lst (va ++ [vy]))) := ⟨⟨[], by simp⟩, fun b o e im => by
                        by_cases hb : b = Da
                        · rw [hb, hd4] at e; cases e; exact absurd im fun z => z
                        · rw [upd_ne hb]; exact e⟩
                      have ok5 : Ok K μ4 (upd H4 Da (.lst (va ++ [vy]))) S4 := ⟨ok4.len, ok4.nd, fun l a c h1 h2 => (ok4.cell l a c h1 h2).subM xs4 fun o e => by
                        rw [upd_ne (fun z => hm4 (by rw [← z]; exact List.mem_of_getElem? h1))]; exact e⟩
                      have x14 : Ext μ1 H1 μ4 (upd H4 Da (.lst (va ++ [vy]))) := by
                        have x := x2.trans x24
                        refine ⟨x.pre, fun b o e hb => ?_, x.new⟩
                        rw [upd_ne (ne_of_none e hDa)]
                        exact x.keep b o e hb
                      refine ⟨μ4, S4, acc ++ [y], va ++ [vy], x14, ok5, hm4, upd_same, by rw [List.length_append]; exact hza, ((ra.mono x24).append (.cons ry .nil)).subM xs4, ?_⟩
                      cases q5 : compL gd p tt te (ds.drop (i + 1)) (acc ++ [y]) (wipeD σD vs) S4 with
                      | ok xs S' =>
                        rw [q5] at h2
                        exact h2
                      | _ => rw [q5] at h2; exact h2.elim
                    · rw [if_neg hz] at h2; exact h2.elim
        · rw [if_neg hgd] at h2; exact h2.elim
      · have e : i = ds.length := by omega
        subst e
        rw [List.drop_length, compL] at h2
        by_cases hgd : gd.ok S2
        · rw [if_pos hgd] at h2
          have hDH : H Da = none := by
            cases z : H Da with
            | none => rfl
            | some o =>
              by_cases hm : Da ∈ μ
              · obtain ⟨ν, e⟩ := x1.pre
                exact absurd (by rw [e]; exact List.mem_append_left _ hm) hDm
              · rw [x1.keep _ _ z fun h => absurd h hm] at hDa; cases hDa
          exact .inl ⟨wk.stop _ μ2 H2 S2 x2.sub ok2 hgd (Nat.le_refl _), h2 μ2 H2 Da va (x1.trans x2) ok2 hm2 hDH hd2 hl2 ra⟩
        · rw [if_neg hgd] at h2; exact h2.elim
end
end DL

namespace DL
open PySem PySem.Spec PyProof.Rows L2
/-! ### comprehensions as expressions -/
section
variable {X : Cx} {W : WX} {pos : Pos} {tg iter e elt : Expr} {f : DL'} {te : DE} {tt : DT} {src : DI} {ifs : List Expr}
theorem l_comp {scope : Scope} {own : List (Str × Nat)} {p : Pat} (hN : X.N.Nodup) (hi : PI X tg iter (tI X.kw X.mg W src)) (ok : BlkOk X.N X.env.scope scope own) (hv : ∀ i ∈ p.slots, i ∈ own.map (·.2))
    (hg : ∀ (s : Shared) (H : Hp) (C : Addr) (cl : List (Str × Addr)) (fp : List Addr), PG (X.blk s H scope (compEnvC scope cl C X.env) fp) tg (tPt X.kw p)) (ht : ∀ (s : Shared) (H : Hp) (C : Addr) (cl : List (Str × Addr)) (fp : List Addr), PTs (X.blk s H scope (compEnvC scope cl C X.env) fp) ifs (tT X.kw X.mg W0 tt))
    (he : ∀ (s : Shared) (H : Hp) (C : Addr) (cl : List (Str × Addr)) (fp : List Addr), PE (X.blk s H scope (compEnvC scope cl C X.env) fp) elt (tE X.kw X.mg W0 te)) (hc : X.calm = true := by rfl) (hs : ∀ x, foldedSetIterable iter X.env x = pure x := by intro _; rfl) :
    PE X (.ListComp elt [⟨tg, iter, ifs, 0⟩] scope pos) (tL X.kw X.mg W (lComp src p tt te (own.map (·.2)))) := PE.weak (pe_lc hc hN hi ok hg ht he hs) fun _ _ _ => tL_comp hv
theorem s_setLc {i : Nat} {y : Str} {py spos : Pos} {scope : Scope} {own : List (Str × Nat)} {p : Pat} (hN : X.N.Nodup) (hi : PI X tg iter (tI X.kw X.mg W src)) (ok : BlkOk X.N X.env.scope scope own) (hv : ∀ i ∈ p.slots, i ∈ own.map (·.2))
    (hg : ∀ (s : Shared) (H : Hp) (C : Addr) (cl : List (Str × Addr)) (fp : List Addr), PG (X.blk s H scope (compEnvC scope cl C X.env) fp) tg (tPt X.kw p)) (ht : ∀ (s : Shared) (H : Hp) (C : Addr) (cl : List (Str × Addr)) (fp : List Addr), PTs (X.blk s H scope (compEnvC scope cl C X.env) fp) ifs (tT X.kw X.mg W0 tt))
    (he : ∀ (s : Shared) (H : Hp) (C : Addr) (cl : List (Str × Addr)) (fp : List Addr), PE (X.blk s H scope (compEnvC scope cl C X.env) fp) elt (tE X.kw X.mg W0 te))
    (hsw : swapsWith (.ListComp elt [⟨tg, iter, ifs, 0⟩] scope pos) (some (.Name y py)) spos.line X.env = pure true) (hc : X.calm = true := by rfl) (hy : X.N[i]? = some y := by rfl) (hyl : X.env.scope.names.lookup y = some .local := by rfl) (hs : ∀ x, foldedSetIterable iter X.env x = pure x := by intro _; rfl) :
    PS X (.Assign [.Name y py] (.ListComp elt [⟨tg, iter, ifs, 0⟩] scope pos) spos) (tS X.kw X.mg W (sSet i (cAlloc (lComp src p tt te (own.map (·.2)))))) := by
  refine PS.weak (ps_setLc hc hN hy hyl hsw hi ok hg ht he hs) fun Dn σ H hh => ?_
  have h1 : tE X.kw X.mg W (cAlloc (lComp src p tt te (own.map (·.2)))) σ H (fun x H1 => gName i x σ H1 Dn.nx) :=
    tS_E (k := fun σ d S1 => .nx (σ.set i (some d)) S1) hh fun σD d S μ' H' v ok en r hh => hh μ' H' _ (Ext.refl _ _) ok (en.set i r)
  exact tL_comp hv (tL_alloc h1)
/-- tuple of a new list, and its like: the list is not kept -/
def cOfL (k : List D → Option D) (f : DL') : DE := fun σ S => (f σ S).bind fun xs S1 => match k xs with
  | some d => .ok d S1
  | none => .no
theorem tL_ofL {k : List D → Option D} {K : KW} {mg : Str → Option Value} {r : List V → Hp → VK → Prop} (hk : ∀ xs d a vs μ H S (Q : VK), k xs = some d → Ok K μ H S → a ∉ μ → H a = some (.lst vs) → vs.length ≤ sizeLine → RL K μ H xs vs → (∀ μ' H' v, Ext μ H μ' H' → Ok K μ' H' S → R K μ' H' d v → Q v H') → r [.ref a] H Q)
    {σ : L2.St} {H : Hp} {Q : VK} (hh : tE K mg W (cOfL k f) σ H Q) : tL K mg W f σ H fun v H1 => r [v] H1 Q := by
  obtain ⟨μ, σD, S, ok, en, hh⟩ := hh
  refine ⟨μ, σD, S, ok, en, ?_⟩
  unfold cOfL at hh
  cases q : f σD S with
  | no => rw [q] at hh; exact hh.elim
  | ex e S1 => rw [q] at hh; exact hh
  | ok xs S1 =>
    rw [q] at hh
    simp only [Res.bind_ok] at hh
    intro μ' H' a vs x ok' hn ha h l rr
    cases q2 : k xs with
    | none => rw [q2] at hh; exact hh.elim
    | some d =>
      rw [q2] at hh
      exact hk xs d a vs μ' H' S1 Q q2 ok' hn h l rr fun μ2 H2 v x2 => hh μ2 H2 v (x.trans x2)
theorem e_ofTy {T : String} {x : Str} {p : Pos} {k : List D → Option D} {r : List V → Hp → VK → Prop} (hcr : CallR X (.type T) r) (hk : ∀ xs d a vs μ H S (Q : VK), k xs = some d → Ok X.kw μ H S → a ∉ μ → H a = some (.lst vs) → vs.length ≤ sizeLine → RL X.kw μ H xs vs → (∀ μ' H' v, Ext μ H μ' H' → Ok X.kw μ' H' S → R X.kw μ' H' d v → Q v H') → r [.ref a] H Q)
    (hg : Gl X x) (hm : X.mg x = none) (hv : bootBuiltins x = some (.type T)) (ha : PE X e (tL X.kw X.mg W f)) (hn : x ≠ "__name__" := by decide) (hdb : (x == ("__debug__" : Str)) = false := by decide)
    (he : starEach [e] X.env = (false, eval e X.env) :: starEach [] X.env := by rfl) (hpl : (backTo pos (starEach [] X.env)).any (·.1) = false := by rfl) : PE X (.Call (.Name x p) [e] [] pos) (tE X.kw X.mg W (cOfL k f)) :=
  PE.weak (pe_callTy hcr hg hm hv (pa_cons ha pa_nil he) hn hdb he hpl) fun _ _ _ hh => tL_ofL hk hh
theorem e_ofB {T : String} {x : Str} {p : Pos} {k : List D → Option D} {r : List V → Hp → VK → Prop} (hcr : CallR X (.builtin T) r) (hk : ∀ xs d a vs μ H S (Q : VK), k xs = some d → Ok X.kw μ H S → a ∉ μ → H a = some (.lst vs) → vs.length ≤ sizeLine → RL X.kw μ H xs vs → (∀ μ' H' v, Ext μ H μ' H' → Ok X.kw μ' H' S → R X.kw μ' H' d v → Q v H') → r [.ref a] H Q)
    (hg : Gl X x) (hm : X.mg x = none) (hv : bootBuiltins x = some (.builtin T)) (ha : PE X e (tL X.kw X.mg W f)) (hn : x ≠ "__name__" := by decide) (hdb : (x == ("__debug__" : Str)) = false := by decide)
    (he : starEach [e] X.env = (false, eval e X.env) :: starEach [] X.env := by rfl) (hpl : (backTo pos (starEach [] X.env)).any (·.1) = false := by rfl) : PE X (.Call (.Name x p) [e] [] pos) (tE X.kw X.mg W (cOfL k f)) :=
  PE.weak (pe_callB hcr hg hm hv (pa_cons ha pa_nil he) hn hdb he hpl) fun _ _ _ hh => tL_ofL hk hh
def kTup : List D → Option D := fun xs => some (.tup xs)
def kAll : List D → Option D := fun xs => (bolsOf xs).map fun bs => .bl (bs.all id)
def kAny : List D → Option D := fun xs => (bolsOf xs).map fun bs => .bl (bs.any id)
def kSum : List D → Option D := fun xs => (intsOf xs).map fun bs => .int bs.sum
def kLen : List D → Option D := fun xs => some (.int xs.length)
theorem e_tupL {p : Pos} (hm : X.mg "tuple" = none) (ha : PE X e (tL X.kw X.mg W f)) (hg : Gl X "tuple" := by rfl) (he : starEach [e] X.env = (false, eval e X.env) :: starEach [] X.env := by rfl) (hpl : (backTo pos (starEach [] X.env)).any (·.1) = false := by rfl) : PE X (.Call (.Name "tuple" p) [e] [] pos) (tE X.kw X.mg W (cOfL kTup f)) :=
  e_ofTy call_tuple_of (fun xs d a vs μ H S Q hk ok hn h l rr hq => by
    cases hk
    exact ⟨a, vs, rfl, .inl ⟨.inl (.inl h), fun q hq' => hq μ _ _ (ext_new hq') (ok.laid hq') (.tup (.inl (.inl upd_same)) l (rr.mono (ext_new hq')))⟩⟩) hg hm (by decide +kernel) ha (by decide) (by decide) he hpl
theorem e_allL {p : Pos} (hm : X.mg "all" = none) (ha : PE X e (tL X.kw X.mg W f)) (hc : X.calm = true := by rfl) (hg : Gl X "all" := by rfl) (he : starEach [e] X.env = (false, eval e X.env) :: starEach [] X.env := by rfl) (hpl : (backTo pos (starEach [] X.env)).any (·.1) = false := by rfl) : PE X (.Call (.Name "all" p) [e] [] pos) (tE X.kw X.mg W (cOfL kAll f)) :=
  e_ofB (cr_all hc) (fun xs d a vs μ H S Q hk ok hn h l rr hq => by
    unfold kAll at hk
    cases q : bolsOf xs with
    | none => rw [q] at hk; cases hk
    | some bs =>
      rw [q] at hk; cases hk
      have e := bolsOf_eq q
      subst e
      rw [rr.bolsV] at h
      exact ⟨a, bs, rfl, .inl (.inl h), hq μ H _ (Ext.refl _ _) ok (.bl _)⟩) hg hm (by decide +kernel) ha (by decide) (by decide) he hpl
theorem e_anyL {p : Pos} (hm : X.mg "any" = none) (ha : PE X e (tL X.kw X.mg W f)) (hc : X.calm = true := by rfl) (hg : Gl X "any" := by rfl) (he : starEach [e] X.env = (false, eval e X.env) :: starEach [] X.env := by rfl) (hpl : (backTo pos (starEach [] X.env)).any (·.1) = false := by rfl) : PE X (.Call (.Name "any" p) [e] [] pos) (tE X.kw X.mg W (cOfL kAny f)) :=
  e_ofB (cr_any hc) (fun xs d a vs μ H S Q hk ok hn h l rr hq => by
    unfold kAny at hk
    cases q : bolsOf xs with
    | none => rw [q] at hk; cases hk
    | some bs =>
      rw [q] at hk; cases hk
      have e := bolsOf_eq q
      subst e
      rw [rr.bolsV] at h
      exact ⟨a, bs, rfl, .inl (.inl h), hq μ H _ (Ext.refl _ _) ok (.bl _)⟩) hg hm (by decide +kernel) ha (by decide) (by decide) he hpl
theorem e_sumL {p : Pos} (hm : X.mg "sum" = none) (ha : PE X e (tL X.kw X.mg W f)) (hc : X.calm = true := by rfl) (hg : Gl X "sum" := by rfl) (he : starEach [e] X.env = (false, eval e X.env) :: starEach [] X.env := by rfl) (hpl : (backTo pos (starEach [] X.env)).any (·.1) = false := by rfl) : PE X (.Call (.Name "sum" p) [e] [] pos) (tE X.kw X.mg W (cOfL kSum f)) :=
  e_ofB (cr_sum hc) (fun xs d a vs μ H S Q hk ok hn h l rr hq => by
    unfold kSum at hk
    cases q : intsOf xs with
    | none => rw [q] at hk; cases hk
    | some bs =>
      rw [q] at hk; cases hk
      have e := intsOf_eq q
      subst e
      rw [rr.intsV] at h
      exact ⟨a, bs, rfl, .inl (.inl h), hq μ H _ (Ext.refl _ _) ok (.int _)⟩) hg hm (by decide +kernel) ha (by decide) (by decide) he hpl
theorem e_lenL {p : Pos} (hm : X.mg "len" = none) (ha : PE X e (tL X.kw X.mg W f)) (hg : Gl X "len" := by rfl) (he : starEach [e] X.env = (false, eval e X.env) :: starEach [] X.env := by rfl) (hpl : (backTo pos (starEach [] X.env)).any (·.1) = false := by rfl) : PE X (.Call (.Name "len" p) [e] [] pos) (tE X.kw X.mg W (cOfL kLen f)) :=
  e_ofB call_len_seq (fun xs d a vs μ H S Q hk ok hn h l rr hq => by
    cases hk
    refine ⟨a, vs, rfl, .inl (.inl (.inl h)), ?_⟩
    rw [← rr.length]
    exact hq μ H _ (Ext.refl _ _) ok (.int _)) hg hm (by decide +kernel) ha (by decide) (by decide) he hpl
end

/-! ### defs -/
abbrev FD := List D → Store → Res D
def spD (K : KW) (mg : Str → Option Value) (n : Nat) (F : FD) : Sp := fun vs H Q E => ∃ μ S ds, Ok K μ H S ∧ RL K μ H ds vs ∧ ds.length = n ∧ Post K mg (fun cls dx _ H' => E cls dx H') (R K) μ H [] (F ds S) Q
def cDef (n : Nat) (body : DS) : FD := fun ds S => match body (ds.map some ++ List.replicate (n - ds.length) none) S with
  | .nx _ S' => .ok .non S'
  | .rt d S' => .ok d S'
  | .ex e _ S' => .ex e S'
  | _ => .no
def cCall (F : FD) (a : DA) : DE := fun σ S => (a σ S).bind fun ds S1 => F ds S1
structure FnD (P : Program) (w : World) (K : PySem.W.Frag) (mg : Str → Option Value) (base : Heap) (lv : Nat) (x : Str) (n : Nat) (F : FD) : Prop where
  ex : ∃ f fd ps, mg x = some (.ref f) ∧ PySem.W.keepIn K (.ref f) = true ∧ Binds K fd ps [] ∧ ps.length = n ∧ FnOk P w K mg base (L2.CX P w) lv f fd ps (spD ⟨K, w⟩ mg n F) ∧ ∃ qual st, Fun K x qual st f fd ∧ ps = (defArgs st).args.map (·.arg)
section
variable {X : Cx} {W : WX} {pos p : Pos} {e : Expr} {es : List Expr} {fa : DA} {F : FD} {x : Str} {k j n : Nat}
theorem e_call (T : FnD X.prog X.w X.K X.mg X.base j x n F) (hr : Room k X.A) (hj : j ≤ k) (tk : Takes X W) (ha : PA X (e :: es) (tA X.kw X.mg W fa)) (hn : ∀ σ S ds S', fa σ S = .ok ds S' → ds.length = n) (hg : Gl X x := by rfl) (hdb : (x == ("__debug__" : Str)) = false := by decide)
    (he : starEach (e :: es) X.env = (false, eval e X.env) :: starEach es X.env := by rfl) (hpl : (backTo pos (starEach es X.env)).any (·.1) = false := by rfl) : PE X (.Call (.Name x p) (e :: es) [] pos) (tE X.kw X.mg W (cCall F fa)) := by
  obtain ⟨f, fd, ps, hm, hk, hb, hl, ok, _⟩ := T.ex
  refine PE.weak (pe_callS ok (hr.mono hj) hg hm hk hb (fun σ => passAt tk σ) ha hdb he hpl) fun σ H Q hh => ?_
  obtain ⟨μ, σD, S, ok0, en, hh⟩ := hh
  refine ⟨μ, σD, S, ok0, en, ?_⟩
  unfold cCall at hh
  cases q : fa σD S with
  | no => rw [q] at hh; exact hh.elim
  | ex e S1 => rw [q] at hh; exact hh
  | ok ds S1 =>
    rw [q] at hh
    simp only [Res.bind_ok] at hh
    intro μ1 H1 vs x1 ok1 rl
    refine ⟨μ1, S1, ds, ok1, rl, hn _ _ _ _ q, ?_⟩
    have h1 := Post.mono x1 hh
    cases q2 : F ds S1 with
    | ok d S2 => rw [q2] at h1; exact h1
    | ex e S2 => rw [q2] at h1; exact h1
    | no => rw [q2] at h1; exact h1
theorem aNil_len : ∀ (σ : Sg) (S : Store) (ds : List D) (S' : Store), aNil σ S = .ok ds S' → ds.length = 0 := fun σ S ds S' h => by cases h; rfl
theorem aCons_len {f : DE} {g : DA} {m : Nat} (hg : ∀ (σ : Sg) (S : Store) (ds : List D) (S' : Store), g σ S = .ok ds S' → ds.length = m) : ∀ (σ : Sg) (S : Store) (ds : List D) (S' : Store), aCons f g σ S = .ok ds S' → ds.length = m + 1 := fun σ S ds S' h => by
  unfold aCons at h
  cases q : f σ S with
  | no => rw [q] at h; cases h
  | ex e S1 => rw [q] at h; cases h
  | ok d S1 =>
    rw [q] at h
    simp only [Res.bind_ok] at h
    cases q2 : g σ S1 with
    | no => rw [q2] at h; cases h
    | ex e S2 => rw [q2] at h; cases h
    | ok ds2 S2 =>
      rw [q2] at h
      cases h
      rw [List.length_cons, hg _ _ _ _ q2]
end
section
variable {P : Program} {w : World} {K : KW} {mg : Str → Option Value} {base : Heap}
theorem envStart {μ : List Addr} {H : Hp} {ds : List D} {vs : List V} (r : RL K μ H ds vs) (N : List Str) (n : Nat) (hn : N.length = n) : EnvR K μ H (ds.map some ++ List.replicate (n - ds.length) none) (L2.start N vs) := by
  subst hn
  unfold L2.start
  have hl := r.length
  refine ⟨by rw [List.length_append, List.length_append, List.length_map, List.length_map, List.length_replicate, List.length_replicate, hl], fun i d h => ?_⟩
  by_cases hi : i < ds.length
  · rw [List.getElem?_append_left (by simpa using hi), List.getElem?_map] at h
    cases q : ds[i]? with
    | none => rw [q] at h; cases h
    | some d' =>
      rw [q] at h; cases h
      obtain ⟨v, hv, rv⟩ := r.get q
      refine ⟨v, ?_, rv⟩
      rw [List.getElem?_append_left (by rw [List.length_map, ← hl]; exact hi), List.getElem?_map, hv]; rfl
  · rw [List.getElem?_append_right (by simpa using hi), List.getElem?_replicate] at h
    split at h <;> cases h
/-- THE RULE for a def -/
theorem d_def {K : PySem.W.Frag} {x qual : Str} {st : Stmt} {N ps : List Str} {k n m : Nat} {body : DS} (Fn : ∃ f fd, mg x = some (.ref f) ∧ Fun K x qual st f fd) (S : FnScope N ps (defScope st)) (hN : N.length = m) (hps : ps.length = n)
    (hb : ∀ (kV doc pm : Value) (an : Option Addr) (cdv ct : Value) (us : List Value), us.length = ps.length → bindArgs (PySem.W.fnOf x qual (defArgs st) (defBody st) (defScope st) .none kV doc pm an cdv ct) ⟨us, []⟩ = pure (ps.zip us))
    (hbody : ∀ (f : Addr) (cdv : Value) (A : Around) (outer : List Env) (s : Shared) (H : Hp) (E : XK), Room k (A.deeper (envOfC qual (defScope st) s.heap.objs.size f cdv)) →
      Takes (cxOf (L2.CX P w) P w K mg base N qual (defScope st) f cdv A outer s H E) (fun cls d _ H => E cls d H) → PassesOwn (model P w) (A.deeper (envOfC qual (defScope st) s.heap.objs.size f cdv)) (envOfC qual (defScope st) s.heap.objs.size f cdv) (cxOf (L2.CX P w) P w K mg base N qual (defScope st) f cdv A outer s H E).xe →
      PSs (cxOf (L2.CX P w) P w K mg base N qual (defScope st) f cdv A outer s H E) (defBody st) (tS ⟨K, w⟩ mg (fun cls d _ H => E cls d H) body)) (hpn : ps = (defArgs st).args.map (·.arg) := by rfl) : FnD P w K mg base (k + 1) x n (cDef m body) := by
  obtain ⟨f, fd, hm, F⟩ := Fn
  refine ⟨f, fd, ps, hm, F.kp, F.binds hb, hps, F.okX S (fun vs H Q E h => ?_) fun cdv A outer s H vs Q E hr h => ?_, qual, st, F, hpn⟩
  · obtain ⟨μ, S0, ds, ok, rl, hl, _⟩ := h
    rw [← rl.length, hl, hps]
  · obtain ⟨μ, S0, ds, ok, rl, hl, hh⟩ := h
    refine ⟨_, hbody f cdv A outer s H E hr (takes_of rfl rfl rfl rfl) (passes_of rfl), μ, _, S0, ok, envStart rl N m hN, ?_⟩
    unfold cDef at hh
    cases q : body (ds.map some ++ List.replicate (m - ds.length) none) S0 with
    | nx σ S1 =>
      rw [q] at hh
      exact fun μ' H' σV' x1 ok1 en1 => hh μ' H' .non x1 ok1 .non
    | rt d S1 =>
      rw [q] at hh
      exact hh
    | ex e σ S1 =>
      rw [q] at hh
      exact fun μ' H' σV' cls dx x1 ok1 en1 => hh μ' H' cls dx x1 ok1
    | bk σ S1 => rw [q] at hh; exact hh.elim
    | ct σ S1 => rw [q] at hh; exact hh.elim
    | no => rw [q] at hh; exact hh.elim
theorem only_sq {H : Hp} {a : Addr} {vs : List V} (o : Only H) (h : SqL K H a vs) : SqI K H a vs := by
  rcases h with (h | ⟨ob, h⟩) | h
  · rcases o a with z | ⟨ob, xs, z⟩
    · rw [h] at z; cases z
    · rw [h] at z; cases z
  · exact .inl ⟨ob, h⟩
  · exact .inr h
theorem law_sp {F : FD} {H : Hp} {a : Addr} {ns : List Int} (o : Only H) (h : SqL K H a (ns.map V.int)) (hl : ns.length ≤ sizeLine) (hF : ∃ S', F [.rol (ns.map D.int)] [] = .ok (.bl true) S') : spD K mg 1 F [.ref a] H (fun v _ => v = .bl true) fun _ _ _ => False := by
  obtain ⟨S', hF⟩ := hF
  refine ⟨[], [], [.rol (ns.map D.int)], ⟨rfl, List.nodup_nil, fun l a c h => by simp at h⟩, .cons (.rol (only_sq o h) (by rw [List.length_map]; exact hl) (RL.ints ns)) .nil, rfl, ?_⟩
  rw [hF]
  intro μ' H' v x ok r
  cases r
  rfl
end
end DL
namespace DL
open PySem PySem.Spec PyProof.Rows L2
section
variable {X : Cx} {W : WX} {pos : Pos} {a b c e : Expr} {f g h : DE} {K : KW} {mg : Str → Option Value}
theorem e_globC {x : Str} {d : D} {v : V} (hm : ∃ u, X.mg x = some u ∧ RelV v u) (r : ∀ μ H, R X.kw μ H d v) (hg : Gl X x := by rfl) (hd : (x == ("__debug__" : Str)) = false := by decide) : PE X (.Name x pos) (tE X.kw X.mg W (cK d)) := by
  obtain ⟨u, hm, rv⟩ := hm
  exact e_glob hg hm rv r hd
/-- a < b < c -/
def cCh (k k' : O2) (f g h : DE) : DE := fun σ S => (f σ S).bind fun x S1 => (g σ S1).bind fun y S2 => match k x y S2 with
  | some (.bl true, S3) => (h σ S3).bind fun z S4 => Res.of (k' y z S4)
  | some (.bl false, S3) => .ok (.bl false) S3
  | _ => .no
theorem tE_chain {k k' : O2} {σ : L2.St} {H : Hp} {Q : VK} (hh : tE K mg W (cCh k k' f g h) σ H Q) : tChain (r2 K k) (r2 K k') (tE K mg W f) (tE K mg W g) (tE K mg W h) σ H Q := by
  obtain ⟨μ, σD, S, ok, en, hh⟩ := hh
  refine ⟨μ, σD, S, ok, en, Post.bind hh fun x S1 μ1 H1 v x1 ok1 rx h1 => ⟨μ1, σD, S1, ok1, en.mono x1, Post.bind h1 fun y S2 μ2 H2 u x2 ok2 ry h2 => ⟨μ2, S2, x, y, ok2, rx.mono x2, ry, ?_⟩⟩⟩
  cases q : k x y S2 with
  | none => rw [q] at h2; exact h2.elim
  | some p =>
    obtain ⟨d, S3⟩ := p
    rw [q] at h2
    intro μ3 H3 w x3 ok3 rw'
    cases d with
    | bl b =>
      cases rw'
      refine ⟨b, rfl, ?_⟩
      cases b with
      | false =>
        rw [if_neg Bool.false_ne_true]
        exact h2 μ3 H3 _ x3 ok3 (.bl _)
      | true =>
        rw [if_pos rfl]
        simp only at h2
        have h3 := Post.mono x3 h2
        exact ⟨μ3, σD, S3, ok3, (en.mono x1).mono (x2.trans x3), Post.bind h3 fun z S4 μ4 H4 t x4 ok4 rz h4 => ⟨μ4, S4, y, z, ok4, ry.mono (x3.trans x4), rz, h4.of⟩⟩
    | _ => exact h2.elim
end
end DL
namespace DL
open PySem PySem.Spec PyProof.Rows L2
section
variable {X : Cx} {W : WX} {pos : Pos} {a b c e : Expr} {f g h : DE}
theorem e_chain {op op' : CmpOp} {k k' : O2} (ho : OpR X (compareOp op) (r2 X.kw k)) (ho' : OpR X (compareOp op') (r2 X.kw k')) (ha : PE X a (tE X.kw X.mg W f)) (hb : PE X b (tE X.kw X.mg W g)) (hc : PE X c (tE X.kw X.mg W h))
    (hm : lastMarks [op, op'] [b, c] = false := by with_unfolding_all rfl) : PE X (.Compare a [op, op'] [b, c] pos) (tE X.kw X.mg W (cCh k k' f g h)) := PE.weak (pe_chain ho ho' ha hb hc hm) fun _ _ _ => tE_chain
theorem t_chain {op op' : CmpOp} {k k' : O2} (ho : OpR X (compareOp op) (r2 X.kw k)) (ho' : OpR X (compareOp op') (r2 X.kw k')) (ha : PE X a (tE X.kw X.mg W f)) (hb : PE X b (tE X.kw X.mg W g)) (hc : PE X c (tE X.kw X.mg W h))
    (hm : lastMarks [op, op'] [b, c] = false := by with_unfolding_all rfl) : PT X (.Compare a [op, op'] [b, c] pos) (tT X.kw X.mg W (cTest (cCh k k' f g h))) := by
  refine PT.weak (pt_chain ho ho' ha hb hc hm) fun σ H Q hh => ?_
  have h1 : tE X.kw X.mg W (cCh k k' f g h) σ H fun v H1 => ∃ k, v = .bl k ∧ Q k H1 := tG1 (RA := R X.kw) hh fun x S μ H v ok rx hh => by
    cases x with
    | bl b =>
      cases rx
      exact ⟨b, rfl, hh μ H b (Ext.refl _ _) ok rfl⟩
    | _ => exact hh.elim
  exact tE_chain h1
/-- where nothing is let out -/
theorem takes0' {X : Cx} : Takes X W0 := fun _ _ x => by
  obtain ⟨_, _, _, _, _, _, _, _, _, _, _, _, _, _, _, _, z⟩ := x
  exact z.elim
end
end DL

namespace DL
open PySem PySem.Spec PyProof.Rows L2
section
variable {X : Cx} {W : WX} {pos : Pos} {a b c e : Expr} {f g h : DE} {K : KW} {mg : Str → Option Value}
/-! ### list(range(..)), tuple(range(..)) -/
def RgL (i j : Int) : Prop := okB i ∧ okB j ∧ (j - i).toNat ≤ 2 ^ 24
instance (i j : Int) : Decidable (RgL i j) := by unfold RgL; infer_instance
def lRange1 (f : DE) : DL' := fun σ S => (f σ S).bind fun x S1 => match x with
  | .int j => if RgL 0 j then .ok (intsTo 0 j.toNat) S1 else .no
  | _ => .no
def lRange2 (f g : DE) : DL' := fun σ S => (f σ S).bind fun x S1 => (g σ S1).bind fun y S2 => match x, y with
  | .int i, .int j => if RgL i j then .ok (intsTo i (j - i).toNat) S2 else .no
  | _, _ => .no
theorem rg_rl (μ : List Addr) (H : Hp) (i j : Int) : RL K μ H (intsTo i (j - i).toNat) (rgV i j) := by
  unfold intsTo rgV
  have : ∀ l : List Nat, RL K μ H (l.map fun k : Nat => D.int (i + k)) (l.map fun k : Nat => V.int (i + k)) := by
    intro l
    induction l with
    | nil => exact .nil
    | cons k l ih => exact .cons (.int _) ih
  exact this _
/-- a range that a list or a tuple is made of -/
def tRgD (K : KW) (mg : Str → Option Value) (W : WX) (f : Sg → Store → Res (Int × Int)) : L2.St → Hp → (Int → Int → Hp → Prop) → Prop := fun σ H Q => tG K mg W (fun _ _ (a : Int × Int) (b : Int × Int) => a = b) f σ H fun p H1 => Q p.1 p.2 H1
def rRange1 (f : DE) : Sg → Store → Res (Int × Int) := fun σ S => (f σ S).bind fun x S1 => match x with
  | .int j => .ok (0, j) S1
  | _ => .no
def rRange2 (f g : DE) : Sg → Store → Res (Int × Int) := fun σ S => (f σ S).bind fun x S1 => (g σ S1).bind fun y S2 => match x, y with
  | .int i, .int j => .ok (i, j) S2
  | _, _ => .no
theorem PRg.weak {e : Expr} {t t' : L2.St → Hp → (Int → Int → Hp → Prop) → Prop} (h : PRg X e t) (w : ∀ σ H Q, t' σ H Q → t σ H Q) : PRg X e t' := fun pins s σ H Q I q => h pins s σ H Q I (w σ H Q q)
theorem rg_1 {p : Pos} (hm : X.mg "range" = none) (ha : PE X a (tE X.kw X.mg W f)) (hg : Gl X "range" := by rfl) (na : starEach [a] X.env = (false, eval a X.env) :: starEach [] X.env := by rfl) : PRg X (.Call (.Name "range" p) [a] [] pos) (tRgD X.kw X.mg W (rRange1 f)) :=
  PRg.weak (prg_1 hg hm ha na) fun σ H Q hh => tG1 (RA := R X.kw) hh fun x S μ H v ok rx hh => by
    cases rx with
    | int j => exact ⟨j, rfl, hh μ H (0, j) (Ext.refl _ _) ok rfl⟩
    | _ => exact hh.elim
theorem rg_2 {p : Pos} (hm : X.mg "range" = none) (ha : PE X a (tE X.kw X.mg W f)) (hb : PE X b (tE X.kw X.mg W g)) (hg : Gl X "range" := by rfl) (na : starEach [a, b] X.env = (false, eval a X.env) :: starEach [b] X.env := by rfl) (nb : starEach [b] X.env = (false, eval b X.env) :: starEach [] X.env := by rfl) (hp2 : (backTo pos (starEach [b] X.env)).any (·.1) = false := by rfl) : PRg X (.Call (.Name "range" p) [a, b] [] pos) (tRgD X.kw X.mg W (rRange2 f g)) :=
  PRg.weak (prg_2 hg hm ha hb na nb hp2) fun σ H Q hh => tG2 (RA := R X.kw) (RB := R X.kw) (fun _ _ _ _ _ _ x r => r.mono x) hh fun x y S μ H v u ok rx ry hh => by
    cases rx with
    | int i =>
      cases ry with
      | int j => exact ⟨i, j, rfl, rfl, hh μ H (i, j) (Ext.refl _ _) ok rfl⟩
      | _ => exact hh.elim
    | _ => exact hh.elim
def lRg (r : Sg → Store → Res (Int × Int)) : DL' := fun σ S => (r σ S).bind fun p S1 => if RgL p.1 p.2 then .ok (intsTo p.1 (p.2 - p.1).toNat) S1 else .no
def cTupRg (r : Sg → Store → Res (Int × Int)) : DE := fun σ S => (r σ S).bind fun p S1 => if RgL p.1 p.2 then .ok (.tup (intsTo p.1 (p.2 - p.1).toNat)) S1 else .no
theorem RgL.ok {i j : Int} (h : RgL i j) : RgOk i j := ⟨h.1.1, h.1.2, h.2.1.1, h.2.1.2, h.2.2⟩
theorem rgV_line {i j : Int} (h : RgL i j) : (rgV i j).length ≤ sizeLine := by
  rw [rgV_length, sizeLine_eq]
  have := h.2.2
  omega
theorem l_listRg {p : Pos} {r : Sg → Store → Res (Int × Int)} (hm : X.mg "list" = none) (he : PRg X e (tRgD X.kw X.mg W r)) (hc : X.calm = true := by rfl) (hg : Gl X "list" := by rfl) (na : starEach [e] X.env = (false, eval e X.env) :: starEach [] X.env := by rfl) : PE X (.Call (.Name "list" p) [e] [] pos) (tL X.kw X.mg W (lRg r)) :=
  PE.weak (pe_listRg hc hg hm he na) fun σ H Q hh => by
    obtain ⟨μ, σD, S, ok, en, hh⟩ := hh
    refine ⟨μ, σD, S, ok, en, ?_⟩
    unfold lRg at hh
    cases q : r σD S with
    | no => rw [q] at hh; exact hh.elim
    | ex e S1 => rw [q] at hh; exact hh
    | ok p S1 =>
      rw [q] at hh
      simp only [Res.bind_ok] at hh
      intro μ1 H1 p' x1 ok1 ep
      cases ep
      by_cases hr : RgL p.1 p.2
      · rw [if_pos hr] at hh
        refine ⟨hr.ok, fun q hq => ?_⟩
        exact hh μ1 _ q _ (x1.trans (ext_new hq)) (ok1.laid hq) (ok1.notin hq) (by
          cases z : H q with
          | none => rfl
          | some o =>
            by_cases hmem : q ∈ μ
            · obtain ⟨ν, e⟩ := x1.pre
              exact absurd (by rw [e]; exact List.mem_append_left _ hmem) (ok1.notin hq)
            · rw [x1.keep _ _ z fun h => absurd h hmem] at hq; cases hq) upd_same (rgV_line hr) (rg_rl _ _ _ _)
      · rw [if_neg hr] at hh; exact hh.elim
theorem e_tupRg {p : Pos} {r : Sg → Store → Res (Int × Int)} (hm : X.mg "tuple" = none) (he : PRg X e (tRgD X.kw X.mg W r)) (hc : X.calm = true := by rfl) (hg : Gl X "tuple" := by rfl) (na : starEach [e] X.env = (false, eval e X.env) :: starEach [] X.env := by rfl) : PE X (.Call (.Name "tuple" p) [e] [] pos) (tE X.kw X.mg W (cTupRg r)) :=
  PE.weak (pe_tupRg hc hg hm he na) fun σ H Q hh => tG1 (k := fun (p : Int × Int) S1 => if RgL p.1 p.2 then .ok (D.tup (intsTo p.1 (p.2 - p.1).toNat)) S1 else .no) (RC := R X.kw) (RA := fun _ _ (a : Int × Int) (b : Int × Int) => a = b) hh fun p S μ H v ok ep hh => by
    cases ep
    by_cases hr : RgL p.1 p.2
    · rw [if_pos hr] at hh
      exact ⟨hr.ok, fun q hq => hh μ _ _ (ext_new hq) (ok.laid hq) (.tup (.inl (.inl upd_same)) (rgV_line hr) (rg_rl _ _ _ _))⟩
    · rw [if_neg hr] at hh; exact hh.elim
end
/-! ### a def that calls itself: by a number of turns -/
theorem FnD.zero {P : Program} {w : World} {K : PySem.W.Frag} {mg : Str → Option Value} {base : Heap} {x qual : Str} {st : Stmt} {ps : List Str} {k n : Nat} (Fn : ∃ f fd, mg x = some (.ref f) ∧ Fun K x qual st f fd) {N : List Str} (S : FnScope N ps (defScope st)) (hps : ps.length = n)
    (hb : ∀ (kV doc pm : Value) (an : Option Addr) (cdv ct : Value) (us : List Value), us.length = ps.length → bindArgs (PySem.W.fnOf x qual (defArgs st) (defBody st) (defScope st) .none kV doc pm an cdv ct) ⟨us, []⟩ = pure (ps.zip us)) (hpn : ps = (defArgs st).args.map (·.arg) := by rfl) : FnD P w K mg base (k + 1) x n (fun _ _ => .no) := by
  obtain ⟨f, fd, hm, F⟩ := Fn
  refine ⟨f, fd, ps, hm, F.kp, F.binds hb, hps, F.okX S (fun vs H Q E h => ?_) fun cdv A outer s H vs Q E hr h => ?_, qual, st, F, hpn⟩
  · obtain ⟨μ, S0, ds, ok, rl, hl, _⟩ := h
    rw [← rl.length, hl, hps]
  · obtain ⟨μ, S0, ds, ok, rl, hl, hh⟩ := h
    exact hh.elim
/-! ### the end of a law -/
theorem d_fn {P : Program} {w : World} {K : PySem.W.Frag} {mg : Str → Option Value} {base : Heap} {x qual : Str} {st : Stmt} {f : Addr} {fd : FuncData} {N ps : List Str} {k n m : Nat} {body : DS} (F : Fun K x qual st f fd) (S : FnScope N ps (defScope st)) (hN : N.length = m) (hps : ps.length = n)
    (hbody : ∀ (f : Addr) (cdv : Value) (A : Around) (outer : List Env) (s : Shared) (H : Hp) (E : XK), Room k (A.deeper (envOfC qual (defScope st) s.heap.objs.size f cdv)) →
      Takes (cxOf (L2.CX P w) P w K mg base N qual (defScope st) f cdv A outer s H E) (fun cls d _ H => E cls d H) → PassesOwn (model P w) (A.deeper (envOfC qual (defScope st) s.heap.objs.size f cdv)) (envOfC qual (defScope st) s.heap.objs.size f cdv) (cxOf (L2.CX P w) P w K mg base N qual (defScope st) f cdv A outer s H E).xe →
      PSs (cxOf (L2.CX P w) P w K mg base N qual (defScope st) f cdv A outer s H E) (defBody st) (tS ⟨K, w⟩ mg (fun cls d _ H => E cls d H) body)) : FnOk P w K mg base (L2.CX P w) (k + 1) f fd ps (spD ⟨K, w⟩ mg n (cDef m body)) := by
  refine F.okX S (fun vs H Q E h => ?_) fun cdv A outer s H vs Q E hr h => ?_
  · obtain ⟨μ, S0, ds, ok, rl, hl, _⟩ := h
    rw [← rl.length, hl, hps]
  · obtain ⟨μ, S0, ds, ok, rl, hl, hh⟩ := h
    refine ⟨_, hbody f cdv A outer s H E hr (takes_of rfl rfl rfl rfl) (passes_of rfl), μ, _, S0, ok, envStart rl N m hN, ?_⟩
    unfold cDef at hh
    cases q : body (ds.map some ++ List.replicate (m - ds.length) none) S0 with
    | nx σ S1 =>
      rw [q] at hh
      exact fun μ' H' σV' x1 ok1 en1 => hh μ' H' .non x1 ok1 .non
    | rt d S1 =>
      rw [q] at hh
      exact hh
    | ex e σ S1 =>
      rw [q] at hh
      exact fun μ' H' σV' cls dx x1 ok1 en1 => hh μ' H' cls dx x1 ok1
    | bk σ S1 => rw [q] at hh; exact hh.elim
    | ct σ S1 => rw [q] at hh; exact hh.elim
    | no => rw [q] at hh; exact hh.elim
/-- the law's promise -/
def spLaw (K : KW) (F : FD) : Sp := fun vs H Q _ => ∃ (a : Addr) (ns : List Int), vs = [.ref a] ∧ SqI K H a (ns.map V.int) ∧ ns.length ≤ sizeLine ∧ (∃ S', F [.rol (ns.map D.int)] [] = .ok (.bl true) S') ∧ ∀ H', Q (.bl true) H'
theorem law_imp {P : Program} {w : World} {K : PySem.W.Frag} {mg : Str → Option Value} {base : Heap} {CX : CXT} {k : Nat} {f : Addr} {fd : FuncData} {ps : List Str} {F : FD} (h : FnOk P w K mg base CX k f fd ps (spD ⟨K, w⟩ mg 1 F)) : FnOk P w K mg base CX k f fd ps (spLaw ⟨K, w⟩ F) :=
  h.imp fun vs H Q E hh => by
    obtain ⟨a, ns, rfl, hs, hl, ⟨S', hF⟩, hq⟩ := hh
    refine ⟨[], [], [.rol (ns.map D.int)], ⟨rfl, List.nodup_nil, fun l a c h => by simp at h⟩, .cons (.rol hs (by rw [List.length_map]; exact hl) (RL.ints ns)) .nil, rfl, ?_⟩
    rw [hF]
    intro μ' H' v x ok r
    cases r
    exact hq H'
/-- a def of the text as it stands behind the top -/
theorem top_f {K : PySem.W.Frag} {h : Heap} {mg : Str → Option Value} (X : K.In h) (G : h.Ns mainGlobals mg) {x : Str} {st : Stmt} {f : Addr} {od an : Option Addr} {sl : Array (Option Value)} {oc kV dc pm cd ct : Value}
    (a : PySem.W.nsIn K mainGlobals x = some (some (.ref f))) (l : K.lookup f = some ⟨oc, od, .func (PySem.W.fnOf x x (defArgs st) (defBody st) (defScope st) .none kV dc pm an cd ct), sl⟩) (c : PySem.W.codeIn K cd x = true) (k : PySem.W.keepIn K (.ref f) = true) :
    ∃ f fd, mg x = some (.ref f) ∧ Fun K x x st f fd := ⟨f, _, PySem.W.mg_of X G a, fun_mk l c k⟩
theorem top_c {K : PySem.W.Frag} {h : Heap} {mg : Str → Option Value} (X : K.In h) (G : h.Ns mainGlobals mg) {x : Str} {v : V} {u : Value} (r : RelV v u) (a : PySem.W.nsIn K mainGlobals x = some (some u)) : ∃ u, mg x = some u ∧ RelV v u := ⟨u, PySem.W.mg_of X G a, r⟩
theorem cx_end {P : Program} {w : World} {H : Hp} {s : Shared} {e : Value} {s' : Shared} (h : L2.CX P w [] H s (fun _ _ _ => False) e s') : False := by
  obtain ⟨_, _, _, _, _, _, _, _, _, _, _, _, z⟩ := h
  exact z
end DL

namespace PySem
open Sem (wp)
open Builtin Builtin.Str
open AutoSeq1 (wpAny_loadPart')
theorem xx_enumerate_newT (l : Addr) (items : Array Value) (n : Nat) (dct : Option Addr) (sl : Array (Option Value)) :
    Meets (Builtin.«enumerate.__new__» ⟨[.type "enumerate", .ref l], []⟩) (fun _ R s => s.heap.get? l = some { cls := .type "tuple", dict := dct, data := .seq items n, slots := sl } ∧
      R (.ok (.ret (.ref (s.heap.push { cls := .type "tuple_iterator", data := .fields #[.ref l, .int 0 0] }).objs.size)))
        { s with heap := (s.heap.push { cls := .type "tuple_iterator", data := .fields #[.ref l, .int 0 0] }).push { cls := .type "enumerate", data := .fields #[.none, .bool false, .ref s.heap.objs.size, rawInt 0, .none, .none] } }) :=
  .of_wp fun prog w A R s h => by
    obtain ⟨hp, g, d, tk, os⟩ := s; obtain ⟨hl, h⟩ := h
    have hsub := sub_enumerate
    have hL : Heap.IsTuple (Shared.heap ⟨hp, g, d, tk, os⟩) l items := ⟨_, hl, rfl, n, rfl⟩
    wp_walk using wpAny_loadPart' hl
    refine wpAny_stack_any fun st => wpAny_pure ?_
    split
    · rename_i c _ _ _ _ _
      cases (c == Value.type "enumerate")
      · wp_walk using wpAny_loadPart' hl, wpAny_pyIter_tuple hL
        exact ⟨_, rfl, h⟩
      · wp_walk using wpAny_loadPart' hl, wpAny_pyIter_tuple hL
        exact ⟨_, rfl, h⟩
    · wp_walk using wpAny_loadPart' hl, wpAny_pyIter_tuple hL
      exact ⟨_, rfl, h⟩
section
variable {prog : Program} {w : World} {A : Around} {E : Value → Shared → Prop} {s : Shared}
theorem xx_enumerate_tuple {l : Addr} {items : Array Value} {Q : Value → Shared → Prop} (hL : s.heap.IsTuple l items)
    (h : ∀ h', IsEnum h' (s.heap.objs.size + 1) s.heap.objs.size 0 .none → h'.IsTupleIter s.heap.objs.size l 0 → h'.objs.size = s.heap.objs.size + 2 →
      (∀ b o, s.heap.get? b = some o → h'.get? b = some o) → Q (.ref (s.heap.objs.size + 1)) { s with heap := h' }) :
    wpAny (model prog w) A (call (.type "enumerate") [.ref l]) Q E s := by
  obtain ⟨⟨c, dct, dt, sl⟩, hl, hc, n, hd⟩ := hL
  replace hc : c = .type "tuple" := hc
  replace hd : dt = .seq items n := hd
  subst hc hd
  refine callType_new F.called_enumerate (by decide) (F.typeCall_enumerate_1 _) (F.newCall_enumerate_1 _) (fun obj => F.args_object_init_2 obj _) F.entry_enumerate_new
    (xx_enumerate_newT l items n dct sl) ⟨hl, ?_⟩
  have hz : (s.heap.push { cls := .type "tuple_iterator", data := .fields #[.ref l, .int 0 0] }).objs.size = s.heap.objs.size + 1 := Heap.size_push ..
  show _ ∧ _
  rw [hz]
  have he : IsEnum ((s.heap.push { cls := .type "tuple_iterator", data := .fields #[.ref l, .int 0 0] }).push
      { cls := .type "enumerate", data := .fields #[.none, .bool false, .ref s.heap.objs.size, rawInt 0, .none, .none] }) (s.heap.objs.size + 1) s.heap.objs.size 0 .none := by
    have := Heap.get?_push_size (s.heap.push { cls := .type "tuple_iterator", data := .fields #[.ref l, .int 0 0] })
      (o := { cls := .type "enumerate", data := .fields #[.none, .bool false, .ref s.heap.objs.size, rawInt 0, .none, .none] }) rfl
    rw [hz] at this; exact this
  refine ⟨⟨_, he, rfl⟩, h _ he ⟨_, Heap.get?_push_of_some _ (Heap.get?_push_size _ rfl), rfl, rfl⟩ (by rw [Heap.size_push, hz]) fun b o x => Heap.get?_push_of_some _ (Heap.get?_push_of_some _ x)⟩
theorem xx_enum_tup_end {e it t : Addr} {i : Int} {j : Nat} {items : Array Value} {old : Value} {Q : Option Value → Shared → Prop} (hh : A.handled = none)
    (he : IsEnum s.heap e it i old) (hit : s.heap.IsTupleIter it t j) (ht : s.heap.IsTuple t items) (hx : items[j]? = none)
    (hQ : ∀ h', Heap.ExtBut it s.heap h' → Q none { s with heap := h' }) : wpAny (model prog w) A (pyNext (.ref e)) Q E s := by
  have hT : s.TypeIs (.ref e) "enumerate" := ⟨_, he, rfl⟩
  unfold pyNext
  refine wpAny_bind (wpAny_attempt (wpAny_callSpecial?_slot (name := Str.ofString "__next__") hT F.slot_enumerate_next
    (wpAny_call_entry F.slot_enumerate_next hT F.entry_enumerate_next ?_ (F.args_enumerate_next_1 _))))
  show wpAny _ _ (field (.ref e) 2 >>= _) _ _ _
  refine wpAny_bind (wpAny_field he rfl (x := .ref it) rfl ?_)
  refine wpAny_bind (wpAny_nextOf_tuple_end (A := A.in1) hh hit ht hx fun h' x he' hx' => ?_)
  obtain ⟨o, ho, hc⟩ := hx'
  refine wpAny_bind (wpAny_isInstance (T := "StopIteration") (b := true) ⟨o, ho, hc⟩ isSubtype_stop ?_)
  exact wpAny_pure (hQ _ he')
end
end PySem
namespace DL
open PySem PySem.Spec PyProof.Rows L2
/-- enumerate of a tuple -/
def IteT (K : PySem.W.Frag) (a : Addr) : It :=
  ⟨fun i H => ∃ (xs : List V) (x : V), SqT K H a xs ∧ xs[i]? = some x, fun i H v H' => ∃ T x, v = .ref T ∧ H T = none ∧ H' = upd H T (.tup [.int (i : Nat), x]) ∧ ∀ xs, SqT K H a xs → xs[i]? = some x, fun i H => ∃ xs : List V, SqT K H a xs ∧ xs.length ≤ i⟩
theorem turn_enumT {P : Program} {w : World} {K : PySem.W.Frag} {elts : List Expr} {kk : Nat} {tpos : Pos} (a e it : Addr) :
    Turn P w K (.Tuple elts kk tpos) (IteT K a) [e, it] e (fun i h => (∃ old, IsEnum h e it ((i : Nat) : Int) old) ∧ h.IsTupleIter it a i ∧ e ≠ it ∧ a ≠ it ∧ e ≠ a) where
  mem := by simp
  obj := fun i h st b hb => by
    obtain ⟨⟨old, he⟩, ⟨o, ho, hc, hd⟩, _⟩ := st
    have e' : b = e ∨ b = it := by simpa using hb
    rcases e' with z | z
    · rw [z]; exact ⟨_, he, fun v q => nomatch q⟩
    · rw [z]; exact ⟨o, ho, fun v q => by rw [hd] at q; cases q⟩
  keep := fun i h h' st k => let ⟨⟨old, he⟩, hi, hne⟩ := st; ⟨⟨old, k e (by simp) _ he⟩, hi.at fun o q => k it (by simp) o q, hne⟩
  item := by
    intro X hP hw hK hc i pins s σ H E I hf st hg
    subst hP hw hK
    obtain ⟨⟨old, he⟩, hit, hne, hai, hea⟩ := st
    obtain ⟨xs, x, hq, hx⟩ := hg
    obtain ⟨its, rv, p, hz⟩ := I.tuple hq
    obtain ⟨u, hu, ru⟩ := rv.get hx
    have hel : e < s.heap.objs.size := Heap.lt_size he
    have hil : it < s.heap.objs.size := by obtain ⟨_, q, _⟩ := hit; exact Heap.lt_size q
    have hlt : i < its.toArray.size := by
      have := (List.getElem?_eq_some_iff.mp hu).1
      simpa using this
    refine wpAny_pyNext_enum_itemD (Draws.tuple (A := X.A.in1) (I.ok.hd hc) it a hai its.toArray) he ⟨hit, p⟩ hlt hne (by simp [hne, hea]) fun x' h' tk hxP ho hst' hT hsz hk => ?_
    have hx' : x' = u := by
      have : its.toArray[i]? = some u := by simpa using hu
      rw [this] at hxP; cases hxP; rfl
    subst hx'
    refine ⟨_, rfl, wpAny_letOwnedTupleGo_enum (s := { s with heap := h', toks := tk + 1 }) ho fun h'' he' sb => ?_⟩
    have hT2 : h''.get? s.heap.objs.size = some { cls := .type "tuple", data := .seq #[.int i tk, x'] } := (sb.2 _ (Nat.ne_of_gt hel)).trans hT
    have new : ObjOk X.prog X.w (upd H s.heap.objs.size (.tup [.int (i : Nat), x])) h'' s.heap.objs.size (.tup [.int (i : Nat), x]) :=
      ⟨by show 2 ≤ sizeLine; decide, [.int i tk, x'], .cons ⟨_, rfl⟩ (.cons ru .nil), ⟨_, hT2, rfl, _, rfl⟩⟩
    have I1 : Inv X pins σ (upd H s.heap.objs.size (.tup [.int (i : Nat), x])) { s with heap := h'', toks := tk + 1 } :=
      I.turnedNew (ch := [e, it]) (fun b ob hb q => (sb.2 b (fun z => hb (by simp [z]))).trans (hk b ob (fun z => hb (by simp [z])) (fun z => hb (by simp [z])) q)) hf (Nat.le_refl _) new
    refine ⟨.ref s.heap.objs.size, _, I1, rfl, ⟨_, x, rfl, I.hok.fresh (Nat.le_refl _), rfl, fun ys hy => by rw [I.tuple_inj hy hq]; exact hx⟩, ⟨⟨x', ?_⟩, hst'.1.at fun o q => (sb.2 it (Ne.symm hne)).trans q, hne, hai, hea⟩, fun b hb => ?_⟩
    · have e1 : ((i + 1 : Nat) : Int) = (i : Int) + 1 := by omega
      rw [e1]; exact he'
    · have hb' : b < s.heap.objs.size := by
        have e' : b = e ∨ b = it := by simpa using hb
        rcases e' with z | z
        · rw [z]; exact hel
        · rw [z]; exact hil
      rw [upd_ne (Nat.ne_of_lt hb')]
      exact (hf b hb).1
  done := by
    intro X hP hw hK hc i pins s σ H E I hf st hg
    subst hP hw hK
    obtain ⟨⟨old, he⟩, hit, hne, hai, hea⟩ := st
    obtain ⟨xs, hq, hx⟩ := hg
    obtain ⟨its, rv, p, hz⟩ := I.tuple hq
    obtain ⟨f0, f1, f2, f3, f4, f5⟩ := hf it (by simp)
    have hl := rv.length
    exact xx_enum_tup_end (I.ok.hd hc) he hit p (by simp; omega) fun h' eb => ⟨rfl, I.turned (t' := s.toks) (fun b o hb q => eb b o hb q) f0 f1 f3 f4 f5⟩
  self := fun A i s Q E st h => let ⟨⟨_, he⟩, _⟩ := st; wpAny_pyIter_enum he h
def iEnumA (K : PySem.W.Frag) (ta : TA) : TI := fun σ H R => ta σ H fun vs H1 => ∃ a xs, vs = [.ref a] ∧ ((SqL K H1 a xs ∧ R (Ite K a) H1) ∨ (SqT K H1 a xs ∧ R (IteT K a) H1))
theorem pi_enumA {X : Cx} {e : Expr} {ta : TA} {p pos tpos : Pos} {elts : List Expr} {kk : Nat} (hg : Gl X "enumerate") (hm : X.mg "enumerate" = none) (ha : PA X [e] ta) (hs : starEach [e] X.env = [(false, eval e X.env)] := by rfl) :
    PI X (.Tuple elts kk tpos) (.Call (.Name "enumerate" p) [e] [] pos) (iEnumA X.K ta) := by
  refine ⟨fun pins s σ H R I h => ?_⟩
  refine Call_ (ld_blt I hg hm boot_enumerate (PyProof.Rows.callWith_type1 (thn (ha.run pos pins s σ H _ I h) fun us s1 ⟨vs, H1, I1, r1, q1⟩ => ?_) hs rfl))
  obtain ⟨a, xs, ex, q1⟩ := q1
  subst ex
  cases r1 with
  | cons r rr =>
    cases rr
    cases r
    have fr : ∀ b ∈ [s1.heap.objs.size + 1, s1.heap.objs.size], FpOk X pins H1 b := fun b hb => by
      have e' : b = s1.heap.objs.size + 1 ∨ b = s1.heap.objs.size := by simpa using hb
      have hle : s1.heap.objs.size ≤ b := by
        rcases e' with z | z
        · rw [z]; exact Nat.le_add_right _ _
        · rw [z]; exact Nat.le_refl _
      exact I1.fpOk hle (I1.hok.fresh hle)
    rcases q1 with ⟨hq, q⟩ | ⟨hq, q⟩
    · obtain ⟨its, rv, p', hz⟩ := I1.list hq
      refine call_enumerate_list p'.isList fun h' he hit hsz hk => wpAny_pyIter_enum he ?_
      have I2 : Inv X pins σ H1 { s1 with heap := h' } := I1.kept (t' := s1.toks) hk
      exact ⟨s1.heap.objs.size + 1, [s1.heap.objs.size + 1, s1.heap.objs.size], _, _, H1, rfl, I2, turn_enum a (s1.heap.objs.size + 1) s1.heap.objs.size, ⟨⟨.none, he⟩, hit, Nat.succ_ne_self _⟩, fr, q⟩
    · obtain ⟨its, rv, p', hz⟩ := I1.tuple hq
      refine xx_enumerate_tuple p' fun h' he hit hsz hk => wpAny_pyIter_enum he ?_
      have I2 : Inv X pins σ H1 { s1 with heap := h' } := I1.kept (t' := s1.toks) hk
      have hlt : a < s1.heap.objs.size := by obtain ⟨o, ho, _⟩ := p'; exact Heap.lt_size ho
      exact ⟨s1.heap.objs.size + 1, [s1.heap.objs.size + 1, s1.heap.objs.size], _, _, H1, rfl, I2, turn_enumT a (s1.heap.objs.size + 1) s1.heap.objs.size, ⟨⟨.none, he⟩, hit, Nat.succ_ne_self _, Nat.ne_of_lt hlt, Nat.ne_of_gt (Nat.lt_succ_of_lt hlt)⟩, fr, q⟩
/-- enumerate of a tuple, of a list -/
def enumA (x : D) (S : Store) : Res (Gd × List D) := match x with
  | .tup xs => .ok (none, numbered 0 xs) S
  | x => enumL x S
theorem wlk_enumT {K : KW} {μ0 : List Addr} {H0 : Hp} {a : Addr} {vs : List V} {xs : List D} (hq : SqT K H0 a vs) (rr : RL K μ0 H0 xs vs) : Wlk K (IteT K a) μ0 H0 (none, numbered 0 xs) where
  go := fun i μ' H' S d x ok g hd => by
    rw [numbered_get] at hd
    cases q : xs[i]? with
    | none => rw [q] at hd; cases hd
    | some y =>
      rw [q] at hd; cases hd
      obtain ⟨v, hv, rv⟩ := rr.get q
      refine ⟨⟨vs, v, x.sqT hq, hv⟩, ?_⟩
      rintro z H'' ⟨T, w, rfl, hT, rfl, hw⟩
      have e := hw _ (x.sqT hq)
      rw [hv] at e; cases e
      have x1 : Ext μ' H' μ' (upd H' T (.tup [.int (i : Nat), v])) := ext_new hT
      refine ⟨x1, ok.laid hT, .tup (SqT.of upd_same) (by show 2 ≤ sizeLine; decide) (.cons ?_ (.cons ((rv.subM x).mono x1) .nil))⟩
      rw [Nat.zero_add]; exact .int _
  stop := fun i μ' H' S x ok g hi => by
    rw [show ((none, numbered 0 xs) : Gd × List D).2 = numbered 0 xs from rfl, numbered_length] at hi
    exact ⟨vs, x.sqT hq, by rw [← rr.length]; exact hi⟩
section
variable {X : Cx} {W : WX} {pos : Pos} {e : Expr} {f : DE}
def cEnumA (f : DE) : DI := fun σ S => (f σ S).bind enumA
theorem i_enum {elts : List Expr} {kk : Nat} {p tpos : Pos} (hm : X.mg "enumerate" = none) (he : PE X e (tE X.kw X.mg W f)) (hg : Gl X "enumerate" := by rfl) (hs : starEach [e] X.env = [(false, eval e X.env)] := by rfl) :
    PI X (.Tuple elts kk tpos) (.Call (.Name "enumerate" p) [e] [] pos) (tI X.kw X.mg W (cEnumA f)) :=
  PI.weak (pi_enumA hg hm (pa_cons he pa_nil hs) hs) fun σ H Q hh => tG1 (k := enumA) (RA := R X.kw) hh fun x S μ H v ok rx hh => by
    cases rx with
    | @tup p vs xs hs hl rr => exact ⟨p, vs, rfl, .inr ⟨hs, hh μ H _ (Ext.refl _ _) ok (wlk_enumT hs rr)⟩⟩
    | @rol p vs xs hs hl rr =>
      exact ⟨p, vs, rfl, .inl ⟨hs.sq, hh μ H _ (Ext.refl _ _) ok (wlk_enum fun μ' H' S' x _ _ => ⟨vs, (x.sqI hs).sq, rr.subM x⟩)⟩⟩
    | @loc l p hl =>
      simp only [enumA, enumL] at hh
      cases q : S[l]? with
      | none => rw [q] at hh; exact hh.elim
      | some c =>
        cases c with
        | dct _ => (first | exact hp.elim | exact h.elim | exact hh.elim | (cases h; done) | (cases hp; done) | (cases hh; done) | (rw [e1, e2] at hp; exact hp.elim) | (rw [e1] at hp; exact hp.elim) | (rw [q] at hp; exact hp.elim) | (rw [q] at h; cases h; done) | (rw [q] at hh; exact hh.elim) | (rw [q] at h; exact h.elim) | (rw [q2] at hh; exact hh.elim) | (rw [q2] at h; exact h.elim) | (rw [q2] at hp; exact hp.elim))
        | lst xs =>
          rw [q] at hh
          obtain ⟨p', vs, e1, _, hv, _, rr⟩ := loc_at ok (R.loc hl) q
          cases e1
          exact ⟨p, vs, rfl, .inl ⟨.inl (.inl hv), hh μ H _ (Ext.refl _ _) ok (wlk_enum fun μ' H' S' x ok' g => gd_loc hl x ok' g)⟩⟩
    | _ => exact hh.elim
end
/-! str(..) -/
def oStr : OA := fun xs S => match xs with
  | [.int i] => if i.natAbs.log2 < 1920 then some (.str (toString i), S) else none
  | [.str a] => some (.str a, S)
  | _ => none
section
variable {X : Cx}
theorem d_str : CallR X (.type "str") (rA X.kw oStr) := by
  intro pins s σ H xs us Q I r hr
  obtain ⟨μ, S, ds, ok, rd, hp⟩ := hr
  unfold oStr at hp
  split at hp
  · obtain ⟨v, rfl, rx⟩ := rd.one
    cases rx
    split at hp
    · rename_i hb
      exact call_str_int pins s σ H _ us Q I r ⟨_, rfl, hb, hp.same ok (.str _)⟩
    · exact hp.elim
  · obtain ⟨v, rfl, rx⟩ := rd.one
    cases rx
    exact SkE.call_str_str pins s σ H _ us Q I r ⟨_, rfl, hp.same ok (.str _)⟩
  · exact hp.elim
end
/-! ### calls by keywords -/
section
variable {X : Cx} {CX : CXT} {k : Nat} {f : Addr} {fd : FuncData} {ps ks : List Str} {sp : Sp} {E : L2.St → XK} {x : Str} {p pos : Pos} {e : Expr} {es : List Expr} {kws : List Keyword} {t tk : TA} {g : List Value → List Value → List Value} {gV : List V → List V → List V}
theorem run_fnKS {pins : List (Addr × Obj)} {σ : L2.St} {H : Hp} {s : Shared} {Q : VK} {us ws : List Value} {vs zs : List V} (F : FnOk X.prog X.w X.K X.mg X.base CX k f fd ps sp) (hr : Room k X.A) (hb : KBinds X.K fd ps ks g gV) (hx : PassesAt CX X σ (E σ))
    (I : Inv X pins σ H s) (r : Vals vs us) (rz : Vals zs ws) (h : sp (gV vs zs) H Q (E σ)) : wpAny (model X.prog X.w) X.A (call (.ref f) us (ks.zip ws)) (EP X pins σ Q) X.xe s := by
  have r2 := hb.rel r rz
  have hl : (g us ws).length = ps.length := by rw [← r2.length]; exact F.len _ _ _ _ h
  refine wpAny_call (codeAny_mono (F.run X.A X.stack s H ⟨us, ks.zip ws⟩ (g us ws) (gV vs zs) Q (E σ) hr I.env0 (hb.to s us ws I.kIn hl) r2 h) fun r s' hq => ?_)
  cases r with
  | error e => exact hx pins H s e s' I hq
  | ok fl =>
    cases fl with
    | ret u => exact I.after hq
    | next => exact False.elim hq
    | brk => exact False.elim hq
    | cont => exact False.elim hq
theorem pe_callKS (F : FnOk X.prog X.w X.K X.mg X.base CX k f fd ps sp) (hr : Room k X.A) (hg : Gl X x) (hm : X.mg x = some (.ref f)) (hk : PySem.W.keepIn X.K (.ref f) = true) (hb : KBinds X.K fd ps ks g gV) (hx : ∀ σ, PassesAt CX X σ (E σ))
    (ha : PA X (e :: es) t) (hkw : PK X kws tk) (hall : (backToKw pos (keywordEach kws X.env)).all (·.1.isSome) = true) (hks : (backToKw pos (keywordEach kws X.env)).filterMap (·.1) = ks)
    (hdb : (x == ("__debug__" : Str)) = false) (he : starEach (e :: es) X.env = (false, eval e X.env) :: starEach es X.env)
    (hpl : ((backTo pos (starEach (e :: es) X.env)).any (·.1) || (backToKw pos (keywordEach kws X.env)).any (·.1.isNone)) = false) :
    PE X (.Call (.Name x p) (e :: es) kws pos) (fun σ H Q => t σ H fun vs H1 => tk σ H1 fun zs H2 => sp (gV vs zs) H2 Q (E σ)) := by
  refine ⟨fun pins s σ H Q I h => ?_⟩
  refine wpAny_Call_Name_kw (ld_glob I hg hm ?_ hdb)
  refine PySem.W.callWith_KW (h₀ := X.base) I.ok.mod.kin hk hall (thn (ha.run pos pins s σ H _ I h) fun us s1 ⟨vs, H1, I1, r, q⟩ => ?_) hpl he
  refine thn (hkw.run pos pins s1 σ H1 _ I1 q) fun ws s2 ⟨zs, H2, I2, rz, q2⟩ => ⟨I2.kIn, ?_⟩
  rw [hks]
  exact run_fnKS F hr hb (hx σ) I2 r rz q2
theorem pe_callKS0 (F : FnOk X.prog X.w X.K X.mg X.base CX k f fd ps sp) (hr : Room k X.A) (hg : Gl X x) (hm : X.mg x = some (.ref f)) (hk : PySem.W.keepIn X.K (.ref f) = true) (hb : KBinds X.K fd ps ks g gV) (hx : ∀ σ, PassesAt CX X σ (E σ))
    (hkw : PK X kws tk) (hall : (backToKw pos (keywordEach kws X.env)).all (·.1.isSome) = true) (hks : (backToKw pos (keywordEach kws X.env)).filterMap (·.1) = ks)
    (hdb : (x == ("__debug__" : Str)) = false)
    (hpl : ((backTo pos (starEach [] X.env)).any (·.1) || (backToKw pos (keywordEach kws X.env)).any (·.1.isNone)) = false) :
    PE X (.Call (.Name x p) [] kws pos) (fun σ H Q => tk σ H fun zs H2 => sp (gV [] zs) H2 Q (E σ)) := by
  refine ⟨fun pins s σ H Q I h => ?_⟩
  refine wpAny_Call_Name_kw (ld_glob I hg hm ?_ hdb)
  refine PySem.W.callWith_KW0 (h₀ := X.base) I.ok.mod.kin hk hall ?_ hpl
  refine thn (hkw.run pos pins s σ H _ I h) fun ws s2 ⟨zs, H2, I2, rz, q2⟩ => ⟨I2.kIn, ?_⟩
  rw [hks]
  exact run_fnKS F hr hb (hx σ) I2 .nil rz q2
end
/-- the parameters' order -/
def permO {α : Type} (d : α) (pm : List Nat) (us ws : List α) : List α := pm.map fun i => (us ++ ws).getD i d
theorem RL.getD {K : KW} {μ : List Addr} {H : Hp} {ds : List D} {vs : List V} (r : RL K μ H ds vs) (i : Nat) : R K μ H (ds.getD i .non) (vs.getD i .non) := by
  rw [List.getD_eq_getElem?_getD, List.getD_eq_getElem?_getD]
  cases q : ds[i]? with
  | none =>
    have : vs[i]? = none := by
      rw [List.getElem?_eq_none_iff] at q ⊢
      rw [← r.length]; exact q
    rw [this]; exact .non
  | some d =>
    obtain ⟨v, hv, rv⟩ := r.get q
    rw [hv]; exact rv
theorem RL.perm {K : KW} {μ : List Addr} {H : Hp} {ds es : List D} {vs ws : List V} (r : RL K μ H ds vs) (q : RL K μ H es ws) : ∀ pm : List Nat, RL K μ H (permO .non pm ds es) (permO .non pm vs ws)
  | [] => .nil
  | i :: pm => .cons ((r.append q).getD i) (RL.perm r q pm)
theorem vals_getD {vs : List V} {us : List Value} (r : Vals vs us) (i : Nat) : RelV (vs.getD i .non) (us.getD i .none) := by
  rw [List.getD_eq_getElem?_getD, List.getD_eq_getElem?_getD]
  cases q : vs[i]? with
  | none =>
    have : us[i]? = none := by
      rw [List.getElem?_eq_none_iff] at q ⊢
      rw [← r.length]; exact q
    rw [this]; rfl
  | some v =>
    obtain ⟨u, hu, ru⟩ := r.get q
    rw [hu]; exact ru
theorem vals_perm {vs zs : List V} {us ws : List Value} (r : Vals vs us) (q : Vals zs ws) : ∀ pm : List Nat, Vals (permO .non pm vs zs) (permO .none pm us ws)
  | [] => .nil
  | i :: pm => .cons (vals_getD (r.append q) i) (vals_perm r q pm)
def gOf {α : Type} (d : α) (a b : Nat) (pm : List Nat) (us ws : List α) : List α := if us.length = a ∧ ws.length = b then permO d pm us ws else []
theorem kb_of {K : PySem.W.Frag} {fd : FuncData} {ps ks : List Str} {a b : Nat} {pm : List Nat} (hn : ps ≠ []) (h : ∀ us ws : List Value, us.length = a → ws.length = b → bindArgs fd ⟨us, ks.zip ws⟩ = pure (ps.zip (permO .none pm us ws))) : KBinds K fd ps ks (gOf .none a b pm) (gOf .non a b pm) where
  to := fun s us ws _ hl => by
    unfold gOf at hl ⊢
    by_cases hc : us.length = a ∧ ws.length = b
    · rw [if_pos hc]
      exact .of_eq (h us ws hc.1 hc.2)
    · rw [if_neg hc] at hl
      exact absurd (List.length_eq_zero_iff.mp hl.symm) hn
  rel := fun {vs us zs ws} r q => by
    unfold gOf
    rw [r.length, q.length]
    by_cases hc : us.length = a ∧ ws.length = b
    · rw [if_pos hc, if_pos hc]; exact vals_perm r q pm
    · rw [if_neg hc, if_neg hc]; exact .nil
section
variable {X : Cx} {W : WX} {pos p kp : Pos} {e : Expr} {es : List Expr} {fa fk : DA} {f : DE} {F : FD} {x : Str} {k j n : Nat} {kws : List Keyword} {nm : Option Str}
theorem PK.weak {t t' : TA} (h : PK X kws t) (w : ∀ σ H Q, t' σ H Q → t σ H Q) : PK X kws t' := ⟨fun pos pins s σ H Q I q => h.run pos pins s σ H Q I (w σ H Q q)⟩
theorem k_nil : PK X [] (tA X.kw X.mg W aNil) := PK.weak pk_nil fun σ H Q hh => by
  obtain ⟨μ, σD, S, ok, en, hh⟩ := hh
  exact hh μ H [] (Ext.refl _ _) ok .nil
theorem k_cons (ha : PE X e (tE X.kw X.mg W f)) (hr : PK X kws (tA X.kw X.mg W fk)) : PK X (⟨nm, e, kp⟩ :: kws) (tA X.kw X.mg W (aCons f fk)) := PK.weak (pk_cons ha hr) fun _ _ _ => tA_cons
def cCallK (F : FD) (pm : List Nat) (fa fk : DA) : DE := fun σ S => (fa σ S).bind fun us S1 => (fk σ S1).bind fun ws S2 => F (permO .non pm us ws) S2
theorem fun_one {K : PySem.W.Frag} {x qual qual' : Str} {st st' : Stmt} {f : Addr} {fd fd' : FuncData} (h : Fun K x qual st f fd) (h' : Fun K x qual' st' f fd') : fd = fd' ∧ defArgs st = defArgs st' := by
  obtain ⟨oc, od, kV, doc, pm, an, cdv, ct, osl, rfl, lk, hcd⟩ := h.ex
  obtain ⟨oc', od', kV', doc', pm', an', cdv', ct', osl', rfl, lk', hcd'⟩ := h'.ex
  rw [lk] at lk'
  have e := Option.some.inj lk'
  simp only [Obj.mk.injEq, Data.func.injEq] at e
  exact ⟨e.2.2.1, congrArg FuncData.params e.2.2.1⟩
theorem e_callK {qual : Str} {st : Stmt} {ks ps : List Str} {a b : Nat} (pm : List Nat) (T : FnD X.prog X.w X.K X.mg X.base j x n F) (Fn : ∃ f fd, X.mg x = some (.ref f) ∧ Fun X.kw x qual st f fd) (hr : Room k X.A) (hj : j ≤ k) (tk : Takes X W) (ha : PA X (e :: es) (tA X.kw X.mg W fa)) (hkw : PK X kws (tA X.kw X.mg W fk))
    (hna : ∀ σ S ds S', fa σ S = .ok ds S' → ds.length = a) (hnb : ∀ σ S ds S', fk σ S = .ok ds S' → ds.length = b)
    (hb : ∀ (kV doc pmo : Value) (an : Option Addr) (cdv ct : Value) (us ws : List Value), us.length = a → ws.length = b → bindArgs (PySem.W.fnOf x qual (defArgs st) (defBody st) (defScope st) .none kV doc pmo an cdv ct) ⟨us, ks.zip ws⟩ = pure (ps.zip (permO .none pm us ws)))
    (hks : (backToKw pos (keywordEach kws X.env)).filterMap (·.1) = ks := by rfl) (hps : ps = (defArgs st).args.map (·.arg) := by rfl) (hpm : pm.length = n := by rfl) (hne : ps ≠ [] := by decide) (hg : Gl X x := by rfl) (hdb : (x == ("__debug__" : Str)) = false := by decide)
    (hall : (backToKw pos (keywordEach kws X.env)).all (·.1.isSome) = true := by rfl)
    (he : starEach (e :: es) X.env = (false, eval e X.env) :: starEach es X.env := by rfl)
    (hpl : ((backTo pos (starEach (e :: es) X.env)).any (·.1) || (backToKw pos (keywordEach kws X.env)).any (·.1.isNone)) = false := by rfl) : PE X (.Call (.Name x p) (e :: es) kws pos) (tE X.kw X.mg W (cCallK F pm fa fk)) := by
  obtain ⟨f, fd, ps', hm, hk, _, hl, ok, qual', st', F', eps⟩ := T.ex
  obtain ⟨f2, fd2, hm2, F2⟩ := Fn
  have ef : f = f2 := by rw [hm] at hm2; cases hm2; rfl
  subst ef
  obtain ⟨rfl, ea⟩ := fun_one F' F2
  have eps' : ps' = ps := by rw [eps, hps, ea]
  subst eps'
  obtain ⟨oc, od, kV, doc, pmo, an, cdv, ct, osl, rfl, lk, hcd⟩ := F2.ex
  have hkb : KBinds X.K _ ps' ks (gOf .none a b pm) (gOf .non a b pm) := kb_of hne (hb kV doc pmo an cdv ct)
  refine PE.weak (pe_callKS ok (hr.mono hj) hg hm hk hkb (fun σ => passAt tk σ) ha hkw hall hks hdb he hpl) fun σ H Q hh => ?_
  obtain ⟨μ, σD, S, ok0, en, hh⟩ := hh
  refine ⟨μ, σD, S, ok0, en, ?_⟩
  unfold cCallK at hh
  cases q : fa σD S with
  | no => rw [q] at hh; exact hh.elim
  | ex e S1 => rw [q] at hh; exact hh
  | ok us S1 =>
    rw [q] at hh
    simp only [Res.bind_ok] at hh
    intro μ1 H1 vs1 x1 ok1 rl1
    have hlen1 : vs1.length = a := by rw [← rl1.length]; exact hna _ _ _ _ q
    refine ⟨μ1, σD, S1, ok1, en.mono x1, ?_⟩
    replace hh := Post.mono x1 hh
    cases q2 : fk σD S1 with
    | no => rw [q2] at hh; exact hh.elim
    | ex e S2 => rw [q2] at hh; exact hh
    | ok ws S2 =>
    rw [q2] at hh
    simp only [Res.bind_ok] at hh
    intro μ2 H2 vs2 x2 ok2 rl2
    have h1 := Post.mono x2 hh
    have hlen : vs2.length = b := by rw [← rl2.length]; exact hnb _ _ _ _ q2
    unfold gOf
    rw [if_pos ⟨hlen1, hlen⟩]
    refine ⟨μ2, S2, permO .non pm us ws, ok2, (rl1.mono x2).perm rl2 pm, by unfold permO; rw [List.length_map]; exact hpm, ?_⟩
    cases q3 : F (permO .non pm us ws) S2 with
    | ok d S3 => rw [q3] at h1; exact h1
    | ex e S3 => rw [q3] at h1; exact h1
    | no => rw [q3] at h1; exact h1
theorem e_callK0 {qual : Str} {st : Stmt} {ks ps : List Str} {b : Nat} (pm : List Nat) (T : FnD X.prog X.w X.K X.mg X.base j x n F) (Fn : ∃ f fd, X.mg x = some (.ref f) ∧ Fun X.kw x qual st f fd) (hr : Room k X.A) (hj : j ≤ k) (tk : Takes X W) (hkw : PK X kws (tA X.kw X.mg W fk))
    (hnb : ∀ σ S ds S', fk σ S = .ok ds S' → ds.length = b)
    (hb : ∀ (kV doc pmo : Value) (an : Option Addr) (cdv ct : Value) (us ws : List Value), us.length = 0 → ws.length = b → bindArgs (PySem.W.fnOf x qual (defArgs st) (defBody st) (defScope st) .none kV doc pmo an cdv ct) ⟨us, ks.zip ws⟩ = pure (ps.zip (permO .none pm us ws)))
    (hks : (backToKw pos (keywordEach kws X.env)).filterMap (·.1) = ks := by rfl) (hps : ps = (defArgs st).args.map (·.arg) := by rfl) (hpm : pm.length = n := by rfl) (hne : ps ≠ [] := by decide) (hg : Gl X x := by rfl) (hdb : (x == ("__debug__" : Str)) = false := by decide)
    (hall : (backToKw pos (keywordEach kws X.env)).all (·.1.isSome) = true := by rfl)
    (hpl : ((backTo pos (starEach [] X.env)).any (·.1) || (backToKw pos (keywordEach kws X.env)).any (·.1.isNone)) = false := by rfl) : PE X (.Call (.Name x p) [] kws pos) (tE X.kw X.mg W (cCallK F pm aNil fk)) := by
  obtain ⟨f, fd, ps', hm, hk, _, hl, ok, qual', st', F', eps⟩ := T.ex
  obtain ⟨f2, fd2, hm2, F2⟩ := Fn
  have ef : f = f2 := by rw [hm] at hm2; cases hm2; rfl
  subst ef
  obtain ⟨rfl, ea⟩ := fun_one F' F2
  have eps' : ps' = ps := by rw [eps, hps, ea]
  subst eps'
  obtain ⟨oc, od, kV, doc, pmo, an, cdv, ct, osl, rfl, lk, hcd⟩ := F2.ex
  have hkb : KBinds X.K _ ps' ks (gOf .none 0 b pm) (gOf .non 0 b pm) := kb_of hne (hb kV doc pmo an cdv ct)
  refine PE.weak (pe_callKS0 ok (hr.mono hj) hg hm hk hkb (fun σ => passAt tk σ) hkw hall hks hdb hpl) fun σ H Q hh => ?_
  obtain ⟨μ, σD, S, ok0, en, hh⟩ := hh
  refine ⟨μ, σD, S, ok0, en, ?_⟩
  unfold cCallK at hh
  rw [show aNil σD S = .ok [] S from rfl] at hh
  simp only [Res.bind_ok] at hh
  have rl1 : RL X.kw μ H ([] : List D) ([] : List V) := .nil
  have hlen1 : ([] : List V).length = 0 := rfl
  cases q2 : fk σD S with
  | no => rw [q2] at hh; exact hh.elim
  | ex e S2 => rw [q2] at hh; exact hh
  | ok ws S2 =>
    rw [q2] at hh
    simp only [Res.bind_ok] at hh
    intro μ2 H2 vs2 x2 ok2 rl2
    have h1 := Post.mono x2 hh
    have hlen : vs2.length = b := by rw [← rl2.length]; exact hnb _ _ _ _ q2
    unfold gOf
    rw [if_pos ⟨hlen1, hlen⟩]
    refine ⟨μ2, S2, permO .non pm [] ws, ok2, (rl1.mono x2).perm rl2 pm, by unfold permO; rw [List.length_map]; exact hpm, ?_⟩
    cases q3 : F (permO .non pm [] ws) S2 with
    | ok d S3 => rw [q3] at h1; exact h1
    | ex e S3 => rw [q3] at h1; exact h1
    | no => rw [q3] at h1; exact h1
end
end DL

namespace DL
open PySem PySem.Spec PyProof.Rows L2
/-! ### zip of three tuples -/
def zip3V : List V → List V → List V → List (List V)
  | x :: xs, y :: ys, z :: zs => [x, y, z] :: zip3V xs ys zs
  | _, _, _ => []
theorem zip3V_len : ∀ xs ys zs : List V, (zip3V xs ys zs).length = min (min xs.length ys.length) zs.length
  | [], _, _ => by simp [zip3V]
  | _ :: _, [], _ => by simp [zip3V]
  | _ :: _, _ :: _, [] => by simp [zip3V]
  | _ :: xs, _ :: ys, _ :: zs => by
    rw [zip3V, List.length_cons, zip3V_len xs ys zs]
    simp only [List.length_cons]; omega
theorem zip3V_get : ∀ {xs ys zs : List V} {i : Nat} {x y z : V}, xs[i]? = some x → ys[i]? = some y → zs[i]? = some z → (zip3V xs ys zs).getD i [] = [x, y, z]
  | _ :: _, _ :: _, _ :: _, 0, _, _, _, h1, h2, h3 => by
    simp at h1 h2 h3
    subst h1 h2 h3
    rfl
  | _ :: xs, _ :: ys, _ :: zs, i + 1, x, y, z, h1, h2, h3 => by
    have := zip3V_get (xs := xs) (ys := ys) (zs := zs) (i := i) (by simpa using h1) (by simpa using h2) (by simpa using h3)
    rw [zip3V, List.getD_cons_succ]; exact this
  | [], _, _, _, _, _, _, h, _, _ => by simp at h
  | _ :: _, [], _, _, _, _, _, _, h, _ => by simp at h
  | _ :: _, _ :: _, [], _, _, _, _, _, _, h => by simp at h
/-- the tuples at a, b and c, the items in new triples -/
def Itz3 (K : PySem.W.Frag) (a b c : Addr) (xs ys zs : List V) : It :=
  ⟨fun i H => i < (zip3V xs ys zs).length ∧ SqT K H a xs ∧ SqT K H b ys ∧ SqT K H c zs,
    fun i H v H' => ∃ T, v = .ref T ∧ H T = none ∧ H' = upd H T (.tup ((zip3V xs ys zs).getD i [])),
    fun i H => (zip3V xs ys zs).length ≤ i ∧ SqT K H a xs ∧ SqT K H b ys ∧ SqT K H c zs⟩
theorem turn_zip3 {P : Program} {w : World} {K : PySem.W.Frag} {elts : List Expr} {kk : Nat} {tpos : Pos} {a b c z TI TO i1 i2 i3 : Addr} {xs ys zs : List V} (S : ZipSep3 z TI TO i1 i2 i3 [i1, a] [i2, b] [i3, c]) (ha : a ≠ i1) (hb : b ≠ i2) (hcn : c ≠ i3) :
    Turn P w K (.Tuple elts kk tpos) (Itz3 K a b c xs ys zs) [z, TI, TO, i1, i2, i3] z (fun i h => i ≤ (zip3V xs ys zs).length ∧ IsZip h z TI TO .none ∧ IsTupOf3 h TI (.ref i1) (.ref i2) (.ref i3) ∧ (∃ a1 a2 a3, IsTupOf3 h TO a1 a2 a3) ∧ h.IsTupleIter i1 a i ∧ h.IsTupleIter i2 b i ∧ h.IsTupleIter i3 c i) where
  mem := by simp
  obj := fun i h st d hd => by
    obtain ⟨_, hz, hTI, ⟨x, y, u, hTO⟩, ⟨o1, e1, _, d1⟩, ⟨o2, e2, _, d2⟩, ⟨o3, e3, _, d3⟩⟩ := st
    have e' : d = z ∨ d = TI ∨ d = TO ∨ d = i1 ∨ d = i2 ∨ d = i3 := by simpa using hd
    rcases e' with q | q | q | q | q | q
    · rw [q]; exact ⟨_, hz, fun v q => nomatch q⟩
    · rw [q]; exact ⟨_, hTI, fun v q => nomatch q⟩
    · rw [q]; exact ⟨_, hTO, fun v q => nomatch q⟩
    · rw [q]; exact ⟨o1, e1, fun v q => by rw [d1] at q; cases q⟩
    · rw [q]; exact ⟨o2, e2, fun v q => by rw [d2] at q; cases q⟩
    · rw [q]; exact ⟨o3, e3, fun v q => by rw [d3] at q; cases q⟩
  keep := fun i h h' st k => by
    obtain ⟨hle, hz, hTI, ⟨x, y, u, hTO⟩, h1, h2, h3⟩ := st
    exact ⟨hle, k z (by simp) _ hz, k TI (by simp) _ hTI, ⟨x, y, u, k TO (by simp) _ hTO⟩, h1.at fun o q => k i1 (by simp) o q, h2.at fun o q => k i2 (by simp) o q, h3.at fun o q => k i3 (by simp) o q⟩
  item := by
    intro X hP hw hK hc i pins s σ H E I hf st hg
    subst hP hw hK
    obtain ⟨hle, hz, hTI, hTO, h1, h2, h3⟩ := st
    obtain ⟨hlt, qa, qb, qc⟩ := hg
    obtain ⟨its1, rv1, p1, _⟩ := I.tuple qa
    obtain ⟨its2, rv2, p2, _⟩ := I.tuple qb
    obtain ⟨its3, rv3, p3, _⟩ := I.tuple qc
    have l1 := rv1.length
    have l2 := rv2.length
    have l3 := rv3.length
    rw [zip3V_len] at hlt
    refine (GoesN.zip3 (A := X.A) (elts := elts) (x1 := kk) (pos := tpos) S (Draws.tuple (A := X.A.in1) (I.ok.hd hc) i1 a ha its1.toArray) (Draws.tuple (A := X.A.in1) (I.ok.hd hc) i2 b hb its2.toArray) (Draws.tuple (A := X.A.in1) (I.ok.hd hc) i3 c hcn its3.toArray)).goes i s _ E (by simp only [List.size_toArray]; omega) ⟨hz, hTI, hTO, ⟨h1, p1⟩, ⟨h2, p2⟩, ⟨h3, p3⟩⟩ fun v h' tk hY st' hk htk => ?_
    obtain ⟨T, x, y, u, rfl, hT, e1, e2, e3, hTt⟩ := hY
    have e1' : its1[i]? = some x := by simpa using e1
    have e2' : its2[i]? = some y := by simpa using e2
    have e3' : its3[i]? = some u := by simpa using e3
    have hvx : xs[i]? = some (xs[i]'(by omega)) := List.getElem?_eq_getElem _
    obtain ⟨wx, hwx, rx⟩ := rv1.get hvx
    have qx : wx = x := by rw [hwx] at e1'; exact Option.some.inj e1'
    subst qx
    generalize xs[i]'(by omega) = vx at *
    have hvy : ys[i]? = some (ys[i]'(by omega)) := List.getElem?_eq_getElem _
    obtain ⟨wy, hwy, ry⟩ := rv2.get hvy
    have qy : wy = y := by rw [hwy] at e2'; exact Option.some.inj e2'
    subst qy
    generalize ys[i]'(by omega) = vy at *
    have hvu : zs[i]? = some (zs[i]'(by omega)) := List.getElem?_eq_getElem _
    obtain ⟨wu, hwu, ru⟩ := rv3.get hvu
    have qu : wu = u := by rw [hwu] at e3'; exact Option.some.inj e3'
    subst qu
    generalize zs[i]'(by omega) = vu at *
    have new : ObjOk X.prog X.w (upd H T (.tup [vx, vy, vu])) h' T (.tup [vx, vy, vu]) := ⟨by show 3 ≤ sizeLine; decide, [wx, wy, wu], .cons rx (.cons ry (.cons ru .nil)), hTt⟩
    have I1 : Inv X pins σ (upd H T (.tup [vx, vy, vu])) { s with heap := h', toks := tk } :=
      I.turnedNew (ch := [z, TI, TO, i1, i2, i3]) (fun d o hd q => hk d o (fun q' => hd (by simp only [List.mem_cons, List.not_mem_nil, or_false] at q' ⊢; rcases q' with h | h | h | h | h <;> simp [h])) q) hf hT new
    obtain ⟨z1, z2, z3, ⟨z4, _⟩, ⟨z5, _⟩, ⟨z6, _⟩⟩ := st'
    refine ⟨.ref T, _, I1, rfl, ⟨T, rfl, I.hok.fresh hT, by rw [zip3V_get hvx hvy hvu]⟩, ⟨by rw [zip3V_len]; omega, z1, z2, z3, z4, z5, z6⟩, fun d hd => ?_⟩
    have hdl : d < s.heap.objs.size := by
      have e' : d = z ∨ d = TI ∨ d = TO ∨ d = i1 ∨ d = i2 ∨ d = i3 := by simpa using hd
      rcases e' with q | q | q | q | q | q
      · rw [q]; exact Heap.lt_size hz
      · rw [q]; exact Heap.lt_size hTI
      · obtain ⟨_, _, _, hTO⟩ := hTO; rw [q]; exact Heap.lt_size hTO
      · rw [q]; obtain ⟨_, e, _⟩ := h1; exact Heap.lt_size e
      · rw [q]; obtain ⟨_, e, _⟩ := h2; exact Heap.lt_size e
      · rw [q]; obtain ⟨_, e, _⟩ := h3; exact Heap.lt_size e
    rw [upd_ne (Nat.ne_of_lt (Nat.lt_of_lt_of_le hdl hT))]
    exact (hf d hd).1
  done := by
    intro X hP hw hK hc i pins s σ H E I hf st hg
    subst hP hw hK
    obtain ⟨hle, hz, hTI, hTO, h1, h2, h3⟩ := st
    obtain ⟨hlt, qa, qb, qc⟩ := hg
    obtain ⟨its1, rv1, p1, _⟩ := I.tuple qa
    obtain ⟨its2, rv2, p2, _⟩ := I.tuple qb
    obtain ⟨its3, rv3, p3, _⟩ := I.tuple qc
    have l1 := rv1.length
    have l2 := rv2.length
    have l3 := rv3.length
    rw [zip3V_len] at hlt hle
    have ei : i = min (min its1.toArray.size its2.toArray.size) its3.toArray.size := by simp only [List.size_toArray]; omega
    refine (GoesN.zip3 (A := X.A) (elts := elts) (x1 := kk) (pos := tpos) S (Draws.tuple (A := X.A.in1) (I.ok.hd hc) i1 a ha its1.toArray) (Draws.tuple (A := X.A.in1) (I.ok.hd hc) i2 b hb its2.toArray) (Draws.tuple (A := X.A.in1) (I.ok.hd hc) i3 c hcn its3.toArray)).stops s _ E (ei ▸ ⟨hz, hTI, hTO, ⟨h1, p1⟩, ⟨h2, p2⟩, ⟨h3, p3⟩⟩) fun h' tk hk htk => ?_
    exact I.turnedL (ch := [z, TI, TO, i1, i2, i3]) (fun d o hd q => hk d o (fun q' => hd (by simp only [List.mem_cons, List.not_mem_nil, or_false] at q' ⊢; rcases q' with h | h | h | h | h <;> simp [h])) q) hf
  self := fun A i s Q E st h => wpAny_pyIter_zip st.2.1 h
theorem sep_of {N a b c : Nat} (h1 : a < N) (h2 : b < N) (h3 : c < N) : ZipSep3 (N + 5) (N + 3) (N + 4) N (N + 1) (N + 2) [N, a] [N + 1, b] [N + 2, c] :=
  zip_sep3 (fp1 := [a]) (fp2 := [b]) (fp3 := [c]) (by simpa using h1) (by simpa using h2) (by simpa using h3)
def iZip3 (K : PySem.W.Frag) (ta : TA) : TI := fun σ H R => ta σ H fun vs H1 => ∃ a b c xs ys zs, vs = [.ref a, .ref b, .ref c] ∧ SqT K H1 a xs ∧ SqT K H1 b ys ∧ SqT K H1 c zs ∧ R (Itz3 K a b c xs ys zs) H1
theorem pi_zip3 {X : Cx} {e e2 e3 : Expr} {ta : TA} {p pos tpos : Pos} {elts : List Expr} {kk : Nat} (hg : Gl X "zip") (hm : X.mg "zip" = none) (ha : PA X [e, e2, e3] ta)
    (hs : starEach [e, e2, e3] X.env = (false, eval e X.env) :: starEach [e2, e3] X.env := by rfl) (hpl : (backTo pos (starEach [e2, e3] X.env)).any (·.1) = false := by rfl) :
    PI X (.Tuple elts kk tpos) (.Call (.Name "zip" p) [e, e2, e3] [] pos) (iZip3 X.K ta) := by
  refine ⟨fun pins s σ H R I h => ?_⟩
  refine Call_ (ld_blt I hg hm PyProof.Rows.boot_zip (PyProof.Rows.callWith_type1 (thn (ha.run pos pins s σ H _ I h) fun us s1 ⟨vs, H1, I1, r1, q1⟩ => ?_) hs hpl))
  obtain ⟨a, b, c, xs, ys, zs, ex, hqa, hqb, hqc, q⟩ := q1
  subst ex
  cases r1 with
  | cons r rr =>
    cases rr with
    | cons r' rr =>
      cases rr with
      | cons r'' rr =>
        cases rr
        cases r
        cases r'
        cases r''
        obtain ⟨its1, rv1, p1, _⟩ := I1.tuple hqa
        obtain ⟨its2, rv2, p2, _⟩ := I1.tuple hqb
        obtain ⟨its3, rv3, p3, _⟩ := I1.tuple hqc
        have la : a < s1.heap.objs.size := by obtain ⟨o, ho, _⟩ := p1; exact Heap.lt_size ho
        have lb : b < s1.heap.objs.size := by obtain ⟨o, ho, _⟩ := p2; exact Heap.lt_size ho
        have lc : c < s1.heap.objs.size := by obtain ⟨o, ho, _⟩ := p3; exact Heap.lt_size ho
        refine zip_begins3 (begins_tuple a its1.toArray) (begins_tuple b its2.toArray) (begins_tuple c its3.toArray) p1 p2 p3 fun h' hz hTI hTO g1 g2 g3 hsz hk => wpAny_pyIter_zip hz ?_
        have I2 : Inv X pins σ H1 { s1 with heap := h' } := I1.kept (t' := s1.toks) hk
        refine ⟨s1.heap.objs.size + 5, [s1.heap.objs.size + 5, s1.heap.objs.size + 3, s1.heap.objs.size + 4, s1.heap.objs.size, s1.heap.objs.size + 1, s1.heap.objs.size + 2], _, _, H1, rfl, I2,
          turn_zip3 (sep_of la lb lc) (Nat.ne_of_lt la) (Nat.ne_of_lt (Nat.lt_succ_of_lt lb)) (Nat.ne_of_lt (Nat.lt_succ_of_lt (Nat.lt_succ_of_lt lc))),
          ⟨Nat.zero_le _, hz, hTI, ⟨_, _, _, hTO⟩, ⟨_, g1, rfl, rfl⟩, ⟨_, g2, rfl, rfl⟩, ⟨_, g3, rfl, rfl⟩⟩, fun d hd => ?_, q⟩
        have hle : s1.heap.objs.size ≤ d := by
          simp only [List.mem_cons, List.not_mem_nil, or_false] at hd
          rcases hd with h | h | h | h | h | h
          · rw [h]; exact Nat.le_add_right _ _
          · rw [h]; exact Nat.le_add_right _ _
          · rw [h]; exact Nat.le_add_right _ _
          · rw [h]; exact Nat.le_refl _
          · rw [h]; exact Nat.le_add_right _ _
          · rw [h]; exact Nat.le_add_right _ _
        exact I1.fpOk hle (I1.hok.fresh hle)
def zip3D : List D → List D → List D → List D
  | x :: xs, y :: ys, z :: zs => .tup [x, y, z] :: zip3D xs ys zs
  | _, _, _ => []
theorem zip3D_get {K : KW} {μ : List Addr} {H : Hp} : ∀ {xs ys zs : List D} {vs ws us : List V} {i : Nat} {d : D}, RL K μ H xs vs → RL K μ H ys ws → RL K μ H zs us → (zip3D xs ys zs)[i]? = some d → ∃ x y z vx vy vz, d = .tup [x, y, z] ∧ (zip3V vs ws us).getD i [] = [vx, vy, vz] ∧ i < (zip3V vs ws us).length ∧ R K μ H x vx ∧ R K μ H y vy ∧ R K μ H z vz
  | _ :: _, _ :: _, _ :: _, _, _, _, 0, d, .cons a _, .cons b _, .cons c _, h => by
    rw [zip3D] at h
    cases h
    exact ⟨_, _, _, _, _, _, rfl, rfl, by rw [zip3V]; simp, a, b, c⟩
  | _ :: _, _ :: _, _ :: _, _, _, _, i + 1, d, .cons _ a, .cons _ b, .cons _ c, h => by
    rw [zip3D, List.getElem?_cons_succ] at h
    obtain ⟨x, y, z, vx, vy, vz, e, e2, e3, r⟩ := zip3D_get a b c h
    exact ⟨x, y, z, vx, vy, vz, e, by rw [zip3V, List.getD_cons_succ]; exact e2, by rw [zip3V, List.length_cons]; omega, r⟩
  | [], _, _, _, _, _, _, _, _, _, _, h => by simp [zip3D] at h
  | _ :: _, [], _, _, _, _, _, _, _, _, _, h => by simp [zip3D] at h
  | _ :: _, _ :: _, [], _, _, _, _, _, _, _, _, h => by simp [zip3D] at h
theorem zip3D_len {K : KW} {μ : List Addr} {H : Hp} : ∀ {xs ys zs : List D} {vs ws us : List V}, RL K μ H xs vs → RL K μ H ys ws → RL K μ H zs us → (zip3D xs ys zs).length = (zip3V vs ws us).length
  | _, _, _, _, _, _, .cons _ a, .cons _ b, .cons _ c => by rw [zip3D, zip3V, List.length_cons, List.length_cons, zip3D_len a b c]
  | _, _, _, _, _, _, .nil, _, _ => by simp [zip3D, zip3V]
  | _, _, _, _, _, _, .cons _ _, .nil, _ => by simp [zip3D, zip3V]
  | _, _, _, _, _, _, .cons _ _, .cons _ _, .nil => by simp [zip3D, zip3V]
theorem wlk_zip3 {K : KW} {μ0 : List Addr} {H0 : Hp} {a b c : Addr} {vs ws us : List V} {xs ys zs : List D} (ha : SqT K H0 a vs) (hb : SqT K H0 b ws) (hc : SqT K H0 c us) (ra : RL K μ0 H0 xs vs) (rb : RL K μ0 H0 ys ws) (rc : RL K μ0 H0 zs us) : Wlk K (Itz3 K a b c vs ws us) μ0 H0 (none, zip3D xs ys zs) where
  go := fun i μ' H' S d x ok g hd => by
    obtain ⟨x', y', z', vx, vy, vz, rfl, e2, e3, r1, r2, r3⟩ := zip3D_get ra rb rc hd
    refine ⟨⟨e3, x.sqT ha, x.sqT hb, x.sqT hc⟩, ?_⟩
    rintro z H'' ⟨T, rfl, hT, rfl⟩
    rw [e2]
    have x1 : Ext μ' H' μ' (upd H' T (.tup [vx, vy, vz])) := ext_new hT
    exact ⟨x1, ok.laid hT, .tup (SqT.of upd_same) (by show 3 ≤ sizeLine; decide) (.cons ((r1.subM x).mono x1) (.cons ((r2.subM x).mono x1) (.cons ((r3.subM x).mono x1) .nil)))⟩
  stop := fun i μ' H' S x ok g hi => by
    rw [show ((none, zip3D xs ys zs) : Gd × List D).2 = zip3D xs ys zs from rfl, zip3D_len ra rb rc] at hi
    exact ⟨hi, x.sqT ha, x.sqT hb, x.sqT hc⟩
section
variable {X : Cx} {W : WX} {pos : Pos} {e e2 e3 : Expr} {f g h : DE}
def zip3R : List D → Store → Res (Gd × List D) := fun ds S => match ds with
  | [.tup xs, .tup ys, .tup zs] => .ok (none, zip3D xs ys zs) S
  | _ => .no
def cZip3 (f g h : DE) : DI := fun σ S => (aCons f (aCons g (aCons h aNil)) σ S).bind zip3R
theorem i_zip3 {elts : List Expr} {kk : Nat} {p tpos : Pos} (hm : X.mg "zip" = none) (ha : PE X e (tE X.kw X.mg W f)) (hb : PE X e2 (tE X.kw X.mg W g)) (hc : PE X e3 (tE X.kw X.mg W h)) (hg : Gl X "zip" := by rfl)
    (hs : starEach [e, e2, e3] X.env = (false, eval e X.env) :: starEach [e2, e3] X.env := by rfl) (hs2 : starEach [e2, e3] X.env = (false, eval e2 X.env) :: starEach [e3] X.env := by rfl) (hs3 : starEach [e3] X.env = (false, eval e3 X.env) :: starEach [] X.env := by rfl)
    (hpl : (backTo pos (starEach [e2, e3] X.env)).any (·.1) = false := by rfl) : PI X (.Tuple elts kk tpos) (.Call (.Name "zip" p) [e, e2, e3] [] pos) (tI X.kw X.mg W (cZip3 f g h)) :=
  PI.weak (pi_zip3 hg hm (a_cons ha (a_cons hb (a_cons hc a_nil hs3) hs2) hs) hs hpl) fun σ H Q hh => tG1 (k := zip3R) (RA := RL X.kw) hh fun x S μ H v ok rx hh => by
    unfold zip3R at hh
    split at hh
    · cases rx with
      | cons r1 rx =>
        cases rx with
        | cons r2 rx =>
          cases rx with
          | cons r3 rx =>
            cases rx
            cases r1 with
            | tup h1 l1 q1 =>
              cases r2 with
              | tup h2 l2 q2 =>
                cases r3 with
                | tup h3 l3 q3 => exact ⟨_, _, _, _, _, _, rfl, h1, h2, h3, hh μ H _ (Ext.refl _ _) ok (wlk_zip3 h1 h2 h3 q1 q2 q3)⟩
    · exact hh.elim
end
/-! ### zip of two tuples -/
def zip2D : List D → List D → List D
  | x :: xs, y :: ys => .tup [x, y] :: zip2D xs ys
  | _, _ => []
theorem zip2D_get {K : KW} {μ : List Addr} {H : Hp} : ∀ {xs ys : List D} {vs ws : List V} {i : Nat} {d : D}, RL K μ H xs vs → RL K μ H ys ws → (zip2D xs ys)[i]? = some d → ∃ x y vx vy, d = .tup [x, y] ∧ vs[i]? = some vx ∧ ws[i]? = some vy ∧ R K μ H x vx ∧ R K μ H y vy
  | _ :: _, _ :: _, _, _, 0, d, .cons a _, .cons b _, h => by
    rw [zip2D] at h
    cases h
    exact ⟨_, _, _, _, rfl, rfl, rfl, a, b⟩
  | _ :: _, _ :: _, _, _, i + 1, d, .cons _ a, .cons _ b, h => by
    rw [zip2D, List.getElem?_cons_succ] at h
    obtain ⟨x, y, vx, vy, e, e2, e3, r⟩ := zip2D_get a b h
    exact ⟨x, y, vx, vy, e, by simpa using e2, by simpa using e3, r⟩
  | [], _, _, _, _, _, _, _, h => by simp [zip2D] at h
  | _ :: _, [], _, _, _, _, _, _, h => by simp [zip2D] at h
theorem zip2D_len : ∀ {xs ys : List D}, (zip2D xs ys).length = min xs.length ys.length
  | [], _ => by simp [zip2D]
  | _ :: _, [] => by simp [zip2D]
  | _ :: xs, _ :: ys => by rw [zip2D, List.length_cons, zip2D_len]; simp only [List.length_cons]; omega
theorem wlk_zip2 {K : KW} {μ0 : List Addr} {H0 : Hp} {a b : Addr} {vs ws : List V} {xs ys : List D} (ha : SqT K H0 a vs) (hb : SqT K H0 b ws) (ra : RL K μ0 H0 xs vs) (rb : RL K μ0 H0 ys ws) : Wlk K (RZ.ItzT K a b) μ0 H0 (none, zip2D xs ys) where
  go := fun i μ' H' S d x ok g hd => by
    obtain ⟨x', y', vx, vy, rfl, e2, e3, r1, r2⟩ := zip2D_get ra rb hd
    refine ⟨⟨vs, ws, vx, vy, x.sqT ha, x.sqT hb, e2, e3⟩, ?_⟩
    rintro z H'' ⟨T, wx, wy, rfl, hT, rfl, h1, h2⟩
    have q1 := h1 _ (x.sqT ha)
    rw [e2] at q1; cases q1
    have q2 := h2 _ (x.sqT hb)
    rw [e3] at q2; cases q2
    have x1 : Ext μ' H' μ' (upd H' T (.tup [vx, vy])) := ext_new hT
    exact ⟨x1, ok.laid hT, .tup (SqT.of upd_same) (by show 2 ≤ sizeLine; decide) (.cons ((r1.subM x).mono x1) (.cons ((r2.subM x).mono x1) .nil))⟩
  stop := fun i μ' H' S x ok g hi => by
    rw [show ((none, zip2D xs ys) : Gd × List D).2 = zip2D xs ys from rfl, zip2D_len, ra.length, rb.length] at hi
    exact ⟨vs, ws, x.sqT ha, x.sqT hb, by omega⟩
section
variable {X : Cx} {W : WX} {pos : Pos} {e e2 : Expr} {f g : DE}
def zip2R : List D → Store → Res (Gd × List D) := fun ds S => match ds with
  | [.tup xs, .tup ys] => .ok (none, zip2D xs ys) S
  | _ => .no
def cZip2 (f g : DE) : DI := fun σ S => (aCons f (aCons g aNil) σ S).bind zip2R
theorem i_zip2 {elts : List Expr} {kk : Nat} {p tpos : Pos} (hm : X.mg "zip" = none) (ha : PE X e (tE X.kw X.mg W f)) (hb : PE X e2 (tE X.kw X.mg W g)) (hg : Gl X "zip" := by rfl)
    (hs : starEach [e, e2] X.env = (false, eval e X.env) :: starEach [e2] X.env := by rfl) (hs2 : starEach [e2] X.env = (false, eval e2 X.env) :: starEach [] X.env := by rfl)
    (hpl : (backTo pos (starEach [e2] X.env)).any (·.1) = false := by rfl) : PI X (.Tuple elts kk tpos) (.Call (.Name "zip" p) [e, e2] [] pos) (tI X.kw X.mg W (cZip2 f g)) :=
  PI.weak (RZ.pi_zipA hg hm (a_cons ha (a_cons hb a_nil hs2) hs) hs hpl) fun σ H Q hh => tG1 (k := zip2R) (RA := RL X.kw) hh fun x S μ H v ok rx hh => by
    unfold zip2R at hh
    split at hh
    · cases rx with
      | cons r1 rx =>
        cases rx with
        | cons r2 rx =>
          cases rx
          cases r1 with
          | tup h1 l1 q1 =>
            cases r2 with
            | tup h2 l2 q2 => exact ⟨_, _, _, _, rfl, .inr ⟨h1, h2, hh μ H _ (Ext.refl _ _) ok (wlk_zip2 h1 h2 q1 q2)⟩⟩
    · exact hh.elim
end
end DL

namespace DL
open PySem PySem.Spec PyProof.Rows L2
/-! ### xs[::-1] of a list -/
def oRev : O1 := fun x S => match listOf S x with
  | some xs => some (.loc S.length, S ++ [.lst xs.reverse])
  | none => none
section
variable {X : Cx} {W : WX} {e : Expr} {f : DE} {k : Nat} {p1 p2 p3 pos : Pos}
theorem e_revL (he : PE X e (tE X.kw X.mg W f)) : PE X (.Subscript e (.Slice none none (some (.UnaryOp .USub (.Constant (.int 1) k p1) p2)) p3) pos) (tE X.kw X.mg W (cUn oRev f)) :=
  PE.weak (pe_revL he) fun σ H Q hh => tG1 (RA := R X.kw) hh fun x S μ H v ok rx hh => by
    unfold oRev at hh
    cases q : listOf S x with
    | none => rw [q] at hh; exact hh.of.elim
    | some xs =>
      rw [q] at hh
      obtain ⟨p, vs, rfl, hs, hl, rr⟩ := listOf_ok ok rx q
      exact ⟨p, vs, rfl, hs, fun a ha => PV.lst hh.of ok (by rw [List.length_reverse]; exact hl) rr.reverse a ha⟩
/-- a, b, c = e1, e2, e3 -/
def sPar3 (i j l : Nat) (fa : DA) : DS := fun σ S => match fa σ S with
  | .ok [u, v, w] S1 => .nx (((σ.set i (some u)).set j (some v)).set l (some w)) S1
  | .ex e S1 => .ex e σ S1
  | _ => .no
end
end DL

/-! DLK: dicts whose keys are tuples. -/
namespace DL
open PySem PySem.Spec PyProof.Rows L2
mutual
theorem nk_eqv : ∀ (x y : D) (a b : NestedKey), nkO x = some a → nkO y = some b → D.eqv x y = NestedKey.beq a b
  | .non, y, _, b, h, h' => by
    cases h
    cases y with
    | tup ys =>
      simp only [nkO, Option.map_eq_some_iff] at h'
      obtain ⟨ls, _, rfl⟩ := h'
      rfl
    | rol _ => simp [nkO] at h'
    | loc _ => simp [nkO] at h'
    | non => cases h'; rfl
    | bl e => cases h'; rfl
    | int e => cases h'; rfl
    | str e => cases h'; rfl
  | .bl c, y, _, b, h, h' => by
    cases h
    cases y with
    | tup ys =>
      simp only [nkO, Option.map_eq_some_iff] at h'
      obtain ⟨ls, _, rfl⟩ := h'
      rfl
    | rol _ => simp [nkO] at h'
    | loc _ => simp [nkO] at h'
    | non => cases h'; rfl
    | bl e => cases h'; first | rfl | (cases c <;> cases e <;> rfl)
    | int e => cases h'; rfl
    | str e => cases h'; rfl
  | .int c, y, _, b, h, h' => by
    cases h
    cases y with
    | tup ys =>
      simp only [nkO, Option.map_eq_some_iff] at h'
      obtain ⟨ls, _, rfl⟩ := h'
      rfl
    | rol _ => simp [nkO] at h'
    | loc _ => simp [nkO] at h'
    | non => cases h'; rfl
    | bl e => cases h'; rfl
    | int e => cases h'; rfl
    | str e => cases h'; rfl
  | .str c, y, _, b, h, h' => by
    cases h
    cases y with
    | tup ys =>
      simp only [nkO, Option.map_eq_some_iff] at h'
      obtain ⟨ls, _, rfl⟩ := h'
      rfl
    | rol _ => simp [nkO] at h'
    | loc _ => simp [nkO] at h'
    | non => cases h'; rfl
    | bl e => cases h'; rfl
    | int e => cases h'; rfl
    | str e => cases h'; rfl
  | .tup xs, y, _, b, h, h' => by
    simp only [nkO, Option.map_eq_some_iff] at h
    obtain ⟨ks, hk, rfl⟩ := h
    cases y with
    | tup ys =>
      simp only [nkO, Option.map_eq_some_iff] at h'
      obtain ⟨ls, hl, rfl⟩ := h'
      simp only [D.eqv, NestedKey.beq]
      exact nk_eqvL xs ys ks ls hk hl
    | _ => simp [nkO] at h' <;> (try subst h') <;> simp [D.eqv, NestedKey.beq]
  | .rol _, _, _, _, h, _ => by simp [nkO] at h
  | .loc _, _, _, _, h, _ => by simp [nkO] at h
termination_by x _ _ _ => sizeOf x
theorem nk_eqvL : ∀ (xs ys : List D) (as bs : List NestedKey), nkL xs = some as → nkL ys = some bs → D.eqvL xs ys = NestedKey.beqAll as bs
  | [], [], _, _, h, h' => by cases h; cases h'; rfl
  | [], y :: ys, _, bs, h, h' => by
    cases h
    simp only [nkL] at h'
    split at h' <;> cases h'
    rfl
  | x :: xs, [], as, _, h, h' => by
    cases h'
    simp only [nkL] at h
    split at h <;> cases h
    rfl
  | x :: xs, y :: ys, as, bs, h, h' => by
    simp only [nkL] at h h'
    split at h <;> cases h
    rename_i a as e1 e2
    split at h' <;> cases h'
    rename_i b bs e3 e4
    simp only [D.eqvL, NestedKey.beqAll]
    rw [nk_eqv x y a b e1 e3, nk_eqvL xs ys as bs e2 e4]
termination_by x _ _ _ => sizeOf x
end
section
variable {X : Cx} {pins : List (Addr × Obj)} {σ : L2.St} {H : Hp} {s : Shared} {μ : List Addr}
mutual
theorem R.nested (I : Inv X pins σ H s) : ∀ {x : D} {v : V} {u : Value} {k : NestedKey}, R X.kw μ H x v → RelV v u → nkO x = some k → NestedIs s.heap k u
  | _, _, _, _, .non, rv, h => by cases h; cases rv; exact .none
  | _, _, _, _, .bl b, rv, h => by cases h; cases rv; exact .bool rfl
  | _, _, _, _, .int i, rv, h => by cases h; obtain ⟨t, rfl⟩ := rv; exact .int i t
  | _, _, _, _, .str x, rv, h => by cases h; obtain ⟨t, rfl⟩ := rv; exact .text x t
  | _, _, _, _, .tup (xs := xs) hs l rr, rv, h => by
    cases rv
    simp only [nkO] at h
    cases q : nkL xs with
    | none => rw [q] at h; cases h
    | some ks =>
      rw [q] at h; cases h
      obtain ⟨its, vv, ⟨o, ho, hc, n, hd⟩, _⟩ := I.tuple hs
      exact .tup ho hc hd (RL.nested I rr vv q)
  | _, _, _, _, .rol _ _ _, _, h => by cases h
  | _, _, _, _, .loc _, _, h => by cases h
theorem RL.nested (I : Inv X pins σ H s) : ∀ {xs : List D} {vs : List V} {us : List Value} {ks : List NestedKey}, RL X.kw μ H xs vs → Vals vs us → nkL xs = some ks → NestedAll s.heap ks us
  | _, _, _, _, .nil, .nil, h => by cases h; exact .nil
  | _, _, _, _, .cons (x := x) (xs := xs) r t, .cons rv tv, h => by
    simp only [nkL] at h
    cases q1 : nkO x with
    | none => rw [q1] at h; cases h
    | some k =>
      cases q2 : nkL xs with
      | none => rw [q1, q2] at h; cases h
      | some ks =>
        rw [q1, q2] at h; cases h
        exact .cons (R.nested I r rv q1) (RL.nested I t tv q2)
end
theorem KR.is (I : Inv X pins σ H s) : ∀ {kvs : List (D × D)} {xs : List (NestedKey × Addr × Value)}, KR X.kw μ H kvs xs → ∀ x ∈ xs, (nestedKind X.prog X.w).is s.heap x.1 x.2.1
  | _, _, .nil, _, h => by cases h
  | _, _, .cons hk hd r _ _ t, x, h => by
    rcases List.mem_cons.mp h with rfl | h
    · exact ⟨R.nested I r rfl hk, hd⟩
    · exact KR.is I t x h
theorem KR.dict (I : Inv X pins σ H s) {a : Addr} {kvs : List (D × D)} {xs : List (NestedKey × Addr × Value)} (hH : H a = some (dctO X.w a xs)) (nd : (xs.map (·.1)).Nodup) (r : KR X.kw μ H kvs xs) : s.heap.DictOfH (nestedKind X.prog X.w) a xs := by
  obtain ⟨⟨o, es, ep, h1, h2, h3, h4⟩, _⟩ := I.hok _ _ hH
  exact ⟨o, es, ep, h1, h2, h3, h4, KR.is I r, nd⟩
/-- what stands at a key -/
def findD (kvs : List (D × D)) (k : D) : Option D := match kvs with
  | [] => none
  | p :: r => if D.eqv p.1 k = true then some p.2 else findD r k
theorem KR.get {K : KW} {k : D} {nk : NestedKey} (hk : nkO k = some nk) : ∀ {kvs : List (D × D)} {xs : List (NestedKey × Addr × Value)}, KR K μ H kvs xs →
    (findD kvs k = none ∧ atKey xs nk = none) ∨ ∃ d v u b, findD kvs k = some d ∧ atKey xs nk = some (b, u) ∧ RelV v u ∧ R K μ H d v
  | _, _, .nil => .inl ⟨rfl, rfl⟩
  | _, _, .cons (ds := ds) (nk := nk') (b := b) (d := d) (v := v) (u := u) h1 _ _ r rv t => by
    by_cases e : nk' = nk
    · subst e
      refine .inr ⟨d, v, u, b, ?_, ?_, rv, r⟩
      · rw [findD, if_pos (by rw [nk_eqv _ _ _ _ h1 hk]; exact NestedKey.beq_self _)]
      · simp [atKey]
    · have e1 : ¬ D.eqv (.tup ds) k = true := by
        rw [nk_eqv _ _ _ _ h1 hk]
        exact fun z => e (NestedKey.eq_of_beq _ _ z)
      rw [findD, if_neg e1]
      have e2 : ∀ xs, atKey ((nk', b, u) :: xs) nk = atKey xs nk := fun xs => by simp [atKey, List.find?_cons, e]
      rw [e2]
      exact KR.get hk t
/-- a value is put at a key -/
def putD (kvs : List (D × D)) (k d : D) : List (D × D) := if (findD kvs k).isSome = true then kvs.map fun p => if D.eqv p.1 k = true then (p.1, d) else p else kvs ++ [(k, d)]
theorem KR.append {K : KW} : ∀ {kvs ls : List (D × D)} {xs ys : List (NestedKey × Addr × Value)}, KR K μ H kvs xs → KR K μ H ls ys → KR K μ H (kvs ++ ls) (xs ++ ys)
  | _, _, _, _, .nil, h => h
  | _, _, _, _, .cons a b c d e t, h => .cons a b c d e (KR.append t h)
theorem KR.puts {K : KW} {k d : D} {nk : NestedKey} {v : V} {u : Value} (hk : nkO k = some nk) (r : R K μ H d v) (rv : RelV v u) : ∀ {kvs : List (D × D)} {xs : List (NestedKey × Addr × Value)}, KR K μ H kvs xs →
    KR K μ H (kvs.map fun p => if D.eqv p.1 k = true then (p.1, d) else p) (xs.map (putAt nk u))
  | _, _, .nil => .nil
  | _, _, .cons (ds := ds) (nk := nk') h1 h2 h3 h4 h5 t => by
    have e0 : D.eqv (.tup ds) k = decide (nk' = nk) := by
      rw [nk_eqv _ _ _ _ h1 hk]
      by_cases e : nk' = nk
      · subst e; rw [NestedKey.beq_self]; simp
      · rw [decide_eq_false e]
        cases z : NestedKey.beq nk' nk with
        | false => rfl
        | true => exact absurd (NestedKey.eq_of_beq _ _ z) e
    rw [List.map_cons, List.map_cons]
    by_cases e : nk' = nk
    · rw [if_pos (by rw [e0]; exact decide_eq_true e)]
      rw [show putAt nk u (nk', _, _) = (nk', _, u) from if_pos e]
      exact .cons h1 h2 h3 r rv (KR.puts hk r rv t)
    · rw [if_neg (by rw [e0, decide_eq_false e]; decide)]
      rw [show putAt nk u (nk', _, _) = (nk', _, _) from if_neg e]
      exact .cons h1 h2 h3 h4 h5 (KR.puts hk r rv t)
theorem KR.put {K : KW} {ds : List D} {d : D} {nk : NestedKey} {b : Addr} {v : V} {u : Value} (hk : nkO (.tup ds) = some nk) (hd : nk.depth ≤ 8) (rk : R K μ H (.tup ds) (.ref b)) (r : R K μ H d v) (rv : RelV v u) {kvs : List (D × D)} {xs : List (NestedKey × Addr × Value)}
    (t : KR K μ H kvs xs) : KR K μ H (putD kvs (.tup ds) d) (storedH xs nk b u) := by
  rcases KR.get hk t with ⟨e1, e2⟩ | ⟨d0, v0, u0, b0, e1, e2, _⟩
  · rw [storedH_new e2, putD, e1, if_neg (by simp)]
    exact t.append (.cons hk hd rk r rv .nil)
  · rw [storedH_old e2, putD, e1, if_pos (by simp)]
    exact KR.puts hk r rv t
/-- may be a key -/
def keyD (k : D) : Bool := match k with
  | .tup ds => match nkO (.tup ds) with
    | some nk => decide (nk.depth ≤ 8)
    | none => false
  | _ => false
theorem keyD_is {k : D} (h : keyD k = true) : ∃ ds nk, k = .tup ds ∧ nkO k = some nk ∧ nk.depth ≤ 8 := by
  unfold keyD at h
  split at h
  · rename_i ds
    split at h
    · rename_i nk e
      exact ⟨ds, nk, rfl, e, of_decide_eq_true h⟩
    · cases h
  · cases h
theorem R.key (I : Inv X pins σ H s) {k : D} {v : V} {u : Value} (h : keyD k = true) (r : R X.kw μ H k v) (rv : RelV v u) : ∃ nk a, nkO k = some nk ∧ v = .ref a ∧ u = .ref a ∧ (nestedKind X.prog X.w).is s.heap nk a := by
  obtain ⟨ds, nk, rfl, e, hd⟩ := keyD_is h
  cases r with
  | tup hs hl rr =>
    cases rv
    exact ⟨nk, _, e, rfl, rfl, R.nested I (.tup hs hl rr) rfl e, hd⟩
/-- the dict at l -/
def dctAt (S : Store) (x : D) : Option (List (D × D)) := match x with
  | .loc l => match S[l]? with
    | some (.dct kvs) => some kvs
    | _ => none
  | _ => none
theorem dctAt_is {S : Store} (ok : Ok X.kw μ H S) {x : D} {v : V} {kvs : List (D × D)} (r : R X.kw μ H x v) (h : dctAt S x = some kvs) : ∃ l a, x = .loc l ∧ v = .ref a ∧ μ[l]? = some a ∧ S[l]? = some (.dct kvs) ∧
    ∃ xs, H a = some (dctO X.w a xs) ∧ (a == sysModules) = false ∧ xs.length ≤ sizeLine ∧ (xs.map (·.1)).Nodup ∧ KR X.kw μ H kvs xs := by
  unfold dctAt at h
  split at h
  · rename_i l
    cases r with
    | loc hl =>
      split at h
      · rename_i q
        cases h
        obtain ⟨a', h1, hc⟩ := ok.at q
        rw [hl] at h1; cases h1
        exact ⟨l, _, rfl, rfl, hl, q, hc⟩
      · cases h
  · cases h
def oInX : O2 := fun x y S => match dctAt S y with
  | some kvs => if keyD x = true then some (.bl (findD kvs x).isSome, S) else none
  | none => oIn x y S
def oNotInX : O2 := fun x y S => match dctAt S y with
  | some kvs => if keyD x = true then some (.bl (!(findD kvs x).isSome), S) else none
  | none => oNotIn x y S
theorem KR.some_eq {k : D} {nk : NestedKey} (hk : nkO k = some nk) {kvs : List (D × D)} {xs : List (NestedKey × Addr × Value)} {K : KW} (t : KR K μ H kvs xs) : (atKey xs nk).isSome = (findD kvs k).isSome := by
  rcases KR.get hk t with ⟨e1, e2⟩ | ⟨d, v, u, b, e1, e2, _⟩ <;> rw [e1, e2] <;> rfl
theorem d_inX (hu : X.A.units + 64 < cLine) : OpR X (compareOp .In) (r2 X.kw oInX) := by
  intro pins s σ H x y v u Q I rx ry hr
  obtain ⟨μ, S, a, b, ok, ra, rb, hp⟩ := hr
  unfold oInX at hp
  cases q : dctAt S b with
  | none =>
    rw [q] at hp
    exact d_in hu pins s σ H x y v u Q I rx ry ⟨μ, S, a, b, ok, ra, rb, hp⟩
  | some kvs =>
    rw [q] at hp
    simp only at hp
    split at hp
    · rename_i hk
      obtain ⟨l, ad, rfl, rfl, hl, hS, xs, hH, hsys, hz, nd, t⟩ := dctAt_is ok rb q
      obtain ⟨nk, ka, hn, rfl, rfl, his⟩ := ra.key I hk rx
      cases ry
      refine wpAny_in_heap (knd := nestedKind X.prog X.w) (by show X.A.units + 1 + 8 < cLine; omega) his hsys (t.dict I hH nd) ?_
      rw [KR.some_eq hn t]
      exact ⟨.bl _, H, I.tok _, rfl, hp.same ok (.bl _)⟩
    · exact hp.elim
theorem d_notinX (hu : X.A.units + 64 < cLine) : OpR X (compareOp .NotIn) (r2 X.kw oNotInX) := by
  intro pins s σ H x y v u Q I rx ry hr
  obtain ⟨μ, S, a, b, ok, ra, rb, hp⟩ := hr
  unfold oNotInX at hp
  cases q : dctAt S b with
  | none =>
    rw [q] at hp
    exact d_notin hu pins s σ H x y v u Q I rx ry ⟨μ, S, a, b, ok, ra, rb, hp⟩
  | some kvs =>
    rw [q] at hp
    simp only at hp
    split at hp
    · rename_i hk
      obtain ⟨l, ad, rfl, rfl, hl, hS, xs, hH, hsys, hz, nd, t⟩ := dctAt_is ok rb q
      obtain ⟨nk, ka, hn, rfl, rfl, his⟩ := ra.key I hk rx
      cases ry
      refine wpAny_notIn_heap (knd := nestedKind X.prog X.w) (by show X.A.units + 1 + 8 < cLine; omega) his hsys (t.dict I hH nd) ?_
      rw [KR.some_eq hn t]
      exact ⟨.bl _, H, I.tok _, rfl, hp.same ok (.bl _)⟩
    · exact hp.elim
end
end DL

/-! DLN: zip of three tuples, its triples held by ONE name. -/
namespace DL
open PySem PySem.Spec PyProof.Rows L2
/-- a zip at z: its first field none, or the number of a tuple that was given out -/
abbrev ZAt (u : Value) (f : Bool) (h : Heap) (z TI TO : Addr) : Prop := h.get? z = some { cls := .type "zip", dict := none, data := .fields #[u, .bool f, .bool false, .ref TI, .ref TO], slots := #[] }
def ZF (u : Value) : Prop := u = .none ∨ ∃ T : Nat, u = rawInt T
section
variable {prog : Program} {w : World} {A : Around} {E : Value → Shared → Prop} {s : Shared} {z TI TO i1 i2 i3 a b c : Addr} {u : Value} {f : Bool}
theorem zfree {Q : Bool → Shared → Prop} (hz : ZAt u f s.heap z TI TO) (hu : ZF u) (h1 : Q true s) (h2 : ∀ h', ZAt u true h' z TI TO → Heap.SameBut z s.heap h' → Q false { s with heap := h' }) :
    wpAny (model prog w) A (Builtin.SmallTypes.ownedTupleIsFree (.ref z)) Q E s := by
  rcases hu with rfl | ⟨T, rfl⟩
  · unfold Builtin.SmallTypes.ownedTupleIsFree
    exact wpAny_bind (wpAny_field hz rfl (x := Value.none) rfl (wpAny_pure h1))
  · cases q : s.heap.get? T with
    | some o => exact wpAny_tupleHeld_zip (T := T) hz q h2
    | none =>
      unfold Builtin.SmallTypes.ownedTupleIsFree
      refine wpAny_bind (wpAny_field (x := rawInt T) hz rfl rfl ?_)
      show wpAny _ _ (loadIfAlive ((T : Int).toNat) >>= _) _ _ _
      rw [Int.toNat_natCast]
      refine wpAny_bind ?_
      exact fun _ _ _ => by
        show (fun o s' => wpAny (model prog w) A _ _ _ s') (s.heap.get? T) s
        rw [q]
        exact wpAny_pure h1
variable {fp1 fp2 fp3 : List Addr} {n1 n2 n3 i : Nat} {P1 P2 P3 : Nat → Value → Prop} {J1 J2 J3 : Nat → Heap → Prop}
/-- what next leaves -/
def ZNew (z TI TO i1 i2 i3 : Addr) (P1 P2 P3 : Nat → Value → Prop) (J1 J2 J3 : Nat → Heap → Prop) (i : Nat) (h h' : Heap) : Prop :=
  ∃ x1 x2 x3 u f, P1 i x1 ∧ P2 i x2 ∧ P3 i x3 ∧ ZF u ∧ ZAt u f h' z TI TO ∧ (∃ b1 b2 b3, IsTupOf3 h' TO b1 b2 b3) ∧ J1 (i + 1) h' ∧ J2 (i + 1) h' ∧ J3 (i + 1) h' ∧ IsTupOf3 h' h.objs.size x1 x2 x3 ∧
    ∀ c o, c ≠ z → c ≠ TO → c ≠ i1 → c ≠ i2 → c ≠ i3 → h.get? c = some o → h'.get? c = some o
theorem zn_item {Q : Value → Shared → Prop} (S : ZipSep3 z TI TO i1 i2 i3 fp1 fp2 fp3) (D1 : Draws prog w A i1 fp1 n1 P1 J1) (D2 : Draws prog w A i2 fp2 n2 P2 J2) (D3 : Draws prog w A i3 fp3 n3 P3 J3)
    (hz : ZAt u f s.heap z TI TO) (hu : ZF u) (hTI : IsTupOf3 s.heap TI (.ref i1) (.ref i2) (.ref i3)) {a1 a2 a3 : Value} (hTO : IsTupOf3 s.heap TO a1 a2 a3) (j1 : J1 i s.heap) (j2 : J2 i s.heap) (j3 : J3 i s.heap) (l1 : i < n1) (l2 : i < n2) (l3 : i < n3)
    (hQ : ∀ h' tk, ZNew z TI TO i1 i2 i3 P1 P2 P3 J1 J2 J3 i s.heap h' → Q (.ref s.heap.objs.size) { s with heap := h', toks := tk }) :
    wpAny (model prog w) A (Builtin.«zip.__next__» ⟨[.ref z], []⟩) (fun r t => ∃ v, r = .done (.ret v) ∧ Q v t) E s := by
  obtain ⟨hp, gg, dd, t0, os⟩ := s
  show wpAny _ _ (field (.ref z) 2 >>= _) _ _ _
  refine wpAny_bind (wpAny_field (x := .bool false) hz rfl rfl ?_)
  show wpAny _ _ (field (.ref z) 3 >>= _) _ _ _
  refine wpAny_bind (wpAny_field (x := .ref TI) hz rfl rfl (wpAny_bind (wpAny_seqItems hTI rfl ?_)))
  show wpAny _ _ (Builtin.SmallTypes.ownedTupleIsFree (.ref z) >>= _) _ _ _
  refine wpAny_bind (zfree hz hu ?_ fun y0 z0 s0 => ?_)
  · simp only [if_true]
    refine wpAny_bind (wpAny_rule (wpAny_bind (wpAny_field (x := .ref TO) hz rfl rfl ?_)))
    refine wpAny_bind (wpAny_setField_rec hz (by simp) fun y0 z0 s0 => wpAny_bind ?_)
    have z0' : ZAt .ellipsis f y0 z TI TO := z0
    have s0' : Heap.SameBut z hp y0 := s0
    clear z0 s0
    simp only [List.zipIdx_cons, List.zipIdx_nil, List.forIn_cons, List.forIn_nil]
    refine wpAny_bind (wpAny_bind (wpAny_onRaise ?_))
    show wpAny _ _ (Builtin.SmallTypes.nextOf (.ref i1) >>= _) _ _ ⟨y0, gg, dd, t0, os⟩
    refine wpAny_bind (D1.item i _ _ _ l1 (D1.over j1 s0' S.zf1) fun x1 q1 u1 p1 m1 k1 => wpAny_pure ?_)
    have k1' : Heap.SameBut i1 y0 q1 := k1
    clear k1
    have o1 : IsTupOf3 q1 TO a1 a2 a3 := k1'.extBut _ _ S.Ti1 (s0'.extBut _ _ S.TOz hTO)
    refine wpAny_bind (wpAny_seqItems (s := ⟨q1, gg, dd, u1, os⟩) o1 rfl (wpAny_bind (updateSeq_IsTupOf3 (s := ⟨q1, gg, dd, u1, os⟩) o1 fun y1 r1 e1 => ?_)))
    have r1' : IsTupOf3 y1 TO x1 a2 a3 := r1
    have e1' : Heap.SameBut TO q1 y1 := e1
    clear r1 e1
    refine wpAny_bind (wpAny_letGo (wpAny_pure (wpAny_bind (wpAny_bind (wpAny_onRaise ?_)))))
    show wpAny _ _ (Builtin.SmallTypes.nextOf (.ref i2) >>= _) _ _ ⟨y1, gg, dd, u1, os⟩
    refine wpAny_bind (D2.item i _ _ _ l2 (D2.over (D2.over (D2.over j2 s0' S.zf2) k1' S.sep1_2) e1' S.Tf2) fun x2 q2 u2 p2 m2 k2 => wpAny_pure ?_)
    have k2' : Heap.SameBut i2 y1 q2 := k2
    clear k2
    have o2 : IsTupOf3 q2 TO x1 a2 a3 := k2'.extBut _ _ S.Ti2 r1'
    refine wpAny_bind (wpAny_seqItems (s := ⟨q2, gg, dd, u2, os⟩) o2 rfl (wpAny_bind (updateSeq_IsTupOf3 (s := ⟨q2, gg, dd, u2, os⟩) o2 fun y2 r2 e2 => ?_)))
    have r2' : IsTupOf3 y2 TO x1 x2 a3 := r2
    have e2' : Heap.SameBut TO q2 y2 := e2
    clear r2 e2
    refine wpAny_bind (wpAny_letGo (wpAny_pure (wpAny_bind (wpAny_bind (wpAny_onRaise ?_)))))
    show wpAny _ _ (Builtin.SmallTypes.nextOf (.ref i3) >>= _) _ _ ⟨y2, gg, dd, u2, os⟩
    refine wpAny_bind (D3.item i _ _ _ l3 (D3.over (D3.over (D3.over (D3.over (D3.over j3 s0' S.zf3) k1' S.sep1_3) e1' S.Tf3) k2' S.sep2_3) e2' S.Tf3) fun x3 q3 u3 p3 m3 k3 => wpAny_pure ?_)
    have k3' : Heap.SameBut i3 y2 q3 := k3
    clear k3
    have o3 : IsTupOf3 q3 TO x1 x2 a3 := k3'.extBut _ _ S.Ti3 r2'
    refine wpAny_bind (wpAny_seqItems (s := ⟨q3, gg, dd, u3, os⟩) o3 rfl (wpAny_bind (updateSeq_IsTupOf3 (s := ⟨q3, gg, dd, u3, os⟩) o3 fun y3 r3 e3 => ?_)))
    have r3' : IsTupOf3 y3 TO x1 x2 x3 := r3
    have e3' : Heap.SameBut TO q3 y3 := e3
    clear r3 e3
    refine wpAny_bind (wpAny_letGo (wpAny_pure (wpAny_pure (wpAny_bind (wpAny_seqItems (s := ⟨y3, gg, dd, u3, os⟩) r3' rfl (wpAny_bind (wpAny_newTuple ?_)))))))
    have sz : y3.objs.size = hp.objs.size := by rw [e3'.1, k3'.1, e2'.1, k2'.1, e1'.1, k1'.1, s0'.1]
    have zz : ZAt .ellipsis f y3 z TI TO := e3'.extBut _ _ S.TOz.symm (k3'.extBut _ _ S.zi3 (e2'.extBut _ _ S.TOz.symm (k2'.extBut _ _ S.zi2 (e1'.extBut _ _ S.TOz.symm (k1'.extBut _ _ S.zi1 z0')))))
    have kk : ∀ c o, c ≠ z → c ≠ TO → c ≠ i1 → c ≠ i2 → c ≠ i3 → hp.get? c = some o → y3.get? c = some o := fun c o g0 g1 g2 g3 g4 e =>
      e3'.extBut _ _ g1 (k3'.extBut _ _ g4 (e2'.extBut _ _ g1 (k2'.extBut _ _ g3 (e1'.extBut _ _ g1 (k1'.extBut _ _ g2 (s0'.extBut _ _ g0 e))))))
    have m1' : J1 (i + 1) y3 := D1.over (D1.over (D1.over (D1.over (D1.over m1 e1' S.Tf1) k2' S.sep2_1) e2' S.Tf1) k3' S.sep3_1) e3' S.Tf1
    have m2' : J2 (i + 1) y3 := D2.over (D2.over (D2.over m2 e2' S.Tf2) k3' S.sep3_2) e3' S.Tf2
    have m3' : J3 (i + 1) y3 := D3.over m3 e3' S.Tf3
    have zl : z < y3.objs.size := Heap.lt_size zz
    show wpAny _ _ (Builtin.SmallTypes.ownedTupleHandOut (.ref z) (.ref y3.objs.size) >>= _) _ _ ⟨y3.push { cls := .type "tuple", data := .seq #[x1, x2, x3] }, gg, dd, u3, os⟩
    refine wpAny_bind ?_
    unfold Builtin.SmallTypes.ownedTupleHandOut
    have z4 : ZAt .ellipsis f (y3.push { cls := .type "tuple", data := .seq #[x1, x2, x3] }) z TI TO := Heap.get?_push_of_some _ zz
    refine wpAny_bind (wpAny_setField_rec z4 (by simp) fun y5 z5 s5 => ?_)
    have z5' : ZAt (rawInt y3.objs.size) f y5 z TI TO := z5
    refine wpAny_setField_rec z5' (by simp) fun y6 z6 s6 => wpAny_pure ⟨_, rfl, ?_⟩
    have z6' : ZAt (rawInt y3.objs.size) false y6 z TI TO := z6
    have s5' : Heap.SameBut z (y3.push { cls := .type "tuple", data := .seq #[x1, x2, x3] }) y5 := s5
    have s6' : Heap.SameBut z y5 y6 := s6
    have up : ∀ c o, c ≠ z → y3.get? c = some o → y6.get? c = some o := fun c o g e => s6'.extBut _ _ g (s5'.extBut _ _ g (Heap.get?_push_of_some _ e))
    have tt : IsTupOf3 y6 y3.objs.size x1 x2 x3 := s6'.extBut _ _ (Nat.ne_of_gt zl) (s5'.extBut _ _ (Nat.ne_of_gt zl) (Heap.get?_push_size _ rfl))
    show Q (.ref y3.objs.size) ⟨y6, gg, dd, u3, os⟩
    rw [sz] at z6' tt ⊢
    exact hQ y6 u3 ⟨x1, x2, x3, _, _, p1, p2, p3, .inr ⟨_, rfl⟩, z6', ⟨_, _, _, up _ _ S.TOz r3'⟩, D1.frame _ _ _ m1' (fun b hb o e => up b o (fun q => S.zf1 (q ▸ hb)) e), D2.frame _ _ _ m2' (fun b hb o e => up b o (fun q => S.zf2 (q ▸ hb)) e),
      D3.frame _ _ _ m3' (fun b hb o e => up b o (fun q => S.zf3 (q ▸ hb)) e), tt, fun c o g0 g1 g2 g3 g4 e => up c o g0 (kk c o g0 g1 g2 g3 g4 e)⟩
  · simp only [Bool.false_eq_true, if_false]
    have s0' : Heap.SameBut z hp y0 := s0
    refine wpAny_bind ?_
    rw [← Array.forIn_toList]
    simp only [List.forIn_cons, List.forIn_nil]
    refine wpAny_bind (wpAny_bind (wpAny_holding ?_))
    show wpAny _ _ (Builtin.SmallTypes.nextOf (.ref i1) >>= _) _ _ ⟨y0, gg, dd, t0, os⟩
    refine wpAny_bind (D1.item i _ _ _ l1 (D1.over j1 s0' S.zf1) fun x1 q1 u1 p1 m1 k1 => wpAny_pure (wpAny_pure (wpAny_bind (wpAny_bind (wpAny_holding ?_)))))
    have k1' : Heap.SameBut i1 y0 q1 := k1
    show wpAny _ _ (Builtin.SmallTypes.nextOf (.ref i2) >>= _) _ _ ⟨q1, gg, dd, u1, os⟩
    refine wpAny_bind (D2.item i _ _ _ l2 (D2.over (D2.over j2 s0' S.zf2) k1' S.sep1_2) fun x2 q2 u2 p2 m2 k2 => wpAny_pure (wpAny_pure (wpAny_bind (wpAny_bind (wpAny_holding ?_)))))
    have k2' : Heap.SameBut i2 q1 q2 := k2
    show wpAny _ _ (Builtin.SmallTypes.nextOf (.ref i3) >>= _) _ _ ⟨q2, gg, dd, u2, os⟩
    refine wpAny_bind (D3.item i _ _ _ l3 (D3.over (D3.over (D3.over j3 s0' S.zf3) k1' S.sep1_3) k2' S.sep2_3) fun x3 q3 u3 p3 m3 k3 => wpAny_pure (wpAny_pure (wpAny_pure ?_)))
    have k3' : Heap.SameBut i3 q2 q3 := k3
    show wpAny _ _ (newTuple [x1, x2, x3] >>= _) _ _ _
    refine wpAny_bind (wpAny_newTuple (wpAny_pure ⟨_, rfl, ?_⟩))
    have sz : q3.objs.size = hp.objs.size := by rw [k3'.1, k2'.1, k1'.1, s0'.1]
    have zz : ZAt u true q3 z TI TO := k3'.extBut _ _ S.zi3 (k2'.extBut _ _ S.zi2 (k1'.extBut _ _ S.zi1 z0))
    have kk : ∀ c o, c ≠ z → c ≠ i1 → c ≠ i2 → c ≠ i3 → hp.get? c = some o → q3.get? c = some o := fun c o g0 g2 g3 g4 e => k3'.extBut _ _ g4 (k2'.extBut _ _ g3 (k1'.extBut _ _ g2 (s0'.extBut _ _ g0 e)))
    have m1' : J1 (i + 1) q3 := D1.over (D1.over m1 k2' S.sep2_1) k3' S.sep3_1
    have m2' : J2 (i + 1) q3 := D2.over m2 k3' S.sep3_2
    have up : ∀ c o, q3.get? c = some o → (q3.push { cls := .type "tuple", data := .seq #[x1, x2, x3] }).get? c = some o := fun c o e => Heap.get?_push_of_some _ e
    have tt : IsTupOf3 (q3.push { cls := .type "tuple", data := .seq #[x1, x2, x3] }) q3.objs.size x1 x2 x3 := Heap.get?_push_size _ rfl
    show Q (.ref q3.objs.size) ⟨q3.push _, gg, dd, u3, os⟩
    rw [sz] at tt ⊢
    exact hQ _ u3 ⟨x1, x2, x3, _, _, p1, p2, p3, hu, up _ _ zz, ⟨_, _, _, up _ _ (kk _ _ S.TOz S.Ti1 S.Ti2 S.Ti3 hTO)⟩, D1.frame _ _ _ m1' (fun b _ o e => up b o e), D2.frame _ _ _ m2' (fun b _ o e => up b o e),
      D3.frame _ _ _ m3 (fun b _ o e => up b o e), tt, fun c o g0 _ g2 g3 g4 e => up c o (kk c o g0 g2 g3 g4 e)⟩
theorem zn_end {Q : Fin → Shared → Prop} (S : ZipSep3 z TI TO i1 i2 i3 fp1 fp2 fp3) (D1 : Draws prog w A i1 fp1 n1 P1 J1) (D2 : Draws prog w A i2 fp2 n2 P2 J2) (D3 : Draws prog w A i3 fp3 n3 P3 J3)
    (hz : ZAt u f s.heap z TI TO) (hu : ZF u) (hTI : IsTupOf3 s.heap TI (.ref i1) (.ref i2) (.ref i3)) {a1 a2 a3 : Value} (hTO : IsTupOf3 s.heap TO a1 a2 a3) (j1 : J1 i s.heap) (j2 : J2 i s.heap) (j3 : J3 i s.heap) (l1 : i ≤ n1) (l2 : i ≤ n2) (l3 : i ≤ n3) (le : i = n1 ∨ i = n2 ∨ i = n3)
    (hE : ∀ h' tk e, (∀ c o, c ≠ z → c ≠ TO → c ≠ i1 → c ≠ i2 → c ≠ i3 → s.heap.get? c = some o → h'.get? c = some o) → (∃ o, h'.get? e = some o ∧ o.cls = .type "StopIteration") → E (.ref e) { s with heap := h', toks := tk }) :
    wpAny (model prog w) A (Builtin.«zip.__next__» ⟨[.ref z], []⟩) Q E s := by
  obtain ⟨hp, gg, dd, t0, os⟩ := s
  show wpAny _ _ (field (.ref z) 2 >>= _) _ _ _
  refine wpAny_bind (wpAny_field (x := .bool false) hz rfl rfl ?_)
  show wpAny _ _ (field (.ref z) 3 >>= _) _ _ _
  refine wpAny_bind (wpAny_field (x := .ref TI) hz rfl rfl (wpAny_bind (wpAny_seqItems hTI rfl ?_)))
  show wpAny _ _ (Builtin.SmallTypes.ownedTupleIsFree (.ref z) >>= _) _ _ _
  refine wpAny_bind (zfree hz hu ?_ fun y0 z0 s0 => ?_)
  · simp only [if_true]
    refine wpAny_bind (wpAny_rule (wpAny_bind (wpAny_field (x := .ref TO) hz rfl rfl ?_)))
    refine wpAny_bind (wpAny_setField_rec hz (by simp) fun y0 z0 s0 => wpAny_bind ?_)
    have z0' : ZAt .ellipsis f y0 z TI TO := z0
    have s0' : Heap.SameBut z hp y0 := s0
    clear z0 s0
    -- what a draw that ends leaves
    have fin : ∀ (q q' : Heap) (tk : Nat) (e : Addr) (I : Addr), (∀ c o, c ≠ z → c ≠ TO → c ≠ i1 → c ≠ i2 → c ≠ i3 → hp.get? c = some o → q.get? c = some o) → (I = i1 ∨ I = i2 ∨ I = i3) → ZAt .ellipsis f q z TI TO → z ≠ I → Heap.ExtBut I q q' → (∃ o, q'.get? e = some o ∧ o.cls = .type "StopIteration") →
        wpAny (model prog w) A (setField (.ref z) 0 .none) (fun _ s'' => E (.ref e) s'') E ⟨q', gg, dd, tk, os⟩ := fun q q' tk e I kq hI zq nI ex ⟨oe, he, hc⟩ => by
      have zq' : ZAt .ellipsis f q' z TI TO := ex _ _ nI zq
      have nez : e ≠ z := fun x => by subst x; rw [zq'] at he; cases he; simp at hc
      refine wpAny_setField_rec (s := ⟨q', gg, dd, tk, os⟩) zq' (by simp) fun q2 _ k2 => ?_
      have k2' : Heap.SameBut z q' q2 := k2
      refine hE q2 tk e (fun c o g0 g1 g2 g3 g4 x => k2'.extBut _ _ g0 (ex _ _ (by rcases hI with h | h | h <;> rw [h] <;> assumption) (kq c o g0 g1 g2 g3 g4 x))) ⟨oe, k2'.extBut _ _ nez he, hc⟩
    simp only [List.zipIdx_cons, List.zipIdx_nil, List.forIn_cons, List.forIn_nil]
    refine wpAny_bind (wpAny_bind (wpAny_onRaise ?_))
    show wpAny _ _ (Builtin.SmallTypes.nextOf (.ref i1) >>= _) _ _ ⟨y0, gg, dd, t0, os⟩
    by_cases b1 : i < n1
    · refine wpAny_bind (D1.item i _ _ _ b1 (D1.over j1 s0' S.zf1) fun x1 q1 u1 p1 m1 k1 => wpAny_pure ?_)
      have k1' : Heap.SameBut i1 y0 q1 := k1
      clear k1
      have o1 : IsTupOf3 q1 TO a1 a2 a3 := k1'.extBut _ _ S.Ti1 (s0'.extBut _ _ S.TOz hTO)
      refine wpAny_bind (wpAny_seqItems (s := ⟨q1, gg, dd, u1, os⟩) o1 rfl (wpAny_bind (updateSeq_IsTupOf3 (s := ⟨q1, gg, dd, u1, os⟩) o1 fun y1 r1 e1 => ?_)))
      have r1' : IsTupOf3 y1 TO x1 a2 a3 := r1
      have e1' : Heap.SameBut TO q1 y1 := e1
      clear r1 e1
      refine wpAny_bind (wpAny_letGo (wpAny_pure (wpAny_bind (wpAny_bind (wpAny_onRaise ?_)))))
      show wpAny _ _ (Builtin.SmallTypes.nextOf (.ref i2) >>= _) _ _ ⟨y1, gg, dd, u1, os⟩
      have st2 : J2 i y1 := D2.over (D2.over (D2.over j2 s0' S.zf2) k1' S.sep1_2) e1' S.Tf2
      have z1 : ZAt .ellipsis f y1 z TI TO := e1'.extBut _ _ S.TOz.symm (k1'.extBut _ _ S.zi1 z0')
      by_cases b2 : i < n2
      · refine wpAny_bind (D2.item i _ _ _ b2 st2 fun x2 q2 u2 p2 m2 k2 => wpAny_pure ?_)
        have k2' : Heap.SameBut i2 y1 q2 := k2
        clear k2
        have o2 : IsTupOf3 q2 TO x1 a2 a3 := k2'.extBut _ _ S.Ti2 r1'
        refine wpAny_bind (wpAny_seqItems (s := ⟨q2, gg, dd, u2, os⟩) o2 rfl (wpAny_bind (updateSeq_IsTupOf3 (s := ⟨q2, gg, dd, u2, os⟩) o2 fun y2 r2 e2 => ?_)))
        have e2' : Heap.SameBut TO q2 y2 := e2
        clear r2 e2
        refine wpAny_bind (wpAny_letGo (wpAny_pure (wpAny_bind (wpAny_bind (wpAny_onRaise ?_)))))
        show wpAny _ _ (Builtin.SmallTypes.nextOf (.ref i3) >>= _) _ _ ⟨y2, gg, dd, u2, os⟩
        have st3 : J3 i y2 := D3.over (D3.over (D3.over (D3.over (D3.over j3 s0' S.zf3) k1' S.sep1_3) e1' S.Tf3) k2' S.sep2_3) e2' S.Tf3
        refine wpAny_bind (D3.done ⟨y2, gg, dd, u2, os⟩ _ _ (by rw [← show i = n3 by omega]; exact st3) fun q e hq he => ?_)
        exact fin y2 q u2 e i3 (fun c o g0 g1 g2 g3 g4 x => e2'.extBut _ _ g1 (k2'.extBut _ _ g3 (e1'.extBut _ _ g1 (k1'.extBut _ _ g2 (s0'.extBut _ _ g0 x))))) (.inr (.inr rfl)) (e2'.extBut _ _ S.TOz.symm (k2'.extBut _ _ S.zi2 z1)) S.zi3 hq he
      · refine wpAny_bind (D2.done ⟨y1, gg, dd, u1, os⟩ _ _ (by rw [← show i = n2 by omega]; exact st2) fun q e hq he => ?_)
        exact fin y1 q u1 e i2 (fun c o g0 g1 g2 g3 g4 x => e1'.extBut _ _ g1 (k1'.extBut _ _ g2 (s0'.extBut _ _ g0 x))) (.inr (.inl rfl)) z1 S.zi2 hq he
    · refine wpAny_bind (D1.done ⟨y0, gg, dd, t0, os⟩ _ _ (by rw [← show i = n1 by omega]; exact D1.over j1 s0' S.zf1) fun q e hq he => ?_)
      exact fin y0 q t0 e i1 (fun c o g0 _ _ _ _ x => s0'.extBut _ _ g0 x) (.inl rfl) z0' S.zi1 hq he
  · simp only [Bool.false_eq_true, if_false]
    have s0' : Heap.SameBut z hp y0 := s0
    refine wpAny_bind ?_
    rw [← Array.forIn_toList]
    simp only [List.forIn_cons, List.forIn_nil]
    refine wpAny_bind (wpAny_bind (wpAny_holding ?_))
    show wpAny _ _ (Builtin.SmallTypes.nextOf (.ref i1) >>= _) _ _ ⟨y0, gg, dd, t0, os⟩
    by_cases b1 : i < n1
    · refine wpAny_bind (D1.item i _ _ _ b1 (D1.over j1 s0' S.zf1) fun x1 q1 u1 p1 m1 k1 => wpAny_pure (wpAny_pure (wpAny_bind (wpAny_bind (wpAny_holding ?_)))))
      have k1' : Heap.SameBut i1 y0 q1 := k1
      have st2 : J2 i q1 := D2.over (D2.over j2 s0' S.zf2) k1' S.sep1_2
      show wpAny _ _ (Builtin.SmallTypes.nextOf (.ref i2) >>= _) _ _ ⟨q1, gg, dd, u1, os⟩
      by_cases b2 : i < n2
      · refine wpAny_bind (D2.item i _ _ _ b2 st2 fun x2 q2 u2 p2 m2 k2 => wpAny_pure (wpAny_pure (wpAny_bind (wpAny_bind (wpAny_holding ?_)))))
        have k2' : Heap.SameBut i2 q1 q2 := k2
        show wpAny _ _ (Builtin.SmallTypes.nextOf (.ref i3) >>= _) _ _ ⟨q2, gg, dd, u2, os⟩
        refine wpAny_bind (D3.done ⟨q2, gg, dd, u2, os⟩ _ _ (by rw [← show i = n3 by omega]; exact D3.over (D3.over (D3.over j3 s0' S.zf3) k1' S.sep1_3) k2' S.sep2_3) fun q e hq he => ?_)
        exact hE q u2 e (fun c o g0 _ g2 g3 g4 x => hq _ _ g4 (k2'.extBut _ _ g3 (k1'.extBut _ _ g2 (s0'.extBut _ _ g0 x)))) he
      · refine wpAny_bind (D2.done ⟨q1, gg, dd, u1, os⟩ _ _ (by rw [← show i = n2 by omega]; exact st2) fun q e hq he => ?_)
        exact hE q u1 e (fun c o g0 _ g2 g3 _ x => hq _ _ g3 (k1'.extBut _ _ g2 (s0'.extBut _ _ g0 x))) he
    · refine wpAny_bind (D1.done ⟨y0, gg, dd, t0, os⟩ _ _ (by rw [← show i = n1 by omega]; exact D1.over j1 s0' S.zf1) fun q e hq he => ?_)
      exact hE q t0 e (fun c o g0 _ g2 _ _ x => hq _ _ g2 (s0'.extBut _ _ g0 x)) he
/-- the triples of three tuples, each held by a name -/
theorem turn_zip3n {P : Program} {w : World} {K : PySem.W.Frag} {nm : Str} {tpos : Pos} {a b c z TI TO i1 i2 i3 : Addr} {xs ys zs : List V} (S : ZipSep3 z TI TO i1 i2 i3 [i1, a] [i2, b] [i3, c]) (ha : a ≠ i1) (hb : b ≠ i2) (hcn : c ≠ i3) :
    Turn P w K (.Name nm tpos) (Itz3 K a b c xs ys zs) [z, TI, TO, i1, i2, i3] z (fun i h => i ≤ (zip3V xs ys zs).length ∧ (∃ u f, ZF u ∧ ZAt u f h z TI TO) ∧ IsTupOf3 h TI (.ref i1) (.ref i2) (.ref i3) ∧ (∃ a1 a2 a3, IsTupOf3 h TO a1 a2 a3) ∧ h.IsTupleIter i1 a i ∧ h.IsTupleIter i2 b i ∧ h.IsTupleIter i3 c i) where
  mem := by simp
  obj := fun i h st d hd => by
    obtain ⟨_, ⟨u, f, _, hz⟩, hTI, ⟨x, y, u', hTO⟩, ⟨o1, e1, _, d1⟩, ⟨o2, e2, _, d2⟩, ⟨o3, e3, _, d3⟩⟩ := st
    simp only [List.mem_cons, List.not_mem_nil, or_false] at hd
    rcases hd with rfl | rfl | rfl | rfl | rfl | rfl
    · exact ⟨_, hz, fun v q => nomatch q⟩
    · exact ⟨_, hTI, fun v q => nomatch q⟩
    · exact ⟨_, hTO, fun v q => nomatch q⟩
    · exact ⟨o1, e1, fun v q => by rw [d1] at q; cases q⟩
    · exact ⟨o2, e2, fun v q => by rw [d2] at q; cases q⟩
    · exact ⟨o3, e3, fun v q => by rw [d3] at q; cases q⟩
  keep := fun i h h' st k => by
    obtain ⟨hle, ⟨u, f, hu, hz⟩, hTI, ⟨x, y, v, hTO⟩, h1, h2, h3⟩ := st
    exact ⟨hle, ⟨u, f, hu, k z (by simp) _ hz⟩, k TI (by simp) _ hTI, ⟨x, y, v, k TO (by simp) _ hTO⟩, h1.at fun o q => k i1 (by simp) o q, h2.at fun o q => k i2 (by simp) o q, h3.at fun o q => k i3 (by simp) o q⟩
  item := by
    intro X hP hw hK hc i pins s σ H E I hf st hg
    subst hP hw hK
    obtain ⟨hle, ⟨u, f, hu, hz⟩, hTI, ⟨b1, b2, b3, hTO⟩, h1, h2, h3⟩ := st
    obtain ⟨hlt, qa, qb, qc⟩ := hg
    obtain ⟨its1, rv1, p1, _⟩ := I.tuple qa
    obtain ⟨its2, rv2, p2, _⟩ := I.tuple qb
    obtain ⟨its3, rv3, p3, _⟩ := I.tuple qc
    have l1 := rv1.length
    have l2 := rv2.length
    have l3 := rv3.length
    rw [zip3V_len] at hlt
    have hT : s.TypeIs (.ref z) "zip" := ⟨_, hz, rfl⟩
    unfold pyNext
    refine wpAny_bind (wpAny_attempt (wpAny_callSpecial?_slot (name := Str.ofString "__next__") hT F.slot_zip_next (wpAny_call_entry F.slot_zip_next hT F.entry_zip_next
      (zn_item S (Draws.tuple (prog := X.prog) (w := X.w) (A := X.A.in1) (I.ok.hd hc) i1 a ha its1.toArray) (Draws.tuple (prog := X.prog) (w := X.w) (A := X.A.in1) (I.ok.hd hc) i2 b hb its2.toArray) (Draws.tuple (prog := X.prog) (w := X.w) (A := X.A.in1) (I.ok.hd hc) i3 c hcn its3.toArray) hz hu hTI hTO ⟨h1, p1⟩ ⟨h2, p2⟩ ⟨h3, p3⟩ (by simp only [List.size_toArray]; omega) (by simp only [List.size_toArray]; omega) (by simp only [List.size_toArray]; omega)
        fun h' tk zn => wpAny_pure ⟨_, rfl, ?_⟩) (F.args_zip_next_1 _))))
    refine wpAny_pure ?_
    obtain ⟨x, y, v, u', f', e1, e2, e3, hu', hz', hTO', ⟨m1, _⟩, ⟨m2, _⟩, ⟨m3, _⟩, hTt, hk⟩ := zn
    have e1' : its1[i]? = some x := by simpa using e1
    have e2' : its2[i]? = some y := by simpa using e2
    have e3' : its3[i]? = some v := by simpa using e3
    have hvx : xs[i]? = some (xs[i]'(by omega)) := List.getElem?_eq_getElem _
    obtain ⟨wx, hwx, rx⟩ := rv1.get hvx
    have qx : wx = x := by rw [hwx] at e1'; exact Option.some.inj e1'
    subst qx
    generalize xs[i]'(by omega) = vx at *
    have hvy : ys[i]? = some (ys[i]'(by omega)) := List.getElem?_eq_getElem _
    obtain ⟨wy, hwy, ry⟩ := rv2.get hvy
    have qy : wy = y := by rw [hwy] at e2'; exact Option.some.inj e2'
    subst qy
    generalize ys[i]'(by omega) = vy at *
    have hvu : zs[i]? = some (zs[i]'(by omega)) := List.getElem?_eq_getElem _
    obtain ⟨wu, hwu, ru⟩ := rv3.get hvu
    have qu : wu = v := by rw [hwu] at e3'; exact Option.some.inj e3'
    subst qu
    generalize zs[i]'(by omega) = vu at *
    have hTs : s.heap.objs.size ≤ s.heap.objs.size := Nat.le_refl _
    have new : ObjOk X.prog X.w (upd H s.heap.objs.size (.tup [vx, vy, vu])) h' s.heap.objs.size (.tup [vx, vy, vu]) := ⟨by show 3 ≤ sizeLine; decide, [wx, wy, wu], .cons rx (.cons ry (.cons ru .nil)), ⟨_, hTt, rfl, _, rfl⟩⟩
    have I1 : Inv X pins σ (upd H s.heap.objs.size (.tup [vx, vy, vu])) { s with heap := h', toks := tk } :=
      I.turnedNew (ch := [z, TI, TO, i1, i2, i3]) (fun d o hd q => by
        simp only [List.mem_cons, List.not_mem_nil, or_false, not_or] at hd
        exact hk d o hd.1 hd.2.2.1 hd.2.2.2.1 hd.2.2.2.2.1 hd.2.2.2.2.2 q) hf hTs new
    refine ⟨.ref s.heap.objs.size, _, I1, rfl, ⟨s.heap.objs.size, rfl, I.hok.fresh hTs, by rw [zip3V_get hvx hvy hvu]⟩, ⟨by rw [zip3V_len]; omega, ⟨u', f', hu', hz'⟩, hk TI _ S.TIz S.TITO S.TIi1 S.TIi2 S.TIi3 hTI, hTO', m1, m2, m3⟩, fun d hd => ?_⟩
    have hdl : d < s.heap.objs.size := by
      simp only [List.mem_cons, List.not_mem_nil, or_false] at hd
      rcases hd with rfl | rfl | rfl | rfl | rfl | rfl
      · exact Heap.lt_size hz
      · exact Heap.lt_size hTI
      · exact Heap.lt_size hTO
      · obtain ⟨_, e, _⟩ := h1; exact Heap.lt_size e
      · obtain ⟨_, e, _⟩ := h2; exact Heap.lt_size e
      · obtain ⟨_, e, _⟩ := h3; exact Heap.lt_size e
    rw [upd_ne (Nat.ne_of_lt hdl)]
    exact (hf d hd).1
  done := by
    intro X hP hw hK hc i pins s σ H E I hf st hg
    subst hP hw hK
    obtain ⟨hle, ⟨u, f, hu, hz⟩, hTI, ⟨b1, b2, b3, hTO⟩, h1, h2, h3⟩ := st
    obtain ⟨hlt, qa, qb, qc⟩ := hg
    obtain ⟨its1, rv1, p1, _⟩ := I.tuple qa
    obtain ⟨its2, rv2, p2, _⟩ := I.tuple qb
    obtain ⟨its3, rv3, p3, _⟩ := I.tuple qc
    have l1 := rv1.length
    have l2 := rv2.length
    have l3 := rv3.length
    rw [zip3V_len] at hlt hle
    have hT : s.TypeIs (.ref z) "zip" := ⟨_, hz, rfl⟩
    unfold pyNext
    refine wpAny_bind (wpAny_attempt (wpAny_callSpecial?_slot (name := Str.ofString "__next__") hT F.slot_zip_next (wpAny_call_entry F.slot_zip_next hT F.entry_zip_next
      (zn_end S (Draws.tuple (prog := X.prog) (w := X.w) (A := X.A.in1) (I.ok.hd hc) i1 a ha its1.toArray) (Draws.tuple (prog := X.prog) (w := X.w) (A := X.A.in1) (I.ok.hd hc) i2 b hb its2.toArray) (Draws.tuple (prog := X.prog) (w := X.w) (A := X.A.in1) (I.ok.hd hc) i3 c hcn its3.toArray) hz hu hTI hTO ⟨h1, p1⟩ ⟨h2, p2⟩ ⟨h3, p3⟩ (by simp only [List.size_toArray]; omega) (by simp only [List.size_toArray]; omega) (by simp only [List.size_toArray]; omega)
        (by simp only [List.size_toArray]; omega) fun h' tk e hk he => ?_) (F.args_zip_next_1 _))))
    obtain ⟨o, ho, hcls⟩ := he
    refine wpAny_bind (wpAny_isInstance (T := "StopIteration") (b := true) ⟨o, ho, hcls⟩ isSubtype_stop (wpAny_pure ⟨rfl, ?_⟩))
    exact I.turnedL (ch := [z, TI, TO, i1, i2, i3]) (fun d o hd q => by
        simp only [List.mem_cons, List.not_mem_nil, or_false, not_or] at hd
        exact hk d o hd.1 hd.2.2.1 hd.2.2.2.1 hd.2.2.2.2.1 hd.2.2.2.2.2 q) hf
  self := fun A i s Q E st h => by
    obtain ⟨_, ⟨u, f, _, hz⟩, _⟩ := st
    have hT : s.TypeIs (.ref z) "zip" := ⟨_, hz, rfl⟩
    refine wpAny_pyIter_slot hT F.slot_zip_iter (wpAny_call_entry F.slot_zip_iter hT F.entry_zip_iter ?_ (F.args_zip_iter_1 _))
    show wpAny _ _ (ret (.ref z)) _ _ s
    exact wpAny_pure ⟨_, rfl, "zip", _, hT, F.slot_zip_next.lookup, h⟩
end
theorem pi_zip3n {X : Cx} {e e2 e3 : Expr} {ta : TA} {p pos tpos : Pos} {nm : Str} (hg : Gl X "zip") (hm : X.mg "zip" = none) (ha : PA X [e, e2, e3] ta)
    (hs : starEach [e, e2, e3] X.env = (false, eval e X.env) :: starEach [e2, e3] X.env := by rfl) (hpl : (backTo pos (starEach [e2, e3] X.env)).any (·.1) = false := by rfl) :
    PI X (.Name nm tpos) (.Call (.Name "zip" p) [e, e2, e3] [] pos) (iZip3 X.K ta) := by
  refine ⟨fun pins s σ H R I h => ?_⟩
  refine Call_ (ld_blt I hg hm PyProof.Rows.boot_zip (PyProof.Rows.callWith_type1 (thn (ha.run pos pins s σ H _ I h) fun us s1 ⟨vs, H1, I1, r1, q1⟩ => ?_) hs hpl))
  obtain ⟨a, b, c, xs, ys, zs, ex, hqa, hqb, hqc, q⟩ := q1
  subst ex
  cases r1 with
  | cons r rr =>
    cases rr with
    | cons r' rr =>
      cases rr with
      | cons r'' rr =>
        cases rr
        cases r
        cases r'
        cases r''
        obtain ⟨its1, rv1, p1, _⟩ := I1.tuple hqa
        obtain ⟨its2, rv2, p2, _⟩ := I1.tuple hqb
        obtain ⟨its3, rv3, p3, _⟩ := I1.tuple hqc
        have la : a < s1.heap.objs.size := by obtain ⟨o, ho, _⟩ := p1; exact Heap.lt_size ho
        have lb : b < s1.heap.objs.size := by obtain ⟨o, ho, _⟩ := p2; exact Heap.lt_size ho
        have lc : c < s1.heap.objs.size := by obtain ⟨o, ho, _⟩ := p3; exact Heap.lt_size ho
        refine zip_begins3 (begins_tuple a its1.toArray) (begins_tuple b its2.toArray) (begins_tuple c its3.toArray) p1 p2 p3 fun h' hz hTI hTO g1 g2 g3 hsz hk => wpAny_pyIter_zip hz ?_
        have I2 : Inv X pins σ H1 { s1 with heap := h' } := I1.kept (t' := s1.toks) hk
        refine ⟨s1.heap.objs.size + 5, [s1.heap.objs.size + 5, s1.heap.objs.size + 3, s1.heap.objs.size + 4, s1.heap.objs.size, s1.heap.objs.size + 1, s1.heap.objs.size + 2], _, _, H1, rfl, I2,
          turn_zip3n (sep_of la lb lc) (Nat.ne_of_lt la) (Nat.ne_of_lt (Nat.lt_succ_of_lt lb)) (Nat.ne_of_lt (Nat.lt_succ_of_lt (Nat.lt_succ_of_lt lc))),
          ⟨Nat.zero_le _, ⟨_, _, .inl rfl, hz⟩, hTI, ⟨_, _, _, hTO⟩, ⟨_, g1, rfl, rfl⟩, ⟨_, g2, rfl, rfl⟩, ⟨_, g3, rfl, rfl⟩⟩, fun d hd => ?_, q⟩
        have hle : s1.heap.objs.size ≤ d := by
          simp only [List.mem_cons, List.not_mem_nil, or_false] at hd
          rcases hd with h | h | h | h | h | h <;> rw [h] <;> first | exact Nat.le_refl _ | exact Nat.le_add_right _ _
        exact I1.fpOk hle (I1.hok.fresh hle)
section
variable {X : Cx} {W : WX} {pos : Pos} {e e2 e3 : Expr} {f g h : DE}
theorem i_zip3n {nm : Str} {p tpos : Pos} (hm : X.mg "zip" = none) (ha : PE X e (tE X.kw X.mg W f)) (hb : PE X e2 (tE X.kw X.mg W g)) (hc : PE X e3 (tE X.kw X.mg W h)) (hg : Gl X "zip" := by rfl)
    (hs : starEach [e, e2, e3] X.env = (false, eval e X.env) :: starEach [e2, e3] X.env := by rfl) (hs2 : starEach [e2, e3] X.env = (false, eval e2 X.env) :: starEach [e3] X.env := by rfl) (hs3 : starEach [e3] X.env = (false, eval e3 X.env) :: starEach [] X.env := by rfl)
    (hpl : (backTo pos (starEach [e2, e3] X.env)).any (·.1) = false := by rfl) : PI X (.Name nm tpos) (.Call (.Name "zip" p) [e, e2, e3] [] pos) (tI X.kw X.mg W (cZip3 f g h)) :=
  PI.weak (pi_zip3n hg hm (a_cons ha (a_cons hb (a_cons hc a_nil hs3) hs2) hs) hs hpl) fun σ H Q hh => tG1 (k := zip3R) (RA := RL X.kw) hh fun x S μ H v ok rx hh => by
    unfold zip3R at hh
    split at hh
    · cases rx with
      | cons r1 rx =>
        cases rx with
        | cons r2 rx =>
          cases rx with
          | cons r3 rx =>
            cases rx
            cases r1 with
            | tup h1 l1 q1 =>
              cases r2 with
              | tup h2 l2 q2 =>
                cases r3 with
                | tup h3 l3 q3 => exact ⟨_, _, _, _, _, _, rfl, h1, h2, h3, hh μ H _ (Ext.refl _ _) ok (wlk_zip3 h1 h2 h3 q1 q2 q3)⟩
    · exact hh.elim
end
end DL

namespace PySem.W
open PySem PySem.Calls PyProof.Rows
section
variable {prog : Program} {w : World} {A : Around} {E : Value → Shared → Prop} {s : Shared} {β : Type} {vs : List Value} {bs : List β} {enc : β → PyData} {R : Value → β → Prop}
theorem xx_collect {Q : List Value → Shared → Prop} (it : Addr) {o : Obj} {items : Array Value} {n : Nat} (ho : s.heap.get? it = some o) (hc : o.cls = .type "tuple") (hd : o.data = .seq items n)
    (hQ : Q items.toList { s with heap := (s.heap.push { cls := .type "list", data := .seq ([] : List Value).toArray }).update s.heap.objs.size (Obj.mapSeq (· ++ items)) }) (hsz : items.size ≤ sizeLine) :
    wpAny (model prog w) A (collect (.ref it)) Q E s := by
  unfold collect
  refine wpAny_bind (wpAny_runValue (codeAny_builtin F.entry_proto_collect ?_))
  rw [Around.under_plainId F.plain_proto_collect _]
  show wpAny _ A.in1 (newList [] >>= fun l => again (.builtin "list.__iadd__" ⟨[l, .ref it], []⟩)) _ _ s
  refine wpAny_bind (wpAny_newObj_type (wpAny_pure ⟨plainId_quiet F.plain_list_iadd _, codeAny_builtin F.entry_list_iadd ?_⟩))
  rw [Around.under_plainId F.plain_list_iadd _]
  show wpAny _ A.in1 (Builtin.List.listExtendWith (.ref s.heap.objs.size) (.ref it) (.ref s.heap.objs.size)) _ _ _
  have hS : (s.heap.push { cls := .type "list", data := .seq ([] : List Value).toArray }).get? s.heap.objs.size = some { cls := .type "list", data := .seq #[] 0 } := Heap.get?_push_size _ rfl
  have hS2 := Heap.get?_update_self (Obj.mapSeq (· ++ items)) hS rfl
  refine wpAny_extend_seq (A := A) (s := { s with heap := s.heap.push { cls := .type "list", data := .seq ([] : List Value).toArray } })
    (R := fun r s' => match r with
      | .ok (.ret v) => wpAny (model prog w) A (match v with
        | Value.ref a => do
          match (← load a).data with
            | Data.seq xs _ => pure xs.toList
            | _ => unsupported "internal:collect"
        | _ => unsupported "internal:collect") Q E s'
      | .ok _ => False
      | .error e => E e s') _ it _ 0 (.inr rfl) hS (Heap.get?_push_of_some _ ho) hc hd ?_ hsz
  show wpAny _ A (load s.heap.objs.size >>= _) _ _ _
  refine wpAny_bind (wpAny_load hS2 (wpAny_pure ?_))
  have e : ((#[] : Array Value) ++ items).toList = items.toList := by simp
  show Q ((#[] : Array Value) ++ items).toList _
  rw [e]
  exact hQ
theorem xx_sorted_tup {t : Addr} {Q : Value → Shared → Prop} (ht : s.heap.IsTuple t vs.toArray) (e : EachIs R vs bs) (er : EachIs (fun v b => ∃ as, Reads s.heap v (enc b) as) vs bs) (hal : AllAlike (bs.map enc)) (hk : Sortable (bs.map enc)) (hL : bs.length ≤ sizeLine)
    (hu : ∀ b, b ∈ bs → A.units + 2 + (enc b).depth < cLine)
    (h : ∀ (h' : Heap) (a : Addr) (out : List Value) (n : Nat), (∀ b o, s.heap.get? b = some o → h'.get? b = some o) → s.heap.objs.size ≤ a → h'.get? a = some (seqObj "list" out.toArray n) → EachIs R out (bs.mergeSort (dataLe false enc)) → Q (.ref a) { s with heap := h' }) :
    wpAny (model prog w) A (call (.builtin "sorted") [.ref t]) Q E s := by
  obtain ⟨o, ho, hc, n0, hd⟩ := ht
  have hvl : vs.length ≤ sizeLine := by rw [e.length]; exact hL
  refine call_function_entry_kw kind_sorted plain_sorted entry_sorted (args_sorted1 _) ?_
  unfold Builtin.«sorted»
  refine wpAny_bind (m := checkCount "sorted" 1 1 _) (wpAny_pure ?_)
  refine wpAny_bind (xx_collect t ho hc hd ?_ (by simpa using hvl))
  generalize hh1 : (s.heap.push { cls := .type "list", data := .seq ([] : List Value).toArray }).update s.heap.objs.size (Obj.mapSeq (· ++ vs.toArray)) = h1
  have hk1 : ∀ b o, s.heap.get? b = some o → h1.get? b = some o := fun b o hb => by
    rw [← hh1, Heap.get?_update_ne _ _ _ _ (Nat.ne_of_lt (Heap.lt_size hb))]
    exact Heap.get?_push_of_some _ hb
  have hle : s.heap.objs.size ≤ h1.objs.size := by
    rw [← hh1, Heap.size_update, Heap.size_push]
    exact Nat.le_succ _
  refine wpAny_bind (wpAny_newList ?_ (by simpa using hvl))
  have hl : (h1.push (seqObj "list" vs.toArray 0)).get? h1.objs.size = some (seqObj "list" vs.toArray 0) := Heap.get?_push_size _ rfl
  refine wpAny_bind (wpAny_holding (wpAny_call_entry_kw slot_list_sort ⟨_, hl, rfl⟩ entry_list_sort ?body (args_list_sort _)))
  case body =>
    have er' : EachIs (fun v b => ∃ as, Reads (sortingHeap (h1.push (seqObj "list" vs.toArray 0)) h1.objs.size vs) v (enc b) as) vs bs := er.mono fun _ _ ⟨as, r⟩ => ⟨as, PyProof.Rows.Reads.keeps (fun b o hb => sortingHeap_old (Nat.ne_of_lt (Nat.lt_of_lt_of_le (Heap.lt_size hb) hle)) (Heap.get?_push_of_some _ (hk1 b o hb))) r⟩
    show wpAny (model prog w) A.in1.in1 (Builtin.«list.sort» ⟨[.ref h1.objs.size], []⟩) _ _ { s with heap := h1.push (seqObj "list" vs.toArray 0) }
    refine list_sort_vals (s := { s with heap := h1.push (seqObj "list" vs.toArray 0) }) hl (SortsAt.data (s := { s with heap := sortingHeap (h1.push (seqObj "list" vs.toArray 0)) h1.objs.size vs }) (each_map (R := fun v d => ∃ as, Reads (sortingHeap (h1.push (seqObj "list" vs.toArray 0)) h1.objs.size vs) v d as) enc er') hal hk (bound_map hu)) hvl ?_
    refine ⟨_, rfl, wpAny_pure ⟨_, rfl, ?_⟩⟩
    obtain ⟨n, hn⟩ := sortedHeap_at (out := (sortVals (dataKind (sortingHeap (h1.push (seqObj "list" vs.toArray 0)) h1.objs.size vs) (bs.map enc)) false vs vs).toArray) hl
    refine h _ h1.objs.size _ n (fun b ob hb => ?_) hle hn (sortVals_data false e er' hal)
    have hlt := Heap.lt_size hb
    rw [sortedHeap_old (Nat.ne_of_lt (Nat.lt_of_lt_of_le hlt hle)) (by rw [size_push']; exact Nat.lt_succ_of_lt (Nat.lt_of_lt_of_le hlt hle))]
    exact Heap.get?_push_of_some _ (hk1 b ob hb)
end
end PySem.W

/-! DLO: more operations. -/
namespace DL
open PySem PySem.Spec PyProof.Rows L2
section
variable {X : Cx}
/-- sorted of a list or a tuple -/
noncomputable def oSortedX : OA := fun xs S => match xs with
  | [.tup ys] => open Classical in if okSort ys then some (.loc S.length, S ++ [.lst (sortD ys)]) else none
  | _ => oSorted xs S
theorem d_sortedX (hu : X.A.units + 64 < cLine) : CallR X (.builtin "sorted") (rA X.kw oSortedX) := by
  intro pins s σ H xs us Q I r hr
  obtain ⟨μ, S, ds, ok, rd, hp⟩ := hr
  unfold oSortedX at hp
  split at hp
  · rename_i ys
    obtain ⟨v, rfl, rx⟩ := rd.one
    split at hp
    · rename_i hk
      obtain ⟨hf, hd, hal, hso⟩ := hk
      obtain ⟨u, rfl, ru⟩ := vals1 r
      cases rx with
      | @tup p vs zs hs hl rr =>
        cases ru
        obtain ⟨its, rv, pl, _⟩ := I.tuple hs
        obtain ⟨e1, e2⟩ := each_of I rr rv hf
        refine PySem.W.xx_sorted_tup (enc := D.py) (bs := ys) pl e1 e2 (fun d h1 d' h2 => ?_) hso (by rw [rr.length]; exact hl) (fun b hb => ?_) fun h' a out n hk hle ha hout => ?_
        · obtain ⟨x, hx, rfl⟩ := List.mem_map.mp h1
          obtain ⟨y, hy, rfl⟩ := List.mem_map.mp h2
          exact hal x hx y hy
        · rw [D.depth b (fitsL_mem hf hb)]
          have := depL_mem hb
          omega
        · obtain ⟨ws, h1, h2⟩ := of_each hout
          have hfr : H a = none := I.hok.fresh hle
          have hlen : ws.length ≤ sizeLine := by
            rw [← h1.length, List.length_mergeSort, rr.length]
            exact hl
          exact ⟨.ref a, _, I.laid (t' := s.toks) hk hle (show ObjOk X.prog X.w _ _ _ (.lst ws) from ⟨hlen, out, n, h2, ha⟩), rfl, PV.lst hp ok hlen h1 _ hfr⟩
    · exact hp.elim
  · exact d_sorted hu pins s σ H _ us Q I r ⟨μ, S, _, ok, rd, hp⟩
/-- the signs of a text -/
def signsD (z : Str) : List D := z.cps.toList.map fun c => .str ⟨#[c]⟩
def oListX : OA := fun xs S => match xs with
  | [.str z] => if z.cps.size ≤ sizeLine then some (.loc S.length, S ++ [.lst (signsD z)]) else none
  | _ => oList xs S
theorem d_listX (hc : X.calm = true) : CallR X (.type "list") (rA X.kw oListX) := by
  intro pins s σ H xs us Q I r hr
  obtain ⟨μ, S, ds, ok, rd, hp⟩ := hr
  unfold oListX at hp
  split at hp
  · rename_i z
    obtain ⟨v, rfl, rx⟩ := rd.one
    obtain ⟨u, rfl, ru⟩ := vals1 r
    cases rx
    obtain ⟨t, rfl⟩ := ru
    split at hp
    · rename_i hz
      refine call_list_str (I.ok.hd hc) z t (fun h' tk acc' c' hk ha hit => ?_) hz
      have hfr : H s.heap.objs.size = none := I.hok.fresh (Nat.le_refl _)
      have key : ∀ (l : List Value) (m : List Nat), l.length = m.length → (∀ (j : Nat) v, l[j]? = some v → ∃ c t, m[j]? = some c ∧ v = Value.str ⟨#[c]⟩ t) → Vals (m.map fun c => V.str ⟨#[c]⟩) l := by
        intro l
        induction l with
        | nil =>
          intro m hl _
          cases m with
          | nil => exact .nil
          | cons _ _ => cases hl
        | cons a l ih =>
          intro m hl hh
          cases m with
          | nil => cases hl
          | cons c m =>
            obtain ⟨c', t', e1, e2⟩ := hh 0 a rfl
            cases e1
            exact .cons ⟨t', e2⟩ (ih m (by simpa using hl) fun j v hv => by simpa using hh (j + 1) v (by simpa using hv))
      have hv : Vals (z.cps.toList.map fun c => V.str ⟨#[c]⟩) acc'.toList := key _ _ (by simpa using hit.1) fun j v hv => by
        obtain ⟨c, t, h1, h2⟩ := hit.2 j v (by simpa using hv)
        exact ⟨c, t, by simpa using h1, h2⟩
      have rl : ∀ (μ : List Addr) (H : Hp) (m : List Nat), RL X.kw μ H (m.map fun c => D.str ⟨#[c]⟩) (m.map fun c => V.str ⟨#[c]⟩) := fun μ H m => by
        induction m with
        | nil => exact .nil
        | cons c m ih => exact .cons (.str _) ih
      have hlen : (z.cps.toList.map fun c => V.str ⟨#[c]⟩).length ≤ sizeLine := by simpa using hz
      exact ⟨.ref s.heap.objs.size, _, I.laid (t' := tk) hk (Nat.le_refl _) (show ObjOk X.prog X.w _ _ _ (.lst (z.cps.toList.map fun c => V.str ⟨#[c]⟩)) from ⟨hlen, acc'.toList, c', hv, by simpa using ha⟩), rfl, PV.lst hp ok hlen (rl _ _ _) _ hfr⟩
    · exact hp.elim
  · exact d_list pins s σ H _ us Q I r ⟨μ, S, _, ok, rd, hp⟩
end
end DL

namespace DL
open PySem PySem.Spec PyProof.Rows L2
/-! ### what has to hold ahead, of mirrors: the continuation stands where simp does not look -/
def Tg {α : Sort _} (_ : α) : Type := Unit
abbrev tg {α : Sort _} {a : α} : Tg a := ()
abbrev XQ := Exn → Store → Prop
def X0 : XQ := fun _ _ => False
def W {α : Type} (q : XQ × (α → Store → Prop)) (_ : Tg q) (r : Res α) : Prop := match r with
  | .ok a S => q.2 a S
  | .ex e S => q.1 e S
  | .no => False
/-- an operation's answer -/
def WO (q : D → Store → Prop) (_ : Tg q) (r : Option (D × Store)) : Prop := match r with
  | some (d, S) => q d S
  | none => False
/-- something that has to be there -/
def WM {α : Type} (q : α → Prop) (_ : Tg q) (r : Option α) : Prop := match r with
  | some d => q d
  | none => False
structure BQ where
  t : Store → Prop
  f : Store → Prop
  x : XQ
/-- a test -/
def WB (q : BQ) (_ : Tg q) (r : Res Bool) : Prop := match r with
  | .ok true S => q.t S
  | .ok false S => q.f S
  | .ex e S => q.x e S
  | .no => False
structure SQ where
  nx : Sg → Store → Prop
  rt : D → Store → Prop
  bk : Sg → Store → Prop
  ct : Sg → Store → Prop
  ex : Exn → Sg → Store → Prop
def WS (q : SQ) (_ : Tg q) (r : SR) : Prop := match r with
  | .nx σ S => q.nx σ S
  | .rt d S => q.rt d S
  | .bk σ S => q.bk σ S
  | .ct σ S => q.ct σ S
  | .ex e σ S => q.ex e σ S
  | .no => False
def qd (q : XQ × (D → Store → Prop)) : SQ := ⟨fun _ S => q.2 .non S, q.2, fun _ _ => False, fun _ _ => False, fun e _ S => q.1 e S⟩
def qn (q : SQ) (k : Sg → Store → Prop) : SQ := ⟨k, q.rt, q.bk, q.ct, q.ex⟩
def qk (q : SQ) (k : Sg → Store → Prop) : SQ := ⟨k, fun _ _ => False, fun _ _ => False, fun _ _ => False, q.ex⟩
/-- one turn -/
def lq (q : SQ) (k : Sg → Store → Prop) : SQ := ⟨k, q.rt, q.nx, k, q.ex⟩
/-- the items of what is walked -/
def WI (q : XQ × (Gd → List D → Store → Prop)) (_ : Tg q) (r : Res (Gd × List D)) : Prop := match r with
  | .ok a S => q.2 a.1 a.2 S
  | .ex e S => q.1 e S
  | .no => False
theorem W_eq {α : Type} {r : Res α} {a : α} {S : Store} (h : W (X0, fun b S' => b = a ∧ S' = S) tg r) : r = .ok a S := by
  cases r with
  | ok b S' => obtain ⟨rfl, rfl⟩ := h; rfl
  | ex e S' => exact h.elim
  | no => exact h.elim
theorem W_ex {α : Type} {r : Res α} {Q : α → Store → Prop} (h : W (X0, Q) tg r) : ∃ a S, r = .ok a S ∧ Q a S := by
  cases r with
  | ok b S' => exact ⟨b, S', rfl, h⟩
  | ex e S' => exact h.elim
  | no => exact h.elim
theorem W_mono {α : Type} {q q' : XQ × (α → Store → Prop)} {t : Tg q} {t' : Tg q'} {r : Res α} (h : W q t r) (hq : ∀ a S, q.2 a S → q'.2 a S) (hx : ∀ e S, q.1 e S → q'.1 e S) : W q' t' r := by
  cases r with
  | ok b S' => exact hq _ _ h
  | ex e S' => exact hx _ _ h
  | no => exact h.elim
theorem WS_mono {q q' : SQ} {t : Tg q} {t' : Tg q'} {r : SR} (h : WS q t r) (h1 : ∀ σ S, q.nx σ S → q'.nx σ S) (h2 : ∀ σ S, q.rt σ S → q'.rt σ S) (h3 : ∀ σ S, q.bk σ S → q'.bk σ S) (h4 : ∀ σ S, q.ct σ S → q'.ct σ S) (h5 : ∀ e σ S, q.ex e σ S → q'.ex e σ S) : WS q' t' r := by
  cases r with
  | nx σ S => exact h1 _ _ h
  | rt σ S => exact h2 _ _ h
  | bk σ S => exact h3 _ _ h
  | ct σ S => exact h4 _ _ h
  | ex e σ S => exact h5 _ _ _ h
  | no => exact h.elim
section
variable {α : Type} {x : XQ} {Q : D → Store → Prop} {QA : List D → Store → Prop} {σ : Sg} {S : Store} {f g h : DE} {t u : DT} {fa : DA} {fs gs : DS} {k : O2} {q : SQ} {b : BQ} {d : D} {i : Nat}
theorem W_ok {Q : α → Store → Prop} {a : α} {tt} : W (x, Q) tt (.ok a S) = Q a S := (rfl)
theorem W_exn {Q : α → Store → Prop} {e : Exn} {tt} : W (x, Q) tt (.ex e S) = x e S := (rfl)
theorem W_var0 {r : Sg} {tt} : W (x, Q) tt (cVar 0 (some d :: r) S) = Q d S := (rfl)
theorem W_varS {o : Option D} {r : Sg} {tt} : W (x, Q) tt (cVar (i + 1) (o :: r) S) = W (x, Q) tg (cVar i r S) := (rfl)
theorem W_K {tt} : W (x, Q) tt (cK d σ S) = Q d S := (rfl)
theorem W_bin {tt} : W (x, Q) tt (cBin k f g σ S) = W (x, fun a S1 => W (x, fun c S2 => WO Q tg (k a c S2)) tg (g σ S1)) tg (f σ S) := by
  unfold cBin
  cases f σ S with
  | ok a S1 =>
    simp only [Res.bind_ok, W]
    cases g σ S1 with
    | ok c S2 =>
      simp only [Res.bind_ok]
      cases k a c S2 <;> rfl
    | _ => rfl
  | _ => rfl
theorem W_un {k : O1} {tt} : W (x, Q) tt (cUn k f σ S) = W (x, fun a S1 => WO Q tg (k a S1)) tg (f σ S) := by
  unfold cUn
  cases f σ S with
  | ok a S1 =>
    simp only [Res.bind_ok, W]
    cases k a S1 <;> rfl
  | _ => rfl
theorem W_aNil {tt} : W (x, QA) tt (aNil σ S) = QA [] S := (rfl)
theorem W_aCons {tt} : W (x, QA) tt (aCons f fa σ S) = W (x, fun a S1 => W (x, fun c S2 => QA (a :: c) S2) tg (fa σ S1)) tg (f σ S) := by
  unfold aCons
  cases f σ S with
  | ok a S1 =>
    simp only [Res.bind_ok, W]
    cases fa σ S1 <;> rfl
  | _ => rfl
theorem W_arg {k : OA} {tt} : W (x, Q) tt (cArg k fa σ S) = W (x, fun a S1 => WO Q tg (k a S1)) tg (fa σ S) := by
  unfold cArg
  cases fa σ S with
  | ok a S1 =>
    simp only [Res.bind_ok, W]
    cases k a S1 <;> rfl
  | _ => rfl
theorem W_call {F : FD} {tt} : W (x, Q) tt (cCall F fa σ S) = W (x, fun a S1 => W (x, Q) tg (F a S1)) tg (fa σ S) := by
  unfold cCall
  cases fa σ S with
  | ok a S1 =>
    simp only [Res.bind_ok, W]
  | _ => rfl
theorem W_of {r : Option (D × Store)} {tt} : W (x, Q) tt (Res.of r) = WO Q tg r := by
  cases r <;> rfl
def tcase (q : BQ) (x : D) (S : Store) : Prop := match x with
  | .bl c => (c = true → q.t S) ∧ (c = false → q.f S)
  | _ => False
theorem WB_test {tt} : WB b tt (cTest f σ S) = W (b.x, fun a S1 => tcase b a S1) tg (f σ S) := by
  unfold cTest
  cases f σ S with
  | ok a S1 =>
    simp only [Res.bind_ok, W]
    cases a with
    | bl c => cases c <;> simp [WB, tcase]
    | _ => rfl
  | _ => rfl
theorem tc_bl {c : Bool} : tcase b (.bl c) S = ((c = true → b.t S) ∧ (c = false → b.f S)) := (rfl)
def trcase (q : BQ) (S : Store) (c : Bool) : Prop := (c = true → q.t S) ∧ (c = false → q.f S)
theorem WB_tru {tt} : WB b tt (cTru f σ S) = W (b.x, fun a S1 => WM (trcase b S1) tg (dTru a S1)) tg (f σ S) := by
  unfold cTru
  cases f σ S with
  | ok a S1 =>
    simp only [Res.bind_ok, W]
    cases dTru a S1 with
    | some c => cases c <;> simp [WB, trcase, WM, Res.of]
    | none => rfl
  | _ => rfl
theorem trc {c : Bool} : trcase b S c = ((c = true → b.t S) ∧ (c = false → b.f S)) := (rfl)
theorem WB_and {tt} : WB b tt (cAnd t u σ S) = WB ⟨fun S1 => WB b tg (u σ S1), b.f, b.x⟩ tg (t σ S) := by
  unfold cAnd
  cases t σ S with
  | ok a S1 => cases a <;> rfl
  | _ => rfl
theorem WB_or {tt} : WB b tt (cOr t u σ S) = WB ⟨b.t, fun S1 => WB b tg (u σ S1), b.x⟩ tg (t σ S) := by
  unfold cOr
  cases t σ S with
  | ok a S1 => cases a <;> rfl
  | _ => rfl
theorem WB_not {tt} : WB b tt (cNot t σ S) = WB ⟨b.f, b.t, b.x⟩ tg (t σ S) := by
  unfold cNot
  cases t σ S with
  | ok a S1 => cases a <;> rfl
  | _ => rfl
theorem W_if {tt} : W (x, Q) tt (cIf t f g σ S) = WB ⟨fun S1 => W (x, Q) tg (f σ S1), fun S1 => W (x, Q) tg (g σ S1), x⟩ tg (t σ S) := by
  unfold cIf
  cases t σ S with
  | ok a S1 => cases a <;> rfl
  | _ => rfl
theorem W_andV {tt} : W (x, Q) tt (cAndV f g σ S) = W (x, fun a S1 => WM (fun c : Bool => (c = true → W (x, Q) tg (g σ S1)) ∧ (c = false → Q a S1)) tg (dTru a S1)) tg (f σ S) := by
  unfold cAndV
  cases f σ S with
  | ok a S1 =>
    simp only [Res.bind_ok, W]
    cases dTru a S1 with
    | some c => cases c <;> simp [WM, W]
    | none => rfl
  | _ => rfl
theorem W_orV {tt} : W (x, Q) tt (cOrV f g σ S) = W (x, fun a S1 => WM (fun c : Bool => (c = true → Q a S1) ∧ (c = false → W (x, Q) tg (g σ S1))) tg (dTru a S1)) tg (f σ S) := by
  unfold cOrV
  cases f σ S with
  | ok a S1 =>
    simp only [Res.bind_ok, W]
    cases dTru a S1 with
    | some c => cases c <;> simp [WM, W]
    | none => rfl
  | _ => rfl
theorem W_notV {tt} : W (x, Q) tt (cNotV f σ S) = W (x, fun a S1 => WM (fun c : Bool => Q (.bl (!c)) S1) tg (dTru a S1)) tg (f σ S) := by
  unfold cNotV
  cases f σ S with
  | ok a S1 =>
    simp only [Res.bind_ok, W]
    cases dTru a S1 <;> rfl
  | _ => rfl
theorem WM_some {a : α} {Q : α → Prop} {tt} : WM Q tt (some a) = Q a := (rfl)
theorem WM_none {Q : α → Prop} {tt} : WM Q tt none = False := (rfl)
theorem WO_some {tt} : WO Q tt (some (d, S)) = Q d S := (rfl)
theorem tr_bl {c : Bool} : dTru (.bl c) S = some c := (rfl)
theorem tr_non : dTru .non S = some false := (rfl)
theorem tr_int {i : Int} : dTru (.int i) S = some (i != 0) := (rfl)
theorem tr_tup {xs : List D} : dTru (.tup xs) S = some (!xs.isEmpty) := (rfl)
theorem tr_rol {xs : List D} : dTru (.rol xs) S = some (!xs.isEmpty) := (rfl)
/-! statements -/
theorem WS_nx {tt} : WS q tt (.nx σ S) = q.nx σ S := (rfl)
theorem WS_rt {tt} : WS q tt (.rt d S) = q.rt d S := (rfl)
theorem WS_ct {tt} : WS q tt (.ct σ S) = q.ct σ S := (rfl)
theorem WS_bk {tt} : WS q tt (.bk σ S) = q.bk σ S := (rfl)
theorem WS_exn {e : Exn} {tt} : WS q tt (.ex e σ S) = q.ex e σ S := (rfl)
theorem WS_seq {tt} : WS q tt (sSeq fs gs σ S) = WS (qn q fun σ S => WS q tg (gs σ S)) tg (fs σ S) := by
  unfold sSeq
  cases fs σ S <;> rfl
theorem WS_nil {tt} : WS q tt (sNil σ S) = q.nx σ S := (rfl)
theorem WS_retN {tt} : WS q tt (sRetN σ S) = q.rt .non S := (rfl)
theorem WS_break {tt} : WS q tt (sBreak σ S) = q.bk σ S := (rfl)
theorem WS_cont {tt} : WS q tt (sCont σ S) = q.ct σ S := (rfl)
theorem WS_ofE {r : Res D} {k : D → Store → SR} {tt} : WS q tt (SR.ofE σ r k) = W (fun e S => q.ex e σ S, fun d S1 => WS q tg (k d S1)) tg r := by
  cases r <;> rfl
theorem WS_expr {tt} : WS q tt (sExpr f σ S) = W (fun e S => q.ex e σ S, fun _ S1 => q.nx σ S1) tg (f σ S) := by
  unfold sExpr
  cases f σ S <;> rfl
theorem WS_ret {tt} : WS q tt (sRet f σ S) = W (fun e S => q.ex e σ S, q.rt) tg (f σ S) := by
  unfold sRet
  cases f σ S <;> rfl
theorem WS_if {tt} : WS q tt (sIf t fs gs σ S) = WB ⟨fun S1 => WS q tg (fs σ S1), fun S1 => WS q tg (gs σ S1), fun e S => q.ex e σ S⟩ tg (t σ S) := by
  unfold sIf
  cases t σ S with
  | ok a S1 => cases a <;> rfl
  | _ => rfl
theorem WS_set {tt} : WS q tt (sSet i f σ S) = W (fun e S => q.ex e σ S, fun d S1 => q.nx (σ.set i (some d)) S1) tg (f σ S) := by
  unfold sSet
  cases f σ S <;> rfl
theorem WS_par {j : Nat} {tt} : WS q tt (sPar i j f g σ S) = W (fun e S => q.ex e σ S, fun d S1 => W (fun e S => q.ex e σ S, fun d' S2 => q.nx ((σ.set i (some d)).set j (some d')) S2) tg (g σ S1)) tg (f σ S) := by
  unfold sPar
  cases f σ S with
  | ok a S1 =>
    simp only [SR.ofE, W]
    cases g σ S1 <;> rfl
  | _ => rfl
theorem WS_asg {g : DG} {tt} : WS q tt (sAsg f g σ S) = W (fun e S => q.ex e σ S, fun d S1 => WS (qk q q.nx) tg (g d σ S1)) tg (f σ S) := by
  unfold sAsg
  cases f σ S with
  | ok a S1 =>
    simp only [SR.ofE, W]
    cases g a σ S1 <;> rfl
  | _ => rfl
theorem WS_gSet {tt} : WS q tt (gSet i d σ S) = q.nx (σ.set i (some d)) S := (rfl)
theorem WS_gN {tt} : WS q tt (gN [] σ S) = q.nx σ S := (rfl)
theorem WS_gC {g : DG} {gs : DGs} {r : List D} {tt} : WS q tt (gC g gs (d :: r) σ S) = WS (qk q fun σ S => WS q tg (gs r σ S)) tg (g d σ S) := by
  show WS q tt (match g d σ S with | .nx σ' S' => gs r σ' S' | .ex e σ' S' => .ex e σ' S' | _ => .no) = _
  cases g d σ S <;> rfl
theorem WS_gUn {n : Nat} {gs : DGs} {tt} : WS q tt (gUn n gs d σ S) = WM (fun xs => xs.length = n ∧ WS q tg (gs xs σ S)) tg (itemsOf S d) := by
  unfold gUn
  cases itemsOf S d with
  | none => rfl
  | some xs =>
    simp only [WM]
    by_cases hl : xs.length = n <;> simp [hl, WS]
theorem WS_gSub {fo fi : DE} {tt} : WS q tt (gSubD fo fi d σ S) = W (fun e S => q.ex e σ S, fun o S1 => W (fun e S => q.ex e σ S, fun i S2 => WM (fun S3 => q.nx σ S3) tg (oSet o i d S2)) tg (fi σ S1)) tg (fo σ S) := by
  unfold gSubD
  cases fo σ S with
  | ok o S1 =>
    simp only [SR.ofE, W]
    cases fi σ S1 with
    | ok i S2 =>
      simp only
      cases oSet o i d S2 <;> rfl
    | _ => rfl
  | _ => rfl
theorem WS_aug {k : O2} {tt} : WS q tt (sAug i k f σ S) = W (fun e S => q.ex e σ S, fun d S0 => W (fun e S => q.ex e σ S, fun y S1 => WO (fun z S2 => q.nx (σ.set i (some z)) S2) tg (k d y S1)) tg (f σ S)) tg (cVar i σ S) := by
  unfold sAug cVar
  cases σ[i]? with
  | none => rfl
  | some o =>
    cases o with
    | none => rfl
    | some d =>
      simp only [W]
      cases f σ S with
      | ok y S1 =>
        simp only [SR.ofE]
        cases k d y S1 <;> rfl
      | _ => rfl
theorem WS_qdn {Q : D → Store → Prop} {S : Store} : (qd (x, Q)).nx σ S = Q .non S := (rfl)
theorem WS_qdr {Q : D → Store → Prop} {S : Store} : (qd (x, Q)).rt d S = Q d S := (rfl)
theorem WS_qde {Q : D → Store → Prop} {S : Store} {e : Exn} : (qd (x, Q)).ex e σ S = x e S := (rfl)
theorem WS_qdb {S : Store} : (qd (x, Q)).bk σ S = False := (rfl)
theorem WS_qdc {S : Store} : (qd (x, Q)).ct σ S = False := (rfl)
variable {κ : Sg → Store → Prop}
theorem qn1 : (qn q κ).nx σ S = κ σ S := (rfl)
theorem qn2 : (qn q κ).rt = q.rt := (rfl)
theorem qn3 : (qn q κ).bk = q.bk := (rfl)
theorem qn4 : (qn q κ).ct = q.ct := (rfl)
theorem qn5 : (qn q κ).ex = q.ex := (rfl)
theorem qk1 : (qk q κ).nx σ S = κ σ S := (rfl)
theorem qk5 : (qk q κ).ex = q.ex := (rfl)
theorem lq1 : (lq q κ).nx σ S = κ σ S := (rfl)
theorem lq2 : (lq q κ).rt = q.rt := (rfl)
theorem lq3 : (lq q κ).bk = q.nx := (rfl)
theorem lq4 : (lq q κ).ct σ S = κ σ S := (rfl)
theorem lq5 : (lq q κ).ex = q.ex := (rfl)
end
end DL
namespace DL
open PySem PySem.Spec PyProof.Rows L2
theorem W_def {n : Nat} {fs : DS} {ds : List D} {S : Store} {x : XQ} {Q : D → Store → Prop} {tt : Tg (x, Q)} : W (x, Q) tt (cDef n fs ds S) = WS (qd (x, Q)) tg (fs (ds.map some ++ List.replicate (n - ds.length) none) S) := by
  unfold cDef
  cases fs (ds.map some ++ List.replicate (n - ds.length) none) S <;> rfl
end DL

namespace DL
open PySem PySem.Spec PyProof.Rows L2
/-! ### operations on values -/
section
variable {Q : D → Store → Prop} {S : Store} {i j : Int} {a b : Str} {xs ys : List D} {l m : Nat} {d e : D} {tt : Tg Q}
theorem o_add : WO Q tt (oAdd (.int i) (.int j) S) = Q (.int (i + j)) S := (rfl)
theorem o_iadd : WO Q tt (oIAdd (.int i) (.int j) S) = Q (.int (i + j)) S := (rfl)
theorem o_sub : WO Q tt (oSub (.int i) (.int j) S) = Q (.int (i - j)) S := (rfl)
theorem o_neg : WO Q tt (oNeg (.int i) S) = Q (.int (-i)) S := (rfl)
theorem WO_if {p : Prop} [Decidable p] {r : D × Store} : WO Q tt (if p then some r else none) = (p ∧ Q r.1 r.2) := by
  by_cases h : p <;> simp [h, WO]
theorem o_mul : WO Q tt (oMul (.int i) (.int j) S) = (MulOk i j ∧ Q (.int (i * j)) S) := WO_if
theorem o_mod : WO Q tt (oMod (.int i) (.int j) S) = (0 < j ∧ Q (.int (i % j)) S) := WO_if
theorem o_div : WO Q tt (oDiv (.int i) (.int j) S) = (DivOk j ∧ Q (.int (i / j)) S) := WO_if
theorem o_pow : WO Q tt (oPow (.int i) (.int j) S) = (PowOk i j ∧ Q (.int (i ^ j.toNat)) S) := WO_if
theorem o_addT : WO Q tt (oAdd (.tup xs) (.tup ys) S) = (xs.length + ys.length ≤ sizeLine ∧ Q (.tup (xs ++ ys)) S) := WO_if
theorem o_addS : WO Q tt (oAdd (.str a) (.str b) S) = (a.length + b.length ≤ sizeLine ∧ Q (.str (a ++ b)) S) := WO_if
def lstAt (S : Store) (l : Nat) : Option (List D) := match S[l]? with
  | some (.lst xs) => some xs
  | _ => none
theorem lstAt_iff : lstAt S l = some xs ↔ S[l]? = some (.lst xs) := by
  unfold lstAt
  cases q : S[l]? with
  | none => simp
  | some c => cases c <;> simp
theorem o_addL : WO Q tt (oAdd (.loc l) (.loc m) S) = WM (fun xs => WM (fun ys => xs.length + ys.length ≤ sizeLine ∧ Q (.loc S.length) (S ++ [.lst (xs ++ ys)])) tg (lstAt S m)) tg (lstAt S l) := by
  show WO Q tt (match S[l]?, S[m]? with | some (.lst xs), some (.lst ys) => catL S xs ys | _, _ => none) = _
  unfold lstAt
  cases S[l]? with
  | none => rfl
  | some c =>
    cases c with
    | dct _ => rfl
    | lst xs =>
      cases S[m]? with
      | none => rfl
      | some c =>
        cases c with
        | dct _ => rfl
        | lst ys => exact WO_if
theorem o_lt : WO Q tt (oLt (.int i) (.int j) S) = Q (.bl (decide (i < j))) S := (rfl)
theorem o_le : WO Q tt (oLe (.int i) (.int j) S) = Q (.bl (decide (i ≤ j))) S := (rfl)
theorem o_gt : WO Q tt (oGt (.int i) (.int j) S) = Q (.bl (decide (j < i))) S := (rfl)
theorem o_ge : WO Q tt (oGe (.int i) (.int j) S) = Q (.bl (decide (j ≤ i))) S := (rfl)
theorem o_eq : WO Q tt (oEq (.int i) (.int j) S) = Q (.bl (decide (i = j))) S := (rfl)
theorem o_ne : WO Q tt (oNe (.int i) (.int j) S) = Q (.bl (!decide (i = j))) S := (rfl)
theorem o_eqS : WO Q tt (oEq (.str a) (.str b) S) = Q (.bl (decide (a = b))) S := (rfl)
theorem o_neS : WO Q tt (oNe (.str a) (.str b) S) = Q (.bl (!decide (a = b))) S := (rfl)
theorem o_eqT : WO Q tt (oEq (.tup xs) d S) = (okEq (.tup xs) d ∧ Q (.bl (D.eqv (.tup xs) d)) S) := WO_if
theorem o_neT : WO Q tt (oNe (.tup xs) d S) = (okEq (.tup xs) d ∧ Q (.bl (!D.eqv (.tup xs) d)) S) := WO_if
theorem o_eqN : WO Q tt (oEq .non d S) = (okEq .non d ∧ Q (.bl (D.eqv .non d)) S) := WO_if
theorem o_neN : WO Q tt (oNe .non d S) = (okEq .non d ∧ Q (.bl (!D.eqv .non d)) S) := WO_if
theorem o_ltT : WO Q tt (oLt (.tup xs) (.tup ys) S) = (okCmp xs ys ∧ Q (.bl (D.ltL xs ys)) S) := WO_if
theorem o_leT : WO Q tt (oLe (.tup xs) (.tup ys) S) = (okCmp xs ys ∧ Q (.bl (D.leL xs ys)) S) := WO_if
def isNon : D → Bool
  | .non => true
  | _ => false
theorem o_is : WO Q tt (oIs d .non S) = Q (.bl (isNon d)) S := by cases d <;> rfl
theorem o_isnot : WO Q tt (oIsNot d .non S) = Q (.bl (!isNon d)) S := by cases d <;> rfl
theorem o_isB {b : Bool} : WO Q tt (oIs d (.bl b) S) = Q (.bl (isBl b d)) S := (rfl)
theorem o_isnotB {b : Bool} : WO Q tt (oIsNot d (.bl b) S) = Q (.bl (!isBl b d)) S := (rfl)
theorem o_inT : WO Q tt (oIn d (.tup xs) S) = (okIn d xs ∧ Q (.bl (inL d xs)) S) := WO_if
theorem o_ninT : WO Q tt (oNotIn d (.tup xs) S) = (okIn d xs ∧ Q (.bl (!inL d xs)) S) := WO_if
theorem items_tup : itemsOf S (.tup xs) = some xs := (rfl)
theorem items_rol : itemsOf S (.rol xs) = some xs := (rfl)
theorem items_loc : itemsOf S (.loc l) = lstAt S l := (rfl)
theorem o_inL : WO Q tt (oIn d (.loc l) S) = WM (fun xs => okIn d xs ∧ Q (.bl (inL d xs)) S) tg (lstAt S l) := by
  unfold oIn
  rw [items_loc]
  cases q : lstAt S l with
  | none =>
    cases d <;> rfl
  | some xs => exact WO_if
theorem o_ninL : WO Q tt (oNotIn d (.loc l) S) = WM (fun xs => okIn d xs ∧ Q (.bl (!inL d xs)) S) tg (lstAt S l) := by
  unfold oNotIn
  rw [items_loc]
  cases q : lstAt S l with
  | none =>
    cases d <;> rfl
  | some xs => exact WO_if
theorem o_ixT : WO Q tt (oIx (.tup xs) (.int i) S) = WM (fun d => Q d S) tg (atI xs i) := by
  show WO Q tt (match atI xs i with | some d => some (d, S) | none => none) = _
  cases atI xs i <;> rfl
theorem o_ixR : WO Q tt (oIx (.rol xs) (.int i) S) = WM (fun d => Q d S) tg (atI xs i) := by
  show WO Q tt (match atI xs i with | some d => some (d, S) | none => none) = _
  cases atI xs i <;> rfl
theorem o_ixL : WO Q tt (oIx (.loc l) (.int i) S) = WM (fun xs => WM (fun d => Q d S) tg (atI xs i)) tg (lstAt S l) := by
  show WO Q tt (match lstAt S l with | some xs => (match atI xs i with | some d => some (d, S) | none => none) | none => none) = _
  cases lstAt S l with
  | none => rfl
  | some xs =>
    simp only [WM]
    cases atI xs i <;> rfl
theorem o_set {q : Store → Prop} {tt : Tg q} : WM q tt (oSet (.loc l) (.int i) d S) = WM (fun xs => WM (fun j => q (S.set l (.lst (xs.set j d)))) tg (ixN xs.length i)) tg (lstAt S l) := by
  show WM q tt (match S[l]? with | some (.lst ys) => (match ixN ys.length i with | some j => some (S.set l (.lst (ys.set j d))) | none => none) | _ => none) = _
  unfold lstAt
  cases S[l]? with
  | none => rfl
  | some c =>
    cases c with
    | dct _ => rfl
    | lst xs =>
      simp only [WM]
      cases ixN xs.length i <;> rfl
theorem o_lenT : WO Q tt (oLen [.tup xs] S) = Q (.int xs.length) S := (rfl)
theorem o_lenR : WO Q tt (oLen [.rol xs] S) = Q (.int xs.length) S := (rfl)
theorem o_lenL : WO Q tt (oLen [.loc l] S) = WM (fun xs => Q (.int xs.length) S) tg (lstAt S l) := by
  show WO Q tt (match lstAt S l with | some ys => some (.int ys.length, S) | none => none) = _
  cases lstAt S l <;> rfl
theorem o_lenS : WO Q tt (oLen [.str a] S) = (a.length ≤ sizeLine ∧ Q (.int a.length) S) := WO_if
theorem o_int : WO Q tt (oInt [.int i] S) = Q (.int i) S := (rfl)
theorem o_abs : WO Q tt (oAbs [.int i] S) = Q (.int (if i < 0 then -i else i)) S := (rfl)
theorem o_max : WO Q tt (oMax [.int i, .int j] S) = Q (.int (max i j)) S := by
  show Q (.int (if j > i then j else i)) S = _
  congr 2
  split <;> omega
theorem o_min : WO Q tt (oMin [.int i, .int j] S) = Q (.int (min i j)) S := by
  show Q (.int (if j < i then j else i)) S = _
  congr 2
  split <;> omega
theorem o_tuple : WO Q tt (oTuple [d] S) = WM (fun xs => Q (.tup xs) S) tg (itemsOf S d) := by
  show WO Q tt (match itemsOf S d with | some ys => some (.tup ys, S) | none => none) = _
  cases itemsOf S d <;> rfl
theorem o_list : WO Q tt (oList [d] S) = WM (fun xs => Q (.loc S.length) (S ++ [.lst xs])) tg (itemsOf S d) := by
  show WO Q tt (match itemsOf S d with | some ys => some (.loc S.length, S ++ [.lst ys]) | none => none) = _
  cases itemsOf S d <;> rfl
theorem o_tup : WO Q tt (oTup xs S) = (xs.length ≤ sizeLine ∧ Q (.tup xs) S) := WO_if
theorem o_lst : WO Q tt (oLst xs S) = (xs.length ≤ sizeLine ∧ Q (.loc S.length) (S ++ [.lst xs])) := WO_if
theorem o_sorted : WO Q tt (oSorted [.loc l] S) = WM (fun xs => okSort xs ∧ Q (.loc S.length) (S ++ [.lst (sortD xs)])) tg (lstAt S l) := by
  classical
  unfold oSorted
  show WO Q tt (match lstAt S l with | some ys => if okSort ys then some (D.loc S.length, S ++ [.lst (sortD ys)]) else none | none => none) = _
  cases lstAt S l with
  | none => rfl
  | some xs =>
    by_cases h : okSort xs <;> simp [h, WO, WM]
theorem o_sum : WO Q tt (oSum [d] S) = WM (fun ns => Q (.int (List.sum ns)) S) tg ((listOf S d).bind intsOf) := by
  show WO Q tt (match (listOf S d).bind intsOf with | some ns => some (.int ns.sum, S) | none => none) = _
  cases (listOf S d).bind intsOf <;> rfl
theorem o_rev : WO Q tt (oRev (.loc l) S) = WM (fun xs => Q (.loc S.length) (S ++ [.lst xs.reverse])) tg (lstAt S l) := by
  show WO Q tt (match lstAt S l with | some xs => some (.loc S.length, S ++ [.lst xs.reverse]) | none => none) = _
  cases lstAt S l <;> rfl
theorem listOf_loc : listOf S (.loc l) = lstAt S l := (rfl)
theorem listOf_rol : listOf S (.rol xs) = some xs := (rfl)
/-! methods of lists -/
variable {x : XQ} {σ : Sg} {f g h : DE} {fa : DA}
theorem W_meth {isT : D → Store → Bool} {k : OM} {tt} : W (x, Q) tt (cMeth isT k f fa σ S) = W (x, fun o S1 => isT o S1 = true ∧ W (x, fun xs S2 => WO Q tg (k o xs S2)) tg (fa σ S1)) tg (f σ S) := by
  unfold cMeth
  cases f σ S with
  | ok o S1 =>
    simp only [Res.bind_ok, W]
    by_cases hi : isT o S1 = true
    · simp only [hi, if_true, true_and]
      cases fa σ S1 with
      | ok xs S2 =>
        simp only [Res.bind_ok]
        cases k o xs S2 <;> rfl
      | _ => rfl
    · simp [hi]
  | _ => rfl
theorem noDct_loc : noDct (.loc l) S = (lstAt S l).isSome := by
  show (match S[l]? with | some (.lst _) => true | _ => false) = (match S[l]? with | some (.lst xs) => some xs | _ => none).isSome
  cases S[l]? with
  | none => rfl
  | some c => cases c <;> rfl
theorem isL_loc : isL (.loc l) S = (lstAt S l).isSome := noDct_loc
theorem o_append : WO Q tt (mAppend (.loc l) [d] S) = WM (fun ys => ys.length < sizeLine ∧ Q .non (S.set l (.lst (ys ++ [d])))) tg (lstAt S l) := by
  show WO Q tt (match S[l]? with | some (.lst ys) => upL l S (ys ++ [d]) | _ => none) = _
  unfold lstAt
  cases S[l]? with
  | none => rfl
  | some c =>
    cases c with
    | dct _ => rfl
    | lst ys =>
      refine (WO_if).trans ?_
      rw [List.length_append]; rfl
theorem o_extend : WO Q tt (mExtend (.loc l) [.loc m] S) = WM (fun ys => WM (fun zs => ys.length + zs.length ≤ sizeLine ∧ Q .non (S.set l (.lst (ys ++ zs)))) tg (lstAt S m)) tg (lstAt S l) := by
  show WO Q tt (match S[l]?, S[m]? with | some (.lst ys), some (.lst zs) => upL l S (ys ++ zs) | _, _ => none) = _
  unfold lstAt
  cases S[l]? with
  | none => rfl
  | some c =>
    cases c with
    | dct _ => rfl
    | lst ys =>
      cases S[m]? with
      | none => rfl
      | some c =>
        cases c with
        | dct _ => rfl
        | lst zs =>
          refine (WO_if).trans ?_
          rw [List.length_append]; rfl
theorem o_popAt : WO Q tt (mPop (.loc l) [.int i] S) = WM (fun ys => WM (fun k => WM (fun d => Q d (S.set l (.lst (ys.eraseIdx k)))) tg (ys[k]?)) tg (ixN ys.length i)) tg (lstAt S l) := by
  show WO Q tt (match S[l]? with | some (.lst ys) => (match ixN ys.length i with | some k => (match ys[k]? with | some d => some (d, S.set l (.lst (ys.eraseIdx k))) | none => none) | none => none) | _ => none) = _
  unfold lstAt
  cases S[l]? with
  | none => rfl
  | some c =>
    cases c with
    | dct _ => rfl
    | lst ys =>
      simp only [WM]
      cases ixN ys.length i with
      | none => rfl
      | some k =>
        simp only
        cases ys[k]? <;> rfl
theorem W_cut {lo hi : DO} {tt} : W (x, Q) tt (cCut f lo hi σ S) = W (x, fun a S1 => W (x, fun l S2 => W (x, fun u S3 => WO Q tg (oCut a l u S3)) tg (hi σ S2)) tg (lo σ S1)) tg (f σ S) := by
  unfold cCut
  cases f σ S with
  | ok o S1 =>
    simp only [Res.bind_ok, W]
    cases lo σ S1 with
    | ok xs S2 =>
      simp only [Res.bind_ok]
      cases hi σ S2 with
      | ok z S3 =>
        simp only [Res.bind_ok]
        cases oCut o xs z S3 <;> rfl
      | _ => rfl
    | _ => rfl
  | _ => rfl
theorem W_noPart {QO : Option Int → Store → Prop} {tt} : W (x, QO) tt (cNoPart σ S) = QO none S := (rfl)
def intD : D → Option Int
  | .int i => some i
  | _ => none
theorem intD_int : intD (.int i) = some i := (rfl)
theorem W_part {QO : Option Int → Store → Prop} {tt} : W (x, QO) tt (cPart f σ S) = W (x, fun a S1 => WM (fun i => QO (some i) S1) tg (intD a)) tg (f σ S) := by
  unfold cPart
  cases f σ S with
  | ok o S1 =>
    simp only [Res.bind_ok, W]
    cases o <;> rfl
  | _ => rfl
theorem o_cutT {lo hi : Option Int} : WO Q tt (oCut (.tup xs) lo hi S) = Q (.tup (cutD xs lo hi)) S := (rfl)
theorem o_cutR {lo hi : Option Int} : WO Q tt (oCut (.rol xs) lo hi S) = Q (.loc S.length) (S ++ [.lst (cutD xs lo hi)]) := (rfl)
theorem o_cutL {lo hi : Option Int} : WO Q tt (oCut (.loc l) lo hi S) = WM (fun xs => Q (.loc S.length) (S ++ [.lst (cutD xs lo hi)])) tg (lstAt S l) := by
  show WO Q tt (match lstAt S l with | some xs => some (.loc S.length, S ++ [.lst (cutD xs lo hi)]) | none => none) = _
  cases lstAt S l <;> rfl
theorem W_isi {T : String} {tt} : W (x, Q) tt (cIsi T f σ S) = W (x, fun a S1 => noDct a S1 = true ∧ WM (fun b => Q (.bl b) S1) tg (kitB (tyName a) T)) tg (f σ S) := by
  unfold cIsi
  cases f σ S with
  | ok o S1 =>
    simp only [Res.bind_ok, W]
    by_cases hi : noDct o S1 = true
    · simp only [hi, if_true, true_and]
      cases kitB (tyName o) T <;> rfl
    · simp [hi]
  | _ => rfl
theorem W_ch {k k' : O2} {tt} : W (x, Q) tt (cCh k k' f g h σ S) = W (x, fun a S1 => W (x, fun b S2 => WO (fun c S3 => c = .bl true ∧ W (x, fun d S4 => WO Q tg (k' b d S4)) tg (h σ S3) ∨ c = .bl false ∧ Q (.bl false) S3) tg (k a b S2)) tg (g σ S1)) tg (f σ S) := by
  unfold cCh
  cases f σ S with
  | ok o S1 =>
    simp only [Res.bind_ok, W]
    cases g σ S1 with
    | ok xs S2 =>
      simp only [Res.bind_ok]
      cases k o xs S2 with
      | none => rfl
      | some p =>
        obtain ⟨d, S3⟩ := p
        cases d with
        | bl b =>
          cases b with
          | true =>
            simp only [WO]
            cases h σ S3 with
            | ok z S4 =>
              simp only [Res.bind_ok]
              cases k' xs z S4 <;> simp [Res.of]
            | _ => simp
          | false => simp [WO]
        | _ => simp [WO]
    | _ => rfl
  | _ => rfl
/-! places -/
variable {a b c d e u v : D} {r : List D}
theorem at0 : atI (a :: r) 0 = some a := by simp [atI, ixN]
theorem atN {k : Nat} (h : k < xs.length) : atI xs (k : Int) = some xs[k] := by
  unfold atI ixN
  have h1 : (0 : Int) ≤ (k : Int) := by omega
  have h2 : (k : Int) < xs.length := by omega
  simp [h]
theorem at1 : atI (a :: b :: r) 1 = some b := atN (k := 1) (by simp)
theorem at2 : atI (a :: b :: c :: r) 2 = some c := atN (k := 2) (by simp)
theorem at3 : atI (a :: b :: c :: d :: r) 3 = some d := atN (k := 3) (by simp)
theorem at4 : atI (a :: b :: c :: d :: e :: r) 4 = some e := atN (k := 4) (by simp)
theorem at5 : atI (a :: b :: c :: d :: e :: u :: r) 5 = some u := atN (k := 5) (by simp)
theorem atI_of {i : Int} (h : 0 ≤ i) (h2 : i < xs.length) : ∃ d, xs[i.toNat]? = some d ∧ atI xs i = some d := by
  have h3 : i.toNat < xs.length := by omega
  refine ⟨xs[i.toNat], by simp [h3], ?_⟩
  have := atN h3
  rwa [Int.toNat_of_nonneg h] at this
theorem atl1 : atI [a] (-1) = some a := (rfl)
theorem atl2 : atI [a, b] (-1) = some b := (rfl)
theorem atl3 : atI [a, b, c] (-1) = some c := (rfl)
theorem atl4 : atI [a, b, c, d] (-1) = some d := (rfl)
theorem lstAt_new {c : List D} : lstAt (S ++ [.lst c]) S.length = some c := by simp [lstAt]
theorem lstAt_app {T : Store} (h : lstAt S l = some xs) : lstAt (S ++ T) l = some xs := by
  rw [lstAt_iff] at h ⊢
  rw [List.getElem?_append_left (List.getElem?_eq_some_iff.mp h).1, h]
theorem set_new {c c' : Cell} : (S ++ [c]).set S.length c' = S ++ [c'] := by simp
theorem lstAt_set (h : lstAt S l = some xs) : lstAt (S.set l (.lst ys)) l = some ys := by
  rw [lstAt_iff] at h ⊢
  rw [List.getElem?_set_self (List.getElem?_eq_some_iff.mp h).1]
theorem lstAt_set_ne (h : l ≠ m) : lstAt (S.set l (.lst ys)) m = lstAt S m := by
  unfold lstAt
  rw [List.getElem?_set_ne h]
theorem lstAt_lt (h : lstAt S l = some xs) : l < S.length := (List.getElem?_eq_some_iff.mp (lstAt_iff.mp h)).1
end
end DL

namespace DL
open PySem PySem.Spec PyProof.Rows L2
/-! ### loops and comprehensions -/
inductive All2 {α β : Type} (P : α → β → Prop) : List α → List β → Prop
  | nil : All2 P [] []
  | cons {a : α} {b : β} {as : List α} {bs : List β} : P a b → All2 P as bs → All2 P (a :: as) (b :: bs)
theorem All2.length {α β : Type} {P : α → β → Prop} : ∀ {as : List α} {bs : List β}, All2 P as bs → as.length = bs.length
  | _, _, .nil => rfl
  | _, _, .cons _ t => by rw [List.length_cons, List.length_cons, t.length]
theorem All2.right {α β : Type} {P : α → β → Prop} {R : β → Prop} (h : ∀ a b, P a b → R b) : ∀ {as : List α} {bs : List β}, All2 P as bs → ∀ b ∈ bs, R b
  | _, _, .nil, _, hb => by simp at hb
  | _, _, .cons p t, b, hb => (List.mem_cons.mp hb).elim (fun e => e ▸ h _ _ p) (t.right h b)
section
variable {x : XQ} {Q : D → Store → Prop} {QI : Gd → List D → Store → Prop} {QL : List D → Store → Prop} {σ : Sg} {S : Store} {f g h : DE} {t u : DT} {src : DI} {fs gs b : DS} {q : SQ} {G : DG} {d : D} {ds : List D} {gd : Gd}
theorem WS_for {tt} : WS q tt (sFor src G b σ S) = WI (fun e S => q.ex e σ S, fun gd ds S1 => WS q tg (forL gd G b ds σ S1)) tg (src σ S) := by
  unfold sFor
  cases src σ S <;> rfl
def itOf (S : Store) : D → Option (Gd × List D)
  | .tup xs => some (none, xs)
  | .rol xs => some (none, xs)
  | .loc l => match S[l]? with
    | some (.lst xs) => some (some (l, xs), xs)
    | _ => none
  | _ => none
theorem it_tup {xs : List D} : itOf S (.tup xs) = some (none, xs) := (rfl)
theorem it_rol {xs : List D} : itOf S (.rol xs) = some (none, xs) := (rfl)
theorem it_loc {l : Nat} {xs : List D} (h : lstAt S l = some xs) : itOf S (.loc l) = some (some (l, xs), xs) := by
  rw [lstAt_iff] at h
  show (match S[l]? with | some (.lst xs) => some (some (l, xs), xs) | _ => none) = _
  rw [h]
theorem WI_iter {tt} : WI (x, QI) tt (cIter f σ S) = W (x, fun a S1 => WM (fun p => QI p.1 p.2 S1) tg (itOf S1 a)) tg (f σ S) := by
  unfold cIter
  cases f σ S with
  | ok o S1 =>
    simp only [Res.bind_ok, W]
    cases o with
    | loc l =>
      simp only [itOf]
      cases S1[l]? with
      | none => rfl
      | some c => cases c <;> rfl
    | _ => rfl
  | _ => rfl
theorem WI_range1 {tt} : WI (x, QI) tt (cRange1 f σ S) = W (x, fun a S1 => WM (fun j => okB j ∧ QI none (intsTo 0 j.toNat) S1) tg (intD a)) tg (f σ S) := by
  unfold cRange1
  cases f σ S with
  | ok o S1 =>
    simp only [Res.bind_ok, W]
    cases o with
    | int j => by_cases hb : okB j <;> simp [hb, WI, WM, intD]
    | _ => rfl
  | _ => rfl
theorem WI_range2 {tt} : WI (x, QI) tt (cRange2 f g σ S) = W (x, fun a S1 => W (x, fun c S2 => WM (fun i => WM (fun j => (okB i ∧ okB j) ∧ QI none (intsTo i (j - i).toNat) S2) tg (intD c)) tg (intD a)) tg (g σ S1)) tg (f σ S) := by
  unfold cRange2
  cases f σ S with
  | ok o S1 =>
    simp only [Res.bind_ok, W]
    cases g σ S1 with
    | ok c S2 =>
      simp only [Res.bind_ok]
      cases o with
      | int i =>
        cases c with
        | int j => by_cases hb : okB i ∧ okB j <;> simp [hb, WI, WM, intD]
        | _ => rfl
      | _ => cases c <;> rfl
    | _ => rfl
  | _ => rfl
theorem WI_range3 {tt} : WI (x, QI) tt (cRange3 f g h σ S) = W (x, fun a S1 => W (x, fun b S2 => W (x, fun c S3 => WM (fun i => WM (fun j => WM (fun k => okRg i j k ∧ QI none (stepsTo i k (rgN i j k)) S3) tg (intD c)) tg (intD b)) tg (intD a)) tg (h σ S2)) tg (g σ S1)) tg (f σ S) := by
  unfold cRange3
  cases f σ S with
  | ok o S1 =>
    simp only [Res.bind_ok, W]
    cases g σ S1 with
    | ok b S2 =>
      simp only [Res.bind_ok]
      cases h σ S2 with
      | ok c S3 =>
        simp only [Res.bind_ok]
        cases o with
        | int i =>
          cases b with
          | int j =>
            cases c with
            | int k => by_cases hb : okRg i j k <;> simp [hb, WI, WM, intD, rg3]
            | _ => rfl
          | _ => cases c <;> rfl
        | _ => cases b <;> cases c <;> rfl
      | _ => rfl
    | _ => rfl
  | _ => rfl
def enD (S : Store) : D → Option (Gd × List D)
  | .tup xs => some (none, numbered 0 xs)
  | .rol xs => some (none, numbered 0 xs)
  | .loc l => match S[l]? with
    | some (.lst xs) => some (some (l, xs), numbered 0 xs)
    | _ => none
  | _ => none
theorem en_tup {xs : List D} : enD S (.tup xs) = some (none, numbered 0 xs) := (rfl)
theorem en_rol {xs : List D} : enD S (.rol xs) = some (none, numbered 0 xs) := (rfl)
theorem en_loc {l : Nat} {xs : List D} (h : lstAt S l = some xs) : enD S (.loc l) = some (some (l, xs), numbered 0 xs) := by
  rw [lstAt_iff] at h
  show (match S[l]? with | some (.lst xs) => some (some (l, xs), numbered 0 xs) | _ => none) = _
  rw [h]
theorem WI_enum {tt} : WI (x, QI) tt (cEnumA f σ S) = W (x, fun a S1 => WM (fun p => QI p.1 p.2 S1) tg (enD S1 a)) tg (f σ S) := by
  unfold cEnumA
  cases f σ S with
  | ok o S1 =>
    simp only [Res.bind_ok, W]
    cases o with
    | loc l =>
      simp only [enD, enumA, enumL]
      cases S1[l]? with
      | none => rfl
      | some c => cases c <;> rfl
    | _ => rfl
  | _ => rfl
def z2 : List D → Option (List D)
  | [.tup xs, .tup ys] => some (zip2D xs ys)
  | _ => none
def z3 : List D → Option (List D)
  | [.tup xs, .tup ys, .tup zs] => some (zip3D xs ys zs)
  | _ => none
theorem WI_zip2 {tt} : WI (x, QI) tt (cZip2 f g σ S) = W (x, fun a S1 => WM (fun ds => QI none ds S1) tg (z2 a)) tg (aCons f (aCons g aNil) σ S) := by
  unfold cZip2
  cases aCons f (aCons g aNil) σ S with
  | ok o S1 =>
    simp only [Res.bind_ok, W]
    unfold zip2R z2
    split <;> simp_all [WI, WM]
  | _ => rfl
theorem WI_zip3 {tt} : WI (x, QI) tt (cZip3 f g h σ S) = W (x, fun a S1 => WM (fun ds => QI none ds S1) tg (z3 a)) tg (aCons f (aCons g (aCons h aNil)) σ S) := by
  unfold cZip3
  cases aCons f (aCons g (aCons h aNil)) σ S with
  | ok o S1 =>
    simp only [Res.bind_ok, W]
    unfold zip3R z3
    split <;> simp_all [WI, WM]
  | _ => rfl
theorem z2_t {xs ys : List D} : z2 [.tup xs, .tup ys] = some (zip2D xs ys) := (rfl)
theorem z3_t {xs ys zs : List D} : z3 [.tup xs, .tup ys, .tup zs] = some (zip3D xs ys zs) := (rfl)
/-- calls by keywords -/
theorem W_callK {F : FD} {pm : List Nat} {fa fk : DA} {tt} : W (x, Q) tt (cCallK F pm fa fk σ S) = W (x, fun us S1 => W (x, fun ws S2 => W (x, Q) tg (F (permO .non pm us ws) S2)) tg (fk σ S1)) tg (fa σ S) := by
  unfold cCallK
  cases fa σ S with
  | ok o S1 =>
    simp only [Res.bind_ok, W]
    cases fk σ S1 <;> rfl
  | _ => rfl
theorem perm_nil {us ws : List D} : permO .non [] us ws = [] := (rfl)
theorem perm_cons {i : Nat} {pm : List Nat} {us ws : List D} : permO .non (i :: pm) us ws = (us ++ ws).getD i .non :: permO .non pm us ws := (rfl)
theorem WS_f0 {tt} : WS q tt (forL none G b [] σ S) = q.nx σ S := by
  rw [forL, if_pos (show Gd.ok none S from trivial)]; rfl
/-- one turn, in its own words -/
theorem WS_turn {k : Sg → Store → SR} {tt} : WS q tt (match G d σ S with
      | .nx σ1 S1 => match b σ1 S1 with
        | .nx σ2 S2 => k σ2 S2
        | .ct σ2 S2 => k σ2 S2
        | .bk σ2 S2 => .nx σ2 S2
        | r => r
      | .ex e σ1 S1 => .ex e σ1 S1
      | _ => .no) = WS (qk q fun σ S => WS (lq q fun σ S => WS q tg (k σ S)) tg (b σ S)) tg (G d σ S) := by
  cases G d σ S with
  | nx σ1 S1 =>
    show WS q tt (match b σ1 S1 with
        | .nx σ2 S2 => k σ2 S2
        | .ct σ2 S2 => k σ2 S2
        | .bk σ2 S2 => .nx σ2 S2
        | r => r) = WS (lq q fun σ S => WS q tg (k σ S)) tg (b σ1 S1)
    cases b σ1 S1 <;> rfl
  | _ => rfl
theorem WS_f1 {tt} : WS q tt (forL none G b (d :: ds) σ S) = WS (qk q fun σ S => WS (lq q fun σ S => WS q tg (forL none G b ds σ S)) tg (b σ S)) tg (G d σ S) := by
  rw [forL, if_pos (show Gd.ok none S from trivial)]
  exact WS_turn
theorem WS_g0 {l : Nat} {xs : List D} {tt} : WS q tt (forL (some (l, xs)) G b [] σ S) = (lstAt S l = some xs ∧ q.nx σ S) := by
  rw [forL]
  by_cases hg : Gd.ok (some (l, xs)) S
  · rw [if_pos hg]
    simp [lstAt_iff, show S[l]? = some (.lst xs) from hg, WS]
  · rw [if_neg hg]
    simp [lstAt_iff, show ¬ S[l]? = some (.lst xs) from hg, WS]
theorem WS_g1 {l : Nat} {xs : List D} {tt} : WS q tt (forL (some (l, xs)) G b (d :: ds) σ S) = (lstAt S l = some xs ∧ WS (qk q fun σ S => WS (lq q fun σ S => WS q tg (forL (some (l, xs)) G b ds σ S)) tg (b σ S)) tg (G d σ S)) := by
  rw [forL]
  by_cases hg : Gd.ok (some (l, xs)) S
  · rw [if_pos hg]
    refine Eq.trans (WS_turn (k := fun σ S => forL (some (l, xs)) G b ds σ S)) ?_
    simp only [lstAt_iff, show S[l]? = some (.lst xs) from hg, true_and]
  · rw [if_neg hg]
    simp [lstAt_iff, show ¬ S[l]? = some (.lst xs) from hg, WS]
/-- a loop by what holds ahead of each turn -/
theorem WS_loop (I : List D → Sg → Store → Prop) {tt} (h0 : I ds σ S)
    (h1 : ∀ d r σ S, I (d :: r) σ S → gd.ok S ∧ WS (qk q fun σ S => WS (lq q (I r)) tg (b σ S)) tg (G d σ S))
    (h2 : ∀ σ S, I [] σ S → gd.ok S ∧ q.nx σ S) : WS q tt (forL gd G b ds σ S) := by
  induction ds generalizing σ S with
  | nil =>
    obtain ⟨g, z⟩ := h2 _ _ h0
    rw [forL, if_pos g]; exact z
  | cons d r ih =>
    obtain ⟨g, z⟩ := h1 _ _ _ _ h0
    rw [forL, if_pos g]
    refine Eq.mpr (WS_turn (k := fun σ S => forL gd G b r σ S)) ?_
    refine WS_mono (t := tg) z (fun σ1 S1 z => ?_) (fun _ _ z => z) (fun _ _ z => z) (fun _ _ z => z) (fun _ _ _ z => z)
    refine WS_mono (t := tg) (t' := tg) z (fun σ1 S1 z => ?_) (fun _ _ z => z) (fun _ _ z => z) (fun σ1 S1 z => ?_) (fun _ _ _ z => z)
    · exact ih z
    · exact ih z
theorem intsTo_succ {lo : Int} {n : Nat} : intsTo lo (n + 1) = .int lo :: intsTo (lo + 1) n := by
  unfold intsTo
  rw [List.range_succ_eq_map, List.map_cons, List.map_map]
  rw [List.cons.injEq]
  refine ⟨by simp, List.map_congr_left fun a _ => ?_⟩
  simp only [Function.comp]
  congr 1
  push_cast
  omega
/-- a loop over a range -/
theorem WS_rloop (I : Int → Sg → Store → Prop) {lo : Int} {n : Nat} {tt} (h0 : I lo σ S)
    (h1 : ∀ i σ S, lo ≤ i → i < lo + n → I i σ S → WS (qk q fun σ S => WS (lq q (I (i + 1))) tg (b σ S)) tg (G (.int i) σ S))
    (h2 : ∀ σ S, I (lo + n) σ S → q.nx σ S) : WS q tt (forL none G b (intsTo lo n) σ S) := by
  induction n generalizing lo σ S with
  | zero =>
    rw [show intsTo lo 0 = [] from rfl, WS_f0]
    exact h2 _ _ (by simpa using h0)
  | succ n ih =>
    rw [intsTo_succ, WS_f1]
    refine WS_mono (t' := tg) (h1 lo σ S (by omega) (by omega) h0) (fun σ1 S1 z => ?_) (fun _ _ z => z) (fun _ _ z => z) (fun _ _ z => z) (fun _ _ _ z => z)
    refine WS_mono (t' := tg) (t := tg) z (fun σ2 S2 z => ?_) (fun _ _ z => z) (fun _ _ z => z) (fun σ2 S2 z => ?_) (fun _ _ _ z => z)
    · exact ih z (fun i σ S a b c => h1 i σ S (by omega) (by push_cast; omega) c) fun σ S c => h2 σ S (by rw [show lo + ((n + 1 : Nat) : Int) = lo + 1 + n by push_cast; omega]; exact c)
    · exact ih z (fun i σ S a b c => h1 i σ S (by omega) (by push_cast; omega) c) fun σ S c => h2 σ S (by rw [show lo + ((n + 1 : Nat) : Int) = lo + 1 + n by push_cast; omega]; exact c)
/-- a while loop -/
theorem WS_while (I : Nat → Sg → Store → Prop) (n : Nat) {tt} (hn : n < WF) (h0 : I n σ S)
    (h1 : ∀ k σ S, I k σ S → WB ⟨fun S => ∃ k', k = k' + 1 ∧ WS (lq q (I k')) tg (b σ S), fun S => q.nx σ S, fun e S => q.ex e σ S⟩ tg (t σ S)) : WS q tt (sWhile t b σ S) := by
  unfold sWhile
  have key : ∀ (m k : Nat) (σ : Sg) (S : Store), k < m → I k σ S → WS q tg (whileN t b m σ S) := by
    intro m
    induction m with
    | zero => intro k _ _ h; omega
    | succ m ih =>
      intro k σ S hk hI
      have z := h1 k σ S hI
      rw [whileN]
      cases q1 : t σ S with
      | ok c S1 =>
        rw [q1] at z
        cases c with
        | true =>
          obtain ⟨k', rfl, z⟩ := z
          simp only [SR.ofT, if_true]
          cases q2 : b σ S1 with
          | nx σ2 S2 => rw [q2] at z; exact ih k' _ _ (by omega) z
          | ct σ2 S2 => rw [q2] at z; exact ih k' _ _ (by omega) z
          | bk σ2 S2 => rw [q2] at z; exact z
          | rt d S2 => rw [q2] at z; exact z
          | ex e σ2 S2 => rw [q2] at z; exact z
          | no => rw [q2] at z; exact z.elim
        | false => exact z
      | ex e S1 => rw [q1] at z; exact z
      | no => rw [q1] at z; exact z.elim
  exact key WF n σ S hn h0
/-! comprehensions -/
theorem W_alloc {f : DL'} {tt} : W (x, Q) tt (cAlloc f σ S) = W (x, fun xs S1 => Q (.loc S1.length) (S1 ++ [.lst xs])) tg (f σ S) := by
  unfold cAlloc
  cases f σ S <;> rfl
theorem W_ofL {f : DL'} {k : List D → Option D} {tt} : W (x, Q) tt (cOfL k f σ S) = W (x, fun xs S1 => WM (fun d => Q d S1) tg (k xs)) tg (f σ S) := by
  unfold cOfL
  cases f σ S with
  | ok xs S1 =>
    simp only [Res.bind_ok, W]
    cases k xs <;> rfl
  | _ => rfl
theorem kTup_eq {xs : List D} : kTup xs = some (.tup xs) := (rfl)
theorem kLen_eq {xs : List D} : kLen xs = some (.int xs.length) := (rfl)
theorem W_comp {p : Pat} {te : DE} {vs : List Nat} {tt} : W (x, QL) tt (lComp src p t te vs σ S) = WI (x, fun gd ds S1 => W (x, QL) tg (compL gd p t te ds [] (wipeD σ vs) S1)) tg (src σ S) := by
  unfold lComp
  cases src σ S <;> rfl
theorem wipe0 : wipeD σ [] = σ := (rfl)
theorem wipe1 {v : Nat} {vs : List Nat} : wipeD σ (v :: vs) = (wipeD σ vs).set v none := (rfl)
theorem WB_yes {bq : BQ} {tt} : WB bq tt (tYesD σ S) = bq.t S := (rfl)
theorem b_nm {i : Nat} : Pat.bind S (.nm i) d σ = some (σ.set i (some d)) := (rfl)
theorem W_c0 {p : Pat} {te : DE} {acc : List D} {tt} : W (x, QL) tt (compL none p t te [] acc σ S) = QL acc S := by
  rw [compL, if_pos (show Gd.ok none S from trivial)]; rfl
/-- a comprehension, item by item -/
theorem W_c1 {p : Pat} {te : DE} {acc : List D} {tt : Tg (X0, QL)} : W (X0, QL) tt (compL none p t te (d :: ds) acc σ S) = WM (fun σ1 => WB ⟨fun S2 => W (X0, fun y S3 => acc.length < sizeLine ∧ W (X0, QL) tg (compL none p t te ds (acc ++ [y]) σ S3)) tg (te σ1 S2), fun S2 => W (X0, QL) tg (compL none p t te ds acc σ S2), X0⟩ tg (t σ1 S)) tg (p.bind S d σ) := by
  rw [compL, if_pos (show Gd.ok none S from trivial)]
  cases p.bind S d σ with
  | none => rfl
  | some σ1 =>
    simp only [WM]
    cases t σ1 S with
    | ok c S2 =>
      cases c with
      | true =>
        simp only [WB]
        cases te σ1 S2 with
        | ok y S3 => by_cases hl : acc.length < sizeLine <;> simp [hl, W]
        | _ => rfl
      | false => rfl
    | _ => rfl
/-- a comprehension by what holds: each item made is as wanted -/
theorem W_cAll (P : D → Prop) (I : Store → Prop) {p : Pat} {te : DE} {acc : List D} {tt} (h0 : I S) (hl : acc.length + ds.length ≤ sizeLine) (hg : ∀ S, I S → gd.ok S)
    (h1 : ∀ d S, d ∈ ds → I S → WM (fun σ1 => WB ⟨fun S2 => W (X0, fun y S3 => P y ∧ I S3) tg (te σ1 S2), I, X0⟩ tg (t σ1 S)) tg (p.bind S d σ))
    (h2 : ∀ ys S, I S → (∀ y ∈ ys, P y) → ys.length ≤ ds.length → QL (acc ++ ys) S) : W (x, QL) tt (compL gd p t te ds acc σ S) := by
  induction ds generalizing acc S with
  | nil =>
    rw [compL, if_pos (hg _ h0)]
    have := h2 [] S h0 (by simp) (by simp)
    rw [List.append_nil] at this
    exact this
  | cons d r ih =>
    rw [compL, if_pos (hg _ h0)]
    have z := h1 d S (by simp) h0
    rw [List.length_cons] at hl
    cases q1 : p.bind S d σ with
    | none => rw [q1] at z; exact z.elim
    | some σ1 =>
      rw [q1] at z
      simp only [WM] at z ⊢
      cases q2 : t σ1 S with
      | ok c S2 =>
        rw [q2] at z
        cases c with
        | true =>
          simp only [WB] at z ⊢
          cases q3 : te σ1 S2 with
          | ok y S3 =>
            rw [q3] at z
            obtain ⟨z1, z2⟩ := z
            simp only
            rw [if_pos (by omega)]
            refine ih z2 (by simp; omega) (fun d S hd => h1 d S (List.mem_cons_of_mem _ hd)) fun ys S' hS hy hl' => ?_
            rw [List.append_assoc]
            exact h2 (y :: ys) S' hS (fun w hw => (List.mem_cons.mp hw).elim (fun e => e ▸ z1) (hy w)) (by simp; omega)
          | ex e S3 => rw [q3] at z; exact z.elim
          | no => rw [q3] at z; exact z.elim
        | false =>
          simp only [WB] at z ⊢
          refine ih z (by omega) (fun d S hd => h1 d S (List.mem_cons_of_mem _ hd)) fun ys S' hS hy hl' => h2 ys S' hS hy (by simp; omega)
      | ex e S2 => rw [q2] at z; exact z.elim
      | no => rw [q2] at z; exact z.elim
/-- .. without a test: item by item -/
theorem W_cMap (P : D → D → Prop) (I : Store → Prop) {p : Pat} {te : DE} {acc : List D} {tt} (h0 : I S) (hl : acc.length + ds.length ≤ sizeLine) (hg : ∀ S, I S → gd.ok S)
    (h1 : ∀ d S, d ∈ ds → I S → WM (fun σ1 => W (X0, fun y S3 => P d y ∧ I S3) tg (te σ1 S)) tg (p.bind S d σ))
    (h2 : ∀ ys S, I S → All2 P ds ys → QL (acc ++ ys) S) : W (x, QL) tt (compL gd p tYesD te ds acc σ S) := by
  induction ds generalizing acc S with
  | nil =>
    rw [compL, if_pos (hg _ h0)]
    have := h2 [] S h0 .nil
    rw [List.append_nil] at this
    exact this
  | cons d r ih =>
    rw [compL, if_pos (hg _ h0)]
    have z := h1 d S (by simp) h0
    rw [List.length_cons] at hl
    cases q1 : p.bind S d σ with
    | none => rw [q1] at z; exact z.elim
    | some σ1 =>
      rw [q1] at z
      simp only [WM, tYesD] at z ⊢
      cases q3 : te σ1 S with
      | ok y S3 =>
        rw [q3] at z
        obtain ⟨z1, z2⟩ := z
        simp only
        rw [if_pos (by omega)]
        refine ih z2 (by simp; omega) (fun d S hd => h1 d S (List.mem_cons_of_mem _ hd)) fun ys S' hS hy => ?_
        rw [List.append_assoc]
        exact h2 (y :: ys) S' hS (.cons z1 hy)
      | ex e S3 => rw [q3] at z; exact z.elim
      | no => rw [q3] at z; exact z.elim
theorem W_listRg {r : Sg → Store → Res (Int × Int)} {tt} : W (x, QL) tt (lRg r σ S) = W (x, fun p S1 => RgL p.1 p.2 ∧ QL (intsTo p.1 (p.2 - p.1).toNat) S1) tg (r σ S) := by
  unfold lRg
  cases r σ S with
  | ok p S1 =>
    simp only [Res.bind_ok, W]
    by_cases hr : RgL p.1 p.2 <;> simp [hr]
  | _ => rfl
theorem W_tupRg {r : Sg → Store → Res (Int × Int)} {tt} : W (x, Q) tt (cTupRg r σ S) = W (x, fun p S1 => RgL p.1 p.2 ∧ Q (.tup (intsTo p.1 (p.2 - p.1).toNat)) S1) tg (r σ S) := by
  unfold cTupRg
  cases r σ S with
  | ok p S1 =>
    simp only [Res.bind_ok, W]
    by_cases hr : RgL p.1 p.2 <;> simp [hr]
  | _ => rfl
theorem W_rRange1 {QP : Int × Int → Store → Prop} {tt} : W (x, QP) tt (rRange1 f σ S) = W (x, fun a S1 => WM (fun j => QP (0, j) S1) tg (intD a)) tg (f σ S) := by
  unfold rRange1
  cases f σ S with
  | ok o S1 =>
    simp only [Res.bind_ok, W]
    cases o <;> rfl
  | _ => rfl
theorem W_rRange2 {QP : Int × Int → Store → Prop} {tt} : W (x, QP) tt (rRange2 f g σ S) = W (x, fun a S1 => W (x, fun c S2 => WM (fun i => WM (fun j => QP (i, j) S2) tg (intD c)) tg (intD a)) tg (g σ S1)) tg (f σ S) := by
  unfold rRange2
  cases f σ S with
  | ok o S1 =>
    simp only [Res.bind_ok, W]
    cases g σ S1 with
    | ok c S2 =>
      simp only [Res.bind_ok]
      cases o with
      | int i => cases c <;> rfl
      | _ => cases c <;> rfl
    | _ => rfl
  | _ => rfl
end
end DL

namespace DL
open PySem PySem.Spec PyProof.Rows L2
section
variable {Q : D → Store → Prop} {S S' S'' : Store} {a b c d e u v z : D} {tt : Tg Q} {l m : Nat} {xs ys r : List D}
theorem sl {n : Nat} (h : n ≤ 1048576) : n ≤ sizeLine := by rw [sizeLine_eq]; omega
theorem o_tup0 : WO Q tt (oTup [] S) = Q (.tup []) S := by rw [o_tup]; simp
theorem o_tup1 : WO Q tt (oTup [a] S) = Q (.tup [a]) S := by rw [o_tup]; simp [sizeLine_eq]
theorem o_tup2 : WO Q tt (oTup [a, b] S) = Q (.tup [a, b]) S := by rw [o_tup]; simp [sizeLine_eq]
theorem o_tup3 : WO Q tt (oTup [a, b, c] S) = Q (.tup [a, b, c]) S := by rw [o_tup]; simp [sizeLine_eq]
theorem o_tup4 : WO Q tt (oTup [a, b, c, d] S) = Q (.tup [a, b, c, d]) S := by rw [o_tup]; simp [sizeLine_eq]
theorem o_tup5 : WO Q tt (oTup [a, b, c, d, e] S) = Q (.tup [a, b, c, d, e]) S := by rw [o_tup]; simp [sizeLine_eq]
theorem o_tup6 : WO Q tt (oTup [a, b, c, d, e, u] S) = Q (.tup [a, b, c, d, e, u]) S := by rw [o_tup]; simp [sizeLine_eq]
theorem o_lst0 : WO Q tt (oLst [] S) = Q (.loc S.length) (S ++ [.lst []]) := by rw [o_lst]; simp
theorem o_lst1 : WO Q tt (oLst [a] S) = Q (.loc S.length) (S ++ [.lst [a]]) := by rw [o_lst]; simp [sizeLine_eq]
theorem o_lst2 : WO Q tt (oLst [a, b] S) = Q (.loc S.length) (S ++ [.lst [a, b]]) := by rw [o_lst]; simp [sizeLine_eq]
theorem o_lst3 : WO Q tt (oLst [a, b, c] S) = Q (.loc S.length) (S ++ [.lst [a, b, c]]) := by rw [o_lst]; simp [sizeLine_eq]
theorem o_lst4 : WO Q tt (oLst [a, b, c, d] S) = Q (.loc S.length) (S ++ [.lst [a, b, c, d]]) := by rw [o_lst]; simp [sizeLine_eq]
theorem o_lst5 : WO Q tt (oLst [a, b, c, d, e] S) = Q (.loc S.length) (S ++ [.lst [a, b, c, d, e]]) := by rw [o_lst]; simp [sizeLine_eq]
theorem o_lst6 : WO Q tt (oLst [a, b, c, d, e, u] S) = Q (.loc S.length) (S ++ [.lst [a, b, c, d, e, u]]) := by rw [o_lst]; simp [sizeLine_eq]
theorem o_ixS {s : Str} {i : Int} : WO Q tt (oIx (.str s) (.int i) S) = (s.length ≤ sizeLine ∧ WM (fun c => Q (.str ⟨#[c]⟩) S) tg (atI s.cps.toList i)) := by
  show WO Q tt (if s.length ≤ sizeLine then (match atI s.cps.toList i with | some c => some (D.str ⟨#[c]⟩, S) | none => none) else none) = _
  by_cases h : s.length ≤ sizeLine
  · simp only [h, if_true, true_and]
    cases atI s.cps.toList i <;> rfl
  · simp [h, WO]
theorem o_str {i : Int} : WO Q tt (oStr [.int i] S) = (i.natAbs.log2 < 1920 ∧ Q (.str (toString i)) S) := WO_if
theorem o_strS {s : Str} : WO Q tt (oStr [.str s] S) = Q (.str s) S := (rfl)
theorem o_intT : WO Q tt (oInt [.bl true] S) = Q (.int 1) S := (rfl)
theorem o_intF : WO Q tt (oInt [.bl false] S) = Q (.int 0) S := (rfl)
theorem o_intB {p : Prop} [Decidable p] : WO Q tt (oInt [.bl (decide p)] S) = Q (.int (if p then 1 else 0)) S := by
  show Q (.int (if decide p = true then 1 else 0)) S = _
  by_cases h : p <;> simp [h]
/-! slices of short things -/
theorem cutN2 (h : 2 ≤ xs.length) : cutD xs none (some 2) = xs.take 2 := by
  unfold cutD HT.sIx
  simp
theorem c02 : cutD (a :: b :: r) none (some 2) = [a, b] := (cutN2 (by simp)).trans rfl
theorem ix_1_0 : ixN 1 0 = some 0 := (rfl)
theorem ix_2_0 : ixN 2 0 = some 0 := (rfl)
theorem ix_2_1 : ixN 2 1 = some 1 := (rfl)
theorem ix_3_0 : ixN 3 0 = some 0 := (rfl)
theorem ix_3_1 : ixN 3 1 = some 1 := (rfl)
theorem ix_3_2 : ixN 3 2 = some 2 := (rfl)
theorem ix_4_0 : ixN 4 0 = some 0 := (rfl)
theorem ix_4_1 : ixN 4 1 = some 1 := (rfl)
theorem ix_4_2 : ixN 4 2 = some 2 := (rfl)
theorem ix_4_3 : ixN 4 3 = some 3 := (rfl)
theorem ix_5_0 : ixN 5 0 = some 0 := (rfl)
theorem ix_5_1 : ixN 5 1 = some 1 := (rfl)
theorem ix_5_2 : ixN 5 2 = some 2 := (rfl)
theorem ix_5_3 : ixN 5 3 = some 3 := (rfl)
theorem ix_5_4 : ixN 5 4 = some 4 := (rfl)
theorem ix_6_0 : ixN 6 0 = some 0 := (rfl)
theorem ix_6_1 : ixN 6 1 = some 1 := (rfl)
theorem ix_6_2 : ixN 6 2 = some 2 := (rfl)
theorem ix_6_3 : ixN 6 3 = some 3 := (rfl)
theorem ix_6_4 : ixN 6 4 = some 4 := (rfl)
theorem ix_6_5 : ixN 6 5 = some 5 := (rfl)
theorem lstAt_setE (h : (lstAt S l).isSome = true) : lstAt (S.set l (.lst ys)) l = some ys := by
  obtain ⟨xs, e⟩ := Option.isSome_iff_exists.mp h
  exact lstAt_set e
theorem kb_bool_bool : kitB "bool" "bool" = some true := by decide +kernel
theorem kb_bool_int : kitB "bool" "int" = some true := by decide +kernel
theorem kb_bool_str : kitB "bool" "str" = some false := by decide +kernel
theorem kb_bool_tuple : kitB "bool" "tuple" = some false := by decide +kernel
theorem kb_bool_list : kitB "bool" "list" = some false := by decide +kernel
theorem kb_int_bool : kitB "int" "bool" = some false := by decide +kernel
theorem kb_int_int : kitB "int" "int" = some true := by decide +kernel
theorem kb_int_str : kitB "int" "str" = some false := by decide +kernel
theorem kb_int_tuple : kitB "int" "tuple" = some false := by decide +kernel
theorem kb_int_list : kitB "int" "list" = some false := by decide +kernel
theorem kb_str_bool : kitB "str" "bool" = some false := by decide +kernel
theorem kb_str_int : kitB "str" "int" = some false := by decide +kernel
theorem kb_str_str : kitB "str" "str" = some true := by decide +kernel
theorem kb_str_tuple : kitB "str" "tuple" = some false := by decide +kernel
theorem kb_str_list : kitB "str" "list" = some false := by decide +kernel
theorem kb_tuple_bool : kitB "tuple" "bool" = some false := by decide +kernel
theorem kb_tuple_int : kitB "tuple" "int" = some false := by decide +kernel
theorem kb_tuple_str : kitB "tuple" "str" = some false := by decide +kernel
theorem kb_tuple_tuple : kitB "tuple" "tuple" = some true := by decide +kernel
theorem kb_tuple_list : kitB "tuple" "list" = some false := by decide +kernel
theorem kb_list_bool : kitB "list" "bool" = some false := by decide +kernel
theorem kb_list_int : kitB "list" "int" = some false := by decide +kernel
theorem kb_list_str : kitB "list" "str" = some false := by decide +kernel
theorem kb_list_tuple : kitB "list" "tuple" = some false := by decide +kernel
theorem kb_list_list : kitB "list" "list" = some true := by decide +kernel
theorem kb_NoneType_bool : kitB "NoneType" "bool" = some false := by decide +kernel
theorem kb_NoneType_int : kitB "NoneType" "int" = some false := by decide +kernel
theorem kb_NoneType_str : kitB "NoneType" "str" = some false := by decide +kernel
theorem kb_NoneType_tuple : kitB "NoneType" "tuple" = some false := by decide +kernel
theorem kb_NoneType_list : kitB "NoneType" "list" = some false := by decide +kernel
theorem isN_non : isNon .non = true := (rfl)
theorem isN_bl {b : Bool} : isNon (.bl b) = false := (rfl)
theorem isN_int {b : Int} : isNon (.int b) = false := (rfl)
theorem isN_str {b : Str} : isNon (.str b) = false := (rfl)
theorem isN_tup : isNon (.tup xs) = false := (rfl)
theorem isN_rol : isNon (.rol xs) = false := (rfl)
theorem isN_loc : isNon (.loc l) = false := (rfl)
theorem ty_non : tyName .non = "NoneType" := (rfl)
theorem ty_bl {b : Bool} : tyName (.bl b) = "bool" := (rfl)
theorem ty_int {b : Int} : tyName (.int b) = "int" := (rfl)
theorem ty_str {b : Str} : tyName (.str b) = "str" := (rfl)
theorem ty_tup : tyName (.tup xs) = "tuple" := (rfl)
theorem ty_rol : tyName (.rol xs) = "list" := (rfl)
theorem ty_loc : tyName (.loc l) = "list" := (rfl)
theorem o_eqB {p q : Bool} : WO Q tt (oEq (.bl p) (.bl q) S) = Q (.bl (p == q)) S := by cases p <;> cases q <;> rfl
theorem o_neB {p q : Bool} : WO Q tt (oNe (.bl p) (.bl q) S) = Q (.bl (!(p == q))) S := by cases p <;> cases q <;> rfl
theorem isBl_bl {p q : Bool} : isBl p (.bl q) = (q == p) := (rfl)
theorem mul1 {i j : Int} (h : -18446744073709551616 < i ∧ i < 18446744073709551616) : MulOk i j := .inl (.inl h)
theorem mul2 {i j : Int} (h : -18446744073709551616 < j ∧ j < 18446744073709551616) : MulOk i j := .inl (.inr h)
theorem divS {j : Int} (h : 0 < j) (h2 : j < 1073741824) : DivOk j := .inl ⟨h, h2⟩
/-! ### the same value -/
theorem fitsL_iff : ∀ {xs : List D}, D.fitsL xs = true ↔ ∀ x ∈ xs, x.fits = true
  | [] => by simp [D.fitsL]
  | x :: xs => by simp [D.fitsL, fitsL_iff]
mutual
theorem eqv_refl : ∀ x : D, x.fits = true → D.eqv x x = true
  | .non, _ => rfl
  | .bl b, _ => by simp [D.eqv]
  | .int i, _ => by simp [D.eqv]
  | .str x, _ => by simp [D.eqv]
  | .tup xs, h => by rw [D.eqv]; exact eqvL_refl xs (by simpa [D.fits] using h)
  | .rol xs, h => by rw [D.eqv]; exact eqvL_refl xs (by simpa [D.fits] using h)
  | .loc l, h => by simp [D.fits] at h
theorem eqvL_refl : ∀ xs : List D, D.fitsL xs = true → D.eqvL xs xs = true
  | [], _ => rfl
  | x :: xs, h => by
    rw [D.fitsL, Bool.and_eq_true] at h
    rw [D.eqvL, eqv_refl x h.1, eqvL_refl xs h.2]; rfl
end
mutual
/-- no bool in it -/
def D.nb : D → Bool
  | .bl _ => false
  | .tup xs => D.nbL xs
  | .rol xs => D.nbL xs
  | _ => true
def D.nbL : List D → Bool
  | [] => true
  | x :: xs => x.nb && D.nbL xs
end
mutual
theorem eqv_eq : ∀ {x y : D}, x.nb = true → y.nb = true → D.eqv x y = true → x = y
  | .non, .non, _, _, _ => rfl
  | .int i, .int j, _, _, h => by simp [D.eqv] at h; rw [h]
  | .str i, .str j, _, _, h => by simp [D.eqv] at h; rw [h]
  | .tup xs, .tup ys, h1, h2, h => congrArg _ (eqvL_eq (by simpa [D.nb] using h1) (by simpa [D.nb] using h2) (by simpa [D.eqv] using h))
  | .rol xs, .rol ys, h1, h2, h => congrArg _ (eqvL_eq (by simpa [D.nb] using h1) (by simpa [D.nb] using h2) (by simpa [D.eqv] using h))
  | .bl _, _, h, _, _ => by simp [D.nb] at h
  | .non, .bl _, _, h, _ => by simp [D.nb] at h
  | .int _, .bl _, _, h, _ => by simp [D.nb] at h
  | .str _, .bl _, _, h, _ => by simp [D.nb] at h
  | .tup _, .bl _, _, h, _ => by simp [D.nb] at h
  | .rol _, .bl _, _, h, _ => by simp [D.nb] at h
  | .loc _, .bl _, _, h, _ => by simp [D.nb] at h
  | .loc _, .non, _, _, h => by simp [D.eqv] at h
  | .loc _, .int _, _, _, h => by simp [D.eqv] at h
  | .loc _, .str _, _, _, h => by simp [D.eqv] at h
  | .loc _, .tup _, _, _, h => by simp [D.eqv] at h
  | .loc _, .rol _, _, _, h => by simp [D.eqv] at h
  | .loc _, .loc _, _, _, h => by simp [D.eqv] at h
  | .non, .loc _, _, _, h => by simp [D.eqv] at h
  | .int _, .loc _, _, _, h => by simp [D.eqv] at h
  | .str _, .loc _, _, _, h => by simp [D.eqv] at h
  | .tup _, .loc _, _, _, h => by simp [D.eqv] at h
  | .rol _, .loc _, _, _, h => by simp [D.eqv] at h
  | .non, .int _, _, _, h => by simp [D.eqv] at h
  | .non, .str _, _, _, h => by simp [D.eqv] at h
  | .non, .tup _, _, _, h => by simp [D.eqv] at h
  | .non, .rol _, _, _, h => by simp [D.eqv] at h
  | .int _, .non, _, _, h => by simp [D.eqv] at h
  | .int _, .str _, _, _, h => by simp [D.eqv] at h
  | .int _, .tup _, _, _, h => by simp [D.eqv] at h
  | .int _, .rol _, _, _, h => by simp [D.eqv] at h
  | .str _, .non, _, _, h => by simp [D.eqv] at h
  | .str _, .int _, _, _, h => by simp [D.eqv] at h
  | .str _, .tup _, _, _, h => by simp [D.eqv] at h
  | .str _, .rol _, _, _, h => by simp [D.eqv] at h
  | .tup _, .non, _, _, h => by simp [D.eqv] at h
  | .tup _, .int _, _, _, h => by simp [D.eqv] at h
  | .tup _, .str _, _, _, h => by simp [D.eqv] at h
  | .tup _, .rol _, _, _, h => by simp [D.eqv] at h
  | .rol _, .non, _, _, h => by simp [D.eqv] at h
  | .rol _, .int _, _, _, h => by simp [D.eqv] at h
  | .rol _, .str _, _, _, h => by simp [D.eqv] at h
  | .rol _, .tup _, _, _, h => by simp [D.eqv] at h
theorem eqvL_eq : ∀ {xs ys : List D}, D.nbL xs = true → D.nbL ys = true → D.eqvL xs ys = true → xs = ys
  | [], [], _, _, _ => rfl
  | [], _ :: _, _, _, h => by simp [D.eqvL] at h
  | _ :: _, [], _, _, h => by simp [D.eqvL] at h
  | x :: xs, y :: ys, h1, h2, h => by
    rw [D.nbL, Bool.and_eq_true] at h1 h2
    rw [D.eqvL, Bool.and_eq_true] at h
    rw [eqv_eq h1.1 h2.1 h.1, eqvL_eq h1.2 h2.2 h.2]
end
mutual
/-- a value without lists, its tuples not too long -/
def D.pl : D → Prop
  | .tup xs => xs.length ≤ 1000000 ∧ D.plL xs
  | .rol _ => False
  | .loc _ => False
  | _ => True
def D.plL : List D → Prop
  | [] => True
  | x :: xs => x.pl ∧ D.plL xs
end
theorem plL_iff : ∀ {xs : List D}, D.plL xs ↔ ∀ x ∈ xs, x.pl
  | [] => by simp [D.plL]
  | x :: xs => by simp [D.plL, plL_iff]
theorem pair_perm {α : Type} {a b s t : α} (h : [a, b].Perm [s, t]) : (a = s ∧ b = t) ∨ (a = t ∧ b = s) := by
  have hm : a ∈ [s, t] := h.mem_iff.mp (by simp)
  simp only [List.mem_cons, List.not_mem_nil, or_false] at hm
  rcases hm with rfl | rfl
  · have := List.Perm.cons_inv h
    have := List.singleton_perm_singleton.mp this
    exact .inl ⟨rfl, this⟩
  · have h2 := h.trans (List.Perm.swap a s [])
    have := List.Perm.cons_inv h2
    have := List.singleton_perm_singleton.mp this
    exact .inr ⟨rfl, this⟩
section
variable {x : XQ} {QL : List D → Store → Prop} {S : Store} {ds acc : List D} {gd : Gd} {p : Pat} {te : DE} {σ : Sg}
/-- a comprehension that only reckons -/
theorem W_cPure (g : D → D) {tt} (hg : gd.ok S) (hl : acc.length + ds.length ≤ sizeLine) (h1 : ∀ d ∈ ds, WM (fun σ1 => W (X0, fun y S3 => y = g d ∧ S3 = S) tg (te σ1 S)) tg (p.bind S d σ)) (h2 : QL (acc ++ ds.map g) S) : W (x, QL) tt (compL gd p tYesD te ds acc σ S) := by
  refine W_cMap (fun d y => y = g d) (fun S' => S' = S) rfl hl (fun S' e => e ▸ hg) (fun d S' hd e => by subst e; exact h1 d hd) fun ys S' e h => ?_
  subst e
  have : ys = ds.map g := by
    clear h2 hl h1
    induction h with
    | nil => rfl
    | cons p _ ih => rw [p, ih]; rfl
  rw [this]; exact h2
end
theorem intsTo_mem {lo : Int} {n : Nat} {d : D} (h : d ∈ intsTo lo n) : ∃ i : Int, d = .int i ∧ lo ≤ i ∧ i < lo + n := by
  unfold intsTo at h
  obtain ⟨k, hk, rfl⟩ := List.mem_map.mp h
  have := List.mem_range.mp hk
  exact ⟨_, rfl, by omega, by omega⟩
theorem intsTo_len {lo : Int} {n : Nat} : (intsTo lo n).length = n := by simp [intsTo]
/-! texts -/
theorem strOk_app {a b : Str} (ha : PyData.strOk a = true) (hb : PyData.strOk b = true) : PyData.strOk (a ++ b) = true := by
  have e : (a ++ b).cps = a.cps ++ b.cps := rfl
  unfold PyData.strOk at *
  rw [e, Array.all_append, ha, hb]; rfl
theorem strOk_one {c : Nat} {a : Str} (ha : PyData.strOk a = true) (h : c ∈ a.cps.toList) : PyData.strOk ⟨#[c]⟩ = true := by
  unfold PyData.strOk at *
  rw [Array.all_eq_true'] at ha
  have := ha c (by simpa using h)
  simpa using this
theorem len_app {a b : Str} : (a ++ b).length = a.length + b.length := by
  show (a.cps ++ b.cps).size = _
  rw [Array.size_append]; rfl
theorem WM_in {α : Type} {q : α → Prop} {t : Tg q} {xs : List α} {i : Int} (h : 0 ≤ i) (h2 : i < xs.length) (hq : ∀ d ∈ xs, q d) : WM q t (atI xs i) := by
  have h3 : i.toNat < xs.length := by omega
  have : atI xs i = some xs[i.toNat] := by
    unfold atI ixN
    rw [if_pos h, if_pos h2, Option.bind_some, List.getElem?_eq_getElem h3]
  rw [this]
  exact hq _ (List.getElem_mem h3)
/-! ### the store behind the well: cells 0 and 1 are the well's -/
structure Fr (S S' : Store) : Prop where
  len : S.length ≤ S'.length
  keep : ∀ a, 2 ≤ a → a < S.length → S'[a]? = S[a]?
theorem Fr.refl (S : Store) : Fr S S := ⟨Nat.le_refl _, fun _ _ _ => rfl⟩
theorem Fr.trans (h : Fr S S') (h' : Fr S' S'') : Fr S S'' := ⟨Nat.le_trans h.len h'.len, fun a h2 hl => by rw [h'.keep a h2 (Nat.lt_of_lt_of_le hl h.len), h.keep a h2 hl]⟩
theorem Fr.app (T : Store) (h : Fr S S') : Fr S (S' ++ T) := ⟨by rw [List.length_append]; have := h.len; omega, fun a h2 hl => by
  rw [List.getElem?_append_left (Nat.lt_of_lt_of_le hl h.len), h.keep a h2 hl]⟩
theorem Fr.set {c : Cell} (h : Fr S S') (hl : S.length ≤ l) : Fr S (S'.set l c) := ⟨by rw [List.length_set]; exact h.len, fun a h2 hk => by
  rw [List.getElem?_set_ne (by omega), h.keep a h2 hk]⟩
theorem Fr.lst (h : Fr S S') (h2 : 2 ≤ l) (hl : lstAt S l = some xs) : lstAt S' l = some xs := by
  rw [lstAt_iff] at hl ⊢
  rw [h.keep l h2 (List.getElem?_eq_some_iff.mp hl).1, hl]
def WellOk (S : Store) : Prop := ∃ deep c d rows, lstAt S 1 = some [.int deep, .loc 0, .int c, .int d] ∧ lstAt S 0 = some rows ∧ rows ≠ [] ∧ ∀ z ∈ rows, ∃ i, z = .int i
theorem WellOk.len (h : WellOk S) : 2 ≤ S.length := by
  obtain ⟨_, _, _, _, h, _⟩ := h
  exact lstAt_lt h
theorem WellOk.app (T : Store) (h : WellOk S) : WellOk (S ++ T) := by
  obtain ⟨a, b, c, d, h1, h2, h3⟩ := h
  exact ⟨a, b, c, d, lstAt_app h1, lstAt_app h2, h3⟩
theorem WellOk.set (h : WellOk S) (hl : 2 ≤ l) : WellOk (S.set l (.lst xs)) := by
  obtain ⟨a, b, c, d, h1, h2, h3⟩ := h
  exact ⟨a, b, c, d, by rw [lstAt_set_ne (by omega)]; exact h1, by rw [lstAt_set_ne (by omega)]; exact h2, h3⟩
theorem lstAt_Fr_set (h : lstAt S l = some xs) (h2 : l ≠ m) : lstAt (S.set m (.lst ys)) l = some xs := by rw [lstAt_set_ne (Ne.symm h2)]; exact h
/-- a list of the store is changed, the store gets a new name -/
theorem extend_w {Q : D → Store → Prop} {tt : Tg Q} {S : Store} {l m : Nat} {ys zs : List D} (hl : lstAt S l = some ys) (hm : lstAt S m = some zs) (h : ys.length + zs.length ≤ sizeLine)
    (hq : ∀ T, T = S.set l (.lst (ys ++ zs)) → lstAt T l = some (ys ++ zs) → Q .non T) : WO Q tt (mExtend (.loc l) [.loc m] S) := by
  rw [o_extend, hl, WM_some, hm, WM_some]
  exact ⟨h, hq _ rfl (lstAt_set hl)⟩
theorem append_w {Q : D → Store → Prop} {tt : Tg Q} {S : Store} {l : Nat} {d : D} {ys : List D} (hl : lstAt S l = some ys) (h : ys.length < sizeLine)
    (hq : ∀ T, T = S.set l (.lst (ys ++ [d])) → lstAt T l = some (ys ++ [d]) → Q .non T) : WO Q tt (mAppend (.loc l) [d] S) := by
  rw [o_append, hl, WM_some]
  exact ⟨h, hq _ rfl (lstAt_set hl)⟩
theorem sorted_w {Q : D → Store → Prop} {tt : Tg Q} {S : Store} {l : Nat} {ys : List D} (hl : lstAt S l = some ys) (h : okSort ys) (hq : Q (.loc S.length) (S ++ [.lst (sortD ys)])) : WO Q tt (oSorted [.loc l] S) := by
  rw [o_sorted, hl, WM_some]
  exact ⟨h, hq⟩
theorem WM_at {q : D → Prop} {t : Tg q} {xs : List D} {i : Int} (h : 0 ≤ i) (h2 : i < xs.length) (hq : ∀ d ∈ xs, q d) : WM q t (atI xs i) := by
  obtain ⟨d, h3, h4⟩ := atI_of h h2
  rw [h4]
  exact hq d (List.mem_of_getElem? h3)
theorem WM_last {q : D → Prop} {t : Tg q} {xs : List D} (h : xs ≠ []) (hq : ∀ d ∈ xs, q d) : WM q t (atI xs (-1)) := by
  have hl : 0 < xs.length := List.length_pos_iff.mpr h
  have e : atI xs (-1) = xs[xs.length - 1]? := by
    unfold atI ixN
    rw [if_neg (by omega), if_pos (by omega), Option.bind_some]
    congr 1
    omega
  rw [e, List.getElem?_eq_getElem (by omega)]
  exact hq _ (List.getElem_mem _)
theorem bits_small {i : Int} {n : Nat} (h0 : 0 ≤ i) (h : i < 2 ^ n) (hn : 0 < n) : i.natAbs.log2 < n := by
  have h1 : i.natAbs < 2 ^ n := by
    have : ((i.natAbs : Nat) : Int) < ((2 ^ n : Nat) : Int) := by push_cast; rw [Int.natAbs_of_nonneg h0]; exact h
    exact_mod_cast this
  by_cases hz : i.natAbs = 0
  · rw [hz]; simpa using hn
  · exact (Nat.log2_lt hz).mpr h1
theorem pop_w {Q : D → Store → Prop} {tt : Tg Q} {S : Store} {l : Nat} {d : D} {ys : List D} (hl : lstAt S l = some (ys ++ [d]))
    (hq : ∀ T, T = S.set l (.lst ys) → lstAt T l = some ys → Q d T) : WO Q tt (mPop (.loc l) [] S) := by
  show WO Q tt (match S[l]? with | some (.lst ys) => (match ys[ys.length - 1]? with | some d => some (d, S.set l (.lst ys.dropLast)) | none => none) | _ => none)
  rw [lstAt_iff.mp hl]
  simp only [List.length_append, List.length_cons, List.length_nil, Nat.add_sub_cancel, Nat.zero_add, List.getElem?_concat_length, List.dropLast_concat]
  exact hq _ rfl (lstAt_set hl)
/-- the place that an int tells -/
def ixD : D → Nat
  | .int k => k.toNat
  | _ => 0
theorem intsTo_map_get {f : D → D} (xs : List D) : (intsTo 0 xs.length).map (fun d => f (xs.getD (ixD d) .non)) = xs.map f := by
  apply List.ext_getElem
  · simp [intsTo_len]
  · intro i h1 h2
    simp only [List.length_map] at h2
    simp [intsTo, ixD, List.getD_eq_getElem?_getD, h2]
mutual
def D.sz : D → Nat
  | .tup xs => 1 + D.szL xs
  | _ => 1
def D.szL : List D → Nat
  | [] => 0
  | x :: xs => x.sz + D.szL xs
end
theorem szL_app : ∀ (a b : List D), D.szL (a ++ b) = D.szL a + D.szL b
  | [], b => by simp [D.szL]
  | x :: a, b => by rw [List.cons_append, D.szL, D.szL, szL_app a b]; omega
/-- a comprehension that only reckons, with a test -/
theorem W_cFilt {x : XQ} {QL : List D → Store → Prop} {S : Store} {ds acc : List D} {gd : Gd} {p : Pat} {t : DT} {te : DE} {σ : Sg} (t' : D → Bool) (g : D → D) {tt} (hg : gd.ok S) (hl : acc.length + ds.length ≤ sizeLine)
    (h1 : ∀ d ∈ ds, WM (fun σ1 => WB ⟨fun S2 => t' d = true ∧ S2 = S ∧ W (X0, fun y S3 => y = g d ∧ S3 = S) tg (te σ1 S), fun S2 => t' d = false ∧ S2 = S, X0⟩ tg (t σ1 S)) tg (p.bind S d σ)) (h2 : QL (acc ++ (ds.filter t').map g) S) : W (x, QL) tt (compL gd p t te ds acc σ S) := by
  induction ds generalizing acc with
  | nil =>
    rw [compL, if_pos hg]
    rw [List.filter_nil, List.map_nil, List.append_nil] at h2
    exact h2
  | cons d r ih =>
    rw [compL, if_pos hg]
    have z := h1 d (by simp)
    rw [List.length_cons] at hl
    cases q1 : p.bind S d σ with
    | none => rw [q1] at z; exact z.elim
    | some σ1 =>
      rw [q1] at z
      simp only [WM] at z ⊢
      cases q2 : t σ1 S with
      | ok c S2 =>
        rw [q2] at z
        cases c with
        | true =>
          simp only [WB] at z ⊢
          obtain ⟨z0, rfl, z⟩ := z
          cases q3 : te σ1 S2 with
          | ok y S3 =>
            rw [q3] at z
            obtain ⟨rfl, rfl⟩ := z
            simp only
            rw [if_pos (by omega)]
            refine ih (by simp; omega) (fun d hd => h1 d (List.mem_cons_of_mem _ hd)) ?_
            rw [List.filter_cons_of_pos z0, List.map_cons] at h2
            rw [List.append_assoc]
            exact h2
          | ex e S3 => rw [q3] at z; exact z.elim
          | no => rw [q3] at z; exact z.elim
        | false =>
          simp only [WB] at z ⊢
          obtain ⟨z0, rfl⟩ := z
          refine ih (by omega) (fun d hd => h1 d (List.mem_cons_of_mem _ hd)) ?_
          rw [List.filter_cons_of_neg (by simp [z0])] at h2
          exact h2
      | ex e S2 => rw [q2] at z; exact z.elim
      | no => rw [q2] at z; exact z.elim
theorem ix_items {Q : D → Store → Prop} {tt : Tg Q} {S : Store} {c : D} {xs : List D} {i : Int} (h : itemsOf S c = some xs) : WO Q tt (oIx c (.int i) S) = WM (fun d => Q d S) tg (atI xs i) := by
  cases c with
  | tup ys => cases h; exact o_ixT
  | rol ys => cases h; exact o_ixR
  | loc l => rw [o_ixL, show lstAt S l = some xs from h, WM_some]
  | _ => cases h
theorem len_items {Q : D → Store → Prop} {tt : Tg Q} {S : Store} {c : D} {xs : List D} (h : itemsOf S c = some xs) : WO Q tt (oLen [c] S) = Q (.int xs.length) S := by
  cases c with
  | tup ys => cases h; exact o_lenT
  | rol ys => cases h; exact o_lenR
  | loc l => rw [o_lenL, show lstAt S l = some xs from h, WM_some]
  | _ => cases h
/-- a tuple or a list that stays, its items -/
def Cont (c : D) (gd : Gd) (xs : List D) (S : Store) : Prop := ∀ S', Fr S S' → itemsOf S' c = some xs ∧ itOf S' c = some (gd, xs) ∧ gd.ok S'
theorem Cont.tup {xs : List D} {S : Store} : Cont (.tup xs) none xs S := fun _ _ => ⟨rfl, rfl, trivial⟩
theorem Cont.loc {l : Nat} {xs : List D} {S : Store} (h2 : 2 ≤ l) (h : lstAt S l = some xs) : Cont (.loc l) (some (l, xs)) xs S := fun S' F => ⟨F.lst h2 h, it_loc (F.lst h2 h), lstAt_iff.mp (F.lst h2 h)⟩
theorem Cont.fr {c : D} {gd : Gd} {xs : List D} {S S' : Store} (h : Cont c gd xs S) (F : Fr S S') : Cont c gd xs S' := fun _ F' => h _ (F.trans F')
end
end DL

namespace DL
open PySem PySem.Spec PyProof.Rows L2
section
variable {Q : D → Store → Prop} {S : Store} {i j : Int} {a b : Str} {xs ys : List D} {l m : Nat} {d e : D} {tt : Tg Q}
theorem o_listXt : WO Q tt (oListX [.tup xs] S) = Q (.loc S.length) (S ++ [.lst xs]) := (rfl)
theorem o_listXr : WO Q tt (oListX [.rol xs] S) = Q (.loc S.length) (S ++ [.lst xs]) := (rfl)
theorem o_listXl : WO Q tt (oListX [.loc l] S) = WM (fun xs => Q (.loc S.length) (S ++ [.lst xs])) tg (lstAt S l) := o_list
theorem o_listXs : WO Q tt (oListX [.str a] S) = (a.cps.size ≤ sizeLine ∧ Q (.loc S.length) (S ++ [.lst (signsD a)])) := WO_if
theorem o_sortedXt : WO Q tt (oSortedX [.tup xs] S) = (okSort xs ∧ Q (.loc S.length) (S ++ [.lst (sortD xs)])) := by
  classical
  unfold oSortedX
  by_cases h : okSort xs <;> simp [h, WO]
theorem o_sortedXl : WO Q tt (oSortedX [.loc l] S) = WM (fun xs => okSort xs ∧ Q (.loc S.length) (S ++ [.lst (sortD xs)])) tg (lstAt S l) := o_sorted
end
theorem WS_mid (I : Sg → Store → Prop) {q : SQ} {k : Sg → Store → Prop} {r : SR} {tt : Tg (qn q k)} (h1 : WS (qn q I) tg r) (h2 : ∀ σ S, I σ S → k σ S) : WS (qn q k) tt r :=
  WS_mono h1 (fun σ S h => h2 σ S h) (fun _ _ h => h) (fun _ _ h => h) (fun _ _ h => h) fun _ _ _ h => h
theorem WB_mid (I J : Store → Prop) {q : BQ} {r : Res Bool} {tt : Tg q} (h1 : WB ⟨I, J, q.x⟩ tg r) (h2 : ∀ S, I S → q.t S) (h3 : ∀ S, J S → q.f S) : WB q tt r := by
  cases r with
  | ok b S => cases b; exact h3 _ h1; exact h2 _ h1
  | ex e S => exact h1
  | no => exact h1
theorem W_mid {α : Type} (I : α → Store → Prop) {x : XQ} {Q : α → Store → Prop} {r : Res α} {tt : Tg (x, Q)} (h1 : W (x, I) tg r) (h2 : ∀ a S, I a S → Q a S) : W (x, Q) tt r := W_mono h1 h2 fun _ _ h => h
section
variable {xs : List D}
theorem sIx_nn {n d : Nat} {k : Int} (h : 0 ≤ k) : HT.sIx n d (some k) = min k.toNat n := by
  unfold HT.sIx
  rcases Nat.lt_or_ge k.toNat n with h1 | h1 <;> simp <;> omega
theorem sIx_neg {n d : Nat} {k : Int} (h : k < 0) : HT.sIx n d (some k) = (n + k).toNat := by
  unfold HT.sIx
  show (if k < 0 then (k + (n : Int)).toNat else min k.toNat n) = _
  rw [if_pos h, Int.add_comm]
theorem cut_take {k : Int} (h : 0 ≤ k) : cutD xs none (some k) = xs.take k.toNat := by
  unfold cutD
  rw [sIx_nn h]
  show (xs.drop 0).take (min k.toNat xs.length - 0) = _
  rw [List.drop_zero, Nat.sub_zero, ← List.take_take, List.take_length]
theorem cut_drop {k : Int} (h : 0 ≤ k) : cutD xs (some k) none = xs.drop k.toNat := by
  unfold cutD
  rw [sIx_nn h]
  show (xs.drop (min k.toNat xs.length)).take (xs.length - min k.toNat xs.length) = _
  by_cases h1 : k.toNat ≤ xs.length
  · rw [Nat.min_eq_left h1, List.take_of_length_le (by rw [List.length_drop]; omega)]
  · rw [Nat.min_eq_right (by omega), List.drop_length, List.drop_eq_nil_of_le (by omega)]; simp
theorem cut_both {j k : Int} (h : 0 ≤ j) (h' : 0 ≤ k) : cutD xs (some j) (some k) = (xs.drop j.toNat).take (k.toNat - j.toNat) := by
  unfold cutD
  rw [sIx_nn h, sIx_nn h']
  by_cases h1 : j.toNat ≤ xs.length
  · rw [Nat.min_eq_left h1]
    by_cases h2 : k.toNat ≤ xs.length
    · rw [Nat.min_eq_left h2]
    · rw [Nat.min_eq_right (by omega), List.take_of_length_le (by rw [List.length_drop]; omega), List.take_of_length_le (by rw [List.length_drop]; omega)]
  · rw [show min j.toNat xs.length = xs.length by omega, List.drop_length, List.drop_eq_nil_of_le (by omega)]; simp
theorem cut_all {k : Int} (h : (xs.length : Int) ≤ k) : cutD xs none (some k) = xs := by
  rw [cut_take (by omega), List.take_of_length_le (by omega)]
theorem cut_last {k : Int} (h : k < 0) : cutD xs none (some k) = xs.take (xs.length + k).toNat := by
  unfold cutD
  rw [sIx_neg h]
  show (xs.drop 0).take ((xs.length + k).toNat - 0) = _
  rw [List.drop_zero, Nat.sub_zero]
end
theorem itOf_cell {S : Store} {l : Nat} {xs : List D} (h : S[l]? = some (.lst xs)) : itOf S (.loc l) = some (some (l, xs), xs) := it_loc (lstAt_iff.mpr h)
/-- cells from k on stand as they did; new ones may be there -/
structure Fk (k : Nat) (S S' : Store) : Prop where
  len : S.length ≤ S'.length
  keep : ∀ a, k ≤ a → a < S.length → S'[a]? = S[a]?
section
variable {k l : Nat} {S S' S'' : Store} {xs : List D} {c : Cell}
theorem Fk.refl (k : Nat) (S : Store) : Fk k S S := ⟨Nat.le_refl _, fun _ _ _ => rfl⟩
theorem Fk.trans (h : Fk k S S') (h' : Fk k S' S'') : Fk k S S'' := ⟨Nat.le_trans h.len h'.len, fun a h2 hl => by rw [h'.keep a h2 (Nat.lt_of_lt_of_le hl h.len), h.keep a h2 hl]⟩
theorem Fk.app (T : Store) (h : Fk k S S') : Fk k S (S' ++ T) := ⟨by rw [List.length_append]; have := h.len; omega, fun a h2 hl => by
  rw [List.getElem?_append_left (Nat.lt_of_lt_of_le hl h.len), h.keep a h2 hl]⟩
theorem Fk.set (h : Fk k S S') (hl : S.length ≤ l) : Fk k S (S'.set l c) := ⟨by rw [List.length_set]; exact h.len, fun a h2 hk => by
  rw [List.getElem?_set_ne (by omega), h.keep a h2 hk]⟩
theorem Fk.set1 (h : Fk k S S') (hl : l < k) : Fk k S (S'.set l c) := ⟨by rw [List.length_set]; exact h.len, fun a h2 hk => by
  rw [List.getElem?_set_ne (by omega), h.keep a h2 hk]⟩
theorem Fk.lst (h : Fk k S S') (h2 : k ≤ l) (hl : lstAt S l = some xs) : lstAt S' l = some xs := by
  rw [lstAt_iff] at hl ⊢
  rw [h.keep l h2 (List.getElem?_eq_some_iff.mp hl).1, hl]
theorem Fk.mono {k' : Nat} (h : Fk k S S') (hk : k ≤ k') : Fk k' S S' := ⟨h.len, fun a h2 hl => h.keep a (by omega) hl⟩
/-- what may be walked: a tuple, or a list that stays -/
def Ck (k : Nat) (c : D) (gd : Gd) (xs : List D) (S : Store) : Prop := ∀ S', Fk k S S' → itemsOf S' c = some xs ∧ itOf S' c = some (gd, xs) ∧ gd.ok S'
theorem Ck.tup : Ck k (.tup xs) none xs S := fun _ _ => ⟨rfl, rfl, trivial⟩
theorem Ck.loc (h2 : k ≤ l) (h : lstAt S l = some xs) : Ck k (.loc l) (some (l, xs)) xs S := fun S' F => ⟨F.lst h2 h, it_loc (F.lst h2 h), lstAt_iff.mp (F.lst h2 h)⟩
theorem Ck.fr {c : D} {gd : Gd} (h : Ck k c gd xs S) (F : Fk k S S') : Ck k c gd xs S' := fun _ F' => h _ (F.trans F')
end
theorem lstAt_h0 {xs : List D} {S : Store} : lstAt (.lst xs :: S) 0 = some xs := (rfl)
theorem lstAt_h1 {c : Cell} {xs : List D} {S : Store} : lstAt (c :: .lst xs :: S) 1 = some xs := (rfl)
theorem lstAt_h2 {c d : Cell} {xs : List D} {S : Store} : lstAt (c :: d :: .lst xs :: S) 2 = some xs := (rfl)
theorem lstAt_h3 {c d e : Cell} {xs : List D} {S : Store} : lstAt (c :: d :: e :: .lst xs :: S) 3 = some xs := (rfl)
/-! ranges that go down, new lists of what may be walked, places -/
theorem rg_down {i j : Int} (h : -1000000000 < j) (h' : i < 1000000000) (h2 : -1000000000 < i) (h3 : j < 1000000000) : okRg i j (-1) ∧ rgN i j (-1) = (i - j).toNat := by
  have e : Builtin.Range.rangeSize i j (-1) = if j < i then i - j else 0 := by
    unfold Builtin.Range.rangeSize
    rw [if_neg (by decide)]
    by_cases hl : i > j
    · rw [if_pos hl, if_pos hl]
      simp
    · rw [if_neg hl, if_neg hl]
  refine ⟨⟨by decide, by decide, ?_, by rw [e]; split <;> omega⟩, by unfold rgN; rw [e]; split <;> omega⟩
  unfold Builtin.Range.small
  rw [e]
  have fl : ∀ z : Int, -4000000000 ≤ z → z ≤ 4000000000 → Builtin.Range.rangeFitsLong z = true := fun z h1 h2 => by
    unfold Builtin.Range.rangeFitsLong
    simp only [Bool.and_eq_true, decide_eq_true_eq]
    omega
  rw [fl i (by omega) (by omega), fl j (by omega) (by omega), fl (-1) (by decide) (by decide), fl _ (by split <;> omega) (by split <;> omega), if_neg (show ¬ ((-1 : Int) > 0) by decide), fl (j + (-1 + 1)) (by omega) (by omega)]
  simp
theorem steps_succ {a k : Int} {n : Nat} : stepsTo a k (n + 1) = .int a :: stepsTo (a + k) k n := by
  unfold stepsTo
  rw [List.range_succ_eq_map, List.map_cons, List.map_map]
  rw [List.cons.injEq]
  refine ⟨by simp, List.map_congr_left fun b _ => ?_⟩
  simp only [Function.comp]
  congr 1
  push_cast
  rw [Int.add_mul]
  omega
section
variable {q : SQ} {σ : Sg} {S : Store} {G : DG} {b : DS}
/-- a loop over a range that goes down -/
theorem WS_dloop (I : Int → Sg → Store → Prop) {hi : Int} {n : Nat} {tt} (h0 : I hi σ S)
    (h1 : ∀ i σ S, i ≤ hi → hi - n < i → I i σ S → WS (qk q fun σ S => WS (lq q (I (i - 1))) tg (b σ S)) tg (G (.int i) σ S))
    (h2 : ∀ σ S, I (hi - n) σ S → q.nx σ S) : WS q tt (forL none G b (stepsTo hi (-1) n) σ S) := by
  induction n generalizing hi σ S with
  | zero =>
    rw [show stepsTo hi (-1) 0 = [] from rfl, WS_f0]
    exact h2 _ _ (by simpa using h0)
  | succ n ih =>
    rw [steps_succ, WS_f1]
    have e : ((hi + -1 : Int) - (n : Int)) = hi - ((n + 1 : Nat) : Int) := by push_cast; omega
    refine WS_mono (t' := tg) (h1 hi σ S (by omega) (by push_cast; omega) h0) (fun σ1 S1 z => ?_) (fun _ _ z => z) (fun _ _ z => z) (fun _ _ z => z) (fun _ _ _ z => z)
    refine WS_mono (t' := tg) (t := tg) z (fun σ2 S2 z => ?_) (fun _ _ z => z) (fun _ _ z => z) (fun σ2 S2 z => ?_) (fun _ _ _ z => z)
    · exact ih z (fun i σ S a b c => h1 i σ S (by omega) (by push_cast; omega) c) fun σ S c => h2 σ S (by rw [← e]; exact c)
    · exact ih z (fun i σ S a b c => h1 i σ S (by omega) (by push_cast; omega) c) fun σ S c => h2 σ S (by rw [← e]; exact c)
end
theorem o_listXi {Q : D → Store → Prop} {S : Store} {d : D} {xs : List D} {tt : Tg Q} (h : itemsOf S d = some xs) : WO Q tt (oListX [d] S) = Q (.loc S.length) (S ++ [.lst xs]) := by
  have e : oListX [d] S = oList [d] S := by
    unfold oListX
    split
    · rename_i z e; cases e; cases h
    · rfl
  rw [e, o_list, h]
  rfl
theorem ixN_of {n : Nat} {i : Int} (h : 0 ≤ i) (h2 : i < n) : ixN n i = some i.toNat := by
  unfold ixN
  rw [if_pos h, if_pos h2]
section
variable {S : Store} {σ : Sg} {xs ys : List D} {ps qs : List Pat} {d : D} {i : Nat}
theorem b_un : Pat.bind S (.un ps) (.tup xs) σ = Pat.bindL S ps xs σ := by rw [Pat.bind]; rfl
theorem b_nil : Pat.bindL S [] [] σ = some σ := by rw [Pat.bindL]
theorem b_cnm : Pat.bindL S (.nm i :: ps) (d :: xs) σ = Pat.bindL S ps xs (σ.set i (some d)) := by rw [Pat.bindL, b_nm]
theorem b_cun : Pat.bindL S (.un qs :: ps) (.tup ys :: xs) σ = (Pat.bindL S qs ys σ).bind fun σ' => Pat.bindL S ps xs σ' := by
  rw [Pat.bindL, b_un]
  cases Pat.bindL S qs ys σ <;> rfl
end
/-! ints, sorted -/
def sortI (as : List Int) : List Int := as.mergeSort fun a b => decide (a ≤ b)
theorem sortD_ints (as : List Int) : sortD (as.map D.int) = (sortI as).map D.int := by
  unfold sortD sortI
  rw [List.map_mergeSort (r := fun a b : Int => decide (a ≤ b)) (s := PySem.W.dataLe false D.py)]
  intro a _ b _
  show decide (a ≤ b) = !PySem.W.dataLt (.int b) (.int a)
  rw [PySem.W.dataLt_int, PySem.W.not_lt_int]
theorem sortI_perm (as : List Int) : (sortI as).Perm as := List.mergeSort_perm _ _
theorem sortI_sorted (as : List Int) : (sortI as).Pairwise (· ≤ ·) := by
  refine (List.pairwise_mergeSort (le := fun a b : Int => decide (a ≤ b)) (fun a b c h1 h2 => ?_) (fun a b => ?_) as).imp fun h => by simpa using h
  · simp only [decide_eq_true_eq] at *; omega
  · simp only [Bool.or_eq_true, decide_eq_true_eq]; omega
theorem okSort_ints (as : List Int) : okSort (as.map D.int) := by
  have hd : D.depL (as.map D.int) = 0 := by
    induction as with
    | nil => rfl
    | cons a r ih => rw [List.map_cons, D.depL, ih]; rfl
  refine ⟨fitsL_iff.mpr fun y hy => ?_, by rw [hd]; decide, fun a ha b hb => ?_, .inr fun d hd => ?_⟩
  · obtain ⟨z, _, rfl⟩ := List.mem_map.mp hy; rfl
  · obtain ⟨z, _, rfl⟩ := List.mem_map.mp ha
    obtain ⟨z', _, rfl⟩ := List.mem_map.mp hb
    rfl
  · obtain ⟨e, he, rfl⟩ := List.mem_map.mp hd
    obtain ⟨z, _, rfl⟩ := List.mem_map.mp he
    exact ⟨(by intro h; cases h), (by intro xs h; cases h)⟩
def midI (a b c : Int) : Int := max (min a b) (min (max a b) c)
theorem sort3 (a b c : Int) : ∃ p r, sortI [a, b, c] = [p, midI a b c, r] := by
  have hp := sortI_perm [a, b, c]
  have hs := sortI_sorted [a, b, c]
  have hl := hp.length_eq
  rcases q : sortI [a, b, c] with _ | ⟨p, _ | ⟨m, _ | ⟨r, _ | ⟨s, t⟩⟩⟩⟩ <;> rw [q] at hl hp hs <;> simp at hl
  refine ⟨p, r, ?_⟩
  have h1 : p ∈ [a, b, c] := hp.mem_iff.mp (by simp)
  have h2 : (p = a ∧ ((m = b ∧ r = c) ∨ (m = c ∧ r = b))) ∨ (p = b ∧ ((m = a ∧ r = c) ∨ (m = c ∧ r = a))) ∨ (p = c ∧ ((m = a ∧ r = b) ∨ (m = b ∧ r = a))) := by
    simp only [List.mem_cons, List.not_mem_nil, or_false] at h1
    rcases h1 with rfl | rfl | rfl
    · exact .inl ⟨rfl, pair_perm ((List.perm_cons _).mp hp)⟩
    · exact .inr (.inl ⟨rfl, pair_perm ((List.perm_cons _).mp (hp.trans (.swap ..)))⟩)
    · refine .inr (.inr ⟨rfl, pair_perm ((List.perm_cons _).mp (hp.trans ?_))⟩)
      exact (List.Perm.cons _ (.swap ..)).trans (.swap ..)
  simp only [List.mem_cons, List.not_mem_nil, or_false, List.pairwise_cons] at hs
  have h8 := hs.1 m (.inl rfl)
  have h9 := hs.2.1 r rfl
  congr 2
  unfold midI
  omega
theorem midI_comm1 (a b c : Int) : midI b a c = midI a b c := by unfold midI; omega
theorem midI_comm2 (a b c : Int) : midI a c b = midI a b c := by unfold midI; omega
/-- only new cells -/
def Ap (S S' : Store) : Prop := ∃ T, S' = S ++ T
section
variable {S S' S'' : Store} {l k : Nat} {c : Cell} {xs : List D}
theorem Ap.refl (S : Store) : Ap S S := ⟨[], by simp⟩
theorem Ap.trans (h : Ap S S') (h' : Ap S' S'') : Ap S S'' := by
  obtain ⟨T, rfl⟩ := h
  obtain ⟨U, rfl⟩ := h'
  exact ⟨T ++ U, by rw [List.append_assoc]⟩
theorem Ap.app (T : Store) (h : Ap S S') : Ap S (S' ++ T) := h.trans ⟨T, rfl⟩
theorem Ap.set (h : Ap S S') (hl : S.length ≤ l) : Ap S (S'.set l c) := by
  obtain ⟨T, rfl⟩ := h
  exact ⟨T.set (l - S.length) c, by rw [List.set_append_right _ _ hl]⟩
theorem Ap.lst (h : Ap S S') (hl : lstAt S l = some xs) : lstAt S' l = some xs := by
  obtain ⟨T, rfl⟩ := h
  exact lstAt_app hl
theorem Ap.fk (h : Ap S S') : Fk k S S' := by
  obtain ⟨T, rfl⟩ := h
  exact (Fk.refl _ _).app _
theorem Ap.len (h : Ap S S') : S.length ≤ S'.length := (h.fk (k := 0)).len
end
section
variable {S : Store} {b : Bool} {i : Int} {z : Str} {xs : List D}
theorem nd_non : noDct .non S = true := (rfl)
theorem nd_bl : noDct (.bl b) S = true := (rfl)
theorem nd_int : noDct (.int i) S = true := (rfl)
theorem nd_str : noDct (.str z) S = true := (rfl)
theorem nd_tup : noDct (.tup xs) S = true := (rfl)
theorem nd_rol : noDct (.rol xs) S = true := (rfl)
end
section
variable {x : XQ} {QL : List D → Store → Prop} {p : Pat} {te : DE} {t : DT} {acc ds xs : List D} {σ : Sg} {S : Store} {d : D} {l : Nat}
theorem W_cg0 {tt} : W (x, QL) tt (compL (some (l, xs)) p t te [] acc σ S) = (lstAt S l = some xs ∧ QL acc S) := by
  rw [compL]
  by_cases h : lstAt S l = some xs
  · rw [if_pos (show Gd.ok (some (l, xs)) S from lstAt_iff.mp h)]; simp [h, W]
  · rw [if_neg (show ¬ Gd.ok (some (l, xs)) S from fun z => h (lstAt_iff.mpr z))]; simp [h, W]
theorem W_cg1 {tt : Tg (x, QL)} : W (x, QL) tt (compL (some (l, xs)) p t te (d :: ds) acc σ S) = (lstAt S l = some xs ∧ WM (fun σ1 => WB ⟨fun S2 => W (X0, fun y S3 => acc.length < sizeLine ∧ W (x, QL) tg (compL (some (l, xs)) p t te ds (acc ++ [y]) σ S3)) tg (te σ1 S2), fun S2 => W (x, QL) tg (compL (some (l, xs)) p t te ds acc σ S2), X0⟩ tg (t σ1 S)) tg (p.bind S d σ)) := by
  rw [compL]
  by_cases h : lstAt S l = some xs
  · rw [if_pos (show Gd.ok (some (l, xs)) S from lstAt_iff.mp h)]
    simp only [h, true_and]
    cases p.bind S d σ with
    | none => rfl
    | some σ1 =>
      simp only [WM]
      cases t σ1 S with
      | ok c S2 =>
        cases c with
        | true =>
          simp only [WB]
          cases te σ1 S2 with
          | ok y S3 =>
            simp only [W]
            by_cases hl : acc.length < sizeLine <;> simp [hl]
          | _ => rfl
        | false => rfl
      | _ => rfl
  · rw [if_neg (show ¬ Gd.ok (some (l, xs)) S from fun z => h (lstAt_iff.mpr z))]; simp [h, W]
theorem W_cx1 {tt : Tg (x, QL)} : W (x, QL) tt (compL none p t te (d :: ds) acc σ S) = WM (fun σ1 => WB ⟨fun S2 => W (X0, fun y S3 => acc.length < sizeLine ∧ W (x, QL) tg (compL none p t te ds (acc ++ [y]) σ S3)) tg (te σ1 S2), fun S2 => W (x, QL) tg (compL none p t te ds acc σ S2), X0⟩ tg (t σ1 S)) tg (p.bind S d σ) := by
  rw [compL, if_pos (show Gd.ok none S from trivial)]
  cases p.bind S d σ with
  | none => rfl
  | some σ1 =>
    simp only [WM]
    cases t σ1 S with
    | ok c S2 =>
      cases c with
      | true =>
        simp only [WB]
        cases te σ1 S2 with
        | ok y S3 => by_cases hl : acc.length < sizeLine <;> simp [hl, W]
        | _ => rfl
      | false => rfl
    | _ => rfl
end
end DL

namespace LW
open PySem PySem.Spec PyProof.Rows L2 DL
noncomputable def b_middle_of : DS := (sRet (cOfL kTup (lComp (cZip3 (cVar 0) (cVar 1) (cVar 2)) (.nm 3) tYesD (cBin oIx (cArg oSortedX (aCons (cVar 3) aNil)) (cK (.int (1)))) [3])))
@[irreducible] noncomputable def m_middle_of : FD := cDef 4 b_middle_of
theorem wm_middle_of {x : XQ} {Q : D → Store → Prop} {tt : Tg (x, Q)} {S : Store} {a0 a1 a2 : D} : W (x, Q) tt (m_middle_of [a0, a1, a2] S) = WS (qd (x, Q)) tg (b_middle_of [some a0, some a1, some a2, none] S) := by unfold m_middle_of; exact W_def
noncomputable def b__law_is_integer : DS := (sRet (cAndV (cIsi "int" (cVar 0)) (cNotV (cIsi "bool" (cVar 0)))))
@[irreducible] noncomputable def m__law_is_integer : FD := cDef 1 b__law_is_integer
theorem wm__law_is_integer {x : XQ} {Q : D → Store → Prop} {tt : Tg (x, Q)} {S : Store} {a0 : D} : W (x, Q) tt (m__law_is_integer [a0] S) = WS (qd (x, Q)) tg (b__law_is_integer [some a0] S) := by unfold m__law_is_integer; exact W_def
noncomputable def b__law_flow : DS := (sSeq (sSet 2 (cVar 1))
    (sSeq (sSet 3 (cArg oLst aNil))
    (sSeq (sFor (cIter (cCut (cVar 0) cNoPart (cPart (cK (.int (63)))))) (gSet 4) (sSeq (sSet 5 (cArg oAbs (aCons (cArg oInt (aCons (cVar 4) aNil)) aNil)))
    (sSeq (sSet 2 (cBin oMod (cArg oInt (aCons (cBin oAdd (cBin oAdd (cBin oMul (cVar 2) (cK (.int (134775813)))) (cBin oMod (cVar 5) (cK (.int (2147483563))))) (cK (.int (11)))) aNil)) (cK (.int (2147483629)))))
    (sIf (cTest (cBin oGe (cVar 5) (cBin oPow (cK (.int (10))) (cK (.int (18)))))) (sExpr (cMeth isL mAppend (cVar 3) (aCons (cVar 5) aNil))) sNil))))
    (sRet (cArg oLst (aCons (cVar 3) (aCons (cK (.int (0))) (aCons (cK (.int (0))) (aCons (cVar 2) aNil)))))))))
@[irreducible] noncomputable def m__law_flow : FD := cDef 6 b__law_flow
theorem wm__law_flow {x : XQ} {Q : D → Store → Prop} {tt : Tg (x, Q)} {S : Store} {a0 a1 : D} : W (x, Q) tt (m__law_flow [a0, a1] S) = WS (qd (x, Q)) tg (b__law_flow [some a0, some a1, none, none, none, none] S) := by unfold m__law_flow; exact W_def
noncomputable def b__law_draw : DS := (sSeq (sIf (cAnd (cTest (cBin oEq (cBin oIx (cVar 0) (cK (.int (2)))) (cK (.int (0))))) (cTest (cBin oLt (cBin oIx (cVar 0) (cK (.int (1)))) (cArg oLen (aCons (cBin oIx (cVar 0) (cK (.int (0)))) aNil))))) (sSeq (sAsg (cBin oIx (cBin oIx (cVar 0) (cK (.int (0)))) (cBin oIx (cVar 0) (cK (.int (1))))) (gSubD (cVar 0) (cK (.int (2)))))
    (sAsg (cBin oAdd (cBin oIx (cVar 0) (cK (.int (1)))) (cK (.int (1)))) (gSubD (cVar 0) (cK (.int (1)))))) sNil)
    (sSeq (sIf (cTest (cBin oGt (cBin oIx (cVar 0) (cK (.int (2)))) (cK (.int (0))))) (sSeq (sSet 2 (cBin oMod (cArg oInt (aCons (cBin oIx (cVar 0) (cK (.int (2)))) aNil)) (cVar 1)))
    (sSeq (sAsg (cBin oDiv (cBin oIx (cVar 0) (cK (.int (2)))) (cVar 1)) (gSubD (cVar 0) (cK (.int (2)))))
    (sRet (cVar 2)))) sNil)
    (sSeq (sAsg (cBin oMod (cArg oInt (aCons (cBin oAdd (cBin oMul (cBin oIx (cVar 0) (cK (.int (3)))) (cK (.int (30011)))) (cK (.int (9)))) aNil)) (cK (.int (2147483629)))) (gSubD (cVar 0) (cK (.int (3)))))
    (sRet (cBin oMod (cBin oDiv (cBin oMod (cArg oInt (aCons (cBin oMul (cBin oIx (cVar 0) (cK (.int (3)))) (cK (.int (24691)))) aNil)) (cK (.int (2147483549)))) (cK (.int (83)))) (cVar 1))))))
@[irreducible] noncomputable def m__law_draw : FD := cDef 3 b__law_draw
theorem wm__law_draw {x : XQ} {Q : D → Store → Prop} {tt : Tg (x, Q)} {S : Store} {a0 a1 : D} : W (x, Q) tt (m__law_draw [a0, a1] S) = WS (qd (x, Q)) tg (b__law_draw [some a0, some a1, none] S) := by unfold m__law_draw; exact W_def
noncomputable def b__law_middle : DS := (sRet (cOfL kTup (lComp (cZip3 (cVar 0) (cVar 1) (cVar 2)) (.nm 3) tYesD (cBin oIx (cArg oSortedX (aCons (cVar 3) aNil)) (cK (.int (1)))) [3])))
@[irreducible] noncomputable def m__law_middle : FD := cDef 4 b__law_middle
theorem wm__law_middle {x : XQ} {Q : D → Store → Prop} {tt : Tg (x, Q)} {S : Store} {a0 a1 a2 : D} : W (x, Q) tt (m__law_middle [a0, a1, a2] S) = WS (qd (x, Q)) tg (b__law_middle [some a0, some a1, some a2, none] S) := by unfold m__law_middle; exact W_def
noncomputable def b_things_of : DS := (sSeq (sSet 2 (cArg oListX (aCons (cVar 0) aNil)))
    (sSeq (sFor (cIter (cVar 1)) (gUn 3 (gC (gSet 3) (gC (gSet 4) (gC (gSet 5) gN)))) (sExpr (cMeth isL mAppend (cVar 2) (aCons (cCall m_middle_of (aCons (cBin oIx (cVar 2) (cVar 3)) (aCons (cBin oIx (cVar 2) (cVar 4)) (aCons (cBin oIx (cVar 2) (cVar 5)) aNil)))) aNil))))
    (sRet (cVar 2))))
@[irreducible] noncomputable def m_things_of : FD := cDef 6 b_things_of
theorem wm_things_of {x : XQ} {Q : D → Store → Prop} {tt : Tg (x, Q)} {S : Store} {a0 a1 : D} : W (x, Q) tt (m_things_of [a0, a1] S) = WS (qd (x, Q)) tg (b_things_of [some a0, some a1, none, none, none, none] S) := by unfold m_things_of; exact W_def
noncomputable def b__law_same_numbers : DS := (sSeq (sIf (cOr (cNot (cTru (cIsi "tuple" (cVar 0)))) (cTest (cBin oNe (cArg oLen (aCons (cVar 0) aNil)) (cArg oLen (aCons (cVar 1) aNil))))) (sRet (cK (.bl false))) sNil)
    (sSeq (sFor (cZip2 (cVar 0) (cVar 1)) (gUn 2 (gC (gSet 2) (gC (gSet 3) gN))) (sIf (cOr (cNot (cTru (cCall m__law_is_integer (aCons (cVar 2) aNil)))) (cTest (cBin oNe (cVar 2) (cVar 3)))) (sRet (cK (.bl false))) sNil))
    (sRet (cK (.bl true)))))
@[irreducible] noncomputable def m__law_same_numbers : FD := cDef 4 b__law_same_numbers
theorem wm__law_same_numbers {x : XQ} {Q : D → Store → Prop} {tt : Tg (x, Q)} {S : Store} {a0 a1 : D} : W (x, Q) tt (m__law_same_numbers [a0, a1] S) = WS (qd (x, Q)) tg (b__law_same_numbers [some a0, some a1, none, none] S) := by unfold m__law_same_numbers; exact W_def
noncomputable def b__law_shuffled : DS := (sSeq (sSet 1 (cArg oListX (aCons (cVar 1) aNil)))
    (sSeq (sFor (cRange3 (cBin oSub (cArg oLen (aCons (cVar 1) aNil)) (cK (.int (1)))) (cK (.int (0))) (cUn oNeg (cK (.int (1))))) (gSet 2) (sSeq (sSet 3 (cCall m__law_draw (aCons (cVar 0) (aCons (cBin oAdd (cVar 2) (cK (.int (1)))) aNil))))
    (sSeq (sSet 4 (cBin oIx (cVar 1) (cVar 2)))
    (sSeq (sAsg (cBin oIx (cVar 1) (cVar 3)) (gSubD (cVar 1) (cVar 2)))
    (sAsg (cVar 4) (gSubD (cVar 1) (cVar 3)))))))
    (sRet (cVar 1))))
@[irreducible] noncomputable def m__law_shuffled : FD := cDef 5 b__law_shuffled
theorem wm__law_shuffled {x : XQ} {Q : D → Store → Prop} {tt : Tg (x, Q)} {S : Store} {a0 a1 : D} : W (x, Q) tt (m__law_shuffled [a0, a1] S) = WS (qd (x, Q)) tg (b__law_shuffled [some a0, some a1, none, none, none] S) := by unfold m__law_shuffled; exact W_def
noncomputable def b__law_sheet : DS := (sRet (cOfL kTup (lComp (cIter (cVar 1)) (.un [(.nm 2), (.nm 3), (.nm 4)]) tYesD (cBin oAdd (cVar 3) (cCall m__law_draw (aCons (cVar 0) (aCons (cBin oAdd (cBin oSub (cVar 4) (cVar 3)) (cK (.int (1)))) aNil)))) [2, 3, 4])))
@[irreducible] noncomputable def m__law_sheet : FD := cDef 5 b__law_sheet
theorem wm__law_sheet {x : XQ} {Q : D → Store → Prop} {tt : Tg (x, Q)} {S : Store} {a0 a1 : D} : W (x, Q) tt (m__law_sheet [a0, a1] S) = WS (qd (x, Q)) tg (b__law_sheet [some a0, some a1, none, none, none] S) := by unfold m__law_sheet; exact W_def
noncomputable def b__law_made : DS := (sSeq (sSet 3 (cArg oListX (aCons (cVar 0) aNil)))
    (sSeq (sFor (cIter (cVar 1)) (gUn 3 (gC (gSet 4) (gC (gSet 5) (gC (gSet 6) gN)))) (sExpr (cMeth isL mAppend (cVar 3) (aCons (cCall m__law_middle (aCons (cBin oIx (cVar 3) (cVar 4)) (aCons (cBin oIx (cVar 3) (cVar 5)) (aCons (cBin oIx (cVar 3) (cVar 6)) aNil)))) aNil))))
    (sRet (cBin oIx (cVar 3) (cVar 2)))))
@[irreducible] noncomputable def m__law_made : FD := cDef 7 b__law_made
theorem wm__law_made {x : XQ} {Q : D → Store → Prop} {tt : Tg (x, Q)} {S : Store} {a0 a1 a2 : D} : W (x, Q) tt (m__law_made [a0, a1, a2] S) = WS (qd (x, Q)) tg (b__law_made [some a0, some a1, some a2, none, none, none, none] S) := by unfold m__law_made; exact W_def
noncomputable def b__law_recipe : DS := (sSeq (sSet 3 (cArg oLst aNil))
    (sSeq (sFor (cRange1 (cVar 2)) (gSet 4) (sSeq (sSet 5 (cArg oLst aNil))
    (sSeq (sFor (cRange1 (cK (.int (3)))) (gSet 6) (sSeq (sSet 7 (cBin oAdd (cVar 1) (cVar 4)))
    (sSeq (sSet 8 (cBin oSub (cBin oSub (cVar 7) (cK (.int (1)))) (cCall m__law_draw (aCons (cVar 0) (aCons (cArg oMin (aCons (cVar 7) (aCons (cK (.int (3))) aNil))) aNil)))))
    (sExpr (cMeth isL mAppend (cVar 5) (aCons (cIf (cTest (cBin oEq (cCall m__law_draw (aCons (cVar 0) (aCons (cK (.int (3))) aNil))) (cK (.int (0))))) (cVar 8) (cCall m__law_draw (aCons (cVar 0) (aCons (cVar 7) aNil)))) aNil))))))
    (sExpr (cMeth isL mAppend (cVar 3) (aCons (cArg oTuple (aCons (cVar 5) aNil)) aNil))))))
    (sRet (cArg oTuple (aCons (cVar 3) aNil)))))
@[irreducible] noncomputable def m__law_recipe : FD := cDef 9 b__law_recipe
theorem wm__law_recipe {x : XQ} {Q : D → Store → Prop} {tt : Tg (x, Q)} {S : Store} {a0 a1 a2 : D} : W (x, Q) tt (m__law_recipe [a0, a1, a2] S) = WS (qd (x, Q)) tg (b__law_recipe [some a0, some a1, some a2, none, none, none, none, none, none] S) := by unfold m__law_recipe; exact W_def
noncomputable def b_made_by : DS := (sSeq (sAsg (cVar 1) (gUn 2 (gC (gSet 2) (gC (gSet 3) gN))))
    (sRet (cBin oIx (cCall m_things_of (aCons (cVar 0) (aCons (cVar 2) aNil))) (cVar 3))))
@[irreducible] noncomputable def m_made_by : FD := cDef 4 b_made_by
theorem wm_made_by {x : XQ} {Q : D → Store → Prop} {tt : Tg (x, Q)} {S : Store} {a0 a1 : D} : W (x, Q) tt (m_made_by [a0, a1] S) = WS (qd (x, Q)) tg (b_made_by [some a0, some a1, none, none] S) := by unfold m_made_by; exact W_def
noncomputable def b__law_fields : DS := (sSeq (sSet 3 (cBin oIx (cArg oLst (aCons (cK (.str "")) (aCons (cK (.str "0")) (aCons (cK (.str "7k")) (aCons (cK (.str "x9z")) (aCons (cK (.str "long432")) aNil)))))) (cCall m__law_draw (aCons (cVar 0) (aCons (cK (.int (5))) aNil)))))
    (sSeq (sSet 4 (cCall m__law_shuffled (aCons (cVar 0) (aCons (cArg oListX (aCons (cK (.str "abcdeghijkmnpq")) aNil)) aNil))))
    (sSeq (sSet 5 (cArg oLst aNil))
    (sSeq (sFor (cRange1 (cVar 1)) (gSet 6) (sSeq (sSet 7 (cBin oSub (cCall m__law_draw (aCons (cVar 0) (aCons (cK (.int (7))) aNil))) (cK (.int (3)))))
    (sExpr (cMeth isL mAppend (cVar 5) (aCons (cArg oTup (aCons (cBin oAdd (cBin oIx (cVar 4) (cVar 6)) (cVar 3)) (aCons (cVar 7) (aCons (cBin oAdd (cVar 7) (cCall m__law_draw (aCons (cVar 0) (aCons (cVar 2) aNil)))) aNil)))) aNil)))))
    (sRet (cArg oTuple (aCons (cVar 5) aNil)))))))
@[irreducible] noncomputable def m__law_fields : FD := cDef 8 b__law_fields
theorem wm__law_fields {x : XQ} {Q : D → Store → Prop} {tt : Tg (x, Q)} {S : Store} {a0 a1 a2 : D} : W (x, Q) tt (m__law_fields [a0, a1, a2] S) = WS (qd (x, Q)) tg (b__law_fields [some a0, some a1, some a2, none, none, none, none, none] S) := by unfold m__law_fields; exact W_def
noncomputable def b__law_middles : DS := (sSeq (sSet 2 (cAlloc (lComp (cRange1 (cK (.int (3)))) (.nm 4) tYesD (cBin oIx (cVar 1) (cCall m__law_draw (aCons (cVar 0) (aCons (cArg oLen (aCons (cVar 1) aNil)) aNil)))) [4])))
    (sSeq (sSet 3 (cCall m__law_middle (aCons (cBin oIx (cVar 2) (cK (.int (0)))) (aCons (cBin oIx (cVar 2) (cK (.int (1)))) (aCons (cBin oIx (cVar 2) (cK (.int (2)))) aNil)))))
    (sSeq (sFor (cRange1 (cK (.int (3)))) (gSet 4) (sSeq (sSet 2 (cCall m__law_shuffled (aCons (cVar 0) (aCons (cVar 2) aNil))))
    (sIf (cNot (cTru (cCall m__law_same_numbers (aCons (cCall m_middle_of (aCons (cBin oIx (cVar 2) (cK (.int (0)))) (aCons (cBin oIx (cVar 2) (cK (.int (1)))) (aCons (cBin oIx (cVar 2) (cK (.int (2)))) aNil)))) (aCons (cVar 3) aNil))))) (sRet (cK (.bl false))) sNil)))
    (sSeq (sPar 6 7 (cBin oIx (cVar 2) (cK (.int (0)))) (cBin oIx (cVar 2) (cK (.int (1)))))
    (sSeq (sFor (cIter (cArg oTup (aCons (cArg oTup (aCons (cVar 6) (aCons (cVar 6) (aCons (cVar 7) aNil)))) (aCons (cArg oTup (aCons (cVar 6) (aCons (cVar 7) (aCons (cVar 6) aNil)))) (aCons (cArg oTup (aCons (cVar 7) (aCons (cVar 6) (aCons (cVar 6) aNil)))) (aCons (cArg oTup (aCons (cVar 6) (aCons (cVar 6) (aCons (cVar 6) aNil)))) aNil)))))) (gSet 5) (sIf (cNot (cTru (cCall m__law_same_numbers (aCons (cCall m_middle_of (aCons (cBin oIx (cVar 5) (cK (.int (0)))) (aCons (cBin oIx (cVar 5) (cK (.int (1)))) (aCons (cBin oIx (cVar 5) (cK (.int (2)))) aNil)))) (aCons (cVar 6) aNil))))) (sRet (cK (.bl false))) sNil))
    (sRet (cCall m__law_same_numbers (aCons (cCallK m_middle_of [1, 2, 0] aNil (aCons (cBin oIx (cVar 2) (cK (.int (2)))) (aCons (cBin oIx (cVar 2) (cK (.int (0)))) (aCons (cBin oIx (cVar 2) (cK (.int (1)))) aNil)))) (aCons (cVar 3) aNil)))))))))
@[irreducible] noncomputable def m__law_middles : FD := cDef 8 b__law_middles
theorem wm__law_middles {x : XQ} {Q : D → Store → Prop} {tt : Tg (x, Q)} {S : Store} {a0 a1 : D} : W (x, Q) tt (m__law_middles [a0, a1] S) = WS (qd (x, Q)) tg (b__law_middles [some a0, some a1, none, none, none, none, none, none] S) := by unfold m__law_middles; exact W_def
noncomputable def b__law_cooked : DS := (sSeq (sSet 3 (cCall m__law_recipe (aCons (cVar 0) (aCons (cArg oLen (aCons (cVar 1) aNil)) (aCons (cVar 2) aNil)))))
    (sSeq (sSet 4 (cBin oSub (cBin oAdd (cArg oLen (aCons (cVar 1) aNil)) (cVar 2)) (cK (.int (1)))))
    (sSeq (sIf (cTest (cBin oEq (cCall m__law_draw (aCons (cVar 0) (aCons (cK (.int (3))) aNil))) (cK (.int (0))))) (sSet 4 (cCall m__law_draw (aCons (cVar 0) (aCons (cBin oAdd (cArg oLen (aCons (cVar 1) aNil)) (cVar 2)) aNil)))) sNil)
    (sSeq (sIf (cNot (cTru (cCall m__law_same_numbers (aCons (cCall m_made_by (aCons (cVar 1) (aCons (cArg oTup (aCons (cVar 3) (aCons (cVar 4) aNil))) aNil))) (aCons (cCall m__law_made (aCons (cVar 1) (aCons (cVar 3) (aCons (cVar 4) aNil)))) aNil))))) (sRet (cK (.bl false))) sNil)
    (sSeq (sSet 4 (cCall m__law_draw (aCons (cVar 0) (aCons (cBin oAdd (cArg oLen (aCons (cVar 1) aNil)) (cVar 2)) aNil))))
    (sRet (cCall m__law_same_numbers (aCons (cCallK m_made_by [1, 0] aNil (aCons (cArg oTup (aCons (cVar 3) (aCons (cVar 4) aNil))) (aCons (cVar 1) aNil))) (aCons (cCall m__law_made (aCons (cVar 1) (aCons (cVar 3) (aCons (cVar 4) aNil)))) aNil)))))))))
@[irreducible] noncomputable def m__law_cooked : FD := cDef 5 b__law_cooked
theorem wm__law_cooked {x : XQ} {Q : D → Store → Prop} {tt : Tg (x, Q)} {S : Store} {a0 a1 a2 : D} : W (x, Q) tt (m__law_cooked [a0, a1, a2] S) = WS (qd (x, Q)) tg (b__law_cooked [some a0, some a1, some a2, none, none] S) := by unfold m__law_cooked; exact W_def
noncomputable def b__law_fixed : DS := (sSeq (sSet 1 (cBin oSub (cCall m__law_draw (aCons (cVar 0) (aCons (cK (.int (2001))) aNil))) (cK (.int (1000)))))
    (sSeq (sSet 2 (cArg oLst (aCons (cArg oLst (aCons (cVar 1) (aCons (cBin oAdd (cVar 1) (cK (.int (7)))) (aCons (cBin oAdd (cVar 1) (cK (.int (3)))) aNil)))) (aCons (cArg oLst (aCons (cBin oAdd (cVar 1) (cK (.int (5)))) (aCons (cVar 1) (aCons (cBin oAdd (cVar 1) (cK (.int (9)))) aNil)))) (aCons (cArg oLst (aCons (cBin oAdd (cVar 1) (cK (.int (2)))) (aCons (cBin oAdd (cVar 1) (cK (.int (1)))) (aCons (cBin oAdd (cVar 1) (cK (.int (4)))) aNil)))) aNil)))))
    (sSeq (sSet 3 (cOfL kTup (lComp (cRange1 (cK (.int (3)))) (.nm 7) tYesD (cOfL kTup (lComp (cIter (cVar 2)) (.nm 8) tYesD (cBin oIx (cVar 8) (cVar 7)) [8])) [7])))
    (sSeq (sSet 4 (cArg oTup (aCons (cBin oAdd (cVar 1) (cK (.int (3)))) (aCons (cBin oAdd (cVar 1) (cK (.int (5)))) (aCons (cBin oAdd (cVar 1) (cK (.int (2)))) aNil)))))
    (sSeq (sIf (cNot (cTru (cCall m__law_same_numbers (aCons (cCall m_middle_of (aCons (cBin oIx (cVar 3) (cK (.int (0)))) (aCons (cBin oIx (cVar 3) (cK (.int (1)))) (aCons (cBin oIx (cVar 3) (cK (.int (2)))) aNil)))) (aCons (cVar 4) aNil))))) (sRet (cK (.bl false))) sNil)
    (sSeq (sSet 5 (cArg oTup (aCons (cArg oTup (aCons (cK (.int (0))) (aCons (cK (.int (0))) (aCons (cK (.int (1))) aNil)))) (aCons (cArg oTup (aCons (cK (.int (2))) (aCons (cK (.int (3))) (aCons (cK (.int (1))) aNil)))) (aCons (cArg oTup (aCons (cK (.int (4))) (aCons (cK (.int (4))) (aCons (cK (.int (0))) aNil)))) (aCons (cArg oTup (aCons (cK (.int (0))) (aCons (cK (.int (1))) (aCons (cK (.int (2))) aNil)))) (aCons (cArg oTup (aCons (cK (.int (6))) (aCons (cK (.int (6))) (aCons (cK (.int (5))) aNil)))) aNil)))))))
    (sSeq (sFor (cRange1 (cK (.int (8)))) (gSet 6) (sIf (cNot (cTru (cCall m__law_same_numbers (aCons (cCall m_made_by (aCons (cVar 3) (aCons (cArg oTup (aCons (cVar 5) (aCons (cVar 6) aNil))) aNil))) (aCons (cCall m__law_made (aCons (cVar 3) (aCons (cVar 5) (aCons (cVar 6) aNil)))) aNil))))) (sRet (cK (.bl false))) sNil))
    (sSeq (sIf (cNot (cTru (cCall m__law_same_numbers (aCons (cCall m_made_by (aCons (cCut (cVar 3) cNoPart (cPart (cK (.int (1))))) (aCons (cArg oTup (aCons (cArg oTup aNil) (aCons (cK (.int (0))) aNil))) aNil))) (aCons (cBin oIx (cVar 3) (cK (.int (0)))) aNil))))) (sRet (cK (.bl false))) sNil)
    (sRet (cBin oEq (cCall m__law_made (aCons (cVar 3) (aCons (cVar 5) (aCons (cK (.int (7))) aNil)))) (cVar 4)))))))))))
@[irreducible] noncomputable def m__law_fixed : FD := cDef 9 b__law_fixed
theorem wm__law_fixed {x : XQ} {Q : D → Store → Prop} {tt : Tg (x, Q)} {S : Store} {a0 : D} : W (x, Q) tt (m__law_fixed [a0] S) = WS (qd (x, Q)) tg (b__law_fixed [some a0, none, none, none, none, none, none, none, none] S) := by unfold m__law_fixed; exact W_def
noncomputable def b_law : DS := (sSeq (sSet 1 (cCall m__law_flow (aCons (cVar 0) (aCons (cK (.int (38011))) aNil))))
    (sSeq (sIf (cNot (cTru (cCall m__law_fixed (aCons (cVar 1) aNil)))) (sRet (cK (.bl false))) sNil)
    (sSeq (sFor (cRange1 (cK (.int (2)))) (gSet 2) (sSeq (sSet 3 (cCall m__law_fields (aCons (cVar 1) (aCons (cBin oAdd (cK (.int (1))) (cCall m__law_draw (aCons (cVar 1) (aCons (cK (.int (5))) aNil)))) (aCons (cK (.int (6))) aNil)))))
    (sSeq (sSet 4 (cOfL kTup (lComp (cRange1 (cBin oAdd (cK (.int (1))) (cCall m__law_draw (aCons (cVar 1) (aCons (cK (.int (6))) aNil))))) (.nm 6) tYesD (cCall m__law_sheet (aCons (cVar 1) (aCons (cVar 3) aNil))) [6])))
    (sIf (cOr (cNot (cTru (cCall m__law_middles (aCons (cVar 1) (aCons (cVar 4) aNil))))) (cNot (cTru (cCall m__law_cooked (aCons (cVar 1) (aCons (cVar 4) (aCons (cCall m__law_draw (aCons (cVar 1) (aCons (cK (.int (13))) aNil))) aNil))))))) (sRet (cK (.bl false))) sNil))))
    (sSeq (sIf (cTest (cBin oEq (cCall m__law_draw (aCons (cVar 1) (aCons (cK (.int (7))) aNil))) (cK (.int (2))))) (sSeq (sSet 5 (cBin oIx (cArg oLst (aCons (cBin oSub (cBin oPow (cK (.int (10))) (cK (.int (6)))) (cK (.int (19)))) (aCons (cUn oNeg (cBin oPow (cK (.int (10))) (cK (.int (6))))) aNil))) (cCall m__law_draw (aCons (cVar 1) (aCons (cK (.int (2))) aNil)))))
    (sSeq (sSet 3 (cOfL kTup (lComp (cIter (cCall m__law_fields (aCons (cVar 1) (aCons (cK (.int (12))) (aCons (cK (.int (1))) aNil))))) (.un [(.nm 7), (.nm 8), (.nm 9)]) tYesD (cArg oTup (aCons (cVar 7) (aCons (cVar 5) (aCons (cBin oAdd (cVar 5) (cK (.int (19)))) aNil)))) [7, 8, 9])))
    (sSeq (sSet 4 (cOfL kTup (lComp (cRange1 (cK (.int (3)))) (.nm 6) tYesD (cCall m__law_sheet (aCons (cVar 1) (aCons (cVar 3) aNil))) [6])))
    (sIf (cOr (cNot (cTru (cCall m__law_middles (aCons (cVar 1) (aCons (cVar 4) aNil))))) (cNot (cTru (cCall m__law_cooked (aCons (cVar 1) (aCons (cVar 4) (aCons (cK (.int (30))) aNil))))))) (sRet (cK (.bl false))) sNil)))) sNil)
    (sSeq (sIf (cTest (cBin oEq (cCall m__law_draw (aCons (cVar 1) (aCons (cK (.int (13))) aNil))) (cK (.int (4))))) (sSeq (sSet 3 (cCall m__law_fields (aCons (cVar 1) (aCons (cK (.int (4))) (aCons (cK (.int (20))) aNil)))))
    (sSeq (sSet 4 (cOfL kTup (lComp (cRange1 (cK (.int (40)))) (.nm 6) tYesD (cCall m__law_sheet (aCons (cVar 1) (aCons (cVar 3) aNil))) [6])))
    (sRet (cCall m__law_cooked (aCons (cVar 1) (aCons (cVar 4) (aCons (cK (.int (1000))) aNil))))))) sNil)
    (sRet (cK (.bl true))))))))
@[irreducible] noncomputable def m_law : FD := cDef 10 b_law
theorem wm_law {x : XQ} {Q : D → Store → Prop} {tt : Tg (x, Q)} {S : Store} {a0 : D} : W (x, Q) tt (m_law [a0] S) = WS (qd (x, Q)) tg (b_law [some a0, none, none, none, none, none, none, none, none, none] S) := by unfold m_law; exact W_def
end LW

namespace LW
open PySem PySem.Spec PyProof.Rows L2 DL
section
variable {x : XQ} {Q : D → Store → Prop} {tt : Tg (x, Q)} {S S' S'' : Store} {many : Int} {l : Nat} {xs ys : List D}
/-- the flow at 1, its great cells at 0 -/
def FlowOk (S : Store) : Prop := ∃ (great : List Int) (p c s : Int), lstAt S 2 = some [.loc 0, .int p, .int c, .int s] ∧ lstAt S 0 = some (great.map D.int) ∧ 0 ≤ p ∧ 0 ≤ c ∧ 0 ≤ s ∧ s < 2147483629 ∧ ∀ g ∈ great, (0 : Int) ≤ g
theorem FlowOk.len (h : FlowOk S) : 3 ≤ S.length := by
  obtain ⟨_, _, _, _, h, _⟩ := h
  have := lstAt_lt h
  omega
theorem FlowOk.app (T : Store) (h : FlowOk S) : FlowOk (S ++ T) := by
  obtain ⟨g, p, c, s, h1, h0, r⟩ := h
  exact ⟨g, p, c, s, lstAt_app h1, lstAt_app h0, r⟩
theorem FlowOk.set (h : FlowOk S) (hl : 3 ≤ l) : FlowOk (S.set l (.lst xs)) := by
  obtain ⟨g, p, c, s, h1, h0, r⟩ := h
  exact ⟨g, p, c, s, by rw [lstAt_set_ne (by omega)]; exact h1, by rw [lstAt_set_ne (by omega)]; exact h0, r⟩
theorem draw_w (hF : FlowOk S) (h0 : 0 < many) (h1 : many < 1073741824) (h : ∀ v S', 0 ≤ v → v < many → FlowOk S' → Fk 3 S S' → Q (.int v) S') : W (x, Q) tt (m__law_draw [.loc 2, .int many] S) := by
  rw [wm__law_draw, b__law_draw, WS_seq]
  refine WS_mid (fun σ S' => σ = [some (.loc 2), some (.int many), none] ∧ FlowOk S' ∧ Fk 3 S S') ?_ ?_
  · obtain ⟨great, p, c, s, l1, l0, hp, hc, hs, hs2, hg⟩ := hF
    simp only [↓reduceIte, ↓W_ok, ↓W_exn, ↓W_var0, ↓W_varS, ↓W_K, ↓W_bin, ↓W_un, ↓W_aNil, ↓W_aCons, ↓W_arg, ↓W_call, ↓W_of, ↓WB_test, ↓tc_bl, ↓WB_tru, ↓trc, ↓WB_and, ↓WB_or, ↓WB_not, ↓W_if, ↓W_andV, ↓W_orV, ↓W_notV, ↓WM_some, ↓WM_none, ↓WO_some, ↓tr_bl, ↓tr_non, ↓tr_int, ↓tr_tup, ↓tr_rol, ↓WS_nx, ↓WS_rt, ↓WS_ct, ↓WS_bk, ↓WS_exn, ↓WS_seq, ↓WS_nil, ↓WS_retN, ↓WS_break, ↓WS_cont, ↓WS_expr, ↓WS_ret, ↓WS_if, ↓WS_set, ↓WS_par, ↓WS_asg, ↓WS_gSet, ↓WS_gN, ↓WS_gC, ↓WS_gUn, ↓WS_gSub, ↓WS_aug, ↓o_add, ↓o_iadd, ↓o_sub, ↓o_neg, ↓o_mul, ↓o_mod, ↓o_div, ↓o_pow, ↓o_addT, ↓o_addS, ↓o_addL, ↓o_lt, ↓o_le, ↓o_gt, ↓o_ge, ↓o_eq, ↓o_ne, ↓o_eqS, ↓o_neS, ↓o_eqB, ↓o_neB, ↓o_eqT, ↓o_neT, ↓o_eqN, ↓o_neN, ↓o_ltT, ↓o_leT, ↓o_is, ↓o_isnot, ↓o_isB, ↓o_isnotB, ↓o_inT, ↓o_ninT, ↓o_inL, ↓o_ninL, ↓o_ixT, ↓o_ixR, ↓o_ixL, ↓o_rev, ↓o_ixS, ↓o_str, ↓o_strS, ↓o_set, ↓o_lenT, ↓o_lenR, ↓o_lenL, ↓o_lenS, ↓o_int, ↓o_intT, ↓o_intF, ↓o_abs, ↓o_max, ↓o_min, ↓o_tuple, ↓o_listXt, ↓o_listXr, ↓o_listXl, ↓o_listXs, ↓o_sortedXt, ↓o_tup0, ↓o_tup1, ↓o_tup2, ↓o_tup3, ↓o_tup4, ↓o_tup5, ↓o_tup6, ↓o_lst0, ↓o_lst1, ↓o_lst2, ↓o_lst3, ↓o_lst4, ↓o_lst5, ↓o_lst6, ↓o_sum, ↓W_meth, ↓o_append, ↓o_extend, ↓o_popAt, ↓W_cut, ↓W_noPart, ↓W_part, ↓o_cutT, ↓o_cutR, ↓o_cutL, ↓W_isi, ↓W_ch, ↓WS_for, ↓WI_iter, ↓WI_range1, ↓WI_range2, ↓WI_range3, ↓WI_enum, ↓WI_zip2, ↓WI_zip3, ↓W_callK, ↓WS_f0, ↓WS_f1, ↓W_alloc, ↓W_ofL, ↓W_comp, ↓WB_yes, ↓W_c0, ↓W_c1, ↓W_listRg, ↓W_tupRg, ↓W_rRange1, ↓W_rRange2, Option.isSome_some, z2_t, z3_t, perm_nil, perm_cons, List.getD_cons_zero, List.getD_cons_succ, o_intT, o_intF, o_intB, o_ixL, o_ixT, beq_self_eq_true, decide_true, decide_false, okEq, okCmp, okIn, D.fits, D.fitsL, D.dep, D.depL, D.eqv, D.eqvL, D.alike, D.alikeL, isBl_bl, isN_non, isN_bl, isN_int, isN_str, isN_tup, isN_rol, isN_loc, Nat.reduceAdd, Nat.reduceSub, Nat.max_self, Nat.min_self, Nat.max_zero, Nat.zero_max, Nat.min_zero, Nat.zero_min, ty_non, ty_bl, ty_int, ty_str, ty_tup, ty_rol, ty_loc, kb_bool_bool, kb_bool_int, kb_bool_str, kb_bool_tuple, kb_bool_list, kb_int_bool, kb_int_int, kb_int_str, kb_int_tuple, kb_int_list, kb_str_bool, kb_str_int, kb_str_str, kb_str_tuple, kb_str_list, kb_tuple_bool, kb_tuple_int, kb_tuple_str, kb_tuple_tuple, kb_tuple_list, kb_list_bool, kb_list_int, kb_list_str, kb_list_tuple, kb_list_list, kb_NoneType_bool, kb_NoneType_int, kb_NoneType_str, kb_NoneType_tuple, kb_NoneType_list, Nat.zero_add, c02, lstAt_setE, Option.map_some, lstAt_set_ne, ne_eq, Nat.reduceEqDiff, Nat.one_ne_zero, Nat.zero_ne_one, ix_1_0, ix_2_0, ix_2_1, ix_3_0, ix_3_1, ix_3_2, ix_4_0, ix_4_1, ix_4_2, ix_4_3, ix_5_0, ix_5_1, ix_5_2, ix_5_3, ix_5_4, ix_6_0, ix_6_1, ix_6_2, ix_6_3, ix_6_4, ix_6_5, Nat.reduceLeDiff, Int.reduceAdd, Int.reduceSub, Int.reduceMul, Int.reduceNeg, Int.reducePow, Int.reduceLT, Int.reduceLE, Int.reduceEq, Int.reduceToNat, Bool.and_true, Bool.true_and, Bool.and_self, Bool.and_false, Bool.false_and, Bool.and_eq_true, Bool.and_eq_false_imp, and_self, WS_qdn, WS_qdr, WS_qde, WS_qdb, WS_qdc, qn1, qn2, qn3, qn4, qn5, qk1, qk5, lq1, lq2, lq3, lq4, lq5, intD_int, items_tup, items_rol, items_loc, listOf_loc, listOf_rol, isL_loc, at0, at1, at2, at3, at4, at5, atl1, atl2, atl3, atl4, lstAt_new, lstAt_h0, lstAt_h1, lstAt_h2, lstAt_h3, it_tup, it_rol, kTup_eq, kLen_eq, wipe0, wipe1, b_nm, List.set_cons_zero, List.set_cons_succ, List.length_cons, List.length_nil, List.nil_append, List.cons_append, List.append_nil, List.isEmpty_cons, List.isEmpty_nil, true_and, and_true, false_and, and_false, true_implies, forall_const, not_true_eq_false, not_false_eq_true, implies_true, decide_eq_true_eq, decide_eq_false_iff_not, Bool.not_eq_true', Bool.not_eq_false', Bool.not_true, Bool.not_false, if_true, if_false, Bool.false_eq_true, Bool.true_eq_false, reduceCtorEq, false_implies, eq_self, l1, l0]
    refine ⟨fun _ => ⟨fun h2 => ?_, fun _ => ?_⟩, fun _ => ?_⟩
    · rw [List.length_map] at h2
      refine WM_at hp (by rw [List.length_map]; exact h2) fun d hd => ?_
      obtain ⟨g, hgm, rfl⟩ := List.mem_map.mp hd
      simp only [↓reduceIte, ↓W_ok, ↓W_exn, ↓W_var0, ↓W_varS, ↓W_K, ↓W_bin, ↓W_un, ↓W_aNil, ↓W_aCons, ↓W_arg, ↓W_call, ↓W_of, ↓WB_test, ↓tc_bl, ↓WB_tru, ↓trc, ↓WB_and, ↓WB_or, ↓WB_not, ↓W_if, ↓W_andV, ↓W_orV, ↓W_notV, ↓WM_some, ↓WM_none, ↓WO_some, ↓tr_bl, ↓tr_non, ↓tr_int, ↓tr_tup, ↓tr_rol, ↓WS_nx, ↓WS_rt, ↓WS_ct, ↓WS_bk, ↓WS_exn, ↓WS_seq, ↓WS_nil, ↓WS_retN, ↓WS_break, ↓WS_cont, ↓WS_expr, ↓WS_ret, ↓WS_if, ↓WS_set, ↓WS_par, ↓WS_asg, ↓WS_gSet, ↓WS_gN, ↓WS_gC, ↓WS_gUn, ↓WS_gSub, ↓WS_aug, ↓o_add, ↓o_iadd, ↓o_sub, ↓o_neg, ↓o_mul, ↓o_mod, ↓o_div, ↓o_pow, ↓o_addT, ↓o_addS, ↓o_addL, ↓o_lt, ↓o_le, ↓o_gt, ↓o_ge, ↓o_eq, ↓o_ne, ↓o_eqS, ↓o_neS, ↓o_eqB, ↓o_neB, ↓o_eqT, ↓o_neT, ↓o_eqN, ↓o_neN, ↓o_ltT, ↓o_leT, ↓o_is, ↓o_isnot, ↓o_isB, ↓o_isnotB, ↓o_inT, ↓o_ninT, ↓o_inL, ↓o_ninL, ↓o_ixT, ↓o_ixR, ↓o_ixL, ↓o_rev, ↓o_ixS, ↓o_str, ↓o_strS, ↓o_set, ↓o_lenT, ↓o_lenR, ↓o_lenL, ↓o_lenS, ↓o_int, ↓o_intT, ↓o_intF, ↓o_abs, ↓o_max, ↓o_min, ↓o_tuple, ↓o_listXt, ↓o_listXr, ↓o_listXl, ↓o_listXs, ↓o_sortedXt, ↓o_tup0, ↓o_tup1, ↓o_tup2, ↓o_tup3, ↓o_tup4, ↓o_tup5, ↓o_tup6, ↓o_lst0, ↓o_lst1, ↓o_lst2, ↓o_lst3, ↓o_lst4, ↓o_lst5, ↓o_lst6, ↓o_sum, ↓W_meth, ↓o_append, ↓o_extend, ↓o_popAt, ↓W_cut, ↓W_noPart, ↓W_part, ↓o_cutT, ↓o_cutR, ↓o_cutL, ↓W_isi, ↓W_ch, ↓WS_for, ↓WI_iter, ↓WI_range1, ↓WI_range2, ↓WI_range3, ↓WI_enum, ↓WI_zip2, ↓WI_zip3, ↓W_callK, ↓WS_f0, ↓WS_f1, ↓W_alloc, ↓W_ofL, ↓W_comp, ↓WB_yes, ↓W_c0, ↓W_c1, ↓W_listRg, ↓W_tupRg, ↓W_rRange1, ↓W_rRange2, Option.isSome_some, z2_t, z3_t, perm_nil, perm_cons, List.getD_cons_zero, List.getD_cons_succ, o_intT, o_intF, o_intB, o_ixL, o_ixT, beq_self_eq_true, decide_true, decide_false, okEq, okCmp, okIn, D.fits, D.fitsL, D.dep, D.depL, D.eqv, D.eqvL, D.alike, D.alikeL, isBl_bl, isN_non, isN_bl, isN_int, isN_str, isN_tup, isN_rol, isN_loc, Nat.reduceAdd, Nat.reduceSub, Nat.max_self, Nat.min_self, Nat.max_zero, Nat.zero_max, Nat.min_zero, Nat.zero_min, ty_non, ty_bl, ty_int, ty_str, ty_tup, ty_rol, ty_loc, kb_bool_bool, kb_bool_int, kb_bool_str, kb_bool_tuple, kb_bool_list, kb_int_bool, kb_int_int, kb_int_str, kb_int_tuple, kb_int_list, kb_str_bool, kb_str_int, kb_str_str, kb_str_tuple, kb_str_list, kb_tuple_bool, kb_tuple_int, kb_tuple_str, kb_tuple_tuple, kb_tuple_list, kb_list_bool, kb_list_int, kb_list_str, kb_list_tuple, kb_list_list, kb_NoneType_bool, kb_NoneType_int, kb_NoneType_str, kb_NoneType_tuple, kb_NoneType_list, Nat.zero_add, c02, lstAt_setE, Option.map_some, lstAt_set_ne, ne_eq, Nat.reduceEqDiff, Nat.one_ne_zero, Nat.zero_ne_one, ix_1_0, ix_2_0, ix_2_1, ix_3_0, ix_3_1, ix_3_2, ix_4_0, ix_4_1, ix_4_2, ix_4_3, ix_5_0, ix_5_1, ix_5_2, ix_5_3, ix_5_4, ix_6_0, ix_6_1, ix_6_2, ix_6_3, ix_6_4, ix_6_5, Nat.reduceLeDiff, Int.reduceAdd, Int.reduceSub, Int.reduceMul, Int.reduceNeg, Int.reducePow, Int.reduceLT, Int.reduceLE, Int.reduceEq, Int.reduceToNat, Bool.and_true, Bool.true_and, Bool.and_self, Bool.and_false, Bool.false_and, Bool.and_eq_true, Bool.and_eq_false_imp, and_self, WS_qdn, WS_qdr, WS_qde, WS_qdb, WS_qdc, qn1, qn2, qn3, qn4, qn5, qk1, qk5, lq1, lq2, lq3, lq4, lq5, intD_int, items_tup, items_rol, items_loc, listOf_loc, listOf_rol, isL_loc, at0, at1, at2, at3, at4, at5, atl1, atl2, atl3, atl4, lstAt_new, lstAt_h0, lstAt_h1, lstAt_h2, lstAt_h3, it_tup, it_rol, kTup_eq, kLen_eq, wipe0, wipe1, b_nm, List.set_cons_zero, List.set_cons_succ, List.length_cons, List.length_nil, List.nil_append, List.cons_append, List.append_nil, List.isEmpty_cons, List.isEmpty_nil, true_and, and_true, false_and, and_false, true_implies, forall_const, not_true_eq_false, not_false_eq_true, implies_true, decide_eq_true_eq, decide_eq_false_iff_not, Bool.not_eq_true', Bool.not_eq_false', Bool.not_true, Bool.not_false, if_true, if_false, Bool.false_eq_true, Bool.true_eq_false, reduceCtorEq, false_implies, eq_self, l1, l0]
      exact ⟨⟨great, _, _, _, by rw [lstAt_set (lstAt_set l1)], by rw [lstAt_set_ne (by decide), lstAt_set_ne (by decide)]; exact l0, by omega, hg g hgm, hs, hs2, hg⟩, ((Fk.refl 3 S).set1 (by decide)).set1 (by decide)⟩
    · exact ⟨⟨great, p, c, s, l1, l0, hp, hc, hs, hs2, hg⟩, Fk.refl _ _⟩
    · exact ⟨⟨great, p, c, s, l1, l0, hp, hc, hs, hs2, hg⟩, Fk.refl _ _⟩
  · rintro σ S1 ⟨rfl, ⟨great, p, c, s, l1, l0, hp, hc, hs, hs2, hg⟩, F1⟩
    simp only [↓reduceIte, ↓W_ok, ↓W_exn, ↓W_var0, ↓W_varS, ↓W_K, ↓W_bin, ↓W_un, ↓W_aNil, ↓W_aCons, ↓W_arg, ↓W_call, ↓W_of, ↓WB_test, ↓tc_bl, ↓WB_tru, ↓trc, ↓WB_and, ↓WB_or, ↓WB_not, ↓W_if, ↓W_andV, ↓W_orV, ↓W_notV, ↓WM_some, ↓WM_none, ↓WO_some, ↓tr_bl, ↓tr_non, ↓tr_int, ↓tr_tup, ↓tr_rol, ↓WS_nx, ↓WS_rt, ↓WS_ct, ↓WS_bk, ↓WS_exn, ↓WS_seq, ↓WS_nil, ↓WS_retN, ↓WS_break, ↓WS_cont, ↓WS_expr, ↓WS_ret, ↓WS_if, ↓WS_set, ↓WS_par, ↓WS_asg, ↓WS_gSet, ↓WS_gN, ↓WS_gC, ↓WS_gUn, ↓WS_gSub, ↓WS_aug, ↓o_add, ↓o_iadd, ↓o_sub, ↓o_neg, ↓o_mul, ↓o_mod, ↓o_div, ↓o_pow, ↓o_addT, ↓o_addS, ↓o_addL, ↓o_lt, ↓o_le, ↓o_gt, ↓o_ge, ↓o_eq, ↓o_ne, ↓o_eqS, ↓o_neS, ↓o_eqB, ↓o_neB, ↓o_eqT, ↓o_neT, ↓o_eqN, ↓o_neN, ↓o_ltT, ↓o_leT, ↓o_is, ↓o_isnot, ↓o_isB, ↓o_isnotB, ↓o_inT, ↓o_ninT, ↓o_inL, ↓o_ninL, ↓o_ixT, ↓o_ixR, ↓o_ixL, ↓o_rev, ↓o_ixS, ↓o_str, ↓o_strS, ↓o_set, ↓o_lenT, ↓o_lenR, ↓o_lenL, ↓o_lenS, ↓o_int, ↓o_intT, ↓o_intF, ↓o_abs, ↓o_max, ↓o_min, ↓o_tuple, ↓o_listXt, ↓o_listXr, ↓o_listXl, ↓o_listXs, ↓o_sortedXt, ↓o_tup0, ↓o_tup1, ↓o_tup2, ↓o_tup3, ↓o_tup4, ↓o_tup5, ↓o_tup6, ↓o_lst0, ↓o_lst1, ↓o_lst2, ↓o_lst3, ↓o_lst4, ↓o_lst5, ↓o_lst6, ↓o_sum, ↓W_meth, ↓o_append, ↓o_extend, ↓o_popAt, ↓W_cut, ↓W_noPart, ↓W_part, ↓o_cutT, ↓o_cutR, ↓o_cutL, ↓W_isi, ↓W_ch, ↓WS_for, ↓WI_iter, ↓WI_range1, ↓WI_range2, ↓WI_range3, ↓WI_enum, ↓WI_zip2, ↓WI_zip3, ↓W_callK, ↓WS_f0, ↓WS_f1, ↓W_alloc, ↓W_ofL, ↓W_comp, ↓WB_yes, ↓W_c0, ↓W_c1, ↓W_listRg, ↓W_tupRg, ↓W_rRange1, ↓W_rRange2, Option.isSome_some, z2_t, z3_t, perm_nil, perm_cons, List.getD_cons_zero, List.getD_cons_succ, o_intT, o_intF, o_intB, o_ixL, o_ixT, beq_self_eq_true, decide_true, decide_false, okEq, okCmp, okIn, D.fits, D.fitsL, D.dep, D.depL, D.eqv, D.eqvL, D.alike, D.alikeL, isBl_bl, isN_non, isN_bl, isN_int, isN_str, isN_tup, isN_rol, isN_loc, Nat.reduceAdd, Nat.reduceSub, Nat.max_self, Nat.min_self, Nat.max_zero, Nat.zero_max, Nat.min_zero, Nat.zero_min, ty_non, ty_bl, ty_int, ty_str, ty_tup, ty_rol, ty_loc, kb_bool_bool, kb_bool_int, kb_bool_str, kb_bool_tuple, kb_bool_list, kb_int_bool, kb_int_int, kb_int_str, kb_int_tuple, kb_int_list, kb_str_bool, kb_str_int, kb_str_str, kb_str_tuple, kb_str_list, kb_tuple_bool, kb_tuple_int, kb_tuple_str, kb_tuple_tuple, kb_tuple_list, kb_list_bool, kb_list_int, kb_list_str, kb_list_tuple, kb_list_list, kb_NoneType_bool, kb_NoneType_int, kb_NoneType_str, kb_NoneType_tuple, kb_NoneType_list, Nat.zero_add, c02, lstAt_setE, Option.map_some, lstAt_set_ne, ne_eq, Nat.reduceEqDiff, Nat.one_ne_zero, Nat.zero_ne_one, ix_1_0, ix_2_0, ix_2_1, ix_3_0, ix_3_1, ix_3_2, ix_4_0, ix_4_1, ix_4_2, ix_4_3, ix_5_0, ix_5_1, ix_5_2, ix_5_3, ix_5_4, ix_6_0, ix_6_1, ix_6_2, ix_6_3, ix_6_4, ix_6_5, Nat.reduceLeDiff, Int.reduceAdd, Int.reduceSub, Int.reduceMul, Int.reduceNeg, Int.reducePow, Int.reduceLT, Int.reduceLE, Int.reduceEq, Int.reduceToNat, Bool.and_true, Bool.true_and, Bool.and_self, Bool.and_false, Bool.false_and, Bool.and_eq_true, Bool.and_eq_false_imp, and_self, WS_qdn, WS_qdr, WS_qde, WS_qdb, WS_qdc, qn1, qn2, qn3, qn4, qn5, qk1, qk5, lq1, lq2, lq3, lq4, lq5, intD_int, items_tup, items_rol, items_loc, listOf_loc, listOf_rol, isL_loc, at0, at1, at2, at3, at4, at5, atl1, atl2, atl3, atl4, lstAt_new, lstAt_h0, lstAt_h1, lstAt_h2, lstAt_h3, it_tup, it_rol, kTup_eq, kLen_eq, wipe0, wipe1, b_nm, List.set_cons_zero, List.set_cons_succ, List.length_cons, List.length_nil, List.nil_append, List.cons_append, List.append_nil, List.isEmpty_cons, List.isEmpty_nil, true_and, and_true, false_and, and_false, true_implies, forall_const, not_true_eq_false, not_false_eq_true, implies_true, decide_eq_true_eq, decide_eq_false_iff_not, Bool.not_eq_true', Bool.not_eq_false', Bool.not_true, Bool.not_false, if_true, if_false, Bool.false_eq_true, Bool.true_eq_false, reduceCtorEq, false_implies, eq_self, l1, l0]
    refine ⟨fun h2 => ?_, fun h2 => ?_⟩
    · repeat (refine ⟨by (first | assumption | omega | decide | exact mul2 (by omega) | exact mul1 (by omega) | exact divS (by omega) (by omega) | exact sl (by omega) | exact (by simp only [okB]; omega) | (constructor <;> omega) | (simp only [List.length_map]; omega)), ?_⟩)
      exact h _ _ (Int.emod_nonneg _ (by omega)) (Int.emod_lt_of_pos _ h0) ⟨great, _, _, _, by rw [lstAt_set l1], by rw [lstAt_set_ne (by decide)]; exact l0, hp, Int.ediv_nonneg hc (by omega), hs, hs2, hg⟩ (F1.set1 (by decide))
    · repeat (refine ⟨by (first | assumption | omega | decide | exact mul2 (by omega) | exact mul1 (by omega) | exact divS (by omega) (by omega) | exact sl (by omega) | exact (by simp only [okB]; omega) | (constructor <;> omega) | (simp only [List.length_map]; omega)), ?_⟩)
      exact h _ _ (Int.emod_nonneg _ (by omega)) (Int.emod_lt_of_pos _ h0) ⟨great, _, _, _, by rw [lstAt_set l1], by rw [lstAt_set_ne (by decide)]; exact l0, hp, hc, Int.emod_nonneg _ (by decide), Int.emod_lt_of_pos _ (by decide), hg⟩ (F1.set1 (by decide))
/-- the flow of a script -/
theorem flow_w (ns : List Int) (salt : Int) (hl : ns.length ≤ 63) (h0 : 0 ≤ salt) (h1 : salt < 2147483629) (h : ∀ S', FlowOk S' → S'.length = 3 → Q (.loc 2) S') : W (x, Q) tt (m__law_flow [.rol (ns.map D.int), .int salt] []) := by
  have hc : cutD (ns.map D.int) none (some 63) = ns.map D.int := cut_all (by rw [List.length_map]; omega)
  simp only [↓reduceIte, ↓W_ok, ↓W_exn, ↓W_var0, ↓W_varS, ↓W_K, ↓W_bin, ↓W_un, ↓W_aNil, ↓W_aCons, ↓W_arg, ↓W_call, ↓W_of, ↓WB_test, ↓tc_bl, ↓WB_tru, ↓trc, ↓WB_and, ↓WB_or, ↓WB_not, ↓W_if, ↓W_andV, ↓W_orV, ↓W_notV, ↓WM_some, ↓WM_none, ↓WO_some, ↓tr_bl, ↓tr_non, ↓tr_int, ↓tr_tup, ↓tr_rol, ↓WS_nx, ↓WS_rt, ↓WS_ct, ↓WS_bk, ↓WS_exn, ↓WS_seq, ↓WS_nil, ↓WS_retN, ↓WS_break, ↓WS_cont, ↓WS_expr, ↓WS_ret, ↓WS_if, ↓WS_set, ↓WS_par, ↓WS_asg, ↓WS_gSet, ↓WS_gN, ↓WS_gC, ↓WS_gUn, ↓WS_gSub, ↓WS_aug, ↓o_add, ↓o_iadd, ↓o_sub, ↓o_neg, ↓o_mul, ↓o_mod, ↓o_div, ↓o_pow, ↓o_addT, ↓o_addS, ↓o_addL, ↓o_lt, ↓o_le, ↓o_gt, ↓o_ge, ↓o_eq, ↓o_ne, ↓o_eqS, ↓o_neS, ↓o_eqB, ↓o_neB, ↓o_eqT, ↓o_neT, ↓o_eqN, ↓o_neN, ↓o_ltT, ↓o_leT, ↓o_is, ↓o_isnot, ↓o_isB, ↓o_isnotB, ↓o_inT, ↓o_ninT, ↓o_inL, ↓o_ninL, ↓o_ixT, ↓o_ixR, ↓o_ixL, ↓o_rev, ↓o_ixS, ↓o_str, ↓o_strS, ↓o_set, ↓o_lenT, ↓o_lenR, ↓o_lenL, ↓o_lenS, ↓o_int, ↓o_intT, ↓o_intF, ↓o_abs, ↓o_max, ↓o_min, ↓o_tuple, ↓o_listXt, ↓o_listXr, ↓o_listXl, ↓o_listXs, ↓o_sortedXt, ↓o_tup0, ↓o_tup1, ↓o_tup2, ↓o_tup3, ↓o_tup4, ↓o_tup5, ↓o_tup6, ↓o_lst0, ↓o_lst1, ↓o_lst2, ↓o_lst3, ↓o_lst4, ↓o_lst5, ↓o_lst6, ↓o_sum, ↓W_meth, ↓o_append, ↓o_extend, ↓o_popAt, ↓W_cut, ↓W_noPart, ↓W_part, ↓o_cutT, ↓o_cutR, ↓o_cutL, ↓W_isi, ↓W_ch, ↓WS_for, ↓WI_iter, ↓WI_range1, ↓WI_range2, ↓WI_range3, ↓WI_enum, ↓WI_zip2, ↓WI_zip3, ↓W_callK, ↓WS_f0, ↓WS_f1, ↓W_alloc, ↓W_ofL, ↓W_comp, ↓WB_yes, ↓W_c0, ↓W_c1, ↓W_listRg, ↓W_tupRg, ↓W_rRange1, ↓W_rRange2, Option.isSome_some, z2_t, z3_t, perm_nil, perm_cons, List.getD_cons_zero, List.getD_cons_succ, o_intT, o_intF, o_intB, o_ixL, o_ixT, beq_self_eq_true, decide_true, decide_false, okEq, okCmp, okIn, D.fits, D.fitsL, D.dep, D.depL, D.eqv, D.eqvL, D.alike, D.alikeL, isBl_bl, isN_non, isN_bl, isN_int, isN_str, isN_tup, isN_rol, isN_loc, Nat.reduceAdd, Nat.reduceSub, Nat.max_self, Nat.min_self, Nat.max_zero, Nat.zero_max, Nat.min_zero, Nat.zero_min, ty_non, ty_bl, ty_int, ty_str, ty_tup, ty_rol, ty_loc, kb_bool_bool, kb_bool_int, kb_bool_str, kb_bool_tuple, kb_bool_list, kb_int_bool, kb_int_int, kb_int_str, kb_int_tuple, kb_int_list, kb_str_bool, kb_str_int, kb_str_str, kb_str_tuple, kb_str_list, kb_tuple_bool, kb_tuple_int, kb_tuple_str, kb_tuple_tuple, kb_tuple_list, kb_list_bool, kb_list_int, kb_list_str, kb_list_tuple, kb_list_list, kb_NoneType_bool, kb_NoneType_int, kb_NoneType_str, kb_NoneType_tuple, kb_NoneType_list, Nat.zero_add, c02, lstAt_setE, Option.map_some, lstAt_set_ne, ne_eq, Nat.reduceEqDiff, Nat.one_ne_zero, Nat.zero_ne_one, ix_1_0, ix_2_0, ix_2_1, ix_3_0, ix_3_1, ix_3_2, ix_4_0, ix_4_1, ix_4_2, ix_4_3, ix_5_0, ix_5_1, ix_5_2, ix_5_3, ix_5_4, ix_6_0, ix_6_1, ix_6_2, ix_6_3, ix_6_4, ix_6_5, Nat.reduceLeDiff, Int.reduceAdd, Int.reduceSub, Int.reduceMul, Int.reduceNeg, Int.reducePow, Int.reduceLT, Int.reduceLE, Int.reduceEq, Int.reduceToNat, Bool.and_true, Bool.true_and, Bool.and_self, Bool.and_false, Bool.false_and, Bool.and_eq_true, Bool.and_eq_false_imp, and_self, WS_qdn, WS_qdr, WS_qde, WS_qdb, WS_qdc, qn1, qn2, qn3, qn4, qn5, qk1, qk5, lq1, lq2, lq3, lq4, lq5, intD_int, items_tup, items_rol, items_loc, listOf_loc, listOf_rol, isL_loc, at0, at1, at2, at3, at4, at5, atl1, atl2, atl3, atl4, lstAt_new, lstAt_h0, lstAt_h1, lstAt_h2, lstAt_h3, it_tup, it_rol, kTup_eq, kLen_eq, wipe0, wipe1, b_nm, List.set_cons_zero, List.set_cons_succ, List.length_cons, List.length_nil, List.nil_append, List.cons_append, List.append_nil, List.isEmpty_cons, List.isEmpty_nil, true_and, and_true, false_and, and_false, true_implies, forall_const, not_true_eq_false, not_false_eq_true, implies_true, decide_eq_true_eq, decide_eq_false_iff_not, Bool.not_eq_true', Bool.not_eq_false', Bool.not_true, Bool.not_false, if_true, if_false, Bool.false_eq_true, Bool.true_eq_false, reduceCtorEq, false_implies, eq_self, wm__law_flow, b__law_flow, hc]
  rw [itOf_cell (xs := ns.map D.int) rfl]
  simp only [↓reduceIte, ↓W_ok, ↓W_exn, ↓W_var0, ↓W_varS, ↓W_K, ↓W_bin, ↓W_un, ↓W_aNil, ↓W_aCons, ↓W_arg, ↓W_call, ↓W_of, ↓WB_test, ↓tc_bl, ↓WB_tru, ↓trc, ↓WB_and, ↓WB_or, ↓WB_not, ↓W_if, ↓W_andV, ↓W_orV, ↓W_notV, ↓WM_some, ↓WM_none, ↓WO_some, ↓tr_bl, ↓tr_non, ↓tr_int, ↓tr_tup, ↓tr_rol, ↓WS_nx, ↓WS_rt, ↓WS_ct, ↓WS_bk, ↓WS_exn, ↓WS_seq, ↓WS_nil, ↓WS_retN, ↓WS_break, ↓WS_cont, ↓WS_expr, ↓WS_ret, ↓WS_if, ↓WS_set, ↓WS_par, ↓WS_asg, ↓WS_gSet, ↓WS_gN, ↓WS_gC, ↓WS_gUn, ↓WS_gSub, ↓WS_aug, ↓o_add, ↓o_iadd, ↓o_sub, ↓o_neg, ↓o_mul, ↓o_mod, ↓o_div, ↓o_pow, ↓o_addT, ↓o_addS, ↓o_addL, ↓o_lt, ↓o_le, ↓o_gt, ↓o_ge, ↓o_eq, ↓o_ne, ↓o_eqS, ↓o_neS, ↓o_eqB, ↓o_neB, ↓o_eqT, ↓o_neT, ↓o_eqN, ↓o_neN, ↓o_ltT, ↓o_leT, ↓o_is, ↓o_isnot, ↓o_isB, ↓o_isnotB, ↓o_inT, ↓o_ninT, ↓o_inL, ↓o_ninL, ↓o_ixT, ↓o_ixR, ↓o_ixL, ↓o_rev, ↓o_ixS, ↓o_str, ↓o_strS, ↓o_set, ↓o_lenT, ↓o_lenR, ↓o_lenL, ↓o_lenS, ↓o_int, ↓o_intT, ↓o_intF, ↓o_abs, ↓o_max, ↓o_min, ↓o_tuple, ↓o_listXt, ↓o_listXr, ↓o_listXl, ↓o_listXs, ↓o_sortedXt, ↓o_tup0, ↓o_tup1, ↓o_tup2, ↓o_tup3, ↓o_tup4, ↓o_tup5, ↓o_tup6, ↓o_lst0, ↓o_lst1, ↓o_lst2, ↓o_lst3, ↓o_lst4, ↓o_lst5, ↓o_lst6, ↓o_sum, ↓W_meth, ↓o_append, ↓o_extend, ↓o_popAt, ↓W_cut, ↓W_noPart, ↓W_part, ↓o_cutT, ↓o_cutR, ↓o_cutL, ↓W_isi, ↓W_ch, ↓WS_for, ↓WI_iter, ↓WI_range1, ↓WI_range2, ↓WI_range3, ↓WI_enum, ↓WI_zip2, ↓WI_zip3, ↓W_callK, ↓WS_f0, ↓WS_f1, ↓W_alloc, ↓W_ofL, ↓W_comp, ↓WB_yes, ↓W_c0, ↓W_c1, ↓W_listRg, ↓W_tupRg, ↓W_rRange1, ↓W_rRange2, Option.isSome_some, z2_t, z3_t, perm_nil, perm_cons, List.getD_cons_zero, List.getD_cons_succ, o_intT, o_intF, o_intB, o_ixL, o_ixT, beq_self_eq_true, decide_true, decide_false, okEq, okCmp, okIn, D.fits, D.fitsL, D.dep, D.depL, D.eqv, D.eqvL, D.alike, D.alikeL, isBl_bl, isN_non, isN_bl, isN_int, isN_str, isN_tup, isN_rol, isN_loc, Nat.reduceAdd, Nat.reduceSub, Nat.max_self, Nat.min_self, Nat.max_zero, Nat.zero_max, Nat.min_zero, Nat.zero_min, ty_non, ty_bl, ty_int, ty_str, ty_tup, ty_rol, ty_loc, kb_bool_bool, kb_bool_int, kb_bool_str, kb_bool_tuple, kb_bool_list, kb_int_bool, kb_int_int, kb_int_str, kb_int_tuple, kb_int_list, kb_str_bool, kb_str_int, kb_str_str, kb_str_tuple, kb_str_list, kb_tuple_bool, kb_tuple_int, kb_tuple_str, kb_tuple_tuple, kb_tuple_list, kb_list_bool, kb_list_int, kb_list_str, kb_list_tuple, kb_list_list, kb_NoneType_bool, kb_NoneType_int, kb_NoneType_str, kb_NoneType_tuple, kb_NoneType_list, Nat.zero_add, c02, lstAt_setE, Option.map_some, lstAt_set_ne, ne_eq, Nat.reduceEqDiff, Nat.one_ne_zero, Nat.zero_ne_one, ix_1_0, ix_2_0, ix_2_1, ix_3_0, ix_3_1, ix_3_2, ix_4_0, ix_4_1, ix_4_2, ix_4_3, ix_5_0, ix_5_1, ix_5_2, ix_5_3, ix_5_4, ix_6_0, ix_6_1, ix_6_2, ix_6_3, ix_6_4, ix_6_5, Nat.reduceLeDiff, Int.reduceAdd, Int.reduceSub, Int.reduceMul, Int.reduceNeg, Int.reducePow, Int.reduceLT, Int.reduceLE, Int.reduceEq, Int.reduceToNat, Bool.and_true, Bool.true_and, Bool.and_self, Bool.and_false, Bool.false_and, Bool.and_eq_true, Bool.and_eq_false_imp, and_self, WS_qdn, WS_qdr, WS_qde, WS_qdb, WS_qdc, qn1, qn2, qn3, qn4, qn5, qk1, qk5, lq1, lq2, lq3, lq4, lq5, intD_int, items_tup, items_rol, items_loc, listOf_loc, listOf_rol, isL_loc, at0, at1, at2, at3, at4, at5, atl1, atl2, atl3, atl4, lstAt_new, lstAt_h0, lstAt_h1, lstAt_h2, lstAt_h3, it_tup, it_rol, kTup_eq, kLen_eq, wipe0, wipe1, b_nm, List.set_cons_zero, List.set_cons_succ, List.length_cons, List.length_nil, List.nil_append, List.cons_append, List.append_nil, List.isEmpty_cons, List.isEmpty_nil, true_and, and_true, false_and, and_false, true_implies, forall_const, not_true_eq_false, not_false_eq_true, implies_true, decide_eq_true_eq, decide_eq_false_iff_not, Bool.not_eq_true', Bool.not_eq_false', Bool.not_true, Bool.not_false, if_true, if_false, Bool.false_eq_true, Bool.true_eq_false, reduceCtorEq, false_implies, eq_self, hc]
  refine WS_loop (fun ds σ S => (∃ ms : List Int, ds = ms.map D.int) ∧ ∃ (s : Int) (g : List Int) (p q : Option D), σ = [some (.rol (ns.map D.int)), some (.int salt), some (.int s), some (.loc 0), p, q] ∧ S = [.lst (g.map D.int), .lst (ns.map D.int)] ∧ 0 ≤ s ∧ s < 2147483629 ∧ (∀ z ∈ g, (0 : Int) ≤ z) ∧ g.length + ds.length ≤ 63)
    ⟨⟨ns, rfl⟩, salt, [], none, none, rfl, rfl, h0, h1, by simp, by simpa using hl⟩ ?_ ?_
  · rintro d r σ S ⟨⟨ms, hm⟩, s, g, p, q, rfl, rfl, hs, hs2, hg, hl2⟩
    cases ms with
    | nil => cases hm
    | cons m ms =>
    cases hm
    refine ⟨rfl, ?_⟩
    simp only [↓reduceIte, ↓W_ok, ↓W_exn, ↓W_var0, ↓W_varS, ↓W_K, ↓W_bin, ↓W_un, ↓W_aNil, ↓W_aCons, ↓W_arg, ↓W_call, ↓W_of, ↓WB_test, ↓tc_bl, ↓WB_tru, ↓trc, ↓WB_and, ↓WB_or, ↓WB_not, ↓W_if, ↓W_andV, ↓W_orV, ↓W_notV, ↓WM_some, ↓WM_none, ↓WO_some, ↓tr_bl, ↓tr_non, ↓tr_int, ↓tr_tup, ↓tr_rol, ↓WS_nx, ↓WS_rt, ↓WS_ct, ↓WS_bk, ↓WS_exn, ↓WS_seq, ↓WS_nil, ↓WS_retN, ↓WS_break, ↓WS_cont, ↓WS_expr, ↓WS_ret, ↓WS_if, ↓WS_set, ↓WS_par, ↓WS_asg, ↓WS_gSet, ↓WS_gN, ↓WS_gC, ↓WS_gUn, ↓WS_gSub, ↓WS_aug, ↓o_add, ↓o_iadd, ↓o_sub, ↓o_neg, ↓o_mul, ↓o_mod, ↓o_div, ↓o_pow, ↓o_addT, ↓o_addS, ↓o_addL, ↓o_lt, ↓o_le, ↓o_gt, ↓o_ge, ↓o_eq, ↓o_ne, ↓o_eqS, ↓o_neS, ↓o_eqB, ↓o_neB, ↓o_eqT, ↓o_neT, ↓o_eqN, ↓o_neN, ↓o_ltT, ↓o_leT, ↓o_is, ↓o_isnot, ↓o_isB, ↓o_isnotB, ↓o_inT, ↓o_ninT, ↓o_inL, ↓o_ninL, ↓o_ixT, ↓o_ixR, ↓o_ixL, ↓o_rev, ↓o_ixS, ↓o_str, ↓o_strS, ↓o_set, ↓o_lenT, ↓o_lenR, ↓o_lenL, ↓o_lenS, ↓o_int, ↓o_intT, ↓o_intF, ↓o_abs, ↓o_max, ↓o_min, ↓o_tuple, ↓o_listXt, ↓o_listXr, ↓o_listXl, ↓o_listXs, ↓o_sortedXt, ↓o_tup0, ↓o_tup1, ↓o_tup2, ↓o_tup3, ↓o_tup4, ↓o_tup5, ↓o_tup6, ↓o_lst0, ↓o_lst1, ↓o_lst2, ↓o_lst3, ↓o_lst4, ↓o_lst5, ↓o_lst6, ↓o_sum, ↓W_meth, ↓o_append, ↓o_extend, ↓o_popAt, ↓W_cut, ↓W_noPart, ↓W_part, ↓o_cutT, ↓o_cutR, ↓o_cutL, ↓W_isi, ↓W_ch, ↓WS_for, ↓WI_iter, ↓WI_range1, ↓WI_range2, ↓WI_range3, ↓WI_enum, ↓WI_zip2, ↓WI_zip3, ↓W_callK, ↓WS_f0, ↓WS_f1, ↓W_alloc, ↓W_ofL, ↓W_comp, ↓WB_yes, ↓W_c0, ↓W_c1, ↓W_listRg, ↓W_tupRg, ↓W_rRange1, ↓W_rRange2, Option.isSome_some, z2_t, z3_t, perm_nil, perm_cons, List.getD_cons_zero, List.getD_cons_succ, o_intT, o_intF, o_intB, o_ixL, o_ixT, beq_self_eq_true, decide_true, decide_false, okEq, okCmp, okIn, D.fits, D.fitsL, D.dep, D.depL, D.eqv, D.eqvL, D.alike, D.alikeL, isBl_bl, isN_non, isN_bl, isN_int, isN_str, isN_tup, isN_rol, isN_loc, Nat.reduceAdd, Nat.reduceSub, Nat.max_self, Nat.min_self, Nat.max_zero, Nat.zero_max, Nat.min_zero, Nat.zero_min, ty_non, ty_bl, ty_int, ty_str, ty_tup, ty_rol, ty_loc, kb_bool_bool, kb_bool_int, kb_bool_str, kb_bool_tuple, kb_bool_list, kb_int_bool, kb_int_int, kb_int_str, kb_int_tuple, kb_int_list, kb_str_bool, kb_str_int, kb_str_str, kb_str_tuple, kb_str_list, kb_tuple_bool, kb_tuple_int, kb_tuple_str, kb_tuple_tuple, kb_tuple_list, kb_list_bool, kb_list_int, kb_list_str, kb_list_tuple, kb_list_list, kb_NoneType_bool, kb_NoneType_int, kb_NoneType_str, kb_NoneType_tuple, kb_NoneType_list, Nat.zero_add, c02, lstAt_setE, Option.map_some, lstAt_set_ne, ne_eq, Nat.reduceEqDiff, Nat.one_ne_zero, Nat.zero_ne_one, ix_1_0, ix_2_0, ix_2_1, ix_3_0, ix_3_1, ix_3_2, ix_4_0, ix_4_1, ix_4_2, ix_4_3, ix_5_0, ix_5_1, ix_5_2, ix_5_3, ix_5_4, ix_6_0, ix_6_1, ix_6_2, ix_6_3, ix_6_4, ix_6_5, Nat.reduceLeDiff, Int.reduceAdd, Int.reduceSub, Int.reduceMul, Int.reduceNeg, Int.reducePow, Int.reduceLT, Int.reduceLE, Int.reduceEq, Int.reduceToNat, Bool.and_true, Bool.true_and, Bool.and_self, Bool.and_false, Bool.false_and, Bool.and_eq_true, Bool.and_eq_false_imp, and_self, WS_qdn, WS_qdr, WS_qde, WS_qdb, WS_qdc, qn1, qn2, qn3, qn4, qn5, qk1, qk5, lq1, lq2, lq3, lq4, lq5, intD_int, items_tup, items_rol, items_loc, listOf_loc, listOf_rol, isL_loc, at0, at1, at2, at3, at4, at5, atl1, atl2, atl3, atl4, lstAt_new, lstAt_h0, lstAt_h1, lstAt_h2, lstAt_h3, it_tup, it_rol, kTup_eq, kLen_eq, wipe0, wipe1, b_nm, List.set_cons_zero, List.set_cons_succ, List.length_cons, List.length_nil, List.nil_append, List.cons_append, List.append_nil, List.isEmpty_cons, List.isEmpty_nil, true_and, and_true, false_and, and_false, true_implies, forall_const, not_true_eq_false, not_false_eq_true, implies_true, decide_eq_true_eq, decide_eq_false_iff_not, Bool.not_eq_true', Bool.not_eq_false', Bool.not_true, Bool.not_false, if_true, if_false, Bool.false_eq_true, Bool.true_eq_false, reduceCtorEq, false_implies, eq_self]
    repeat (refine ⟨by (first | assumption | omega | decide | exact mul2 (by omega) | exact mul1 (by omega) | exact divS (by omega) (by omega) | exact sl (by omega) | exact (by simp only [okB]; omega) | (constructor <;> omega) | (simp only [List.length_map]; omega)), ?_⟩)
    have ha : (0 : Int) ≤ if m < 0 then -m else m := by split <;> omega
    have hn := Int.emod_nonneg (s * 134775813 + (if m < 0 then -m else m) % 2147483563 + 11) (show (2147483629 : Int) ≠ 0 by decide)
    have hn2 := Int.emod_lt_of_pos (s * 134775813 + (if m < 0 then -m else m) % 2147483563 + 11) (show (0 : Int) < 2147483629 by decide)
    have hgl : (g.map D.int).length < sizeLine := by
      rw [sizeLine_eq, List.length_map]
      omega
    rw [List.length_cons, List.length_map] at hl2
    refine ⟨fun _ => ?_, fun _ => ?_⟩
    · exact ⟨hgl, ⟨ms, rfl⟩, _, g ++ [if m < 0 then -m else m], _, _, rfl, by simp, hn, hn2, fun z hz => by
        rcases List.mem_append.mp hz with h | h
        · exact hg z h
        · rw [List.mem_singleton.mp h]; exact ha, by rw [List.length_append, List.length_map]; simp; omega⟩
    · exact ⟨⟨ms, rfl⟩, _, g, _, _, rfl, rfl, hn, hn2, hg, by rw [List.length_map]; omega⟩
  · rintro σ S ⟨-, s, g, p, q, rfl, rfl, hs, hs2, hg, hl2⟩
    refine ⟨rfl, ?_⟩
    simp only [↓reduceIte, ↓W_ok, ↓W_exn, ↓W_var0, ↓W_varS, ↓W_K, ↓W_bin, ↓W_un, ↓W_aNil, ↓W_aCons, ↓W_arg, ↓W_call, ↓W_of, ↓WB_test, ↓tc_bl, ↓WB_tru, ↓trc, ↓WB_and, ↓WB_or, ↓WB_not, ↓W_if, ↓W_andV, ↓W_orV, ↓W_notV, ↓WM_some, ↓WM_none, ↓WO_some, ↓tr_bl, ↓tr_non, ↓tr_int, ↓tr_tup, ↓tr_rol, ↓WS_nx, ↓WS_rt, ↓WS_ct, ↓WS_bk, ↓WS_exn, ↓WS_seq, ↓WS_nil, ↓WS_retN, ↓WS_break, ↓WS_cont, ↓WS_expr, ↓WS_ret, ↓WS_if, ↓WS_set, ↓WS_par, ↓WS_asg, ↓WS_gSet, ↓WS_gN, ↓WS_gC, ↓WS_gUn, ↓WS_gSub, ↓WS_aug, ↓o_add, ↓o_iadd, ↓o_sub, ↓o_neg, ↓o_mul, ↓o_mod, ↓o_div, ↓o_pow, ↓o_addT, ↓o_addS, ↓o_addL, ↓o_lt, ↓o_le, ↓o_gt, ↓o_ge, ↓o_eq, ↓o_ne, ↓o_eqS, ↓o_neS, ↓o_eqB, ↓o_neB, ↓o_eqT, ↓o_neT, ↓o_eqN, ↓o_neN, ↓o_ltT, ↓o_leT, ↓o_is, ↓o_isnot, ↓o_isB, ↓o_isnotB, ↓o_inT, ↓o_ninT, ↓o_inL, ↓o_ninL, ↓o_ixT, ↓o_ixR, ↓o_ixL, ↓o_rev, ↓o_ixS, ↓o_str, ↓o_strS, ↓o_set, ↓o_lenT, ↓o_lenR, ↓o_lenL, ↓o_lenS, ↓o_int, ↓o_intT, ↓o_intF, ↓o_abs, ↓o_max, ↓o_min, ↓o_tuple, ↓o_listXt, ↓o_listXr, ↓o_listXl, ↓o_listXs, ↓o_sortedXt, ↓o_tup0, ↓o_tup1, ↓o_tup2, ↓o_tup3, ↓o_tup4, ↓o_tup5, ↓o_tup6, ↓o_lst0, ↓o_lst1, ↓o_lst2, ↓o_lst3, ↓o_lst4, ↓o_lst5, ↓o_lst6, ↓o_sum, ↓W_meth, ↓o_append, ↓o_extend, ↓o_popAt, ↓W_cut, ↓W_noPart, ↓W_part, ↓o_cutT, ↓o_cutR, ↓o_cutL, ↓W_isi, ↓W_ch, ↓WS_for, ↓WI_iter, ↓WI_range1, ↓WI_range2, ↓WI_range3, ↓WI_enum, ↓WI_zip2, ↓WI_zip3, ↓W_callK, ↓WS_f0, ↓WS_f1, ↓W_alloc, ↓W_ofL, ↓W_comp, ↓WB_yes, ↓W_c0, ↓W_c1, ↓W_listRg, ↓W_tupRg, ↓W_rRange1, ↓W_rRange2, Option.isSome_some, z2_t, z3_t, perm_nil, perm_cons, List.getD_cons_zero, List.getD_cons_succ, o_intT, o_intF, o_intB, o_ixL, o_ixT, beq_self_eq_true, decide_true, decide_false, okEq, okCmp, okIn, D.fits, D.fitsL, D.dep, D.depL, D.eqv, D.eqvL, D.alike, D.alikeL, isBl_bl, isN_non, isN_bl, isN_int, isN_str, isN_tup, isN_rol, isN_loc, Nat.reduceAdd, Nat.reduceSub, Nat.max_self, Nat.min_self, Nat.max_zero, Nat.zero_max, Nat.min_zero, Nat.zero_min, ty_non, ty_bl, ty_int, ty_str, ty_tup, ty_rol, ty_loc, kb_bool_bool, kb_bool_int, kb_bool_str, kb_bool_tuple, kb_bool_list, kb_int_bool, kb_int_int, kb_int_str, kb_int_tuple, kb_int_list, kb_str_bool, kb_str_int, kb_str_str, kb_str_tuple, kb_str_list, kb_tuple_bool, kb_tuple_int, kb_tuple_str, kb_tuple_tuple, kb_tuple_list, kb_list_bool, kb_list_int, kb_list_str, kb_list_tuple, kb_list_list, kb_NoneType_bool, kb_NoneType_int, kb_NoneType_str, kb_NoneType_tuple, kb_NoneType_list, Nat.zero_add, c02, lstAt_setE, Option.map_some, lstAt_set_ne, ne_eq, Nat.reduceEqDiff, Nat.one_ne_zero, Nat.zero_ne_one, ix_1_0, ix_2_0, ix_2_1, ix_3_0, ix_3_1, ix_3_2, ix_4_0, ix_4_1, ix_4_2, ix_4_3, ix_5_0, ix_5_1, ix_5_2, ix_5_3, ix_5_4, ix_6_0, ix_6_1, ix_6_2, ix_6_3, ix_6_4, ix_6_5, Nat.reduceLeDiff, Int.reduceAdd, Int.reduceSub, Int.reduceMul, Int.reduceNeg, Int.reducePow, Int.reduceLT, Int.reduceLE, Int.reduceEq, Int.reduceToNat, Bool.and_true, Bool.true_and, Bool.and_self, Bool.and_false, Bool.false_and, Bool.and_eq_true, Bool.and_eq_false_imp, and_self, WS_qdn, WS_qdr, WS_qde, WS_qdb, WS_qdc, qn1, qn2, qn3, qn4, qn5, qk1, qk5, lq1, lq2, lq3, lq4, lq5, intD_int, items_tup, items_rol, items_loc, listOf_loc, listOf_rol, isL_loc, at0, at1, at2, at3, at4, at5, atl1, atl2, atl3, atl4, lstAt_new, lstAt_h0, lstAt_h1, lstAt_h2, lstAt_h3, it_tup, it_rol, kTup_eq, kLen_eq, wipe0, wipe1, b_nm, List.set_cons_zero, List.set_cons_succ, List.length_cons, List.length_nil, List.nil_append, List.cons_append, List.append_nil, List.isEmpty_cons, List.isEmpty_nil, true_and, and_true, false_and, and_false, true_implies, forall_const, not_true_eq_false, not_false_eq_true, implies_true, decide_eq_true_eq, decide_eq_false_iff_not, Bool.not_eq_true', Bool.not_eq_false', Bool.not_true, Bool.not_false, if_true, if_false, Bool.false_eq_true, Bool.true_eq_false, reduceCtorEq, false_implies, eq_self]
    exact h _ ⟨g, 0, 0, s, rfl, rfl, by decide, by decide, hs, hs2, hg⟩ rfl
end
end LW

namespace LW
open PySem PySem.Spec PyProof.Rows L2 DL
section
variable {x : XQ} {Q : D → Store → Prop} {tt : Tg (x, Q)} {S S' S'' : Store} {many : Int} {l : Nat} {xs ys : List D} {c : D}
theorem swap_perm {α : Type} (xs : List α) (i j : Nat) (h : i < xs.length) (h' : j < xs.length) : ((xs.set i xs[j]).set j xs[i]).Perm xs := by
  classical
  rw [List.perm_iff_count]
  intro a
  rw [List.count_set (by rw [List.length_set]; exact h'), List.count_set h]
  by_cases hij : i = j
  · subst hij
    rw [List.getElem_set_self]
    have : 1 ≤ xs.count xs[i] := List.one_le_count_iff.mpr (List.getElem_mem _)
    by_cases e : xs[i] = a <;> simp [e] <;> (try subst e) <;> omega
  · rw [List.getElem_set_ne hij]
    have h1 : 1 ≤ xs.count xs[i] := List.one_le_count_iff.mpr (List.getElem_mem _)
    have h2 : 1 ≤ xs.count xs[j] := List.one_le_count_iff.mpr (List.getElem_mem _)
    by_cases e : xs[i] = a <;> by_cases e2 : xs[j] = a <;> simp [e, e2] <;> (try subst e) <;> (try subst e2) <;> (try omega)
theorem shuf_w (hF : FlowOk S) (hc : itemsOf S c = some xs) (hl : xs.length ≤ 1000) (h : ∀ l ys S', S.length ≤ l → lstAt S' l = some ys → ys.Perm xs → FlowOk S' → Fk 3 S S' → Q (.loc l) S') : W (x, Q) tt (m__law_shuffled [.loc 2, c] S) := by
  have h3 := hF.len
  obtain ⟨r1, r2⟩ := rg_down (i := xs.length - 1) (j := 0) (by decide) (by omega) (by omega) (by decide)
  simp only [↓reduceIte, ↓W_ok, ↓W_exn, ↓W_var0, ↓W_varS, ↓W_K, ↓W_bin, ↓W_un, ↓W_aNil, ↓W_aCons, ↓W_arg, ↓W_call, ↓W_of, ↓WB_test, ↓tc_bl, ↓WB_tru, ↓trc, ↓WB_and, ↓WB_or, ↓WB_not, ↓W_if, ↓W_andV, ↓W_orV, ↓W_notV, ↓WM_some, ↓WM_none, ↓WO_some, ↓tr_bl, ↓tr_non, ↓tr_int, ↓tr_tup, ↓tr_rol, ↓WS_nx, ↓WS_rt, ↓WS_ct, ↓WS_bk, ↓WS_exn, ↓WS_seq, ↓WS_nil, ↓WS_retN, ↓WS_break, ↓WS_cont, ↓WS_expr, ↓WS_ret, ↓WS_if, ↓WS_set, ↓WS_par, ↓WS_asg, ↓WS_gSet, ↓WS_gN, ↓WS_gC, ↓WS_gUn, ↓WS_gSub, ↓WS_aug, ↓o_add, ↓o_iadd, ↓o_sub, ↓o_neg, ↓o_mul, ↓o_mod, ↓o_div, ↓o_pow, ↓o_addT, ↓o_addS, ↓o_addL, ↓o_lt, ↓o_le, ↓o_gt, ↓o_ge, ↓o_eq, ↓o_ne, ↓o_eqS, ↓o_neS, ↓o_eqB, ↓o_neB, ↓o_eqT, ↓o_neT, ↓o_eqN, ↓o_neN, ↓o_ltT, ↓o_leT, ↓o_is, ↓o_isnot, ↓o_isB, ↓o_isnotB, ↓o_inT, ↓o_ninT, ↓o_inL, ↓o_ninL, ↓o_ixT, ↓o_ixR, ↓o_ixL, ↓o_rev, ↓o_ixS, ↓o_str, ↓o_strS, ↓o_set, ↓o_lenT, ↓o_lenR, ↓o_lenL, ↓o_lenS, ↓o_int, ↓o_intT, ↓o_intF, ↓o_abs, ↓o_max, ↓o_min, ↓o_tuple, ↓o_listXt, ↓o_listXr, ↓o_listXl, ↓o_listXs, ↓o_sortedXt, ↓o_tup0, ↓o_tup1, ↓o_tup2, ↓o_tup3, ↓o_tup4, ↓o_tup5, ↓o_tup6, ↓o_lst0, ↓o_lst1, ↓o_lst2, ↓o_lst3, ↓o_lst4, ↓o_lst5, ↓o_lst6, ↓o_sum, ↓W_meth, ↓o_append, ↓o_extend, ↓o_popAt, ↓W_cut, ↓W_noPart, ↓W_part, ↓o_cutT, ↓o_cutR, ↓o_cutL, ↓W_isi, ↓W_ch, ↓WS_for, ↓WI_iter, ↓WI_range1, ↓WI_range2, ↓WI_range3, ↓WI_enum, ↓WI_zip2, ↓WI_zip3, ↓W_callK, ↓WS_f0, ↓WS_f1, ↓W_alloc, ↓W_ofL, ↓W_comp, ↓WB_yes, ↓W_c0, ↓W_c1, ↓W_listRg, ↓W_tupRg, ↓W_rRange1, ↓W_rRange2, Option.isSome_some, z2_t, z3_t, perm_nil, perm_cons, List.getD_cons_zero, List.getD_cons_succ, o_intT, o_intF, o_intB, o_ixL, o_ixT, beq_self_eq_true, decide_true, decide_false, okEq, okCmp, okIn, D.fits, D.fitsL, D.dep, D.depL, D.eqv, D.eqvL, D.alike, D.alikeL, isBl_bl, isN_non, isN_bl, isN_int, isN_str, isN_tup, isN_rol, isN_loc, Nat.reduceAdd, Nat.reduceSub, Nat.max_self, Nat.min_self, Nat.max_zero, Nat.zero_max, Nat.min_zero, Nat.zero_min, ty_non, ty_bl, ty_int, ty_str, ty_tup, ty_rol, ty_loc, kb_bool_bool, kb_bool_int, kb_bool_str, kb_bool_tuple, kb_bool_list, kb_int_bool, kb_int_int, kb_int_str, kb_int_tuple, kb_int_list, kb_str_bool, kb_str_int, kb_str_str, kb_str_tuple, kb_str_list, kb_tuple_bool, kb_tuple_int, kb_tuple_str, kb_tuple_tuple, kb_tuple_list, kb_list_bool, kb_list_int, kb_list_str, kb_list_tuple, kb_list_list, kb_NoneType_bool, kb_NoneType_int, kb_NoneType_str, kb_NoneType_tuple, kb_NoneType_list, Nat.zero_add, c02, lstAt_setE, Option.map_some, lstAt_set_ne, ne_eq, Nat.reduceEqDiff, Nat.one_ne_zero, Nat.zero_ne_one, ix_1_0, ix_2_0, ix_2_1, ix_3_0, ix_3_1, ix_3_2, ix_4_0, ix_4_1, ix_4_2, ix_4_3, ix_5_0, ix_5_1, ix_5_2, ix_5_3, ix_5_4, ix_6_0, ix_6_1, ix_6_2, ix_6_3, ix_6_4, ix_6_5, Nat.reduceLeDiff, Int.reduceAdd, Int.reduceSub, Int.reduceMul, Int.reduceNeg, Int.reducePow, Int.reduceLT, Int.reduceLE, Int.reduceEq, Int.reduceToNat, Bool.and_true, Bool.true_and, Bool.and_self, Bool.and_false, Bool.false_and, Bool.and_eq_true, Bool.and_eq_false_imp, and_self, WS_qdn, WS_qdr, WS_qde, WS_qdb, WS_qdc, qn1, qn2, qn3, qn4, qn5, qk1, qk5, lq1, lq2, lq3, lq4, lq5, intD_int, items_tup, items_rol, items_loc, listOf_loc, listOf_rol, isL_loc, at0, at1, at2, at3, at4, at5, atl1, atl2, atl3, atl4, lstAt_new, lstAt_h0, lstAt_h1, lstAt_h2, lstAt_h3, it_tup, it_rol, kTup_eq, kLen_eq, wipe0, wipe1, b_nm, List.set_cons_zero, List.set_cons_succ, List.length_cons, List.length_nil, List.nil_append, List.cons_append, List.append_nil, List.isEmpty_cons, List.isEmpty_nil, true_and, and_true, false_and, and_false, true_implies, forall_const, not_true_eq_false, not_false_eq_true, implies_true, decide_eq_true_eq, decide_eq_false_iff_not, Bool.not_eq_true', Bool.not_eq_false', Bool.not_true, Bool.not_false, if_true, if_false, Bool.false_eq_true, Bool.true_eq_false, reduceCtorEq, false_implies, eq_self, wm__law_shuffled, b__law_shuffled, o_listXi hc]
  refine ⟨r1, ?_⟩
  rw [r2]
  refine WS_dloop (fun i σ S' => FlowOk S' ∧ Fk 3 S S' ∧ ∃ ys p q r, σ = [some (.loc 2), some (.loc S.length), p, q, r] ∧ lstAt S' S.length = some ys ∧ ys.Perm xs) ⟨hF.app _, (Fk.refl _ _).app _, _, _, _, _, rfl, lstAt_new, .refl _⟩ ?_ ?_
  · rintro i σ S1 i0 i1 ⟨F1, K1, ys, p, q, r, rfl, hL, hP⟩
    have hlen := hP.length_eq
    simp only [↓reduceIte, ↓W_ok, ↓W_exn, ↓W_var0, ↓W_varS, ↓W_K, ↓W_bin, ↓W_un, ↓W_aNil, ↓W_aCons, ↓W_arg, ↓W_call, ↓W_of, ↓WB_test, ↓tc_bl, ↓WB_tru, ↓trc, ↓WB_and, ↓WB_or, ↓WB_not, ↓W_if, ↓W_andV, ↓W_orV, ↓W_notV, ↓WM_some, ↓WM_none, ↓WO_some, ↓tr_bl, ↓tr_non, ↓tr_int, ↓tr_tup, ↓tr_rol, ↓WS_nx, ↓WS_rt, ↓WS_ct, ↓WS_bk, ↓WS_exn, ↓WS_seq, ↓WS_nil, ↓WS_retN, ↓WS_break, ↓WS_cont, ↓WS_expr, ↓WS_ret, ↓WS_if, ↓WS_set, ↓WS_par, ↓WS_asg, ↓WS_gSet, ↓WS_gN, ↓WS_gC, ↓WS_gUn, ↓WS_gSub, ↓WS_aug, ↓o_add, ↓o_iadd, ↓o_sub, ↓o_neg, ↓o_mul, ↓o_mod, ↓o_div, ↓o_pow, ↓o_addT, ↓o_addS, ↓o_addL, ↓o_lt, ↓o_le, ↓o_gt, ↓o_ge, ↓o_eq, ↓o_ne, ↓o_eqS, ↓o_neS, ↓o_eqB, ↓o_neB, ↓o_eqT, ↓o_neT, ↓o_eqN, ↓o_neN, ↓o_ltT, ↓o_leT, ↓o_is, ↓o_isnot, ↓o_isB, ↓o_isnotB, ↓o_inT, ↓o_ninT, ↓o_inL, ↓o_ninL, ↓o_ixT, ↓o_ixR, ↓o_ixL, ↓o_rev, ↓o_ixS, ↓o_str, ↓o_strS, ↓o_set, ↓o_lenT, ↓o_lenR, ↓o_lenL, ↓o_lenS, ↓o_int, ↓o_intT, ↓o_intF, ↓o_abs, ↓o_max, ↓o_min, ↓o_tuple, ↓o_listXt, ↓o_listXr, ↓o_listXl, ↓o_listXs, ↓o_sortedXt, ↓o_tup0, ↓o_tup1, ↓o_tup2, ↓o_tup3, ↓o_tup4, ↓o_tup5, ↓o_tup6, ↓o_lst0, ↓o_lst1, ↓o_lst2, ↓o_lst3, ↓o_lst4, ↓o_lst5, ↓o_lst6, ↓o_sum, ↓W_meth, ↓o_append, ↓o_extend, ↓o_popAt, ↓W_cut, ↓W_noPart, ↓W_part, ↓o_cutT, ↓o_cutR, ↓o_cutL, ↓W_isi, ↓W_ch, ↓WS_for, ↓WI_iter, ↓WI_range1, ↓WI_range2, ↓WI_range3, ↓WI_enum, ↓WI_zip2, ↓WI_zip3, ↓W_callK, ↓WS_f0, ↓WS_f1, ↓W_alloc, ↓W_ofL, ↓W_comp, ↓WB_yes, ↓W_c0, ↓W_c1, ↓W_listRg, ↓W_tupRg, ↓W_rRange1, ↓W_rRange2, Option.isSome_some, z2_t, z3_t, perm_nil, perm_cons, List.getD_cons_zero, List.getD_cons_succ, o_intT, o_intF, o_intB, o_ixL, o_ixT, beq_self_eq_true, decide_true, decide_false, okEq, okCmp, okIn, D.fits, D.fitsL, D.dep, D.depL, D.eqv, D.eqvL, D.alike, D.alikeL, isBl_bl, isN_non, isN_bl, isN_int, isN_str, isN_tup, isN_rol, isN_loc, Nat.reduceAdd, Nat.reduceSub, Nat.max_self, Nat.min_self, Nat.max_zero, Nat.zero_max, Nat.min_zero, Nat.zero_min, ty_non, ty_bl, ty_int, ty_str, ty_tup, ty_rol, ty_loc, kb_bool_bool, kb_bool_int, kb_bool_str, kb_bool_tuple, kb_bool_list, kb_int_bool, kb_int_int, kb_int_str, kb_int_tuple, kb_int_list, kb_str_bool, kb_str_int, kb_str_str, kb_str_tuple, kb_str_list, kb_tuple_bool, kb_tuple_int, kb_tuple_str, kb_tuple_tuple, kb_tuple_list, kb_list_bool, kb_list_int, kb_list_str, kb_list_tuple, kb_list_list, kb_NoneType_bool, kb_NoneType_int, kb_NoneType_str, kb_NoneType_tuple, kb_NoneType_list, Nat.zero_add, c02, lstAt_setE, Option.map_some, lstAt_set_ne, ne_eq, Nat.reduceEqDiff, Nat.one_ne_zero, Nat.zero_ne_one, ix_1_0, ix_2_0, ix_2_1, ix_3_0, ix_3_1, ix_3_2, ix_4_0, ix_4_1, ix_4_2, ix_4_3, ix_5_0, ix_5_1, ix_5_2, ix_5_3, ix_5_4, ix_6_0, ix_6_1, ix_6_2, ix_6_3, ix_6_4, ix_6_5, Nat.reduceLeDiff, Int.reduceAdd, Int.reduceSub, Int.reduceMul, Int.reduceNeg, Int.reducePow, Int.reduceLT, Int.reduceLE, Int.reduceEq, Int.reduceToNat, Bool.and_true, Bool.true_and, Bool.and_self, Bool.and_false, Bool.false_and, Bool.and_eq_true, Bool.and_eq_false_imp, and_self, WS_qdn, WS_qdr, WS_qde, WS_qdb, WS_qdc, qn1, qn2, qn3, qn4, qn5, qk1, qk5, lq1, lq2, lq3, lq4, lq5, intD_int, items_tup, items_rol, items_loc, listOf_loc, listOf_rol, isL_loc, at0, at1, at2, at3, at4, at5, atl1, atl2, atl3, atl4, lstAt_new, lstAt_h0, lstAt_h1, lstAt_h2, lstAt_h3, it_tup, it_rol, kTup_eq, kLen_eq, wipe0, wipe1, b_nm, List.set_cons_zero, List.set_cons_succ, List.length_cons, List.length_nil, List.nil_append, List.cons_append, List.append_nil, List.isEmpty_cons, List.isEmpty_nil, true_and, and_true, false_and, and_false, true_implies, forall_const, not_true_eq_false, not_false_eq_true, implies_true, decide_eq_true_eq, decide_eq_false_iff_not, Bool.not_eq_true', Bool.not_eq_false', Bool.not_true, Bool.not_false, if_true, if_false, Bool.false_eq_true, Bool.true_eq_false, reduceCtorEq, false_implies, eq_self]
    refine draw_w F1 (by omega) (by omega) fun v S2 v0 v1 F2 K2 => ?_
    have h2 := F1.len
    have hL2 := K2.lst (by omega) hL
    obtain ⟨d, e1, e2⟩ := atI_of (xs := ys) (i := i) (by omega) (by omega)
    obtain ⟨d', e1', e2'⟩ := atI_of (xs := ys) (i := v) (by omega) (by omega)
    have x1 : ixN ys.length i = some i.toNat := ixN_of (by omega) (by omega)
    have x2 : ixN ys.length v = some v.toNat := ixN_of (by omega) (by omega)
    simp only [↓reduceIte, ↓W_ok, ↓W_exn, ↓W_var0, ↓W_varS, ↓W_K, ↓W_bin, ↓W_un, ↓W_aNil, ↓W_aCons, ↓W_arg, ↓W_call, ↓W_of, ↓WB_test, ↓tc_bl, ↓WB_tru, ↓trc, ↓WB_and, ↓WB_or, ↓WB_not, ↓W_if, ↓W_andV, ↓W_orV, ↓W_notV, ↓WM_some, ↓WM_none, ↓WO_some, ↓tr_bl, ↓tr_non, ↓tr_int, ↓tr_tup, ↓tr_rol, ↓WS_nx, ↓WS_rt, ↓WS_ct, ↓WS_bk, ↓WS_exn, ↓WS_seq, ↓WS_nil, ↓WS_retN, ↓WS_break, ↓WS_cont, ↓WS_expr, ↓WS_ret, ↓WS_if, ↓WS_set, ↓WS_par, ↓WS_asg, ↓WS_gSet, ↓WS_gN, ↓WS_gC, ↓WS_gUn, ↓WS_gSub, ↓WS_aug, ↓o_add, ↓o_iadd, ↓o_sub, ↓o_neg, ↓o_mul, ↓o_mod, ↓o_div, ↓o_pow, ↓o_addT, ↓o_addS, ↓o_addL, ↓o_lt, ↓o_le, ↓o_gt, ↓o_ge, ↓o_eq, ↓o_ne, ↓o_eqS, ↓o_neS, ↓o_eqB, ↓o_neB, ↓o_eqT, ↓o_neT, ↓o_eqN, ↓o_neN, ↓o_ltT, ↓o_leT, ↓o_is, ↓o_isnot, ↓o_isB, ↓o_isnotB, ↓o_inT, ↓o_ninT, ↓o_inL, ↓o_ninL, ↓o_ixT, ↓o_ixR, ↓o_ixL, ↓o_rev, ↓o_ixS, ↓o_str, ↓o_strS, ↓o_set, ↓o_lenT, ↓o_lenR, ↓o_lenL, ↓o_lenS, ↓o_int, ↓o_intT, ↓o_intF, ↓o_abs, ↓o_max, ↓o_min, ↓o_tuple, ↓o_listXt, ↓o_listXr, ↓o_listXl, ↓o_listXs, ↓o_sortedXt, ↓o_tup0, ↓o_tup1, ↓o_tup2, ↓o_tup3, ↓o_tup4, ↓o_tup5, ↓o_tup6, ↓o_lst0, ↓o_lst1, ↓o_lst2, ↓o_lst3, ↓o_lst4, ↓o_lst5, ↓o_lst6, ↓o_sum, ↓W_meth, ↓o_append, ↓o_extend, ↓o_popAt, ↓W_cut, ↓W_noPart, ↓W_part, ↓o_cutT, ↓o_cutR, ↓o_cutL, ↓W_isi, ↓W_ch, ↓WS_for, ↓WI_iter, ↓WI_range1, ↓WI_range2, ↓WI_range3, ↓WI_enum, ↓WI_zip2, ↓WI_zip3, ↓W_callK, ↓WS_f0, ↓WS_f1, ↓W_alloc, ↓W_ofL, ↓W_comp, ↓WB_yes, ↓W_c0, ↓W_c1, ↓W_listRg, ↓W_tupRg, ↓W_rRange1, ↓W_rRange2, Option.isSome_some, z2_t, z3_t, perm_nil, perm_cons, List.getD_cons_zero, List.getD_cons_succ, o_intT, o_intF, o_intB, o_ixL, o_ixT, beq_self_eq_true, decide_true, decide_false, okEq, okCmp, okIn, D.fits, D.fitsL, D.dep, D.depL, D.eqv, D.eqvL, D.alike, D.alikeL, isBl_bl, isN_non, isN_bl, isN_int, isN_str, isN_tup, isN_rol, isN_loc, Nat.reduceAdd, Nat.reduceSub, Nat.max_self, Nat.min_self, Nat.max_zero, Nat.zero_max, Nat.min_zero, Nat.zero_min, ty_non, ty_bl, ty_int, ty_str, ty_tup, ty_rol, ty_loc, kb_bool_bool, kb_bool_int, kb_bool_str, kb_bool_tuple, kb_bool_list, kb_int_bool, kb_int_int, kb_int_str, kb_int_tuple, kb_int_list, kb_str_bool, kb_str_int, kb_str_str, kb_str_tuple, kb_str_list, kb_tuple_bool, kb_tuple_int, kb_tuple_str, kb_tuple_tuple, kb_tuple_list, kb_list_bool, kb_list_int, kb_list_str, kb_list_tuple, kb_list_list, kb_NoneType_bool, kb_NoneType_int, kb_NoneType_str, kb_NoneType_tuple, kb_NoneType_list, Nat.zero_add, c02, lstAt_setE, Option.map_some, lstAt_set_ne, ne_eq, Nat.reduceEqDiff, Nat.one_ne_zero, Nat.zero_ne_one, ix_1_0, ix_2_0, ix_2_1, ix_3_0, ix_3_1, ix_3_2, ix_4_0, ix_4_1, ix_4_2, ix_4_3, ix_5_0, ix_5_1, ix_5_2, ix_5_3, ix_5_4, ix_6_0, ix_6_1, ix_6_2, ix_6_3, ix_6_4, ix_6_5, Nat.reduceLeDiff, Int.reduceAdd, Int.reduceSub, Int.reduceMul, Int.reduceNeg, Int.reducePow, Int.reduceLT, Int.reduceLE, Int.reduceEq, Int.reduceToNat, Bool.and_true, Bool.true_and, Bool.and_self, Bool.and_false, Bool.false_and, Bool.and_eq_true, Bool.and_eq_false_imp, and_self, WS_qdn, WS_qdr, WS_qde, WS_qdb, WS_qdc, qn1, qn2, qn3, qn4, qn5, qk1, qk5, lq1, lq2, lq3, lq4, lq5, intD_int, items_tup, items_rol, items_loc, listOf_loc, listOf_rol, isL_loc, at0, at1, at2, at3, at4, at5, atl1, atl2, atl3, atl4, lstAt_new, lstAt_h0, lstAt_h1, lstAt_h2, lstAt_h3, it_tup, it_rol, kTup_eq, kLen_eq, wipe0, wipe1, b_nm, List.set_cons_zero, List.set_cons_succ, List.length_cons, List.length_nil, List.nil_append, List.cons_append, List.append_nil, List.isEmpty_cons, List.isEmpty_nil, true_and, and_true, false_and, and_false, true_implies, forall_const, not_true_eq_false, not_false_eq_true, implies_true, decide_eq_true_eq, decide_eq_false_iff_not, Bool.not_eq_true', Bool.not_eq_false', Bool.not_true, Bool.not_false, if_true, if_false, Bool.false_eq_true, Bool.true_eq_false, reduceCtorEq, false_implies, eq_self, hL2, e2, e2', x1, x2, lstAt_set hL2, List.length_set]
    have hlt : S.length < S2.length := lstAt_lt hL2
    obtain ⟨g1, f1⟩ := List.getElem?_eq_some_iff.mp e1
    obtain ⟨g2, f2⟩ := List.getElem?_eq_some_iff.mp e1'
    exact ⟨(F2.set h3).set h3, ((K1.trans K2).set (Nat.le_refl _)).set (Nat.le_refl _), _, _, _, _, rfl, rfl, by
      subst f1 f2
      exact (swap_perm ys _ _ g1 g2).trans hP⟩
  · rintro σ S1 ⟨F1, K1, ys, p, q, r, rfl, hL, hP⟩
    simp only [↓reduceIte, ↓W_ok, ↓W_exn, ↓W_var0, ↓W_varS, ↓W_K, ↓W_bin, ↓W_un, ↓W_aNil, ↓W_aCons, ↓W_arg, ↓W_call, ↓W_of, ↓WB_test, ↓tc_bl, ↓WB_tru, ↓trc, ↓WB_and, ↓WB_or, ↓WB_not, ↓W_if, ↓W_andV, ↓W_orV, ↓W_notV, ↓WM_some, ↓WM_none, ↓WO_some, ↓tr_bl, ↓tr_non, ↓tr_int, ↓tr_tup, ↓tr_rol, ↓WS_nx, ↓WS_rt, ↓WS_ct, ↓WS_bk, ↓WS_exn, ↓WS_seq, ↓WS_nil, ↓WS_retN, ↓WS_break, ↓WS_cont, ↓WS_expr, ↓WS_ret, ↓WS_if, ↓WS_set, ↓WS_par, ↓WS_asg, ↓WS_gSet, ↓WS_gN, ↓WS_gC, ↓WS_gUn, ↓WS_gSub, ↓WS_aug, ↓o_add, ↓o_iadd, ↓o_sub, ↓o_neg, ↓o_mul, ↓o_mod, ↓o_div, ↓o_pow, ↓o_addT, ↓o_addS, ↓o_addL, ↓o_lt, ↓o_le, ↓o_gt, ↓o_ge, ↓o_eq, ↓o_ne, ↓o_eqS, ↓o_neS, ↓o_eqB, ↓o_neB, ↓o_eqT, ↓o_neT, ↓o_eqN, ↓o_neN, ↓o_ltT, ↓o_leT, ↓o_is, ↓o_isnot, ↓o_isB, ↓o_isnotB, ↓o_inT, ↓o_ninT, ↓o_inL, ↓o_ninL, ↓o_ixT, ↓o_ixR, ↓o_ixL, ↓o_rev, ↓o_ixS, ↓o_str, ↓o_strS, ↓o_set, ↓o_lenT, ↓o_lenR, ↓o_lenL, ↓o_lenS, ↓o_int, ↓o_intT, ↓o_intF, ↓o_abs, ↓o_max, ↓o_min, ↓o_tuple, ↓o_listXt, ↓o_listXr, ↓o_listXl, ↓o_listXs, ↓o_sortedXt, ↓o_tup0, ↓o_tup1, ↓o_tup2, ↓o_tup3, ↓o_tup4, ↓o_tup5, ↓o_tup6, ↓o_lst0, ↓o_lst1, ↓o_lst2, ↓o_lst3, ↓o_lst4, ↓o_lst5, ↓o_lst6, ↓o_sum, ↓W_meth, ↓o_append, ↓o_extend, ↓o_popAt, ↓W_cut, ↓W_noPart, ↓W_part, ↓o_cutT, ↓o_cutR, ↓o_cutL, ↓W_isi, ↓W_ch, ↓WS_for, ↓WI_iter, ↓WI_range1, ↓WI_range2, ↓WI_range3, ↓WI_enum, ↓WI_zip2, ↓WI_zip3, ↓W_callK, ↓WS_f0, ↓WS_f1, ↓W_alloc, ↓W_ofL, ↓W_comp, ↓WB_yes, ↓W_c0, ↓W_c1, ↓W_listRg, ↓W_tupRg, ↓W_rRange1, ↓W_rRange2, Option.isSome_some, z2_t, z3_t, perm_nil, perm_cons, List.getD_cons_zero, List.getD_cons_succ, o_intT, o_intF, o_intB, o_ixL, o_ixT, beq_self_eq_true, decide_true, decide_false, okEq, okCmp, okIn, D.fits, D.fitsL, D.dep, D.depL, D.eqv, D.eqvL, D.alike, D.alikeL, isBl_bl, isN_non, isN_bl, isN_int, isN_str, isN_tup, isN_rol, isN_loc, Nat.reduceAdd, Nat.reduceSub, Nat.max_self, Nat.min_self, Nat.max_zero, Nat.zero_max, Nat.min_zero, Nat.zero_min, ty_non, ty_bl, ty_int, ty_str, ty_tup, ty_rol, ty_loc, kb_bool_bool, kb_bool_int, kb_bool_str, kb_bool_tuple, kb_bool_list, kb_int_bool, kb_int_int, kb_int_str, kb_int_tuple, kb_int_list, kb_str_bool, kb_str_int, kb_str_str, kb_str_tuple, kb_str_list, kb_tuple_bool, kb_tuple_int, kb_tuple_str, kb_tuple_tuple, kb_tuple_list, kb_list_bool, kb_list_int, kb_list_str, kb_list_tuple, kb_list_list, kb_NoneType_bool, kb_NoneType_int, kb_NoneType_str, kb_NoneType_tuple, kb_NoneType_list, Nat.zero_add, c02, lstAt_setE, Option.map_some, lstAt_set_ne, ne_eq, Nat.reduceEqDiff, Nat.one_ne_zero, Nat.zero_ne_one, ix_1_0, ix_2_0, ix_2_1, ix_3_0, ix_3_1, ix_3_2, ix_4_0, ix_4_1, ix_4_2, ix_4_3, ix_5_0, ix_5_1, ix_5_2, ix_5_3, ix_5_4, ix_6_0, ix_6_1, ix_6_2, ix_6_3, ix_6_4, ix_6_5, Nat.reduceLeDiff, Int.reduceAdd, Int.reduceSub, Int.reduceMul, Int.reduceNeg, Int.reducePow, Int.reduceLT, Int.reduceLE, Int.reduceEq, Int.reduceToNat, Bool.and_true, Bool.true_and, Bool.and_self, Bool.and_false, Bool.false_and, Bool.and_eq_true, Bool.and_eq_false_imp, and_self, WS_qdn, WS_qdr, WS_qde, WS_qdb, WS_qdc, qn1, qn2, qn3, qn4, qn5, qk1, qk5, lq1, lq2, lq3, lq4, lq5, intD_int, items_tup, items_rol, items_loc, listOf_loc, listOf_rol, isL_loc, at0, at1, at2, at3, at4, at5, atl1, atl2, atl3, atl4, lstAt_new, lstAt_h0, lstAt_h1, lstAt_h2, lstAt_h3, it_tup, it_rol, kTup_eq, kLen_eq, wipe0, wipe1, b_nm, List.set_cons_zero, List.set_cons_succ, List.length_cons, List.length_nil, List.nil_append, List.cons_append, List.append_nil, List.isEmpty_cons, List.isEmpty_nil, true_and, and_true, false_and, and_false, true_implies, forall_const, not_true_eq_false, not_false_eq_true, implies_true, decide_eq_true_eq, decide_eq_false_iff_not, Bool.not_eq_true', Bool.not_eq_false', Bool.not_true, Bool.not_false, if_true, if_false, Bool.false_eq_true, Bool.true_eq_false, reduceCtorEq, false_implies, eq_self]
    exact h _ _ _ (Nat.le_refl _) hL hP F1 K1
end
end LW

namespace LW
open PySem PySem.Spec PyProof.Rows L2 DL
section
variable {x : XQ} {Q : D → Store → Prop} {tt : Tg (x, Q)} {S S' S'' : Store} {many most : Int} {l : Nat} {xs ys : List D} {c : D}
/-- a field: a text, two ints -/
def FdQ (most : Int) (f : D) : Prop := ∃ n lo hi, f = .tup [.str n, .int lo, .int hi] ∧ -3 ≤ lo ∧ lo ≤ 3 ∧ lo ≤ hi ∧ hi < lo + most
theorem fields_w (hF : FlowOk S) (h0 : 0 ≤ many) (h1 : many ≤ 14) (h2 : 1 ≤ most) (h3 : most ≤ 1000) (h : ∀ fs S', (∀ f ∈ fs, FdQ most f) → (fs.length : Int) = many → FlowOk S' → Fk 3 S S' → Q (.tup fs) S') : W (x, Q) tt (m__law_fields [.loc 2, .int many, .int most] S) := by
  simp only [↓reduceIte, ↓W_ok, ↓W_exn, ↓W_var0, ↓W_varS, ↓W_K, ↓W_bin, ↓W_un, ↓W_aNil, ↓W_aCons, ↓W_arg, ↓W_call, ↓W_of, ↓WB_test, ↓tc_bl, ↓WB_tru, ↓trc, ↓WB_and, ↓WB_or, ↓WB_not, ↓W_if, ↓W_andV, ↓W_orV, ↓W_notV, ↓WM_some, ↓WM_none, ↓WO_some, ↓tr_bl, ↓tr_non, ↓tr_int, ↓tr_tup, ↓tr_rol, ↓WS_nx, ↓WS_rt, ↓WS_ct, ↓WS_bk, ↓WS_exn, ↓WS_seq, ↓WS_nil, ↓WS_retN, ↓WS_break, ↓WS_cont, ↓WS_expr, ↓WS_ret, ↓WS_if, ↓WS_set, ↓WS_par, ↓WS_asg, ↓WS_gSet, ↓WS_gN, ↓WS_gC, ↓WS_gUn, ↓WS_gSub, ↓WS_aug, ↓o_add, ↓o_iadd, ↓o_sub, ↓o_neg, ↓o_mul, ↓o_mod, ↓o_div, ↓o_pow, ↓o_addT, ↓o_addS, ↓o_addL, ↓o_lt, ↓o_le, ↓o_gt, ↓o_ge, ↓o_eq, ↓o_ne, ↓o_eqS, ↓o_neS, ↓o_eqB, ↓o_neB, ↓o_eqT, ↓o_neT, ↓o_eqN, ↓o_neN, ↓o_ltT, ↓o_leT, ↓o_is, ↓o_isnot, ↓o_isB, ↓o_isnotB, ↓o_inT, ↓o_ninT, ↓o_inL, ↓o_ninL, ↓o_ixT, ↓o_ixR, ↓o_ixL, ↓o_rev, ↓o_ixS, ↓o_str, ↓o_strS, ↓o_set, ↓o_lenT, ↓o_lenR, ↓o_lenL, ↓o_lenS, ↓o_int, ↓o_intT, ↓o_intF, ↓o_abs, ↓o_max, ↓o_min, ↓o_tuple, ↓o_listXt, ↓o_listXr, ↓o_listXl, ↓o_listXs, ↓o_sortedXt, ↓o_tup0, ↓o_tup1, ↓o_tup2, ↓o_tup3, ↓o_tup4, ↓o_tup5, ↓o_tup6, ↓o_lst0, ↓o_lst1, ↓o_lst2, ↓o_lst3, ↓o_lst4, ↓o_lst5, ↓o_lst6, ↓o_sum, ↓W_meth, ↓o_append, ↓o_extend, ↓o_popAt, ↓W_cut, ↓W_noPart, ↓W_part, ↓o_cutT, ↓o_cutR, ↓o_cutL, ↓W_isi, ↓W_ch, ↓WS_for, ↓WI_iter, ↓WI_range1, ↓WI_range2, ↓WI_range3, ↓WI_enum, ↓WI_zip2, ↓WI_zip3, ↓W_callK, ↓WS_f0, ↓WS_f1, ↓W_alloc, ↓W_ofL, ↓W_comp, ↓WB_yes, ↓W_c0, ↓W_c1, ↓W_listRg, ↓W_tupRg, ↓W_rRange1, ↓W_rRange2, Option.isSome_some, z2_t, z3_t, perm_nil, perm_cons, List.getD_cons_zero, List.getD_cons_succ, o_intT, o_intF, o_intB, o_ixL, o_ixT, beq_self_eq_true, decide_true, decide_false, okEq, okCmp, okIn, D.fits, D.fitsL, D.dep, D.depL, D.eqv, D.eqvL, D.alike, D.alikeL, isBl_bl, isN_non, isN_bl, isN_int, isN_str, isN_tup, isN_rol, isN_loc, Nat.reduceAdd, Nat.reduceSub, Nat.max_self, Nat.min_self, Nat.max_zero, Nat.zero_max, Nat.min_zero, Nat.zero_min, ty_non, ty_bl, ty_int, ty_str, ty_tup, ty_rol, ty_loc, kb_bool_bool, kb_bool_int, kb_bool_str, kb_bool_tuple, kb_bool_list, kb_int_bool, kb_int_int, kb_int_str, kb_int_tuple, kb_int_list, kb_str_bool, kb_str_int, kb_str_str, kb_str_tuple, kb_str_list, kb_tuple_bool, kb_tuple_int, kb_tuple_str, kb_tuple_tuple, kb_tuple_list, kb_list_bool, kb_list_int, kb_list_str, kb_list_tuple, kb_list_list, kb_NoneType_bool, kb_NoneType_int, kb_NoneType_str, kb_NoneType_tuple, kb_NoneType_list, Nat.zero_add, c02, lstAt_setE, Option.map_some, lstAt_set_ne, ne_eq, Nat.reduceEqDiff, Nat.one_ne_zero, Nat.zero_ne_one, ix_1_0, ix_2_0, ix_2_1, ix_3_0, ix_3_1, ix_3_2, ix_4_0, ix_4_1, ix_4_2, ix_4_3, ix_5_0, ix_5_1, ix_5_2, ix_5_3, ix_5_4, ix_6_0, ix_6_1, ix_6_2, ix_6_3, ix_6_4, ix_6_5, Nat.reduceLeDiff, Int.reduceAdd, Int.reduceSub, Int.reduceMul, Int.reduceNeg, Int.reducePow, Int.reduceLT, Int.reduceLE, Int.reduceEq, Int.reduceToNat, Bool.and_true, Bool.true_and, Bool.and_self, Bool.and_false, Bool.false_and, Bool.and_eq_true, Bool.and_eq_false_imp, and_self, WS_qdn, WS_qdr, WS_qde, WS_qdb, WS_qdc, qn1, qn2, qn3, qn4, qn5, qk1, qk5, lq1, lq2, lq3, lq4, lq5, intD_int, items_tup, items_rol, items_loc, listOf_loc, listOf_rol, isL_loc, at0, at1, at2, at3, at4, at5, atl1, atl2, atl3, atl4, lstAt_new, lstAt_h0, lstAt_h1, lstAt_h2, lstAt_h3, it_tup, it_rol, kTup_eq, kLen_eq, wipe0, wipe1, b_nm, b_un, b_nil, b_cnm, b_cun, Option.bind_some, List.set_cons_zero, List.set_cons_succ, List.length_cons, List.length_nil, List.nil_append, List.cons_append, List.append_nil, List.isEmpty_cons, List.isEmpty_nil, true_and, and_true, false_and, and_false, true_implies, forall_const, not_true_eq_false, not_false_eq_true, implies_true, decide_eq_true_eq, decide_eq_false_iff_not, Bool.not_eq_true', Bool.not_eq_false', Bool.not_true, Bool.not_false, if_true, if_false, Bool.false_eq_true, Bool.true_eq_false, reduceCtorEq, false_implies, eq_self, wm__law_fields, b__law_fields]
  refine draw_w (hF.app _) (by decide) (by decide) fun v S1 v0 v1 F1 K1 => ?_
  have hL := K1.lst hF.len lstAt_new
  have hl := hF.len
  simp only [↓reduceIte, ↓W_ok, ↓W_exn, ↓W_var0, ↓W_varS, ↓W_K, ↓W_bin, ↓W_un, ↓W_aNil, ↓W_aCons, ↓W_arg, ↓W_call, ↓W_of, ↓WB_test, ↓tc_bl, ↓WB_tru, ↓trc, ↓WB_and, ↓WB_or, ↓WB_not, ↓W_if, ↓W_andV, ↓W_orV, ↓W_notV, ↓WM_some, ↓WM_none, ↓WO_some, ↓tr_bl, ↓tr_non, ↓tr_int, ↓tr_tup, ↓tr_rol, ↓WS_nx, ↓WS_rt, ↓WS_ct, ↓WS_bk, ↓WS_exn, ↓WS_seq, ↓WS_nil, ↓WS_retN, ↓WS_break, ↓WS_cont, ↓WS_expr, ↓WS_ret, ↓WS_if, ↓WS_set, ↓WS_par, ↓WS_asg, ↓WS_gSet, ↓WS_gN, ↓WS_gC, ↓WS_gUn, ↓WS_gSub, ↓WS_aug, ↓o_add, ↓o_iadd, ↓o_sub, ↓o_neg, ↓o_mul, ↓o_mod, ↓o_div, ↓o_pow, ↓o_addT, ↓o_addS, ↓o_addL, ↓o_lt, ↓o_le, ↓o_gt, ↓o_ge, ↓o_eq, ↓o_ne, ↓o_eqS, ↓o_neS, ↓o_eqB, ↓o_neB, ↓o_eqT, ↓o_neT, ↓o_eqN, ↓o_neN, ↓o_ltT, ↓o_leT, ↓o_is, ↓o_isnot, ↓o_isB, ↓o_isnotB, ↓o_inT, ↓o_ninT, ↓o_inL, ↓o_ninL, ↓o_ixT, ↓o_ixR, ↓o_ixL, ↓o_rev, ↓o_ixS, ↓o_str, ↓o_strS, ↓o_set, ↓o_lenT, ↓o_lenR, ↓o_lenL, ↓o_lenS, ↓o_int, ↓o_intT, ↓o_intF, ↓o_abs, ↓o_max, ↓o_min, ↓o_tuple, ↓o_listXt, ↓o_listXr, ↓o_listXl, ↓o_listXs, ↓o_sortedXt, ↓o_tup0, ↓o_tup1, ↓o_tup2, ↓o_tup3, ↓o_tup4, ↓o_tup5, ↓o_tup6, ↓o_lst0, ↓o_lst1, ↓o_lst2, ↓o_lst3, ↓o_lst4, ↓o_lst5, ↓o_lst6, ↓o_sum, ↓W_meth, ↓o_append, ↓o_extend, ↓o_popAt, ↓W_cut, ↓W_noPart, ↓W_part, ↓o_cutT, ↓o_cutR, ↓o_cutL, ↓W_isi, ↓W_ch, ↓WS_for, ↓WI_iter, ↓WI_range1, ↓WI_range2, ↓WI_range3, ↓WI_enum, ↓WI_zip2, ↓WI_zip3, ↓W_callK, ↓WS_f0, ↓WS_f1, ↓W_alloc, ↓W_ofL, ↓W_comp, ↓WB_yes, ↓W_c0, ↓W_c1, ↓W_listRg, ↓W_tupRg, ↓W_rRange1, ↓W_rRange2, Option.isSome_some, z2_t, z3_t, perm_nil, perm_cons, List.getD_cons_zero, List.getD_cons_succ, o_intT, o_intF, o_intB, o_ixL, o_ixT, beq_self_eq_true, decide_true, decide_false, okEq, okCmp, okIn, D.fits, D.fitsL, D.dep, D.depL, D.eqv, D.eqvL, D.alike, D.alikeL, isBl_bl, isN_non, isN_bl, isN_int, isN_str, isN_tup, isN_rol, isN_loc, Nat.reduceAdd, Nat.reduceSub, Nat.max_self, Nat.min_self, Nat.max_zero, Nat.zero_max, Nat.min_zero, Nat.zero_min, ty_non, ty_bl, ty_int, ty_str, ty_tup, ty_rol, ty_loc, kb_bool_bool, kb_bool_int, kb_bool_str, kb_bool_tuple, kb_bool_list, kb_int_bool, kb_int_int, kb_int_str, kb_int_tuple, kb_int_list, kb_str_bool, kb_str_int, kb_str_str, kb_str_tuple, kb_str_list, kb_tuple_bool, kb_tuple_int, kb_tuple_str, kb_tuple_tuple, kb_tuple_list, kb_list_bool, kb_list_int, kb_list_str, kb_list_tuple, kb_list_list, kb_NoneType_bool, kb_NoneType_int, kb_NoneType_str, kb_NoneType_tuple, kb_NoneType_list, Nat.zero_add, c02, lstAt_setE, Option.map_some, lstAt_set_ne, ne_eq, Nat.reduceEqDiff, Nat.one_ne_zero, Nat.zero_ne_one, ix_1_0, ix_2_0, ix_2_1, ix_3_0, ix_3_1, ix_3_2, ix_4_0, ix_4_1, ix_4_2, ix_4_3, ix_5_0, ix_5_1, ix_5_2, ix_5_3, ix_5_4, ix_6_0, ix_6_1, ix_6_2, ix_6_3, ix_6_4, ix_6_5, Nat.reduceLeDiff, Int.reduceAdd, Int.reduceSub, Int.reduceMul, Int.reduceNeg, Int.reducePow, Int.reduceLT, Int.reduceLE, Int.reduceEq, Int.reduceToNat, Bool.and_true, Bool.true_and, Bool.and_self, Bool.and_false, Bool.false_and, Bool.and_eq_true, Bool.and_eq_false_imp, and_self, WS_qdn, WS_qdr, WS_qde, WS_qdb, WS_qdc, qn1, qn2, qn3, qn4, qn5, qk1, qk5, lq1, lq2, lq3, lq4, lq5, intD_int, items_tup, items_rol, items_loc, listOf_loc, listOf_rol, isL_loc, at0, at1, at2, at3, at4, at5, atl1, atl2, atl3, atl4, lstAt_new, lstAt_h0, lstAt_h1, lstAt_h2, lstAt_h3, it_tup, it_rol, kTup_eq, kLen_eq, wipe0, wipe1, b_nm, b_un, b_nil, b_cnm, b_cun, Option.bind_some, List.set_cons_zero, List.set_cons_succ, List.length_cons, List.length_nil, List.nil_append, List.cons_append, List.append_nil, List.isEmpty_cons, List.isEmpty_nil, true_and, and_true, false_and, and_false, true_implies, forall_const, not_true_eq_false, not_false_eq_true, implies_true, decide_eq_true_eq, decide_eq_false_iff_not, Bool.not_eq_true', Bool.not_eq_false', Bool.not_true, Bool.not_false, if_true, if_false, Bool.false_eq_true, Bool.true_eq_false, reduceCtorEq, false_implies, eq_self, hL]
  refine WM_in v0 (by simp; omega) fun e he => ?_
  obtain ⟨z, rfl, hz⟩ : ∃ z : Str, e = .str z ∧ z.length ≤ 7 := by
    simp only [List.mem_cons, List.not_mem_nil, or_false] at he
    rcases he with rfl | rfl | rfl | rfl | rfl
    all_goals exact ⟨_, rfl, by decide⟩
  simp only [↓reduceIte, ↓W_ok, ↓W_exn, ↓W_var0, ↓W_varS, ↓W_K, ↓W_bin, ↓W_un, ↓W_aNil, ↓W_aCons, ↓W_arg, ↓W_call, ↓W_of, ↓WB_test, ↓tc_bl, ↓WB_tru, ↓trc, ↓WB_and, ↓WB_or, ↓WB_not, ↓W_if, ↓W_andV, ↓W_orV, ↓W_notV, ↓WM_some, ↓WM_none, ↓WO_some, ↓tr_bl, ↓tr_non, ↓tr_int, ↓tr_tup, ↓tr_rol, ↓WS_nx, ↓WS_rt, ↓WS_ct, ↓WS_bk, ↓WS_exn, ↓WS_seq, ↓WS_nil, ↓WS_retN, ↓WS_break, ↓WS_cont, ↓WS_expr, ↓WS_ret, ↓WS_if, ↓WS_set, ↓WS_par, ↓WS_asg, ↓WS_gSet, ↓WS_gN, ↓WS_gC, ↓WS_gUn, ↓WS_gSub, ↓WS_aug, ↓o_add, ↓o_iadd, ↓o_sub, ↓o_neg, ↓o_mul, ↓o_mod, ↓o_div, ↓o_pow, ↓o_addT, ↓o_addS, ↓o_addL, ↓o_lt, ↓o_le, ↓o_gt, ↓o_ge, ↓o_eq, ↓o_ne, ↓o_eqS, ↓o_neS, ↓o_eqB, ↓o_neB, ↓o_eqT, ↓o_neT, ↓o_eqN, ↓o_neN, ↓o_ltT, ↓o_leT, ↓o_is, ↓o_isnot, ↓o_isB, ↓o_isnotB, ↓o_inT, ↓o_ninT, ↓o_inL, ↓o_ninL, ↓o_ixT, ↓o_ixR, ↓o_ixL, ↓o_rev, ↓o_ixS, ↓o_str, ↓o_strS, ↓o_set, ↓o_lenT, ↓o_lenR, ↓o_lenL, ↓o_lenS, ↓o_int, ↓o_intT, ↓o_intF, ↓o_abs, ↓o_max, ↓o_min, ↓o_tuple, ↓o_listXt, ↓o_listXr, ↓o_listXl, ↓o_listXs, ↓o_sortedXt, ↓o_tup0, ↓o_tup1, ↓o_tup2, ↓o_tup3, ↓o_tup4, ↓o_tup5, ↓o_tup6, ↓o_lst0, ↓o_lst1, ↓o_lst2, ↓o_lst3, ↓o_lst4, ↓o_lst5, ↓o_lst6, ↓o_sum, ↓W_meth, ↓o_append, ↓o_extend, ↓o_popAt, ↓W_cut, ↓W_noPart, ↓W_part, ↓o_cutT, ↓o_cutR, ↓o_cutL, ↓W_isi, ↓W_ch, ↓WS_for, ↓WI_iter, ↓WI_range1, ↓WI_range2, ↓WI_range3, ↓WI_enum, ↓WI_zip2, ↓WI_zip3, ↓W_callK, ↓WS_f0, ↓WS_f1, ↓W_alloc, ↓W_ofL, ↓W_comp, ↓WB_yes, ↓W_c0, ↓W_c1, ↓W_listRg, ↓W_tupRg, ↓W_rRange1, ↓W_rRange2, Option.isSome_some, z2_t, z3_t, perm_nil, perm_cons, List.getD_cons_zero, List.getD_cons_succ, o_intT, o_intF, o_intB, o_ixL, o_ixT, beq_self_eq_true, decide_true, decide_false, okEq, okCmp, okIn, D.fits, D.fitsL, D.dep, D.depL, D.eqv, D.eqvL, D.alike, D.alikeL, isBl_bl, isN_non, isN_bl, isN_int, isN_str, isN_tup, isN_rol, isN_loc, Nat.reduceAdd, Nat.reduceSub, Nat.max_self, Nat.min_self, Nat.max_zero, Nat.zero_max, Nat.min_zero, Nat.zero_min, ty_non, ty_bl, ty_int, ty_str, ty_tup, ty_rol, ty_loc, kb_bool_bool, kb_bool_int, kb_bool_str, kb_bool_tuple, kb_bool_list, kb_int_bool, kb_int_int, kb_int_str, kb_int_tuple, kb_int_list, kb_str_bool, kb_str_int, kb_str_str, kb_str_tuple, kb_str_list, kb_tuple_bool, kb_tuple_int, kb_tuple_str, kb_tuple_tuple, kb_tuple_list, kb_list_bool, kb_list_int, kb_list_str, kb_list_tuple, kb_list_list, kb_NoneType_bool, kb_NoneType_int, kb_NoneType_str, kb_NoneType_tuple, kb_NoneType_list, Nat.zero_add, c02, lstAt_setE, Option.map_some, lstAt_set_ne, ne_eq, Nat.reduceEqDiff, Nat.one_ne_zero, Nat.zero_ne_one, ix_1_0, ix_2_0, ix_2_1, ix_3_0, ix_3_1, ix_3_2, ix_4_0, ix_4_1, ix_4_2, ix_4_3, ix_5_0, ix_5_1, ix_5_2, ix_5_3, ix_5_4, ix_6_0, ix_6_1, ix_6_2, ix_6_3, ix_6_4, ix_6_5, Nat.reduceLeDiff, Int.reduceAdd, Int.reduceSub, Int.reduceMul, Int.reduceNeg, Int.reducePow, Int.reduceLT, Int.reduceLE, Int.reduceEq, Int.reduceToNat, Bool.and_true, Bool.true_and, Bool.and_self, Bool.and_false, Bool.false_and, Bool.and_eq_true, Bool.and_eq_false_imp, and_self, WS_qdn, WS_qdr, WS_qde, WS_qdb, WS_qdc, qn1, qn2, qn3, qn4, qn5, qk1, qk5, lq1, lq2, lq3, lq4, lq5, intD_int, items_tup, items_rol, items_loc, listOf_loc, listOf_rol, isL_loc, at0, at1, at2, at3, at4, at5, atl1, atl2, atl3, atl4, lstAt_new, lstAt_h0, lstAt_h1, lstAt_h2, lstAt_h3, it_tup, it_rol, kTup_eq, kLen_eq, wipe0, wipe1, b_nm, b_un, b_nil, b_cnm, b_cun, Option.bind_some, List.set_cons_zero, List.set_cons_succ, List.length_cons, List.length_nil, List.nil_append, List.cons_append, List.append_nil, List.isEmpty_cons, List.isEmpty_nil, true_and, and_true, false_and, and_false, true_implies, forall_const, not_true_eq_false, not_false_eq_true, implies_true, decide_eq_true_eq, decide_eq_false_iff_not, Bool.not_eq_true', Bool.not_eq_false', Bool.not_true, Bool.not_false, if_true, if_false, Bool.false_eq_true, Bool.true_eq_false, reduceCtorEq, false_implies, eq_self]
  refine ⟨by decide, ?_⟩
  have e14 : (signsD (Str.ofString "abcdeghijkmnpq")).length = 14 := by decide
  refine shuf_w (F1.app _) (by rw [items_loc]; exact lstAt_new) (by rw [e14]; decide) fun l2 ys S2 hl2 hL2 hP F2 K2 => ?_
  have hy : ∀ y ∈ ys, ∃ z : Str, y = .str z ∧ z.length = 1 := fun y hy => by
    have := hP.mem_iff.mp hy
    unfold signsD at this
    obtain ⟨c, _, rfl⟩ := List.mem_map.mp this
    exact ⟨_, rfl, rfl⟩
  have hyl : ys.length = 14 := hP.length_eq.trans e14
  have hs1 := K1.len
  have hs2 := K2.len
  rw [List.length_append] at hs1 hs2
  simp only [List.length_append, List.length_cons, List.length_nil] at hs1 hs2 hl2
  simp only [↓reduceIte, ↓W_ok, ↓W_exn, ↓W_var0, ↓W_varS, ↓W_K, ↓W_bin, ↓W_un, ↓W_aNil, ↓W_aCons, ↓W_arg, ↓W_call, ↓W_of, ↓WB_test, ↓tc_bl, ↓WB_tru, ↓trc, ↓WB_and, ↓WB_or, ↓WB_not, ↓W_if, ↓W_andV, ↓W_orV, ↓W_notV, ↓WM_some, ↓WM_none, ↓WO_some, ↓tr_bl, ↓tr_non, ↓tr_int, ↓tr_tup, ↓tr_rol, ↓WS_nx, ↓WS_rt, ↓WS_ct, ↓WS_bk, ↓WS_exn, ↓WS_seq, ↓WS_nil, ↓WS_retN, ↓WS_break, ↓WS_cont, ↓WS_expr, ↓WS_ret, ↓WS_if, ↓WS_set, ↓WS_par, ↓WS_asg, ↓WS_gSet, ↓WS_gN, ↓WS_gC, ↓WS_gUn, ↓WS_gSub, ↓WS_aug, ↓o_add, ↓o_iadd, ↓o_sub, ↓o_neg, ↓o_mul, ↓o_mod, ↓o_div, ↓o_pow, ↓o_addT, ↓o_addS, ↓o_addL, ↓o_lt, ↓o_le, ↓o_gt, ↓o_ge, ↓o_eq, ↓o_ne, ↓o_eqS, ↓o_neS, ↓o_eqB, ↓o_neB, ↓o_eqT, ↓o_neT, ↓o_eqN, ↓o_neN, ↓o_ltT, ↓o_leT, ↓o_is, ↓o_isnot, ↓o_isB, ↓o_isnotB, ↓o_inT, ↓o_ninT, ↓o_inL, ↓o_ninL, ↓o_ixT, ↓o_ixR, ↓o_ixL, ↓o_rev, ↓o_ixS, ↓o_str, ↓o_strS, ↓o_set, ↓o_lenT, ↓o_lenR, ↓o_lenL, ↓o_lenS, ↓o_int, ↓o_intT, ↓o_intF, ↓o_abs, ↓o_max, ↓o_min, ↓o_tuple, ↓o_listXt, ↓o_listXr, ↓o_listXl, ↓o_listXs, ↓o_sortedXt, ↓o_tup0, ↓o_tup1, ↓o_tup2, ↓o_tup3, ↓o_tup4, ↓o_tup5, ↓o_tup6, ↓o_lst0, ↓o_lst1, ↓o_lst2, ↓o_lst3, ↓o_lst4, ↓o_lst5, ↓o_lst6, ↓o_sum, ↓W_meth, ↓o_append, ↓o_extend, ↓o_popAt, ↓W_cut, ↓W_noPart, ↓W_part, ↓o_cutT, ↓o_cutR, ↓o_cutL, ↓W_isi, ↓W_ch, ↓WS_for, ↓WI_iter, ↓WI_range1, ↓WI_range2, ↓WI_range3, ↓WI_enum, ↓WI_zip2, ↓WI_zip3, ↓W_callK, ↓WS_f0, ↓WS_f1, ↓W_alloc, ↓W_ofL, ↓W_comp, ↓WB_yes, ↓W_c0, ↓W_c1, ↓W_listRg, ↓W_tupRg, ↓W_rRange1, ↓W_rRange2, Option.isSome_some, z2_t, z3_t, perm_nil, perm_cons, List.getD_cons_zero, List.getD_cons_succ, o_intT, o_intF, o_intB, o_ixL, o_ixT, beq_self_eq_true, decide_true, decide_false, okEq, okCmp, okIn, D.fits, D.fitsL, D.dep, D.depL, D.eqv, D.eqvL, D.alike, D.alikeL, isBl_bl, isN_non, isN_bl, isN_int, isN_str, isN_tup, isN_rol, isN_loc, Nat.reduceAdd, Nat.reduceSub, Nat.max_self, Nat.min_self, Nat.max_zero, Nat.zero_max, Nat.min_zero, Nat.zero_min, ty_non, ty_bl, ty_int, ty_str, ty_tup, ty_rol, ty_loc, kb_bool_bool, kb_bool_int, kb_bool_str, kb_bool_tuple, kb_bool_list, kb_int_bool, kb_int_int, kb_int_str, kb_int_tuple, kb_int_list, kb_str_bool, kb_str_int, kb_str_str, kb_str_tuple, kb_str_list, kb_tuple_bool, kb_tuple_int, kb_tuple_str, kb_tuple_tuple, kb_tuple_list, kb_list_bool, kb_list_int, kb_list_str, kb_list_tuple, kb_list_list, kb_NoneType_bool, kb_NoneType_int, kb_NoneType_str, kb_NoneType_tuple, kb_NoneType_list, Nat.zero_add, c02, lstAt_setE, Option.map_some, lstAt_set_ne, ne_eq, Nat.reduceEqDiff, Nat.one_ne_zero, Nat.zero_ne_one, ix_1_0, ix_2_0, ix_2_1, ix_3_0, ix_3_1, ix_3_2, ix_4_0, ix_4_1, ix_4_2, ix_4_3, ix_5_0, ix_5_1, ix_5_2, ix_5_3, ix_5_4, ix_6_0, ix_6_1, ix_6_2, ix_6_3, ix_6_4, ix_6_5, Nat.reduceLeDiff, Int.reduceAdd, Int.reduceSub, Int.reduceMul, Int.reduceNeg, Int.reducePow, Int.reduceLT, Int.reduceLE, Int.reduceEq, Int.reduceToNat, Bool.and_true, Bool.true_and, Bool.and_self, Bool.and_false, Bool.false_and, Bool.and_eq_true, Bool.and_eq_false_imp, and_self, WS_qdn, WS_qdr, WS_qde, WS_qdb, WS_qdc, qn1, qn2, qn3, qn4, qn5, qk1, qk5, lq1, lq2, lq3, lq4, lq5, intD_int, items_tup, items_rol, items_loc, listOf_loc, listOf_rol, isL_loc, at0, at1, at2, at3, at4, at5, atl1, atl2, atl3, atl4, lstAt_new, lstAt_h0, lstAt_h1, lstAt_h2, lstAt_h3, it_tup, it_rol, kTup_eq, kLen_eq, wipe0, wipe1, b_nm, b_un, b_nil, b_cnm, b_cun, Option.bind_some, List.set_cons_zero, List.set_cons_succ, List.length_cons, List.length_nil, List.nil_append, List.cons_append, List.append_nil, List.isEmpty_cons, List.isEmpty_nil, true_and, and_true, false_and, and_false, true_implies, forall_const, not_true_eq_false, not_false_eq_true, implies_true, decide_eq_true_eq, decide_eq_false_iff_not, Bool.not_eq_true', Bool.not_eq_false', Bool.not_true, Bool.not_false, if_true, if_false, Bool.false_eq_true, Bool.true_eq_false, reduceCtorEq, false_implies, eq_self]
  refine ⟨by constructor <;> omega, ?_⟩
  refine WS_rloop (fun i σ S' => FlowOk S' ∧ Fk 3 S S' ∧ lstAt S' l2 = some ys ∧ ∃ fs p q, σ = [some (.loc 2), some (.int many), some (.int most), some (.str z), some (.loc l2), some (.loc S2.length), p, q] ∧ lstAt S' S2.length = some fs ∧ (∀ f ∈ fs, FdQ most f) ∧ (fs.length : Int) = i)
    ⟨F2.app _, ((((Fk.refl 3 S).app _).trans (K1.trans ((Fk.refl _ _).app _))).trans K2).app _, lstAt_app hL2, [], _, _, rfl, lstAt_new, by simp, rfl⟩ ?_ ?_
  · rintro i σ S3 i0 i1 ⟨F3, K3, hL3, fs, p, q, rfl, hL3', hf, hfl⟩
    simp only [↓reduceIte, ↓W_ok, ↓W_exn, ↓W_var0, ↓W_varS, ↓W_K, ↓W_bin, ↓W_un, ↓W_aNil, ↓W_aCons, ↓W_arg, ↓W_call, ↓W_of, ↓WB_test, ↓tc_bl, ↓WB_tru, ↓trc, ↓WB_and, ↓WB_or, ↓WB_not, ↓W_if, ↓W_andV, ↓W_orV, ↓W_notV, ↓WM_some, ↓WM_none, ↓WO_some, ↓tr_bl, ↓tr_non, ↓tr_int, ↓tr_tup, ↓tr_rol, ↓WS_nx, ↓WS_rt, ↓WS_ct, ↓WS_bk, ↓WS_exn, ↓WS_seq, ↓WS_nil, ↓WS_retN, ↓WS_break, ↓WS_cont, ↓WS_expr, ↓WS_ret, ↓WS_if, ↓WS_set, ↓WS_par, ↓WS_asg, ↓WS_gSet, ↓WS_gN, ↓WS_gC, ↓WS_gUn, ↓WS_gSub, ↓WS_aug, ↓o_add, ↓o_iadd, ↓o_sub, ↓o_neg, ↓o_mul, ↓o_mod, ↓o_div, ↓o_pow, ↓o_addT, ↓o_addS, ↓o_addL, ↓o_lt, ↓o_le, ↓o_gt, ↓o_ge, ↓o_eq, ↓o_ne, ↓o_eqS, ↓o_neS, ↓o_eqB, ↓o_neB, ↓o_eqT, ↓o_neT, ↓o_eqN, ↓o_neN, ↓o_ltT, ↓o_leT, ↓o_is, ↓o_isnot, ↓o_isB, ↓o_isnotB, ↓o_inT, ↓o_ninT, ↓o_inL, ↓o_ninL, ↓o_ixT, ↓o_ixR, ↓o_ixL, ↓o_rev, ↓o_ixS, ↓o_str, ↓o_strS, ↓o_set, ↓o_lenT, ↓o_lenR, ↓o_lenL, ↓o_lenS, ↓o_int, ↓o_intT, ↓o_intF, ↓o_abs, ↓o_max, ↓o_min, ↓o_tuple, ↓o_listXt, ↓o_listXr, ↓o_listXl, ↓o_listXs, ↓o_sortedXt, ↓o_tup0, ↓o_tup1, ↓o_tup2, ↓o_tup3, ↓o_tup4, ↓o_tup5, ↓o_tup6, ↓o_lst0, ↓o_lst1, ↓o_lst2, ↓o_lst3, ↓o_lst4, ↓o_lst5, ↓o_lst6, ↓o_sum, ↓W_meth, ↓o_append, ↓o_extend, ↓o_popAt, ↓W_cut, ↓W_noPart, ↓W_part, ↓o_cutT, ↓o_cutR, ↓o_cutL, ↓W_isi, ↓W_ch, ↓WS_for, ↓WI_iter, ↓WI_range1, ↓WI_range2, ↓WI_range3, ↓WI_enum, ↓WI_zip2, ↓WI_zip3, ↓W_callK, ↓WS_f0, ↓WS_f1, ↓W_alloc, ↓W_ofL, ↓W_comp, ↓WB_yes, ↓W_c0, ↓W_c1, ↓W_listRg, ↓W_tupRg, ↓W_rRange1, ↓W_rRange2, Option.isSome_some, z2_t, z3_t, perm_nil, perm_cons, List.getD_cons_zero, List.getD_cons_succ, o_intT, o_intF, o_intB, o_ixL, o_ixT, beq_self_eq_true, decide_true, decide_false, okEq, okCmp, okIn, D.fits, D.fitsL, D.dep, D.depL, D.eqv, D.eqvL, D.alike, D.alikeL, isBl_bl, isN_non, isN_bl, isN_int, isN_str, isN_tup, isN_rol, isN_loc, Nat.reduceAdd, Nat.reduceSub, Nat.max_self, Nat.min_self, Nat.max_zero, Nat.zero_max, Nat.min_zero, Nat.zero_min, ty_non, ty_bl, ty_int, ty_str, ty_tup, ty_rol, ty_loc, kb_bool_bool, kb_bool_int, kb_bool_str, kb_bool_tuple, kb_bool_list, kb_int_bool, kb_int_int, kb_int_str, kb_int_tuple, kb_int_list, kb_str_bool, kb_str_int, kb_str_str, kb_str_tuple, kb_str_list, kb_tuple_bool, kb_tuple_int, kb_tuple_str, kb_tuple_tuple, kb_tuple_list, kb_list_bool, kb_list_int, kb_list_str, kb_list_tuple, kb_list_list, kb_NoneType_bool, kb_NoneType_int, kb_NoneType_str, kb_NoneType_tuple, kb_NoneType_list, Nat.zero_add, c02, lstAt_setE, Option.map_some, lstAt_set_ne, ne_eq, Nat.reduceEqDiff, Nat.one_ne_zero, Nat.zero_ne_one, ix_1_0, ix_2_0, ix_2_1, ix_3_0, ix_3_1, ix_3_2, ix_4_0, ix_4_1, ix_4_2, ix_4_3, ix_5_0, ix_5_1, ix_5_2, ix_5_3, ix_5_4, ix_6_0, ix_6_1, ix_6_2, ix_6_3, ix_6_4, ix_6_5, Nat.reduceLeDiff, Int.reduceAdd, Int.reduceSub, Int.reduceMul, Int.reduceNeg, Int.reducePow, Int.reduceLT, Int.reduceLE, Int.reduceEq, Int.reduceToNat, Bool.and_true, Bool.true_and, Bool.and_self, Bool.and_false, Bool.false_and, Bool.and_eq_true, Bool.and_eq_false_imp, and_self, WS_qdn, WS_qdr, WS_qde, WS_qdb, WS_qdc, qn1, qn2, qn3, qn4, qn5, qk1, qk5, lq1, lq2, lq3, lq4, lq5, intD_int, items_tup, items_rol, items_loc, listOf_loc, listOf_rol, isL_loc, at0, at1, at2, at3, at4, at5, atl1, atl2, atl3, atl4, lstAt_new, lstAt_h0, lstAt_h1, lstAt_h2, lstAt_h3, it_tup, it_rol, kTup_eq, kLen_eq, wipe0, wipe1, b_nm, b_un, b_nil, b_cnm, b_cun, Option.bind_some, List.set_cons_zero, List.set_cons_succ, List.length_cons, List.length_nil, List.nil_append, List.cons_append, List.append_nil, List.isEmpty_cons, List.isEmpty_nil, true_and, and_true, false_and, and_false, true_implies, forall_const, not_true_eq_false, not_false_eq_true, implies_true, decide_eq_true_eq, decide_eq_false_iff_not, Bool.not_eq_true', Bool.not_eq_false', Bool.not_true, Bool.not_false, if_true, if_false, Bool.false_eq_true, Bool.true_eq_false, reduceCtorEq, false_implies, eq_self]
    refine draw_w F3 (by decide) (by decide) fun v S4 v0 v1 F4 K4 => ?_
    have a1 := F3.len
    have b1 := K4.lst (by omega) hL3
    have b2 := K4.lst (by omega) hL3'
    simp only [↓reduceIte, ↓W_ok, ↓W_exn, ↓W_var0, ↓W_varS, ↓W_K, ↓W_bin, ↓W_un, ↓W_aNil, ↓W_aCons, ↓W_arg, ↓W_call, ↓W_of, ↓WB_test, ↓tc_bl, ↓WB_tru, ↓trc, ↓WB_and, ↓WB_or, ↓WB_not, ↓W_if, ↓W_andV, ↓W_orV, ↓W_notV, ↓WM_some, ↓WM_none, ↓WO_some, ↓tr_bl, ↓tr_non, ↓tr_int, ↓tr_tup, ↓tr_rol, ↓WS_nx, ↓WS_rt, ↓WS_ct, ↓WS_bk, ↓WS_exn, ↓WS_seq, ↓WS_nil, ↓WS_retN, ↓WS_break, ↓WS_cont, ↓WS_expr, ↓WS_ret, ↓WS_if, ↓WS_set, ↓WS_par, ↓WS_asg, ↓WS_gSet, ↓WS_gN, ↓WS_gC, ↓WS_gUn, ↓WS_gSub, ↓WS_aug, ↓o_add, ↓o_iadd, ↓o_sub, ↓o_neg, ↓o_mul, ↓o_mod, ↓o_div, ↓o_pow, ↓o_addT, ↓o_addS, ↓o_addL, ↓o_lt, ↓o_le, ↓o_gt, ↓o_ge, ↓o_eq, ↓o_ne, ↓o_eqS, ↓o_neS, ↓o_eqB, ↓o_neB, ↓o_eqT, ↓o_neT, ↓o_eqN, ↓o_neN, ↓o_ltT, ↓o_leT, ↓o_is, ↓o_isnot, ↓o_isB, ↓o_isnotB, ↓o_inT, ↓o_ninT, ↓o_inL, ↓o_ninL, ↓o_ixT, ↓o_ixR, ↓o_ixL, ↓o_rev, ↓o_ixS, ↓o_str, ↓o_strS, ↓o_set, ↓o_lenT, ↓o_lenR, ↓o_lenL, ↓o_lenS, ↓o_int, ↓o_intT, ↓o_intF, ↓o_abs, ↓o_max, ↓o_min, ↓o_tuple, ↓o_listXt, ↓o_listXr, ↓o_listXl, ↓o_listXs, ↓o_sortedXt, ↓o_tup0, ↓o_tup1, ↓o_tup2, ↓o_tup3, ↓o_tup4, ↓o_tup5, ↓o_tup6, ↓o_lst0, ↓o_lst1, ↓o_lst2, ↓o_lst3, ↓o_lst4, ↓o_lst5, ↓o_lst6, ↓o_sum, ↓W_meth, ↓o_append, ↓o_extend, ↓o_popAt, ↓W_cut, ↓W_noPart, ↓W_part, ↓o_cutT, ↓o_cutR, ↓o_cutL, ↓W_isi, ↓W_ch, ↓WS_for, ↓WI_iter, ↓WI_range1, ↓WI_range2, ↓WI_range3, ↓WI_enum, ↓WI_zip2, ↓WI_zip3, ↓W_callK, ↓WS_f0, ↓WS_f1, ↓W_alloc, ↓W_ofL, ↓W_comp, ↓WB_yes, ↓W_c0, ↓W_c1, ↓W_listRg, ↓W_tupRg, ↓W_rRange1, ↓W_rRange2, Option.isSome_some, z2_t, z3_t, perm_nil, perm_cons, List.getD_cons_zero, List.getD_cons_succ, o_intT, o_intF, o_intB, o_ixL, o_ixT, beq_self_eq_true, decide_true, decide_false, okEq, okCmp, okIn, D.fits, D.fitsL, D.dep, D.depL, D.eqv, D.eqvL, D.alike, D.alikeL, isBl_bl, isN_non, isN_bl, isN_int, isN_str, isN_tup, isN_rol, isN_loc, Nat.reduceAdd, Nat.reduceSub, Nat.max_self, Nat.min_self, Nat.max_zero, Nat.zero_max, Nat.min_zero, Nat.zero_min, ty_non, ty_bl, ty_int, ty_str, ty_tup, ty_rol, ty_loc, kb_bool_bool, kb_bool_int, kb_bool_str, kb_bool_tuple, kb_bool_list, kb_int_bool, kb_int_int, kb_int_str, kb_int_tuple, kb_int_list, kb_str_bool, kb_str_int, kb_str_str, kb_str_tuple, kb_str_list, kb_tuple_bool, kb_tuple_int, kb_tuple_str, kb_tuple_tuple, kb_tuple_list, kb_list_bool, kb_list_int, kb_list_str, kb_list_tuple, kb_list_list, kb_NoneType_bool, kb_NoneType_int, kb_NoneType_str, kb_NoneType_tuple, kb_NoneType_list, Nat.zero_add, c02, lstAt_setE, Option.map_some, lstAt_set_ne, ne_eq, Nat.reduceEqDiff, Nat.one_ne_zero, Nat.zero_ne_one, ix_1_0, ix_2_0, ix_2_1, ix_3_0, ix_3_1, ix_3_2, ix_4_0, ix_4_1, ix_4_2, ix_4_3, ix_5_0, ix_5_1, ix_5_2, ix_5_3, ix_5_4, ix_6_0, ix_6_1, ix_6_2, ix_6_3, ix_6_4, ix_6_5, Nat.reduceLeDiff, Int.reduceAdd, Int.reduceSub, Int.reduceMul, Int.reduceNeg, Int.reducePow, Int.reduceLT, Int.reduceLE, Int.reduceEq, Int.reduceToNat, Bool.and_true, Bool.true_and, Bool.and_self, Bool.and_false, Bool.false_and, Bool.and_eq_true, Bool.and_eq_false_imp, and_self, WS_qdn, WS_qdr, WS_qde, WS_qdb, WS_qdc, qn1, qn2, qn3, qn4, qn5, qk1, qk5, lq1, lq2, lq3, lq4, lq5, intD_int, items_tup, items_rol, items_loc, listOf_loc, listOf_rol, isL_loc, at0, at1, at2, at3, at4, at5, atl1, atl2, atl3, atl4, lstAt_new, lstAt_h0, lstAt_h1, lstAt_h2, lstAt_h3, it_tup, it_rol, kTup_eq, kLen_eq, wipe0, wipe1, b_nm, b_un, b_nil, b_cnm, b_cun, Option.bind_some, List.set_cons_zero, List.set_cons_succ, List.length_cons, List.length_nil, List.nil_append, List.cons_append, List.append_nil, List.isEmpty_cons, List.isEmpty_nil, true_and, and_true, false_and, and_false, true_implies, forall_const, not_true_eq_false, not_false_eq_true, implies_true, decide_eq_true_eq, decide_eq_false_iff_not, Bool.not_eq_true', Bool.not_eq_false', Bool.not_true, Bool.not_false, if_true, if_false, Bool.false_eq_true, Bool.true_eq_false, reduceCtorEq, false_implies, eq_self, b1, b2]
    refine WM_in i0 (by omega) fun y hym => ?_
    obtain ⟨z2, rfl, hz2⟩ := hy y hym
    simp only [↓reduceIte, ↓W_ok, ↓W_exn, ↓W_var0, ↓W_varS, ↓W_K, ↓W_bin, ↓W_un, ↓W_aNil, ↓W_aCons, ↓W_arg, ↓W_call, ↓W_of, ↓WB_test, ↓tc_bl, ↓WB_tru, ↓trc, ↓WB_and, ↓WB_or, ↓WB_not, ↓W_if, ↓W_andV, ↓W_orV, ↓W_notV, ↓WM_some, ↓WM_none, ↓WO_some, ↓tr_bl, ↓tr_non, ↓tr_int, ↓tr_tup, ↓tr_rol, ↓WS_nx, ↓WS_rt, ↓WS_ct, ↓WS_bk, ↓WS_exn, ↓WS_seq, ↓WS_nil, ↓WS_retN, ↓WS_break, ↓WS_cont, ↓WS_expr, ↓WS_ret, ↓WS_if, ↓WS_set, ↓WS_par, ↓WS_asg, ↓WS_gSet, ↓WS_gN, ↓WS_gC, ↓WS_gUn, ↓WS_gSub, ↓WS_aug, ↓o_add, ↓o_iadd, ↓o_sub, ↓o_neg, ↓o_mul, ↓o_mod, ↓o_div, ↓o_pow, ↓o_addT, ↓o_addS, ↓o_addL, ↓o_lt, ↓o_le, ↓o_gt, ↓o_ge, ↓o_eq, ↓o_ne, ↓o_eqS, ↓o_neS, ↓o_eqB, ↓o_neB, ↓o_eqT, ↓o_neT, ↓o_eqN, ↓o_neN, ↓o_ltT, ↓o_leT, ↓o_is, ↓o_isnot, ↓o_isB, ↓o_isnotB, ↓o_inT, ↓o_ninT, ↓o_inL, ↓o_ninL, ↓o_ixT, ↓o_ixR, ↓o_ixL, ↓o_rev, ↓o_ixS, ↓o_str, ↓o_strS, ↓o_set, ↓o_lenT, ↓o_lenR, ↓o_lenL, ↓o_lenS, ↓o_int, ↓o_intT, ↓o_intF, ↓o_abs, ↓o_max, ↓o_min, ↓o_tuple, ↓o_listXt, ↓o_listXr, ↓o_listXl, ↓o_listXs, ↓o_sortedXt, ↓o_tup0, ↓o_tup1, ↓o_tup2, ↓o_tup3, ↓o_tup4, ↓o_tup5, ↓o_tup6, ↓o_lst0, ↓o_lst1, ↓o_lst2, ↓o_lst3, ↓o_lst4, ↓o_lst5, ↓o_lst6, ↓o_sum, ↓W_meth, ↓o_append, ↓o_extend, ↓o_popAt, ↓W_cut, ↓W_noPart, ↓W_part, ↓o_cutT, ↓o_cutR, ↓o_cutL, ↓W_isi, ↓W_ch, ↓WS_for, ↓WI_iter, ↓WI_range1, ↓WI_range2, ↓WI_range3, ↓WI_enum, ↓WI_zip2, ↓WI_zip3, ↓W_callK, ↓WS_f0, ↓WS_f1, ↓W_alloc, ↓W_ofL, ↓W_comp, ↓WB_yes, ↓W_c0, ↓W_c1, ↓W_listRg, ↓W_tupRg, ↓W_rRange1, ↓W_rRange2, Option.isSome_some, z2_t, z3_t, perm_nil, perm_cons, List.getD_cons_zero, List.getD_cons_succ, o_intT, o_intF, o_intB, o_ixL, o_ixT, beq_self_eq_true, decide_true, decide_false, okEq, okCmp, okIn, D.fits, D.fitsL, D.dep, D.depL, D.eqv, D.eqvL, D.alike, D.alikeL, isBl_bl, isN_non, isN_bl, isN_int, isN_str, isN_tup, isN_rol, isN_loc, Nat.reduceAdd, Nat.reduceSub, Nat.max_self, Nat.min_self, Nat.max_zero, Nat.zero_max, Nat.min_zero, Nat.zero_min, ty_non, ty_bl, ty_int, ty_str, ty_tup, ty_rol, ty_loc, kb_bool_bool, kb_bool_int, kb_bool_str, kb_bool_tuple, kb_bool_list, kb_int_bool, kb_int_int, kb_int_str, kb_int_tuple, kb_int_list, kb_str_bool, kb_str_int, kb_str_str, kb_str_tuple, kb_str_list, kb_tuple_bool, kb_tuple_int, kb_tuple_str, kb_tuple_tuple, kb_tuple_list, kb_list_bool, kb_list_int, kb_list_str, kb_list_tuple, kb_list_list, kb_NoneType_bool, kb_NoneType_int, kb_NoneType_str, kb_NoneType_tuple, kb_NoneType_list, Nat.zero_add, c02, lstAt_setE, Option.map_some, lstAt_set_ne, ne_eq, Nat.reduceEqDiff, Nat.one_ne_zero, Nat.zero_ne_one, ix_1_0, ix_2_0, ix_2_1, ix_3_0, ix_3_1, ix_3_2, ix_4_0, ix_4_1, ix_4_2, ix_4_3, ix_5_0, ix_5_1, ix_5_2, ix_5_3, ix_5_4, ix_6_0, ix_6_1, ix_6_2, ix_6_3, ix_6_4, ix_6_5, Nat.reduceLeDiff, Int.reduceAdd, Int.reduceSub, Int.reduceMul, Int.reduceNeg, Int.reducePow, Int.reduceLT, Int.reduceLE, Int.reduceEq, Int.reduceToNat, Bool.and_true, Bool.true_and, Bool.and_self, Bool.and_false, Bool.false_and, Bool.and_eq_true, Bool.and_eq_false_imp, and_self, WS_qdn, WS_qdr, WS_qde, WS_qdb, WS_qdc, qn1, qn2, qn3, qn4, qn5, qk1, qk5, lq1, lq2, lq3, lq4, lq5, intD_int, items_tup, items_rol, items_loc, listOf_loc, listOf_rol, isL_loc, at0, at1, at2, at3, at4, at5, atl1, atl2, atl3, atl4, lstAt_new, lstAt_h0, lstAt_h1, lstAt_h2, lstAt_h3, it_tup, it_rol, kTup_eq, kLen_eq, wipe0, wipe1, b_nm, b_un, b_nil, b_cnm, b_cun, Option.bind_some, List.set_cons_zero, List.set_cons_succ, List.length_cons, List.length_nil, List.nil_append, List.cons_append, List.append_nil, List.isEmpty_cons, List.isEmpty_nil, true_and, and_true, false_and, and_false, true_implies, forall_const, not_true_eq_false, not_false_eq_true, implies_true, decide_eq_true_eq, decide_eq_false_iff_not, Bool.not_eq_true', Bool.not_eq_false', Bool.not_true, Bool.not_false, if_true, if_false, Bool.false_eq_true, Bool.true_eq_false, reduceCtorEq, false_implies, eq_self]
    refine ⟨sl (by omega), ?_⟩
    refine draw_w F4 (by omega) (by omega) fun w S5 w0 w1 F5 K5 => ?_
    have b3 := K5.lst (by omega) b2
    have a2 := K4.len
    simp only [↓reduceIte, ↓W_ok, ↓W_exn, ↓W_var0, ↓W_varS, ↓W_K, ↓W_bin, ↓W_un, ↓W_aNil, ↓W_aCons, ↓W_arg, ↓W_call, ↓W_of, ↓WB_test, ↓tc_bl, ↓WB_tru, ↓trc, ↓WB_and, ↓WB_or, ↓WB_not, ↓W_if, ↓W_andV, ↓W_orV, ↓W_notV, ↓WM_some, ↓WM_none, ↓WO_some, ↓tr_bl, ↓tr_non, ↓tr_int, ↓tr_tup, ↓tr_rol, ↓WS_nx, ↓WS_rt, ↓WS_ct, ↓WS_bk, ↓WS_exn, ↓WS_seq, ↓WS_nil, ↓WS_retN, ↓WS_break, ↓WS_cont, ↓WS_expr, ↓WS_ret, ↓WS_if, ↓WS_set, ↓WS_par, ↓WS_asg, ↓WS_gSet, ↓WS_gN, ↓WS_gC, ↓WS_gUn, ↓WS_gSub, ↓WS_aug, ↓o_add, ↓o_iadd, ↓o_sub, ↓o_neg, ↓o_mul, ↓o_mod, ↓o_div, ↓o_pow, ↓o_addT, ↓o_addS, ↓o_addL, ↓o_lt, ↓o_le, ↓o_gt, ↓o_ge, ↓o_eq, ↓o_ne, ↓o_eqS, ↓o_neS, ↓o_eqB, ↓o_neB, ↓o_eqT, ↓o_neT, ↓o_eqN, ↓o_neN, ↓o_ltT, ↓o_leT, ↓o_is, ↓o_isnot, ↓o_isB, ↓o_isnotB, ↓o_inT, ↓o_ninT, ↓o_inL, ↓o_ninL, ↓o_ixT, ↓o_ixR, ↓o_ixL, ↓o_rev, ↓o_ixS, ↓o_str, ↓o_strS, ↓o_set, ↓o_lenT, ↓o_lenR, ↓o_lenL, ↓o_lenS, ↓o_int, ↓o_intT, ↓o_intF, ↓o_abs, ↓o_max, ↓o_min, ↓o_tuple, ↓o_listXt, ↓o_listXr, ↓o_listXl, ↓o_listXs, ↓o_sortedXt, ↓o_tup0, ↓o_tup1, ↓o_tup2, ↓o_tup3, ↓o_tup4, ↓o_tup5, ↓o_tup6, ↓o_lst0, ↓o_lst1, ↓o_lst2, ↓o_lst3, ↓o_lst4, ↓o_lst5, ↓o_lst6, ↓o_sum, ↓W_meth, ↓o_append, ↓o_extend, ↓o_popAt, ↓W_cut, ↓W_noPart, ↓W_part, ↓o_cutT, ↓o_cutR, ↓o_cutL, ↓W_isi, ↓W_ch, ↓WS_for, ↓WI_iter, ↓WI_range1, ↓WI_range2, ↓WI_range3, ↓WI_enum, ↓WI_zip2, ↓WI_zip3, ↓W_callK, ↓WS_f0, ↓WS_f1, ↓W_alloc, ↓W_ofL, ↓W_comp, ↓WB_yes, ↓W_c0, ↓W_c1, ↓W_listRg, ↓W_tupRg, ↓W_rRange1, ↓W_rRange2, Option.isSome_some, z2_t, z3_t, perm_nil, perm_cons, List.getD_cons_zero, List.getD_cons_succ, o_intT, o_intF, o_intB, o_ixL, o_ixT, beq_self_eq_true, decide_true, decide_false, okEq, okCmp, okIn, D.fits, D.fitsL, D.dep, D.depL, D.eqv, D.eqvL, D.alike, D.alikeL, isBl_bl, isN_non, isN_bl, isN_int, isN_str, isN_tup, isN_rol, isN_loc, Nat.reduceAdd, Nat.reduceSub, Nat.max_self, Nat.min_self, Nat.max_zero, Nat.zero_max, Nat.min_zero, Nat.zero_min, ty_non, ty_bl, ty_int, ty_str, ty_tup, ty_rol, ty_loc, kb_bool_bool, kb_bool_int, kb_bool_str, kb_bool_tuple, kb_bool_list, kb_int_bool, kb_int_int, kb_int_str, kb_int_tuple, kb_int_list, kb_str_bool, kb_str_int, kb_str_str, kb_str_tuple, kb_str_list, kb_tuple_bool, kb_tuple_int, kb_tuple_str, kb_tuple_tuple, kb_tuple_list, kb_list_bool, kb_list_int, kb_list_str, kb_list_tuple, kb_list_list, kb_NoneType_bool, kb_NoneType_int, kb_NoneType_str, kb_NoneType_tuple, kb_NoneType_list, Nat.zero_add, c02, lstAt_setE, Option.map_some, lstAt_set_ne, ne_eq, Nat.reduceEqDiff, Nat.one_ne_zero, Nat.zero_ne_one, ix_1_0, ix_2_0, ix_2_1, ix_3_0, ix_3_1, ix_3_2, ix_4_0, ix_4_1, ix_4_2, ix_4_3, ix_5_0, ix_5_1, ix_5_2, ix_5_3, ix_5_4, ix_6_0, ix_6_1, ix_6_2, ix_6_3, ix_6_4, ix_6_5, Nat.reduceLeDiff, Int.reduceAdd, Int.reduceSub, Int.reduceMul, Int.reduceNeg, Int.reducePow, Int.reduceLT, Int.reduceLE, Int.reduceEq, Int.reduceToNat, Bool.and_true, Bool.true_and, Bool.and_self, Bool.and_false, Bool.false_and, Bool.and_eq_true, Bool.and_eq_false_imp, and_self, WS_qdn, WS_qdr, WS_qde, WS_qdb, WS_qdc, qn1, qn2, qn3, qn4, qn5, qk1, qk5, lq1, lq2, lq3, lq4, lq5, intD_int, items_tup, items_rol, items_loc, listOf_loc, listOf_rol, isL_loc, at0, at1, at2, at3, at4, at5, atl1, atl2, atl3, atl4, lstAt_new, lstAt_h0, lstAt_h1, lstAt_h2, lstAt_h3, it_tup, it_rol, kTup_eq, kLen_eq, wipe0, wipe1, b_nm, b_un, b_nil, b_cnm, b_cun, Option.bind_some, List.set_cons_zero, List.set_cons_succ, List.length_cons, List.length_nil, List.nil_append, List.cons_append, List.append_nil, List.isEmpty_cons, List.isEmpty_nil, true_and, and_true, false_and, and_false, true_implies, forall_const, not_true_eq_false, not_false_eq_true, implies_true, decide_eq_true_eq, decide_eq_false_iff_not, Bool.not_eq_true', Bool.not_eq_false', Bool.not_true, Bool.not_false, if_true, if_false, Bool.false_eq_true, Bool.true_eq_false, reduceCtorEq, false_implies, eq_self, b3]
    refine ⟨by rw [sizeLine_eq]; omega, F5.set (by omega), (K3.trans (K4.trans K5)).set (by omega), ?_, _, _, _, rfl, rfl, fun f hfm => ?_, by simp; omega⟩
    · have := lstAt_lt hL2
      rw [lstAt_set_ne (by omega)]; exact K5.lst (by omega) b1
    · rcases List.mem_append.mp hfm with g | g
      · exact hf f g
      · rw [List.mem_singleton.mp g]; exact ⟨_, _, _, rfl, by omega, by omega, by omega, by omega⟩
  · rintro σ S3 ⟨F3, K3, hL3, fs, p, q, rfl, hL3', hf, hfl⟩
    simp only [↓reduceIte, ↓W_ok, ↓W_exn, ↓W_var0, ↓W_varS, ↓W_K, ↓W_bin, ↓W_un, ↓W_aNil, ↓W_aCons, ↓W_arg, ↓W_call, ↓W_of, ↓WB_test, ↓tc_bl, ↓WB_tru, ↓trc, ↓WB_and, ↓WB_or, ↓WB_not, ↓W_if, ↓W_andV, ↓W_orV, ↓W_notV, ↓WM_some, ↓WM_none, ↓WO_some, ↓tr_bl, ↓tr_non, ↓tr_int, ↓tr_tup, ↓tr_rol, ↓WS_nx, ↓WS_rt, ↓WS_ct, ↓WS_bk, ↓WS_exn, ↓WS_seq, ↓WS_nil, ↓WS_retN, ↓WS_break, ↓WS_cont, ↓WS_expr, ↓WS_ret, ↓WS_if, ↓WS_set, ↓WS_par, ↓WS_asg, ↓WS_gSet, ↓WS_gN, ↓WS_gC, ↓WS_gUn, ↓WS_gSub, ↓WS_aug, ↓o_add, ↓o_iadd, ↓o_sub, ↓o_neg, ↓o_mul, ↓o_mod, ↓o_div, ↓o_pow, ↓o_addT, ↓o_addS, ↓o_addL, ↓o_lt, ↓o_le, ↓o_gt, ↓o_ge, ↓o_eq, ↓o_ne, ↓o_eqS, ↓o_neS, ↓o_eqB, ↓o_neB, ↓o_eqT, ↓o_neT, ↓o_eqN, ↓o_neN, ↓o_ltT, ↓o_leT, ↓o_is, ↓o_isnot, ↓o_isB, ↓o_isnotB, ↓o_inT, ↓o_ninT, ↓o_inL, ↓o_ninL, ↓o_ixT, ↓o_ixR, ↓o_ixL, ↓o_rev, ↓o_ixS, ↓o_str, ↓o_strS, ↓o_set, ↓o_lenT, ↓o_lenR, ↓o_lenL, ↓o_lenS, ↓o_int, ↓o_intT, ↓o_intF, ↓o_abs, ↓o_max, ↓o_min, ↓o_tuple, ↓o_listXt, ↓o_listXr, ↓o_listXl, ↓o_listXs, ↓o_sortedXt, ↓o_tup0, ↓o_tup1, ↓o_tup2, ↓o_tup3, ↓o_tup4, ↓o_tup5, ↓o_tup6, ↓o_lst0, ↓o_lst1, ↓o_lst2, ↓o_lst3, ↓o_lst4, ↓o_lst5, ↓o_lst6, ↓o_sum, ↓W_meth, ↓o_append, ↓o_extend, ↓o_popAt, ↓W_cut, ↓W_noPart, ↓W_part, ↓o_cutT, ↓o_cutR, ↓o_cutL, ↓W_isi, ↓W_ch, ↓WS_for, ↓WI_iter, ↓WI_range1, ↓WI_range2, ↓WI_range3, ↓WI_enum, ↓WI_zip2, ↓WI_zip3, ↓W_callK, ↓WS_f0, ↓WS_f1, ↓W_alloc, ↓W_ofL, ↓W_comp, ↓WB_yes, ↓W_c0, ↓W_c1, ↓W_listRg, ↓W_tupRg, ↓W_rRange1, ↓W_rRange2, Option.isSome_some, z2_t, z3_t, perm_nil, perm_cons, List.getD_cons_zero, List.getD_cons_succ, o_intT, o_intF, o_intB, o_ixL, o_ixT, beq_self_eq_true, decide_true, decide_false, okEq, okCmp, okIn, D.fits, D.fitsL, D.dep, D.depL, D.eqv, D.eqvL, D.alike, D.alikeL, isBl_bl, isN_non, isN_bl, isN_int, isN_str, isN_tup, isN_rol, isN_loc, Nat.reduceAdd, Nat.reduceSub, Nat.max_self, Nat.min_self, Nat.max_zero, Nat.zero_max, Nat.min_zero, Nat.zero_min, ty_non, ty_bl, ty_int, ty_str, ty_tup, ty_rol, ty_loc, kb_bool_bool, kb_bool_int, kb_bool_str, kb_bool_tuple, kb_bool_list, kb_int_bool, kb_int_int, kb_int_str, kb_int_tuple, kb_int_list, kb_str_bool, kb_str_int, kb_str_str, kb_str_tuple, kb_str_list, kb_tuple_bool, kb_tuple_int, kb_tuple_str, kb_tuple_tuple, kb_tuple_list, kb_list_bool, kb_list_int, kb_list_str, kb_list_tuple, kb_list_list, kb_NoneType_bool, kb_NoneType_int, kb_NoneType_str, kb_NoneType_tuple, kb_NoneType_list, Nat.zero_add, c02, lstAt_setE, Option.map_some, lstAt_set_ne, ne_eq, Nat.reduceEqDiff, Nat.one_ne_zero, Nat.zero_ne_one, ix_1_0, ix_2_0, ix_2_1, ix_3_0, ix_3_1, ix_3_2, ix_4_0, ix_4_1, ix_4_2, ix_4_3, ix_5_0, ix_5_1, ix_5_2, ix_5_3, ix_5_4, ix_6_0, ix_6_1, ix_6_2, ix_6_3, ix_6_4, ix_6_5, Nat.reduceLeDiff, Int.reduceAdd, Int.reduceSub, Int.reduceMul, Int.reduceNeg, Int.reducePow, Int.reduceLT, Int.reduceLE, Int.reduceEq, Int.reduceToNat, Bool.and_true, Bool.true_and, Bool.and_self, Bool.and_false, Bool.false_and, Bool.and_eq_true, Bool.and_eq_false_imp, and_self, WS_qdn, WS_qdr, WS_qde, WS_qdb, WS_qdc, qn1, qn2, qn3, qn4, qn5, qk1, qk5, lq1, lq2, lq3, lq4, lq5, intD_int, items_tup, items_rol, items_loc, listOf_loc, listOf_rol, isL_loc, at0, at1, at2, at3, at4, at5, atl1, atl2, atl3, atl4, lstAt_new, lstAt_h0, lstAt_h1, lstAt_h2, lstAt_h3, it_tup, it_rol, kTup_eq, kLen_eq, wipe0, wipe1, b_nm, b_un, b_nil, b_cnm, b_cun, Option.bind_some, List.set_cons_zero, List.set_cons_succ, List.length_cons, List.length_nil, List.nil_append, List.cons_append, List.append_nil, List.isEmpty_cons, List.isEmpty_nil, true_and, and_true, false_and, and_false, true_implies, forall_const, not_true_eq_false, not_false_eq_true, implies_true, decide_eq_true_eq, decide_eq_false_iff_not, Bool.not_eq_true', Bool.not_eq_false', Bool.not_true, Bool.not_false, if_true, if_false, Bool.false_eq_true, Bool.true_eq_false, reduceCtorEq, false_implies, eq_self, hL3']
    exact h _ _ hf (by omega) F3 K3
theorem all2_ints {P : D → D → Prop} {ds ys : List D} (h : All2 P ds ys) (hp : ∀ a y, P a y → ∃ i : Int, y = .int i) : ∃ as : List Int, ys = as.map D.int ∧ as.length = ds.length := by
  induction h with
  | nil => exact ⟨[], rfl, rfl⟩
  | cons p _ ih =>
    obtain ⟨i, rfl⟩ := hp _ _ p
    obtain ⟨as, rfl, hl⟩ := ih
    exact ⟨i :: as, rfl, by simp [hl]⟩
theorem sheet_w {fs : List D} (hF : FlowOk S) (hm : most ≤ 1000) (hf : ∀ f ∈ fs, ∃ n lo hi, f = .tup [.str n, .int lo, .int hi] ∧ lo ≤ hi ∧ hi < lo + most) (hl : fs.length ≤ 14) (h : ∀ (as : List Int) S', as.length = fs.length → FlowOk S' → Fk 3 S S' → Q (.tup (as.map D.int)) S') : W (x, Q) tt (m__law_sheet [.loc 2, .tup fs] S) := by
  simp only [↓reduceIte, ↓W_ok, ↓W_exn, ↓W_var0, ↓W_varS, ↓W_K, ↓W_bin, ↓W_un, ↓W_aNil, ↓W_aCons, ↓W_arg, ↓W_call, ↓W_of, ↓WB_test, ↓tc_bl, ↓WB_tru, ↓trc, ↓WB_and, ↓WB_or, ↓WB_not, ↓W_if, ↓W_andV, ↓W_orV, ↓W_notV, ↓WM_some, ↓WM_none, ↓WO_some, ↓tr_bl, ↓tr_non, ↓tr_int, ↓tr_tup, ↓tr_rol, ↓WS_nx, ↓WS_rt, ↓WS_ct, ↓WS_bk, ↓WS_exn, ↓WS_seq, ↓WS_nil, ↓WS_retN, ↓WS_break, ↓WS_cont, ↓WS_expr, ↓WS_ret, ↓WS_if, ↓WS_set, ↓WS_par, ↓WS_asg, ↓WS_gSet, ↓WS_gN, ↓WS_gC, ↓WS_gUn, ↓WS_gSub, ↓WS_aug, ↓o_add, ↓o_iadd, ↓o_sub, ↓o_neg, ↓o_mul, ↓o_mod, ↓o_div, ↓o_pow, ↓o_addT, ↓o_addS, ↓o_addL, ↓o_lt, ↓o_le, ↓o_gt, ↓o_ge, ↓o_eq, ↓o_ne, ↓o_eqS, ↓o_neS, ↓o_eqB, ↓o_neB, ↓o_eqT, ↓o_neT, ↓o_eqN, ↓o_neN, ↓o_ltT, ↓o_leT, ↓o_is, ↓o_isnot, ↓o_isB, ↓o_isnotB, ↓o_inT, ↓o_ninT, ↓o_inL, ↓o_ninL, ↓o_ixT, ↓o_ixR, ↓o_ixL, ↓o_rev, ↓o_ixS, ↓o_str, ↓o_strS, ↓o_set, ↓o_lenT, ↓o_lenR, ↓o_lenL, ↓o_lenS, ↓o_int, ↓o_intT, ↓o_intF, ↓o_abs, ↓o_max, ↓o_min, ↓o_tuple, ↓o_listXt, ↓o_listXr, ↓o_listXl, ↓o_listXs, ↓o_sortedXt, ↓o_tup0, ↓o_tup1, ↓o_tup2, ↓o_tup3, ↓o_tup4, ↓o_tup5, ↓o_tup6, ↓o_lst0, ↓o_lst1, ↓o_lst2, ↓o_lst3, ↓o_lst4, ↓o_lst5, ↓o_lst6, ↓o_sum, ↓W_meth, ↓o_append, ↓o_extend, ↓o_popAt, ↓W_cut, ↓W_noPart, ↓W_part, ↓o_cutT, ↓o_cutR, ↓o_cutL, ↓W_isi, ↓W_ch, ↓WS_for, ↓WI_iter, ↓WI_range1, ↓WI_range2, ↓WI_range3, ↓WI_enum, ↓WI_zip2, ↓WI_zip3, ↓W_callK, ↓WS_f0, ↓WS_f1, ↓W_alloc, ↓W_ofL, ↓W_comp, ↓WB_yes, ↓W_c0, ↓W_c1, ↓W_listRg, ↓W_tupRg, ↓W_rRange1, ↓W_rRange2, Option.isSome_some, z2_t, z3_t, perm_nil, perm_cons, List.getD_cons_zero, List.getD_cons_succ, o_intT, o_intF, o_intB, o_ixL, o_ixT, beq_self_eq_true, decide_true, decide_false, okEq, okCmp, okIn, D.fits, D.fitsL, D.dep, D.depL, D.eqv, D.eqvL, D.alike, D.alikeL, isBl_bl, isN_non, isN_bl, isN_int, isN_str, isN_tup, isN_rol, isN_loc, Nat.reduceAdd, Nat.reduceSub, Nat.max_self, Nat.min_self, Nat.max_zero, Nat.zero_max, Nat.min_zero, Nat.zero_min, ty_non, ty_bl, ty_int, ty_str, ty_tup, ty_rol, ty_loc, kb_bool_bool, kb_bool_int, kb_bool_str, kb_bool_tuple, kb_bool_list, kb_int_bool, kb_int_int, kb_int_str, kb_int_tuple, kb_int_list, kb_str_bool, kb_str_int, kb_str_str, kb_str_tuple, kb_str_list, kb_tuple_bool, kb_tuple_int, kb_tuple_str, kb_tuple_tuple, kb_tuple_list, kb_list_bool, kb_list_int, kb_list_str, kb_list_tuple, kb_list_list, kb_NoneType_bool, kb_NoneType_int, kb_NoneType_str, kb_NoneType_tuple, kb_NoneType_list, Nat.zero_add, c02, lstAt_setE, Option.map_some, lstAt_set_ne, ne_eq, Nat.reduceEqDiff, Nat.one_ne_zero, Nat.zero_ne_one, ix_1_0, ix_2_0, ix_2_1, ix_3_0, ix_3_1, ix_3_2, ix_4_0, ix_4_1, ix_4_2, ix_4_3, ix_5_0, ix_5_1, ix_5_2, ix_5_3, ix_5_4, ix_6_0, ix_6_1, ix_6_2, ix_6_3, ix_6_4, ix_6_5, Nat.reduceLeDiff, Int.reduceAdd, Int.reduceSub, Int.reduceMul, Int.reduceNeg, Int.reducePow, Int.reduceLT, Int.reduceLE, Int.reduceEq, Int.reduceToNat, Bool.and_true, Bool.true_and, Bool.and_self, Bool.and_false, Bool.false_and, Bool.and_eq_true, Bool.and_eq_false_imp, and_self, WS_qdn, WS_qdr, WS_qde, WS_qdb, WS_qdc, qn1, qn2, qn3, qn4, qn5, qk1, qk5, lq1, lq2, lq3, lq4, lq5, intD_int, items_tup, items_rol, items_loc, listOf_loc, listOf_rol, isL_loc, at0, at1, at2, at3, at4, at5, atl1, atl2, atl3, atl4, lstAt_new, lstAt_h0, lstAt_h1, lstAt_h2, lstAt_h3, it_tup, it_rol, kTup_eq, kLen_eq, wipe0, wipe1, b_nm, b_un, b_nil, b_cnm, b_cun, Option.bind_some, List.set_cons_zero, List.set_cons_succ, List.length_cons, List.length_nil, List.nil_append, List.cons_append, List.append_nil, List.isEmpty_cons, List.isEmpty_nil, true_and, and_true, false_and, and_false, true_implies, forall_const, not_true_eq_false, not_false_eq_true, implies_true, decide_eq_true_eq, decide_eq_false_iff_not, Bool.not_eq_true', Bool.not_eq_false', Bool.not_true, Bool.not_false, if_true, if_false, Bool.false_eq_true, Bool.true_eq_false, reduceCtorEq, false_implies, eq_self, wm__law_sheet, b__law_sheet]
  refine W_cMap (fun _ y => ∃ i : Int, y = .int i) (fun S' => FlowOk S' ∧ Fk 3 S S') ⟨hF, Fk.refl _ _⟩ (by rw [sizeLine_eq]; simp; omega) (fun _ _ => trivial) ?_ ?_
  · rintro d S1 hd ⟨F1, K1⟩
    obtain ⟨n, lo, hi, rfl, h1, h2⟩ := hf d hd
    simp only [↓reduceIte, ↓W_ok, ↓W_exn, ↓W_var0, ↓W_varS, ↓W_K, ↓W_bin, ↓W_un, ↓W_aNil, ↓W_aCons, ↓W_arg, ↓W_call, ↓W_of, ↓WB_test, ↓tc_bl, ↓WB_tru, ↓trc, ↓WB_and, ↓WB_or, ↓WB_not, ↓W_if, ↓W_andV, ↓W_orV, ↓W_notV, ↓WM_some, ↓WM_none, ↓WO_some, ↓tr_bl, ↓tr_non, ↓tr_int, ↓tr_tup, ↓tr_rol, ↓WS_nx, ↓WS_rt, ↓WS_ct, ↓WS_bk, ↓WS_exn, ↓WS_seq, ↓WS_nil, ↓WS_retN, ↓WS_break, ↓WS_cont, ↓WS_expr, ↓WS_ret, ↓WS_if, ↓WS_set, ↓WS_par, ↓WS_asg, ↓WS_gSet, ↓WS_gN, ↓WS_gC, ↓WS_gUn, ↓WS_gSub, ↓WS_aug, ↓o_add, ↓o_iadd, ↓o_sub, ↓o_neg, ↓o_mul, ↓o_mod, ↓o_div, ↓o_pow, ↓o_addT, ↓o_addS, ↓o_addL, ↓o_lt, ↓o_le, ↓o_gt, ↓o_ge, ↓o_eq, ↓o_ne, ↓o_eqS, ↓o_neS, ↓o_eqB, ↓o_neB, ↓o_eqT, ↓o_neT, ↓o_eqN, ↓o_neN, ↓o_ltT, ↓o_leT, ↓o_is, ↓o_isnot, ↓o_isB, ↓o_isnotB, ↓o_inT, ↓o_ninT, ↓o_inL, ↓o_ninL, ↓o_ixT, ↓o_ixR, ↓o_ixL, ↓o_rev, ↓o_ixS, ↓o_str, ↓o_strS, ↓o_set, ↓o_lenT, ↓o_lenR, ↓o_lenL, ↓o_lenS, ↓o_int, ↓o_intT, ↓o_intF, ↓o_abs, ↓o_max, ↓o_min, ↓o_tuple, ↓o_listXt, ↓o_listXr, ↓o_listXl, ↓o_listXs, ↓o_sortedXt, ↓o_tup0, ↓o_tup1, ↓o_tup2, ↓o_tup3, ↓o_tup4, ↓o_tup5, ↓o_tup6, ↓o_lst0, ↓o_lst1, ↓o_lst2, ↓o_lst3, ↓o_lst4, ↓o_lst5, ↓o_lst6, ↓o_sum, ↓W_meth, ↓o_append, ↓o_extend, ↓o_popAt, ↓W_cut, ↓W_noPart, ↓W_part, ↓o_cutT, ↓o_cutR, ↓o_cutL, ↓W_isi, ↓W_ch, ↓WS_for, ↓WI_iter, ↓WI_range1, ↓WI_range2, ↓WI_range3, ↓WI_enum, ↓WI_zip2, ↓WI_zip3, ↓W_callK, ↓WS_f0, ↓WS_f1, ↓W_alloc, ↓W_ofL, ↓W_comp, ↓WB_yes, ↓W_c0, ↓W_c1, ↓W_listRg, ↓W_tupRg, ↓W_rRange1, ↓W_rRange2, Option.isSome_some, z2_t, z3_t, perm_nil, perm_cons, List.getD_cons_zero, List.getD_cons_succ, o_intT, o_intF, o_intB, o_ixL, o_ixT, beq_self_eq_true, decide_true, decide_false, okEq, okCmp, okIn, D.fits, D.fitsL, D.dep, D.depL, D.eqv, D.eqvL, D.alike, D.alikeL, isBl_bl, isN_non, isN_bl, isN_int, isN_str, isN_tup, isN_rol, isN_loc, Nat.reduceAdd, Nat.reduceSub, Nat.max_self, Nat.min_self, Nat.max_zero, Nat.zero_max, Nat.min_zero, Nat.zero_min, ty_non, ty_bl, ty_int, ty_str, ty_tup, ty_rol, ty_loc, kb_bool_bool, kb_bool_int, kb_bool_str, kb_bool_tuple, kb_bool_list, kb_int_bool, kb_int_int, kb_int_str, kb_int_tuple, kb_int_list, kb_str_bool, kb_str_int, kb_str_str, kb_str_tuple, kb_str_list, kb_tuple_bool, kb_tuple_int, kb_tuple_str, kb_tuple_tuple, kb_tuple_list, kb_list_bool, kb_list_int, kb_list_str, kb_list_tuple, kb_list_list, kb_NoneType_bool, kb_NoneType_int, kb_NoneType_str, kb_NoneType_tuple, kb_NoneType_list, Nat.zero_add, c02, lstAt_setE, Option.map_some, lstAt_set_ne, ne_eq, Nat.reduceEqDiff, Nat.one_ne_zero, Nat.zero_ne_one, ix_1_0, ix_2_0, ix_2_1, ix_3_0, ix_3_1, ix_3_2, ix_4_0, ix_4_1, ix_4_2, ix_4_3, ix_5_0, ix_5_1, ix_5_2, ix_5_3, ix_5_4, ix_6_0, ix_6_1, ix_6_2, ix_6_3, ix_6_4, ix_6_5, Nat.reduceLeDiff, Int.reduceAdd, Int.reduceSub, Int.reduceMul, Int.reduceNeg, Int.reducePow, Int.reduceLT, Int.reduceLE, Int.reduceEq, Int.reduceToNat, Bool.and_true, Bool.true_and, Bool.and_self, Bool.and_false, Bool.false_and, Bool.and_eq_true, Bool.and_eq_false_imp, and_self, WS_qdn, WS_qdr, WS_qde, WS_qdb, WS_qdc, qn1, qn2, qn3, qn4, qn5, qk1, qk5, lq1, lq2, lq3, lq4, lq5, intD_int, items_tup, items_rol, items_loc, listOf_loc, listOf_rol, isL_loc, at0, at1, at2, at3, at4, at5, atl1, atl2, atl3, atl4, lstAt_new, lstAt_h0, lstAt_h1, lstAt_h2, lstAt_h3, it_tup, it_rol, kTup_eq, kLen_eq, wipe0, wipe1, b_nm, b_un, b_nil, b_cnm, b_cun, Option.bind_some, List.set_cons_zero, List.set_cons_succ, List.length_cons, List.length_nil, List.nil_append, List.cons_append, List.append_nil, List.isEmpty_cons, List.isEmpty_nil, true_and, and_true, false_and, and_false, true_implies, forall_const, not_true_eq_false, not_false_eq_true, implies_true, decide_eq_true_eq, decide_eq_false_iff_not, Bool.not_eq_true', Bool.not_eq_false', Bool.not_true, Bool.not_false, if_true, if_false, Bool.false_eq_true, Bool.true_eq_false, reduceCtorEq, false_implies, eq_self]
    refine draw_w F1 (by omega) (by omega) fun v S2 v0 v1 F2 K2 => ?_
    simp only [↓reduceIte, ↓W_ok, ↓W_exn, ↓W_var0, ↓W_varS, ↓W_K, ↓W_bin, ↓W_un, ↓W_aNil, ↓W_aCons, ↓W_arg, ↓W_call, ↓W_of, ↓WB_test, ↓tc_bl, ↓WB_tru, ↓trc, ↓WB_and, ↓WB_or, ↓WB_not, ↓W_if, ↓W_andV, ↓W_orV, ↓W_notV, ↓WM_some, ↓WM_none, ↓WO_some, ↓tr_bl, ↓tr_non, ↓tr_int, ↓tr_tup, ↓tr_rol, ↓WS_nx, ↓WS_rt, ↓WS_ct, ↓WS_bk, ↓WS_exn, ↓WS_seq, ↓WS_nil, ↓WS_retN, ↓WS_break, ↓WS_cont, ↓WS_expr, ↓WS_ret, ↓WS_if, ↓WS_set, ↓WS_par, ↓WS_asg, ↓WS_gSet, ↓WS_gN, ↓WS_gC, ↓WS_gUn, ↓WS_gSub, ↓WS_aug, ↓o_add, ↓o_iadd, ↓o_sub, ↓o_neg, ↓o_mul, ↓o_mod, ↓o_div, ↓o_pow, ↓o_addT, ↓o_addS, ↓o_addL, ↓o_lt, ↓o_le, ↓o_gt, ↓o_ge, ↓o_eq, ↓o_ne, ↓o_eqS, ↓o_neS, ↓o_eqB, ↓o_neB, ↓o_eqT, ↓o_neT, ↓o_eqN, ↓o_neN, ↓o_ltT, ↓o_leT, ↓o_is, ↓o_isnot, ↓o_isB, ↓o_isnotB, ↓o_inT, ↓o_ninT, ↓o_inL, ↓o_ninL, ↓o_ixT, ↓o_ixR, ↓o_ixL, ↓o_rev, ↓o_ixS, ↓o_str, ↓o_strS, ↓o_set, ↓o_lenT, ↓o_lenR, ↓o_lenL, ↓o_lenS, ↓o_int, ↓o_intT, ↓o_intF, ↓o_abs, ↓o_max, ↓o_min, ↓o_tuple, ↓o_listXt, ↓o_listXr, ↓o_listXl, ↓o_listXs, ↓o_sortedXt, ↓o_tup0, ↓o_tup1, ↓o_tup2, ↓o_tup3, ↓o_tup4, ↓o_tup5, ↓o_tup6, ↓o_lst0, ↓o_lst1, ↓o_lst2, ↓o_lst3, ↓o_lst4, ↓o_lst5, ↓o_lst6, ↓o_sum, ↓W_meth, ↓o_append, ↓o_extend, ↓o_popAt, ↓W_cut, ↓W_noPart, ↓W_part, ↓o_cutT, ↓o_cutR, ↓o_cutL, ↓W_isi, ↓W_ch, ↓WS_for, ↓WI_iter, ↓WI_range1, ↓WI_range2, ↓WI_range3, ↓WI_enum, ↓WI_zip2, ↓WI_zip3, ↓W_callK, ↓WS_f0, ↓WS_f1, ↓W_alloc, ↓W_ofL, ↓W_comp, ↓WB_yes, ↓W_c0, ↓W_c1, ↓W_listRg, ↓W_tupRg, ↓W_rRange1, ↓W_rRange2, Option.isSome_some, z2_t, z3_t, perm_nil, perm_cons, List.getD_cons_zero, List.getD_cons_succ, o_intT, o_intF, o_intB, o_ixL, o_ixT, beq_self_eq_true, decide_true, decide_false, okEq, okCmp, okIn, D.fits, D.fitsL, D.dep, D.depL, D.eqv, D.eqvL, D.alike, D.alikeL, isBl_bl, isN_non, isN_bl, isN_int, isN_str, isN_tup, isN_rol, isN_loc, Nat.reduceAdd, Nat.reduceSub, Nat.max_self, Nat.min_self, Nat.max_zero, Nat.zero_max, Nat.min_zero, Nat.zero_min, ty_non, ty_bl, ty_int, ty_str, ty_tup, ty_rol, ty_loc, kb_bool_bool, kb_bool_int, kb_bool_str, kb_bool_tuple, kb_bool_list, kb_int_bool, kb_int_int, kb_int_str, kb_int_tuple, kb_int_list, kb_str_bool, kb_str_int, kb_str_str, kb_str_tuple, kb_str_list, kb_tuple_bool, kb_tuple_int, kb_tuple_str, kb_tuple_tuple, kb_tuple_list, kb_list_bool, kb_list_int, kb_list_str, kb_list_tuple, kb_list_list, kb_NoneType_bool, kb_NoneType_int, kb_NoneType_str, kb_NoneType_tuple, kb_NoneType_list, Nat.zero_add, c02, lstAt_setE, Option.map_some, lstAt_set_ne, ne_eq, Nat.reduceEqDiff, Nat.one_ne_zero, Nat.zero_ne_one, ix_1_0, ix_2_0, ix_2_1, ix_3_0, ix_3_1, ix_3_2, ix_4_0, ix_4_1, ix_4_2, ix_4_3, ix_5_0, ix_5_1, ix_5_2, ix_5_3, ix_5_4, ix_6_0, ix_6_1, ix_6_2, ix_6_3, ix_6_4, ix_6_5, Nat.reduceLeDiff, Int.reduceAdd, Int.reduceSub, Int.reduceMul, Int.reduceNeg, Int.reducePow, Int.reduceLT, Int.reduceLE, Int.reduceEq, Int.reduceToNat, Bool.and_true, Bool.true_and, Bool.and_self, Bool.and_false, Bool.false_and, Bool.and_eq_true, Bool.and_eq_false_imp, and_self, WS_qdn, WS_qdr, WS_qde, WS_qdb, WS_qdc, qn1, qn2, qn3, qn4, qn5, qk1, qk5, lq1, lq2, lq3, lq4, lq5, intD_int, items_tup, items_rol, items_loc, listOf_loc, listOf_rol, isL_loc, at0, at1, at2, at3, at4, at5, atl1, atl2, atl3, atl4, lstAt_new, lstAt_h0, lstAt_h1, lstAt_h2, lstAt_h3, it_tup, it_rol, kTup_eq, kLen_eq, wipe0, wipe1, b_nm, b_un, b_nil, b_cnm, b_cun, Option.bind_some, List.set_cons_zero, List.set_cons_succ, List.length_cons, List.length_nil, List.nil_append, List.cons_append, List.append_nil, List.isEmpty_cons, List.isEmpty_nil, true_and, and_true, false_and, and_false, true_implies, forall_const, not_true_eq_false, not_false_eq_true, implies_true, decide_eq_true_eq, decide_eq_false_iff_not, Bool.not_eq_true', Bool.not_eq_false', Bool.not_true, Bool.not_false, if_true, if_false, Bool.false_eq_true, Bool.true_eq_false, reduceCtorEq, false_implies, eq_self]
    exact ⟨⟨_, rfl⟩, F2, K1.trans K2⟩
  · rintro ys S1 ⟨F1, K1⟩ hy
    obtain ⟨as, rfl, e⟩ := all2_ints hy fun _ _ h => h
    simp only [↓reduceIte, ↓W_ok, ↓W_exn, ↓W_var0, ↓W_varS, ↓W_K, ↓W_bin, ↓W_un, ↓W_aNil, ↓W_aCons, ↓W_arg, ↓W_call, ↓W_of, ↓WB_test, ↓tc_bl, ↓WB_tru, ↓trc, ↓WB_and, ↓WB_or, ↓WB_not, ↓W_if, ↓W_andV, ↓W_orV, ↓W_notV, ↓WM_some, ↓WM_none, ↓WO_some, ↓tr_bl, ↓tr_non, ↓tr_int, ↓tr_tup, ↓tr_rol, ↓WS_nx, ↓WS_rt, ↓WS_ct, ↓WS_bk, ↓WS_exn, ↓WS_seq, ↓WS_nil, ↓WS_retN, ↓WS_break, ↓WS_cont, ↓WS_expr, ↓WS_ret, ↓WS_if, ↓WS_set, ↓WS_par, ↓WS_asg, ↓WS_gSet, ↓WS_gN, ↓WS_gC, ↓WS_gUn, ↓WS_gSub, ↓WS_aug, ↓o_add, ↓o_iadd, ↓o_sub, ↓o_neg, ↓o_mul, ↓o_mod, ↓o_div, ↓o_pow, ↓o_addT, ↓o_addS, ↓o_addL, ↓o_lt, ↓o_le, ↓o_gt, ↓o_ge, ↓o_eq, ↓o_ne, ↓o_eqS, ↓o_neS, ↓o_eqB, ↓o_neB, ↓o_eqT, ↓o_neT, ↓o_eqN, ↓o_neN, ↓o_ltT, ↓o_leT, ↓o_is, ↓o_isnot, ↓o_isB, ↓o_isnotB, ↓o_inT, ↓o_ninT, ↓o_inL, ↓o_ninL, ↓o_ixT, ↓o_ixR, ↓o_ixL, ↓o_rev, ↓o_ixS, ↓o_str, ↓o_strS, ↓o_set, ↓o_lenT, ↓o_lenR, ↓o_lenL, ↓o_lenS, ↓o_int, ↓o_intT, ↓o_intF, ↓o_abs, ↓o_max, ↓o_min, ↓o_tuple, ↓o_listXt, ↓o_listXr, ↓o_listXl, ↓o_listXs, ↓o_sortedXt, ↓o_tup0, ↓o_tup1, ↓o_tup2, ↓o_tup3, ↓o_tup4, ↓o_tup5, ↓o_tup6, ↓o_lst0, ↓o_lst1, ↓o_lst2, ↓o_lst3, ↓o_lst4, ↓o_lst5, ↓o_lst6, ↓o_sum, ↓W_meth, ↓o_append, ↓o_extend, ↓o_popAt, ↓W_cut, ↓W_noPart, ↓W_part, ↓o_cutT, ↓o_cutR, ↓o_cutL, ↓W_isi, ↓W_ch, ↓WS_for, ↓WI_iter, ↓WI_range1, ↓WI_range2, ↓WI_range3, ↓WI_enum, ↓WI_zip2, ↓WI_zip3, ↓W_callK, ↓WS_f0, ↓WS_f1, ↓W_alloc, ↓W_ofL, ↓W_comp, ↓WB_yes, ↓W_c0, ↓W_c1, ↓W_listRg, ↓W_tupRg, ↓W_rRange1, ↓W_rRange2, Option.isSome_some, z2_t, z3_t, perm_nil, perm_cons, List.getD_cons_zero, List.getD_cons_succ, o_intT, o_intF, o_intB, o_ixL, o_ixT, beq_self_eq_true, decide_true, decide_false, okEq, okCmp, okIn, D.fits, D.fitsL, D.dep, D.depL, D.eqv, D.eqvL, D.alike, D.alikeL, isBl_bl, isN_non, isN_bl, isN_int, isN_str, isN_tup, isN_rol, isN_loc, Nat.reduceAdd, Nat.reduceSub, Nat.max_self, Nat.min_self, Nat.max_zero, Nat.zero_max, Nat.min_zero, Nat.zero_min, ty_non, ty_bl, ty_int, ty_str, ty_tup, ty_rol, ty_loc, kb_bool_bool, kb_bool_int, kb_bool_str, kb_bool_tuple, kb_bool_list, kb_int_bool, kb_int_int, kb_int_str, kb_int_tuple, kb_int_list, kb_str_bool, kb_str_int, kb_str_str, kb_str_tuple, kb_str_list, kb_tuple_bool, kb_tuple_int, kb_tuple_str, kb_tuple_tuple, kb_tuple_list, kb_list_bool, kb_list_int, kb_list_str, kb_list_tuple, kb_list_list, kb_NoneType_bool, kb_NoneType_int, kb_NoneType_str, kb_NoneType_tuple, kb_NoneType_list, Nat.zero_add, c02, lstAt_setE, Option.map_some, lstAt_set_ne, ne_eq, Nat.reduceEqDiff, Nat.one_ne_zero, Nat.zero_ne_one, ix_1_0, ix_2_0, ix_2_1, ix_3_0, ix_3_1, ix_3_2, ix_4_0, ix_4_1, ix_4_2, ix_4_3, ix_5_0, ix_5_1, ix_5_2, ix_5_3, ix_5_4, ix_6_0, ix_6_1, ix_6_2, ix_6_3, ix_6_4, ix_6_5, Nat.reduceLeDiff, Int.reduceAdd, Int.reduceSub, Int.reduceMul, Int.reduceNeg, Int.reducePow, Int.reduceLT, Int.reduceLE, Int.reduceEq, Int.reduceToNat, Bool.and_true, Bool.true_and, Bool.and_self, Bool.and_false, Bool.false_and, Bool.and_eq_true, Bool.and_eq_false_imp, and_self, WS_qdn, WS_qdr, WS_qde, WS_qdb, WS_qdc, qn1, qn2, qn3, qn4, qn5, qk1, qk5, lq1, lq2, lq3, lq4, lq5, intD_int, items_tup, items_rol, items_loc, listOf_loc, listOf_rol, isL_loc, at0, at1, at2, at3, at4, at5, atl1, atl2, atl3, atl4, lstAt_new, lstAt_h0, lstAt_h1, lstAt_h2, lstAt_h3, it_tup, it_rol, kTup_eq, kLen_eq, wipe0, wipe1, b_nm, b_un, b_nil, b_cnm, b_cun, Option.bind_some, List.set_cons_zero, List.set_cons_succ, List.length_cons, List.length_nil, List.nil_append, List.cons_append, List.append_nil, List.isEmpty_cons, List.isEmpty_nil, true_and, and_true, false_and, and_false, true_implies, forall_const, not_true_eq_false, not_false_eq_true, implies_true, decide_eq_true_eq, decide_eq_false_iff_not, Bool.not_eq_true', Bool.not_eq_false', Bool.not_true, Bool.not_false, if_true, if_false, Bool.false_eq_true, Bool.true_eq_false, reduceCtorEq, false_implies, eq_self]
    exact h as S1 e F1 K1
end
end LW

namespace LW
open PySem PySem.Spec PyProof.Rows L2 DL
section
variable {x : XQ} {Q : D → Store → Prop} {tt : Tg (x, Q)} {S S' S'' : Store} {l : Nat} {c : D}
/-- the middle of three rows of ints -/
def midL : List Int → List Int → List Int → List Int
  | a :: as, b :: bs, c :: cs => midI a b c :: midL as bs cs
  | _, _, _ => []
theorem midL_len : ∀ {as bs cs : List Int}, as.length = bs.length → as.length = cs.length → (midL as bs cs).length = as.length
  | [], _, _, _, _ => rfl
  | a :: as, b :: bs, c :: cs, h, h' => by rw [midL, List.length_cons, midL_len (by simpa using h) (by simpa using h'), List.length_cons]
  | _ :: _, [], _, h, _ => by simp at h
  | _ :: _, _ :: _, [], _, h => by simp at h
theorem midL_comm1 : ∀ (as bs cs : List Int), midL bs as cs = midL as bs cs
  | a :: as, b :: bs, c :: cs => by rw [midL, midL, midI_comm1, midL_comm1 as bs cs]
  | [], [], _ => rfl
  | [], _ :: _, _ => rfl
  | _ :: _, [], _ => rfl
  | _ :: _, _ :: _, [] => rfl
theorem midL_comm2 : ∀ (as bs cs : List Int), midL as cs bs = midL as bs cs
  | a :: as, b :: bs, c :: cs => by rw [midL, midL, midI_comm2, midL_comm2 as bs cs]
  | [], _, _ => rfl
  | _ :: _, [], [] => rfl
  | _ :: _, [], _ :: _ => rfl
  | _ :: _, _ :: _, [] => rfl
theorem midL_same1 : ∀ {as bs : List Int}, as.length = bs.length → midL as as bs = as
  | [], _, _ => rfl
  | a :: as, b :: bs, h => by
    rw [midL, midL_same1 (by simpa using h)]
    congr 1
    unfold midI; omega
  | _ :: _, [], h => by simp at h
def zip3I : List Int → List Int → List Int → List (Int × Int × Int)
  | a :: as, b :: bs, c :: cs => (a, b, c) :: zip3I as bs cs
  | _, _, _ => []
theorem zip3D_ints : ∀ (as bs cs : List Int), zip3D (as.map D.int) (bs.map D.int) (cs.map D.int) = (zip3I as bs cs).map fun p => .tup [.int p.1, .int p.2.1, .int p.2.2]
  | a :: as, b :: bs, c :: cs => by rw [List.map_cons, List.map_cons, List.map_cons, zip3D, zip3D_ints as bs cs, zip3I]; rfl
  | [], _, _ => rfl
  | _ :: _, [], _ => rfl
  | _ :: _, _ :: _, [] => rfl
theorem midL_zip : ∀ (as bs cs : List Int), midL as bs cs = (zip3I as bs cs).map fun p => midI p.1 p.2.1 p.2.2
  | a :: as, b :: bs, c :: cs => by rw [midL, zip3I, midL_zip as bs cs]; rfl
  | [], _, _ => rfl
  | _ :: _, [], _ => rfl
  | _ :: _, _ :: _, [] => rfl
theorem zip3I_len : ∀ (as bs cs : List Int), (zip3I as bs cs).length ≤ as.length
  | a :: as, b :: bs, c :: cs => by rw [zip3I, List.length_cons, List.length_cons]; have := zip3I_len as bs cs; omega
  | [], _, _ => by simp [zip3I]
  | _ :: _, [], _ => by simp [zip3I]
  | _ :: _, _ :: _, [] => by simp [zip3I]
theorem all2_map {α : Type} {P : D → D → Prop} {f g : α → D} : ∀ {xs : List α} {ys : List D}, All2 P (xs.map f) ys → (∀ a y, P (f a) y → y = g a) → ys = xs.map g
  | [], _, .nil, _ => rfl
  | a :: xs, _, .cons p t, h => by rw [List.map_cons, h _ _ p, all2_map t h]
theorem middle_w {as bs cs : List Int} (hl : as.length ≤ 1000) (h : ∀ S', Ap S S' → Q (.tup ((midL as bs cs).map D.int)) S') : W (x, Q) tt (m_middle_of [.tup (as.map D.int), .tup (bs.map D.int), .tup (cs.map D.int)] S) := by
  simp only [↓reduceIte, ↓W_ok, ↓W_exn, ↓W_var0, ↓W_varS, ↓W_K, ↓W_bin, ↓W_un, ↓W_aNil, ↓W_aCons, ↓W_arg, ↓W_call, ↓W_of, ↓WB_test, ↓tc_bl, ↓WB_tru, ↓trc, ↓WB_and, ↓WB_or, ↓WB_not, ↓W_if, ↓W_andV, ↓W_orV, ↓W_notV, ↓WM_some, ↓WM_none, ↓WO_some, ↓tr_bl, ↓tr_non, ↓tr_int, ↓tr_tup, ↓tr_rol, ↓WS_nx, ↓WS_rt, ↓WS_ct, ↓WS_bk, ↓WS_exn, ↓WS_seq, ↓WS_nil, ↓WS_retN, ↓WS_break, ↓WS_cont, ↓WS_expr, ↓WS_ret, ↓WS_if, ↓WS_set, ↓WS_par, ↓WS_asg, ↓WS_gSet, ↓WS_gN, ↓WS_gC, ↓WS_gUn, ↓WS_gSub, ↓WS_aug, ↓o_add, ↓o_iadd, ↓o_sub, ↓o_neg, ↓o_mul, ↓o_mod, ↓o_div, ↓o_pow, ↓o_addT, ↓o_addS, ↓o_addL, ↓o_lt, ↓o_le, ↓o_gt, ↓o_ge, ↓o_eq, ↓o_ne, ↓o_eqS, ↓o_neS, ↓o_eqB, ↓o_neB, ↓o_eqT, ↓o_neT, ↓o_eqN, ↓o_neN, ↓o_ltT, ↓o_leT, ↓o_is, ↓o_isnot, ↓o_isB, ↓o_isnotB, ↓o_inT, ↓o_ninT, ↓o_inL, ↓o_ninL, ↓o_ixT, ↓o_ixR, ↓o_ixL, ↓o_rev, ↓o_ixS, ↓o_str, ↓o_strS, ↓o_set, ↓o_lenT, ↓o_lenR, ↓o_lenL, ↓o_lenS, ↓o_int, ↓o_intT, ↓o_intF, ↓o_abs, ↓o_max, ↓o_min, ↓o_tuple, ↓o_listXt, ↓o_listXr, ↓o_listXl, ↓o_listXs, ↓o_sortedXt, ↓o_tup0, ↓o_tup1, ↓o_tup2, ↓o_tup3, ↓o_tup4, ↓o_tup5, ↓o_tup6, ↓o_lst0, ↓o_lst1, ↓o_lst2, ↓o_lst3, ↓o_lst4, ↓o_lst5, ↓o_lst6, ↓o_sum, ↓W_meth, ↓o_append, ↓o_extend, ↓o_popAt, ↓W_cut, ↓W_noPart, ↓W_part, ↓o_cutT, ↓o_cutR, ↓o_cutL, ↓W_isi, ↓W_ch, ↓WS_for, ↓WI_iter, ↓WI_range1, ↓WI_range2, ↓WI_range3, ↓WI_enum, ↓WI_zip2, ↓WI_zip3, ↓W_callK, ↓WS_f0, ↓WS_f1, ↓W_alloc, ↓W_ofL, ↓W_comp, ↓WB_yes, ↓W_c0, ↓W_c1, ↓W_listRg, ↓W_tupRg, ↓W_rRange1, ↓W_rRange2, Option.isSome_some, z2_t, z3_t, perm_nil, perm_cons, List.getD_cons_zero, List.getD_cons_succ, o_intT, o_intF, o_intB, o_ixL, o_ixT, beq_self_eq_true, decide_true, decide_false, okEq, okCmp, okIn, D.fits, D.fitsL, D.dep, D.depL, D.eqv, D.eqvL, D.alike, D.alikeL, isBl_bl, isN_non, isN_bl, isN_int, isN_str, isN_tup, isN_rol, isN_loc, Nat.reduceAdd, Nat.reduceSub, Nat.max_self, Nat.min_self, Nat.max_zero, Nat.zero_max, Nat.min_zero, Nat.zero_min, ty_non, ty_bl, ty_int, ty_str, ty_tup, ty_rol, ty_loc, kb_bool_bool, kb_bool_int, kb_bool_str, kb_bool_tuple, kb_bool_list, kb_int_bool, kb_int_int, kb_int_str, kb_int_tuple, kb_int_list, kb_str_bool, kb_str_int, kb_str_str, kb_str_tuple, kb_str_list, kb_tuple_bool, kb_tuple_int, kb_tuple_str, kb_tuple_tuple, kb_tuple_list, kb_list_bool, kb_list_int, kb_list_str, kb_list_tuple, kb_list_list, kb_NoneType_bool, kb_NoneType_int, kb_NoneType_str, kb_NoneType_tuple, kb_NoneType_list, Nat.zero_add, c02, lstAt_setE, Option.map_some, lstAt_set_ne, ne_eq, Nat.reduceEqDiff, Nat.one_ne_zero, Nat.zero_ne_one, ix_1_0, ix_2_0, ix_2_1, ix_3_0, ix_3_1, ix_3_2, ix_4_0, ix_4_1, ix_4_2, ix_4_3, ix_5_0, ix_5_1, ix_5_2, ix_5_3, ix_5_4, ix_6_0, ix_6_1, ix_6_2, ix_6_3, ix_6_4, ix_6_5, Nat.reduceLeDiff, Int.reduceAdd, Int.reduceSub, Int.reduceMul, Int.reduceNeg, Int.reducePow, Int.reduceLT, Int.reduceLE, Int.reduceEq, Int.reduceToNat, Bool.and_true, Bool.true_and, Bool.and_self, Bool.and_false, Bool.false_and, Bool.and_eq_true, Bool.and_eq_false_imp, and_self, WS_qdn, WS_qdr, WS_qde, WS_qdb, WS_qdc, qn1, qn2, qn3, qn4, qn5, qk1, qk5, lq1, lq2, lq3, lq4, lq5, intD_int, items_tup, items_rol, items_loc, listOf_loc, listOf_rol, isL_loc, at0, at1, at2, at3, at4, at5, atl1, atl2, atl3, atl4, lstAt_new, lstAt_h0, lstAt_h1, lstAt_h2, lstAt_h3, it_tup, it_rol, kTup_eq, kLen_eq, wipe0, wipe1, b_nm, b_un, b_nil, b_cnm, b_cun, Option.bind_some, List.set_cons_zero, List.set_cons_succ, List.length_cons, List.length_nil, List.nil_append, List.cons_append, List.append_nil, List.isEmpty_cons, List.isEmpty_nil, true_and, and_true, false_and, and_false, true_implies, forall_const, not_true_eq_false, not_false_eq_true, implies_true, decide_eq_true_eq, decide_eq_false_iff_not, Bool.not_eq_true', Bool.not_eq_false', Bool.not_true, Bool.not_false, if_true, if_false, Bool.false_eq_true, Bool.true_eq_false, reduceCtorEq, false_implies, eq_self, wm_middle_of, b_middle_of, zip3D_ints]
  refine W_cMap (fun d y => ∃ a b c : Int, d = .tup [.int a, .int b, .int c] ∧ y = .int (midI a b c)) (fun S' => Ap S S') (Ap.refl _) (by rw [sizeLine_eq, List.length_map]; have := zip3I_len as bs cs; simp; omega) (fun _ _ => trivial) ?_ ?_
  · rintro d S1 hd A1
    obtain ⟨p, hp, rfl⟩ := List.mem_map.mp hd
    obtain ⟨a, b, c⟩ := p
    have e1 : [D.int a, D.int b, D.int c] = [a, b, c].map D.int := rfl
    obtain ⟨u, v, e2⟩ := sort3 a b c
    simp only [↓reduceIte, ↓W_ok, ↓W_exn, ↓W_var0, ↓W_varS, ↓W_K, ↓W_bin, ↓W_un, ↓W_aNil, ↓W_aCons, ↓W_arg, ↓W_call, ↓W_of, ↓WB_test, ↓tc_bl, ↓WB_tru, ↓trc, ↓WB_and, ↓WB_or, ↓WB_not, ↓W_if, ↓W_andV, ↓W_orV, ↓W_notV, ↓WM_some, ↓WM_none, ↓WO_some, ↓tr_bl, ↓tr_non, ↓tr_int, ↓tr_tup, ↓tr_rol, ↓WS_nx, ↓WS_rt, ↓WS_ct, ↓WS_bk, ↓WS_exn, ↓WS_seq, ↓WS_nil, ↓WS_retN, ↓WS_break, ↓WS_cont, ↓WS_expr, ↓WS_ret, ↓WS_if, ↓WS_set, ↓WS_par, ↓WS_asg, ↓WS_gSet, ↓WS_gN, ↓WS_gC, ↓WS_gUn, ↓WS_gSub, ↓WS_aug, ↓o_add, ↓o_iadd, ↓o_sub, ↓o_neg, ↓o_mul, ↓o_mod, ↓o_div, ↓o_pow, ↓o_addT, ↓o_addS, ↓o_addL, ↓o_lt, ↓o_le, ↓o_gt, ↓o_ge, ↓o_eq, ↓o_ne, ↓o_eqS, ↓o_neS, ↓o_eqB, ↓o_neB, ↓o_eqT, ↓o_neT, ↓o_eqN, ↓o_neN, ↓o_ltT, ↓o_leT, ↓o_is, ↓o_isnot, ↓o_isB, ↓o_isnotB, ↓o_inT, ↓o_ninT, ↓o_inL, ↓o_ninL, ↓o_ixT, ↓o_ixR, ↓o_ixL, ↓o_rev, ↓o_ixS, ↓o_str, ↓o_strS, ↓o_set, ↓o_lenT, ↓o_lenR, ↓o_lenL, ↓o_lenS, ↓o_int, ↓o_intT, ↓o_intF, ↓o_abs, ↓o_max, ↓o_min, ↓o_tuple, ↓o_listXt, ↓o_listXr, ↓o_listXl, ↓o_listXs, ↓o_sortedXt, ↓o_tup0, ↓o_tup1, ↓o_tup2, ↓o_tup3, ↓o_tup4, ↓o_tup5, ↓o_tup6, ↓o_lst0, ↓o_lst1, ↓o_lst2, ↓o_lst3, ↓o_lst4, ↓o_lst5, ↓o_lst6, ↓o_sum, ↓W_meth, ↓o_append, ↓o_extend, ↓o_popAt, ↓W_cut, ↓W_noPart, ↓W_part, ↓o_cutT, ↓o_cutR, ↓o_cutL, ↓W_isi, ↓W_ch, ↓WS_for, ↓WI_iter, ↓WI_range1, ↓WI_range2, ↓WI_range3, ↓WI_enum, ↓WI_zip2, ↓WI_zip3, ↓W_callK, ↓WS_f0, ↓WS_f1, ↓W_alloc, ↓W_ofL, ↓W_comp, ↓WB_yes, ↓W_c0, ↓W_c1, ↓W_listRg, ↓W_tupRg, ↓W_rRange1, ↓W_rRange2, Option.isSome_some, z2_t, z3_t, perm_nil, perm_cons, List.getD_cons_zero, List.getD_cons_succ, o_intT, o_intF, o_intB, o_ixL, o_ixT, beq_self_eq_true, decide_true, decide_false, okEq, okCmp, okIn, D.fits, D.fitsL, D.dep, D.depL, D.eqv, D.eqvL, D.alike, D.alikeL, isBl_bl, isN_non, isN_bl, isN_int, isN_str, isN_tup, isN_rol, isN_loc, Nat.reduceAdd, Nat.reduceSub, Nat.max_self, Nat.min_self, Nat.max_zero, Nat.zero_max, Nat.min_zero, Nat.zero_min, ty_non, ty_bl, ty_int, ty_str, ty_tup, ty_rol, ty_loc, kb_bool_bool, kb_bool_int, kb_bool_str, kb_bool_tuple, kb_bool_list, kb_int_bool, kb_int_int, kb_int_str, kb_int_tuple, kb_int_list, kb_str_bool, kb_str_int, kb_str_str, kb_str_tuple, kb_str_list, kb_tuple_bool, kb_tuple_int, kb_tuple_str, kb_tuple_tuple, kb_tuple_list, kb_list_bool, kb_list_int, kb_list_str, kb_list_tuple, kb_list_list, kb_NoneType_bool, kb_NoneType_int, kb_NoneType_str, kb_NoneType_tuple, kb_NoneType_list, Nat.zero_add, c02, lstAt_setE, Option.map_some, lstAt_set_ne, ne_eq, Nat.reduceEqDiff, Nat.one_ne_zero, Nat.zero_ne_one, ix_1_0, ix_2_0, ix_2_1, ix_3_0, ix_3_1, ix_3_2, ix_4_0, ix_4_1, ix_4_2, ix_4_3, ix_5_0, ix_5_1, ix_5_2, ix_5_3, ix_5_4, ix_6_0, ix_6_1, ix_6_2, ix_6_3, ix_6_4, ix_6_5, Nat.reduceLeDiff, Int.reduceAdd, Int.reduceSub, Int.reduceMul, Int.reduceNeg, Int.reducePow, Int.reduceLT, Int.reduceLE, Int.reduceEq, Int.reduceToNat, Bool.and_true, Bool.true_and, Bool.and_self, Bool.and_false, Bool.false_and, Bool.and_eq_true, Bool.and_eq_false_imp, and_self, WS_qdn, WS_qdr, WS_qde, WS_qdb, WS_qdc, qn1, qn2, qn3, qn4, qn5, qk1, qk5, lq1, lq2, lq3, lq4, lq5, intD_int, items_tup, items_rol, items_loc, listOf_loc, listOf_rol, isL_loc, at0, at1, at2, at3, at4, at5, atl1, atl2, atl3, atl4, lstAt_new, lstAt_h0, lstAt_h1, lstAt_h2, lstAt_h3, it_tup, it_rol, kTup_eq, kLen_eq, wipe0, wipe1, b_nm, b_un, b_nil, b_cnm, b_cun, Option.bind_some, List.set_cons_zero, List.set_cons_succ, List.length_cons, List.length_nil, List.nil_append, List.cons_append, List.append_nil, List.isEmpty_cons, List.isEmpty_nil, true_and, and_true, false_and, and_false, true_implies, forall_const, not_true_eq_false, not_false_eq_true, implies_true, decide_eq_true_eq, decide_eq_false_iff_not, Bool.not_eq_true', Bool.not_eq_false', Bool.not_true, Bool.not_false, if_true, if_false, Bool.false_eq_true, Bool.true_eq_false, reduceCtorEq, false_implies, eq_self]
    rw [e1]
    refine ⟨okSort_ints _, ?_⟩
    rw [sortD_ints, e2]
    simp only [↓reduceIte, ↓W_ok, ↓W_exn, ↓W_var0, ↓W_varS, ↓W_K, ↓W_bin, ↓W_un, ↓W_aNil, ↓W_aCons, ↓W_arg, ↓W_call, ↓W_of, ↓WB_test, ↓tc_bl, ↓WB_tru, ↓trc, ↓WB_and, ↓WB_or, ↓WB_not, ↓W_if, ↓W_andV, ↓W_orV, ↓W_notV, ↓WM_some, ↓WM_none, ↓WO_some, ↓tr_bl, ↓tr_non, ↓tr_int, ↓tr_tup, ↓tr_rol, ↓WS_nx, ↓WS_rt, ↓WS_ct, ↓WS_bk, ↓WS_exn, ↓WS_seq, ↓WS_nil, ↓WS_retN, ↓WS_break, ↓WS_cont, ↓WS_expr, ↓WS_ret, ↓WS_if, ↓WS_set, ↓WS_par, ↓WS_asg, ↓WS_gSet, ↓WS_gN, ↓WS_gC, ↓WS_gUn, ↓WS_gSub, ↓WS_aug, ↓o_add, ↓o_iadd, ↓o_sub, ↓o_neg, ↓o_mul, ↓o_mod, ↓o_div, ↓o_pow, ↓o_addT, ↓o_addS, ↓o_addL, ↓o_lt, ↓o_le, ↓o_gt, ↓o_ge, ↓o_eq, ↓o_ne, ↓o_eqS, ↓o_neS, ↓o_eqB, ↓o_neB, ↓o_eqT, ↓o_neT, ↓o_eqN, ↓o_neN, ↓o_ltT, ↓o_leT, ↓o_is, ↓o_isnot, ↓o_isB, ↓o_isnotB, ↓o_inT, ↓o_ninT, ↓o_inL, ↓o_ninL, ↓o_ixT, ↓o_ixR, ↓o_ixL, ↓o_rev, ↓o_ixS, ↓o_str, ↓o_strS, ↓o_set, ↓o_lenT, ↓o_lenR, ↓o_lenL, ↓o_lenS, ↓o_int, ↓o_intT, ↓o_intF, ↓o_abs, ↓o_max, ↓o_min, ↓o_tuple, ↓o_listXt, ↓o_listXr, ↓o_listXl, ↓o_listXs, ↓o_sortedXt, ↓o_tup0, ↓o_tup1, ↓o_tup2, ↓o_tup3, ↓o_tup4, ↓o_tup5, ↓o_tup6, ↓o_lst0, ↓o_lst1, ↓o_lst2, ↓o_lst3, ↓o_lst4, ↓o_lst5, ↓o_lst6, ↓o_sum, ↓W_meth, ↓o_append, ↓o_extend, ↓o_popAt, ↓W_cut, ↓W_noPart, ↓W_part, ↓o_cutT, ↓o_cutR, ↓o_cutL, ↓W_isi, ↓W_ch, ↓WS_for, ↓WI_iter, ↓WI_range1, ↓WI_range2, ↓WI_range3, ↓WI_enum, ↓WI_zip2, ↓WI_zip3, ↓W_callK, ↓WS_f0, ↓WS_f1, ↓W_alloc, ↓W_ofL, ↓W_comp, ↓WB_yes, ↓W_c0, ↓W_c1, ↓W_listRg, ↓W_tupRg, ↓W_rRange1, ↓W_rRange2, Option.isSome_some, z2_t, z3_t, perm_nil, perm_cons, List.getD_cons_zero, List.getD_cons_succ, o_intT, o_intF, o_intB, o_ixL, o_ixT, beq_self_eq_true, decide_true, decide_false, okEq, okCmp, okIn, D.fits, D.fitsL, D.dep, D.depL, D.eqv, D.eqvL, D.alike, D.alikeL, isBl_bl, isN_non, isN_bl, isN_int, isN_str, isN_tup, isN_rol, isN_loc, Nat.reduceAdd, Nat.reduceSub, Nat.max_self, Nat.min_self, Nat.max_zero, Nat.zero_max, Nat.min_zero, Nat.zero_min, ty_non, ty_bl, ty_int, ty_str, ty_tup, ty_rol, ty_loc, kb_bool_bool, kb_bool_int, kb_bool_str, kb_bool_tuple, kb_bool_list, kb_int_bool, kb_int_int, kb_int_str, kb_int_tuple, kb_int_list, kb_str_bool, kb_str_int, kb_str_str, kb_str_tuple, kb_str_list, kb_tuple_bool, kb_tuple_int, kb_tuple_str, kb_tuple_tuple, kb_tuple_list, kb_list_bool, kb_list_int, kb_list_str, kb_list_tuple, kb_list_list, kb_NoneType_bool, kb_NoneType_int, kb_NoneType_str, kb_NoneType_tuple, kb_NoneType_list, Nat.zero_add, c02, lstAt_setE, Option.map_some, lstAt_set_ne, ne_eq, Nat.reduceEqDiff, Nat.one_ne_zero, Nat.zero_ne_one, ix_1_0, ix_2_0, ix_2_1, ix_3_0, ix_3_1, ix_3_2, ix_4_0, ix_4_1, ix_4_2, ix_4_3, ix_5_0, ix_5_1, ix_5_2, ix_5_3, ix_5_4, ix_6_0, ix_6_1, ix_6_2, ix_6_3, ix_6_4, ix_6_5, Nat.reduceLeDiff, Int.reduceAdd, Int.reduceSub, Int.reduceMul, Int.reduceNeg, Int.reducePow, Int.reduceLT, Int.reduceLE, Int.reduceEq, Int.reduceToNat, Bool.and_true, Bool.true_and, Bool.and_self, Bool.and_false, Bool.false_and, Bool.and_eq_true, Bool.and_eq_false_imp, and_self, WS_qdn, WS_qdr, WS_qde, WS_qdb, WS_qdc, qn1, qn2, qn3, qn4, qn5, qk1, qk5, lq1, lq2, lq3, lq4, lq5, intD_int, items_tup, items_rol, items_loc, listOf_loc, listOf_rol, isL_loc, at0, at1, at2, at3, at4, at5, atl1, atl2, atl3, atl4, lstAt_new, lstAt_h0, lstAt_h1, lstAt_h2, lstAt_h3, it_tup, it_rol, kTup_eq, kLen_eq, wipe0, wipe1, b_nm, b_un, b_nil, b_cnm, b_cun, Option.bind_some, List.set_cons_zero, List.set_cons_succ, List.length_cons, List.length_nil, List.nil_append, List.cons_append, List.append_nil, List.isEmpty_cons, List.isEmpty_nil, true_and, and_true, false_and, and_false, true_implies, forall_const, not_true_eq_false, not_false_eq_true, implies_true, decide_eq_true_eq, decide_eq_false_iff_not, Bool.not_eq_true', Bool.not_eq_false', Bool.not_true, Bool.not_false, if_true, if_false, Bool.false_eq_true, Bool.true_eq_false, reduceCtorEq, false_implies, eq_self, List.map_cons, List.map_nil]
    exact ⟨⟨a, b, c, rfl, rfl⟩, A1.app _⟩
  · rintro ys S1 A1 hy
    have e := all2_map (g := fun p : Int × Int × Int => D.int (midI p.1 p.2.1 p.2.2)) hy fun a y ⟨u, v, w, h1, h2⟩ => by
      cases h1; exact h2
    simp only [↓reduceIte, ↓W_ok, ↓W_exn, ↓W_var0, ↓W_varS, ↓W_K, ↓W_bin, ↓W_un, ↓W_aNil, ↓W_aCons, ↓W_arg, ↓W_call, ↓W_of, ↓WB_test, ↓tc_bl, ↓WB_tru, ↓trc, ↓WB_and, ↓WB_or, ↓WB_not, ↓W_if, ↓W_andV, ↓W_orV, ↓W_notV, ↓WM_some, ↓WM_none, ↓WO_some, ↓tr_bl, ↓tr_non, ↓tr_int, ↓tr_tup, ↓tr_rol, ↓WS_nx, ↓WS_rt, ↓WS_ct, ↓WS_bk, ↓WS_exn, ↓WS_seq, ↓WS_nil, ↓WS_retN, ↓WS_break, ↓WS_cont, ↓WS_expr, ↓WS_ret, ↓WS_if, ↓WS_set, ↓WS_par, ↓WS_asg, ↓WS_gSet, ↓WS_gN, ↓WS_gC, ↓WS_gUn, ↓WS_gSub, ↓WS_aug, ↓o_add, ↓o_iadd, ↓o_sub, ↓o_neg, ↓o_mul, ↓o_mod, ↓o_div, ↓o_pow, ↓o_addT, ↓o_addS, ↓o_addL, ↓o_lt, ↓o_le, ↓o_gt, ↓o_ge, ↓o_eq, ↓o_ne, ↓o_eqS, ↓o_neS, ↓o_eqB, ↓o_neB, ↓o_eqT, ↓o_neT, ↓o_eqN, ↓o_neN, ↓o_ltT, ↓o_leT, ↓o_is, ↓o_isnot, ↓o_isB, ↓o_isnotB, ↓o_inT, ↓o_ninT, ↓o_inL, ↓o_ninL, ↓o_ixT, ↓o_ixR, ↓o_ixL, ↓o_rev, ↓o_ixS, ↓o_str, ↓o_strS, ↓o_set, ↓o_lenT, ↓o_lenR, ↓o_lenL, ↓o_lenS, ↓o_int, ↓o_intT, ↓o_intF, ↓o_abs, ↓o_max, ↓o_min, ↓o_tuple, ↓o_listXt, ↓o_listXr, ↓o_listXl, ↓o_listXs, ↓o_sortedXt, ↓o_tup0, ↓o_tup1, ↓o_tup2, ↓o_tup3, ↓o_tup4, ↓o_tup5, ↓o_tup6, ↓o_lst0, ↓o_lst1, ↓o_lst2, ↓o_lst3, ↓o_lst4, ↓o_lst5, ↓o_lst6, ↓o_sum, ↓W_meth, ↓o_append, ↓o_extend, ↓o_popAt, ↓W_cut, ↓W_noPart, ↓W_part, ↓o_cutT, ↓o_cutR, ↓o_cutL, ↓W_isi, ↓W_ch, ↓WS_for, ↓WI_iter, ↓WI_range1, ↓WI_range2, ↓WI_range3, ↓WI_enum, ↓WI_zip2, ↓WI_zip3, ↓W_callK, ↓WS_f0, ↓WS_f1, ↓W_alloc, ↓W_ofL, ↓W_comp, ↓WB_yes, ↓W_c0, ↓W_c1, ↓W_listRg, ↓W_tupRg, ↓W_rRange1, ↓W_rRange2, Option.isSome_some, z2_t, z3_t, perm_nil, perm_cons, List.getD_cons_zero, List.getD_cons_succ, o_intT, o_intF, o_intB, o_ixL, o_ixT, beq_self_eq_true, decide_true, decide_false, okEq, okCmp, okIn, D.fits, D.fitsL, D.dep, D.depL, D.eqv, D.eqvL, D.alike, D.alikeL, isBl_bl, isN_non, isN_bl, isN_int, isN_str, isN_tup, isN_rol, isN_loc, Nat.reduceAdd, Nat.reduceSub, Nat.max_self, Nat.min_self, Nat.max_zero, Nat.zero_max, Nat.min_zero, Nat.zero_min, ty_non, ty_bl, ty_int, ty_str, ty_tup, ty_rol, ty_loc, kb_bool_bool, kb_bool_int, kb_bool_str, kb_bool_tuple, kb_bool_list, kb_int_bool, kb_int_int, kb_int_str, kb_int_tuple, kb_int_list, kb_str_bool, kb_str_int, kb_str_str, kb_str_tuple, kb_str_list, kb_tuple_bool, kb_tuple_int, kb_tuple_str, kb_tuple_tuple, kb_tuple_list, kb_list_bool, kb_list_int, kb_list_str, kb_list_tuple, kb_list_list, kb_NoneType_bool, kb_NoneType_int, kb_NoneType_str, kb_NoneType_tuple, kb_NoneType_list, Nat.zero_add, c02, lstAt_setE, Option.map_some, lstAt_set_ne, ne_eq, Nat.reduceEqDiff, Nat.one_ne_zero, Nat.zero_ne_one, ix_1_0, ix_2_0, ix_2_1, ix_3_0, ix_3_1, ix_3_2, ix_4_0, ix_4_1, ix_4_2, ix_4_3, ix_5_0, ix_5_1, ix_5_2, ix_5_3, ix_5_4, ix_6_0, ix_6_1, ix_6_2, ix_6_3, ix_6_4, ix_6_5, Nat.reduceLeDiff, Int.reduceAdd, Int.reduceSub, Int.reduceMul, Int.reduceNeg, Int.reducePow, Int.reduceLT, Int.reduceLE, Int.reduceEq, Int.reduceToNat, Bool.and_true, Bool.true_and, Bool.and_self, Bool.and_false, Bool.false_and, Bool.and_eq_true, Bool.and_eq_false_imp, and_self, WS_qdn, WS_qdr, WS_qde, WS_qdb, WS_qdc, qn1, qn2, qn3, qn4, qn5, qk1, qk5, lq1, lq2, lq3, lq4, lq5, intD_int, items_tup, items_rol, items_loc, listOf_loc, listOf_rol, isL_loc, at0, at1, at2, at3, at4, at5, atl1, atl2, atl3, atl4, lstAt_new, lstAt_h0, lstAt_h1, lstAt_h2, lstAt_h3, it_tup, it_rol, kTup_eq, kLen_eq, wipe0, wipe1, b_nm, b_un, b_nil, b_cnm, b_cun, Option.bind_some, List.set_cons_zero, List.set_cons_succ, List.length_cons, List.length_nil, List.nil_append, List.cons_append, List.append_nil, List.isEmpty_cons, List.isEmpty_nil, true_and, and_true, false_and, and_false, true_implies, forall_const, not_true_eq_false, not_false_eq_true, implies_true, decide_eq_true_eq, decide_eq_false_iff_not, Bool.not_eq_true', Bool.not_eq_false', Bool.not_true, Bool.not_false, if_true, if_false, Bool.false_eq_true, Bool.true_eq_false, reduceCtorEq, false_implies, eq_self]
    rw [e]
    have := h S1 A1
    rw [midL_zip, List.map_map] at this
    exact this
theorem middle_l {as bs cs : List Int} (hl : as.length ≤ 1000) (h : ∀ S', Ap S S' → Q (.tup ((midL as bs cs).map D.int)) S') : W (x, Q) tt (m__law_middle [.tup (as.map D.int), .tup (bs.map D.int), .tup (cs.map D.int)] S) := by
  have e : m__law_middle = m_middle_of := by unfold m__law_middle m_middle_of; rfl
  rw [e]
  exact middle_w hl h
end
end LW

namespace LW
open PySem PySem.Spec PyProof.Rows L2 DL
section
variable {x : XQ} {Q : D → Store → Prop} {tt : Tg (x, Q)} {S S' S'' : Store} {l n : Nat} {c : D}
abbrev shD (as : List Int) : D := .tup (as.map D.int)
abbrev Ln := Int × Int × Int
abbrev lnD (p : Ln) : D := .tup [.int p.1, .int p.2.1, .int p.2.2]
def atL (ts : List (List Int)) (i : Int) : List Int := ts.getD i.toNat []
def stepL (ts : List (List Int)) (p : Ln) : List (List Int) := ts ++ [midL (atL ts p.1) (atL ts p.2.1) (atL ts p.2.2)]
def thingsL (ts : List (List Int)) (ls : List Ln) : List (List Int) := ls.foldl stepL ts
/-- each line names things ahead -/
def LnsOk : Nat → List Ln → Prop
  | _, [] => True
  | n, p :: r => (0 ≤ p.1 ∧ p.1 < n) ∧ (0 ≤ p.2.1 ∧ p.2.1 < n) ∧ (0 ≤ p.2.2 ∧ p.2.2 < n) ∧ LnsOk (n + 1) r
theorem LnsOk.app : ∀ {ls : List Ln} {n : Nat} {p : Ln}, LnsOk n ls → (0 ≤ p.1 ∧ p.1 < n + ls.length) → (0 ≤ p.2.1 ∧ p.2.1 < n + ls.length) → (0 ≤ p.2.2 ∧ p.2.2 < n + ls.length) → LnsOk n (ls ++ [p])
  | [], n, p, _, h1, h2, h3 => by simpa [LnsOk] using ⟨h1, h2, h3⟩
  | q :: ls, n, p, h, h1, h2, h3 => by
    obtain ⟨a, b, c, d⟩ := h
    rw [List.length_cons] at h1 h2 h3
    exact ⟨a, b, c, LnsOk.app d (by push_cast at *; omega) (by push_cast at *; omega) (by push_cast at *; omega)⟩
/-- all of one length -/
def AllL (n : Nat) (ts : List (List Int)) : Prop := ∀ t ∈ ts, t.length = n
theorem atL_mem {ts : List (List Int)} {i : Int} (h : 0 ≤ i) (h2 : i < ts.length) : atL ts i ∈ ts := by
  unfold atL
  rw [List.getD_eq_getElem?_getD, List.getElem?_eq_getElem (by omega)]
  exact List.getElem_mem _
theorem atL_at {ts : List (List Int)} {i : Int} (h : 0 ≤ i) (h2 : i < ts.length) : atI (ts.map shD) i = some (shD (atL ts i)) := by
  obtain ⟨d, e1, e2⟩ := atI_of (xs := ts.map shD) h (by rw [List.length_map]; exact h2)
  rw [e2, ← e1, List.getElem?_map]
  unfold atL
  rw [List.getD_eq_getElem?_getD, List.getElem?_eq_getElem (by omega)]
  rfl
theorem AllL.step {ts : List (List Int)} {p : Ln} (h : AllL n ts) (h1 : 0 ≤ p.1 ∧ p.1 < ts.length) (h2 : 0 ≤ p.2.1 ∧ p.2.1 < ts.length) (h3 : 0 ≤ p.2.2 ∧ p.2.2 < ts.length) : AllL n (stepL ts p) := fun t ht => by
  rcases List.mem_append.mp ht with g | g
  · exact h t g
  · rw [List.mem_singleton.mp g]
    have a1 := h _ (atL_mem h1.1 h1.2)
    have a2 := h _ (atL_mem h2.1 h2.2)
    have a3 := h _ (atL_mem h3.1 h3.2)
    rw [midL_len (by omega) (by omega), a1]
theorem things_all : ∀ {ls : List Ln} {ts : List (List Int)}, AllL n ts → LnsOk ts.length ls → AllL n (thingsL ts ls) ∧ (thingsL ts ls).length = ts.length + ls.length
  | [], ts, h, _ => ⟨h, rfl⟩
  | p :: r, ts, h, ⟨a, b, c, d⟩ => by
    have e : (stepL ts p).length = ts.length + 1 := by unfold stepL; simp
    obtain ⟨g1, g2⟩ := things_all (ls := r) (h.step a b c) (by rw [e]; exact d)
    refine ⟨g1, ?_⟩
    show (thingsL (stepL ts p) r).length = _
    rw [g2, e, List.length_cons]; omega
theorem things_w {ts : List (List Int)} {ls : List Ln} (hn : n ≤ 1000) (hA : AllL n ts) (hL : LnsOk ts.length ls) (hz : ts.length + ls.length ≤ 10000) (h : ∀ S', Ap S S' → lstAt S' S.length = some ((thingsL ts ls).map shD) → Q (.loc S.length) S') :
    W (x, Q) tt (m_things_of [.tup (ts.map shD), .tup (ls.map lnD)] S) := by
  simp only [↓reduceIte, ↓W_ok, ↓W_exn, ↓W_var0, ↓W_varS, ↓W_K, ↓W_bin, ↓W_un, ↓W_aNil, ↓W_aCons, ↓W_arg, ↓W_call, ↓W_of, ↓WB_test, ↓tc_bl, ↓WB_tru, ↓trc, ↓WB_and, ↓WB_or, ↓WB_not, ↓W_if, ↓W_andV, ↓W_orV, ↓W_notV, ↓WM_some, ↓WM_none, ↓WO_some, ↓tr_bl, ↓tr_non, ↓tr_int, ↓tr_tup, ↓tr_rol, ↓WS_nx, ↓WS_rt, ↓WS_ct, ↓WS_bk, ↓WS_exn, ↓WS_seq, ↓WS_nil, ↓WS_retN, ↓WS_break, ↓WS_cont, ↓WS_expr, ↓WS_ret, ↓WS_if, ↓WS_set, ↓WS_par, ↓WS_asg, ↓WS_gSet, ↓WS_gN, ↓WS_gC, ↓WS_gUn, ↓WS_gSub, ↓WS_aug, ↓o_add, ↓o_iadd, ↓o_sub, ↓o_neg, ↓o_mul, ↓o_mod, ↓o_div, ↓o_pow, ↓o_addT, ↓o_addS, ↓o_addL, ↓o_lt, ↓o_le, ↓o_gt, ↓o_ge, ↓o_eq, ↓o_ne, ↓o_eqS, ↓o_neS, ↓o_eqB, ↓o_neB, ↓o_eqT, ↓o_neT, ↓o_eqN, ↓o_neN, ↓o_ltT, ↓o_leT, ↓o_is, ↓o_isnot, ↓o_isB, ↓o_isnotB, ↓o_inT, ↓o_ninT, ↓o_inL, ↓o_ninL, ↓o_ixT, ↓o_ixR, ↓o_ixL, ↓o_rev, ↓o_ixS, ↓o_str, ↓o_strS, ↓o_set, ↓o_lenT, ↓o_lenR, ↓o_lenL, ↓o_lenS, ↓o_int, ↓o_intT, ↓o_intF, ↓o_abs, ↓o_max, ↓o_min, ↓o_tuple, ↓o_listXt, ↓o_listXr, ↓o_listXl, ↓o_listXs, ↓o_sortedXt, ↓o_tup0, ↓o_tup1, ↓o_tup2, ↓o_tup3, ↓o_tup4, ↓o_tup5, ↓o_tup6, ↓o_lst0, ↓o_lst1, ↓o_lst2, ↓o_lst3, ↓o_lst4, ↓o_lst5, ↓o_lst6, ↓o_sum, ↓W_meth, ↓o_append, ↓o_extend, ↓o_popAt, ↓W_cut, ↓W_noPart, ↓W_part, ↓o_cutT, ↓o_cutR, ↓o_cutL, ↓W_isi, ↓W_ch, ↓WS_for, ↓WI_iter, ↓WI_range1, ↓WI_range2, ↓WI_range3, ↓WI_enum, ↓WI_zip2, ↓WI_zip3, ↓W_callK, ↓WS_f0, ↓WS_f1, ↓W_alloc, ↓W_ofL, ↓W_comp, ↓WB_yes, ↓W_c0, ↓W_c1, ↓W_listRg, ↓W_tupRg, ↓W_rRange1, ↓W_rRange2, Option.isSome_some, z2_t, z3_t, perm_nil, perm_cons, List.getD_cons_zero, List.getD_cons_succ, o_intT, o_intF, o_intB, o_ixL, o_ixT, beq_self_eq_true, decide_true, decide_false, okEq, okCmp, okIn, D.fits, D.fitsL, D.dep, D.depL, D.eqv, D.eqvL, D.alike, D.alikeL, isBl_bl, isN_non, isN_bl, isN_int, isN_str, isN_tup, isN_rol, isN_loc, Nat.reduceAdd, Nat.reduceSub, Nat.max_self, Nat.min_self, Nat.max_zero, Nat.zero_max, Nat.min_zero, Nat.zero_min, ty_non, ty_bl, ty_int, ty_str, ty_tup, ty_rol, ty_loc, kb_bool_bool, kb_bool_int, kb_bool_str, kb_bool_tuple, kb_bool_list, kb_int_bool, kb_int_int, kb_int_str, kb_int_tuple, kb_int_list, kb_str_bool, kb_str_int, kb_str_str, kb_str_tuple, kb_str_list, kb_tuple_bool, kb_tuple_int, kb_tuple_str, kb_tuple_tuple, kb_tuple_list, kb_list_bool, kb_list_int, kb_list_str, kb_list_tuple, kb_list_list, kb_NoneType_bool, kb_NoneType_int, kb_NoneType_str, kb_NoneType_tuple, kb_NoneType_list, Nat.zero_add, c02, lstAt_setE, Option.map_some, lstAt_set_ne, ne_eq, Nat.reduceEqDiff, Nat.one_ne_zero, Nat.zero_ne_one, ix_1_0, ix_2_0, ix_2_1, ix_3_0, ix_3_1, ix_3_2, ix_4_0, ix_4_1, ix_4_2, ix_4_3, ix_5_0, ix_5_1, ix_5_2, ix_5_3, ix_5_4, ix_6_0, ix_6_1, ix_6_2, ix_6_3, ix_6_4, ix_6_5, Nat.reduceLeDiff, Int.reduceAdd, Int.reduceSub, Int.reduceMul, Int.reduceNeg, Int.reducePow, Int.reduceLT, Int.reduceLE, Int.reduceEq, Int.reduceToNat, Bool.and_true, Bool.true_and, Bool.and_self, Bool.and_false, Bool.false_and, Bool.and_eq_true, Bool.and_eq_false_imp, and_self, WS_qdn, WS_qdr, WS_qde, WS_qdb, WS_qdc, qn1, qn2, qn3, qn4, qn5, qk1, qk5, lq1, lq2, lq3, lq4, lq5, intD_int, items_tup, items_rol, items_loc, listOf_loc, listOf_rol, isL_loc, at0, at1, at2, at3, at4, at5, atl1, atl2, atl3, atl4, lstAt_new, lstAt_h0, lstAt_h1, lstAt_h2, lstAt_h3, it_tup, it_rol, kTup_eq, kLen_eq, wipe0, wipe1, b_nm, b_un, b_nil, b_cnm, b_cun, Option.bind_some, List.set_cons_zero, List.set_cons_succ, List.length_cons, List.length_nil, List.nil_append, List.cons_append, List.append_nil, List.isEmpty_cons, List.isEmpty_nil, true_and, and_true, false_and, and_false, true_implies, forall_const, not_true_eq_false, not_false_eq_true, implies_true, decide_eq_true_eq, decide_eq_false_iff_not, Bool.not_eq_true', Bool.not_eq_false', Bool.not_true, Bool.not_false, if_true, if_false, Bool.false_eq_true, Bool.true_eq_false, reduceCtorEq, false_implies, eq_self, wm_things_of, b_things_of]
  refine WS_loop (fun ds σ S' => ∃ us ms p q r, ds = ms.map lnD ∧ Ap S S' ∧ lstAt S' S.length = some (us.map shD) ∧ AllL n us ∧ LnsOk us.length ms ∧ us.length + ms.length ≤ 10000 ∧ thingsL us ms = thingsL ts ls ∧
    σ = [some (.tup (ts.map shD)), some (.tup (ls.map lnD)), some (.loc S.length), p, q, r]) ⟨ts, ls, _, _, _, rfl, (Ap.refl _).app _, lstAt_new, hA, hL, hz, rfl, rfl⟩ ?_ ?_
  · rintro d r σ S1 ⟨us, ms, p, q, r', hd, A1, h1, h2, h3, h4, h5, rfl⟩
    cases ms with
    | nil => cases hd
    | cons m ms =>
    cases hd
    obtain ⟨a, b, c, d⟩ := h3
    refine ⟨trivial, ?_⟩
    have m1 := h2 _ (atL_mem a.1 a.2)
    simp only [↓reduceIte, ↓W_ok, ↓W_exn, ↓W_var0, ↓W_varS, ↓W_K, ↓W_bin, ↓W_un, ↓W_aNil, ↓W_aCons, ↓W_arg, ↓W_call, ↓W_of, ↓WB_test, ↓tc_bl, ↓WB_tru, ↓trc, ↓WB_and, ↓WB_or, ↓WB_not, ↓W_if, ↓W_andV, ↓W_orV, ↓W_notV, ↓WM_some, ↓WM_none, ↓WO_some, ↓tr_bl, ↓tr_non, ↓tr_int, ↓tr_tup, ↓tr_rol, ↓WS_nx, ↓WS_rt, ↓WS_ct, ↓WS_bk, ↓WS_exn, ↓WS_seq, ↓WS_nil, ↓WS_retN, ↓WS_break, ↓WS_cont, ↓WS_expr, ↓WS_ret, ↓WS_if, ↓WS_set, ↓WS_par, ↓WS_asg, ↓WS_gSet, ↓WS_gN, ↓WS_gC, ↓WS_gUn, ↓WS_gSub, ↓WS_aug, ↓o_add, ↓o_iadd, ↓o_sub, ↓o_neg, ↓o_mul, ↓o_mod, ↓o_div, ↓o_pow, ↓o_addT, ↓o_addS, ↓o_addL, ↓o_lt, ↓o_le, ↓o_gt, ↓o_ge, ↓o_eq, ↓o_ne, ↓o_eqS, ↓o_neS, ↓o_eqB, ↓o_neB, ↓o_eqT, ↓o_neT, ↓o_eqN, ↓o_neN, ↓o_ltT, ↓o_leT, ↓o_is, ↓o_isnot, ↓o_isB, ↓o_isnotB, ↓o_inT, ↓o_ninT, ↓o_inL, ↓o_ninL, ↓o_ixT, ↓o_ixR, ↓o_ixL, ↓o_rev, ↓o_ixS, ↓o_str, ↓o_strS, ↓o_set, ↓o_lenT, ↓o_lenR, ↓o_lenL, ↓o_lenS, ↓o_int, ↓o_intT, ↓o_intF, ↓o_abs, ↓o_max, ↓o_min, ↓o_tuple, ↓o_listXt, ↓o_listXr, ↓o_listXl, ↓o_listXs, ↓o_sortedXt, ↓o_tup0, ↓o_tup1, ↓o_tup2, ↓o_tup3, ↓o_tup4, ↓o_tup5, ↓o_tup6, ↓o_lst0, ↓o_lst1, ↓o_lst2, ↓o_lst3, ↓o_lst4, ↓o_lst5, ↓o_lst6, ↓o_sum, ↓W_meth, ↓o_append, ↓o_extend, ↓o_popAt, ↓W_cut, ↓W_noPart, ↓W_part, ↓o_cutT, ↓o_cutR, ↓o_cutL, ↓W_isi, ↓W_ch, ↓WS_for, ↓WI_iter, ↓WI_range1, ↓WI_range2, ↓WI_range3, ↓WI_enum, ↓WI_zip2, ↓WI_zip3, ↓W_callK, ↓WS_f0, ↓WS_f1, ↓W_alloc, ↓W_ofL, ↓W_comp, ↓WB_yes, ↓W_c0, ↓W_c1, ↓W_listRg, ↓W_tupRg, ↓W_rRange1, ↓W_rRange2, Option.isSome_some, z2_t, z3_t, perm_nil, perm_cons, List.getD_cons_zero, List.getD_cons_succ, o_intT, o_intF, o_intB, o_ixL, o_ixT, beq_self_eq_true, decide_true, decide_false, okEq, okCmp, okIn, D.fits, D.fitsL, D.dep, D.depL, D.eqv, D.eqvL, D.alike, D.alikeL, isBl_bl, isN_non, isN_bl, isN_int, isN_str, isN_tup, isN_rol, isN_loc, Nat.reduceAdd, Nat.reduceSub, Nat.max_self, Nat.min_self, Nat.max_zero, Nat.zero_max, Nat.min_zero, Nat.zero_min, ty_non, ty_bl, ty_int, ty_str, ty_tup, ty_rol, ty_loc, kb_bool_bool, kb_bool_int, kb_bool_str, kb_bool_tuple, kb_bool_list, kb_int_bool, kb_int_int, kb_int_str, kb_int_tuple, kb_int_list, kb_str_bool, kb_str_int, kb_str_str, kb_str_tuple, kb_str_list, kb_tuple_bool, kb_tuple_int, kb_tuple_str, kb_tuple_tuple, kb_tuple_list, kb_list_bool, kb_list_int, kb_list_str, kb_list_tuple, kb_list_list, kb_NoneType_bool, kb_NoneType_int, kb_NoneType_str, kb_NoneType_tuple, kb_NoneType_list, Nat.zero_add, c02, lstAt_setE, Option.map_some, lstAt_set_ne, ne_eq, Nat.reduceEqDiff, Nat.one_ne_zero, Nat.zero_ne_one, ix_1_0, ix_2_0, ix_2_1, ix_3_0, ix_3_1, ix_3_2, ix_4_0, ix_4_1, ix_4_2, ix_4_3, ix_5_0, ix_5_1, ix_5_2, ix_5_3, ix_5_4, ix_6_0, ix_6_1, ix_6_2, ix_6_3, ix_6_4, ix_6_5, Nat.reduceLeDiff, Int.reduceAdd, Int.reduceSub, Int.reduceMul, Int.reduceNeg, Int.reducePow, Int.reduceLT, Int.reduceLE, Int.reduceEq, Int.reduceToNat, Bool.and_true, Bool.true_and, Bool.and_self, Bool.and_false, Bool.false_and, Bool.and_eq_true, Bool.and_eq_false_imp, and_self, WS_qdn, WS_qdr, WS_qde, WS_qdb, WS_qdc, qn1, qn2, qn3, qn4, qn5, qk1, qk5, lq1, lq2, lq3, lq4, lq5, intD_int, items_tup, items_rol, items_loc, listOf_loc, listOf_rol, isL_loc, at0, at1, at2, at3, at4, at5, atl1, atl2, atl3, atl4, lstAt_new, lstAt_h0, lstAt_h1, lstAt_h2, lstAt_h3, it_tup, it_rol, kTup_eq, kLen_eq, wipe0, wipe1, b_nm, b_un, b_nil, b_cnm, b_cun, Option.bind_some, List.set_cons_zero, List.set_cons_succ, List.length_cons, List.length_nil, List.nil_append, List.cons_append, List.append_nil, List.isEmpty_cons, List.isEmpty_nil, true_and, and_true, false_and, and_false, true_implies, forall_const, not_true_eq_false, not_false_eq_true, implies_true, decide_eq_true_eq, decide_eq_false_iff_not, Bool.not_eq_true', Bool.not_eq_false', Bool.not_true, Bool.not_false, if_true, if_false, Bool.false_eq_true, Bool.true_eq_false, reduceCtorEq, false_implies, eq_self, h1, atL_at a.1 a.2, atL_at b.1 b.2, atL_at c.1 c.2]
    refine middle_w (by omega) fun S2 A2 => ?_
    have h1' := A2.lst h1
    simp only [↓reduceIte, ↓W_ok, ↓W_exn, ↓W_var0, ↓W_varS, ↓W_K, ↓W_bin, ↓W_un, ↓W_aNil, ↓W_aCons, ↓W_arg, ↓W_call, ↓W_of, ↓WB_test, ↓tc_bl, ↓WB_tru, ↓trc, ↓WB_and, ↓WB_or, ↓WB_not, ↓W_if, ↓W_andV, ↓W_orV, ↓W_notV, ↓WM_some, ↓WM_none, ↓WO_some, ↓tr_bl, ↓tr_non, ↓tr_int, ↓tr_tup, ↓tr_rol, ↓WS_nx, ↓WS_rt, ↓WS_ct, ↓WS_bk, ↓WS_exn, ↓WS_seq, ↓WS_nil, ↓WS_retN, ↓WS_break, ↓WS_cont, ↓WS_expr, ↓WS_ret, ↓WS_if, ↓WS_set, ↓WS_par, ↓WS_asg, ↓WS_gSet, ↓WS_gN, ↓WS_gC, ↓WS_gUn, ↓WS_gSub, ↓WS_aug, ↓o_add, ↓o_iadd, ↓o_sub, ↓o_neg, ↓o_mul, ↓o_mod, ↓o_div, ↓o_pow, ↓o_addT, ↓o_addS, ↓o_addL, ↓o_lt, ↓o_le, ↓o_gt, ↓o_ge, ↓o_eq, ↓o_ne, ↓o_eqS, ↓o_neS, ↓o_eqB, ↓o_neB, ↓o_eqT, ↓o_neT, ↓o_eqN, ↓o_neN, ↓o_ltT, ↓o_leT, ↓o_is, ↓o_isnot, ↓o_isB, ↓o_isnotB, ↓o_inT, ↓o_ninT, ↓o_inL, ↓o_ninL, ↓o_ixT, ↓o_ixR, ↓o_ixL, ↓o_rev, ↓o_ixS, ↓o_str, ↓o_strS, ↓o_set, ↓o_lenT, ↓o_lenR, ↓o_lenL, ↓o_lenS, ↓o_int, ↓o_intT, ↓o_intF, ↓o_abs, ↓o_max, ↓o_min, ↓o_tuple, ↓o_listXt, ↓o_listXr, ↓o_listXl, ↓o_listXs, ↓o_sortedXt, ↓o_tup0, ↓o_tup1, ↓o_tup2, ↓o_tup3, ↓o_tup4, ↓o_tup5, ↓o_tup6, ↓o_lst0, ↓o_lst1, ↓o_lst2, ↓o_lst3, ↓o_lst4, ↓o_lst5, ↓o_lst6, ↓o_sum, ↓W_meth, ↓o_append, ↓o_extend, ↓o_popAt, ↓W_cut, ↓W_noPart, ↓W_part, ↓o_cutT, ↓o_cutR, ↓o_cutL, ↓W_isi, ↓W_ch, ↓WS_for, ↓WI_iter, ↓WI_range1, ↓WI_range2, ↓WI_range3, ↓WI_enum, ↓WI_zip2, ↓WI_zip3, ↓W_callK, ↓WS_f0, ↓WS_f1, ↓W_alloc, ↓W_ofL, ↓W_comp, ↓WB_yes, ↓W_c0, ↓W_c1, ↓W_listRg, ↓W_tupRg, ↓W_rRange1, ↓W_rRange2, Option.isSome_some, z2_t, z3_t, perm_nil, perm_cons, List.getD_cons_zero, List.getD_cons_succ, o_intT, o_intF, o_intB, o_ixL, o_ixT, beq_self_eq_true, decide_true, decide_false, okEq, okCmp, okIn, D.fits, D.fitsL, D.dep, D.depL, D.eqv, D.eqvL, D.alike, D.alikeL, isBl_bl, isN_non, isN_bl, isN_int, isN_str, isN_tup, isN_rol, isN_loc, Nat.reduceAdd, Nat.reduceSub, Nat.max_self, Nat.min_self, Nat.max_zero, Nat.zero_max, Nat.min_zero, Nat.zero_min, ty_non, ty_bl, ty_int, ty_str, ty_tup, ty_rol, ty_loc, kb_bool_bool, kb_bool_int, kb_bool_str, kb_bool_tuple, kb_bool_list, kb_int_bool, kb_int_int, kb_int_str, kb_int_tuple, kb_int_list, kb_str_bool, kb_str_int, kb_str_str, kb_str_tuple, kb_str_list, kb_tuple_bool, kb_tuple_int, kb_tuple_str, kb_tuple_tuple, kb_tuple_list, kb_list_bool, kb_list_int, kb_list_str, kb_list_tuple, kb_list_list, kb_NoneType_bool, kb_NoneType_int, kb_NoneType_str, kb_NoneType_tuple, kb_NoneType_list, Nat.zero_add, c02, lstAt_setE, Option.map_some, lstAt_set_ne, ne_eq, Nat.reduceEqDiff, Nat.one_ne_zero, Nat.zero_ne_one, ix_1_0, ix_2_0, ix_2_1, ix_3_0, ix_3_1, ix_3_2, ix_4_0, ix_4_1, ix_4_2, ix_4_3, ix_5_0, ix_5_1, ix_5_2, ix_5_3, ix_5_4, ix_6_0, ix_6_1, ix_6_2, ix_6_3, ix_6_4, ix_6_5, Nat.reduceLeDiff, Int.reduceAdd, Int.reduceSub, Int.reduceMul, Int.reduceNeg, Int.reducePow, Int.reduceLT, Int.reduceLE, Int.reduceEq, Int.reduceToNat, Bool.and_true, Bool.true_and, Bool.and_self, Bool.and_false, Bool.false_and, Bool.and_eq_true, Bool.and_eq_false_imp, and_self, WS_qdn, WS_qdr, WS_qde, WS_qdb, WS_qdc, qn1, qn2, qn3, qn4, qn5, qk1, qk5, lq1, lq2, lq3, lq4, lq5, intD_int, items_tup, items_rol, items_loc, listOf_loc, listOf_rol, isL_loc, at0, at1, at2, at3, at4, at5, atl1, atl2, atl3, atl4, lstAt_new, lstAt_h0, lstAt_h1, lstAt_h2, lstAt_h3, it_tup, it_rol, kTup_eq, kLen_eq, wipe0, wipe1, b_nm, b_un, b_nil, b_cnm, b_cun, Option.bind_some, List.set_cons_zero, List.set_cons_succ, List.length_cons, List.length_nil, List.nil_append, List.cons_append, List.append_nil, List.isEmpty_cons, List.isEmpty_nil, true_and, and_true, false_and, and_false, true_implies, forall_const, not_true_eq_false, not_false_eq_true, implies_true, decide_eq_true_eq, decide_eq_false_iff_not, Bool.not_eq_true', Bool.not_eq_false', Bool.not_true, Bool.not_false, if_true, if_false, Bool.false_eq_true, Bool.true_eq_false, reduceCtorEq, false_implies, eq_self, h1']
    rw [List.length_cons] at h4
    have e : (stepL us m).length = us.length + 1 := by unfold stepL; simp
    refine ⟨by rw [sizeLine_eq, List.length_map]; omega, stepL us m, ms, _, _, _, rfl, (A1.trans A2).set (Nat.le_refl _), ?_, h2.step a b c, by rw [e]; exact d, by rw [e]; omega, h5, rfl⟩
    unfold stepL
    rw [List.map_append]; rfl
  · rintro σ S1 ⟨us, ms, p, q, r', hd, A1, h1, h2, h3, h4, h5, rfl⟩
    refine ⟨trivial, ?_⟩
    simp only [↓reduceIte, ↓W_ok, ↓W_exn, ↓W_var0, ↓W_varS, ↓W_K, ↓W_bin, ↓W_un, ↓W_aNil, ↓W_aCons, ↓W_arg, ↓W_call, ↓W_of, ↓WB_test, ↓tc_bl, ↓WB_tru, ↓trc, ↓WB_and, ↓WB_or, ↓WB_not, ↓W_if, ↓W_andV, ↓W_orV, ↓W_notV, ↓WM_some, ↓WM_none, ↓WO_some, ↓tr_bl, ↓tr_non, ↓tr_int, ↓tr_tup, ↓tr_rol, ↓WS_nx, ↓WS_rt, ↓WS_ct, ↓WS_bk, ↓WS_exn, ↓WS_seq, ↓WS_nil, ↓WS_retN, ↓WS_break, ↓WS_cont, ↓WS_expr, ↓WS_ret, ↓WS_if, ↓WS_set, ↓WS_par, ↓WS_asg, ↓WS_gSet, ↓WS_gN, ↓WS_gC, ↓WS_gUn, ↓WS_gSub, ↓WS_aug, ↓o_add, ↓o_iadd, ↓o_sub, ↓o_neg, ↓o_mul, ↓o_mod, ↓o_div, ↓o_pow, ↓o_addT, ↓o_addS, ↓o_addL, ↓o_lt, ↓o_le, ↓o_gt, ↓o_ge, ↓o_eq, ↓o_ne, ↓o_eqS, ↓o_neS, ↓o_eqB, ↓o_neB, ↓o_eqT, ↓o_neT, ↓o_eqN, ↓o_neN, ↓o_ltT, ↓o_leT, ↓o_is, ↓o_isnot, ↓o_isB, ↓o_isnotB, ↓o_inT, ↓o_ninT, ↓o_inL, ↓o_ninL, ↓o_ixT, ↓o_ixR, ↓o_ixL, ↓o_rev, ↓o_ixS, ↓o_str, ↓o_strS, ↓o_set, ↓o_lenT, ↓o_lenR, ↓o_lenL, ↓o_lenS, ↓o_int, ↓o_intT, ↓o_intF, ↓o_abs, ↓o_max, ↓o_min, ↓o_tuple, ↓o_listXt, ↓o_listXr, ↓o_listXl, ↓o_listXs, ↓o_sortedXt, ↓o_tup0, ↓o_tup1, ↓o_tup2, ↓o_tup3, ↓o_tup4, ↓o_tup5, ↓o_tup6, ↓o_lst0, ↓o_lst1, ↓o_lst2, ↓o_lst3, ↓o_lst4, ↓o_lst5, ↓o_lst6, ↓o_sum, ↓W_meth, ↓o_append, ↓o_extend, ↓o_popAt, ↓W_cut, ↓W_noPart, ↓W_part, ↓o_cutT, ↓o_cutR, ↓o_cutL, ↓W_isi, ↓W_ch, ↓WS_for, ↓WI_iter, ↓WI_range1, ↓WI_range2, ↓WI_range3, ↓WI_enum, ↓WI_zip2, ↓WI_zip3, ↓W_callK, ↓WS_f0, ↓WS_f1, ↓W_alloc, ↓W_ofL, ↓W_comp, ↓WB_yes, ↓W_c0, ↓W_c1, ↓W_listRg, ↓W_tupRg, ↓W_rRange1, ↓W_rRange2, Option.isSome_some, z2_t, z3_t, perm_nil, perm_cons, List.getD_cons_zero, List.getD_cons_succ, o_intT, o_intF, o_intB, o_ixL, o_ixT, beq_self_eq_true, decide_true, decide_false, okEq, okCmp, okIn, D.fits, D.fitsL, D.dep, D.depL, D.eqv, D.eqvL, D.alike, D.alikeL, isBl_bl, isN_non, isN_bl, isN_int, isN_str, isN_tup, isN_rol, isN_loc, Nat.reduceAdd, Nat.reduceSub, Nat.max_self, Nat.min_self, Nat.max_zero, Nat.zero_max, Nat.min_zero, Nat.zero_min, ty_non, ty_bl, ty_int, ty_str, ty_tup, ty_rol, ty_loc, kb_bool_bool, kb_bool_int, kb_bool_str, kb_bool_tuple, kb_bool_list, kb_int_bool, kb_int_int, kb_int_str, kb_int_tuple, kb_int_list, kb_str_bool, kb_str_int, kb_str_str, kb_str_tuple, kb_str_list, kb_tuple_bool, kb_tuple_int, kb_tuple_str, kb_tuple_tuple, kb_tuple_list, kb_list_bool, kb_list_int, kb_list_str, kb_list_tuple, kb_list_list, kb_NoneType_bool, kb_NoneType_int, kb_NoneType_str, kb_NoneType_tuple, kb_NoneType_list, Nat.zero_add, c02, lstAt_setE, Option.map_some, lstAt_set_ne, ne_eq, Nat.reduceEqDiff, Nat.one_ne_zero, Nat.zero_ne_one, ix_1_0, ix_2_0, ix_2_1, ix_3_0, ix_3_1, ix_3_2, ix_4_0, ix_4_1, ix_4_2, ix_4_3, ix_5_0, ix_5_1, ix_5_2, ix_5_3, ix_5_4, ix_6_0, ix_6_1, ix_6_2, ix_6_3, ix_6_4, ix_6_5, Nat.reduceLeDiff, Int.reduceAdd, Int.reduceSub, Int.reduceMul, Int.reduceNeg, Int.reducePow, Int.reduceLT, Int.reduceLE, Int.reduceEq, Int.reduceToNat, Bool.and_true, Bool.true_and, Bool.and_self, Bool.and_false, Bool.false_and, Bool.and_eq_true, Bool.and_eq_false_imp, and_self, WS_qdn, WS_qdr, WS_qde, WS_qdb, WS_qdc, qn1, qn2, qn3, qn4, qn5, qk1, qk5, lq1, lq2, lq3, lq4, lq5, intD_int, items_tup, items_rol, items_loc, listOf_loc, listOf_rol, isL_loc, at0, at1, at2, at3, at4, at5, atl1, atl2, atl3, atl4, lstAt_new, lstAt_h0, lstAt_h1, lstAt_h2, lstAt_h3, it_tup, it_rol, kTup_eq, kLen_eq, wipe0, wipe1, b_nm, b_un, b_nil, b_cnm, b_cun, Option.bind_some, List.set_cons_zero, List.set_cons_succ, List.length_cons, List.length_nil, List.nil_append, List.cons_append, List.append_nil, List.isEmpty_cons, List.isEmpty_nil, true_and, and_true, false_and, and_false, true_implies, forall_const, not_true_eq_false, not_false_eq_true, implies_true, decide_eq_true_eq, decide_eq_false_iff_not, Bool.not_eq_true', Bool.not_eq_false', Bool.not_true, Bool.not_false, if_true, if_false, Bool.false_eq_true, Bool.true_eq_false, reduceCtorEq, false_implies, eq_self]
    cases ms with
    | cons m ms => cases hd
    | nil =>
      refine h S1 A1 ?_
      rw [h1, ← h5]; rfl
end
end LW

namespace LW
open PySem PySem.Spec PyProof.Rows L2 DL
section
variable {x : XQ} {Q : D → Store → Prop} {tt : Tg (x, Q)} {S S' S'' : Store} {l n : Nat} {c : D}
abbrev madeL (ts : List (List Int)) (ls : List Ln) (last : Int) : List Int := atL (thingsL ts ls) last
theorem made_w {ts : List (List Int)} {ls : List Ln} {last : Int} (hn : n ≤ 1000) (hA : AllL n ts) (hL : LnsOk ts.length ls) (hz : ts.length + ls.length ≤ 10000) (l0 : 0 ≤ last) (l1 : last < ts.length + ls.length) (h : ∀ S', Ap S S' → Q (shD (madeL ts ls last)) S') :
    W (x, Q) tt (m_made_by [.tup (ts.map shD), .tup [.tup (ls.map lnD), .int last]] S) := by
  simp only [↓reduceIte, ↓W_ok, ↓W_exn, ↓W_var0, ↓W_varS, ↓W_K, ↓W_bin, ↓W_un, ↓W_aNil, ↓W_aCons, ↓W_arg, ↓W_call, ↓W_of, ↓WB_test, ↓tc_bl, ↓WB_tru, ↓trc, ↓WB_and, ↓WB_or, ↓WB_not, ↓W_if, ↓W_andV, ↓W_orV, ↓W_notV, ↓WM_some, ↓WM_none, ↓WO_some, ↓tr_bl, ↓tr_non, ↓tr_int, ↓tr_tup, ↓tr_rol, ↓WS_nx, ↓WS_rt, ↓WS_ct, ↓WS_bk, ↓WS_exn, ↓WS_seq, ↓WS_nil, ↓WS_retN, ↓WS_break, ↓WS_cont, ↓WS_expr, ↓WS_ret, ↓WS_if, ↓WS_set, ↓WS_par, ↓WS_asg, ↓WS_gSet, ↓WS_gN, ↓WS_gC, ↓WS_gUn, ↓WS_gSub, ↓WS_aug, ↓o_add, ↓o_iadd, ↓o_sub, ↓o_neg, ↓o_mul, ↓o_mod, ↓o_div, ↓o_pow, ↓o_addT, ↓o_addS, ↓o_addL, ↓o_lt, ↓o_le, ↓o_gt, ↓o_ge, ↓o_eq, ↓o_ne, ↓o_eqS, ↓o_neS, ↓o_eqB, ↓o_neB, ↓o_eqT, ↓o_neT, ↓o_eqN, ↓o_neN, ↓o_ltT, ↓o_leT, ↓o_is, ↓o_isnot, ↓o_isB, ↓o_isnotB, ↓o_inT, ↓o_ninT, ↓o_inL, ↓o_ninL, ↓o_ixT, ↓o_ixR, ↓o_ixL, ↓o_rev, ↓o_ixS, ↓o_str, ↓o_strS, ↓o_set, ↓o_lenT, ↓o_lenR, ↓o_lenL, ↓o_lenS, ↓o_int, ↓o_intT, ↓o_intF, ↓o_abs, ↓o_max, ↓o_min, ↓o_tuple, ↓o_listXt, ↓o_listXr, ↓o_listXl, ↓o_listXs, ↓o_sortedXt, ↓o_tup0, ↓o_tup1, ↓o_tup2, ↓o_tup3, ↓o_tup4, ↓o_tup5, ↓o_tup6, ↓o_lst0, ↓o_lst1, ↓o_lst2, ↓o_lst3, ↓o_lst4, ↓o_lst5, ↓o_lst6, ↓o_sum, ↓W_meth, ↓o_append, ↓o_extend, ↓o_popAt, ↓W_cut, ↓W_noPart, ↓W_part, ↓o_cutT, ↓o_cutR, ↓o_cutL, ↓W_isi, ↓W_ch, ↓WS_for, ↓WI_iter, ↓WI_range1, ↓WI_range2, ↓WI_range3, ↓WI_enum, ↓WI_zip2, ↓WI_zip3, ↓W_callK, ↓WS_f0, ↓WS_f1, ↓W_alloc, ↓W_ofL, ↓W_comp, ↓WB_yes, ↓W_c0, ↓W_c1, ↓W_listRg, ↓W_tupRg, ↓W_rRange1, ↓W_rRange2, Option.isSome_some, z2_t, z3_t, perm_nil, perm_cons, List.getD_cons_zero, List.getD_cons_succ, o_intT, o_intF, o_intB, o_ixL, o_ixT, beq_self_eq_true, decide_true, decide_false, okEq, okCmp, okIn, D.fits, D.fitsL, D.dep, D.depL, D.eqv, D.eqvL, D.alike, D.alikeL, isBl_bl, isN_non, isN_bl, isN_int, isN_str, isN_tup, isN_rol, isN_loc, Nat.reduceAdd, Nat.reduceSub, Nat.max_self, Nat.min_self, Nat.max_zero, Nat.zero_max, Nat.min_zero, Nat.zero_min, ty_non, ty_bl, ty_int, ty_str, ty_tup, ty_rol, ty_loc, kb_bool_bool, kb_bool_int, kb_bool_str, kb_bool_tuple, kb_bool_list, kb_int_bool, kb_int_int, kb_int_str, kb_int_tuple, kb_int_list, kb_str_bool, kb_str_int, kb_str_str, kb_str_tuple, kb_str_list, kb_tuple_bool, kb_tuple_int, kb_tuple_str, kb_tuple_tuple, kb_tuple_list, kb_list_bool, kb_list_int, kb_list_str, kb_list_tuple, kb_list_list, kb_NoneType_bool, kb_NoneType_int, kb_NoneType_str, kb_NoneType_tuple, kb_NoneType_list, Nat.zero_add, c02, lstAt_setE, Option.map_some, lstAt_set_ne, ne_eq, Nat.reduceEqDiff, Nat.one_ne_zero, Nat.zero_ne_one, ix_1_0, ix_2_0, ix_2_1, ix_3_0, ix_3_1, ix_3_2, ix_4_0, ix_4_1, ix_4_2, ix_4_3, ix_5_0, ix_5_1, ix_5_2, ix_5_3, ix_5_4, ix_6_0, ix_6_1, ix_6_2, ix_6_3, ix_6_4, ix_6_5, Nat.reduceLeDiff, Int.reduceAdd, Int.reduceSub, Int.reduceMul, Int.reduceNeg, Int.reducePow, Int.reduceLT, Int.reduceLE, Int.reduceEq, Int.reduceToNat, Bool.and_true, Bool.true_and, Bool.and_self, Bool.and_false, Bool.false_and, Bool.and_eq_true, Bool.and_eq_false_imp, and_self, WS_qdn, WS_qdr, WS_qde, WS_qdb, WS_qdc, qn1, qn2, qn3, qn4, qn5, qk1, qk5, lq1, lq2, lq3, lq4, lq5, intD_int, items_tup, items_rol, items_loc, listOf_loc, listOf_rol, isL_loc, nd_non, nd_bl, nd_int, nd_str, nd_tup, nd_rol, noDct_loc, at0, at1, at2, at3, at4, at5, atl1, atl2, atl3, atl4, lstAt_new, lstAt_h0, lstAt_h1, lstAt_h2, lstAt_h3, it_tup, it_rol, kTup_eq, kLen_eq, wipe0, wipe1, b_nm, b_un, b_nil, b_cnm, b_cun, Option.bind_some, List.set_cons_zero, List.set_cons_succ, List.length_cons, List.length_nil, List.nil_append, List.cons_append, List.append_nil, List.isEmpty_cons, List.isEmpty_nil, true_and, and_true, false_and, and_false, true_implies, forall_const, not_true_eq_false, not_false_eq_true, implies_true, decide_eq_true_eq, decide_eq_false_iff_not, Bool.not_eq_true', Bool.not_eq_false', Bool.not_true, Bool.not_false, if_true, if_false, Bool.false_eq_true, Bool.true_eq_false, reduceCtorEq, false_implies, eq_self, wm_made_by, b_made_by]
  refine things_w hn hA hL hz fun S1 A1 h1 => ?_
  have := (things_all hA hL).2
  simp only [↓reduceIte, ↓W_ok, ↓W_exn, ↓W_var0, ↓W_varS, ↓W_K, ↓W_bin, ↓W_un, ↓W_aNil, ↓W_aCons, ↓W_arg, ↓W_call, ↓W_of, ↓WB_test, ↓tc_bl, ↓WB_tru, ↓trc, ↓WB_and, ↓WB_or, ↓WB_not, ↓W_if, ↓W_andV, ↓W_orV, ↓W_notV, ↓WM_some, ↓WM_none, ↓WO_some, ↓tr_bl, ↓tr_non, ↓tr_int, ↓tr_tup, ↓tr_rol, ↓WS_nx, ↓WS_rt, ↓WS_ct, ↓WS_bk, ↓WS_exn, ↓WS_seq, ↓WS_nil, ↓WS_retN, ↓WS_break, ↓WS_cont, ↓WS_expr, ↓WS_ret, ↓WS_if, ↓WS_set, ↓WS_par, ↓WS_asg, ↓WS_gSet, ↓WS_gN, ↓WS_gC, ↓WS_gUn, ↓WS_gSub, ↓WS_aug, ↓o_add, ↓o_iadd, ↓o_sub, ↓o_neg, ↓o_mul, ↓o_mod, ↓o_div, ↓o_pow, ↓o_addT, ↓o_addS, ↓o_addL, ↓o_lt, ↓o_le, ↓o_gt, ↓o_ge, ↓o_eq, ↓o_ne, ↓o_eqS, ↓o_neS, ↓o_eqB, ↓o_neB, ↓o_eqT, ↓o_neT, ↓o_eqN, ↓o_neN, ↓o_ltT, ↓o_leT, ↓o_is, ↓o_isnot, ↓o_isB, ↓o_isnotB, ↓o_inT, ↓o_ninT, ↓o_inL, ↓o_ninL, ↓o_ixT, ↓o_ixR, ↓o_ixL, ↓o_rev, ↓o_ixS, ↓o_str, ↓o_strS, ↓o_set, ↓o_lenT, ↓o_lenR, ↓o_lenL, ↓o_lenS, ↓o_int, ↓o_intT, ↓o_intF, ↓o_abs, ↓o_max, ↓o_min, ↓o_tuple, ↓o_listXt, ↓o_listXr, ↓o_listXl, ↓o_listXs, ↓o_sortedXt, ↓o_tup0, ↓o_tup1, ↓o_tup2, ↓o_tup3, ↓o_tup4, ↓o_tup5, ↓o_tup6, ↓o_lst0, ↓o_lst1, ↓o_lst2, ↓o_lst3, ↓o_lst4, ↓o_lst5, ↓o_lst6, ↓o_sum, ↓W_meth, ↓o_append, ↓o_extend, ↓o_popAt, ↓W_cut, ↓W_noPart, ↓W_part, ↓o_cutT, ↓o_cutR, ↓o_cutL, ↓W_isi, ↓W_ch, ↓WS_for, ↓WI_iter, ↓WI_range1, ↓WI_range2, ↓WI_range3, ↓WI_enum, ↓WI_zip2, ↓WI_zip3, ↓W_callK, ↓WS_f0, ↓WS_f1, ↓W_alloc, ↓W_ofL, ↓W_comp, ↓WB_yes, ↓W_c0, ↓W_c1, ↓W_listRg, ↓W_tupRg, ↓W_rRange1, ↓W_rRange2, Option.isSome_some, z2_t, z3_t, perm_nil, perm_cons, List.getD_cons_zero, List.getD_cons_succ, o_intT, o_intF, o_intB, o_ixL, o_ixT, beq_self_eq_true, decide_true, decide_false, okEq, okCmp, okIn, D.fits, D.fitsL, D.dep, D.depL, D.eqv, D.eqvL, D.alike, D.alikeL, isBl_bl, isN_non, isN_bl, isN_int, isN_str, isN_tup, isN_rol, isN_loc, Nat.reduceAdd, Nat.reduceSub, Nat.max_self, Nat.min_self, Nat.max_zero, Nat.zero_max, Nat.min_zero, Nat.zero_min, ty_non, ty_bl, ty_int, ty_str, ty_tup, ty_rol, ty_loc, kb_bool_bool, kb_bool_int, kb_bool_str, kb_bool_tuple, kb_bool_list, kb_int_bool, kb_int_int, kb_int_str, kb_int_tuple, kb_int_list, kb_str_bool, kb_str_int, kb_str_str, kb_str_tuple, kb_str_list, kb_tuple_bool, kb_tuple_int, kb_tuple_str, kb_tuple_tuple, kb_tuple_list, kb_list_bool, kb_list_int, kb_list_str, kb_list_tuple, kb_list_list, kb_NoneType_bool, kb_NoneType_int, kb_NoneType_str, kb_NoneType_tuple, kb_NoneType_list, Nat.zero_add, c02, lstAt_setE, Option.map_some, lstAt_set_ne, ne_eq, Nat.reduceEqDiff, Nat.one_ne_zero, Nat.zero_ne_one, ix_1_0, ix_2_0, ix_2_1, ix_3_0, ix_3_1, ix_3_2, ix_4_0, ix_4_1, ix_4_2, ix_4_3, ix_5_0, ix_5_1, ix_5_2, ix_5_3, ix_5_4, ix_6_0, ix_6_1, ix_6_2, ix_6_3, ix_6_4, ix_6_5, Nat.reduceLeDiff, Int.reduceAdd, Int.reduceSub, Int.reduceMul, Int.reduceNeg, Int.reducePow, Int.reduceLT, Int.reduceLE, Int.reduceEq, Int.reduceToNat, Bool.and_true, Bool.true_and, Bool.and_self, Bool.and_false, Bool.false_and, Bool.and_eq_true, Bool.and_eq_false_imp, and_self, WS_qdn, WS_qdr, WS_qde, WS_qdb, WS_qdc, qn1, qn2, qn3, qn4, qn5, qk1, qk5, lq1, lq2, lq3, lq4, lq5, intD_int, items_tup, items_rol, items_loc, listOf_loc, listOf_rol, isL_loc, nd_non, nd_bl, nd_int, nd_str, nd_tup, nd_rol, noDct_loc, at0, at1, at2, at3, at4, at5, atl1, atl2, atl3, atl4, lstAt_new, lstAt_h0, lstAt_h1, lstAt_h2, lstAt_h3, it_tup, it_rol, kTup_eq, kLen_eq, wipe0, wipe1, b_nm, b_un, b_nil, b_cnm, b_cun, Option.bind_some, List.set_cons_zero, List.set_cons_succ, List.length_cons, List.length_nil, List.nil_append, List.cons_append, List.append_nil, List.isEmpty_cons, List.isEmpty_nil, true_and, and_true, false_and, and_false, true_implies, forall_const, not_true_eq_false, not_false_eq_true, implies_true, decide_eq_true_eq, decide_eq_false_iff_not, Bool.not_eq_true', Bool.not_eq_false', Bool.not_true, Bool.not_false, if_true, if_false, Bool.false_eq_true, Bool.true_eq_false, reduceCtorEq, false_implies, eq_self, h1, atL_at (ts := thingsL ts ls) l0 (by omega)]
  exact h S1 A1
theorem made_l {ts : List (List Int)} {ls : List Ln} {last : Int} (hn : n ≤ 1000) (hA : AllL n ts) (hL : LnsOk ts.length ls) (hz : ts.length + ls.length ≤ 10000) (l0 : 0 ≤ last) (l1 : last < ts.length + ls.length) (h : ∀ S', Ap S S' → Q (shD (madeL ts ls last)) S') :
    W (x, Q) tt (m__law_made [.tup (ts.map shD), .tup (ls.map lnD), .int last] S) := by
  simp only [↓reduceIte, ↓W_ok, ↓W_exn, ↓W_var0, ↓W_varS, ↓W_K, ↓W_bin, ↓W_un, ↓W_aNil, ↓W_aCons, ↓W_arg, ↓W_call, ↓W_of, ↓WB_test, ↓tc_bl, ↓WB_tru, ↓trc, ↓WB_and, ↓WB_or, ↓WB_not, ↓W_if, ↓W_andV, ↓W_orV, ↓W_notV, ↓WM_some, ↓WM_none, ↓WO_some, ↓tr_bl, ↓tr_non, ↓tr_int, ↓tr_tup, ↓tr_rol, ↓WS_nx, ↓WS_rt, ↓WS_ct, ↓WS_bk, ↓WS_exn, ↓WS_seq, ↓WS_nil, ↓WS_retN, ↓WS_break, ↓WS_cont, ↓WS_expr, ↓WS_ret, ↓WS_if, ↓WS_set, ↓WS_par, ↓WS_asg, ↓WS_gSet, ↓WS_gN, ↓WS_gC, ↓WS_gUn, ↓WS_gSub, ↓WS_aug, ↓o_add, ↓o_iadd, ↓o_sub, ↓o_neg, ↓o_mul, ↓o_mod, ↓o_div, ↓o_pow, ↓o_addT, ↓o_addS, ↓o_addL, ↓o_lt, ↓o_le, ↓o_gt, ↓o_ge, ↓o_eq, ↓o_ne, ↓o_eqS, ↓o_neS, ↓o_eqB, ↓o_neB, ↓o_eqT, ↓o_neT, ↓o_eqN, ↓o_neN, ↓o_ltT, ↓o_leT, ↓o_is, ↓o_isnot, ↓o_isB, ↓o_isnotB, ↓o_inT, ↓o_ninT, ↓o_inL, ↓o_ninL, ↓o_ixT, ↓o_ixR, ↓o_ixL, ↓o_rev, ↓o_ixS, ↓o_str, ↓o_strS, ↓o_set, ↓o_lenT, ↓o_lenR, ↓o_lenL, ↓o_lenS, ↓o_int, ↓o_intT, ↓o_intF, ↓o_abs, ↓o_max, ↓o_min, ↓o_tuple, ↓o_listXt, ↓o_listXr, ↓o_listXl, ↓o_listXs, ↓o_sortedXt, ↓o_tup0, ↓o_tup1, ↓o_tup2, ↓o_tup3, ↓o_tup4, ↓o_tup5, ↓o_tup6, ↓o_lst0, ↓o_lst1, ↓o_lst2, ↓o_lst3, ↓o_lst4, ↓o_lst5, ↓o_lst6, ↓o_sum, ↓W_meth, ↓o_append, ↓o_extend, ↓o_popAt, ↓W_cut, ↓W_noPart, ↓W_part, ↓o_cutT, ↓o_cutR, ↓o_cutL, ↓W_isi, ↓W_ch, ↓WS_for, ↓WI_iter, ↓WI_range1, ↓WI_range2, ↓WI_range3, ↓WI_enum, ↓WI_zip2, ↓WI_zip3, ↓W_callK, ↓WS_f0, ↓WS_f1, ↓W_alloc, ↓W_ofL, ↓W_comp, ↓WB_yes, ↓W_c0, ↓W_c1, ↓W_listRg, ↓W_tupRg, ↓W_rRange1, ↓W_rRange2, Option.isSome_some, z2_t, z3_t, perm_nil, perm_cons, List.getD_cons_zero, List.getD_cons_succ, o_intT, o_intF, o_intB, o_ixL, o_ixT, beq_self_eq_true, decide_true, decide_false, okEq, okCmp, okIn, D.fits, D.fitsL, D.dep, D.depL, D.eqv, D.eqvL, D.alike, D.alikeL, isBl_bl, isN_non, isN_bl, isN_int, isN_str, isN_tup, isN_rol, isN_loc, Nat.reduceAdd, Nat.reduceSub, Nat.max_self, Nat.min_self, Nat.max_zero, Nat.zero_max, Nat.min_zero, Nat.zero_min, ty_non, ty_bl, ty_int, ty_str, ty_tup, ty_rol, ty_loc, kb_bool_bool, kb_bool_int, kb_bool_str, kb_bool_tuple, kb_bool_list, kb_int_bool, kb_int_int, kb_int_str, kb_int_tuple, kb_int_list, kb_str_bool, kb_str_int, kb_str_str, kb_str_tuple, kb_str_list, kb_tuple_bool, kb_tuple_int, kb_tuple_str, kb_tuple_tuple, kb_tuple_list, kb_list_bool, kb_list_int, kb_list_str, kb_list_tuple, kb_list_list, kb_NoneType_bool, kb_NoneType_int, kb_NoneType_str, kb_NoneType_tuple, kb_NoneType_list, Nat.zero_add, c02, lstAt_setE, Option.map_some, lstAt_set_ne, ne_eq, Nat.reduceEqDiff, Nat.one_ne_zero, Nat.zero_ne_one, ix_1_0, ix_2_0, ix_2_1, ix_3_0, ix_3_1, ix_3_2, ix_4_0, ix_4_1, ix_4_2, ix_4_3, ix_5_0, ix_5_1, ix_5_2, ix_5_3, ix_5_4, ix_6_0, ix_6_1, ix_6_2, ix_6_3, ix_6_4, ix_6_5, Nat.reduceLeDiff, Int.reduceAdd, Int.reduceSub, Int.reduceMul, Int.reduceNeg, Int.reducePow, Int.reduceLT, Int.reduceLE, Int.reduceEq, Int.reduceToNat, Bool.and_true, Bool.true_and, Bool.and_self, Bool.and_false, Bool.false_and, Bool.and_eq_true, Bool.and_eq_false_imp, and_self, WS_qdn, WS_qdr, WS_qde, WS_qdb, WS_qdc, qn1, qn2, qn3, qn4, qn5, qk1, qk5, lq1, lq2, lq3, lq4, lq5, intD_int, items_tup, items_rol, items_loc, listOf_loc, listOf_rol, isL_loc, nd_non, nd_bl, nd_int, nd_str, nd_tup, nd_rol, noDct_loc, at0, at1, at2, at3, at4, at5, atl1, atl2, atl3, atl4, lstAt_new, lstAt_h0, lstAt_h1, lstAt_h2, lstAt_h3, it_tup, it_rol, kTup_eq, kLen_eq, wipe0, wipe1, b_nm, b_un, b_nil, b_cnm, b_cun, Option.bind_some, List.set_cons_zero, List.set_cons_succ, List.length_cons, List.length_nil, List.nil_append, List.cons_append, List.append_nil, List.isEmpty_cons, List.isEmpty_nil, true_and, and_true, false_and, and_false, true_implies, forall_const, not_true_eq_false, not_false_eq_true, implies_true, decide_eq_true_eq, decide_eq_false_iff_not, Bool.not_eq_true', Bool.not_eq_false', Bool.not_true, Bool.not_false, if_true, if_false, Bool.false_eq_true, Bool.true_eq_false, reduceCtorEq, false_implies, eq_self, wm__law_made, b__law_made]
  refine WS_loop (fun ds σ S' => ∃ us ms p q r, ds = ms.map lnD ∧ Ap S S' ∧ lstAt S' S.length = some (us.map shD) ∧ AllL n us ∧ LnsOk us.length ms ∧ us.length + ms.length ≤ 10000 ∧ thingsL us ms = thingsL ts ls ∧
    σ = [some (.tup (ts.map shD)), some (.tup (ls.map lnD)), some (.int last), some (.loc S.length), p, q, r]) ⟨ts, ls, _, _, _, rfl, (Ap.refl _).app _, lstAt_new, hA, hL, hz, rfl, rfl⟩ ?_ ?_
  · rintro d r σ S1 ⟨us, ms, p, q, r', hd, A1, h1, h2, h3, h4, h5, rfl⟩
    cases ms with
    | nil => cases hd
    | cons m ms =>
    cases hd
    obtain ⟨a, b, c, d⟩ := h3
    refine ⟨trivial, ?_⟩
    have m1 := h2 _ (atL_mem a.1 a.2)
    simp only [↓reduceIte, ↓W_ok, ↓W_exn, ↓W_var0, ↓W_varS, ↓W_K, ↓W_bin, ↓W_un, ↓W_aNil, ↓W_aCons, ↓W_arg, ↓W_call, ↓W_of, ↓WB_test, ↓tc_bl, ↓WB_tru, ↓trc, ↓WB_and, ↓WB_or, ↓WB_not, ↓W_if, ↓W_andV, ↓W_orV, ↓W_notV, ↓WM_some, ↓WM_none, ↓WO_some, ↓tr_bl, ↓tr_non, ↓tr_int, ↓tr_tup, ↓tr_rol, ↓WS_nx, ↓WS_rt, ↓WS_ct, ↓WS_bk, ↓WS_exn, ↓WS_seq, ↓WS_nil, ↓WS_retN, ↓WS_break, ↓WS_cont, ↓WS_expr, ↓WS_ret, ↓WS_if, ↓WS_set, ↓WS_par, ↓WS_asg, ↓WS_gSet, ↓WS_gN, ↓WS_gC, ↓WS_gUn, ↓WS_gSub, ↓WS_aug, ↓o_add, ↓o_iadd, ↓o_sub, ↓o_neg, ↓o_mul, ↓o_mod, ↓o_div, ↓o_pow, ↓o_addT, ↓o_addS, ↓o_addL, ↓o_lt, ↓o_le, ↓o_gt, ↓o_ge, ↓o_eq, ↓o_ne, ↓o_eqS, ↓o_neS, ↓o_eqB, ↓o_neB, ↓o_eqT, ↓o_neT, ↓o_eqN, ↓o_neN, ↓o_ltT, ↓o_leT, ↓o_is, ↓o_isnot, ↓o_isB, ↓o_isnotB, ↓o_inT, ↓o_ninT, ↓o_inL, ↓o_ninL, ↓o_ixT, ↓o_ixR, ↓o_ixL, ↓o_rev, ↓o_ixS, ↓o_str, ↓o_strS, ↓o_set, ↓o_lenT, ↓o_lenR, ↓o_lenL, ↓o_lenS, ↓o_int, ↓o_intT, ↓o_intF, ↓o_abs, ↓o_max, ↓o_min, ↓o_tuple, ↓o_listXt, ↓o_listXr, ↓o_listXl, ↓o_listXs, ↓o_sortedXt, ↓o_tup0, ↓o_tup1, ↓o_tup2, ↓o_tup3, ↓o_tup4, ↓o_tup5, ↓o_tup6, ↓o_lst0, ↓o_lst1, ↓o_lst2, ↓o_lst3, ↓o_lst4, ↓o_lst5, ↓o_lst6, ↓o_sum, ↓W_meth, ↓o_append, ↓o_extend, ↓o_popAt, ↓W_cut, ↓W_noPart, ↓W_part, ↓o_cutT, ↓o_cutR, ↓o_cutL, ↓W_isi, ↓W_ch, ↓WS_for, ↓WI_iter, ↓WI_range1, ↓WI_range2, ↓WI_range3, ↓WI_enum, ↓WI_zip2, ↓WI_zip3, ↓W_callK, ↓WS_f0, ↓WS_f1, ↓W_alloc, ↓W_ofL, ↓W_comp, ↓WB_yes, ↓W_c0, ↓W_c1, ↓W_listRg, ↓W_tupRg, ↓W_rRange1, ↓W_rRange2, Option.isSome_some, z2_t, z3_t, perm_nil, perm_cons, List.getD_cons_zero, List.getD_cons_succ, o_intT, o_intF, o_intB, o_ixL, o_ixT, beq_self_eq_true, decide_true, decide_false, okEq, okCmp, okIn, D.fits, D.fitsL, D.dep, D.depL, D.eqv, D.eqvL, D.alike, D.alikeL, isBl_bl, isN_non, isN_bl, isN_int, isN_str, isN_tup, isN_rol, isN_loc, Nat.reduceAdd, Nat.reduceSub, Nat.max_self, Nat.min_self, Nat.max_zero, Nat.zero_max, Nat.min_zero, Nat.zero_min, ty_non, ty_bl, ty_int, ty_str, ty_tup, ty_rol, ty_loc, kb_bool_bool, kb_bool_int, kb_bool_str, kb_bool_tuple, kb_bool_list, kb_int_bool, kb_int_int, kb_int_str, kb_int_tuple, kb_int_list, kb_str_bool, kb_str_int, kb_str_str, kb_str_tuple, kb_str_list, kb_tuple_bool, kb_tuple_int, kb_tuple_str, kb_tuple_tuple, kb_tuple_list, kb_list_bool, kb_list_int, kb_list_str, kb_list_tuple, kb_list_list, kb_NoneType_bool, kb_NoneType_int, kb_NoneType_str, kb_NoneType_tuple, kb_NoneType_list, Nat.zero_add, c02, lstAt_setE, Option.map_some, lstAt_set_ne, ne_eq, Nat.reduceEqDiff, Nat.one_ne_zero, Nat.zero_ne_one, ix_1_0, ix_2_0, ix_2_1, ix_3_0, ix_3_1, ix_3_2, ix_4_0, ix_4_1, ix_4_2, ix_4_3, ix_5_0, ix_5_1, ix_5_2, ix_5_3, ix_5_4, ix_6_0, ix_6_1, ix_6_2, ix_6_3, ix_6_4, ix_6_5, Nat.reduceLeDiff, Int.reduceAdd, Int.reduceSub, Int.reduceMul, Int.reduceNeg, Int.reducePow, Int.reduceLT, Int.reduceLE, Int.reduceEq, Int.reduceToNat, Bool.and_true, Bool.true_and, Bool.and_self, Bool.and_false, Bool.false_and, Bool.and_eq_true, Bool.and_eq_false_imp, and_self, WS_qdn, WS_qdr, WS_qde, WS_qdb, WS_qdc, qn1, qn2, qn3, qn4, qn5, qk1, qk5, lq1, lq2, lq3, lq4, lq5, intD_int, items_tup, items_rol, items_loc, listOf_loc, listOf_rol, isL_loc, nd_non, nd_bl, nd_int, nd_str, nd_tup, nd_rol, noDct_loc, at0, at1, at2, at3, at4, at5, atl1, atl2, atl3, atl4, lstAt_new, lstAt_h0, lstAt_h1, lstAt_h2, lstAt_h3, it_tup, it_rol, kTup_eq, kLen_eq, wipe0, wipe1, b_nm, b_un, b_nil, b_cnm, b_cun, Option.bind_some, List.set_cons_zero, List.set_cons_succ, List.length_cons, List.length_nil, List.nil_append, List.cons_append, List.append_nil, List.isEmpty_cons, List.isEmpty_nil, true_and, and_true, false_and, and_false, true_implies, forall_const, not_true_eq_false, not_false_eq_true, implies_true, decide_eq_true_eq, decide_eq_false_iff_not, Bool.not_eq_true', Bool.not_eq_false', Bool.not_true, Bool.not_false, if_true, if_false, Bool.false_eq_true, Bool.true_eq_false, reduceCtorEq, false_implies, eq_self, h1, atL_at a.1 a.2, atL_at b.1 b.2, atL_at c.1 c.2]
    refine middle_l (by omega) fun S2 A2 => ?_
    have h1' := A2.lst h1
    simp only [↓reduceIte, ↓W_ok, ↓W_exn, ↓W_var0, ↓W_varS, ↓W_K, ↓W_bin, ↓W_un, ↓W_aNil, ↓W_aCons, ↓W_arg, ↓W_call, ↓W_of, ↓WB_test, ↓tc_bl, ↓WB_tru, ↓trc, ↓WB_and, ↓WB_or, ↓WB_not, ↓W_if, ↓W_andV, ↓W_orV, ↓W_notV, ↓WM_some, ↓WM_none, ↓WO_some, ↓tr_bl, ↓tr_non, ↓tr_int, ↓tr_tup, ↓tr_rol, ↓WS_nx, ↓WS_rt, ↓WS_ct, ↓WS_bk, ↓WS_exn, ↓WS_seq, ↓WS_nil, ↓WS_retN, ↓WS_break, ↓WS_cont, ↓WS_expr, ↓WS_ret, ↓WS_if, ↓WS_set, ↓WS_par, ↓WS_asg, ↓WS_gSet, ↓WS_gN, ↓WS_gC, ↓WS_gUn, ↓WS_gSub, ↓WS_aug, ↓o_add, ↓o_iadd, ↓o_sub, ↓o_neg, ↓o_mul, ↓o_mod, ↓o_div, ↓o_pow, ↓o_addT, ↓o_addS, ↓o_addL, ↓o_lt, ↓o_le, ↓o_gt, ↓o_ge, ↓o_eq, ↓o_ne, ↓o_eqS, ↓o_neS, ↓o_eqB, ↓o_neB, ↓o_eqT, ↓o_neT, ↓o_eqN, ↓o_neN, ↓o_ltT, ↓o_leT, ↓o_is, ↓o_isnot, ↓o_isB, ↓o_isnotB, ↓o_inT, ↓o_ninT, ↓o_inL, ↓o_ninL, ↓o_ixT, ↓o_ixR, ↓o_ixL, ↓o_rev, ↓o_ixS, ↓o_str, ↓o_strS, ↓o_set, ↓o_lenT, ↓o_lenR, ↓o_lenL, ↓o_lenS, ↓o_int, ↓o_intT, ↓o_intF, ↓o_abs, ↓o_max, ↓o_min, ↓o_tuple, ↓o_listXt, ↓o_listXr, ↓o_listXl, ↓o_listXs, ↓o_sortedXt, ↓o_tup0, ↓o_tup1, ↓o_tup2, ↓o_tup3, ↓o_tup4, ↓o_tup5, ↓o_tup6, ↓o_lst0, ↓o_lst1, ↓o_lst2, ↓o_lst3, ↓o_lst4, ↓o_lst5, ↓o_lst6, ↓o_sum, ↓W_meth, ↓o_append, ↓o_extend, ↓o_popAt, ↓W_cut, ↓W_noPart, ↓W_part, ↓o_cutT, ↓o_cutR, ↓o_cutL, ↓W_isi, ↓W_ch, ↓WS_for, ↓WI_iter, ↓WI_range1, ↓WI_range2, ↓WI_range3, ↓WI_enum, ↓WI_zip2, ↓WI_zip3, ↓W_callK, ↓WS_f0, ↓WS_f1, ↓W_alloc, ↓W_ofL, ↓W_comp, ↓WB_yes, ↓W_c0, ↓W_c1, ↓W_listRg, ↓W_tupRg, ↓W_rRange1, ↓W_rRange2, Option.isSome_some, z2_t, z3_t, perm_nil, perm_cons, List.getD_cons_zero, List.getD_cons_succ, o_intT, o_intF, o_intB, o_ixL, o_ixT, beq_self_eq_true, decide_true, decide_false, okEq, okCmp, okIn, D.fits, D.fitsL, D.dep, D.depL, D.eqv, D.eqvL, D.alike, D.alikeL, isBl_bl, isN_non, isN_bl, isN_int, isN_str, isN_tup, isN_rol, isN_loc, Nat.reduceAdd, Nat.reduceSub, Nat.max_self, Nat.min_self, Nat.max_zero, Nat.zero_max, Nat.min_zero, Nat.zero_min, ty_non, ty_bl, ty_int, ty_str, ty_tup, ty_rol, ty_loc, kb_bool_bool, kb_bool_int, kb_bool_str, kb_bool_tuple, kb_bool_list, kb_int_bool, kb_int_int, kb_int_str, kb_int_tuple, kb_int_list, kb_str_bool, kb_str_int, kb_str_str, kb_str_tuple, kb_str_list, kb_tuple_bool, kb_tuple_int, kb_tuple_str, kb_tuple_tuple, kb_tuple_list, kb_list_bool, kb_list_int, kb_list_str, kb_list_tuple, kb_list_list, kb_NoneType_bool, kb_NoneType_int, kb_NoneType_str, kb_NoneType_tuple, kb_NoneType_list, Nat.zero_add, c02, lstAt_setE, Option.map_some, lstAt_set_ne, ne_eq, Nat.reduceEqDiff, Nat.one_ne_zero, Nat.zero_ne_one, ix_1_0, ix_2_0, ix_2_1, ix_3_0, ix_3_1, ix_3_2, ix_4_0, ix_4_1, ix_4_2, ix_4_3, ix_5_0, ix_5_1, ix_5_2, ix_5_3, ix_5_4, ix_6_0, ix_6_1, ix_6_2, ix_6_3, ix_6_4, ix_6_5, Nat.reduceLeDiff, Int.reduceAdd, Int.reduceSub, Int.reduceMul, Int.reduceNeg, Int.reducePow, Int.reduceLT, Int.reduceLE, Int.reduceEq, Int.reduceToNat, Bool.and_true, Bool.true_and, Bool.and_self, Bool.and_false, Bool.false_and, Bool.and_eq_true, Bool.and_eq_false_imp, and_self, WS_qdn, WS_qdr, WS_qde, WS_qdb, WS_qdc, qn1, qn2, qn3, qn4, qn5, qk1, qk5, lq1, lq2, lq3, lq4, lq5, intD_int, items_tup, items_rol, items_loc, listOf_loc, listOf_rol, isL_loc, nd_non, nd_bl, nd_int, nd_str, nd_tup, nd_rol, noDct_loc, at0, at1, at2, at3, at4, at5, atl1, atl2, atl3, atl4, lstAt_new, lstAt_h0, lstAt_h1, lstAt_h2, lstAt_h3, it_tup, it_rol, kTup_eq, kLen_eq, wipe0, wipe1, b_nm, b_un, b_nil, b_cnm, b_cun, Option.bind_some, List.set_cons_zero, List.set_cons_succ, List.length_cons, List.length_nil, List.nil_append, List.cons_append, List.append_nil, List.isEmpty_cons, List.isEmpty_nil, true_and, and_true, false_and, and_false, true_implies, forall_const, not_true_eq_false, not_false_eq_true, implies_true, decide_eq_true_eq, decide_eq_false_iff_not, Bool.not_eq_true', Bool.not_eq_false', Bool.not_true, Bool.not_false, if_true, if_false, Bool.false_eq_true, Bool.true_eq_false, reduceCtorEq, false_implies, eq_self, h1']
    rw [List.length_cons] at h4
    have e : (stepL us m).length = us.length + 1 := by unfold stepL; simp
    refine ⟨by rw [sizeLine_eq, List.length_map]; omega, stepL us m, ms, _, _, _, rfl, (A1.trans A2).set (Nat.le_refl _), ?_, h2.step a b c, by rw [e]; exact d, by rw [e]; omega, h5, rfl⟩
    unfold stepL
    rw [List.map_append]; rfl
  · rintro σ S1 ⟨us, ms, p, q, r', hd, A1, h1, h2, h3, h4, h5, rfl⟩
    refine ⟨trivial, ?_⟩
    cases ms with
    | cons m ms => cases hd
    | nil =>
      have e : us = thingsL ts ls := h5
      have := (things_all hA hL).2
      simp only [↓reduceIte, ↓W_ok, ↓W_exn, ↓W_var0, ↓W_varS, ↓W_K, ↓W_bin, ↓W_un, ↓W_aNil, ↓W_aCons, ↓W_arg, ↓W_call, ↓W_of, ↓WB_test, ↓tc_bl, ↓WB_tru, ↓trc, ↓WB_and, ↓WB_or, ↓WB_not, ↓W_if, ↓W_andV, ↓W_orV, ↓W_notV, ↓WM_some, ↓WM_none, ↓WO_some, ↓tr_bl, ↓tr_non, ↓tr_int, ↓tr_tup, ↓tr_rol, ↓WS_nx, ↓WS_rt, ↓WS_ct, ↓WS_bk, ↓WS_exn, ↓WS_seq, ↓WS_nil, ↓WS_retN, ↓WS_break, ↓WS_cont, ↓WS_expr, ↓WS_ret, ↓WS_if, ↓WS_set, ↓WS_par, ↓WS_asg, ↓WS_gSet, ↓WS_gN, ↓WS_gC, ↓WS_gUn, ↓WS_gSub, ↓WS_aug, ↓o_add, ↓o_iadd, ↓o_sub, ↓o_neg, ↓o_mul, ↓o_mod, ↓o_div, ↓o_pow, ↓o_addT, ↓o_addS, ↓o_addL, ↓o_lt, ↓o_le, ↓o_gt, ↓o_ge, ↓o_eq, ↓o_ne, ↓o_eqS, ↓o_neS, ↓o_eqB, ↓o_neB, ↓o_eqT, ↓o_neT, ↓o_eqN, ↓o_neN, ↓o_ltT, ↓o_leT, ↓o_is, ↓o_isnot, ↓o_isB, ↓o_isnotB, ↓o_inT, ↓o_ninT, ↓o_inL, ↓o_ninL, ↓o_ixT, ↓o_ixR, ↓o_ixL, ↓o_rev, ↓o_ixS, ↓o_str, ↓o_strS, ↓o_set, ↓o_lenT, ↓o_lenR, ↓o_lenL, ↓o_lenS, ↓o_int, ↓o_intT, ↓o_intF, ↓o_abs, ↓o_max, ↓o_min, ↓o_tuple, ↓o_listXt, ↓o_listXr, ↓o_listXl, ↓o_listXs, ↓o_sortedXt, ↓o_tup0, ↓o_tup1, ↓o_tup2, ↓o_tup3, ↓o_tup4, ↓o_tup5, ↓o_tup6, ↓o_lst0, ↓o_lst1, ↓o_lst2, ↓o_lst3, ↓o_lst4, ↓o_lst5, ↓o_lst6, ↓o_sum, ↓W_meth, ↓o_append, ↓o_extend, ↓o_popAt, ↓W_cut, ↓W_noPart, ↓W_part, ↓o_cutT, ↓o_cutR, ↓o_cutL, ↓W_isi, ↓W_ch, ↓WS_for, ↓WI_iter, ↓WI_range1, ↓WI_range2, ↓WI_range3, ↓WI_enum, ↓WI_zip2, ↓WI_zip3, ↓W_callK, ↓WS_f0, ↓WS_f1, ↓W_alloc, ↓W_ofL, ↓W_comp, ↓WB_yes, ↓W_c0, ↓W_c1, ↓W_listRg, ↓W_tupRg, ↓W_rRange1, ↓W_rRange2, Option.isSome_some, z2_t, z3_t, perm_nil, perm_cons, List.getD_cons_zero, List.getD_cons_succ, o_intT, o_intF, o_intB, o_ixL, o_ixT, beq_self_eq_true, decide_true, decide_false, okEq, okCmp, okIn, D.fits, D.fitsL, D.dep, D.depL, D.eqv, D.eqvL, D.alike, D.alikeL, isBl_bl, isN_non, isN_bl, isN_int, isN_str, isN_tup, isN_rol, isN_loc, Nat.reduceAdd, Nat.reduceSub, Nat.max_self, Nat.min_self, Nat.max_zero, Nat.zero_max, Nat.min_zero, Nat.zero_min, ty_non, ty_bl, ty_int, ty_str, ty_tup, ty_rol, ty_loc, kb_bool_bool, kb_bool_int, kb_bool_str, kb_bool_tuple, kb_bool_list, kb_int_bool, kb_int_int, kb_int_str, kb_int_tuple, kb_int_list, kb_str_bool, kb_str_int, kb_str_str, kb_str_tuple, kb_str_list, kb_tuple_bool, kb_tuple_int, kb_tuple_str, kb_tuple_tuple, kb_tuple_list, kb_list_bool, kb_list_int, kb_list_str, kb_list_tuple, kb_list_list, kb_NoneType_bool, kb_NoneType_int, kb_NoneType_str, kb_NoneType_tuple, kb_NoneType_list, Nat.zero_add, c02, lstAt_setE, Option.map_some, lstAt_set_ne, ne_eq, Nat.reduceEqDiff, Nat.one_ne_zero, Nat.zero_ne_one, ix_1_0, ix_2_0, ix_2_1, ix_3_0, ix_3_1, ix_3_2, ix_4_0, ix_4_1, ix_4_2, ix_4_3, ix_5_0, ix_5_1, ix_5_2, ix_5_3, ix_5_4, ix_6_0, ix_6_1, ix_6_2, ix_6_3, ix_6_4, ix_6_5, Nat.reduceLeDiff, Int.reduceAdd, Int.reduceSub, Int.reduceMul, Int.reduceNeg, Int.reducePow, Int.reduceLT, Int.reduceLE, Int.reduceEq, Int.reduceToNat, Bool.and_true, Bool.true_and, Bool.and_self, Bool.and_false, Bool.false_and, Bool.and_eq_true, Bool.and_eq_false_imp, and_self, WS_qdn, WS_qdr, WS_qde, WS_qdb, WS_qdc, qn1, qn2, qn3, qn4, qn5, qk1, qk5, lq1, lq2, lq3, lq4, lq5, intD_int, items_tup, items_rol, items_loc, listOf_loc, listOf_rol, isL_loc, nd_non, nd_bl, nd_int, nd_str, nd_tup, nd_rol, noDct_loc, at0, at1, at2, at3, at4, at5, atl1, atl2, atl3, atl4, lstAt_new, lstAt_h0, lstAt_h1, lstAt_h2, lstAt_h3, it_tup, it_rol, kTup_eq, kLen_eq, wipe0, wipe1, b_nm, b_un, b_nil, b_cnm, b_cun, Option.bind_some, List.set_cons_zero, List.set_cons_succ, List.length_cons, List.length_nil, List.nil_append, List.cons_append, List.append_nil, List.isEmpty_cons, List.isEmpty_nil, true_and, and_true, false_and, and_false, true_implies, forall_const, not_true_eq_false, not_false_eq_true, implies_true, decide_eq_true_eq, decide_eq_false_iff_not, Bool.not_eq_true', Bool.not_eq_false', Bool.not_true, Bool.not_false, if_true, if_false, Bool.false_eq_true, Bool.true_eq_false, reduceCtorEq, false_implies, eq_self, h1, atL_at (ts := us) l0 (by rw [e]; omega)]
      rw [e]
      exact h S1 A1
def zip2I : List Int → List Int → List (Int × Int)
  | a :: as, b :: bs => (a, b) :: zip2I as bs
  | _, _ => []
theorem zip2_self : ∀ as : List Int, zip2D (as.map D.int) (as.map D.int) = as.map fun a => .tup [.int a, .int a]
  | [] => rfl
  | a :: as => by rw [List.map_cons, zip2D, zip2_self as]; rfl
theorem isint_w {a : Int} : W (x, Q) tt (m__law_is_integer [.int a] S) = Q (.bl true) S := by
  simp only [↓reduceIte, ↓W_ok, ↓W_exn, ↓W_var0, ↓W_varS, ↓W_K, ↓W_bin, ↓W_un, ↓W_aNil, ↓W_aCons, ↓W_arg, ↓W_call, ↓W_of, ↓WB_test, ↓tc_bl, ↓WB_tru, ↓trc, ↓WB_and, ↓WB_or, ↓WB_not, ↓W_if, ↓W_andV, ↓W_orV, ↓W_notV, ↓WM_some, ↓WM_none, ↓WO_some, ↓tr_bl, ↓tr_non, ↓tr_int, ↓tr_tup, ↓tr_rol, ↓WS_nx, ↓WS_rt, ↓WS_ct, ↓WS_bk, ↓WS_exn, ↓WS_seq, ↓WS_nil, ↓WS_retN, ↓WS_break, ↓WS_cont, ↓WS_expr, ↓WS_ret, ↓WS_if, ↓WS_set, ↓WS_par, ↓WS_asg, ↓WS_gSet, ↓WS_gN, ↓WS_gC, ↓WS_gUn, ↓WS_gSub, ↓WS_aug, ↓o_add, ↓o_iadd, ↓o_sub, ↓o_neg, ↓o_mul, ↓o_mod, ↓o_div, ↓o_pow, ↓o_addT, ↓o_addS, ↓o_addL, ↓o_lt, ↓o_le, ↓o_gt, ↓o_ge, ↓o_eq, ↓o_ne, ↓o_eqS, ↓o_neS, ↓o_eqB, ↓o_neB, ↓o_eqT, ↓o_neT, ↓o_eqN, ↓o_neN, ↓o_ltT, ↓o_leT, ↓o_is, ↓o_isnot, ↓o_isB, ↓o_isnotB, ↓o_inT, ↓o_ninT, ↓o_inL, ↓o_ninL, ↓o_ixT, ↓o_ixR, ↓o_ixL, ↓o_rev, ↓o_ixS, ↓o_str, ↓o_strS, ↓o_set, ↓o_lenT, ↓o_lenR, ↓o_lenL, ↓o_lenS, ↓o_int, ↓o_intT, ↓o_intF, ↓o_abs, ↓o_max, ↓o_min, ↓o_tuple, ↓o_listXt, ↓o_listXr, ↓o_listXl, ↓o_listXs, ↓o_sortedXt, ↓o_tup0, ↓o_tup1, ↓o_tup2, ↓o_tup3, ↓o_tup4, ↓o_tup5, ↓o_tup6, ↓o_lst0, ↓o_lst1, ↓o_lst2, ↓o_lst3, ↓o_lst4, ↓o_lst5, ↓o_lst6, ↓o_sum, ↓W_meth, ↓o_append, ↓o_extend, ↓o_popAt, ↓W_cut, ↓W_noPart, ↓W_part, ↓o_cutT, ↓o_cutR, ↓o_cutL, ↓W_isi, ↓W_ch, ↓WS_for, ↓WI_iter, ↓WI_range1, ↓WI_range2, ↓WI_range3, ↓WI_enum, ↓WI_zip2, ↓WI_zip3, ↓W_callK, ↓WS_f0, ↓WS_f1, ↓W_alloc, ↓W_ofL, ↓W_comp, ↓WB_yes, ↓W_c0, ↓W_c1, ↓W_listRg, ↓W_tupRg, ↓W_rRange1, ↓W_rRange2, Option.isSome_some, z2_t, z3_t, perm_nil, perm_cons, List.getD_cons_zero, List.getD_cons_succ, o_intT, o_intF, o_intB, o_ixL, o_ixT, beq_self_eq_true, decide_true, decide_false, okEq, okCmp, okIn, D.fits, D.fitsL, D.dep, D.depL, D.eqv, D.eqvL, D.alike, D.alikeL, isBl_bl, isN_non, isN_bl, isN_int, isN_str, isN_tup, isN_rol, isN_loc, Nat.reduceAdd, Nat.reduceSub, Nat.max_self, Nat.min_self, Nat.max_zero, Nat.zero_max, Nat.min_zero, Nat.zero_min, ty_non, ty_bl, ty_int, ty_str, ty_tup, ty_rol, ty_loc, kb_bool_bool, kb_bool_int, kb_bool_str, kb_bool_tuple, kb_bool_list, kb_int_bool, kb_int_int, kb_int_str, kb_int_tuple, kb_int_list, kb_str_bool, kb_str_int, kb_str_str, kb_str_tuple, kb_str_list, kb_tuple_bool, kb_tuple_int, kb_tuple_str, kb_tuple_tuple, kb_tuple_list, kb_list_bool, kb_list_int, kb_list_str, kb_list_tuple, kb_list_list, kb_NoneType_bool, kb_NoneType_int, kb_NoneType_str, kb_NoneType_tuple, kb_NoneType_list, Nat.zero_add, c02, lstAt_setE, Option.map_some, lstAt_set_ne, ne_eq, Nat.reduceEqDiff, Nat.one_ne_zero, Nat.zero_ne_one, ix_1_0, ix_2_0, ix_2_1, ix_3_0, ix_3_1, ix_3_2, ix_4_0, ix_4_1, ix_4_2, ix_4_3, ix_5_0, ix_5_1, ix_5_2, ix_5_3, ix_5_4, ix_6_0, ix_6_1, ix_6_2, ix_6_3, ix_6_4, ix_6_5, Nat.reduceLeDiff, Int.reduceAdd, Int.reduceSub, Int.reduceMul, Int.reduceNeg, Int.reducePow, Int.reduceLT, Int.reduceLE, Int.reduceEq, Int.reduceToNat, Bool.and_true, Bool.true_and, Bool.and_self, Bool.and_false, Bool.false_and, Bool.and_eq_true, Bool.and_eq_false_imp, and_self, WS_qdn, WS_qdr, WS_qde, WS_qdb, WS_qdc, qn1, qn2, qn3, qn4, qn5, qk1, qk5, lq1, lq2, lq3, lq4, lq5, intD_int, items_tup, items_rol, items_loc, listOf_loc, listOf_rol, isL_loc, nd_non, nd_bl, nd_int, nd_str, nd_tup, nd_rol, noDct_loc, at0, at1, at2, at3, at4, at5, atl1, atl2, atl3, atl4, lstAt_new, lstAt_h0, lstAt_h1, lstAt_h2, lstAt_h3, it_tup, it_rol, kTup_eq, kLen_eq, wipe0, wipe1, b_nm, b_un, b_nil, b_cnm, b_cun, Option.bind_some, List.set_cons_zero, List.set_cons_succ, List.length_cons, List.length_nil, List.nil_append, List.cons_append, List.append_nil, List.isEmpty_cons, List.isEmpty_nil, true_and, and_true, false_and, and_false, true_implies, forall_const, not_true_eq_false, not_false_eq_true, implies_true, decide_eq_true_eq, decide_eq_false_iff_not, Bool.not_eq_true', Bool.not_eq_false', Bool.not_true, Bool.not_false, if_true, if_false, Bool.false_eq_true, Bool.true_eq_false, reduceCtorEq, false_implies, eq_self, wm__law_is_integer, b__law_is_integer]
theorem same_w {as : List Int} (h : Q (.bl true) S) : W (x, Q) tt (m__law_same_numbers [shD as, shD as] S) := by
  simp only [↓reduceIte, ↓W_ok, ↓W_exn, ↓W_var0, ↓W_varS, ↓W_K, ↓W_bin, ↓W_un, ↓W_aNil, ↓W_aCons, ↓W_arg, ↓W_call, ↓W_of, ↓WB_test, ↓tc_bl, ↓WB_tru, ↓trc, ↓WB_and, ↓WB_or, ↓WB_not, ↓W_if, ↓W_andV, ↓W_orV, ↓W_notV, ↓WM_some, ↓WM_none, ↓WO_some, ↓tr_bl, ↓tr_non, ↓tr_int, ↓tr_tup, ↓tr_rol, ↓WS_nx, ↓WS_rt, ↓WS_ct, ↓WS_bk, ↓WS_exn, ↓WS_seq, ↓WS_nil, ↓WS_retN, ↓WS_break, ↓WS_cont, ↓WS_expr, ↓WS_ret, ↓WS_if, ↓WS_set, ↓WS_par, ↓WS_asg, ↓WS_gSet, ↓WS_gN, ↓WS_gC, ↓WS_gUn, ↓WS_gSub, ↓WS_aug, ↓o_add, ↓o_iadd, ↓o_sub, ↓o_neg, ↓o_mul, ↓o_mod, ↓o_div, ↓o_pow, ↓o_addT, ↓o_addS, ↓o_addL, ↓o_lt, ↓o_le, ↓o_gt, ↓o_ge, ↓o_eq, ↓o_ne, ↓o_eqS, ↓o_neS, ↓o_eqB, ↓o_neB, ↓o_eqT, ↓o_neT, ↓o_eqN, ↓o_neN, ↓o_ltT, ↓o_leT, ↓o_is, ↓o_isnot, ↓o_isB, ↓o_isnotB, ↓o_inT, ↓o_ninT, ↓o_inL, ↓o_ninL, ↓o_ixT, ↓o_ixR, ↓o_ixL, ↓o_rev, ↓o_ixS, ↓o_str, ↓o_strS, ↓o_set, ↓o_lenT, ↓o_lenR, ↓o_lenL, ↓o_lenS, ↓o_int, ↓o_intT, ↓o_intF, ↓o_abs, ↓o_max, ↓o_min, ↓o_tuple, ↓o_listXt, ↓o_listXr, ↓o_listXl, ↓o_listXs, ↓o_sortedXt, ↓o_tup0, ↓o_tup1, ↓o_tup2, ↓o_tup3, ↓o_tup4, ↓o_tup5, ↓o_tup6, ↓o_lst0, ↓o_lst1, ↓o_lst2, ↓o_lst3, ↓o_lst4, ↓o_lst5, ↓o_lst6, ↓o_sum, ↓W_meth, ↓o_append, ↓o_extend, ↓o_popAt, ↓W_cut, ↓W_noPart, ↓W_part, ↓o_cutT, ↓o_cutR, ↓o_cutL, ↓W_isi, ↓W_ch, ↓WS_for, ↓WI_iter, ↓WI_range1, ↓WI_range2, ↓WI_range3, ↓WI_enum, ↓WI_zip2, ↓WI_zip3, ↓W_callK, ↓WS_f0, ↓WS_f1, ↓W_alloc, ↓W_ofL, ↓W_comp, ↓WB_yes, ↓W_c0, ↓W_c1, ↓W_listRg, ↓W_tupRg, ↓W_rRange1, ↓W_rRange2, Option.isSome_some, z2_t, z3_t, perm_nil, perm_cons, List.getD_cons_zero, List.getD_cons_succ, o_intT, o_intF, o_intB, o_ixL, o_ixT, beq_self_eq_true, decide_true, decide_false, okEq, okCmp, okIn, D.fits, D.fitsL, D.dep, D.depL, D.eqv, D.eqvL, D.alike, D.alikeL, isBl_bl, isN_non, isN_bl, isN_int, isN_str, isN_tup, isN_rol, isN_loc, Nat.reduceAdd, Nat.reduceSub, Nat.max_self, Nat.min_self, Nat.max_zero, Nat.zero_max, Nat.min_zero, Nat.zero_min, ty_non, ty_bl, ty_int, ty_str, ty_tup, ty_rol, ty_loc, kb_bool_bool, kb_bool_int, kb_bool_str, kb_bool_tuple, kb_bool_list, kb_int_bool, kb_int_int, kb_int_str, kb_int_tuple, kb_int_list, kb_str_bool, kb_str_int, kb_str_str, kb_str_tuple, kb_str_list, kb_tuple_bool, kb_tuple_int, kb_tuple_str, kb_tuple_tuple, kb_tuple_list, kb_list_bool, kb_list_int, kb_list_str, kb_list_tuple, kb_list_list, kb_NoneType_bool, kb_NoneType_int, kb_NoneType_str, kb_NoneType_tuple, kb_NoneType_list, Nat.zero_add, c02, lstAt_setE, Option.map_some, lstAt_set_ne, ne_eq, Nat.reduceEqDiff, Nat.one_ne_zero, Nat.zero_ne_one, ix_1_0, ix_2_0, ix_2_1, ix_3_0, ix_3_1, ix_3_2, ix_4_0, ix_4_1, ix_4_2, ix_4_3, ix_5_0, ix_5_1, ix_5_2, ix_5_3, ix_5_4, ix_6_0, ix_6_1, ix_6_2, ix_6_3, ix_6_4, ix_6_5, Nat.reduceLeDiff, Int.reduceAdd, Int.reduceSub, Int.reduceMul, Int.reduceNeg, Int.reducePow, Int.reduceLT, Int.reduceLE, Int.reduceEq, Int.reduceToNat, Bool.and_true, Bool.true_and, Bool.and_self, Bool.and_false, Bool.false_and, Bool.and_eq_true, Bool.and_eq_false_imp, and_self, WS_qdn, WS_qdr, WS_qde, WS_qdb, WS_qdc, qn1, qn2, qn3, qn4, qn5, qk1, qk5, lq1, lq2, lq3, lq4, lq5, intD_int, items_tup, items_rol, items_loc, listOf_loc, listOf_rol, isL_loc, nd_non, nd_bl, nd_int, nd_str, nd_tup, nd_rol, noDct_loc, at0, at1, at2, at3, at4, at5, atl1, atl2, atl3, atl4, lstAt_new, lstAt_h0, lstAt_h1, lstAt_h2, lstAt_h3, it_tup, it_rol, kTup_eq, kLen_eq, wipe0, wipe1, b_nm, b_un, b_nil, b_cnm, b_cun, Option.bind_some, List.set_cons_zero, List.set_cons_succ, List.length_cons, List.length_nil, List.nil_append, List.cons_append, List.append_nil, List.isEmpty_cons, List.isEmpty_nil, true_and, and_true, false_and, and_false, true_implies, forall_const, not_true_eq_false, not_false_eq_true, implies_true, decide_eq_true_eq, decide_eq_false_iff_not, Bool.not_eq_true', Bool.not_eq_false', Bool.not_true, Bool.not_false, if_true, if_false, Bool.false_eq_true, Bool.true_eq_false, reduceCtorEq, false_implies, eq_self, wm__law_same_numbers, b__law_same_numbers, zip2_self]
  refine WS_loop (fun ds σ S' => S' = S ∧ (∃ bs : List Int, ds = bs.map fun a => .tup [.int a, .int a]) ∧ ∃ p q, σ = [some (shD as), some (shD as), p, q]) ⟨rfl, ⟨as, rfl⟩, _, _, rfl⟩ ?_ ?_
  · rintro d r σ S1 ⟨rfl, ⟨bs, hb⟩, p, q, rfl⟩
    cases bs with
    | nil => cases hb
    | cons b bs =>
    cases hb
    refine ⟨trivial, ?_⟩
    simp only [↓reduceIte, ↓W_ok, ↓W_exn, ↓W_var0, ↓W_varS, ↓W_K, ↓W_bin, ↓W_un, ↓W_aNil, ↓W_aCons, ↓W_arg, ↓W_call, ↓W_of, ↓WB_test, ↓tc_bl, ↓WB_tru, ↓trc, ↓WB_and, ↓WB_or, ↓WB_not, ↓W_if, ↓W_andV, ↓W_orV, ↓W_notV, ↓WM_some, ↓WM_none, ↓WO_some, ↓tr_bl, ↓tr_non, ↓tr_int, ↓tr_tup, ↓tr_rol, ↓WS_nx, ↓WS_rt, ↓WS_ct, ↓WS_bk, ↓WS_exn, ↓WS_seq, ↓WS_nil, ↓WS_retN, ↓WS_break, ↓WS_cont, ↓WS_expr, ↓WS_ret, ↓WS_if, ↓WS_set, ↓WS_par, ↓WS_asg, ↓WS_gSet, ↓WS_gN, ↓WS_gC, ↓WS_gUn, ↓WS_gSub, ↓WS_aug, ↓o_add, ↓o_iadd, ↓o_sub, ↓o_neg, ↓o_mul, ↓o_mod, ↓o_div, ↓o_pow, ↓o_addT, ↓o_addS, ↓o_addL, ↓o_lt, ↓o_le, ↓o_gt, ↓o_ge, ↓o_eq, ↓o_ne, ↓o_eqS, ↓o_neS, ↓o_eqB, ↓o_neB, ↓o_eqT, ↓o_neT, ↓o_eqN, ↓o_neN, ↓o_ltT, ↓o_leT, ↓o_is, ↓o_isnot, ↓o_isB, ↓o_isnotB, ↓o_inT, ↓o_ninT, ↓o_inL, ↓o_ninL, ↓o_ixT, ↓o_ixR, ↓o_ixL, ↓o_rev, ↓o_ixS, ↓o_str, ↓o_strS, ↓o_set, ↓o_lenT, ↓o_lenR, ↓o_lenL, ↓o_lenS, ↓o_int, ↓o_intT, ↓o_intF, ↓o_abs, ↓o_max, ↓o_min, ↓o_tuple, ↓o_listXt, ↓o_listXr, ↓o_listXl, ↓o_listXs, ↓o_sortedXt, ↓o_tup0, ↓o_tup1, ↓o_tup2, ↓o_tup3, ↓o_tup4, ↓o_tup5, ↓o_tup6, ↓o_lst0, ↓o_lst1, ↓o_lst2, ↓o_lst3, ↓o_lst4, ↓o_lst5, ↓o_lst6, ↓o_sum, ↓W_meth, ↓o_append, ↓o_extend, ↓o_popAt, ↓W_cut, ↓W_noPart, ↓W_part, ↓o_cutT, ↓o_cutR, ↓o_cutL, ↓W_isi, ↓W_ch, ↓WS_for, ↓WI_iter, ↓WI_range1, ↓WI_range2, ↓WI_range3, ↓WI_enum, ↓WI_zip2, ↓WI_zip3, ↓W_callK, ↓WS_f0, ↓WS_f1, ↓W_alloc, ↓W_ofL, ↓W_comp, ↓WB_yes, ↓W_c0, ↓W_c1, ↓W_listRg, ↓W_tupRg, ↓W_rRange1, ↓W_rRange2, Option.isSome_some, z2_t, z3_t, perm_nil, perm_cons, List.getD_cons_zero, List.getD_cons_succ, o_intT, o_intF, o_intB, o_ixL, o_ixT, beq_self_eq_true, decide_true, decide_false, okEq, okCmp, okIn, D.fits, D.fitsL, D.dep, D.depL, D.eqv, D.eqvL, D.alike, D.alikeL, isBl_bl, isN_non, isN_bl, isN_int, isN_str, isN_tup, isN_rol, isN_loc, Nat.reduceAdd, Nat.reduceSub, Nat.max_self, Nat.min_self, Nat.max_zero, Nat.zero_max, Nat.min_zero, Nat.zero_min, ty_non, ty_bl, ty_int, ty_str, ty_tup, ty_rol, ty_loc, kb_bool_bool, kb_bool_int, kb_bool_str, kb_bool_tuple, kb_bool_list, kb_int_bool, kb_int_int, kb_int_str, kb_int_tuple, kb_int_list, kb_str_bool, kb_str_int, kb_str_str, kb_str_tuple, kb_str_list, kb_tuple_bool, kb_tuple_int, kb_tuple_str, kb_tuple_tuple, kb_tuple_list, kb_list_bool, kb_list_int, kb_list_str, kb_list_tuple, kb_list_list, kb_NoneType_bool, kb_NoneType_int, kb_NoneType_str, kb_NoneType_tuple, kb_NoneType_list, Nat.zero_add, c02, lstAt_setE, Option.map_some, lstAt_set_ne, ne_eq, Nat.reduceEqDiff, Nat.one_ne_zero, Nat.zero_ne_one, ix_1_0, ix_2_0, ix_2_1, ix_3_0, ix_3_1, ix_3_2, ix_4_0, ix_4_1, ix_4_2, ix_4_3, ix_5_0, ix_5_1, ix_5_2, ix_5_3, ix_5_4, ix_6_0, ix_6_1, ix_6_2, ix_6_3, ix_6_4, ix_6_5, Nat.reduceLeDiff, Int.reduceAdd, Int.reduceSub, Int.reduceMul, Int.reduceNeg, Int.reducePow, Int.reduceLT, Int.reduceLE, Int.reduceEq, Int.reduceToNat, Bool.and_true, Bool.true_and, Bool.and_self, Bool.and_false, Bool.false_and, Bool.and_eq_true, Bool.and_eq_false_imp, and_self, WS_qdn, WS_qdr, WS_qde, WS_qdb, WS_qdc, qn1, qn2, qn3, qn4, qn5, qk1, qk5, lq1, lq2, lq3, lq4, lq5, intD_int, items_tup, items_rol, items_loc, listOf_loc, listOf_rol, isL_loc, nd_non, nd_bl, nd_int, nd_str, nd_tup, nd_rol, noDct_loc, at0, at1, at2, at3, at4, at5, atl1, atl2, atl3, atl4, lstAt_new, lstAt_h0, lstAt_h1, lstAt_h2, lstAt_h3, it_tup, it_rol, kTup_eq, kLen_eq, wipe0, wipe1, b_nm, b_un, b_nil, b_cnm, b_cun, Option.bind_some, List.set_cons_zero, List.set_cons_succ, List.length_cons, List.length_nil, List.nil_append, List.cons_append, List.append_nil, List.isEmpty_cons, List.isEmpty_nil, true_and, and_true, false_and, and_false, true_implies, forall_const, not_true_eq_false, not_false_eq_true, implies_true, decide_eq_true_eq, decide_eq_false_iff_not, Bool.not_eq_true', Bool.not_eq_false', Bool.not_true, Bool.not_false, if_true, if_false, Bool.false_eq_true, Bool.true_eq_false, reduceCtorEq, false_implies, eq_self, isint_w]
    exact ⟨⟨bs, rfl⟩, _, _, rfl⟩
  · rintro σ S1 ⟨rfl, -, p, q, rfl⟩
    refine ⟨trivial, ?_⟩
    simp only [↓reduceIte, ↓W_ok, ↓W_exn, ↓W_var0, ↓W_varS, ↓W_K, ↓W_bin, ↓W_un, ↓W_aNil, ↓W_aCons, ↓W_arg, ↓W_call, ↓W_of, ↓WB_test, ↓tc_bl, ↓WB_tru, ↓trc, ↓WB_and, ↓WB_or, ↓WB_not, ↓W_if, ↓W_andV, ↓W_orV, ↓W_notV, ↓WM_some, ↓WM_none, ↓WO_some, ↓tr_bl, ↓tr_non, ↓tr_int, ↓tr_tup, ↓tr_rol, ↓WS_nx, ↓WS_rt, ↓WS_ct, ↓WS_bk, ↓WS_exn, ↓WS_seq, ↓WS_nil, ↓WS_retN, ↓WS_break, ↓WS_cont, ↓WS_expr, ↓WS_ret, ↓WS_if, ↓WS_set, ↓WS_par, ↓WS_asg, ↓WS_gSet, ↓WS_gN, ↓WS_gC, ↓WS_gUn, ↓WS_gSub, ↓WS_aug, ↓o_add, ↓o_iadd, ↓o_sub, ↓o_neg, ↓o_mul, ↓o_mod, ↓o_div, ↓o_pow, ↓o_addT, ↓o_addS, ↓o_addL, ↓o_lt, ↓o_le, ↓o_gt, ↓o_ge, ↓o_eq, ↓o_ne, ↓o_eqS, ↓o_neS, ↓o_eqB, ↓o_neB, ↓o_eqT, ↓o_neT, ↓o_eqN, ↓o_neN, ↓o_ltT, ↓o_leT, ↓o_is, ↓o_isnot, ↓o_isB, ↓o_isnotB, ↓o_inT, ↓o_ninT, ↓o_inL, ↓o_ninL, ↓o_ixT, ↓o_ixR, ↓o_ixL, ↓o_rev, ↓o_ixS, ↓o_str, ↓o_strS, ↓o_set, ↓o_lenT, ↓o_lenR, ↓o_lenL, ↓o_lenS, ↓o_int, ↓o_intT, ↓o_intF, ↓o_abs, ↓o_max, ↓o_min, ↓o_tuple, ↓o_listXt, ↓o_listXr, ↓o_listXl, ↓o_listXs, ↓o_sortedXt, ↓o_tup0, ↓o_tup1, ↓o_tup2, ↓o_tup3, ↓o_tup4, ↓o_tup5, ↓o_tup6, ↓o_lst0, ↓o_lst1, ↓o_lst2, ↓o_lst3, ↓o_lst4, ↓o_lst5, ↓o_lst6, ↓o_sum, ↓W_meth, ↓o_append, ↓o_extend, ↓o_popAt, ↓W_cut, ↓W_noPart, ↓W_part, ↓o_cutT, ↓o_cutR, ↓o_cutL, ↓W_isi, ↓W_ch, ↓WS_for, ↓WI_iter, ↓WI_range1, ↓WI_range2, ↓WI_range3, ↓WI_enum, ↓WI_zip2, ↓WI_zip3, ↓W_callK, ↓WS_f0, ↓WS_f1, ↓W_alloc, ↓W_ofL, ↓W_comp, ↓WB_yes, ↓W_c0, ↓W_c1, ↓W_listRg, ↓W_tupRg, ↓W_rRange1, ↓W_rRange2, Option.isSome_some, z2_t, z3_t, perm_nil, perm_cons, List.getD_cons_zero, List.getD_cons_succ, o_intT, o_intF, o_intB, o_ixL, o_ixT, beq_self_eq_true, decide_true, decide_false, okEq, okCmp, okIn, D.fits, D.fitsL, D.dep, D.depL, D.eqv, D.eqvL, D.alike, D.alikeL, isBl_bl, isN_non, isN_bl, isN_int, isN_str, isN_tup, isN_rol, isN_loc, Nat.reduceAdd, Nat.reduceSub, Nat.max_self, Nat.min_self, Nat.max_zero, Nat.zero_max, Nat.min_zero, Nat.zero_min, ty_non, ty_bl, ty_int, ty_str, ty_tup, ty_rol, ty_loc, kb_bool_bool, kb_bool_int, kb_bool_str, kb_bool_tuple, kb_bool_list, kb_int_bool, kb_int_int, kb_int_str, kb_int_tuple, kb_int_list, kb_str_bool, kb_str_int, kb_str_str, kb_str_tuple, kb_str_list, kb_tuple_bool, kb_tuple_int, kb_tuple_str, kb_tuple_tuple, kb_tuple_list, kb_list_bool, kb_list_int, kb_list_str, kb_list_tuple, kb_list_list, kb_NoneType_bool, kb_NoneType_int, kb_NoneType_str, kb_NoneType_tuple, kb_NoneType_list, Nat.zero_add, c02, lstAt_setE, Option.map_some, lstAt_set_ne, ne_eq, Nat.reduceEqDiff, Nat.one_ne_zero, Nat.zero_ne_one, ix_1_0, ix_2_0, ix_2_1, ix_3_0, ix_3_1, ix_3_2, ix_4_0, ix_4_1, ix_4_2, ix_4_3, ix_5_0, ix_5_1, ix_5_2, ix_5_3, ix_5_4, ix_6_0, ix_6_1, ix_6_2, ix_6_3, ix_6_4, ix_6_5, Nat.reduceLeDiff, Int.reduceAdd, Int.reduceSub, Int.reduceMul, Int.reduceNeg, Int.reducePow, Int.reduceLT, Int.reduceLE, Int.reduceEq, Int.reduceToNat, Bool.and_true, Bool.true_and, Bool.and_self, Bool.and_false, Bool.false_and, Bool.and_eq_true, Bool.and_eq_false_imp, and_self, WS_qdn, WS_qdr, WS_qde, WS_qdb, WS_qdc, qn1, qn2, qn3, qn4, qn5, qk1, qk5, lq1, lq2, lq3, lq4, lq5, intD_int, items_tup, items_rol, items_loc, listOf_loc, listOf_rol, isL_loc, nd_non, nd_bl, nd_int, nd_str, nd_tup, nd_rol, noDct_loc, at0, at1, at2, at3, at4, at5, atl1, atl2, atl3, atl4, lstAt_new, lstAt_h0, lstAt_h1, lstAt_h2, lstAt_h3, it_tup, it_rol, kTup_eq, kLen_eq, wipe0, wipe1, b_nm, b_un, b_nil, b_cnm, b_cun, Option.bind_some, List.set_cons_zero, List.set_cons_succ, List.length_cons, List.length_nil, List.nil_append, List.cons_append, List.append_nil, List.isEmpty_cons, List.isEmpty_nil, true_and, and_true, false_and, and_false, true_implies, forall_const, not_true_eq_false, not_false_eq_true, implies_true, decide_eq_true_eq, decide_eq_false_iff_not, Bool.not_eq_true', Bool.not_eq_false', Bool.not_true, Bool.not_false, if_true, if_false, Bool.false_eq_true, Bool.true_eq_false, reduceCtorEq, false_implies, eq_self]
    exact h
end
end LW

namespace LW
open PySem PySem.Spec PyProof.Rows L2 DL
section
variable {x : XQ} {Q : D → Store → Prop} {tt : Tg (x, Q)} {S S' S'' : Store} {l n : Nat} {c : D} {m : List Int}
theorem FlowOk.ap (h : FlowOk S) (A : Ap S S') : FlowOk S' := by
  obtain ⟨T, rfl⟩ := A
  exact h.app T
/-- three sheets with this middle -/
def M3 (n : Nat) (m : List Int) (ys : List D) : Prop := ∃ a b c, ys = [shD a, shD b, shD c] ∧ (a.length = n ∧ b.length = n ∧ c.length = n) ∧ midL a b c = m
theorem M3.perm {ys zs : List D} (hp : ys.Perm zs) (h : M3 n m zs) : M3 n m ys := by
  obtain ⟨a, b, c, rfl, ⟨ha, hb, hc⟩, hm⟩ := h
  have hl := hp.length_eq
  rcases ys with _ | ⟨p, _ | ⟨q, _ | ⟨r, _ | ⟨s, t⟩⟩⟩⟩ <;> simp at hl
  have h1 : p ∈ [shD a, shD b, shD c] := hp.mem_iff.mp (by simp)
  simp only [List.mem_cons, List.not_mem_nil, or_false] at h1
  rcases h1 with rfl | rfl | rfl
  · rcases pair_perm ((List.perm_cons _).mp hp) with ⟨rfl, rfl⟩ | ⟨rfl, rfl⟩
    · exact ⟨_, _, _, rfl, ⟨ha, hb, hc⟩, hm⟩
    · exact ⟨_, _, _, rfl, ⟨ha, hc, hb⟩, by rw [midL_comm2]; exact hm⟩
  · rcases pair_perm ((List.perm_cons _).mp (hp.trans (.swap ..))) with ⟨rfl, rfl⟩ | ⟨rfl, rfl⟩
    · exact ⟨_, _, _, rfl, ⟨hb, ha, hc⟩, by rw [midL_comm1]; exact hm⟩
    · exact ⟨_, _, _, rfl, ⟨hb, hc, ha⟩, by rw [midL_comm2, midL_comm1]; exact hm⟩
  · rcases pair_perm ((List.perm_cons _).mp (hp.trans ((List.Perm.cons _ (.swap ..)).trans (.swap ..)))) with ⟨rfl, rfl⟩ | ⟨rfl, rfl⟩
    · exact ⟨_, _, _, rfl, ⟨hc, ha, hb⟩, by rw [midL_comm1, midL_comm2]; exact hm⟩
    · exact ⟨_, _, _, rfl, ⟨hc, hb, ha⟩, by rw [midL_comm1, midL_comm2, midL_comm1]; exact hm⟩
theorem middles_w {ts : List (List Int)} (hF : FlowOk S) (hn : n ≤ 1000) (hA : AllL n ts) (h0 : 0 < ts.length) (h1 : ts.length ≤ 1000) (h : ∀ S', FlowOk S' → Fk 3 S S' → Q (.bl true) S') : W (x, Q) tt (m__law_middles [.loc 2, .tup (ts.map shD)] S) := by
  simp only [↓reduceIte, ↓W_ok, ↓W_exn, ↓W_var0, ↓W_varS, ↓W_K, ↓W_bin, ↓W_un, ↓W_aNil, ↓W_aCons, ↓W_arg, ↓W_call, ↓W_of, ↓WB_test, ↓tc_bl, ↓WB_tru, ↓trc, ↓WB_and, ↓WB_or, ↓WB_not, ↓W_if, ↓W_andV, ↓W_orV, ↓W_notV, ↓WM_some, ↓WM_none, ↓WO_some, ↓tr_bl, ↓tr_non, ↓tr_int, ↓tr_tup, ↓tr_rol, ↓WS_nx, ↓WS_rt, ↓WS_ct, ↓WS_bk, ↓WS_exn, ↓WS_seq, ↓WS_nil, ↓WS_retN, ↓WS_break, ↓WS_cont, ↓WS_expr, ↓WS_ret, ↓WS_if, ↓WS_set, ↓WS_par, ↓WS_asg, ↓WS_gSet, ↓WS_gN, ↓WS_gC, ↓WS_gUn, ↓WS_gSub, ↓WS_aug, ↓o_add, ↓o_iadd, ↓o_sub, ↓o_neg, ↓o_mul, ↓o_mod, ↓o_div, ↓o_pow, ↓o_addT, ↓o_addS, ↓o_addL, ↓o_lt, ↓o_le, ↓o_gt, ↓o_ge, ↓o_eq, ↓o_ne, ↓o_eqS, ↓o_neS, ↓o_eqB, ↓o_neB, ↓o_eqT, ↓o_neT, ↓o_eqN, ↓o_neN, ↓o_ltT, ↓o_leT, ↓o_is, ↓o_isnot, ↓o_isB, ↓o_isnotB, ↓o_inT, ↓o_ninT, ↓o_inL, ↓o_ninL, ↓o_ixT, ↓o_ixR, ↓o_ixL, ↓o_rev, ↓o_ixS, ↓o_str, ↓o_strS, ↓o_set, ↓o_lenT, ↓o_lenR, ↓o_lenL, ↓o_lenS, ↓o_int, ↓o_intT, ↓o_intF, ↓o_abs, ↓o_max, ↓o_min, ↓o_tuple, ↓o_listXt, ↓o_listXr, ↓o_listXl, ↓o_listXs, ↓o_sortedXt, ↓o_tup0, ↓o_tup1, ↓o_tup2, ↓o_tup3, ↓o_tup4, ↓o_tup5, ↓o_tup6, ↓o_lst0, ↓o_lst1, ↓o_lst2, ↓o_lst3, ↓o_lst4, ↓o_lst5, ↓o_lst6, ↓o_sum, ↓W_meth, ↓o_append, ↓o_extend, ↓o_popAt, ↓W_cut, ↓W_noPart, ↓W_part, ↓o_cutT, ↓o_cutR, ↓o_cutL, ↓W_isi, ↓W_ch, ↓WS_for, ↓WI_iter, ↓WI_range1, ↓WI_range2, ↓WI_range3, ↓WI_enum, ↓WI_zip2, ↓WI_zip3, ↓W_callK, ↓WS_f0, ↓WS_f1, ↓W_alloc, ↓W_ofL, ↓W_comp, ↓WB_yes, ↓W_c0, ↓W_c1, ↓W_listRg, ↓W_tupRg, ↓W_rRange1, ↓W_rRange2, Option.isSome_some, z2_t, z3_t, perm_nil, perm_cons, List.getD_cons_zero, List.getD_cons_succ, o_intT, o_intF, o_intB, o_ixL, o_ixT, beq_self_eq_true, decide_true, decide_false, okEq, okCmp, okIn, D.fits, D.fitsL, D.dep, D.depL, D.eqv, D.eqvL, D.alike, D.alikeL, isBl_bl, isN_non, isN_bl, isN_int, isN_str, isN_tup, isN_rol, isN_loc, Nat.reduceAdd, Nat.reduceSub, Nat.max_self, Nat.min_self, Nat.max_zero, Nat.zero_max, Nat.min_zero, Nat.zero_min, ty_non, ty_bl, ty_int, ty_str, ty_tup, ty_rol, ty_loc, kb_bool_bool, kb_bool_int, kb_bool_str, kb_bool_tuple, kb_bool_list, kb_int_bool, kb_int_int, kb_int_str, kb_int_tuple, kb_int_list, kb_str_bool, kb_str_int, kb_str_str, kb_str_tuple, kb_str_list, kb_tuple_bool, kb_tuple_int, kb_tuple_str, kb_tuple_tuple, kb_tuple_list, kb_list_bool, kb_list_int, kb_list_str, kb_list_tuple, kb_list_list, kb_NoneType_bool, kb_NoneType_int, kb_NoneType_str, kb_NoneType_tuple, kb_NoneType_list, Nat.zero_add, c02, lstAt_setE, Option.map_some, lstAt_set_ne, ne_eq, Nat.reduceEqDiff, Nat.one_ne_zero, Nat.zero_ne_one, ix_1_0, ix_2_0, ix_2_1, ix_3_0, ix_3_1, ix_3_2, ix_4_0, ix_4_1, ix_4_2, ix_4_3, ix_5_0, ix_5_1, ix_5_2, ix_5_3, ix_5_4, ix_6_0, ix_6_1, ix_6_2, ix_6_3, ix_6_4, ix_6_5, Nat.reduceLeDiff, Int.reduceAdd, Int.reduceSub, Int.reduceMul, Int.reduceNeg, Int.reducePow, Int.reduceLT, Int.reduceLE, Int.reduceEq, Int.reduceToNat, Bool.and_true, Bool.true_and, Bool.and_self, Bool.and_false, Bool.false_and, Bool.and_eq_true, Bool.and_eq_false_imp, and_self, WS_qdn, WS_qdr, WS_qde, WS_qdb, WS_qdc, qn1, qn2, qn3, qn4, qn5, qk1, qk5, lq1, lq2, lq3, lq4, lq5, intD_int, items_tup, items_rol, items_loc, listOf_loc, listOf_rol, isL_loc, nd_non, nd_bl, nd_int, nd_str, nd_tup, nd_rol, noDct_loc, at0, at1, at2, at3, at4, at5, atl1, atl2, atl3, atl4, lstAt_new, lstAt_h0, lstAt_h1, lstAt_h2, lstAt_h3, it_tup, it_rol, kTup_eq, kLen_eq, wipe0, wipe1, b_nm, b_un, b_nil, b_cnm, b_cun, Option.bind_some, List.set_cons_zero, List.set_cons_succ, List.length_cons, List.length_nil, List.nil_append, List.cons_append, List.append_nil, List.isEmpty_cons, List.isEmpty_nil, true_and, and_true, false_and, and_false, true_implies, forall_const, not_true_eq_false, not_false_eq_true, implies_true, decide_eq_true_eq, decide_eq_false_iff_not, Bool.not_eq_true', Bool.not_eq_false', Bool.not_true, Bool.not_false, if_true, if_false, Bool.false_eq_true, Bool.true_eq_false, reduceCtorEq, false_implies, eq_self, wm__law_middles, b__law_middles]
  refine ⟨by decide, ?_⟩
  refine W_cMap (fun _ y => ∃ a, y = shD a ∧ a.length = n) (fun S' => FlowOk S' ∧ Fk 3 S S') ⟨hF, Fk.refl _ _⟩ (by decide) (fun _ _ => trivial) ?_ ?_
  · rintro d S1 - ⟨F1, K1⟩
    simp only [↓reduceIte, ↓W_ok, ↓W_exn, ↓W_var0, ↓W_varS, ↓W_K, ↓W_bin, ↓W_un, ↓W_aNil, ↓W_aCons, ↓W_arg, ↓W_call, ↓W_of, ↓WB_test, ↓tc_bl, ↓WB_tru, ↓trc, ↓WB_and, ↓WB_or, ↓WB_not, ↓W_if, ↓W_andV, ↓W_orV, ↓W_notV, ↓WM_some, ↓WM_none, ↓WO_some, ↓tr_bl, ↓tr_non, ↓tr_int, ↓tr_tup, ↓tr_rol, ↓WS_nx, ↓WS_rt, ↓WS_ct, ↓WS_bk, ↓WS_exn, ↓WS_seq, ↓WS_nil, ↓WS_retN, ↓WS_break, ↓WS_cont, ↓WS_expr, ↓WS_ret, ↓WS_if, ↓WS_set, ↓WS_par, ↓WS_asg, ↓WS_gSet, ↓WS_gN, ↓WS_gC, ↓WS_gUn, ↓WS_gSub, ↓WS_aug, ↓o_add, ↓o_iadd, ↓o_sub, ↓o_neg, ↓o_mul, ↓o_mod, ↓o_div, ↓o_pow, ↓o_addT, ↓o_addS, ↓o_addL, ↓o_lt, ↓o_le, ↓o_gt, ↓o_ge, ↓o_eq, ↓o_ne, ↓o_eqS, ↓o_neS, ↓o_eqB, ↓o_neB, ↓o_eqT, ↓o_neT, ↓o_eqN, ↓o_neN, ↓o_ltT, ↓o_leT, ↓o_is, ↓o_isnot, ↓o_isB, ↓o_isnotB, ↓o_inT, ↓o_ninT, ↓o_inL, ↓o_ninL, ↓o_ixT, ↓o_ixR, ↓o_ixL, ↓o_rev, ↓o_ixS, ↓o_str, ↓o_strS, ↓o_set, ↓o_lenT, ↓o_lenR, ↓o_lenL, ↓o_lenS, ↓o_int, ↓o_intT, ↓o_intF, ↓o_abs, ↓o_max, ↓o_min, ↓o_tuple, ↓o_listXt, ↓o_listXr, ↓o_listXl, ↓o_listXs, ↓o_sortedXt, ↓o_tup0, ↓o_tup1, ↓o_tup2, ↓o_tup3, ↓o_tup4, ↓o_tup5, ↓o_tup6, ↓o_lst0, ↓o_lst1, ↓o_lst2, ↓o_lst3, ↓o_lst4, ↓o_lst5, ↓o_lst6, ↓o_sum, ↓W_meth, ↓o_append, ↓o_extend, ↓o_popAt, ↓W_cut, ↓W_noPart, ↓W_part, ↓o_cutT, ↓o_cutR, ↓o_cutL, ↓W_isi, ↓W_ch, ↓WS_for, ↓WI_iter, ↓WI_range1, ↓WI_range2, ↓WI_range3, ↓WI_enum, ↓WI_zip2, ↓WI_zip3, ↓W_callK, ↓WS_f0, ↓WS_f1, ↓W_alloc, ↓W_ofL, ↓W_comp, ↓WB_yes, ↓W_c0, ↓W_c1, ↓W_listRg, ↓W_tupRg, ↓W_rRange1, ↓W_rRange2, Option.isSome_some, z2_t, z3_t, perm_nil, perm_cons, List.getD_cons_zero, List.getD_cons_succ, o_intT, o_intF, o_intB, o_ixL, o_ixT, beq_self_eq_true, decide_true, decide_false, okEq, okCmp, okIn, D.fits, D.fitsL, D.dep, D.depL, D.eqv, D.eqvL, D.alike, D.alikeL, isBl_bl, isN_non, isN_bl, isN_int, isN_str, isN_tup, isN_rol, isN_loc, Nat.reduceAdd, Nat.reduceSub, Nat.max_self, Nat.min_self, Nat.max_zero, Nat.zero_max, Nat.min_zero, Nat.zero_min, ty_non, ty_bl, ty_int, ty_str, ty_tup, ty_rol, ty_loc, kb_bool_bool, kb_bool_int, kb_bool_str, kb_bool_tuple, kb_bool_list, kb_int_bool, kb_int_int, kb_int_str, kb_int_tuple, kb_int_list, kb_str_bool, kb_str_int, kb_str_str, kb_str_tuple, kb_str_list, kb_tuple_bool, kb_tuple_int, kb_tuple_str, kb_tuple_tuple, kb_tuple_list, kb_list_bool, kb_list_int, kb_list_str, kb_list_tuple, kb_list_list, kb_NoneType_bool, kb_NoneType_int, kb_NoneType_str, kb_NoneType_tuple, kb_NoneType_list, Nat.zero_add, c02, lstAt_setE, Option.map_some, lstAt_set_ne, ne_eq, Nat.reduceEqDiff, Nat.one_ne_zero, Nat.zero_ne_one, ix_1_0, ix_2_0, ix_2_1, ix_3_0, ix_3_1, ix_3_2, ix_4_0, ix_4_1, ix_4_2, ix_4_3, ix_5_0, ix_5_1, ix_5_2, ix_5_3, ix_5_4, ix_6_0, ix_6_1, ix_6_2, ix_6_3, ix_6_4, ix_6_5, Nat.reduceLeDiff, Int.reduceAdd, Int.reduceSub, Int.reduceMul, Int.reduceNeg, Int.reducePow, Int.reduceLT, Int.reduceLE, Int.reduceEq, Int.reduceToNat, Bool.and_true, Bool.true_and, Bool.and_self, Bool.and_false, Bool.false_and, Bool.and_eq_true, Bool.and_eq_false_imp, and_self, WS_qdn, WS_qdr, WS_qde, WS_qdb, WS_qdc, qn1, qn2, qn3, qn4, qn5, qk1, qk5, lq1, lq2, lq3, lq4, lq5, intD_int, items_tup, items_rol, items_loc, listOf_loc, listOf_rol, isL_loc, nd_non, nd_bl, nd_int, nd_str, nd_tup, nd_rol, noDct_loc, at0, at1, at2, at3, at4, at5, atl1, atl2, atl3, atl4, lstAt_new, lstAt_h0, lstAt_h1, lstAt_h2, lstAt_h3, it_tup, it_rol, kTup_eq, kLen_eq, wipe0, wipe1, b_nm, b_un, b_nil, b_cnm, b_cun, Option.bind_some, List.set_cons_zero, List.set_cons_succ, List.length_cons, List.length_nil, List.nil_append, List.cons_append, List.append_nil, List.isEmpty_cons, List.isEmpty_nil, true_and, and_true, false_and, and_false, true_implies, forall_const, not_true_eq_false, not_false_eq_true, implies_true, decide_eq_true_eq, decide_eq_false_iff_not, Bool.not_eq_true', Bool.not_eq_false', Bool.not_true, Bool.not_false, if_true, if_false, Bool.false_eq_true, Bool.true_eq_false, reduceCtorEq, false_implies, eq_self]
    refine draw_w F1 (by rw [List.length_map]; omega) (by rw [List.length_map]; omega) fun v S2 v0 v1 F2 K2 => ?_
    rw [List.length_map] at v1
    simp only [↓reduceIte, ↓W_ok, ↓W_exn, ↓W_var0, ↓W_varS, ↓W_K, ↓W_bin, ↓W_un, ↓W_aNil, ↓W_aCons, ↓W_arg, ↓W_call, ↓W_of, ↓WB_test, ↓tc_bl, ↓WB_tru, ↓trc, ↓WB_and, ↓WB_or, ↓WB_not, ↓W_if, ↓W_andV, ↓W_orV, ↓W_notV, ↓WM_some, ↓WM_none, ↓WO_some, ↓tr_bl, ↓tr_non, ↓tr_int, ↓tr_tup, ↓tr_rol, ↓WS_nx, ↓WS_rt, ↓WS_ct, ↓WS_bk, ↓WS_exn, ↓WS_seq, ↓WS_nil, ↓WS_retN, ↓WS_break, ↓WS_cont, ↓WS_expr, ↓WS_ret, ↓WS_if, ↓WS_set, ↓WS_par, ↓WS_asg, ↓WS_gSet, ↓WS_gN, ↓WS_gC, ↓WS_gUn, ↓WS_gSub, ↓WS_aug, ↓o_add, ↓o_iadd, ↓o_sub, ↓o_neg, ↓o_mul, ↓o_mod, ↓o_div, ↓o_pow, ↓o_addT, ↓o_addS, ↓o_addL, ↓o_lt, ↓o_le, ↓o_gt, ↓o_ge, ↓o_eq, ↓o_ne, ↓o_eqS, ↓o_neS, ↓o_eqB, ↓o_neB, ↓o_eqT, ↓o_neT, ↓o_eqN, ↓o_neN, ↓o_ltT, ↓o_leT, ↓o_is, ↓o_isnot, ↓o_isB, ↓o_isnotB, ↓o_inT, ↓o_ninT, ↓o_inL, ↓o_ninL, ↓o_ixT, ↓o_ixR, ↓o_ixL, ↓o_rev, ↓o_ixS, ↓o_str, ↓o_strS, ↓o_set, ↓o_lenT, ↓o_lenR, ↓o_lenL, ↓o_lenS, ↓o_int, ↓o_intT, ↓o_intF, ↓o_abs, ↓o_max, ↓o_min, ↓o_tuple, ↓o_listXt, ↓o_listXr, ↓o_listXl, ↓o_listXs, ↓o_sortedXt, ↓o_tup0, ↓o_tup1, ↓o_tup2, ↓o_tup3, ↓o_tup4, ↓o_tup5, ↓o_tup6, ↓o_lst0, ↓o_lst1, ↓o_lst2, ↓o_lst3, ↓o_lst4, ↓o_lst5, ↓o_lst6, ↓o_sum, ↓W_meth, ↓o_append, ↓o_extend, ↓o_popAt, ↓W_cut, ↓W_noPart, ↓W_part, ↓o_cutT, ↓o_cutR, ↓o_cutL, ↓W_isi, ↓W_ch, ↓WS_for, ↓WI_iter, ↓WI_range1, ↓WI_range2, ↓WI_range3, ↓WI_enum, ↓WI_zip2, ↓WI_zip3, ↓W_callK, ↓WS_f0, ↓WS_f1, ↓W_alloc, ↓W_ofL, ↓W_comp, ↓WB_yes, ↓W_c0, ↓W_c1, ↓W_listRg, ↓W_tupRg, ↓W_rRange1, ↓W_rRange2, Option.isSome_some, z2_t, z3_t, perm_nil, perm_cons, List.getD_cons_zero, List.getD_cons_succ, o_intT, o_intF, o_intB, o_ixL, o_ixT, beq_self_eq_true, decide_true, decide_false, okEq, okCmp, okIn, D.fits, D.fitsL, D.dep, D.depL, D.eqv, D.eqvL, D.alike, D.alikeL, isBl_bl, isN_non, isN_bl, isN_int, isN_str, isN_tup, isN_rol, isN_loc, Nat.reduceAdd, Nat.reduceSub, Nat.max_self, Nat.min_self, Nat.max_zero, Nat.zero_max, Nat.min_zero, Nat.zero_min, ty_non, ty_bl, ty_int, ty_str, ty_tup, ty_rol, ty_loc, kb_bool_bool, kb_bool_int, kb_bool_str, kb_bool_tuple, kb_bool_list, kb_int_bool, kb_int_int, kb_int_str, kb_int_tuple, kb_int_list, kb_str_bool, kb_str_int, kb_str_str, kb_str_tuple, kb_str_list, kb_tuple_bool, kb_tuple_int, kb_tuple_str, kb_tuple_tuple, kb_tuple_list, kb_list_bool, kb_list_int, kb_list_str, kb_list_tuple, kb_list_list, kb_NoneType_bool, kb_NoneType_int, kb_NoneType_str, kb_NoneType_tuple, kb_NoneType_list, Nat.zero_add, c02, lstAt_setE, Option.map_some, lstAt_set_ne, ne_eq, Nat.reduceEqDiff, Nat.one_ne_zero, Nat.zero_ne_one, ix_1_0, ix_2_0, ix_2_1, ix_3_0, ix_3_1, ix_3_2, ix_4_0, ix_4_1, ix_4_2, ix_4_3, ix_5_0, ix_5_1, ix_5_2, ix_5_3, ix_5_4, ix_6_0, ix_6_1, ix_6_2, ix_6_3, ix_6_4, ix_6_5, Nat.reduceLeDiff, Int.reduceAdd, Int.reduceSub, Int.reduceMul, Int.reduceNeg, Int.reducePow, Int.reduceLT, Int.reduceLE, Int.reduceEq, Int.reduceToNat, Bool.and_true, Bool.true_and, Bool.and_self, Bool.and_false, Bool.false_and, Bool.and_eq_true, Bool.and_eq_false_imp, and_self, WS_qdn, WS_qdr, WS_qde, WS_qdb, WS_qdc, qn1, qn2, qn3, qn4, qn5, qk1, qk5, lq1, lq2, lq3, lq4, lq5, intD_int, items_tup, items_rol, items_loc, listOf_loc, listOf_rol, isL_loc, nd_non, nd_bl, nd_int, nd_str, nd_tup, nd_rol, noDct_loc, at0, at1, at2, at3, at4, at5, atl1, atl2, atl3, atl4, lstAt_new, lstAt_h0, lstAt_h1, lstAt_h2, lstAt_h3, it_tup, it_rol, kTup_eq, kLen_eq, wipe0, wipe1, b_nm, b_un, b_nil, b_cnm, b_cun, Option.bind_some, List.set_cons_zero, List.set_cons_succ, List.length_cons, List.length_nil, List.nil_append, List.cons_append, List.append_nil, List.isEmpty_cons, List.isEmpty_nil, true_and, and_true, false_and, and_false, true_implies, forall_const, not_true_eq_false, not_false_eq_true, implies_true, decide_eq_true_eq, decide_eq_false_iff_not, Bool.not_eq_true', Bool.not_eq_false', Bool.not_true, Bool.not_false, if_true, if_false, Bool.false_eq_true, Bool.true_eq_false, reduceCtorEq, false_implies, eq_self, atL_at v0 v1]
    exact ⟨⟨_, rfl, hA _ (atL_mem v0 v1)⟩, F2, K1.trans K2⟩
  · rintro ys S1 ⟨F1, K1⟩ hy
    have hl := hy.length
    have hr := hy.right (R := fun y => ∃ a, y = shD a ∧ a.length = n) fun _ _ h => h
    rw [intsTo_len] at hl
    rcases ys with _ | ⟨p, _ | ⟨q, _ | ⟨r, _ | ⟨s, t⟩⟩⟩⟩ <;> simp at hl
    obtain ⟨a, rfl, ha⟩ := hr p (by simp)
    obtain ⟨b, rfl, hb⟩ := hr q (by simp)
    obtain ⟨c, rfl, hc⟩ := hr r (by simp)
    have hs1 := F1.len
    simp only [↓reduceIte, ↓W_ok, ↓W_exn, ↓W_var0, ↓W_varS, ↓W_K, ↓W_bin, ↓W_un, ↓W_aNil, ↓W_aCons, ↓W_arg, ↓W_call, ↓W_of, ↓WB_test, ↓tc_bl, ↓WB_tru, ↓trc, ↓WB_and, ↓WB_or, ↓WB_not, ↓W_if, ↓W_andV, ↓W_orV, ↓W_notV, ↓WM_some, ↓WM_none, ↓WO_some, ↓tr_bl, ↓tr_non, ↓tr_int, ↓tr_tup, ↓tr_rol, ↓WS_nx, ↓WS_rt, ↓WS_ct, ↓WS_bk, ↓WS_exn, ↓WS_seq, ↓WS_nil, ↓WS_retN, ↓WS_break, ↓WS_cont, ↓WS_expr, ↓WS_ret, ↓WS_if, ↓WS_set, ↓WS_par, ↓WS_asg, ↓WS_gSet, ↓WS_gN, ↓WS_gC, ↓WS_gUn, ↓WS_gSub, ↓WS_aug, ↓o_add, ↓o_iadd, ↓o_sub, ↓o_neg, ↓o_mul, ↓o_mod, ↓o_div, ↓o_pow, ↓o_addT, ↓o_addS, ↓o_addL, ↓o_lt, ↓o_le, ↓o_gt, ↓o_ge, ↓o_eq, ↓o_ne, ↓o_eqS, ↓o_neS, ↓o_eqB, ↓o_neB, ↓o_eqT, ↓o_neT, ↓o_eqN, ↓o_neN, ↓o_ltT, ↓o_leT, ↓o_is, ↓o_isnot, ↓o_isB, ↓o_isnotB, ↓o_inT, ↓o_ninT, ↓o_inL, ↓o_ninL, ↓o_ixT, ↓o_ixR, ↓o_ixL, ↓o_rev, ↓o_ixS, ↓o_str, ↓o_strS, ↓o_set, ↓o_lenT, ↓o_lenR, ↓o_lenL, ↓o_lenS, ↓o_int, ↓o_intT, ↓o_intF, ↓o_abs, ↓o_max, ↓o_min, ↓o_tuple, ↓o_listXt, ↓o_listXr, ↓o_listXl, ↓o_listXs, ↓o_sortedXt, ↓o_tup0, ↓o_tup1, ↓o_tup2, ↓o_tup3, ↓o_tup4, ↓o_tup5, ↓o_tup6, ↓o_lst0, ↓o_lst1, ↓o_lst2, ↓o_lst3, ↓o_lst4, ↓o_lst5, ↓o_lst6, ↓o_sum, ↓W_meth, ↓o_append, ↓o_extend, ↓o_popAt, ↓W_cut, ↓W_noPart, ↓W_part, ↓o_cutT, ↓o_cutR, ↓o_cutL, ↓W_isi, ↓W_ch, ↓WS_for, ↓WI_iter, ↓WI_range1, ↓WI_range2, ↓WI_range3, ↓WI_enum, ↓WI_zip2, ↓WI_zip3, ↓W_callK, ↓WS_f0, ↓WS_f1, ↓W_alloc, ↓W_ofL, ↓W_comp, ↓WB_yes, ↓W_c0, ↓W_c1, ↓W_listRg, ↓W_tupRg, ↓W_rRange1, ↓W_rRange2, Option.isSome_some, z2_t, z3_t, perm_nil, perm_cons, List.getD_cons_zero, List.getD_cons_succ, o_intT, o_intF, o_intB, o_ixL, o_ixT, beq_self_eq_true, decide_true, decide_false, okEq, okCmp, okIn, D.fits, D.fitsL, D.dep, D.depL, D.eqv, D.eqvL, D.alike, D.alikeL, isBl_bl, isN_non, isN_bl, isN_int, isN_str, isN_tup, isN_rol, isN_loc, Nat.reduceAdd, Nat.reduceSub, Nat.max_self, Nat.min_self, Nat.max_zero, Nat.zero_max, Nat.min_zero, Nat.zero_min, ty_non, ty_bl, ty_int, ty_str, ty_tup, ty_rol, ty_loc, kb_bool_bool, kb_bool_int, kb_bool_str, kb_bool_tuple, kb_bool_list, kb_int_bool, kb_int_int, kb_int_str, kb_int_tuple, kb_int_list, kb_str_bool, kb_str_int, kb_str_str, kb_str_tuple, kb_str_list, kb_tuple_bool, kb_tuple_int, kb_tuple_str, kb_tuple_tuple, kb_tuple_list, kb_list_bool, kb_list_int, kb_list_str, kb_list_tuple, kb_list_list, kb_NoneType_bool, kb_NoneType_int, kb_NoneType_str, kb_NoneType_tuple, kb_NoneType_list, Nat.zero_add, c02, lstAt_setE, Option.map_some, lstAt_set_ne, ne_eq, Nat.reduceEqDiff, Nat.one_ne_zero, Nat.zero_ne_one, ix_1_0, ix_2_0, ix_2_1, ix_3_0, ix_3_1, ix_3_2, ix_4_0, ix_4_1, ix_4_2, ix_4_3, ix_5_0, ix_5_1, ix_5_2, ix_5_3, ix_5_4, ix_6_0, ix_6_1, ix_6_2, ix_6_3, ix_6_4, ix_6_5, Nat.reduceLeDiff, Int.reduceAdd, Int.reduceSub, Int.reduceMul, Int.reduceNeg, Int.reducePow, Int.reduceLT, Int.reduceLE, Int.reduceEq, Int.reduceToNat, Bool.and_true, Bool.true_and, Bool.and_self, Bool.and_false, Bool.false_and, Bool.and_eq_true, Bool.and_eq_false_imp, and_self, WS_qdn, WS_qdr, WS_qde, WS_qdb, WS_qdc, qn1, qn2, qn3, qn4, qn5, qk1, qk5, lq1, lq2, lq3, lq4, lq5, intD_int, items_tup, items_rol, items_loc, listOf_loc, listOf_rol, isL_loc, nd_non, nd_bl, nd_int, nd_str, nd_tup, nd_rol, noDct_loc, at0, at1, at2, at3, at4, at5, atl1, atl2, atl3, atl4, lstAt_new, lstAt_h0, lstAt_h1, lstAt_h2, lstAt_h3, it_tup, it_rol, kTup_eq, kLen_eq, wipe0, wipe1, b_nm, b_un, b_nil, b_cnm, b_cun, Option.bind_some, List.set_cons_zero, List.set_cons_succ, List.length_cons, List.length_nil, List.nil_append, List.cons_append, List.append_nil, List.isEmpty_cons, List.isEmpty_nil, true_and, and_true, false_and, and_false, true_implies, forall_const, not_true_eq_false, not_false_eq_true, implies_true, decide_eq_true_eq, decide_eq_false_iff_not, Bool.not_eq_true', Bool.not_eq_false', Bool.not_true, Bool.not_false, if_true, if_false, Bool.false_eq_true, Bool.true_eq_false, reduceCtorEq, false_implies, eq_self]
    refine middle_l (by omega) fun S2 A2 => ?_
    simp only [↓reduceIte, ↓W_ok, ↓W_exn, ↓W_var0, ↓W_varS, ↓W_K, ↓W_bin, ↓W_un, ↓W_aNil, ↓W_aCons, ↓W_arg, ↓W_call, ↓W_of, ↓WB_test, ↓tc_bl, ↓WB_tru, ↓trc, ↓WB_and, ↓WB_or, ↓WB_not, ↓W_if, ↓W_andV, ↓W_orV, ↓W_notV, ↓WM_some, ↓WM_none, ↓WO_some, ↓tr_bl, ↓tr_non, ↓tr_int, ↓tr_tup, ↓tr_rol, ↓WS_nx, ↓WS_rt, ↓WS_ct, ↓WS_bk, ↓WS_exn, ↓WS_seq, ↓WS_nil, ↓WS_retN, ↓WS_break, ↓WS_cont, ↓WS_expr, ↓WS_ret, ↓WS_if, ↓WS_set, ↓WS_par, ↓WS_asg, ↓WS_gSet, ↓WS_gN, ↓WS_gC, ↓WS_gUn, ↓WS_gSub, ↓WS_aug, ↓o_add, ↓o_iadd, ↓o_sub, ↓o_neg, ↓o_mul, ↓o_mod, ↓o_div, ↓o_pow, ↓o_addT, ↓o_addS, ↓o_addL, ↓o_lt, ↓o_le, ↓o_gt, ↓o_ge, ↓o_eq, ↓o_ne, ↓o_eqS, ↓o_neS, ↓o_eqB, ↓o_neB, ↓o_eqT, ↓o_neT, ↓o_eqN, ↓o_neN, ↓o_ltT, ↓o_leT, ↓o_is, ↓o_isnot, ↓o_isB, ↓o_isnotB, ↓o_inT, ↓o_ninT, ↓o_inL, ↓o_ninL, ↓o_ixT, ↓o_ixR, ↓o_ixL, ↓o_rev, ↓o_ixS, ↓o_str, ↓o_strS, ↓o_set, ↓o_lenT, ↓o_lenR, ↓o_lenL, ↓o_lenS, ↓o_int, ↓o_intT, ↓o_intF, ↓o_abs, ↓o_max, ↓o_min, ↓o_tuple, ↓o_listXt, ↓o_listXr, ↓o_listXl, ↓o_listXs, ↓o_sortedXt, ↓o_tup0, ↓o_tup1, ↓o_tup2, ↓o_tup3, ↓o_tup4, ↓o_tup5, ↓o_tup6, ↓o_lst0, ↓o_lst1, ↓o_lst2, ↓o_lst3, ↓o_lst4, ↓o_lst5, ↓o_lst6, ↓o_sum, ↓W_meth, ↓o_append, ↓o_extend, ↓o_popAt, ↓W_cut, ↓W_noPart, ↓W_part, ↓o_cutT, ↓o_cutR, ↓o_cutL, ↓W_isi, ↓W_ch, ↓WS_for, ↓WI_iter, ↓WI_range1, ↓WI_range2, ↓WI_range3, ↓WI_enum, ↓WI_zip2, ↓WI_zip3, ↓W_callK, ↓WS_f0, ↓WS_f1, ↓W_alloc, ↓W_ofL, ↓W_comp, ↓WB_yes, ↓W_c0, ↓W_c1, ↓W_listRg, ↓W_tupRg, ↓W_rRange1, ↓W_rRange2, Option.isSome_some, z2_t, z3_t, perm_nil, perm_cons, List.getD_cons_zero, List.getD_cons_succ, o_intT, o_intF, o_intB, o_ixL, o_ixT, beq_self_eq_true, decide_true, decide_false, okEq, okCmp, okIn, D.fits, D.fitsL, D.dep, D.depL, D.eqv, D.eqvL, D.alike, D.alikeL, isBl_bl, isN_non, isN_bl, isN_int, isN_str, isN_tup, isN_rol, isN_loc, Nat.reduceAdd, Nat.reduceSub, Nat.max_self, Nat.min_self, Nat.max_zero, Nat.zero_max, Nat.min_zero, Nat.zero_min, ty_non, ty_bl, ty_int, ty_str, ty_tup, ty_rol, ty_loc, kb_bool_bool, kb_bool_int, kb_bool_str, kb_bool_tuple, kb_bool_list, kb_int_bool, kb_int_int, kb_int_str, kb_int_tuple, kb_int_list, kb_str_bool, kb_str_int, kb_str_str, kb_str_tuple, kb_str_list, kb_tuple_bool, kb_tuple_int, kb_tuple_str, kb_tuple_tuple, kb_tuple_list, kb_list_bool, kb_list_int, kb_list_str, kb_list_tuple, kb_list_list, kb_NoneType_bool, kb_NoneType_int, kb_NoneType_str, kb_NoneType_tuple, kb_NoneType_list, Nat.zero_add, c02, lstAt_setE, Option.map_some, lstAt_set_ne, ne_eq, Nat.reduceEqDiff, Nat.one_ne_zero, Nat.zero_ne_one, ix_1_0, ix_2_0, ix_2_1, ix_3_0, ix_3_1, ix_3_2, ix_4_0, ix_4_1, ix_4_2, ix_4_3, ix_5_0, ix_5_1, ix_5_2, ix_5_3, ix_5_4, ix_6_0, ix_6_1, ix_6_2, ix_6_3, ix_6_4, ix_6_5, Nat.reduceLeDiff, Int.reduceAdd, Int.reduceSub, Int.reduceMul, Int.reduceNeg, Int.reducePow, Int.reduceLT, Int.reduceLE, Int.reduceEq, Int.reduceToNat, Bool.and_true, Bool.true_and, Bool.and_self, Bool.and_false, Bool.false_and, Bool.and_eq_true, Bool.and_eq_false_imp, and_self, WS_qdn, WS_qdr, WS_qde, WS_qdb, WS_qdc, qn1, qn2, qn3, qn4, qn5, qk1, qk5, lq1, lq2, lq3, lq4, lq5, intD_int, items_tup, items_rol, items_loc, listOf_loc, listOf_rol, isL_loc, nd_non, nd_bl, nd_int, nd_str, nd_tup, nd_rol, noDct_loc, at0, at1, at2, at3, at4, at5, atl1, atl2, atl3, atl4, lstAt_new, lstAt_h0, lstAt_h1, lstAt_h2, lstAt_h3, it_tup, it_rol, kTup_eq, kLen_eq, wipe0, wipe1, b_nm, b_un, b_nil, b_cnm, b_cun, Option.bind_some, List.set_cons_zero, List.set_cons_succ, List.length_cons, List.length_nil, List.nil_append, List.cons_append, List.append_nil, List.isEmpty_cons, List.isEmpty_nil, true_and, and_true, false_and, and_false, true_implies, forall_const, not_true_eq_false, not_false_eq_true, implies_true, decide_eq_true_eq, decide_eq_false_iff_not, Bool.not_eq_true', Bool.not_eq_false', Bool.not_true, Bool.not_false, if_true, if_false, Bool.false_eq_true, Bool.true_eq_false, reduceCtorEq, false_implies, eq_self]
    refine ⟨by decide, ?_⟩
    have hL2 : lstAt S2 S1.length = some [shD a, shD b, shD c] := A2.lst lstAt_new
    have F2 : FlowOk S2 := (F1.app _).ap A2
    have K2 : Fk 3 S S2 := (K1.app _).trans A2.fk
    refine WS_rloop (fun i σ S' => FlowOk S' ∧ Fk 3 S S' ∧ ∃ l ys p r1 r2 r3, σ = [some (.loc 2), some (.tup (ts.map shD)), some (.loc l), some (shD (midL a b c)), p, r1, r2, r3] ∧ 3 ≤ l ∧ lstAt S' l = some ys ∧ M3 n (midL a b c) ys)
      ⟨F2, K2, _, _, _, _, _, _, rfl, by omega, hL2, _, _, _, rfl, ⟨ha, hb, hc⟩, rfl⟩ ?_ ?_
    · rintro i σ S3 i0 i1 ⟨F3, K3, l, ys, p, r1, r2, r3, rfl, hl3, hL3, hM⟩
      have hyl : ys.length = 3 := by obtain ⟨_, _, _, rfl, _⟩ := hM; rfl
      simp only [↓reduceIte, ↓W_ok, ↓W_exn, ↓W_var0, ↓W_varS, ↓W_K, ↓W_bin, ↓W_un, ↓W_aNil, ↓W_aCons, ↓W_arg, ↓W_call, ↓W_of, ↓WB_test, ↓tc_bl, ↓WB_tru, ↓trc, ↓WB_and, ↓WB_or, ↓WB_not, ↓W_if, ↓W_andV, ↓W_orV, ↓W_notV, ↓WM_some, ↓WM_none, ↓WO_some, ↓tr_bl, ↓tr_non, ↓tr_int, ↓tr_tup, ↓tr_rol, ↓WS_nx, ↓WS_rt, ↓WS_ct, ↓WS_bk, ↓WS_exn, ↓WS_seq, ↓WS_nil, ↓WS_retN, ↓WS_break, ↓WS_cont, ↓WS_expr, ↓WS_ret, ↓WS_if, ↓WS_set, ↓WS_par, ↓WS_asg, ↓WS_gSet, ↓WS_gN, ↓WS_gC, ↓WS_gUn, ↓WS_gSub, ↓WS_aug, ↓o_add, ↓o_iadd, ↓o_sub, ↓o_neg, ↓o_mul, ↓o_mod, ↓o_div, ↓o_pow, ↓o_addT, ↓o_addS, ↓o_addL, ↓o_lt, ↓o_le, ↓o_gt, ↓o_ge, ↓o_eq, ↓o_ne, ↓o_eqS, ↓o_neS, ↓o_eqB, ↓o_neB, ↓o_eqT, ↓o_neT, ↓o_eqN, ↓o_neN, ↓o_ltT, ↓o_leT, ↓o_is, ↓o_isnot, ↓o_isB, ↓o_isnotB, ↓o_inT, ↓o_ninT, ↓o_inL, ↓o_ninL, ↓o_ixT, ↓o_ixR, ↓o_ixL, ↓o_rev, ↓o_ixS, ↓o_str, ↓o_strS, ↓o_set, ↓o_lenT, ↓o_lenR, ↓o_lenL, ↓o_lenS, ↓o_int, ↓o_intT, ↓o_intF, ↓o_abs, ↓o_max, ↓o_min, ↓o_tuple, ↓o_listXt, ↓o_listXr, ↓o_listXl, ↓o_listXs, ↓o_sortedXt, ↓o_tup0, ↓o_tup1, ↓o_tup2, ↓o_tup3, ↓o_tup4, ↓o_tup5, ↓o_tup6, ↓o_lst0, ↓o_lst1, ↓o_lst2, ↓o_lst3, ↓o_lst4, ↓o_lst5, ↓o_lst6, ↓o_sum, ↓W_meth, ↓o_append, ↓o_extend, ↓o_popAt, ↓W_cut, ↓W_noPart, ↓W_part, ↓o_cutT, ↓o_cutR, ↓o_cutL, ↓W_isi, ↓W_ch, ↓WS_for, ↓WI_iter, ↓WI_range1, ↓WI_range2, ↓WI_range3, ↓WI_enum, ↓WI_zip2, ↓WI_zip3, ↓W_callK, ↓WS_f0, ↓WS_f1, ↓W_alloc, ↓W_ofL, ↓W_comp, ↓WB_yes, ↓W_c0, ↓W_c1, ↓W_listRg, ↓W_tupRg, ↓W_rRange1, ↓W_rRange2, Option.isSome_some, z2_t, z3_t, perm_nil, perm_cons, List.getD_cons_zero, List.getD_cons_succ, o_intT, o_intF, o_intB, o_ixL, o_ixT, beq_self_eq_true, decide_true, decide_false, okEq, okCmp, okIn, D.fits, D.fitsL, D.dep, D.depL, D.eqv, D.eqvL, D.alike, D.alikeL, isBl_bl, isN_non, isN_bl, isN_int, isN_str, isN_tup, isN_rol, isN_loc, Nat.reduceAdd, Nat.reduceSub, Nat.max_self, Nat.min_self, Nat.max_zero, Nat.zero_max, Nat.min_zero, Nat.zero_min, ty_non, ty_bl, ty_int, ty_str, ty_tup, ty_rol, ty_loc, kb_bool_bool, kb_bool_int, kb_bool_str, kb_bool_tuple, kb_bool_list, kb_int_bool, kb_int_int, kb_int_str, kb_int_tuple, kb_int_list, kb_str_bool, kb_str_int, kb_str_str, kb_str_tuple, kb_str_list, kb_tuple_bool, kb_tuple_int, kb_tuple_str, kb_tuple_tuple, kb_tuple_list, kb_list_bool, kb_list_int, kb_list_str, kb_list_tuple, kb_list_list, kb_NoneType_bool, kb_NoneType_int, kb_NoneType_str, kb_NoneType_tuple, kb_NoneType_list, Nat.zero_add, c02, lstAt_setE, Option.map_some, lstAt_set_ne, ne_eq, Nat.reduceEqDiff, Nat.one_ne_zero, Nat.zero_ne_one, ix_1_0, ix_2_0, ix_2_1, ix_3_0, ix_3_1, ix_3_2, ix_4_0, ix_4_1, ix_4_2, ix_4_3, ix_5_0, ix_5_1, ix_5_2, ix_5_3, ix_5_4, ix_6_0, ix_6_1, ix_6_2, ix_6_3, ix_6_4, ix_6_5, Nat.reduceLeDiff, Int.reduceAdd, Int.reduceSub, Int.reduceMul, Int.reduceNeg, Int.reducePow, Int.reduceLT, Int.reduceLE, Int.reduceEq, Int.reduceToNat, Bool.and_true, Bool.true_and, Bool.and_self, Bool.and_false, Bool.false_and, Bool.and_eq_true, Bool.and_eq_false_imp, and_self, WS_qdn, WS_qdr, WS_qde, WS_qdb, WS_qdc, qn1, qn2, qn3, qn4, qn5, qk1, qk5, lq1, lq2, lq3, lq4, lq5, intD_int, items_tup, items_rol, items_loc, listOf_loc, listOf_rol, isL_loc, nd_non, nd_bl, nd_int, nd_str, nd_tup, nd_rol, noDct_loc, at0, at1, at2, at3, at4, at5, atl1, atl2, atl3, atl4, lstAt_new, lstAt_h0, lstAt_h1, lstAt_h2, lstAt_h3, it_tup, it_rol, kTup_eq, kLen_eq, wipe0, wipe1, b_nm, b_un, b_nil, b_cnm, b_cun, Option.bind_some, List.set_cons_zero, List.set_cons_succ, List.length_cons, List.length_nil, List.nil_append, List.cons_append, List.append_nil, List.isEmpty_cons, List.isEmpty_nil, true_and, and_true, false_and, and_false, true_implies, forall_const, not_true_eq_false, not_false_eq_true, implies_true, decide_eq_true_eq, decide_eq_false_iff_not, Bool.not_eq_true', Bool.not_eq_false', Bool.not_true, Bool.not_false, if_true, if_false, Bool.false_eq_true, Bool.true_eq_false, reduceCtorEq, false_implies, eq_self]
      refine shuf_w F3 (by rw [items_loc]; exact hL3) (by omega) fun l' zs S4 hl4 hL4 hP F4 K4 => ?_
      have hM' := hM.perm hP
      obtain ⟨a', b', c', rfl, ⟨ha', hb', hc'⟩, hm⟩ := hM'
      have := F3.len
      simp only [↓reduceIte, ↓W_ok, ↓W_exn, ↓W_var0, ↓W_varS, ↓W_K, ↓W_bin, ↓W_un, ↓W_aNil, ↓W_aCons, ↓W_arg, ↓W_call, ↓W_of, ↓WB_test, ↓tc_bl, ↓WB_tru, ↓trc, ↓WB_and, ↓WB_or, ↓WB_not, ↓W_if, ↓W_andV, ↓W_orV, ↓W_notV, ↓WM_some, ↓WM_none, ↓WO_some, ↓tr_bl, ↓tr_non, ↓tr_int, ↓tr_tup, ↓tr_rol, ↓WS_nx, ↓WS_rt, ↓WS_ct, ↓WS_bk, ↓WS_exn, ↓WS_seq, ↓WS_nil, ↓WS_retN, ↓WS_break, ↓WS_cont, ↓WS_expr, ↓WS_ret, ↓WS_if, ↓WS_set, ↓WS_par, ↓WS_asg, ↓WS_gSet, ↓WS_gN, ↓WS_gC, ↓WS_gUn, ↓WS_gSub, ↓WS_aug, ↓o_add, ↓o_iadd, ↓o_sub, ↓o_neg, ↓o_mul, ↓o_mod, ↓o_div, ↓o_pow, ↓o_addT, ↓o_addS, ↓o_addL, ↓o_lt, ↓o_le, ↓o_gt, ↓o_ge, ↓o_eq, ↓o_ne, ↓o_eqS, ↓o_neS, ↓o_eqB, ↓o_neB, ↓o_eqT, ↓o_neT, ↓o_eqN, ↓o_neN, ↓o_ltT, ↓o_leT, ↓o_is, ↓o_isnot, ↓o_isB, ↓o_isnotB, ↓o_inT, ↓o_ninT, ↓o_inL, ↓o_ninL, ↓o_ixT, ↓o_ixR, ↓o_ixL, ↓o_rev, ↓o_ixS, ↓o_str, ↓o_strS, ↓o_set, ↓o_lenT, ↓o_lenR, ↓o_lenL, ↓o_lenS, ↓o_int, ↓o_intT, ↓o_intF, ↓o_abs, ↓o_max, ↓o_min, ↓o_tuple, ↓o_listXt, ↓o_listXr, ↓o_listXl, ↓o_listXs, ↓o_sortedXt, ↓o_tup0, ↓o_tup1, ↓o_tup2, ↓o_tup3, ↓o_tup4, ↓o_tup5, ↓o_tup6, ↓o_lst0, ↓o_lst1, ↓o_lst2, ↓o_lst3, ↓o_lst4, ↓o_lst5, ↓o_lst6, ↓o_sum, ↓W_meth, ↓o_append, ↓o_extend, ↓o_popAt, ↓W_cut, ↓W_noPart, ↓W_part, ↓o_cutT, ↓o_cutR, ↓o_cutL, ↓W_isi, ↓W_ch, ↓WS_for, ↓WI_iter, ↓WI_range1, ↓WI_range2, ↓WI_range3, ↓WI_enum, ↓WI_zip2, ↓WI_zip3, ↓W_callK, ↓WS_f0, ↓WS_f1, ↓W_alloc, ↓W_ofL, ↓W_comp, ↓WB_yes, ↓W_c0, ↓W_c1, ↓W_listRg, ↓W_tupRg, ↓W_rRange1, ↓W_rRange2, Option.isSome_some, z2_t, z3_t, perm_nil, perm_cons, List.getD_cons_zero, List.getD_cons_succ, o_intT, o_intF, o_intB, o_ixL, o_ixT, beq_self_eq_true, decide_true, decide_false, okEq, okCmp, okIn, D.fits, D.fitsL, D.dep, D.depL, D.eqv, D.eqvL, D.alike, D.alikeL, isBl_bl, isN_non, isN_bl, isN_int, isN_str, isN_tup, isN_rol, isN_loc, Nat.reduceAdd, Nat.reduceSub, Nat.max_self, Nat.min_self, Nat.max_zero, Nat.zero_max, Nat.min_zero, Nat.zero_min, ty_non, ty_bl, ty_int, ty_str, ty_tup, ty_rol, ty_loc, kb_bool_bool, kb_bool_int, kb_bool_str, kb_bool_tuple, kb_bool_list, kb_int_bool, kb_int_int, kb_int_str, kb_int_tuple, kb_int_list, kb_str_bool, kb_str_int, kb_str_str, kb_str_tuple, kb_str_list, kb_tuple_bool, kb_tuple_int, kb_tuple_str, kb_tuple_tuple, kb_tuple_list, kb_list_bool, kb_list_int, kb_list_str, kb_list_tuple, kb_list_list, kb_NoneType_bool, kb_NoneType_int, kb_NoneType_str, kb_NoneType_tuple, kb_NoneType_list, Nat.zero_add, c02, lstAt_setE, Option.map_some, lstAt_set_ne, ne_eq, Nat.reduceEqDiff, Nat.one_ne_zero, Nat.zero_ne_one, ix_1_0, ix_2_0, ix_2_1, ix_3_0, ix_3_1, ix_3_2, ix_4_0, ix_4_1, ix_4_2, ix_4_3, ix_5_0, ix_5_1, ix_5_2, ix_5_3, ix_5_4, ix_6_0, ix_6_1, ix_6_2, ix_6_3, ix_6_4, ix_6_5, Nat.reduceLeDiff, Int.reduceAdd, Int.reduceSub, Int.reduceMul, Int.reduceNeg, Int.reducePow, Int.reduceLT, Int.reduceLE, Int.reduceEq, Int.reduceToNat, Bool.and_true, Bool.true_and, Bool.and_self, Bool.and_false, Bool.false_and, Bool.and_eq_true, Bool.and_eq_false_imp, and_self, WS_qdn, WS_qdr, WS_qde, WS_qdb, WS_qdc, qn1, qn2, qn3, qn4, qn5, qk1, qk5, lq1, lq2, lq3, lq4, lq5, intD_int, items_tup, items_rol, items_loc, listOf_loc, listOf_rol, isL_loc, nd_non, nd_bl, nd_int, nd_str, nd_tup, nd_rol, noDct_loc, at0, at1, at2, at3, at4, at5, atl1, atl2, atl3, atl4, lstAt_new, lstAt_h0, lstAt_h1, lstAt_h2, lstAt_h3, it_tup, it_rol, kTup_eq, kLen_eq, wipe0, wipe1, b_nm, b_un, b_nil, b_cnm, b_cun, Option.bind_some, List.set_cons_zero, List.set_cons_succ, List.length_cons, List.length_nil, List.nil_append, List.cons_append, List.append_nil, List.isEmpty_cons, List.isEmpty_nil, true_and, and_true, false_and, and_false, true_implies, forall_const, not_true_eq_false, not_false_eq_true, implies_true, decide_eq_true_eq, decide_eq_false_iff_not, Bool.not_eq_true', Bool.not_eq_false', Bool.not_true, Bool.not_false, if_true, if_false, Bool.false_eq_true, Bool.true_eq_false, reduceCtorEq, false_implies, eq_self, hL4]
      refine middle_w (by omega) fun S5 A5 => ?_
      rw [hm]
      refine same_w (tt := tg) ?_
      simp only [↓reduceIte, ↓W_ok, ↓W_exn, ↓W_var0, ↓W_varS, ↓W_K, ↓W_bin, ↓W_un, ↓W_aNil, ↓W_aCons, ↓W_arg, ↓W_call, ↓W_of, ↓WB_test, ↓tc_bl, ↓WB_tru, ↓trc, ↓WB_and, ↓WB_or, ↓WB_not, ↓W_if, ↓W_andV, ↓W_orV, ↓W_notV, ↓WM_some, ↓WM_none, ↓WO_some, ↓tr_bl, ↓tr_non, ↓tr_int, ↓tr_tup, ↓tr_rol, ↓WS_nx, ↓WS_rt, ↓WS_ct, ↓WS_bk, ↓WS_exn, ↓WS_seq, ↓WS_nil, ↓WS_retN, ↓WS_break, ↓WS_cont, ↓WS_expr, ↓WS_ret, ↓WS_if, ↓WS_set, ↓WS_par, ↓WS_asg, ↓WS_gSet, ↓WS_gN, ↓WS_gC, ↓WS_gUn, ↓WS_gSub, ↓WS_aug, ↓o_add, ↓o_iadd, ↓o_sub, ↓o_neg, ↓o_mul, ↓o_mod, ↓o_div, ↓o_pow, ↓o_addT, ↓o_addS, ↓o_addL, ↓o_lt, ↓o_le, ↓o_gt, ↓o_ge, ↓o_eq, ↓o_ne, ↓o_eqS, ↓o_neS, ↓o_eqB, ↓o_neB, ↓o_eqT, ↓o_neT, ↓o_eqN, ↓o_neN, ↓o_ltT, ↓o_leT, ↓o_is, ↓o_isnot, ↓o_isB, ↓o_isnotB, ↓o_inT, ↓o_ninT, ↓o_inL, ↓o_ninL, ↓o_ixT, ↓o_ixR, ↓o_ixL, ↓o_rev, ↓o_ixS, ↓o_str, ↓o_strS, ↓o_set, ↓o_lenT, ↓o_lenR, ↓o_lenL, ↓o_lenS, ↓o_int, ↓o_intT, ↓o_intF, ↓o_abs, ↓o_max, ↓o_min, ↓o_tuple, ↓o_listXt, ↓o_listXr, ↓o_listXl, ↓o_listXs, ↓o_sortedXt, ↓o_tup0, ↓o_tup1, ↓o_tup2, ↓o_tup3, ↓o_tup4, ↓o_tup5, ↓o_tup6, ↓o_lst0, ↓o_lst1, ↓o_lst2, ↓o_lst3, ↓o_lst4, ↓o_lst5, ↓o_lst6, ↓o_sum, ↓W_meth, ↓o_append, ↓o_extend, ↓o_popAt, ↓W_cut, ↓W_noPart, ↓W_part, ↓o_cutT, ↓o_cutR, ↓o_cutL, ↓W_isi, ↓W_ch, ↓WS_for, ↓WI_iter, ↓WI_range1, ↓WI_range2, ↓WI_range3, ↓WI_enum, ↓WI_zip2, ↓WI_zip3, ↓W_callK, ↓WS_f0, ↓WS_f1, ↓W_alloc, ↓W_ofL, ↓W_comp, ↓WB_yes, ↓W_c0, ↓W_c1, ↓W_listRg, ↓W_tupRg, ↓W_rRange1, ↓W_rRange2, Option.isSome_some, z2_t, z3_t, perm_nil, perm_cons, List.getD_cons_zero, List.getD_cons_succ, o_intT, o_intF, o_intB, o_ixL, o_ixT, beq_self_eq_true, decide_true, decide_false, okEq, okCmp, okIn, D.fits, D.fitsL, D.dep, D.depL, D.eqv, D.eqvL, D.alike, D.alikeL, isBl_bl, isN_non, isN_bl, isN_int, isN_str, isN_tup, isN_rol, isN_loc, Nat.reduceAdd, Nat.reduceSub, Nat.max_self, Nat.min_self, Nat.max_zero, Nat.zero_max, Nat.min_zero, Nat.zero_min, ty_non, ty_bl, ty_int, ty_str, ty_tup, ty_rol, ty_loc, kb_bool_bool, kb_bool_int, kb_bool_str, kb_bool_tuple, kb_bool_list, kb_int_bool, kb_int_int, kb_int_str, kb_int_tuple, kb_int_list, kb_str_bool, kb_str_int, kb_str_str, kb_str_tuple, kb_str_list, kb_tuple_bool, kb_tuple_int, kb_tuple_str, kb_tuple_tuple, kb_tuple_list, kb_list_bool, kb_list_int, kb_list_str, kb_list_tuple, kb_list_list, kb_NoneType_bool, kb_NoneType_int, kb_NoneType_str, kb_NoneType_tuple, kb_NoneType_list, Nat.zero_add, c02, lstAt_setE, Option.map_some, lstAt_set_ne, ne_eq, Nat.reduceEqDiff, Nat.one_ne_zero, Nat.zero_ne_one, ix_1_0, ix_2_0, ix_2_1, ix_3_0, ix_3_1, ix_3_2, ix_4_0, ix_4_1, ix_4_2, ix_4_3, ix_5_0, ix_5_1, ix_5_2, ix_5_3, ix_5_4, ix_6_0, ix_6_1, ix_6_2, ix_6_3, ix_6_4, ix_6_5, Nat.reduceLeDiff, Int.reduceAdd, Int.reduceSub, Int.reduceMul, Int.reduceNeg, Int.reducePow, Int.reduceLT, Int.reduceLE, Int.reduceEq, Int.reduceToNat, Bool.and_true, Bool.true_and, Bool.and_self, Bool.and_false, Bool.false_and, Bool.and_eq_true, Bool.and_eq_false_imp, and_self, WS_qdn, WS_qdr, WS_qde, WS_qdb, WS_qdc, qn1, qn2, qn3, qn4, qn5, qk1, qk5, lq1, lq2, lq3, lq4, lq5, intD_int, items_tup, items_rol, items_loc, listOf_loc, listOf_rol, isL_loc, nd_non, nd_bl, nd_int, nd_str, nd_tup, nd_rol, noDct_loc, at0, at1, at2, at3, at4, at5, atl1, atl2, atl3, atl4, lstAt_new, lstAt_h0, lstAt_h1, lstAt_h2, lstAt_h3, it_tup, it_rol, kTup_eq, kLen_eq, wipe0, wipe1, b_nm, b_un, b_nil, b_cnm, b_cun, Option.bind_some, List.set_cons_zero, List.set_cons_succ, List.length_cons, List.length_nil, List.nil_append, List.cons_append, List.append_nil, List.isEmpty_cons, List.isEmpty_nil, true_and, and_true, false_and, and_false, true_implies, forall_const, not_true_eq_false, not_false_eq_true, implies_true, decide_eq_true_eq, decide_eq_false_iff_not, Bool.not_eq_true', Bool.not_eq_false', Bool.not_true, Bool.not_false, if_true, if_false, Bool.false_eq_true, Bool.true_eq_false, reduceCtorEq, false_implies, eq_self]
      exact ⟨F4.ap A5, (K3.trans K4).trans A5.fk, _, _, _, _, _, _, rfl, by omega, A5.lst hL4, _, _, _, rfl, ⟨ha', hb', hc'⟩, hm⟩
    · rintro σ S3 ⟨F3, K3, l, ys, p, r1, r2, r3, rfl, hl3, hL3, hM⟩
      obtain ⟨a', b', c', rfl, ⟨ha', hb', hc'⟩, hm⟩ := hM
      have e1 : midL a' a' b' = a' := midL_same1 (by omega)
      have e2 : midL a' b' a' = a' := by rw [midL_comm2, e1]
      have e3 : midL b' a' a' = a' := by rw [midL_comm1, midL_comm2, e1]
      have e4 : midL a' a' a' = a' := midL_same1 rfl
      simp only [↓reduceIte, ↓W_ok, ↓W_exn, ↓W_var0, ↓W_varS, ↓W_K, ↓W_bin, ↓W_un, ↓W_aNil, ↓W_aCons, ↓W_arg, ↓W_call, ↓W_of, ↓WB_test, ↓tc_bl, ↓WB_tru, ↓trc, ↓WB_and, ↓WB_or, ↓WB_not, ↓W_if, ↓W_andV, ↓W_orV, ↓W_notV, ↓WM_some, ↓WM_none, ↓WO_some, ↓tr_bl, ↓tr_non, ↓tr_int, ↓tr_tup, ↓tr_rol, ↓WS_nx, ↓WS_rt, ↓WS_ct, ↓WS_bk, ↓WS_exn, ↓WS_seq, ↓WS_nil, ↓WS_retN, ↓WS_break, ↓WS_cont, ↓WS_expr, ↓WS_ret, ↓WS_if, ↓WS_set, ↓WS_par, ↓WS_asg, ↓WS_gSet, ↓WS_gN, ↓WS_gC, ↓WS_gUn, ↓WS_gSub, ↓WS_aug, ↓o_add, ↓o_iadd, ↓o_sub, ↓o_neg, ↓o_mul, ↓o_mod, ↓o_div, ↓o_pow, ↓o_addT, ↓o_addS, ↓o_addL, ↓o_lt, ↓o_le, ↓o_gt, ↓o_ge, ↓o_eq, ↓o_ne, ↓o_eqS, ↓o_neS, ↓o_eqB, ↓o_neB, ↓o_eqT, ↓o_neT, ↓o_eqN, ↓o_neN, ↓o_ltT, ↓o_leT, ↓o_is, ↓o_isnot, ↓o_isB, ↓o_isnotB, ↓o_inT, ↓o_ninT, ↓o_inL, ↓o_ninL, ↓o_ixT, ↓o_ixR, ↓o_ixL, ↓o_rev, ↓o_ixS, ↓o_str, ↓o_strS, ↓o_set, ↓o_lenT, ↓o_lenR, ↓o_lenL, ↓o_lenS, ↓o_int, ↓o_intT, ↓o_intF, ↓o_abs, ↓o_max, ↓o_min, ↓o_tuple, ↓o_listXt, ↓o_listXr, ↓o_listXl, ↓o_listXs, ↓o_sortedXt, ↓o_tup0, ↓o_tup1, ↓o_tup2, ↓o_tup3, ↓o_tup4, ↓o_tup5, ↓o_tup6, ↓o_lst0, ↓o_lst1, ↓o_lst2, ↓o_lst3, ↓o_lst4, ↓o_lst5, ↓o_lst6, ↓o_sum, ↓W_meth, ↓o_append, ↓o_extend, ↓o_popAt, ↓W_cut, ↓W_noPart, ↓W_part, ↓o_cutT, ↓o_cutR, ↓o_cutL, ↓W_isi, ↓W_ch, ↓WS_for, ↓WI_iter, ↓WI_range1, ↓WI_range2, ↓WI_range3, ↓WI_enum, ↓WI_zip2, ↓WI_zip3, ↓W_callK, ↓WS_f0, ↓WS_f1, ↓W_alloc, ↓W_ofL, ↓W_comp, ↓WB_yes, ↓W_c0, ↓W_c1, ↓W_listRg, ↓W_tupRg, ↓W_rRange1, ↓W_rRange2, Option.isSome_some, z2_t, z3_t, perm_nil, perm_cons, List.getD_cons_zero, List.getD_cons_succ, o_intT, o_intF, o_intB, o_ixL, o_ixT, beq_self_eq_true, decide_true, decide_false, okEq, okCmp, okIn, D.fits, D.fitsL, D.dep, D.depL, D.eqv, D.eqvL, D.alike, D.alikeL, isBl_bl, isN_non, isN_bl, isN_int, isN_str, isN_tup, isN_rol, isN_loc, Nat.reduceAdd, Nat.reduceSub, Nat.max_self, Nat.min_self, Nat.max_zero, Nat.zero_max, Nat.min_zero, Nat.zero_min, ty_non, ty_bl, ty_int, ty_str, ty_tup, ty_rol, ty_loc, kb_bool_bool, kb_bool_int, kb_bool_str, kb_bool_tuple, kb_bool_list, kb_int_bool, kb_int_int, kb_int_str, kb_int_tuple, kb_int_list, kb_str_bool, kb_str_int, kb_str_str, kb_str_tuple, kb_str_list, kb_tuple_bool, kb_tuple_int, kb_tuple_str, kb_tuple_tuple, kb_tuple_list, kb_list_bool, kb_list_int, kb_list_str, kb_list_tuple, kb_list_list, kb_NoneType_bool, kb_NoneType_int, kb_NoneType_str, kb_NoneType_tuple, kb_NoneType_list, Nat.zero_add, c02, lstAt_setE, Option.map_some, lstAt_set_ne, ne_eq, Nat.reduceEqDiff, Nat.one_ne_zero, Nat.zero_ne_one, ix_1_0, ix_2_0, ix_2_1, ix_3_0, ix_3_1, ix_3_2, ix_4_0, ix_4_1, ix_4_2, ix_4_3, ix_5_0, ix_5_1, ix_5_2, ix_5_3, ix_5_4, ix_6_0, ix_6_1, ix_6_2, ix_6_3, ix_6_4, ix_6_5, Nat.reduceLeDiff, Int.reduceAdd, Int.reduceSub, Int.reduceMul, Int.reduceNeg, Int.reducePow, Int.reduceLT, Int.reduceLE, Int.reduceEq, Int.reduceToNat, Bool.and_true, Bool.true_and, Bool.and_self, Bool.and_false, Bool.false_and, Bool.and_eq_true, Bool.and_eq_false_imp, and_self, WS_qdn, WS_qdr, WS_qde, WS_qdb, WS_qdc, qn1, qn2, qn3, qn4, qn5, qk1, qk5, lq1, lq2, lq3, lq4, lq5, intD_int, items_tup, items_rol, items_loc, listOf_loc, listOf_rol, isL_loc, nd_non, nd_bl, nd_int, nd_str, nd_tup, nd_rol, noDct_loc, at0, at1, at2, at3, at4, at5, atl1, atl2, atl3, atl4, lstAt_new, lstAt_h0, lstAt_h1, lstAt_h2, lstAt_h3, it_tup, it_rol, kTup_eq, kLen_eq, wipe0, wipe1, b_nm, b_un, b_nil, b_cnm, b_cun, Option.bind_some, List.set_cons_zero, List.set_cons_succ, List.length_cons, List.length_nil, List.nil_append, List.cons_append, List.append_nil, List.isEmpty_cons, List.isEmpty_nil, true_and, and_true, false_and, and_false, true_implies, forall_const, not_true_eq_false, not_false_eq_true, implies_true, decide_eq_true_eq, decide_eq_false_iff_not, Bool.not_eq_true', Bool.not_eq_false', Bool.not_true, Bool.not_false, if_true, if_false, Bool.false_eq_true, Bool.true_eq_false, reduceCtorEq, false_implies, eq_self, hL3]
      refine middle_w (by omega) fun S4 A4 => ?_
      rw [e1]
      refine same_w (tt := tg) ?_
      simp only [↓reduceIte, ↓W_ok, ↓W_exn, ↓W_var0, ↓W_varS, ↓W_K, ↓W_bin, ↓W_un, ↓W_aNil, ↓W_aCons, ↓W_arg, ↓W_call, ↓W_of, ↓WB_test, ↓tc_bl, ↓WB_tru, ↓trc, ↓WB_and, ↓WB_or, ↓WB_not, ↓W_if, ↓W_andV, ↓W_orV, ↓W_notV, ↓WM_some, ↓WM_none, ↓WO_some, ↓tr_bl, ↓tr_non, ↓tr_int, ↓tr_tup, ↓tr_rol, ↓WS_nx, ↓WS_rt, ↓WS_ct, ↓WS_bk, ↓WS_exn, ↓WS_seq, ↓WS_nil, ↓WS_retN, ↓WS_break, ↓WS_cont, ↓WS_expr, ↓WS_ret, ↓WS_if, ↓WS_set, ↓WS_par, ↓WS_asg, ↓WS_gSet, ↓WS_gN, ↓WS_gC, ↓WS_gUn, ↓WS_gSub, ↓WS_aug, ↓o_add, ↓o_iadd, ↓o_sub, ↓o_neg, ↓o_mul, ↓o_mod, ↓o_div, ↓o_pow, ↓o_addT, ↓o_addS, ↓o_addL, ↓o_lt, ↓o_le, ↓o_gt, ↓o_ge, ↓o_eq, ↓o_ne, ↓o_eqS, ↓o_neS, ↓o_eqB, ↓o_neB, ↓o_eqT, ↓o_neT, ↓o_eqN, ↓o_neN, ↓o_ltT, ↓o_leT, ↓o_is, ↓o_isnot, ↓o_isB, ↓o_isnotB, ↓o_inT, ↓o_ninT, ↓o_inL, ↓o_ninL, ↓o_ixT, ↓o_ixR, ↓o_ixL, ↓o_rev, ↓o_ixS, ↓o_str, ↓o_strS, ↓o_set, ↓o_lenT, ↓o_lenR, ↓o_lenL, ↓o_lenS, ↓o_int, ↓o_intT, ↓o_intF, ↓o_abs, ↓o_max, ↓o_min, ↓o_tuple, ↓o_listXt, ↓o_listXr, ↓o_listXl, ↓o_listXs, ↓o_sortedXt, ↓o_tup0, ↓o_tup1, ↓o_tup2, ↓o_tup3, ↓o_tup4, ↓o_tup5, ↓o_tup6, ↓o_lst0, ↓o_lst1, ↓o_lst2, ↓o_lst3, ↓o_lst4, ↓o_lst5, ↓o_lst6, ↓o_sum, ↓W_meth, ↓o_append, ↓o_extend, ↓o_popAt, ↓W_cut, ↓W_noPart, ↓W_part, ↓o_cutT, ↓o_cutR, ↓o_cutL, ↓W_isi, ↓W_ch, ↓WS_for, ↓WI_iter, ↓WI_range1, ↓WI_range2, ↓WI_range3, ↓WI_enum, ↓WI_zip2, ↓WI_zip3, ↓W_callK, ↓WS_f0, ↓WS_f1, ↓W_alloc, ↓W_ofL, ↓W_comp, ↓WB_yes, ↓W_c0, ↓W_c1, ↓W_listRg, ↓W_tupRg, ↓W_rRange1, ↓W_rRange2, Option.isSome_some, z2_t, z3_t, perm_nil, perm_cons, List.getD_cons_zero, List.getD_cons_succ, o_intT, o_intF, o_intB, o_ixL, o_ixT, beq_self_eq_true, decide_true, decide_false, okEq, okCmp, okIn, D.fits, D.fitsL, D.dep, D.depL, D.eqv, D.eqvL, D.alike, D.alikeL, isBl_bl, isN_non, isN_bl, isN_int, isN_str, isN_tup, isN_rol, isN_loc, Nat.reduceAdd, Nat.reduceSub, Nat.max_self, Nat.min_self, Nat.max_zero, Nat.zero_max, Nat.min_zero, Nat.zero_min, ty_non, ty_bl, ty_int, ty_str, ty_tup, ty_rol, ty_loc, kb_bool_bool, kb_bool_int, kb_bool_str, kb_bool_tuple, kb_bool_list, kb_int_bool, kb_int_int, kb_int_str, kb_int_tuple, kb_int_list, kb_str_bool, kb_str_int, kb_str_str, kb_str_tuple, kb_str_list, kb_tuple_bool, kb_tuple_int, kb_tuple_str, kb_tuple_tuple, kb_tuple_list, kb_list_bool, kb_list_int, kb_list_str, kb_list_tuple, kb_list_list, kb_NoneType_bool, kb_NoneType_int, kb_NoneType_str, kb_NoneType_tuple, kb_NoneType_list, Nat.zero_add, c02, lstAt_setE, Option.map_some, lstAt_set_ne, ne_eq, Nat.reduceEqDiff, Nat.one_ne_zero, Nat.zero_ne_one, ix_1_0, ix_2_0, ix_2_1, ix_3_0, ix_3_1, ix_3_2, ix_4_0, ix_4_1, ix_4_2, ix_4_3, ix_5_0, ix_5_1, ix_5_2, ix_5_3, ix_5_4, ix_6_0, ix_6_1, ix_6_2, ix_6_3, ix_6_4, ix_6_5, Nat.reduceLeDiff, Int.reduceAdd, Int.reduceSub, Int.reduceMul, Int.reduceNeg, Int.reducePow, Int.reduceLT, Int.reduceLE, Int.reduceEq, Int.reduceToNat, Bool.and_true, Bool.true_and, Bool.and_self, Bool.and_false, Bool.false_and, Bool.and_eq_true, Bool.and_eq_false_imp, and_self, WS_qdn, WS_qdr, WS_qde, WS_qdb, WS_qdc, qn1, qn2, qn3, qn4, qn5, qk1, qk5, lq1, lq2, lq3, lq4, lq5, intD_int, items_tup, items_rol, items_loc, listOf_loc, listOf_rol, isL_loc, nd_non, nd_bl, nd_int, nd_str, nd_tup, nd_rol, noDct_loc, at0, at1, at2, at3, at4, at5, atl1, atl2, atl3, atl4, lstAt_new, lstAt_h0, lstAt_h1, lstAt_h2, lstAt_h3, it_tup, it_rol, kTup_eq, kLen_eq, wipe0, wipe1, b_nm, b_un, b_nil, b_cnm, b_cun, Option.bind_some, List.set_cons_zero, List.set_cons_succ, List.length_cons, List.length_nil, List.nil_append, List.cons_append, List.append_nil, List.isEmpty_cons, List.isEmpty_nil, true_and, and_true, false_and, and_false, true_implies, forall_const, not_true_eq_false, not_false_eq_true, implies_true, decide_eq_true_eq, decide_eq_false_iff_not, Bool.not_eq_true', Bool.not_eq_false', Bool.not_true, Bool.not_false, if_true, if_false, Bool.false_eq_true, Bool.true_eq_false, reduceCtorEq, false_implies, eq_self]
      refine middle_w (by omega) fun S5 A5 => ?_
      rw [e2]
      refine same_w (tt := tg) ?_
      simp only [↓reduceIte, ↓W_ok, ↓W_exn, ↓W_var0, ↓W_varS, ↓W_K, ↓W_bin, ↓W_un, ↓W_aNil, ↓W_aCons, ↓W_arg, ↓W_call, ↓W_of, ↓WB_test, ↓tc_bl, ↓WB_tru, ↓trc, ↓WB_and, ↓WB_or, ↓WB_not, ↓W_if, ↓W_andV, ↓W_orV, ↓W_notV, ↓WM_some, ↓WM_none, ↓WO_some, ↓tr_bl, ↓tr_non, ↓tr_int, ↓tr_tup, ↓tr_rol, ↓WS_nx, ↓WS_rt, ↓WS_ct, ↓WS_bk, ↓WS_exn, ↓WS_seq, ↓WS_nil, ↓WS_retN, ↓WS_break, ↓WS_cont, ↓WS_expr, ↓WS_ret, ↓WS_if, ↓WS_set, ↓WS_par, ↓WS_asg, ↓WS_gSet, ↓WS_gN, ↓WS_gC, ↓WS_gUn, ↓WS_gSub, ↓WS_aug, ↓o_add, ↓o_iadd, ↓o_sub, ↓o_neg, ↓o_mul, ↓o_mod, ↓o_div, ↓o_pow, ↓o_addT, ↓o_addS, ↓o_addL, ↓o_lt, ↓o_le, ↓o_gt, ↓o_ge, ↓o_eq, ↓o_ne, ↓o_eqS, ↓o_neS, ↓o_eqB, ↓o_neB, ↓o_eqT, ↓o_neT, ↓o_eqN, ↓o_neN, ↓o_ltT, ↓o_leT, ↓o_is, ↓o_isnot, ↓o_isB, ↓o_isnotB, ↓o_inT, ↓o_ninT, ↓o_inL, ↓o_ninL, ↓o_ixT, ↓o_ixR, ↓o_ixL, ↓o_rev, ↓o_ixS, ↓o_str, ↓o_strS, ↓o_set, ↓o_lenT, ↓o_lenR, ↓o_lenL, ↓o_lenS, ↓o_int, ↓o_intT, ↓o_intF, ↓o_abs, ↓o_max, ↓o_min, ↓o_tuple, ↓o_listXt, ↓o_listXr, ↓o_listXl, ↓o_listXs, ↓o_sortedXt, ↓o_tup0, ↓o_tup1, ↓o_tup2, ↓o_tup3, ↓o_tup4, ↓o_tup5, ↓o_tup6, ↓o_lst0, ↓o_lst1, ↓o_lst2, ↓o_lst3, ↓o_lst4, ↓o_lst5, ↓o_lst6, ↓o_sum, ↓W_meth, ↓o_append, ↓o_extend, ↓o_popAt, ↓W_cut, ↓W_noPart, ↓W_part, ↓o_cutT, ↓o_cutR, ↓o_cutL, ↓W_isi, ↓W_ch, ↓WS_for, ↓WI_iter, ↓WI_range1, ↓WI_range2, ↓WI_range3, ↓WI_enum, ↓WI_zip2, ↓WI_zip3, ↓W_callK, ↓WS_f0, ↓WS_f1, ↓W_alloc, ↓W_ofL, ↓W_comp, ↓WB_yes, ↓W_c0, ↓W_c1, ↓W_listRg, ↓W_tupRg, ↓W_rRange1, ↓W_rRange2, Option.isSome_some, z2_t, z3_t, perm_nil, perm_cons, List.getD_cons_zero, List.getD_cons_succ, o_intT, o_intF, o_intB, o_ixL, o_ixT, beq_self_eq_true, decide_true, decide_false, okEq, okCmp, okIn, D.fits, D.fitsL, D.dep, D.depL, D.eqv, D.eqvL, D.alike, D.alikeL, isBl_bl, isN_non, isN_bl, isN_int, isN_str, isN_tup, isN_rol, isN_loc, Nat.reduceAdd, Nat.reduceSub, Nat.max_self, Nat.min_self, Nat.max_zero, Nat.zero_max, Nat.min_zero, Nat.zero_min, ty_non, ty_bl, ty_int, ty_str, ty_tup, ty_rol, ty_loc, kb_bool_bool, kb_bool_int, kb_bool_str, kb_bool_tuple, kb_bool_list, kb_int_bool, kb_int_int, kb_int_str, kb_int_tuple, kb_int_list, kb_str_bool, kb_str_int, kb_str_str, kb_str_tuple, kb_str_list, kb_tuple_bool, kb_tuple_int, kb_tuple_str, kb_tuple_tuple, kb_tuple_list, kb_list_bool, kb_list_int, kb_list_str, kb_list_tuple, kb_list_list, kb_NoneType_bool, kb_NoneType_int, kb_NoneType_str, kb_NoneType_tuple, kb_NoneType_list, Nat.zero_add, c02, lstAt_setE, Option.map_some, lstAt_set_ne, ne_eq, Nat.reduceEqDiff, Nat.one_ne_zero, Nat.zero_ne_one, ix_1_0, ix_2_0, ix_2_1, ix_3_0, ix_3_1, ix_3_2, ix_4_0, ix_4_1, ix_4_2, ix_4_3, ix_5_0, ix_5_1, ix_5_2, ix_5_3, ix_5_4, ix_6_0, ix_6_1, ix_6_2, ix_6_3, ix_6_4, ix_6_5, Nat.reduceLeDiff, Int.reduceAdd, Int.reduceSub, Int.reduceMul, Int.reduceNeg, Int.reducePow, Int.reduceLT, Int.reduceLE, Int.reduceEq, Int.reduceToNat, Bool.and_true, Bool.true_and, Bool.and_self, Bool.and_false, Bool.false_and, Bool.and_eq_true, Bool.and_eq_false_imp, and_self, WS_qdn, WS_qdr, WS_qde, WS_qdb, WS_qdc, qn1, qn2, qn3, qn4, qn5, qk1, qk5, lq1, lq2, lq3, lq4, lq5, intD_int, items_tup, items_rol, items_loc, listOf_loc, listOf_rol, isL_loc, nd_non, nd_bl, nd_int, nd_str, nd_tup, nd_rol, noDct_loc, at0, at1, at2, at3, at4, at5, atl1, atl2, atl3, atl4, lstAt_new, lstAt_h0, lstAt_h1, lstAt_h2, lstAt_h3, it_tup, it_rol, kTup_eq, kLen_eq, wipe0, wipe1, b_nm, b_un, b_nil, b_cnm, b_cun, Option.bind_some, List.set_cons_zero, List.set_cons_succ, List.length_cons, List.length_nil, List.nil_append, List.cons_append, List.append_nil, List.isEmpty_cons, List.isEmpty_nil, true_and, and_true, false_and, and_false, true_implies, forall_const, not_true_eq_false, not_false_eq_true, implies_true, decide_eq_true_eq, decide_eq_false_iff_not, Bool.not_eq_true', Bool.not_eq_false', Bool.not_true, Bool.not_false, if_true, if_false, Bool.false_eq_true, Bool.true_eq_false, reduceCtorEq, false_implies, eq_self]
      refine middle_w (by omega) fun S6 A6 => ?_
      rw [e3]
      refine same_w (tt := tg) ?_
      simp only [↓reduceIte, ↓W_ok, ↓W_exn, ↓W_var0, ↓W_varS, ↓W_K, ↓W_bin, ↓W_un, ↓W_aNil, ↓W_aCons, ↓W_arg, ↓W_call, ↓W_of, ↓WB_test, ↓tc_bl, ↓WB_tru, ↓trc, ↓WB_and, ↓WB_or, ↓WB_not, ↓W_if, ↓W_andV, ↓W_orV, ↓W_notV, ↓WM_some, ↓WM_none, ↓WO_some, ↓tr_bl, ↓tr_non, ↓tr_int, ↓tr_tup, ↓tr_rol, ↓WS_nx, ↓WS_rt, ↓WS_ct, ↓WS_bk, ↓WS_exn, ↓WS_seq, ↓WS_nil, ↓WS_retN, ↓WS_break, ↓WS_cont, ↓WS_expr, ↓WS_ret, ↓WS_if, ↓WS_set, ↓WS_par, ↓WS_asg, ↓WS_gSet, ↓WS_gN, ↓WS_gC, ↓WS_gUn, ↓WS_gSub, ↓WS_aug, ↓o_add, ↓o_iadd, ↓o_sub, ↓o_neg, ↓o_mul, ↓o_mod, ↓o_div, ↓o_pow, ↓o_addT, ↓o_addS, ↓o_addL, ↓o_lt, ↓o_le, ↓o_gt, ↓o_ge, ↓o_eq, ↓o_ne, ↓o_eqS, ↓o_neS, ↓o_eqB, ↓o_neB, ↓o_eqT, ↓o_neT, ↓o_eqN, ↓o_neN, ↓o_ltT, ↓o_leT, ↓o_is, ↓o_isnot, ↓o_isB, ↓o_isnotB, ↓o_inT, ↓o_ninT, ↓o_inL, ↓o_ninL, ↓o_ixT, ↓o_ixR, ↓o_ixL, ↓o_rev, ↓o_ixS, ↓o_str, ↓o_strS, ↓o_set, ↓o_lenT, ↓o_lenR, ↓o_lenL, ↓o_lenS, ↓o_int, ↓o_intT, ↓o_intF, ↓o_abs, ↓o_max, ↓o_min, ↓o_tuple, ↓o_listXt, ↓o_listXr, ↓o_listXl, ↓o_listXs, ↓o_sortedXt, ↓o_tup0, ↓o_tup1, ↓o_tup2, ↓o_tup3, ↓o_tup4, ↓o_tup5, ↓o_tup6, ↓o_lst0, ↓o_lst1, ↓o_lst2, ↓o_lst3, ↓o_lst4, ↓o_lst5, ↓o_lst6, ↓o_sum, ↓W_meth, ↓o_append, ↓o_extend, ↓o_popAt, ↓W_cut, ↓W_noPart, ↓W_part, ↓o_cutT, ↓o_cutR, ↓o_cutL, ↓W_isi, ↓W_ch, ↓WS_for, ↓WI_iter, ↓WI_range1, ↓WI_range2, ↓WI_range3, ↓WI_enum, ↓WI_zip2, ↓WI_zip3, ↓W_callK, ↓WS_f0, ↓WS_f1, ↓W_alloc, ↓W_ofL, ↓W_comp, ↓WB_yes, ↓W_c0, ↓W_c1, ↓W_listRg, ↓W_tupRg, ↓W_rRange1, ↓W_rRange2, Option.isSome_some, z2_t, z3_t, perm_nil, perm_cons, List.getD_cons_zero, List.getD_cons_succ, o_intT, o_intF, o_intB, o_ixL, o_ixT, beq_self_eq_true, decide_true, decide_false, okEq, okCmp, okIn, D.fits, D.fitsL, D.dep, D.depL, D.eqv, D.eqvL, D.alike, D.alikeL, isBl_bl, isN_non, isN_bl, isN_int, isN_str, isN_tup, isN_rol, isN_loc, Nat.reduceAdd, Nat.reduceSub, Nat.max_self, Nat.min_self, Nat.max_zero, Nat.zero_max, Nat.min_zero, Nat.zero_min, ty_non, ty_bl, ty_int, ty_str, ty_tup, ty_rol, ty_loc, kb_bool_bool, kb_bool_int, kb_bool_str, kb_bool_tuple, kb_bool_list, kb_int_bool, kb_int_int, kb_int_str, kb_int_tuple, kb_int_list, kb_str_bool, kb_str_int, kb_str_str, kb_str_tuple, kb_str_list, kb_tuple_bool, kb_tuple_int, kb_tuple_str, kb_tuple_tuple, kb_tuple_list, kb_list_bool, kb_list_int, kb_list_str, kb_list_tuple, kb_list_list, kb_NoneType_bool, kb_NoneType_int, kb_NoneType_str, kb_NoneType_tuple, kb_NoneType_list, Nat.zero_add, c02, lstAt_setE, Option.map_some, lstAt_set_ne, ne_eq, Nat.reduceEqDiff, Nat.one_ne_zero, Nat.zero_ne_one, ix_1_0, ix_2_0, ix_2_1, ix_3_0, ix_3_1, ix_3_2, ix_4_0, ix_4_1, ix_4_2, ix_4_3, ix_5_0, ix_5_1, ix_5_2, ix_5_3, ix_5_4, ix_6_0, ix_6_1, ix_6_2, ix_6_3, ix_6_4, ix_6_5, Nat.reduceLeDiff, Int.reduceAdd, Int.reduceSub, Int.reduceMul, Int.reduceNeg, Int.reducePow, Int.reduceLT, Int.reduceLE, Int.reduceEq, Int.reduceToNat, Bool.and_true, Bool.true_and, Bool.and_self, Bool.and_false, Bool.false_and, Bool.and_eq_true, Bool.and_eq_false_imp, and_self, WS_qdn, WS_qdr, WS_qde, WS_qdb, WS_qdc, qn1, qn2, qn3, qn4, qn5, qk1, qk5, lq1, lq2, lq3, lq4, lq5, intD_int, items_tup, items_rol, items_loc, listOf_loc, listOf_rol, isL_loc, nd_non, nd_bl, nd_int, nd_str, nd_tup, nd_rol, noDct_loc, at0, at1, at2, at3, at4, at5, atl1, atl2, atl3, atl4, lstAt_new, lstAt_h0, lstAt_h1, lstAt_h2, lstAt_h3, it_tup, it_rol, kTup_eq, kLen_eq, wipe0, wipe1, b_nm, b_un, b_nil, b_cnm, b_cun, Option.bind_some, List.set_cons_zero, List.set_cons_succ, List.length_cons, List.length_nil, List.nil_append, List.cons_append, List.append_nil, List.isEmpty_cons, List.isEmpty_nil, true_and, and_true, false_and, and_false, true_implies, forall_const, not_true_eq_false, not_false_eq_true, implies_true, decide_eq_true_eq, decide_eq_false_iff_not, Bool.not_eq_true', Bool.not_eq_false', Bool.not_true, Bool.not_false, if_true, if_false, Bool.false_eq_true, Bool.true_eq_false, reduceCtorEq, false_implies, eq_self]
      refine middle_w (by omega) fun S7 A7 => ?_
      rw [e4]
      refine same_w (tt := tg) ?_
      have A := ((A4.trans A5).trans A6).trans A7
      simp only [↓reduceIte, ↓W_ok, ↓W_exn, ↓W_var0, ↓W_varS, ↓W_K, ↓W_bin, ↓W_un, ↓W_aNil, ↓W_aCons, ↓W_arg, ↓W_call, ↓W_of, ↓WB_test, ↓tc_bl, ↓WB_tru, ↓trc, ↓WB_and, ↓WB_or, ↓WB_not, ↓W_if, ↓W_andV, ↓W_orV, ↓W_notV, ↓WM_some, ↓WM_none, ↓WO_some, ↓tr_bl, ↓tr_non, ↓tr_int, ↓tr_tup, ↓tr_rol, ↓WS_nx, ↓WS_rt, ↓WS_ct, ↓WS_bk, ↓WS_exn, ↓WS_seq, ↓WS_nil, ↓WS_retN, ↓WS_break, ↓WS_cont, ↓WS_expr, ↓WS_ret, ↓WS_if, ↓WS_set, ↓WS_par, ↓WS_asg, ↓WS_gSet, ↓WS_gN, ↓WS_gC, ↓WS_gUn, ↓WS_gSub, ↓WS_aug, ↓o_add, ↓o_iadd, ↓o_sub, ↓o_neg, ↓o_mul, ↓o_mod, ↓o_div, ↓o_pow, ↓o_addT, ↓o_addS, ↓o_addL, ↓o_lt, ↓o_le, ↓o_gt, ↓o_ge, ↓o_eq, ↓o_ne, ↓o_eqS, ↓o_neS, ↓o_eqB, ↓o_neB, ↓o_eqT, ↓o_neT, ↓o_eqN, ↓o_neN, ↓o_ltT, ↓o_leT, ↓o_is, ↓o_isnot, ↓o_isB, ↓o_isnotB, ↓o_inT, ↓o_ninT, ↓o_inL, ↓o_ninL, ↓o_ixT, ↓o_ixR, ↓o_ixL, ↓o_rev, ↓o_ixS, ↓o_str, ↓o_strS, ↓o_set, ↓o_lenT, ↓o_lenR, ↓o_lenL, ↓o_lenS, ↓o_int, ↓o_intT, ↓o_intF, ↓o_abs, ↓o_max, ↓o_min, ↓o_tuple, ↓o_listXt, ↓o_listXr, ↓o_listXl, ↓o_listXs, ↓o_sortedXt, ↓o_tup0, ↓o_tup1, ↓o_tup2, ↓o_tup3, ↓o_tup4, ↓o_tup5, ↓o_tup6, ↓o_lst0, ↓o_lst1, ↓o_lst2, ↓o_lst3, ↓o_lst4, ↓o_lst5, ↓o_lst6, ↓o_sum, ↓W_meth, ↓o_append, ↓o_extend, ↓o_popAt, ↓W_cut, ↓W_noPart, ↓W_part, ↓o_cutT, ↓o_cutR, ↓o_cutL, ↓W_isi, ↓W_ch, ↓WS_for, ↓WI_iter, ↓WI_range1, ↓WI_range2, ↓WI_range3, ↓WI_enum, ↓WI_zip2, ↓WI_zip3, ↓W_callK, ↓WS_f0, ↓WS_f1, ↓W_alloc, ↓W_ofL, ↓W_comp, ↓WB_yes, ↓W_c0, ↓W_c1, ↓W_listRg, ↓W_tupRg, ↓W_rRange1, ↓W_rRange2, Option.isSome_some, z2_t, z3_t, perm_nil, perm_cons, List.getD_cons_zero, List.getD_cons_succ, o_intT, o_intF, o_intB, o_ixL, o_ixT, beq_self_eq_true, decide_true, decide_false, okEq, okCmp, okIn, D.fits, D.fitsL, D.dep, D.depL, D.eqv, D.eqvL, D.alike, D.alikeL, isBl_bl, isN_non, isN_bl, isN_int, isN_str, isN_tup, isN_rol, isN_loc, Nat.reduceAdd, Nat.reduceSub, Nat.max_self, Nat.min_self, Nat.max_zero, Nat.zero_max, Nat.min_zero, Nat.zero_min, ty_non, ty_bl, ty_int, ty_str, ty_tup, ty_rol, ty_loc, kb_bool_bool, kb_bool_int, kb_bool_str, kb_bool_tuple, kb_bool_list, kb_int_bool, kb_int_int, kb_int_str, kb_int_tuple, kb_int_list, kb_str_bool, kb_str_int, kb_str_str, kb_str_tuple, kb_str_list, kb_tuple_bool, kb_tuple_int, kb_tuple_str, kb_tuple_tuple, kb_tuple_list, kb_list_bool, kb_list_int, kb_list_str, kb_list_tuple, kb_list_list, kb_NoneType_bool, kb_NoneType_int, kb_NoneType_str, kb_NoneType_tuple, kb_NoneType_list, Nat.zero_add, c02, lstAt_setE, Option.map_some, lstAt_set_ne, ne_eq, Nat.reduceEqDiff, Nat.one_ne_zero, Nat.zero_ne_one, ix_1_0, ix_2_0, ix_2_1, ix_3_0, ix_3_1, ix_3_2, ix_4_0, ix_4_1, ix_4_2, ix_4_3, ix_5_0, ix_5_1, ix_5_2, ix_5_3, ix_5_4, ix_6_0, ix_6_1, ix_6_2, ix_6_3, ix_6_4, ix_6_5, Nat.reduceLeDiff, Int.reduceAdd, Int.reduceSub, Int.reduceMul, Int.reduceNeg, Int.reducePow, Int.reduceLT, Int.reduceLE, Int.reduceEq, Int.reduceToNat, Bool.and_true, Bool.true_and, Bool.and_self, Bool.and_false, Bool.false_and, Bool.and_eq_true, Bool.and_eq_false_imp, and_self, WS_qdn, WS_qdr, WS_qde, WS_qdb, WS_qdc, qn1, qn2, qn3, qn4, qn5, qk1, qk5, lq1, lq2, lq3, lq4, lq5, intD_int, items_tup, items_rol, items_loc, listOf_loc, listOf_rol, isL_loc, nd_non, nd_bl, nd_int, nd_str, nd_tup, nd_rol, noDct_loc, at0, at1, at2, at3, at4, at5, atl1, atl2, atl3, atl4, lstAt_new, lstAt_h0, lstAt_h1, lstAt_h2, lstAt_h3, it_tup, it_rol, kTup_eq, kLen_eq, wipe0, wipe1, b_nm, b_un, b_nil, b_cnm, b_cun, Option.bind_some, List.set_cons_zero, List.set_cons_succ, List.length_cons, List.length_nil, List.nil_append, List.cons_append, List.append_nil, List.isEmpty_cons, List.isEmpty_nil, true_and, and_true, false_and, and_false, true_implies, forall_const, not_true_eq_false, not_false_eq_true, implies_true, decide_eq_true_eq, decide_eq_false_iff_not, Bool.not_eq_true', Bool.not_eq_false', Bool.not_true, Bool.not_false, if_true, if_false, Bool.false_eq_true, Bool.true_eq_false, reduceCtorEq, false_implies, eq_self, A.lst hL3]
      refine middle_w (by omega) fun S8 A8 => ?_
      rw [hm]
      refine same_w (tt := tg) ?_
      exact h _ (F3.ap (A.trans A8)) (K3.trans (A.trans A8).fk)
end
end LW

namespace LW
open PySem PySem.Spec PyProof.Rows L2 DL
section
variable {x : XQ} {Q : D → Store → Prop} {tt : Tg (x, Q)} {S S' S'' : Store} {l n : Nat} {c : D} {m : List Int} {many size : Int}
theorem recipe_w (hF : FlowOk S) (h0 : 1 ≤ many) (h1 : many ≤ 1000) (h2 : 0 ≤ size) (h3 : size ≤ 2000) (h : ∀ (ls : List Ln) S', LnsOk many.toNat ls → (ls.length : Int) = size → FlowOk S' → Fk 3 S S' → Q (.tup (ls.map lnD)) S') : W (x, Q) tt (m__law_recipe [.loc 2, .int many, .int size] S) := by
  have hs := hF.len
  simp only [↓reduceIte, ↓W_ok, ↓W_exn, ↓W_var0, ↓W_varS, ↓W_K, ↓W_bin, ↓W_un, ↓W_aNil, ↓W_aCons, ↓W_arg, ↓W_call, ↓W_of, ↓WB_test, ↓tc_bl, ↓WB_tru, ↓trc, ↓WB_and, ↓WB_or, ↓WB_not, ↓W_if, ↓W_andV, ↓W_orV, ↓W_notV, ↓WM_some, ↓WM_none, ↓WO_some, ↓tr_bl, ↓tr_non, ↓tr_int, ↓tr_tup, ↓tr_rol, ↓WS_nx, ↓WS_rt, ↓WS_ct, ↓WS_bk, ↓WS_exn, ↓WS_seq, ↓WS_nil, ↓WS_retN, ↓WS_break, ↓WS_cont, ↓WS_expr, ↓WS_ret, ↓WS_if, ↓WS_set, ↓WS_par, ↓WS_asg, ↓WS_gSet, ↓WS_gN, ↓WS_gC, ↓WS_gUn, ↓WS_gSub, ↓WS_aug, ↓o_add, ↓o_iadd, ↓o_sub, ↓o_neg, ↓o_mul, ↓o_mod, ↓o_div, ↓o_pow, ↓o_addT, ↓o_addS, ↓o_addL, ↓o_lt, ↓o_le, ↓o_gt, ↓o_ge, ↓o_eq, ↓o_ne, ↓o_eqS, ↓o_neS, ↓o_eqB, ↓o_neB, ↓o_eqT, ↓o_neT, ↓o_eqN, ↓o_neN, ↓o_ltT, ↓o_leT, ↓o_is, ↓o_isnot, ↓o_isB, ↓o_isnotB, ↓o_inT, ↓o_ninT, ↓o_inL, ↓o_ninL, ↓o_ixT, ↓o_ixR, ↓o_ixL, ↓o_rev, ↓o_ixS, ↓o_str, ↓o_strS, ↓o_set, ↓o_lenT, ↓o_lenR, ↓o_lenL, ↓o_lenS, ↓o_int, ↓o_intT, ↓o_intF, ↓o_abs, ↓o_max, ↓o_min, ↓o_tuple, ↓o_listXt, ↓o_listXr, ↓o_listXl, ↓o_listXs, ↓o_sortedXt, ↓o_tup0, ↓o_tup1, ↓o_tup2, ↓o_tup3, ↓o_tup4, ↓o_tup5, ↓o_tup6, ↓o_lst0, ↓o_lst1, ↓o_lst2, ↓o_lst3, ↓o_lst4, ↓o_lst5, ↓o_lst6, ↓o_sum, ↓W_meth, ↓o_append, ↓o_extend, ↓o_popAt, ↓W_cut, ↓W_noPart, ↓W_part, ↓o_cutT, ↓o_cutR, ↓o_cutL, ↓W_isi, ↓W_ch, ↓WS_for, ↓WI_iter, ↓WI_range1, ↓WI_range2, ↓WI_range3, ↓WI_enum, ↓WI_zip2, ↓WI_zip3, ↓W_callK, ↓WS_f0, ↓WS_f1, ↓W_alloc, ↓W_ofL, ↓W_comp, ↓WB_yes, ↓W_c0, ↓W_c1, ↓W_listRg, ↓W_tupRg, ↓W_rRange1, ↓W_rRange2, Option.isSome_some, z2_t, z3_t, perm_nil, perm_cons, List.getD_cons_zero, List.getD_cons_succ, o_intT, o_intF, o_intB, o_ixL, o_ixT, beq_self_eq_true, decide_true, decide_false, okEq, okCmp, okIn, D.fits, D.fitsL, D.dep, D.depL, D.eqv, D.eqvL, D.alike, D.alikeL, isBl_bl, isN_non, isN_bl, isN_int, isN_str, isN_tup, isN_rol, isN_loc, Nat.reduceAdd, Nat.reduceSub, Nat.max_self, Nat.min_self, Nat.max_zero, Nat.zero_max, Nat.min_zero, Nat.zero_min, ty_non, ty_bl, ty_int, ty_str, ty_tup, ty_rol, ty_loc, kb_bool_bool, kb_bool_int, kb_bool_str, kb_bool_tuple, kb_bool_list, kb_int_bool, kb_int_int, kb_int_str, kb_int_tuple, kb_int_list, kb_str_bool, kb_str_int, kb_str_str, kb_str_tuple, kb_str_list, kb_tuple_bool, kb_tuple_int, kb_tuple_str, kb_tuple_tuple, kb_tuple_list, kb_list_bool, kb_list_int, kb_list_str, kb_list_tuple, kb_list_list, kb_NoneType_bool, kb_NoneType_int, kb_NoneType_str, kb_NoneType_tuple, kb_NoneType_list, Nat.zero_add, c02, lstAt_setE, Option.map_some, lstAt_set_ne, ne_eq, Nat.reduceEqDiff, Nat.one_ne_zero, Nat.zero_ne_one, ix_1_0, ix_2_0, ix_2_1, ix_3_0, ix_3_1, ix_3_2, ix_4_0, ix_4_1, ix_4_2, ix_4_3, ix_5_0, ix_5_1, ix_5_2, ix_5_3, ix_5_4, ix_6_0, ix_6_1, ix_6_2, ix_6_3, ix_6_4, ix_6_5, Nat.reduceLeDiff, Int.reduceAdd, Int.reduceSub, Int.reduceMul, Int.reduceNeg, Int.reducePow, Int.reduceLT, Int.reduceLE, Int.reduceEq, Int.reduceToNat, Bool.and_true, Bool.true_and, Bool.and_self, Bool.and_false, Bool.false_and, Bool.and_eq_true, Bool.and_eq_false_imp, and_self, WS_qdn, WS_qdr, WS_qde, WS_qdb, WS_qdc, qn1, qn2, qn3, qn4, qn5, qk1, qk5, lq1, lq2, lq3, lq4, lq5, intD_int, items_tup, items_rol, items_loc, listOf_loc, listOf_rol, isL_loc, nd_non, nd_bl, nd_int, nd_str, nd_tup, nd_rol, noDct_loc, at0, at1, at2, at3, at4, at5, atl1, atl2, atl3, atl4, lstAt_new, lstAt_h0, lstAt_h1, lstAt_h2, lstAt_h3, it_tup, it_rol, kTup_eq, kLen_eq, wipe0, wipe1, b_nm, b_un, b_nil, b_cnm, b_cun, Option.bind_some, List.set_cons_zero, List.set_cons_succ, List.length_cons, List.length_nil, List.nil_append, List.cons_append, List.append_nil, List.isEmpty_cons, List.isEmpty_nil, true_and, and_true, false_and, and_false, true_implies, forall_const, not_true_eq_false, not_false_eq_true, implies_true, decide_eq_true_eq, decide_eq_false_iff_not, Bool.not_eq_true', Bool.not_eq_false', Bool.not_true, Bool.not_false, if_true, if_false, Bool.false_eq_true, Bool.true_eq_false, reduceCtorEq, false_implies, eq_self, wm__law_recipe, b__law_recipe]
  refine ⟨by constructor <;> omega, ?_⟩
  refine WS_rloop (fun i σ S' => FlowOk S' ∧ Fk 3 S S' ∧ ∃ ls : List Ln, ∃ p r1 r2 r3 r4, σ = [some (.loc 2), some (.int many), some (.int size), some (.loc S.length), p, r1, r2, r3, r4] ∧ lstAt S' S.length = some (ls.map lnD) ∧ LnsOk many.toNat ls ∧ (ls.length : Int) = i)
    ⟨hF.app _, (Fk.refl _ _).app _, [], _, _, _, _, _, rfl, lstAt_new, trivial, rfl⟩ ?_ ?_
  · rintro i σ S1 i0 i1 ⟨F1, K1, ls, p, r1, r2, r3, r4, rfl, hL, hO, hl⟩
    have s1 := K1.len
    simp only [↓reduceIte, ↓W_ok, ↓W_exn, ↓W_var0, ↓W_varS, ↓W_K, ↓W_bin, ↓W_un, ↓W_aNil, ↓W_aCons, ↓W_arg, ↓W_call, ↓W_of, ↓WB_test, ↓tc_bl, ↓WB_tru, ↓trc, ↓WB_and, ↓WB_or, ↓WB_not, ↓W_if, ↓W_andV, ↓W_orV, ↓W_notV, ↓WM_some, ↓WM_none, ↓WO_some, ↓tr_bl, ↓tr_non, ↓tr_int, ↓tr_tup, ↓tr_rol, ↓WS_nx, ↓WS_rt, ↓WS_ct, ↓WS_bk, ↓WS_exn, ↓WS_seq, ↓WS_nil, ↓WS_retN, ↓WS_break, ↓WS_cont, ↓WS_expr, ↓WS_ret, ↓WS_if, ↓WS_set, ↓WS_par, ↓WS_asg, ↓WS_gSet, ↓WS_gN, ↓WS_gC, ↓WS_gUn, ↓WS_gSub, ↓WS_aug, ↓o_add, ↓o_iadd, ↓o_sub, ↓o_neg, ↓o_mul, ↓o_mod, ↓o_div, ↓o_pow, ↓o_addT, ↓o_addS, ↓o_addL, ↓o_lt, ↓o_le, ↓o_gt, ↓o_ge, ↓o_eq, ↓o_ne, ↓o_eqS, ↓o_neS, ↓o_eqB, ↓o_neB, ↓o_eqT, ↓o_neT, ↓o_eqN, ↓o_neN, ↓o_ltT, ↓o_leT, ↓o_is, ↓o_isnot, ↓o_isB, ↓o_isnotB, ↓o_inT, ↓o_ninT, ↓o_inL, ↓o_ninL, ↓o_ixT, ↓o_ixR, ↓o_ixL, ↓o_rev, ↓o_ixS, ↓o_str, ↓o_strS, ↓o_set, ↓o_lenT, ↓o_lenR, ↓o_lenL, ↓o_lenS, ↓o_int, ↓o_intT, ↓o_intF, ↓o_abs, ↓o_max, ↓o_min, ↓o_tuple, ↓o_listXt, ↓o_listXr, ↓o_listXl, ↓o_listXs, ↓o_sortedXt, ↓o_tup0, ↓o_tup1, ↓o_tup2, ↓o_tup3, ↓o_tup4, ↓o_tup5, ↓o_tup6, ↓o_lst0, ↓o_lst1, ↓o_lst2, ↓o_lst3, ↓o_lst4, ↓o_lst5, ↓o_lst6, ↓o_sum, ↓W_meth, ↓o_append, ↓o_extend, ↓o_popAt, ↓W_cut, ↓W_noPart, ↓W_part, ↓o_cutT, ↓o_cutR, ↓o_cutL, ↓W_isi, ↓W_ch, ↓WS_for, ↓WI_iter, ↓WI_range1, ↓WI_range2, ↓WI_range3, ↓WI_enum, ↓WI_zip2, ↓WI_zip3, ↓W_callK, ↓WS_f0, ↓WS_f1, ↓W_alloc, ↓W_ofL, ↓W_comp, ↓WB_yes, ↓W_c0, ↓W_c1, ↓W_listRg, ↓W_tupRg, ↓W_rRange1, ↓W_rRange2, Option.isSome_some, z2_t, z3_t, perm_nil, perm_cons, List.getD_cons_zero, List.getD_cons_succ, o_intT, o_intF, o_intB, o_ixL, o_ixT, beq_self_eq_true, decide_true, decide_false, okEq, okCmp, okIn, D.fits, D.fitsL, D.dep, D.depL, D.eqv, D.eqvL, D.alike, D.alikeL, isBl_bl, isN_non, isN_bl, isN_int, isN_str, isN_tup, isN_rol, isN_loc, Nat.reduceAdd, Nat.reduceSub, Nat.max_self, Nat.min_self, Nat.max_zero, Nat.zero_max, Nat.min_zero, Nat.zero_min, ty_non, ty_bl, ty_int, ty_str, ty_tup, ty_rol, ty_loc, kb_bool_bool, kb_bool_int, kb_bool_str, kb_bool_tuple, kb_bool_list, kb_int_bool, kb_int_int, kb_int_str, kb_int_tuple, kb_int_list, kb_str_bool, kb_str_int, kb_str_str, kb_str_tuple, kb_str_list, kb_tuple_bool, kb_tuple_int, kb_tuple_str, kb_tuple_tuple, kb_tuple_list, kb_list_bool, kb_list_int, kb_list_str, kb_list_tuple, kb_list_list, kb_NoneType_bool, kb_NoneType_int, kb_NoneType_str, kb_NoneType_tuple, kb_NoneType_list, Nat.zero_add, c02, lstAt_setE, Option.map_some, lstAt_set_ne, ne_eq, Nat.reduceEqDiff, Nat.one_ne_zero, Nat.zero_ne_one, ix_1_0, ix_2_0, ix_2_1, ix_3_0, ix_3_1, ix_3_2, ix_4_0, ix_4_1, ix_4_2, ix_4_3, ix_5_0, ix_5_1, ix_5_2, ix_5_3, ix_5_4, ix_6_0, ix_6_1, ix_6_2, ix_6_3, ix_6_4, ix_6_5, Nat.reduceLeDiff, Int.reduceAdd, Int.reduceSub, Int.reduceMul, Int.reduceNeg, Int.reducePow, Int.reduceLT, Int.reduceLE, Int.reduceEq, Int.reduceToNat, Bool.and_true, Bool.true_and, Bool.and_self, Bool.and_false, Bool.false_and, Bool.and_eq_true, Bool.and_eq_false_imp, and_self, WS_qdn, WS_qdr, WS_qde, WS_qdb, WS_qdc, qn1, qn2, qn3, qn4, qn5, qk1, qk5, lq1, lq2, lq3, lq4, lq5, intD_int, items_tup, items_rol, items_loc, listOf_loc, listOf_rol, isL_loc, nd_non, nd_bl, nd_int, nd_str, nd_tup, nd_rol, noDct_loc, at0, at1, at2, at3, at4, at5, atl1, atl2, atl3, atl4, lstAt_new, lstAt_h0, lstAt_h1, lstAt_h2, lstAt_h3, it_tup, it_rol, kTup_eq, kLen_eq, wipe0, wipe1, b_nm, b_un, b_nil, b_cnm, b_cun, Option.bind_some, List.set_cons_zero, List.set_cons_succ, List.length_cons, List.length_nil, List.nil_append, List.cons_append, List.append_nil, List.isEmpty_cons, List.isEmpty_nil, true_and, and_true, false_and, and_false, true_implies, forall_const, not_true_eq_false, not_false_eq_true, implies_true, decide_eq_true_eq, decide_eq_false_iff_not, Bool.not_eq_true', Bool.not_eq_false', Bool.not_true, Bool.not_false, if_true, if_false, Bool.false_eq_true, Bool.true_eq_false, reduceCtorEq, false_implies, eq_self]
    refine ⟨by decide, ?_⟩
    refine WS_rloop (fun j σ S' => FlowOk S' ∧ Fk 3 S1 S' ∧ ∃ as : List Int, ∃ r2 r3 r4, σ = [some (.loc 2), some (.int many), some (.int size), some (.loc S.length), some (.int i), some (.loc S1.length), r2, r3, r4] ∧ lstAt S' S1.length = some (as.map D.int) ∧ (∀ a ∈ as, 0 ≤ a ∧ a < many + i) ∧ (as.length : Int) = j)
      ⟨F1.app _, (Fk.refl _ _).app _, [], _, _, _, rfl, lstAt_new, by simp, rfl⟩ ?_ ?_
    · rintro j σ S2 j0 j1 ⟨F2, K2, as, r2, r3, r4, rfl, hL2, hA, hj⟩
      simp only [↓reduceIte, ↓W_ok, ↓W_exn, ↓W_var0, ↓W_varS, ↓W_K, ↓W_bin, ↓W_un, ↓W_aNil, ↓W_aCons, ↓W_arg, ↓W_call, ↓W_of, ↓WB_test, ↓tc_bl, ↓WB_tru, ↓trc, ↓WB_and, ↓WB_or, ↓WB_not, ↓W_if, ↓W_andV, ↓W_orV, ↓W_notV, ↓WM_some, ↓WM_none, ↓WO_some, ↓tr_bl, ↓tr_non, ↓tr_int, ↓tr_tup, ↓tr_rol, ↓WS_nx, ↓WS_rt, ↓WS_ct, ↓WS_bk, ↓WS_exn, ↓WS_seq, ↓WS_nil, ↓WS_retN, ↓WS_break, ↓WS_cont, ↓WS_expr, ↓WS_ret, ↓WS_if, ↓WS_set, ↓WS_par, ↓WS_asg, ↓WS_gSet, ↓WS_gN, ↓WS_gC, ↓WS_gUn, ↓WS_gSub, ↓WS_aug, ↓o_add, ↓o_iadd, ↓o_sub, ↓o_neg, ↓o_mul, ↓o_mod, ↓o_div, ↓o_pow, ↓o_addT, ↓o_addS, ↓o_addL, ↓o_lt, ↓o_le, ↓o_gt, ↓o_ge, ↓o_eq, ↓o_ne, ↓o_eqS, ↓o_neS, ↓o_eqB, ↓o_neB, ↓o_eqT, ↓o_neT, ↓o_eqN, ↓o_neN, ↓o_ltT, ↓o_leT, ↓o_is, ↓o_isnot, ↓o_isB, ↓o_isnotB, ↓o_inT, ↓o_ninT, ↓o_inL, ↓o_ninL, ↓o_ixT, ↓o_ixR, ↓o_ixL, ↓o_rev, ↓o_ixS, ↓o_str, ↓o_strS, ↓o_set, ↓o_lenT, ↓o_lenR, ↓o_lenL, ↓o_lenS, ↓o_int, ↓o_intT, ↓o_intF, ↓o_abs, ↓o_max, ↓o_min, ↓o_tuple, ↓o_listXt, ↓o_listXr, ↓o_listXl, ↓o_listXs, ↓o_sortedXt, ↓o_tup0, ↓o_tup1, ↓o_tup2, ↓o_tup3, ↓o_tup4, ↓o_tup5, ↓o_tup6, ↓o_lst0, ↓o_lst1, ↓o_lst2, ↓o_lst3, ↓o_lst4, ↓o_lst5, ↓o_lst6, ↓o_sum, ↓W_meth, ↓o_append, ↓o_extend, ↓o_popAt, ↓W_cut, ↓W_noPart, ↓W_part, ↓o_cutT, ↓o_cutR, ↓o_cutL, ↓W_isi, ↓W_ch, ↓WS_for, ↓WI_iter, ↓WI_range1, ↓WI_range2, ↓WI_range3, ↓WI_enum, ↓WI_zip2, ↓WI_zip3, ↓W_callK, ↓WS_f0, ↓WS_f1, ↓W_alloc, ↓W_ofL, ↓W_comp, ↓WB_yes, ↓W_c0, ↓W_c1, ↓W_listRg, ↓W_tupRg, ↓W_rRange1, ↓W_rRange2, Option.isSome_some, z2_t, z3_t, perm_nil, perm_cons, List.getD_cons_zero, List.getD_cons_succ, o_intT, o_intF, o_intB, o_ixL, o_ixT, beq_self_eq_true, decide_true, decide_false, okEq, okCmp, okIn, D.fits, D.fitsL, D.dep, D.depL, D.eqv, D.eqvL, D.alike, D.alikeL, isBl_bl, isN_non, isN_bl, isN_int, isN_str, isN_tup, isN_rol, isN_loc, Nat.reduceAdd, Nat.reduceSub, Nat.max_self, Nat.min_self, Nat.max_zero, Nat.zero_max, Nat.min_zero, Nat.zero_min, ty_non, ty_bl, ty_int, ty_str, ty_tup, ty_rol, ty_loc, kb_bool_bool, kb_bool_int, kb_bool_str, kb_bool_tuple, kb_bool_list, kb_int_bool, kb_int_int, kb_int_str, kb_int_tuple, kb_int_list, kb_str_bool, kb_str_int, kb_str_str, kb_str_tuple, kb_str_list, kb_tuple_bool, kb_tuple_int, kb_tuple_str, kb_tuple_tuple, kb_tuple_list, kb_list_bool, kb_list_int, kb_list_str, kb_list_tuple, kb_list_list, kb_NoneType_bool, kb_NoneType_int, kb_NoneType_str, kb_NoneType_tuple, kb_NoneType_list, Nat.zero_add, c02, lstAt_setE, Option.map_some, lstAt_set_ne, ne_eq, Nat.reduceEqDiff, Nat.one_ne_zero, Nat.zero_ne_one, ix_1_0, ix_2_0, ix_2_1, ix_3_0, ix_3_1, ix_3_2, ix_4_0, ix_4_1, ix_4_2, ix_4_3, ix_5_0, ix_5_1, ix_5_2, ix_5_3, ix_5_4, ix_6_0, ix_6_1, ix_6_2, ix_6_3, ix_6_4, ix_6_5, Nat.reduceLeDiff, Int.reduceAdd, Int.reduceSub, Int.reduceMul, Int.reduceNeg, Int.reducePow, Int.reduceLT, Int.reduceLE, Int.reduceEq, Int.reduceToNat, Bool.and_true, Bool.true_and, Bool.and_self, Bool.and_false, Bool.false_and, Bool.and_eq_true, Bool.and_eq_false_imp, and_self, WS_qdn, WS_qdr, WS_qde, WS_qdb, WS_qdc, qn1, qn2, qn3, qn4, qn5, qk1, qk5, lq1, lq2, lq3, lq4, lq5, intD_int, items_tup, items_rol, items_loc, listOf_loc, listOf_rol, isL_loc, nd_non, nd_bl, nd_int, nd_str, nd_tup, nd_rol, noDct_loc, at0, at1, at2, at3, at4, at5, atl1, atl2, atl3, atl4, lstAt_new, lstAt_h0, lstAt_h1, lstAt_h2, lstAt_h3, it_tup, it_rol, kTup_eq, kLen_eq, wipe0, wipe1, b_nm, b_un, b_nil, b_cnm, b_cun, Option.bind_some, List.set_cons_zero, List.set_cons_succ, List.length_cons, List.length_nil, List.nil_append, List.cons_append, List.append_nil, List.isEmpty_cons, List.isEmpty_nil, true_and, and_true, false_and, and_false, true_implies, forall_const, not_true_eq_false, not_false_eq_true, implies_true, decide_eq_true_eq, decide_eq_false_iff_not, Bool.not_eq_true', Bool.not_eq_false', Bool.not_true, Bool.not_false, if_true, if_false, Bool.false_eq_true, Bool.true_eq_false, reduceCtorEq, false_implies, eq_self]
      refine draw_w F2 (by omega) (by omega) fun v S3 v0 v1 F3 K3 => ?_
      have s2 := F1.len
      have hL3 := K3.lst (by omega) hL2
      simp only [↓reduceIte, ↓W_ok, ↓W_exn, ↓W_var0, ↓W_varS, ↓W_K, ↓W_bin, ↓W_un, ↓W_aNil, ↓W_aCons, ↓W_arg, ↓W_call, ↓W_of, ↓WB_test, ↓tc_bl, ↓WB_tru, ↓trc, ↓WB_and, ↓WB_or, ↓WB_not, ↓W_if, ↓W_andV, ↓W_orV, ↓W_notV, ↓WM_some, ↓WM_none, ↓WO_some, ↓tr_bl, ↓tr_non, ↓tr_int, ↓tr_tup, ↓tr_rol, ↓WS_nx, ↓WS_rt, ↓WS_ct, ↓WS_bk, ↓WS_exn, ↓WS_seq, ↓WS_nil, ↓WS_retN, ↓WS_break, ↓WS_cont, ↓WS_expr, ↓WS_ret, ↓WS_if, ↓WS_set, ↓WS_par, ↓WS_asg, ↓WS_gSet, ↓WS_gN, ↓WS_gC, ↓WS_gUn, ↓WS_gSub, ↓WS_aug, ↓o_add, ↓o_iadd, ↓o_sub, ↓o_neg, ↓o_mul, ↓o_mod, ↓o_div, ↓o_pow, ↓o_addT, ↓o_addS, ↓o_addL, ↓o_lt, ↓o_le, ↓o_gt, ↓o_ge, ↓o_eq, ↓o_ne, ↓o_eqS, ↓o_neS, ↓o_eqB, ↓o_neB, ↓o_eqT, ↓o_neT, ↓o_eqN, ↓o_neN, ↓o_ltT, ↓o_leT, ↓o_is, ↓o_isnot, ↓o_isB, ↓o_isnotB, ↓o_inT, ↓o_ninT, ↓o_inL, ↓o_ninL, ↓o_ixT, ↓o_ixR, ↓o_ixL, ↓o_rev, ↓o_ixS, ↓o_str, ↓o_strS, ↓o_set, ↓o_lenT, ↓o_lenR, ↓o_lenL, ↓o_lenS, ↓o_int, ↓o_intT, ↓o_intF, ↓o_abs, ↓o_max, ↓o_min, ↓o_tuple, ↓o_listXt, ↓o_listXr, ↓o_listXl, ↓o_listXs, ↓o_sortedXt, ↓o_tup0, ↓o_tup1, ↓o_tup2, ↓o_tup3, ↓o_tup4, ↓o_tup5, ↓o_tup6, ↓o_lst0, ↓o_lst1, ↓o_lst2, ↓o_lst3, ↓o_lst4, ↓o_lst5, ↓o_lst6, ↓o_sum, ↓W_meth, ↓o_append, ↓o_extend, ↓o_popAt, ↓W_cut, ↓W_noPart, ↓W_part, ↓o_cutT, ↓o_cutR, ↓o_cutL, ↓W_isi, ↓W_ch, ↓WS_for, ↓WI_iter, ↓WI_range1, ↓WI_range2, ↓WI_range3, ↓WI_enum, ↓WI_zip2, ↓WI_zip3, ↓W_callK, ↓WS_f0, ↓WS_f1, ↓W_alloc, ↓W_ofL, ↓W_comp, ↓WB_yes, ↓W_c0, ↓W_c1, ↓W_listRg, ↓W_tupRg, ↓W_rRange1, ↓W_rRange2, Option.isSome_some, z2_t, z3_t, perm_nil, perm_cons, List.getD_cons_zero, List.getD_cons_succ, o_intT, o_intF, o_intB, o_ixL, o_ixT, beq_self_eq_true, decide_true, decide_false, okEq, okCmp, okIn, D.fits, D.fitsL, D.dep, D.depL, D.eqv, D.eqvL, D.alike, D.alikeL, isBl_bl, isN_non, isN_bl, isN_int, isN_str, isN_tup, isN_rol, isN_loc, Nat.reduceAdd, Nat.reduceSub, Nat.max_self, Nat.min_self, Nat.max_zero, Nat.zero_max, Nat.min_zero, Nat.zero_min, ty_non, ty_bl, ty_int, ty_str, ty_tup, ty_rol, ty_loc, kb_bool_bool, kb_bool_int, kb_bool_str, kb_bool_tuple, kb_bool_list, kb_int_bool, kb_int_int, kb_int_str, kb_int_tuple, kb_int_list, kb_str_bool, kb_str_int, kb_str_str, kb_str_tuple, kb_str_list, kb_tuple_bool, kb_tuple_int, kb_tuple_str, kb_tuple_tuple, kb_tuple_list, kb_list_bool, kb_list_int, kb_list_str, kb_list_tuple, kb_list_list, kb_NoneType_bool, kb_NoneType_int, kb_NoneType_str, kb_NoneType_tuple, kb_NoneType_list, Nat.zero_add, c02, lstAt_setE, Option.map_some, lstAt_set_ne, ne_eq, Nat.reduceEqDiff, Nat.one_ne_zero, Nat.zero_ne_one, ix_1_0, ix_2_0, ix_2_1, ix_3_0, ix_3_1, ix_3_2, ix_4_0, ix_4_1, ix_4_2, ix_4_3, ix_5_0, ix_5_1, ix_5_2, ix_5_3, ix_5_4, ix_6_0, ix_6_1, ix_6_2, ix_6_3, ix_6_4, ix_6_5, Nat.reduceLeDiff, Int.reduceAdd, Int.reduceSub, Int.reduceMul, Int.reduceNeg, Int.reducePow, Int.reduceLT, Int.reduceLE, Int.reduceEq, Int.reduceToNat, Bool.and_true, Bool.true_and, Bool.and_self, Bool.and_false, Bool.false_and, Bool.and_eq_true, Bool.and_eq_false_imp, and_self, WS_qdn, WS_qdr, WS_qde, WS_qdb, WS_qdc, qn1, qn2, qn3, qn4, qn5, qk1, qk5, lq1, lq2, lq3, lq4, lq5, intD_int, items_tup, items_rol, items_loc, listOf_loc, listOf_rol, isL_loc, nd_non, nd_bl, nd_int, nd_str, nd_tup, nd_rol, noDct_loc, at0, at1, at2, at3, at4, at5, atl1, atl2, atl3, atl4, lstAt_new, lstAt_h0, lstAt_h1, lstAt_h2, lstAt_h3, it_tup, it_rol, kTup_eq, kLen_eq, wipe0, wipe1, b_nm, b_un, b_nil, b_cnm, b_cun, Option.bind_some, List.set_cons_zero, List.set_cons_succ, List.length_cons, List.length_nil, List.nil_append, List.cons_append, List.append_nil, List.isEmpty_cons, List.isEmpty_nil, true_and, and_true, false_and, and_false, true_implies, forall_const, not_true_eq_false, not_false_eq_true, implies_true, decide_eq_true_eq, decide_eq_false_iff_not, Bool.not_eq_true', Bool.not_eq_false', Bool.not_true, Bool.not_false, if_true, if_false, Bool.false_eq_true, Bool.true_eq_false, reduceCtorEq, false_implies, eq_self, hL3]
      refine draw_w F3 (by decide) (by decide) fun w S4 w0 w1 F4 K4 => ?_
      have hL4 := K4.lst (by omega) hL3
      have s3 := K3.len
      have s4 := K4.len
      have s5 := K2.len
      have hlen : (as.map D.int).length < sizeLine := by rw [sizeLine_eq, List.length_map]; omega
      simp only [↓reduceIte, ↓W_ok, ↓W_exn, ↓W_var0, ↓W_varS, ↓W_K, ↓W_bin, ↓W_un, ↓W_aNil, ↓W_aCons, ↓W_arg, ↓W_call, ↓W_of, ↓WB_test, ↓tc_bl, ↓WB_tru, ↓trc, ↓WB_and, ↓WB_or, ↓WB_not, ↓W_if, ↓W_andV, ↓W_orV, ↓W_notV, ↓WM_some, ↓WM_none, ↓WO_some, ↓tr_bl, ↓tr_non, ↓tr_int, ↓tr_tup, ↓tr_rol, ↓WS_nx, ↓WS_rt, ↓WS_ct, ↓WS_bk, ↓WS_exn, ↓WS_seq, ↓WS_nil, ↓WS_retN, ↓WS_break, ↓WS_cont, ↓WS_expr, ↓WS_ret, ↓WS_if, ↓WS_set, ↓WS_par, ↓WS_asg, ↓WS_gSet, ↓WS_gN, ↓WS_gC, ↓WS_gUn, ↓WS_gSub, ↓WS_aug, ↓o_add, ↓o_iadd, ↓o_sub, ↓o_neg, ↓o_mul, ↓o_mod, ↓o_div, ↓o_pow, ↓o_addT, ↓o_addS, ↓o_addL, ↓o_lt, ↓o_le, ↓o_gt, ↓o_ge, ↓o_eq, ↓o_ne, ↓o_eqS, ↓o_neS, ↓o_eqB, ↓o_neB, ↓o_eqT, ↓o_neT, ↓o_eqN, ↓o_neN, ↓o_ltT, ↓o_leT, ↓o_is, ↓o_isnot, ↓o_isB, ↓o_isnotB, ↓o_inT, ↓o_ninT, ↓o_inL, ↓o_ninL, ↓o_ixT, ↓o_ixR, ↓o_ixL, ↓o_rev, ↓o_ixS, ↓o_str, ↓o_strS, ↓o_set, ↓o_lenT, ↓o_lenR, ↓o_lenL, ↓o_lenS, ↓o_int, ↓o_intT, ↓o_intF, ↓o_abs, ↓o_max, ↓o_min, ↓o_tuple, ↓o_listXt, ↓o_listXr, ↓o_listXl, ↓o_listXs, ↓o_sortedXt, ↓o_tup0, ↓o_tup1, ↓o_tup2, ↓o_tup3, ↓o_tup4, ↓o_tup5, ↓o_tup6, ↓o_lst0, ↓o_lst1, ↓o_lst2, ↓o_lst3, ↓o_lst4, ↓o_lst5, ↓o_lst6, ↓o_sum, ↓W_meth, ↓o_append, ↓o_extend, ↓o_popAt, ↓W_cut, ↓W_noPart, ↓W_part, ↓o_cutT, ↓o_cutR, ↓o_cutL, ↓W_isi, ↓W_ch, ↓WS_for, ↓WI_iter, ↓WI_range1, ↓WI_range2, ↓WI_range3, ↓WI_enum, ↓WI_zip2, ↓WI_zip3, ↓W_callK, ↓WS_f0, ↓WS_f1, ↓W_alloc, ↓W_ofL, ↓W_comp, ↓WB_yes, ↓W_c0, ↓W_c1, ↓W_listRg, ↓W_tupRg, ↓W_rRange1, ↓W_rRange2, Option.isSome_some, z2_t, z3_t, perm_nil, perm_cons, List.getD_cons_zero, List.getD_cons_succ, o_intT, o_intF, o_intB, o_ixL, o_ixT, beq_self_eq_true, decide_true, decide_false, okEq, okCmp, okIn, D.fits, D.fitsL, D.dep, D.depL, D.eqv, D.eqvL, D.alike, D.alikeL, isBl_bl, isN_non, isN_bl, isN_int, isN_str, isN_tup, isN_rol, isN_loc, Nat.reduceAdd, Nat.reduceSub, Nat.max_self, Nat.min_self, Nat.max_zero, Nat.zero_max, Nat.min_zero, Nat.zero_min, ty_non, ty_bl, ty_int, ty_str, ty_tup, ty_rol, ty_loc, kb_bool_bool, kb_bool_int, kb_bool_str, kb_bool_tuple, kb_bool_list, kb_int_bool, kb_int_int, kb_int_str, kb_int_tuple, kb_int_list, kb_str_bool, kb_str_int, kb_str_str, kb_str_tuple, kb_str_list, kb_tuple_bool, kb_tuple_int, kb_tuple_str, kb_tuple_tuple, kb_tuple_list, kb_list_bool, kb_list_int, kb_list_str, kb_list_tuple, kb_list_list, kb_NoneType_bool, kb_NoneType_int, kb_NoneType_str, kb_NoneType_tuple, kb_NoneType_list, Nat.zero_add, c02, lstAt_setE, Option.map_some, lstAt_set_ne, ne_eq, Nat.reduceEqDiff, Nat.one_ne_zero, Nat.zero_ne_one, ix_1_0, ix_2_0, ix_2_1, ix_3_0, ix_3_1, ix_3_2, ix_4_0, ix_4_1, ix_4_2, ix_4_3, ix_5_0, ix_5_1, ix_5_2, ix_5_3, ix_5_4, ix_6_0, ix_6_1, ix_6_2, ix_6_3, ix_6_4, ix_6_5, Nat.reduceLeDiff, Int.reduceAdd, Int.reduceSub, Int.reduceMul, Int.reduceNeg, Int.reducePow, Int.reduceLT, Int.reduceLE, Int.reduceEq, Int.reduceToNat, Bool.and_true, Bool.true_and, Bool.and_self, Bool.and_false, Bool.false_and, Bool.and_eq_true, Bool.and_eq_false_imp, and_self, WS_qdn, WS_qdr, WS_qde, WS_qdb, WS_qdc, qn1, qn2, qn3, qn4, qn5, qk1, qk5, lq1, lq2, lq3, lq4, lq5, intD_int, items_tup, items_rol, items_loc, listOf_loc, listOf_rol, isL_loc, nd_non, nd_bl, nd_int, nd_str, nd_tup, nd_rol, noDct_loc, at0, at1, at2, at3, at4, at5, atl1, atl2, atl3, atl4, lstAt_new, lstAt_h0, lstAt_h1, lstAt_h2, lstAt_h3, it_tup, it_rol, kTup_eq, kLen_eq, wipe0, wipe1, b_nm, b_un, b_nil, b_cnm, b_cun, Option.bind_some, List.set_cons_zero, List.set_cons_succ, List.length_cons, List.length_nil, List.nil_append, List.cons_append, List.append_nil, List.isEmpty_cons, List.isEmpty_nil, true_and, and_true, false_and, and_false, true_implies, forall_const, not_true_eq_false, not_false_eq_true, implies_true, decide_eq_true_eq, decide_eq_false_iff_not, Bool.not_eq_true', Bool.not_eq_false', Bool.not_true, Bool.not_false, if_true, if_false, Bool.false_eq_true, Bool.true_eq_false, reduceCtorEq, false_implies, eq_self]
      refine ⟨fun hw => ?_, fun hw => ?_⟩
      · simp only [↓reduceIte, ↓W_ok, ↓W_exn, ↓W_var0, ↓W_varS, ↓W_K, ↓W_bin, ↓W_un, ↓W_aNil, ↓W_aCons, ↓W_arg, ↓W_call, ↓W_of, ↓WB_test, ↓tc_bl, ↓WB_tru, ↓trc, ↓WB_and, ↓WB_or, ↓WB_not, ↓W_if, ↓W_andV, ↓W_orV, ↓W_notV, ↓WM_some, ↓WM_none, ↓WO_some, ↓tr_bl, ↓tr_non, ↓tr_int, ↓tr_tup, ↓tr_rol, ↓WS_nx, ↓WS_rt, ↓WS_ct, ↓WS_bk, ↓WS_exn, ↓WS_seq, ↓WS_nil, ↓WS_retN, ↓WS_break, ↓WS_cont, ↓WS_expr, ↓WS_ret, ↓WS_if, ↓WS_set, ↓WS_par, ↓WS_asg, ↓WS_gSet, ↓WS_gN, ↓WS_gC, ↓WS_gUn, ↓WS_gSub, ↓WS_aug, ↓o_add, ↓o_iadd, ↓o_sub, ↓o_neg, ↓o_mul, ↓o_mod, ↓o_div, ↓o_pow, ↓o_addT, ↓o_addS, ↓o_addL, ↓o_lt, ↓o_le, ↓o_gt, ↓o_ge, ↓o_eq, ↓o_ne, ↓o_eqS, ↓o_neS, ↓o_eqB, ↓o_neB, ↓o_eqT, ↓o_neT, ↓o_eqN, ↓o_neN, ↓o_ltT, ↓o_leT, ↓o_is, ↓o_isnot, ↓o_isB, ↓o_isnotB, ↓o_inT, ↓o_ninT, ↓o_inL, ↓o_ninL, ↓o_ixT, ↓o_ixR, ↓o_ixL, ↓o_rev, ↓o_ixS, ↓o_str, ↓o_strS, ↓o_set, ↓o_lenT, ↓o_lenR, ↓o_lenL, ↓o_lenS, ↓o_int, ↓o_intT, ↓o_intF, ↓o_abs, ↓o_max, ↓o_min, ↓o_tuple, ↓o_listXt, ↓o_listXr, ↓o_listXl, ↓o_listXs, ↓o_sortedXt, ↓o_tup0, ↓o_tup1, ↓o_tup2, ↓o_tup3, ↓o_tup4, ↓o_tup5, ↓o_tup6, ↓o_lst0, ↓o_lst1, ↓o_lst2, ↓o_lst3, ↓o_lst4, ↓o_lst5, ↓o_lst6, ↓o_sum, ↓W_meth, ↓o_append, ↓o_extend, ↓o_popAt, ↓W_cut, ↓W_noPart, ↓W_part, ↓o_cutT, ↓o_cutR, ↓o_cutL, ↓W_isi, ↓W_ch, ↓WS_for, ↓WI_iter, ↓WI_range1, ↓WI_range2, ↓WI_range3, ↓WI_enum, ↓WI_zip2, ↓WI_zip3, ↓W_callK, ↓WS_f0, ↓WS_f1, ↓W_alloc, ↓W_ofL, ↓W_comp, ↓WB_yes, ↓W_c0, ↓W_c1, ↓W_listRg, ↓W_tupRg, ↓W_rRange1, ↓W_rRange2, Option.isSome_some, z2_t, z3_t, perm_nil, perm_cons, List.getD_cons_zero, List.getD_cons_succ, o_intT, o_intF, o_intB, o_ixL, o_ixT, beq_self_eq_true, decide_true, decide_false, okEq, okCmp, okIn, D.fits, D.fitsL, D.dep, D.depL, D.eqv, D.eqvL, D.alike, D.alikeL, isBl_bl, isN_non, isN_bl, isN_int, isN_str, isN_tup, isN_rol, isN_loc, Nat.reduceAdd, Nat.reduceSub, Nat.max_self, Nat.min_self, Nat.max_zero, Nat.zero_max, Nat.min_zero, Nat.zero_min, ty_non, ty_bl, ty_int, ty_str, ty_tup, ty_rol, ty_loc, kb_bool_bool, kb_bool_int, kb_bool_str, kb_bool_tuple, kb_bool_list, kb_int_bool, kb_int_int, kb_int_str, kb_int_tuple, kb_int_list, kb_str_bool, kb_str_int, kb_str_str, kb_str_tuple, kb_str_list, kb_tuple_bool, kb_tuple_int, kb_tuple_str, kb_tuple_tuple, kb_tuple_list, kb_list_bool, kb_list_int, kb_list_str, kb_list_tuple, kb_list_list, kb_NoneType_bool, kb_NoneType_int, kb_NoneType_str, kb_NoneType_tuple, kb_NoneType_list, Nat.zero_add, c02, lstAt_setE, Option.map_some, lstAt_set_ne, ne_eq, Nat.reduceEqDiff, Nat.one_ne_zero, Nat.zero_ne_one, ix_1_0, ix_2_0, ix_2_1, ix_3_0, ix_3_1, ix_3_2, ix_4_0, ix_4_1, ix_4_2, ix_4_3, ix_5_0, ix_5_1, ix_5_2, ix_5_3, ix_5_4, ix_6_0, ix_6_1, ix_6_2, ix_6_3, ix_6_4, ix_6_5, Nat.reduceLeDiff, Int.reduceAdd, Int.reduceSub, Int.reduceMul, Int.reduceNeg, Int.reducePow, Int.reduceLT, Int.reduceLE, Int.reduceEq, Int.reduceToNat, Bool.and_true, Bool.true_and, Bool.and_self, Bool.and_false, Bool.false_and, Bool.and_eq_true, Bool.and_eq_false_imp, and_self, WS_qdn, WS_qdr, WS_qde, WS_qdb, WS_qdc, qn1, qn2, qn3, qn4, qn5, qk1, qk5, lq1, lq2, lq3, lq4, lq5, intD_int, items_tup, items_rol, items_loc, listOf_loc, listOf_rol, isL_loc, nd_non, nd_bl, nd_int, nd_str, nd_tup, nd_rol, noDct_loc, at0, at1, at2, at3, at4, at5, atl1, atl2, atl3, atl4, lstAt_new, lstAt_h0, lstAt_h1, lstAt_h2, lstAt_h3, it_tup, it_rol, kTup_eq, kLen_eq, wipe0, wipe1, b_nm, b_un, b_nil, b_cnm, b_cun, Option.bind_some, List.set_cons_zero, List.set_cons_succ, List.length_cons, List.length_nil, List.nil_append, List.cons_append, List.append_nil, List.isEmpty_cons, List.isEmpty_nil, true_and, and_true, false_and, and_false, true_implies, forall_const, not_true_eq_false, not_false_eq_true, implies_true, decide_eq_true_eq, decide_eq_false_iff_not, Bool.not_eq_true', Bool.not_eq_false', Bool.not_true, Bool.not_false, if_true, if_false, Bool.false_eq_true, Bool.true_eq_false, reduceCtorEq, false_implies, eq_self, hL4]
        refine ⟨hlen, F4.set (by omega), ((K2.trans K3).trans K4).set (Nat.le_refl _), as ++ [many + i - 1 - v], _, _, _, rfl, by simp, ?_, by simp; omega⟩
        intro a ha
        rcases List.mem_append.mp ha with g | g
        · exact hA a g
        · rw [List.mem_singleton.mp g]; omega
      · refine draw_w F4 (by omega) (by omega) fun u S5 u0 u1 F5 K5 => ?_
        have hL5 := K5.lst (by omega) hL4
        simp only [↓reduceIte, ↓W_ok, ↓W_exn, ↓W_var0, ↓W_varS, ↓W_K, ↓W_bin, ↓W_un, ↓W_aNil, ↓W_aCons, ↓W_arg, ↓W_call, ↓W_of, ↓WB_test, ↓tc_bl, ↓WB_tru, ↓trc, ↓WB_and, ↓WB_or, ↓WB_not, ↓W_if, ↓W_andV, ↓W_orV, ↓W_notV, ↓WM_some, ↓WM_none, ↓WO_some, ↓tr_bl, ↓tr_non, ↓tr_int, ↓tr_tup, ↓tr_rol, ↓WS_nx, ↓WS_rt, ↓WS_ct, ↓WS_bk, ↓WS_exn, ↓WS_seq, ↓WS_nil, ↓WS_retN, ↓WS_break, ↓WS_cont, ↓WS_expr, ↓WS_ret, ↓WS_if, ↓WS_set, ↓WS_par, ↓WS_asg, ↓WS_gSet, ↓WS_gN, ↓WS_gC, ↓WS_gUn, ↓WS_gSub, ↓WS_aug, ↓o_add, ↓o_iadd, ↓o_sub, ↓o_neg, ↓o_mul, ↓o_mod, ↓o_div, ↓o_pow, ↓o_addT, ↓o_addS, ↓o_addL, ↓o_lt, ↓o_le, ↓o_gt, ↓o_ge, ↓o_eq, ↓o_ne, ↓o_eqS, ↓o_neS, ↓o_eqB, ↓o_neB, ↓o_eqT, ↓o_neT, ↓o_eqN, ↓o_neN, ↓o_ltT, ↓o_leT, ↓o_is, ↓o_isnot, ↓o_isB, ↓o_isnotB, ↓o_inT, ↓o_ninT, ↓o_inL, ↓o_ninL, ↓o_ixT, ↓o_ixR, ↓o_ixL, ↓o_rev, ↓o_ixS, ↓o_str, ↓o_strS, ↓o_set, ↓o_lenT, ↓o_lenR, ↓o_lenL, ↓o_lenS, ↓o_int, ↓o_intT, ↓o_intF, ↓o_abs, ↓o_max, ↓o_min, ↓o_tuple, ↓o_listXt, ↓o_listXr, ↓o_listXl, ↓o_listXs, ↓o_sortedXt, ↓o_tup0, ↓o_tup1, ↓o_tup2, ↓o_tup3, ↓o_tup4, ↓o_tup5, ↓o_tup6, ↓o_lst0, ↓o_lst1, ↓o_lst2, ↓o_lst3, ↓o_lst4, ↓o_lst5, ↓o_lst6, ↓o_sum, ↓W_meth, ↓o_append, ↓o_extend, ↓o_popAt, ↓W_cut, ↓W_noPart, ↓W_part, ↓o_cutT, ↓o_cutR, ↓o_cutL, ↓W_isi, ↓W_ch, ↓WS_for, ↓WI_iter, ↓WI_range1, ↓WI_range2, ↓WI_range3, ↓WI_enum, ↓WI_zip2, ↓WI_zip3, ↓W_callK, ↓WS_f0, ↓WS_f1, ↓W_alloc, ↓W_ofL, ↓W_comp, ↓WB_yes, ↓W_c0, ↓W_c1, ↓W_listRg, ↓W_tupRg, ↓W_rRange1, ↓W_rRange2, Option.isSome_some, z2_t, z3_t, perm_nil, perm_cons, List.getD_cons_zero, List.getD_cons_succ, o_intT, o_intF, o_intB, o_ixL, o_ixT, beq_self_eq_true, decide_true, decide_false, okEq, okCmp, okIn, D.fits, D.fitsL, D.dep, D.depL, D.eqv, D.eqvL, D.alike, D.alikeL, isBl_bl, isN_non, isN_bl, isN_int, isN_str, isN_tup, isN_rol, isN_loc, Nat.reduceAdd, Nat.reduceSub, Nat.max_self, Nat.min_self, Nat.max_zero, Nat.zero_max, Nat.min_zero, Nat.zero_min, ty_non, ty_bl, ty_int, ty_str, ty_tup, ty_rol, ty_loc, kb_bool_bool, kb_bool_int, kb_bool_str, kb_bool_tuple, kb_bool_list, kb_int_bool, kb_int_int, kb_int_str, kb_int_tuple, kb_int_list, kb_str_bool, kb_str_int, kb_str_str, kb_str_tuple, kb_str_list, kb_tuple_bool, kb_tuple_int, kb_tuple_str, kb_tuple_tuple, kb_tuple_list, kb_list_bool, kb_list_int, kb_list_str, kb_list_tuple, kb_list_list, kb_NoneType_bool, kb_NoneType_int, kb_NoneType_str, kb_NoneType_tuple, kb_NoneType_list, Nat.zero_add, c02, lstAt_setE, Option.map_some, lstAt_set_ne, ne_eq, Nat.reduceEqDiff, Nat.one_ne_zero, Nat.zero_ne_one, ix_1_0, ix_2_0, ix_2_1, ix_3_0, ix_3_1, ix_3_2, ix_4_0, ix_4_1, ix_4_2, ix_4_3, ix_5_0, ix_5_1, ix_5_2, ix_5_3, ix_5_4, ix_6_0, ix_6_1, ix_6_2, ix_6_3, ix_6_4, ix_6_5, Nat.reduceLeDiff, Int.reduceAdd, Int.reduceSub, Int.reduceMul, Int.reduceNeg, Int.reducePow, Int.reduceLT, Int.reduceLE, Int.reduceEq, Int.reduceToNat, Bool.and_true, Bool.true_and, Bool.and_self, Bool.and_false, Bool.false_and, Bool.and_eq_true, Bool.and_eq_false_imp, and_self, WS_qdn, WS_qdr, WS_qde, WS_qdb, WS_qdc, qn1, qn2, qn3, qn4, qn5, qk1, qk5, lq1, lq2, lq3, lq4, lq5, intD_int, items_tup, items_rol, items_loc, listOf_loc, listOf_rol, isL_loc, nd_non, nd_bl, nd_int, nd_str, nd_tup, nd_rol, noDct_loc, at0, at1, at2, at3, at4, at5, atl1, atl2, atl3, atl4, lstAt_new, lstAt_h0, lstAt_h1, lstAt_h2, lstAt_h3, it_tup, it_rol, kTup_eq, kLen_eq, wipe0, wipe1, b_nm, b_un, b_nil, b_cnm, b_cun, Option.bind_some, List.set_cons_zero, List.set_cons_succ, List.length_cons, List.length_nil, List.nil_append, List.cons_append, List.append_nil, List.isEmpty_cons, List.isEmpty_nil, true_and, and_true, false_and, and_false, true_implies, forall_const, not_true_eq_false, not_false_eq_true, implies_true, decide_eq_true_eq, decide_eq_false_iff_not, Bool.not_eq_true', Bool.not_eq_false', Bool.not_true, Bool.not_false, if_true, if_false, Bool.false_eq_true, Bool.true_eq_false, reduceCtorEq, false_implies, eq_self, hL5]
        refine ⟨hlen, F5.set (by omega), (((K2.trans K3).trans K4).trans K5).set (Nat.le_refl _), as ++ [u], _, _, _, rfl, by simp, ?_, by simp; omega⟩
        intro a ha
        rcases List.mem_append.mp ha with g | g
        · exact hA a g
        · rw [List.mem_singleton.mp g]; omega
    · rintro σ S2 ⟨F2, K2, as, r2, r3, r4, rfl, hL2, hA, hj⟩
      have hL' := K2.lst (by omega) hL
      simp only [↓reduceIte, ↓W_ok, ↓W_exn, ↓W_var0, ↓W_varS, ↓W_K, ↓W_bin, ↓W_un, ↓W_aNil, ↓W_aCons, ↓W_arg, ↓W_call, ↓W_of, ↓WB_test, ↓tc_bl, ↓WB_tru, ↓trc, ↓WB_and, ↓WB_or, ↓WB_not, ↓W_if, ↓W_andV, ↓W_orV, ↓W_notV, ↓WM_some, ↓WM_none, ↓WO_some, ↓tr_bl, ↓tr_non, ↓tr_int, ↓tr_tup, ↓tr_rol, ↓WS_nx, ↓WS_rt, ↓WS_ct, ↓WS_bk, ↓WS_exn, ↓WS_seq, ↓WS_nil, ↓WS_retN, ↓WS_break, ↓WS_cont, ↓WS_expr, ↓WS_ret, ↓WS_if, ↓WS_set, ↓WS_par, ↓WS_asg, ↓WS_gSet, ↓WS_gN, ↓WS_gC, ↓WS_gUn, ↓WS_gSub, ↓WS_aug, ↓o_add, ↓o_iadd, ↓o_sub, ↓o_neg, ↓o_mul, ↓o_mod, ↓o_div, ↓o_pow, ↓o_addT, ↓o_addS, ↓o_addL, ↓o_lt, ↓o_le, ↓o_gt, ↓o_ge, ↓o_eq, ↓o_ne, ↓o_eqS, ↓o_neS, ↓o_eqB, ↓o_neB, ↓o_eqT, ↓o_neT, ↓o_eqN, ↓o_neN, ↓o_ltT, ↓o_leT, ↓o_is, ↓o_isnot, ↓o_isB, ↓o_isnotB, ↓o_inT, ↓o_ninT, ↓o_inL, ↓o_ninL, ↓o_ixT, ↓o_ixR, ↓o_ixL, ↓o_rev, ↓o_ixS, ↓o_str, ↓o_strS, ↓o_set, ↓o_lenT, ↓o_lenR, ↓o_lenL, ↓o_lenS, ↓o_int, ↓o_intT, ↓o_intF, ↓o_abs, ↓o_max, ↓o_min, ↓o_tuple, ↓o_listXt, ↓o_listXr, ↓o_listXl, ↓o_listXs, ↓o_sortedXt, ↓o_tup0, ↓o_tup1, ↓o_tup2, ↓o_tup3, ↓o_tup4, ↓o_tup5, ↓o_tup6, ↓o_lst0, ↓o_lst1, ↓o_lst2, ↓o_lst3, ↓o_lst4, ↓o_lst5, ↓o_lst6, ↓o_sum, ↓W_meth, ↓o_append, ↓o_extend, ↓o_popAt, ↓W_cut, ↓W_noPart, ↓W_part, ↓o_cutT, ↓o_cutR, ↓o_cutL, ↓W_isi, ↓W_ch, ↓WS_for, ↓WI_iter, ↓WI_range1, ↓WI_range2, ↓WI_range3, ↓WI_enum, ↓WI_zip2, ↓WI_zip3, ↓W_callK, ↓WS_f0, ↓WS_f1, ↓W_alloc, ↓W_ofL, ↓W_comp, ↓WB_yes, ↓W_c0, ↓W_c1, ↓W_listRg, ↓W_tupRg, ↓W_rRange1, ↓W_rRange2, Option.isSome_some, z2_t, z3_t, perm_nil, perm_cons, List.getD_cons_zero, List.getD_cons_succ, o_intT, o_intF, o_intB, o_ixL, o_ixT, beq_self_eq_true, decide_true, decide_false, okEq, okCmp, okIn, D.fits, D.fitsL, D.dep, D.depL, D.eqv, D.eqvL, D.alike, D.alikeL, isBl_bl, isN_non, isN_bl, isN_int, isN_str, isN_tup, isN_rol, isN_loc, Nat.reduceAdd, Nat.reduceSub, Nat.max_self, Nat.min_self, Nat.max_zero, Nat.zero_max, Nat.min_zero, Nat.zero_min, ty_non, ty_bl, ty_int, ty_str, ty_tup, ty_rol, ty_loc, kb_bool_bool, kb_bool_int, kb_bool_str, kb_bool_tuple, kb_bool_list, kb_int_bool, kb_int_int, kb_int_str, kb_int_tuple, kb_int_list, kb_str_bool, kb_str_int, kb_str_str, kb_str_tuple, kb_str_list, kb_tuple_bool, kb_tuple_int, kb_tuple_str, kb_tuple_tuple, kb_tuple_list, kb_list_bool, kb_list_int, kb_list_str, kb_list_tuple, kb_list_list, kb_NoneType_bool, kb_NoneType_int, kb_NoneType_str, kb_NoneType_tuple, kb_NoneType_list, Nat.zero_add, c02, lstAt_setE, Option.map_some, lstAt_set_ne, ne_eq, Nat.reduceEqDiff, Nat.one_ne_zero, Nat.zero_ne_one, ix_1_0, ix_2_0, ix_2_1, ix_3_0, ix_3_1, ix_3_2, ix_4_0, ix_4_1, ix_4_2, ix_4_3, ix_5_0, ix_5_1, ix_5_2, ix_5_3, ix_5_4, ix_6_0, ix_6_1, ix_6_2, ix_6_3, ix_6_4, ix_6_5, Nat.reduceLeDiff, Int.reduceAdd, Int.reduceSub, Int.reduceMul, Int.reduceNeg, Int.reducePow, Int.reduceLT, Int.reduceLE, Int.reduceEq, Int.reduceToNat, Bool.and_true, Bool.true_and, Bool.and_self, Bool.and_false, Bool.false_and, Bool.and_eq_true, Bool.and_eq_false_imp, and_self, WS_qdn, WS_qdr, WS_qde, WS_qdb, WS_qdc, qn1, qn2, qn3, qn4, qn5, qk1, qk5, lq1, lq2, lq3, lq4, lq5, intD_int, items_tup, items_rol, items_loc, listOf_loc, listOf_rol, isL_loc, nd_non, nd_bl, nd_int, nd_str, nd_tup, nd_rol, noDct_loc, at0, at1, at2, at3, at4, at5, atl1, atl2, atl3, atl4, lstAt_new, lstAt_h0, lstAt_h1, lstAt_h2, lstAt_h3, it_tup, it_rol, kTup_eq, kLen_eq, wipe0, wipe1, b_nm, b_un, b_nil, b_cnm, b_cun, Option.bind_some, List.set_cons_zero, List.set_cons_succ, List.length_cons, List.length_nil, List.nil_append, List.cons_append, List.append_nil, List.isEmpty_cons, List.isEmpty_nil, true_and, and_true, false_and, and_false, true_implies, forall_const, not_true_eq_false, not_false_eq_true, implies_true, decide_eq_true_eq, decide_eq_false_iff_not, Bool.not_eq_true', Bool.not_eq_false', Bool.not_true, Bool.not_false, if_true, if_false, Bool.false_eq_true, Bool.true_eq_false, reduceCtorEq, false_implies, eq_self, hL2, hL']
      have e3 : as.length = 3 := by omega
      rcases as with _ | ⟨a, _ | ⟨b, _ | ⟨c, _ | ⟨d, t⟩⟩⟩⟩ <;> simp at e3
      have ha := hA a (by simp)
      have hb := hA b (by simp)
      have hc := hA c (by simp)
      refine ⟨by rw [sizeLine_eq, List.length_map]; omega, F2.set (by omega), (K1.trans K2).set (Nat.le_refl _), ls ++ [(a, b, c)], _, _, _, _, _, rfl, by rw [List.map_append]; rfl, hO.app ?_ ?_ ?_, by simp; omega⟩ <;> (constructor <;> push_cast <;> omega)
  · rintro σ S1 ⟨F1, K1, ls, p, r1, r2, r3, r4, rfl, hL, hO, hl⟩
    simp only [↓reduceIte, ↓W_ok, ↓W_exn, ↓W_var0, ↓W_varS, ↓W_K, ↓W_bin, ↓W_un, ↓W_aNil, ↓W_aCons, ↓W_arg, ↓W_call, ↓W_of, ↓WB_test, ↓tc_bl, ↓WB_tru, ↓trc, ↓WB_and, ↓WB_or, ↓WB_not, ↓W_if, ↓W_andV, ↓W_orV, ↓W_notV, ↓WM_some, ↓WM_none, ↓WO_some, ↓tr_bl, ↓tr_non, ↓tr_int, ↓tr_tup, ↓tr_rol, ↓WS_nx, ↓WS_rt, ↓WS_ct, ↓WS_bk, ↓WS_exn, ↓WS_seq, ↓WS_nil, ↓WS_retN, ↓WS_break, ↓WS_cont, ↓WS_expr, ↓WS_ret, ↓WS_if, ↓WS_set, ↓WS_par, ↓WS_asg, ↓WS_gSet, ↓WS_gN, ↓WS_gC, ↓WS_gUn, ↓WS_gSub, ↓WS_aug, ↓o_add, ↓o_iadd, ↓o_sub, ↓o_neg, ↓o_mul, ↓o_mod, ↓o_div, ↓o_pow, ↓o_addT, ↓o_addS, ↓o_addL, ↓o_lt, ↓o_le, ↓o_gt, ↓o_ge, ↓o_eq, ↓o_ne, ↓o_eqS, ↓o_neS, ↓o_eqB, ↓o_neB, ↓o_eqT, ↓o_neT, ↓o_eqN, ↓o_neN, ↓o_ltT, ↓o_leT, ↓o_is, ↓o_isnot, ↓o_isB, ↓o_isnotB, ↓o_inT, ↓o_ninT, ↓o_inL, ↓o_ninL, ↓o_ixT, ↓o_ixR, ↓o_ixL, ↓o_rev, ↓o_ixS, ↓o_str, ↓o_strS, ↓o_set, ↓o_lenT, ↓o_lenR, ↓o_lenL, ↓o_lenS, ↓o_int, ↓o_intT, ↓o_intF, ↓o_abs, ↓o_max, ↓o_min, ↓o_tuple, ↓o_listXt, ↓o_listXr, ↓o_listXl, ↓o_listXs, ↓o_sortedXt, ↓o_tup0, ↓o_tup1, ↓o_tup2, ↓o_tup3, ↓o_tup4, ↓o_tup5, ↓o_tup6, ↓o_lst0, ↓o_lst1, ↓o_lst2, ↓o_lst3, ↓o_lst4, ↓o_lst5, ↓o_lst6, ↓o_sum, ↓W_meth, ↓o_append, ↓o_extend, ↓o_popAt, ↓W_cut, ↓W_noPart, ↓W_part, ↓o_cutT, ↓o_cutR, ↓o_cutL, ↓W_isi, ↓W_ch, ↓WS_for, ↓WI_iter, ↓WI_range1, ↓WI_range2, ↓WI_range3, ↓WI_enum, ↓WI_zip2, ↓WI_zip3, ↓W_callK, ↓WS_f0, ↓WS_f1, ↓W_alloc, ↓W_ofL, ↓W_comp, ↓WB_yes, ↓W_c0, ↓W_c1, ↓W_listRg, ↓W_tupRg, ↓W_rRange1, ↓W_rRange2, Option.isSome_some, z2_t, z3_t, perm_nil, perm_cons, List.getD_cons_zero, List.getD_cons_succ, o_intT, o_intF, o_intB, o_ixL, o_ixT, beq_self_eq_true, decide_true, decide_false, okEq, okCmp, okIn, D.fits, D.fitsL, D.dep, D.depL, D.eqv, D.eqvL, D.alike, D.alikeL, isBl_bl, isN_non, isN_bl, isN_int, isN_str, isN_tup, isN_rol, isN_loc, Nat.reduceAdd, Nat.reduceSub, Nat.max_self, Nat.min_self, Nat.max_zero, Nat.zero_max, Nat.min_zero, Nat.zero_min, ty_non, ty_bl, ty_int, ty_str, ty_tup, ty_rol, ty_loc, kb_bool_bool, kb_bool_int, kb_bool_str, kb_bool_tuple, kb_bool_list, kb_int_bool, kb_int_int, kb_int_str, kb_int_tuple, kb_int_list, kb_str_bool, kb_str_int, kb_str_str, kb_str_tuple, kb_str_list, kb_tuple_bool, kb_tuple_int, kb_tuple_str, kb_tuple_tuple, kb_tuple_list, kb_list_bool, kb_list_int, kb_list_str, kb_list_tuple, kb_list_list, kb_NoneType_bool, kb_NoneType_int, kb_NoneType_str, kb_NoneType_tuple, kb_NoneType_list, Nat.zero_add, c02, lstAt_setE, Option.map_some, lstAt_set_ne, ne_eq, Nat.reduceEqDiff, Nat.one_ne_zero, Nat.zero_ne_one, ix_1_0, ix_2_0, ix_2_1, ix_3_0, ix_3_1, ix_3_2, ix_4_0, ix_4_1, ix_4_2, ix_4_3, ix_5_0, ix_5_1, ix_5_2, ix_5_3, ix_5_4, ix_6_0, ix_6_1, ix_6_2, ix_6_3, ix_6_4, ix_6_5, Nat.reduceLeDiff, Int.reduceAdd, Int.reduceSub, Int.reduceMul, Int.reduceNeg, Int.reducePow, Int.reduceLT, Int.reduceLE, Int.reduceEq, Int.reduceToNat, Bool.and_true, Bool.true_and, Bool.and_self, Bool.and_false, Bool.false_and, Bool.and_eq_true, Bool.and_eq_false_imp, and_self, WS_qdn, WS_qdr, WS_qde, WS_qdb, WS_qdc, qn1, qn2, qn3, qn4, qn5, qk1, qk5, lq1, lq2, lq3, lq4, lq5, intD_int, items_tup, items_rol, items_loc, listOf_loc, listOf_rol, isL_loc, nd_non, nd_bl, nd_int, nd_str, nd_tup, nd_rol, noDct_loc, at0, at1, at2, at3, at4, at5, atl1, atl2, atl3, atl4, lstAt_new, lstAt_h0, lstAt_h1, lstAt_h2, lstAt_h3, it_tup, it_rol, kTup_eq, kLen_eq, wipe0, wipe1, b_nm, b_un, b_nil, b_cnm, b_cun, Option.bind_some, List.set_cons_zero, List.set_cons_succ, List.length_cons, List.length_nil, List.nil_append, List.cons_append, List.append_nil, List.isEmpty_cons, List.isEmpty_nil, true_and, and_true, false_and, and_false, true_implies, forall_const, not_true_eq_false, not_false_eq_true, implies_true, decide_eq_true_eq, decide_eq_false_iff_not, Bool.not_eq_true', Bool.not_eq_false', Bool.not_true, Bool.not_false, if_true, if_false, Bool.false_eq_true, Bool.true_eq_false, reduceCtorEq, false_implies, eq_self, hL]
    exact h ls S1 hO (by omega) F1 K1
theorem cooked_w {ts : List (List Int)} (hF : FlowOk S) (hn : n ≤ 1000) (hA : AllL n ts) (h0 : 0 < ts.length) (h1 : ts.length ≤ 1000) (h2 : 0 ≤ size) (h3 : size ≤ 2000) (h : ∀ S', FlowOk S' → Fk 3 S S' → Q (.bl true) S') : W (x, Q) tt (m__law_cooked [.loc 2, .tup (ts.map shD), .int size] S) := by
  rw [wm__law_cooked, b__law_cooked, WS_seq]
  refine WS_mid (fun σ S' => FlowOk S' ∧ Fk 3 S S' ∧ ∃ ls : List Ln, LnsOk ts.length ls ∧ (ls.length : Int) = size ∧ σ = [some (.loc 2), some (.tup (ts.map shD)), some (.int size), some (.tup (ls.map lnD)), none]) ?_ ?_
  · simp only [↓reduceIte, ↓W_ok, ↓W_exn, ↓W_var0, ↓W_varS, ↓W_K, ↓W_bin, ↓W_un, ↓W_aNil, ↓W_aCons, ↓W_arg, ↓W_call, ↓W_of, ↓WB_test, ↓tc_bl, ↓WB_tru, ↓trc, ↓WB_and, ↓WB_or, ↓WB_not, ↓W_if, ↓W_andV, ↓W_orV, ↓W_notV, ↓WM_some, ↓WM_none, ↓WO_some, ↓tr_bl, ↓tr_non, ↓tr_int, ↓tr_tup, ↓tr_rol, ↓WS_nx, ↓WS_rt, ↓WS_ct, ↓WS_bk, ↓WS_exn, ↓WS_seq, ↓WS_nil, ↓WS_retN, ↓WS_break, ↓WS_cont, ↓WS_expr, ↓WS_ret, ↓WS_if, ↓WS_set, ↓WS_par, ↓WS_asg, ↓WS_gSet, ↓WS_gN, ↓WS_gC, ↓WS_gUn, ↓WS_gSub, ↓WS_aug, ↓o_add, ↓o_iadd, ↓o_sub, ↓o_neg, ↓o_mul, ↓o_mod, ↓o_div, ↓o_pow, ↓o_addT, ↓o_addS, ↓o_addL, ↓o_lt, ↓o_le, ↓o_gt, ↓o_ge, ↓o_eq, ↓o_ne, ↓o_eqS, ↓o_neS, ↓o_eqB, ↓o_neB, ↓o_eqT, ↓o_neT, ↓o_eqN, ↓o_neN, ↓o_ltT, ↓o_leT, ↓o_is, ↓o_isnot, ↓o_isB, ↓o_isnotB, ↓o_inT, ↓o_ninT, ↓o_inL, ↓o_ninL, ↓o_ixT, ↓o_ixR, ↓o_ixL, ↓o_rev, ↓o_ixS, ↓o_str, ↓o_strS, ↓o_set, ↓o_lenT, ↓o_lenR, ↓o_lenL, ↓o_lenS, ↓o_int, ↓o_intT, ↓o_intF, ↓o_abs, ↓o_max, ↓o_min, ↓o_tuple, ↓o_listXt, ↓o_listXr, ↓o_listXl, ↓o_listXs, ↓o_sortedXt, ↓o_tup0, ↓o_tup1, ↓o_tup2, ↓o_tup3, ↓o_tup4, ↓o_tup5, ↓o_tup6, ↓o_lst0, ↓o_lst1, ↓o_lst2, ↓o_lst3, ↓o_lst4, ↓o_lst5, ↓o_lst6, ↓o_sum, ↓W_meth, ↓o_append, ↓o_extend, ↓o_popAt, ↓W_cut, ↓W_noPart, ↓W_part, ↓o_cutT, ↓o_cutR, ↓o_cutL, ↓W_isi, ↓W_ch, ↓WS_for, ↓WI_iter, ↓WI_range1, ↓WI_range2, ↓WI_range3, ↓WI_enum, ↓WI_zip2, ↓WI_zip3, ↓W_callK, ↓WS_f0, ↓WS_f1, ↓W_alloc, ↓W_ofL, ↓W_comp, ↓WB_yes, ↓W_c0, ↓W_c1, ↓W_listRg, ↓W_tupRg, ↓W_rRange1, ↓W_rRange2, Option.isSome_some, z2_t, z3_t, perm_nil, perm_cons, List.getD_cons_zero, List.getD_cons_succ, o_intT, o_intF, o_intB, o_ixL, o_ixT, beq_self_eq_true, decide_true, decide_false, okEq, okCmp, okIn, D.fits, D.fitsL, D.dep, D.depL, D.eqv, D.eqvL, D.alike, D.alikeL, isBl_bl, isN_non, isN_bl, isN_int, isN_str, isN_tup, isN_rol, isN_loc, Nat.reduceAdd, Nat.reduceSub, Nat.max_self, Nat.min_self, Nat.max_zero, Nat.zero_max, Nat.min_zero, Nat.zero_min, ty_non, ty_bl, ty_int, ty_str, ty_tup, ty_rol, ty_loc, kb_bool_bool, kb_bool_int, kb_bool_str, kb_bool_tuple, kb_bool_list, kb_int_bool, kb_int_int, kb_int_str, kb_int_tuple, kb_int_list, kb_str_bool, kb_str_int, kb_str_str, kb_str_tuple, kb_str_list, kb_tuple_bool, kb_tuple_int, kb_tuple_str, kb_tuple_tuple, kb_tuple_list, kb_list_bool, kb_list_int, kb_list_str, kb_list_tuple, kb_list_list, kb_NoneType_bool, kb_NoneType_int, kb_NoneType_str, kb_NoneType_tuple, kb_NoneType_list, Nat.zero_add, c02, lstAt_setE, Option.map_some, lstAt_set_ne, ne_eq, Nat.reduceEqDiff, Nat.one_ne_zero, Nat.zero_ne_one, ix_1_0, ix_2_0, ix_2_1, ix_3_0, ix_3_1, ix_3_2, ix_4_0, ix_4_1, ix_4_2, ix_4_3, ix_5_0, ix_5_1, ix_5_2, ix_5_3, ix_5_4, ix_6_0, ix_6_1, ix_6_2, ix_6_3, ix_6_4, ix_6_5, Nat.reduceLeDiff, Int.reduceAdd, Int.reduceSub, Int.reduceMul, Int.reduceNeg, Int.reducePow, Int.reduceLT, Int.reduceLE, Int.reduceEq, Int.reduceToNat, Bool.and_true, Bool.true_and, Bool.and_self, Bool.and_false, Bool.false_and, Bool.and_eq_true, Bool.and_eq_false_imp, and_self, WS_qdn, WS_qdr, WS_qde, WS_qdb, WS_qdc, qn1, qn2, qn3, qn4, qn5, qk1, qk5, lq1, lq2, lq3, lq4, lq5, intD_int, items_tup, items_rol, items_loc, listOf_loc, listOf_rol, isL_loc, nd_non, nd_bl, nd_int, nd_str, nd_tup, nd_rol, noDct_loc, at0, at1, at2, at3, at4, at5, atl1, atl2, atl3, atl4, lstAt_new, lstAt_h0, lstAt_h1, lstAt_h2, lstAt_h3, it_tup, it_rol, kTup_eq, kLen_eq, wipe0, wipe1, b_nm, b_un, b_nil, b_cnm, b_cun, Option.bind_some, List.set_cons_zero, List.set_cons_succ, List.length_cons, List.length_nil, List.nil_append, List.cons_append, List.append_nil, List.isEmpty_cons, List.isEmpty_nil, true_and, and_true, false_and, and_false, true_implies, forall_const, not_true_eq_false, not_false_eq_true, implies_true, decide_eq_true_eq, decide_eq_false_iff_not, Bool.not_eq_true', Bool.not_eq_false', Bool.not_true, Bool.not_false, if_true, if_false, Bool.false_eq_true, Bool.true_eq_false, reduceCtorEq, false_implies, eq_self]
    rw [List.length_map]
    refine recipe_w hF (by omega) (by omega) h2 h3 fun ls S1 hO hls F1 K1 => ?_
    rw [show ((ts.length : Int)).toNat = ts.length by omega] at hO
    exact ⟨F1, K1, ls, hO, hls, rfl⟩
  · rintro σ S1 ⟨F1, K1, ls, hO, hls, rfl⟩
    rw [WS_seq]
    refine WS_mid (fun σ S' => S' = S1 ∧ σ = [some (.loc 2), some (.tup (ts.map shD)), some (.int size), some (.tup (ls.map lnD)), some (.int (ts.length + size - 1))]) ?_ ?_
    · simp only [↓reduceIte, ↓W_ok, ↓W_exn, ↓W_var0, ↓W_varS, ↓W_K, ↓W_bin, ↓W_un, ↓W_aNil, ↓W_aCons, ↓W_arg, ↓W_call, ↓W_of, ↓WB_test, ↓tc_bl, ↓WB_tru, ↓trc, ↓WB_and, ↓WB_or, ↓WB_not, ↓W_if, ↓W_andV, ↓W_orV, ↓W_notV, ↓WM_some, ↓WM_none, ↓WO_some, ↓tr_bl, ↓tr_non, ↓tr_int, ↓tr_tup, ↓tr_rol, ↓WS_nx, ↓WS_rt, ↓WS_ct, ↓WS_bk, ↓WS_exn, ↓WS_seq, ↓WS_nil, ↓WS_retN, ↓WS_break, ↓WS_cont, ↓WS_expr, ↓WS_ret, ↓WS_if, ↓WS_set, ↓WS_par, ↓WS_asg, ↓WS_gSet, ↓WS_gN, ↓WS_gC, ↓WS_gUn, ↓WS_gSub, ↓WS_aug, ↓o_add, ↓o_iadd, ↓o_sub, ↓o_neg, ↓o_mul, ↓o_mod, ↓o_div, ↓o_pow, ↓o_addT, ↓o_addS, ↓o_addL, ↓o_lt, ↓o_le, ↓o_gt, ↓o_ge, ↓o_eq, ↓o_ne, ↓o_eqS, ↓o_neS, ↓o_eqB, ↓o_neB, ↓o_eqT, ↓o_neT, ↓o_eqN, ↓o_neN, ↓o_ltT, ↓o_leT, ↓o_is, ↓o_isnot, ↓o_isB, ↓o_isnotB, ↓o_inT, ↓o_ninT, ↓o_inL, ↓o_ninL, ↓o_ixT, ↓o_ixR, ↓o_ixL, ↓o_rev, ↓o_ixS, ↓o_str, ↓o_strS, ↓o_set, ↓o_lenT, ↓o_lenR, ↓o_lenL, ↓o_lenS, ↓o_int, ↓o_intT, ↓o_intF, ↓o_abs, ↓o_max, ↓o_min, ↓o_tuple, ↓o_listXt, ↓o_listXr, ↓o_listXl, ↓o_listXs, ↓o_sortedXt, ↓o_tup0, ↓o_tup1, ↓o_tup2, ↓o_tup3, ↓o_tup4, ↓o_tup5, ↓o_tup6, ↓o_lst0, ↓o_lst1, ↓o_lst2, ↓o_lst3, ↓o_lst4, ↓o_lst5, ↓o_lst6, ↓o_sum, ↓W_meth, ↓o_append, ↓o_extend, ↓o_popAt, ↓W_cut, ↓W_noPart, ↓W_part, ↓o_cutT, ↓o_cutR, ↓o_cutL, ↓W_isi, ↓W_ch, ↓WS_for, ↓WI_iter, ↓WI_range1, ↓WI_range2, ↓WI_range3, ↓WI_enum, ↓WI_zip2, ↓WI_zip3, ↓W_callK, ↓WS_f0, ↓WS_f1, ↓W_alloc, ↓W_ofL, ↓W_comp, ↓WB_yes, ↓W_c0, ↓W_c1, ↓W_listRg, ↓W_tupRg, ↓W_rRange1, ↓W_rRange2, Option.isSome_some, z2_t, z3_t, perm_nil, perm_cons, List.getD_cons_zero, List.getD_cons_succ, o_intT, o_intF, o_intB, o_ixL, o_ixT, beq_self_eq_true, decide_true, decide_false, okEq, okCmp, okIn, D.fits, D.fitsL, D.dep, D.depL, D.eqv, D.eqvL, D.alike, D.alikeL, isBl_bl, isN_non, isN_bl, isN_int, isN_str, isN_tup, isN_rol, isN_loc, Nat.reduceAdd, Nat.reduceSub, Nat.max_self, Nat.min_self, Nat.max_zero, Nat.zero_max, Nat.min_zero, Nat.zero_min, ty_non, ty_bl, ty_int, ty_str, ty_tup, ty_rol, ty_loc, kb_bool_bool, kb_bool_int, kb_bool_str, kb_bool_tuple, kb_bool_list, kb_int_bool, kb_int_int, kb_int_str, kb_int_tuple, kb_int_list, kb_str_bool, kb_str_int, kb_str_str, kb_str_tuple, kb_str_list, kb_tuple_bool, kb_tuple_int, kb_tuple_str, kb_tuple_tuple, kb_tuple_list, kb_list_bool, kb_list_int, kb_list_str, kb_list_tuple, kb_list_list, kb_NoneType_bool, kb_NoneType_int, kb_NoneType_str, kb_NoneType_tuple, kb_NoneType_list, Nat.zero_add, c02, lstAt_setE, Option.map_some, lstAt_set_ne, ne_eq, Nat.reduceEqDiff, Nat.one_ne_zero, Nat.zero_ne_one, ix_1_0, ix_2_0, ix_2_1, ix_3_0, ix_3_1, ix_3_2, ix_4_0, ix_4_1, ix_4_2, ix_4_3, ix_5_0, ix_5_1, ix_5_2, ix_5_3, ix_5_4, ix_6_0, ix_6_1, ix_6_2, ix_6_3, ix_6_4, ix_6_5, Nat.reduceLeDiff, Int.reduceAdd, Int.reduceSub, Int.reduceMul, Int.reduceNeg, Int.reducePow, Int.reduceLT, Int.reduceLE, Int.reduceEq, Int.reduceToNat, Bool.and_true, Bool.true_and, Bool.and_self, Bool.and_false, Bool.false_and, Bool.and_eq_true, Bool.and_eq_false_imp, and_self, WS_qdn, WS_qdr, WS_qde, WS_qdb, WS_qdc, qn1, qn2, qn3, qn4, qn5, qk1, qk5, lq1, lq2, lq3, lq4, lq5, intD_int, items_tup, items_rol, items_loc, listOf_loc, listOf_rol, isL_loc, nd_non, nd_bl, nd_int, nd_str, nd_tup, nd_rol, noDct_loc, at0, at1, at2, at3, at4, at5, atl1, atl2, atl3, atl4, lstAt_new, lstAt_h0, lstAt_h1, lstAt_h2, lstAt_h3, it_tup, it_rol, kTup_eq, kLen_eq, wipe0, wipe1, b_nm, b_un, b_nil, b_cnm, b_cun, Option.bind_some, List.set_cons_zero, List.set_cons_succ, List.length_cons, List.length_nil, List.nil_append, List.cons_append, List.append_nil, List.isEmpty_cons, List.isEmpty_nil, true_and, and_true, false_and, and_false, true_implies, forall_const, not_true_eq_false, not_false_eq_true, implies_true, decide_eq_true_eq, decide_eq_false_iff_not, Bool.not_eq_true', Bool.not_eq_false', Bool.not_true, Bool.not_false, if_true, if_false, Bool.false_eq_true, Bool.true_eq_false, reduceCtorEq, false_implies, eq_self]
      rw [List.length_map]
    · rintro σ S2 ⟨rfl, rfl⟩
      rw [WS_seq]
      refine WS_mid (fun σ S' => FlowOk S' ∧ Fk 3 S S' ∧ ∃ last : Int, 0 ≤ last ∧ last < ts.length + ls.length ∧ σ = [some (.loc 2), some (.tup (ts.map shD)), some (.int size), some (.tup (ls.map lnD)), some (.int last)]) ?_ ?_
      · simp only [↓reduceIte, ↓W_ok, ↓W_exn, ↓W_var0, ↓W_varS, ↓W_K, ↓W_bin, ↓W_un, ↓W_aNil, ↓W_aCons, ↓W_arg, ↓W_call, ↓W_of, ↓WB_test, ↓tc_bl, ↓WB_tru, ↓trc, ↓WB_and, ↓WB_or, ↓WB_not, ↓W_if, ↓W_andV, ↓W_orV, ↓W_notV, ↓WM_some, ↓WM_none, ↓WO_some, ↓tr_bl, ↓tr_non, ↓tr_int, ↓tr_tup, ↓tr_rol, ↓WS_nx, ↓WS_rt, ↓WS_ct, ↓WS_bk, ↓WS_exn, ↓WS_seq, ↓WS_nil, ↓WS_retN, ↓WS_break, ↓WS_cont, ↓WS_expr, ↓WS_ret, ↓WS_if, ↓WS_set, ↓WS_par, ↓WS_asg, ↓WS_gSet, ↓WS_gN, ↓WS_gC, ↓WS_gUn, ↓WS_gSub, ↓WS_aug, ↓o_add, ↓o_iadd, ↓o_sub, ↓o_neg, ↓o_mul, ↓o_mod, ↓o_div, ↓o_pow, ↓o_addT, ↓o_addS, ↓o_addL, ↓o_lt, ↓o_le, ↓o_gt, ↓o_ge, ↓o_eq, ↓o_ne, ↓o_eqS, ↓o_neS, ↓o_eqB, ↓o_neB, ↓o_eqT, ↓o_neT, ↓o_eqN, ↓o_neN, ↓o_ltT, ↓o_leT, ↓o_is, ↓o_isnot, ↓o_isB, ↓o_isnotB, ↓o_inT, ↓o_ninT, ↓o_inL, ↓o_ninL, ↓o_ixT, ↓o_ixR, ↓o_ixL, ↓o_rev, ↓o_ixS, ↓o_str, ↓o_strS, ↓o_set, ↓o_lenT, ↓o_lenR, ↓o_lenL, ↓o_lenS, ↓o_int, ↓o_intT, ↓o_intF, ↓o_abs, ↓o_max, ↓o_min, ↓o_tuple, ↓o_listXt, ↓o_listXr, ↓o_listXl, ↓o_listXs, ↓o_sortedXt, ↓o_tup0, ↓o_tup1, ↓o_tup2, ↓o_tup3, ↓o_tup4, ↓o_tup5, ↓o_tup6, ↓o_lst0, ↓o_lst1, ↓o_lst2, ↓o_lst3, ↓o_lst4, ↓o_lst5, ↓o_lst6, ↓o_sum, ↓W_meth, ↓o_append, ↓o_extend, ↓o_popAt, ↓W_cut, ↓W_noPart, ↓W_part, ↓o_cutT, ↓o_cutR, ↓o_cutL, ↓W_isi, ↓W_ch, ↓WS_for, ↓WI_iter, ↓WI_range1, ↓WI_range2, ↓WI_range3, ↓WI_enum, ↓WI_zip2, ↓WI_zip3, ↓W_callK, ↓WS_f0, ↓WS_f1, ↓W_alloc, ↓W_ofL, ↓W_comp, ↓WB_yes, ↓W_c0, ↓W_c1, ↓W_listRg, ↓W_tupRg, ↓W_rRange1, ↓W_rRange2, Option.isSome_some, z2_t, z3_t, perm_nil, perm_cons, List.getD_cons_zero, List.getD_cons_succ, o_intT, o_intF, o_intB, o_ixL, o_ixT, beq_self_eq_true, decide_true, decide_false, okEq, okCmp, okIn, D.fits, D.fitsL, D.dep, D.depL, D.eqv, D.eqvL, D.alike, D.alikeL, isBl_bl, isN_non, isN_bl, isN_int, isN_str, isN_tup, isN_rol, isN_loc, Nat.reduceAdd, Nat.reduceSub, Nat.max_self, Nat.min_self, Nat.max_zero, Nat.zero_max, Nat.min_zero, Nat.zero_min, ty_non, ty_bl, ty_int, ty_str, ty_tup, ty_rol, ty_loc, kb_bool_bool, kb_bool_int, kb_bool_str, kb_bool_tuple, kb_bool_list, kb_int_bool, kb_int_int, kb_int_str, kb_int_tuple, kb_int_list, kb_str_bool, kb_str_int, kb_str_str, kb_str_tuple, kb_str_list, kb_tuple_bool, kb_tuple_int, kb_tuple_str, kb_tuple_tuple, kb_tuple_list, kb_list_bool, kb_list_int, kb_list_str, kb_list_tuple, kb_list_list, kb_NoneType_bool, kb_NoneType_int, kb_NoneType_str, kb_NoneType_tuple, kb_NoneType_list, Nat.zero_add, c02, lstAt_setE, Option.map_some, lstAt_set_ne, ne_eq, Nat.reduceEqDiff, Nat.one_ne_zero, Nat.zero_ne_one, ix_1_0, ix_2_0, ix_2_1, ix_3_0, ix_3_1, ix_3_2, ix_4_0, ix_4_1, ix_4_2, ix_4_3, ix_5_0, ix_5_1, ix_5_2, ix_5_3, ix_5_4, ix_6_0, ix_6_1, ix_6_2, ix_6_3, ix_6_4, ix_6_5, Nat.reduceLeDiff, Int.reduceAdd, Int.reduceSub, Int.reduceMul, Int.reduceNeg, Int.reducePow, Int.reduceLT, Int.reduceLE, Int.reduceEq, Int.reduceToNat, Bool.and_true, Bool.true_and, Bool.and_self, Bool.and_false, Bool.false_and, Bool.and_eq_true, Bool.and_eq_false_imp, and_self, WS_qdn, WS_qdr, WS_qde, WS_qdb, WS_qdc, qn1, qn2, qn3, qn4, qn5, qk1, qk5, lq1, lq2, lq3, lq4, lq5, intD_int, items_tup, items_rol, items_loc, listOf_loc, listOf_rol, isL_loc, nd_non, nd_bl, nd_int, nd_str, nd_tup, nd_rol, noDct_loc, at0, at1, at2, at3, at4, at5, atl1, atl2, atl3, atl4, lstAt_new, lstAt_h0, lstAt_h1, lstAt_h2, lstAt_h3, it_tup, it_rol, kTup_eq, kLen_eq, wipe0, wipe1, b_nm, b_un, b_nil, b_cnm, b_cun, Option.bind_some, List.set_cons_zero, List.set_cons_succ, List.length_cons, List.length_nil, List.nil_append, List.cons_append, List.append_nil, List.isEmpty_cons, List.isEmpty_nil, true_and, and_true, false_and, and_false, true_implies, forall_const, not_true_eq_false, not_false_eq_true, implies_true, decide_eq_true_eq, decide_eq_false_iff_not, Bool.not_eq_true', Bool.not_eq_false', Bool.not_true, Bool.not_false, if_true, if_false, Bool.false_eq_true, Bool.true_eq_false, reduceCtorEq, false_implies, eq_self]
        refine draw_w F1 (by decide) (by decide) fun v S3 v0 v1 F3 K3 => ?_
        simp only [↓reduceIte, ↓W_ok, ↓W_exn, ↓W_var0, ↓W_varS, ↓W_K, ↓W_bin, ↓W_un, ↓W_aNil, ↓W_aCons, ↓W_arg, ↓W_call, ↓W_of, ↓WB_test, ↓tc_bl, ↓WB_tru, ↓trc, ↓WB_and, ↓WB_or, ↓WB_not, ↓W_if, ↓W_andV, ↓W_orV, ↓W_notV, ↓WM_some, ↓WM_none, ↓WO_some, ↓tr_bl, ↓tr_non, ↓tr_int, ↓tr_tup, ↓tr_rol, ↓WS_nx, ↓WS_rt, ↓WS_ct, ↓WS_bk, ↓WS_exn, ↓WS_seq, ↓WS_nil, ↓WS_retN, ↓WS_break, ↓WS_cont, ↓WS_expr, ↓WS_ret, ↓WS_if, ↓WS_set, ↓WS_par, ↓WS_asg, ↓WS_gSet, ↓WS_gN, ↓WS_gC, ↓WS_gUn, ↓WS_gSub, ↓WS_aug, ↓o_add, ↓o_iadd, ↓o_sub, ↓o_neg, ↓o_mul, ↓o_mod, ↓o_div, ↓o_pow, ↓o_addT, ↓o_addS, ↓o_addL, ↓o_lt, ↓o_le, ↓o_gt, ↓o_ge, ↓o_eq, ↓o_ne, ↓o_eqS, ↓o_neS, ↓o_eqB, ↓o_neB, ↓o_eqT, ↓o_neT, ↓o_eqN, ↓o_neN, ↓o_ltT, ↓o_leT, ↓o_is, ↓o_isnot, ↓o_isB, ↓o_isnotB, ↓o_inT, ↓o_ninT, ↓o_inL, ↓o_ninL, ↓o_ixT, ↓o_ixR, ↓o_ixL, ↓o_rev, ↓o_ixS, ↓o_str, ↓o_strS, ↓o_set, ↓o_lenT, ↓o_lenR, ↓o_lenL, ↓o_lenS, ↓o_int, ↓o_intT, ↓o_intF, ↓o_abs, ↓o_max, ↓o_min, ↓o_tuple, ↓o_listXt, ↓o_listXr, ↓o_listXl, ↓o_listXs, ↓o_sortedXt, ↓o_tup0, ↓o_tup1, ↓o_tup2, ↓o_tup3, ↓o_tup4, ↓o_tup5, ↓o_tup6, ↓o_lst0, ↓o_lst1, ↓o_lst2, ↓o_lst3, ↓o_lst4, ↓o_lst5, ↓o_lst6, ↓o_sum, ↓W_meth, ↓o_append, ↓o_extend, ↓o_popAt, ↓W_cut, ↓W_noPart, ↓W_part, ↓o_cutT, ↓o_cutR, ↓o_cutL, ↓W_isi, ↓W_ch, ↓WS_for, ↓WI_iter, ↓WI_range1, ↓WI_range2, ↓WI_range3, ↓WI_enum, ↓WI_zip2, ↓WI_zip3, ↓W_callK, ↓WS_f0, ↓WS_f1, ↓W_alloc, ↓W_ofL, ↓W_comp, ↓WB_yes, ↓W_c0, ↓W_c1, ↓W_listRg, ↓W_tupRg, ↓W_rRange1, ↓W_rRange2, Option.isSome_some, z2_t, z3_t, perm_nil, perm_cons, List.getD_cons_zero, List.getD_cons_succ, o_intT, o_intF, o_intB, o_ixL, o_ixT, beq_self_eq_true, decide_true, decide_false, okEq, okCmp, okIn, D.fits, D.fitsL, D.dep, D.depL, D.eqv, D.eqvL, D.alike, D.alikeL, isBl_bl, isN_non, isN_bl, isN_int, isN_str, isN_tup, isN_rol, isN_loc, Nat.reduceAdd, Nat.reduceSub, Nat.max_self, Nat.min_self, Nat.max_zero, Nat.zero_max, Nat.min_zero, Nat.zero_min, ty_non, ty_bl, ty_int, ty_str, ty_tup, ty_rol, ty_loc, kb_bool_bool, kb_bool_int, kb_bool_str, kb_bool_tuple, kb_bool_list, kb_int_bool, kb_int_int, kb_int_str, kb_int_tuple, kb_int_list, kb_str_bool, kb_str_int, kb_str_str, kb_str_tuple, kb_str_list, kb_tuple_bool, kb_tuple_int, kb_tuple_str, kb_tuple_tuple, kb_tuple_list, kb_list_bool, kb_list_int, kb_list_str, kb_list_tuple, kb_list_list, kb_NoneType_bool, kb_NoneType_int, kb_NoneType_str, kb_NoneType_tuple, kb_NoneType_list, Nat.zero_add, c02, lstAt_setE, Option.map_some, lstAt_set_ne, ne_eq, Nat.reduceEqDiff, Nat.one_ne_zero, Nat.zero_ne_one, ix_1_0, ix_2_0, ix_2_1, ix_3_0, ix_3_1, ix_3_2, ix_4_0, ix_4_1, ix_4_2, ix_4_3, ix_5_0, ix_5_1, ix_5_2, ix_5_3, ix_5_4, ix_6_0, ix_6_1, ix_6_2, ix_6_3, ix_6_4, ix_6_5, Nat.reduceLeDiff, Int.reduceAdd, Int.reduceSub, Int.reduceMul, Int.reduceNeg, Int.reducePow, Int.reduceLT, Int.reduceLE, Int.reduceEq, Int.reduceToNat, Bool.and_true, Bool.true_and, Bool.and_self, Bool.and_false, Bool.false_and, Bool.and_eq_true, Bool.and_eq_false_imp, and_self, WS_qdn, WS_qdr, WS_qde, WS_qdb, WS_qdc, qn1, qn2, qn3, qn4, qn5, qk1, qk5, lq1, lq2, lq3, lq4, lq5, intD_int, items_tup, items_rol, items_loc, listOf_loc, listOf_rol, isL_loc, nd_non, nd_bl, nd_int, nd_str, nd_tup, nd_rol, noDct_loc, at0, at1, at2, at3, at4, at5, atl1, atl2, atl3, atl4, lstAt_new, lstAt_h0, lstAt_h1, lstAt_h2, lstAt_h3, it_tup, it_rol, kTup_eq, kLen_eq, wipe0, wipe1, b_nm, b_un, b_nil, b_cnm, b_cun, Option.bind_some, List.set_cons_zero, List.set_cons_succ, List.length_cons, List.length_nil, List.nil_append, List.cons_append, List.append_nil, List.isEmpty_cons, List.isEmpty_nil, true_and, and_true, false_and, and_false, true_implies, forall_const, not_true_eq_false, not_false_eq_true, implies_true, decide_eq_true_eq, decide_eq_false_iff_not, Bool.not_eq_true', Bool.not_eq_false', Bool.not_true, Bool.not_false, if_true, if_false, Bool.false_eq_true, Bool.true_eq_false, reduceCtorEq, false_implies, eq_self]
        refine ⟨fun _ => ?_, fun _ => ⟨F3, K1.trans K3, _, by omega, by omega, rfl⟩⟩
        rw [List.length_map]
        refine draw_w F3 (by omega) (by omega) fun w S4 w0 w1 F4 K4 => ?_
        simp only [↓reduceIte, ↓W_ok, ↓W_exn, ↓W_var0, ↓W_varS, ↓W_K, ↓W_bin, ↓W_un, ↓W_aNil, ↓W_aCons, ↓W_arg, ↓W_call, ↓W_of, ↓WB_test, ↓tc_bl, ↓WB_tru, ↓trc, ↓WB_and, ↓WB_or, ↓WB_not, ↓W_if, ↓W_andV, ↓W_orV, ↓W_notV, ↓WM_some, ↓WM_none, ↓WO_some, ↓tr_bl, ↓tr_non, ↓tr_int, ↓tr_tup, ↓tr_rol, ↓WS_nx, ↓WS_rt, ↓WS_ct, ↓WS_bk, ↓WS_exn, ↓WS_seq, ↓WS_nil, ↓WS_retN, ↓WS_break, ↓WS_cont, ↓WS_expr, ↓WS_ret, ↓WS_if, ↓WS_set, ↓WS_par, ↓WS_asg, ↓WS_gSet, ↓WS_gN, ↓WS_gC, ↓WS_gUn, ↓WS_gSub, ↓WS_aug, ↓o_add, ↓o_iadd, ↓o_sub, ↓o_neg, ↓o_mul, ↓o_mod, ↓o_div, ↓o_pow, ↓o_addT, ↓o_addS, ↓o_addL, ↓o_lt, ↓o_le, ↓o_gt, ↓o_ge, ↓o_eq, ↓o_ne, ↓o_eqS, ↓o_neS, ↓o_eqB, ↓o_neB, ↓o_eqT, ↓o_neT, ↓o_eqN, ↓o_neN, ↓o_ltT, ↓o_leT, ↓o_is, ↓o_isnot, ↓o_isB, ↓o_isnotB, ↓o_inT, ↓o_ninT, ↓o_inL, ↓o_ninL, ↓o_ixT, ↓o_ixR, ↓o_ixL, ↓o_rev, ↓o_ixS, ↓o_str, ↓o_strS, ↓o_set, ↓o_lenT, ↓o_lenR, ↓o_lenL, ↓o_lenS, ↓o_int, ↓o_intT, ↓o_intF, ↓o_abs, ↓o_max, ↓o_min, ↓o_tuple, ↓o_listXt, ↓o_listXr, ↓o_listXl, ↓o_listXs, ↓o_sortedXt, ↓o_tup0, ↓o_tup1, ↓o_tup2, ↓o_tup3, ↓o_tup4, ↓o_tup5, ↓o_tup6, ↓o_lst0, ↓o_lst1, ↓o_lst2, ↓o_lst3, ↓o_lst4, ↓o_lst5, ↓o_lst6, ↓o_sum, ↓W_meth, ↓o_append, ↓o_extend, ↓o_popAt, ↓W_cut, ↓W_noPart, ↓W_part, ↓o_cutT, ↓o_cutR, ↓o_cutL, ↓W_isi, ↓W_ch, ↓WS_for, ↓WI_iter, ↓WI_range1, ↓WI_range2, ↓WI_range3, ↓WI_enum, ↓WI_zip2, ↓WI_zip3, ↓W_callK, ↓WS_f0, ↓WS_f1, ↓W_alloc, ↓W_ofL, ↓W_comp, ↓WB_yes, ↓W_c0, ↓W_c1, ↓W_listRg, ↓W_tupRg, ↓W_rRange1, ↓W_rRange2, Option.isSome_some, z2_t, z3_t, perm_nil, perm_cons, List.getD_cons_zero, List.getD_cons_succ, o_intT, o_intF, o_intB, o_ixL, o_ixT, beq_self_eq_true, decide_true, decide_false, okEq, okCmp, okIn, D.fits, D.fitsL, D.dep, D.depL, D.eqv, D.eqvL, D.alike, D.alikeL, isBl_bl, isN_non, isN_bl, isN_int, isN_str, isN_tup, isN_rol, isN_loc, Nat.reduceAdd, Nat.reduceSub, Nat.max_self, Nat.min_self, Nat.max_zero, Nat.zero_max, Nat.min_zero, Nat.zero_min, ty_non, ty_bl, ty_int, ty_str, ty_tup, ty_rol, ty_loc, kb_bool_bool, kb_bool_int, kb_bool_str, kb_bool_tuple, kb_bool_list, kb_int_bool, kb_int_int, kb_int_str, kb_int_tuple, kb_int_list, kb_str_bool, kb_str_int, kb_str_str, kb_str_tuple, kb_str_list, kb_tuple_bool, kb_tuple_int, kb_tuple_str, kb_tuple_tuple, kb_tuple_list, kb_list_bool, kb_list_int, kb_list_str, kb_list_tuple, kb_list_list, kb_NoneType_bool, kb_NoneType_int, kb_NoneType_str, kb_NoneType_tuple, kb_NoneType_list, Nat.zero_add, c02, lstAt_setE, Option.map_some, lstAt_set_ne, ne_eq, Nat.reduceEqDiff, Nat.one_ne_zero, Nat.zero_ne_one, ix_1_0, ix_2_0, ix_2_1, ix_3_0, ix_3_1, ix_3_2, ix_4_0, ix_4_1, ix_4_2, ix_4_3, ix_5_0, ix_5_1, ix_5_2, ix_5_3, ix_5_4, ix_6_0, ix_6_1, ix_6_2, ix_6_3, ix_6_4, ix_6_5, Nat.reduceLeDiff, Int.reduceAdd, Int.reduceSub, Int.reduceMul, Int.reduceNeg, Int.reducePow, Int.reduceLT, Int.reduceLE, Int.reduceEq, Int.reduceToNat, Bool.and_true, Bool.true_and, Bool.and_self, Bool.and_false, Bool.false_and, Bool.and_eq_true, Bool.and_eq_false_imp, and_self, WS_qdn, WS_qdr, WS_qde, WS_qdb, WS_qdc, qn1, qn2, qn3, qn4, qn5, qk1, qk5, lq1, lq2, lq3, lq4, lq5, intD_int, items_tup, items_rol, items_loc, listOf_loc, listOf_rol, isL_loc, nd_non, nd_bl, nd_int, nd_str, nd_tup, nd_rol, noDct_loc, at0, at1, at2, at3, at4, at5, atl1, atl2, atl3, atl4, lstAt_new, lstAt_h0, lstAt_h1, lstAt_h2, lstAt_h3, it_tup, it_rol, kTup_eq, kLen_eq, wipe0, wipe1, b_nm, b_un, b_nil, b_cnm, b_cun, Option.bind_some, List.set_cons_zero, List.set_cons_succ, List.length_cons, List.length_nil, List.nil_append, List.cons_append, List.append_nil, List.isEmpty_cons, List.isEmpty_nil, true_and, and_true, false_and, and_false, true_implies, forall_const, not_true_eq_false, not_false_eq_true, implies_true, decide_eq_true_eq, decide_eq_false_iff_not, Bool.not_eq_true', Bool.not_eq_false', Bool.not_true, Bool.not_false, if_true, if_false, Bool.false_eq_true, Bool.true_eq_false, reduceCtorEq, false_implies, eq_self]
        exact ⟨F4, (K1.trans K3).trans K4, _, w0, by omega, rfl⟩
      · rintro σ S3 ⟨F3, K3, last, l0, l1, rfl⟩
        simp only [↓reduceIte, ↓W_ok, ↓W_exn, ↓W_var0, ↓W_varS, ↓W_K, ↓W_bin, ↓W_un, ↓W_aNil, ↓W_aCons, ↓W_arg, ↓W_call, ↓W_of, ↓WB_test, ↓tc_bl, ↓WB_tru, ↓trc, ↓WB_and, ↓WB_or, ↓WB_not, ↓W_if, ↓W_andV, ↓W_orV, ↓W_notV, ↓WM_some, ↓WM_none, ↓WO_some, ↓tr_bl, ↓tr_non, ↓tr_int, ↓tr_tup, ↓tr_rol, ↓WS_nx, ↓WS_rt, ↓WS_ct, ↓WS_bk, ↓WS_exn, ↓WS_seq, ↓WS_nil, ↓WS_retN, ↓WS_break, ↓WS_cont, ↓WS_expr, ↓WS_ret, ↓WS_if, ↓WS_set, ↓WS_par, ↓WS_asg, ↓WS_gSet, ↓WS_gN, ↓WS_gC, ↓WS_gUn, ↓WS_gSub, ↓WS_aug, ↓o_add, ↓o_iadd, ↓o_sub, ↓o_neg, ↓o_mul, ↓o_mod, ↓o_div, ↓o_pow, ↓o_addT, ↓o_addS, ↓o_addL, ↓o_lt, ↓o_le, ↓o_gt, ↓o_ge, ↓o_eq, ↓o_ne, ↓o_eqS, ↓o_neS, ↓o_eqB, ↓o_neB, ↓o_eqT, ↓o_neT, ↓o_eqN, ↓o_neN, ↓o_ltT, ↓o_leT, ↓o_is, ↓o_isnot, ↓o_isB, ↓o_isnotB, ↓o_inT, ↓o_ninT, ↓o_inL, ↓o_ninL, ↓o_ixT, ↓o_ixR, ↓o_ixL, ↓o_rev, ↓o_ixS, ↓o_str, ↓o_strS, ↓o_set, ↓o_lenT, ↓o_lenR, ↓o_lenL, ↓o_lenS, ↓o_int, ↓o_intT, ↓o_intF, ↓o_abs, ↓o_max, ↓o_min, ↓o_tuple, ↓o_listXt, ↓o_listXr, ↓o_listXl, ↓o_listXs, ↓o_sortedXt, ↓o_tup0, ↓o_tup1, ↓o_tup2, ↓o_tup3, ↓o_tup4, ↓o_tup5, ↓o_tup6, ↓o_lst0, ↓o_lst1, ↓o_lst2, ↓o_lst3, ↓o_lst4, ↓o_lst5, ↓o_lst6, ↓o_sum, ↓W_meth, ↓o_append, ↓o_extend, ↓o_popAt, ↓W_cut, ↓W_noPart, ↓W_part, ↓o_cutT, ↓o_cutR, ↓o_cutL, ↓W_isi, ↓W_ch, ↓WS_for, ↓WI_iter, ↓WI_range1, ↓WI_range2, ↓WI_range3, ↓WI_enum, ↓WI_zip2, ↓WI_zip3, ↓W_callK, ↓WS_f0, ↓WS_f1, ↓W_alloc, ↓W_ofL, ↓W_comp, ↓WB_yes, ↓W_c0, ↓W_c1, ↓W_listRg, ↓W_tupRg, ↓W_rRange1, ↓W_rRange2, Option.isSome_some, z2_t, z3_t, perm_nil, perm_cons, List.getD_cons_zero, List.getD_cons_succ, o_intT, o_intF, o_intB, o_ixL, o_ixT, beq_self_eq_true, decide_true, decide_false, okEq, okCmp, okIn, D.fits, D.fitsL, D.dep, D.depL, D.eqv, D.eqvL, D.alike, D.alikeL, isBl_bl, isN_non, isN_bl, isN_int, isN_str, isN_tup, isN_rol, isN_loc, Nat.reduceAdd, Nat.reduceSub, Nat.max_self, Nat.min_self, Nat.max_zero, Nat.zero_max, Nat.min_zero, Nat.zero_min, ty_non, ty_bl, ty_int, ty_str, ty_tup, ty_rol, ty_loc, kb_bool_bool, kb_bool_int, kb_bool_str, kb_bool_tuple, kb_bool_list, kb_int_bool, kb_int_int, kb_int_str, kb_int_tuple, kb_int_list, kb_str_bool, kb_str_int, kb_str_str, kb_str_tuple, kb_str_list, kb_tuple_bool, kb_tuple_int, kb_tuple_str, kb_tuple_tuple, kb_tuple_list, kb_list_bool, kb_list_int, kb_list_str, kb_list_tuple, kb_list_list, kb_NoneType_bool, kb_NoneType_int, kb_NoneType_str, kb_NoneType_tuple, kb_NoneType_list, Nat.zero_add, c02, lstAt_setE, Option.map_some, lstAt_set_ne, ne_eq, Nat.reduceEqDiff, Nat.one_ne_zero, Nat.zero_ne_one, ix_1_0, ix_2_0, ix_2_1, ix_3_0, ix_3_1, ix_3_2, ix_4_0, ix_4_1, ix_4_2, ix_4_3, ix_5_0, ix_5_1, ix_5_2, ix_5_3, ix_5_4, ix_6_0, ix_6_1, ix_6_2, ix_6_3, ix_6_4, ix_6_5, Nat.reduceLeDiff, Int.reduceAdd, Int.reduceSub, Int.reduceMul, Int.reduceNeg, Int.reducePow, Int.reduceLT, Int.reduceLE, Int.reduceEq, Int.reduceToNat, Bool.and_true, Bool.true_and, Bool.and_self, Bool.and_false, Bool.false_and, Bool.and_eq_true, Bool.and_eq_false_imp, and_self, WS_qdn, WS_qdr, WS_qde, WS_qdb, WS_qdc, qn1, qn2, qn3, qn4, qn5, qk1, qk5, lq1, lq2, lq3, lq4, lq5, intD_int, items_tup, items_rol, items_loc, listOf_loc, listOf_rol, isL_loc, nd_non, nd_bl, nd_int, nd_str, nd_tup, nd_rol, noDct_loc, at0, at1, at2, at3, at4, at5, atl1, atl2, atl3, atl4, lstAt_new, lstAt_h0, lstAt_h1, lstAt_h2, lstAt_h3, it_tup, it_rol, kTup_eq, kLen_eq, wipe0, wipe1, b_nm, b_un, b_nil, b_cnm, b_cun, Option.bind_some, List.set_cons_zero, List.set_cons_succ, List.length_cons, List.length_nil, List.nil_append, List.cons_append, List.append_nil, List.isEmpty_cons, List.isEmpty_nil, true_and, and_true, false_and, and_false, true_implies, forall_const, not_true_eq_false, not_false_eq_true, implies_true, decide_eq_true_eq, decide_eq_false_iff_not, Bool.not_eq_true', Bool.not_eq_false', Bool.not_true, Bool.not_false, if_true, if_false, Bool.false_eq_true, Bool.true_eq_false, reduceCtorEq, false_implies, eq_self]
        refine made_w hn hA hO (by omega) l0 l1 fun S4 A4 => ?_
        simp only [↓reduceIte, ↓W_ok, ↓W_exn, ↓W_var0, ↓W_varS, ↓W_K, ↓W_bin, ↓W_un, ↓W_aNil, ↓W_aCons, ↓W_arg, ↓W_call, ↓W_of, ↓WB_test, ↓tc_bl, ↓WB_tru, ↓trc, ↓WB_and, ↓WB_or, ↓WB_not, ↓W_if, ↓W_andV, ↓W_orV, ↓W_notV, ↓WM_some, ↓WM_none, ↓WO_some, ↓tr_bl, ↓tr_non, ↓tr_int, ↓tr_tup, ↓tr_rol, ↓WS_nx, ↓WS_rt, ↓WS_ct, ↓WS_bk, ↓WS_exn, ↓WS_seq, ↓WS_nil, ↓WS_retN, ↓WS_break, ↓WS_cont, ↓WS_expr, ↓WS_ret, ↓WS_if, ↓WS_set, ↓WS_par, ↓WS_asg, ↓WS_gSet, ↓WS_gN, ↓WS_gC, ↓WS_gUn, ↓WS_gSub, ↓WS_aug, ↓o_add, ↓o_iadd, ↓o_sub, ↓o_neg, ↓o_mul, ↓o_mod, ↓o_div, ↓o_pow, ↓o_addT, ↓o_addS, ↓o_addL, ↓o_lt, ↓o_le, ↓o_gt, ↓o_ge, ↓o_eq, ↓o_ne, ↓o_eqS, ↓o_neS, ↓o_eqB, ↓o_neB, ↓o_eqT, ↓o_neT, ↓o_eqN, ↓o_neN, ↓o_ltT, ↓o_leT, ↓o_is, ↓o_isnot, ↓o_isB, ↓o_isnotB, ↓o_inT, ↓o_ninT, ↓o_inL, ↓o_ninL, ↓o_ixT, ↓o_ixR, ↓o_ixL, ↓o_rev, ↓o_ixS, ↓o_str, ↓o_strS, ↓o_set, ↓o_lenT, ↓o_lenR, ↓o_lenL, ↓o_lenS, ↓o_int, ↓o_intT, ↓o_intF, ↓o_abs, ↓o_max, ↓o_min, ↓o_tuple, ↓o_listXt, ↓o_listXr, ↓o_listXl, ↓o_listXs, ↓o_sortedXt, ↓o_tup0, ↓o_tup1, ↓o_tup2, ↓o_tup3, ↓o_tup4, ↓o_tup5, ↓o_tup6, ↓o_lst0, ↓o_lst1, ↓o_lst2, ↓o_lst3, ↓o_lst4, ↓o_lst5, ↓o_lst6, ↓o_sum, ↓W_meth, ↓o_append, ↓o_extend, ↓o_popAt, ↓W_cut, ↓W_noPart, ↓W_part, ↓o_cutT, ↓o_cutR, ↓o_cutL, ↓W_isi, ↓W_ch, ↓WS_for, ↓WI_iter, ↓WI_range1, ↓WI_range2, ↓WI_range3, ↓WI_enum, ↓WI_zip2, ↓WI_zip3, ↓W_callK, ↓WS_f0, ↓WS_f1, ↓W_alloc, ↓W_ofL, ↓W_comp, ↓WB_yes, ↓W_c0, ↓W_c1, ↓W_listRg, ↓W_tupRg, ↓W_rRange1, ↓W_rRange2, Option.isSome_some, z2_t, z3_t, perm_nil, perm_cons, List.getD_cons_zero, List.getD_cons_succ, o_intT, o_intF, o_intB, o_ixL, o_ixT, beq_self_eq_true, decide_true, decide_false, okEq, okCmp, okIn, D.fits, D.fitsL, D.dep, D.depL, D.eqv, D.eqvL, D.alike, D.alikeL, isBl_bl, isN_non, isN_bl, isN_int, isN_str, isN_tup, isN_rol, isN_loc, Nat.reduceAdd, Nat.reduceSub, Nat.max_self, Nat.min_self, Nat.max_zero, Nat.zero_max, Nat.min_zero, Nat.zero_min, ty_non, ty_bl, ty_int, ty_str, ty_tup, ty_rol, ty_loc, kb_bool_bool, kb_bool_int, kb_bool_str, kb_bool_tuple, kb_bool_list, kb_int_bool, kb_int_int, kb_int_str, kb_int_tuple, kb_int_list, kb_str_bool, kb_str_int, kb_str_str, kb_str_tuple, kb_str_list, kb_tuple_bool, kb_tuple_int, kb_tuple_str, kb_tuple_tuple, kb_tuple_list, kb_list_bool, kb_list_int, kb_list_str, kb_list_tuple, kb_list_list, kb_NoneType_bool, kb_NoneType_int, kb_NoneType_str, kb_NoneType_tuple, kb_NoneType_list, Nat.zero_add, c02, lstAt_setE, Option.map_some, lstAt_set_ne, ne_eq, Nat.reduceEqDiff, Nat.one_ne_zero, Nat.zero_ne_one, ix_1_0, ix_2_0, ix_2_1, ix_3_0, ix_3_1, ix_3_2, ix_4_0, ix_4_1, ix_4_2, ix_4_3, ix_5_0, ix_5_1, ix_5_2, ix_5_3, ix_5_4, ix_6_0, ix_6_1, ix_6_2, ix_6_3, ix_6_4, ix_6_5, Nat.reduceLeDiff, Int.reduceAdd, Int.reduceSub, Int.reduceMul, Int.reduceNeg, Int.reducePow, Int.reduceLT, Int.reduceLE, Int.reduceEq, Int.reduceToNat, Bool.and_true, Bool.true_and, Bool.and_self, Bool.and_false, Bool.false_and, Bool.and_eq_true, Bool.and_eq_false_imp, and_self, WS_qdn, WS_qdr, WS_qde, WS_qdb, WS_qdc, qn1, qn2, qn3, qn4, qn5, qk1, qk5, lq1, lq2, lq3, lq4, lq5, intD_int, items_tup, items_rol, items_loc, listOf_loc, listOf_rol, isL_loc, nd_non, nd_bl, nd_int, nd_str, nd_tup, nd_rol, noDct_loc, at0, at1, at2, at3, at4, at5, atl1, atl2, atl3, atl4, lstAt_new, lstAt_h0, lstAt_h1, lstAt_h2, lstAt_h3, it_tup, it_rol, kTup_eq, kLen_eq, wipe0, wipe1, b_nm, b_un, b_nil, b_cnm, b_cun, Option.bind_some, List.set_cons_zero, List.set_cons_succ, List.length_cons, List.length_nil, List.nil_append, List.cons_append, List.append_nil, List.isEmpty_cons, List.isEmpty_nil, true_and, and_true, false_and, and_false, true_implies, forall_const, not_true_eq_false, not_false_eq_true, implies_true, decide_eq_true_eq, decide_eq_false_iff_not, Bool.not_eq_true', Bool.not_eq_false', Bool.not_true, Bool.not_false, if_true, if_false, Bool.false_eq_true, Bool.true_eq_false, reduceCtorEq, false_implies, eq_self]
        refine made_l hn hA hO (by omega) l0 l1 fun S5 A5 => ?_
        refine same_w (tt := tg) ?_
        simp only [↓reduceIte, ↓W_ok, ↓W_exn, ↓W_var0, ↓W_varS, ↓W_K, ↓W_bin, ↓W_un, ↓W_aNil, ↓W_aCons, ↓W_arg, ↓W_call, ↓W_of, ↓WB_test, ↓tc_bl, ↓WB_tru, ↓trc, ↓WB_and, ↓WB_or, ↓WB_not, ↓W_if, ↓W_andV, ↓W_orV, ↓W_notV, ↓WM_some, ↓WM_none, ↓WO_some, ↓tr_bl, ↓tr_non, ↓tr_int, ↓tr_tup, ↓tr_rol, ↓WS_nx, ↓WS_rt, ↓WS_ct, ↓WS_bk, ↓WS_exn, ↓WS_seq, ↓WS_nil, ↓WS_retN, ↓WS_break, ↓WS_cont, ↓WS_expr, ↓WS_ret, ↓WS_if, ↓WS_set, ↓WS_par, ↓WS_asg, ↓WS_gSet, ↓WS_gN, ↓WS_gC, ↓WS_gUn, ↓WS_gSub, ↓WS_aug, ↓o_add, ↓o_iadd, ↓o_sub, ↓o_neg, ↓o_mul, ↓o_mod, ↓o_div, ↓o_pow, ↓o_addT, ↓o_addS, ↓o_addL, ↓o_lt, ↓o_le, ↓o_gt, ↓o_ge, ↓o_eq, ↓o_ne, ↓o_eqS, ↓o_neS, ↓o_eqB, ↓o_neB, ↓o_eqT, ↓o_neT, ↓o_eqN, ↓o_neN, ↓o_ltT, ↓o_leT, ↓o_is, ↓o_isnot, ↓o_isB, ↓o_isnotB, ↓o_inT, ↓o_ninT, ↓o_inL, ↓o_ninL, ↓o_ixT, ↓o_ixR, ↓o_ixL, ↓o_rev, ↓o_ixS, ↓o_str, ↓o_strS, ↓o_set, ↓o_lenT, ↓o_lenR, ↓o_lenL, ↓o_lenS, ↓o_int, ↓o_intT, ↓o_intF, ↓o_abs, ↓o_max, ↓o_min, ↓o_tuple, ↓o_listXt, ↓o_listXr, ↓o_listXl, ↓o_listXs, ↓o_sortedXt, ↓o_tup0, ↓o_tup1, ↓o_tup2, ↓o_tup3, ↓o_tup4, ↓o_tup5, ↓o_tup6, ↓o_lst0, ↓o_lst1, ↓o_lst2, ↓o_lst3, ↓o_lst4, ↓o_lst5, ↓o_lst6, ↓o_sum, ↓W_meth, ↓o_append, ↓o_extend, ↓o_popAt, ↓W_cut, ↓W_noPart, ↓W_part, ↓o_cutT, ↓o_cutR, ↓o_cutL, ↓W_isi, ↓W_ch, ↓WS_for, ↓WI_iter, ↓WI_range1, ↓WI_range2, ↓WI_range3, ↓WI_enum, ↓WI_zip2, ↓WI_zip3, ↓W_callK, ↓WS_f0, ↓WS_f1, ↓W_alloc, ↓W_ofL, ↓W_comp, ↓WB_yes, ↓W_c0, ↓W_c1, ↓W_listRg, ↓W_tupRg, ↓W_rRange1, ↓W_rRange2, Option.isSome_some, z2_t, z3_t, perm_nil, perm_cons, List.getD_cons_zero, List.getD_cons_succ, o_intT, o_intF, o_intB, o_ixL, o_ixT, beq_self_eq_true, decide_true, decide_false, okEq, okCmp, okIn, D.fits, D.fitsL, D.dep, D.depL, D.eqv, D.eqvL, D.alike, D.alikeL, isBl_bl, isN_non, isN_bl, isN_int, isN_str, isN_tup, isN_rol, isN_loc, Nat.reduceAdd, Nat.reduceSub, Nat.max_self, Nat.min_self, Nat.max_zero, Nat.zero_max, Nat.min_zero, Nat.zero_min, ty_non, ty_bl, ty_int, ty_str, ty_tup, ty_rol, ty_loc, kb_bool_bool, kb_bool_int, kb_bool_str, kb_bool_tuple, kb_bool_list, kb_int_bool, kb_int_int, kb_int_str, kb_int_tuple, kb_int_list, kb_str_bool, kb_str_int, kb_str_str, kb_str_tuple, kb_str_list, kb_tuple_bool, kb_tuple_int, kb_tuple_str, kb_tuple_tuple, kb_tuple_list, kb_list_bool, kb_list_int, kb_list_str, kb_list_tuple, kb_list_list, kb_NoneType_bool, kb_NoneType_int, kb_NoneType_str, kb_NoneType_tuple, kb_NoneType_list, Nat.zero_add, c02, lstAt_setE, Option.map_some, lstAt_set_ne, ne_eq, Nat.reduceEqDiff, Nat.one_ne_zero, Nat.zero_ne_one, ix_1_0, ix_2_0, ix_2_1, ix_3_0, ix_3_1, ix_3_2, ix_4_0, ix_4_1, ix_4_2, ix_4_3, ix_5_0, ix_5_1, ix_5_2, ix_5_3, ix_5_4, ix_6_0, ix_6_1, ix_6_2, ix_6_3, ix_6_4, ix_6_5, Nat.reduceLeDiff, Int.reduceAdd, Int.reduceSub, Int.reduceMul, Int.reduceNeg, Int.reducePow, Int.reduceLT, Int.reduceLE, Int.reduceEq, Int.reduceToNat, Bool.and_true, Bool.true_and, Bool.and_self, Bool.and_false, Bool.false_and, Bool.and_eq_true, Bool.and_eq_false_imp, and_self, WS_qdn, WS_qdr, WS_qde, WS_qdb, WS_qdc, qn1, qn2, qn3, qn4, qn5, qk1, qk5, lq1, lq2, lq3, lq4, lq5, intD_int, items_tup, items_rol, items_loc, listOf_loc, listOf_rol, isL_loc, nd_non, nd_bl, nd_int, nd_str, nd_tup, nd_rol, noDct_loc, at0, at1, at2, at3, at4, at5, atl1, atl2, atl3, atl4, lstAt_new, lstAt_h0, lstAt_h1, lstAt_h2, lstAt_h3, it_tup, it_rol, kTup_eq, kLen_eq, wipe0, wipe1, b_nm, b_un, b_nil, b_cnm, b_cun, Option.bind_some, List.set_cons_zero, List.set_cons_succ, List.length_cons, List.length_nil, List.nil_append, List.cons_append, List.append_nil, List.isEmpty_cons, List.isEmpty_nil, true_and, and_true, false_and, and_false, true_implies, forall_const, not_true_eq_false, not_false_eq_true, implies_true, decide_eq_true_eq, decide_eq_false_iff_not, Bool.not_eq_true', Bool.not_eq_false', Bool.not_true, Bool.not_false, if_true, if_false, Bool.false_eq_true, Bool.true_eq_false, reduceCtorEq, false_implies, eq_self]
        rw [List.length_map]
        have F5 := F3.ap (A4.trans A5)
        refine draw_w F5 (by omega) (by omega) fun w S6 w0 w1 F6 K6 => ?_
        simp only [↓reduceIte, ↓W_ok, ↓W_exn, ↓W_var0, ↓W_varS, ↓W_K, ↓W_bin, ↓W_un, ↓W_aNil, ↓W_aCons, ↓W_arg, ↓W_call, ↓W_of, ↓WB_test, ↓tc_bl, ↓WB_tru, ↓trc, ↓WB_and, ↓WB_or, ↓WB_not, ↓W_if, ↓W_andV, ↓W_orV, ↓W_notV, ↓WM_some, ↓WM_none, ↓WO_some, ↓tr_bl, ↓tr_non, ↓tr_int, ↓tr_tup, ↓tr_rol, ↓WS_nx, ↓WS_rt, ↓WS_ct, ↓WS_bk, ↓WS_exn, ↓WS_seq, ↓WS_nil, ↓WS_retN, ↓WS_break, ↓WS_cont, ↓WS_expr, ↓WS_ret, ↓WS_if, ↓WS_set, ↓WS_par, ↓WS_asg, ↓WS_gSet, ↓WS_gN, ↓WS_gC, ↓WS_gUn, ↓WS_gSub, ↓WS_aug, ↓o_add, ↓o_iadd, ↓o_sub, ↓o_neg, ↓o_mul, ↓o_mod, ↓o_div, ↓o_pow, ↓o_addT, ↓o_addS, ↓o_addL, ↓o_lt, ↓o_le, ↓o_gt, ↓o_ge, ↓o_eq, ↓o_ne, ↓o_eqS, ↓o_neS, ↓o_eqB, ↓o_neB, ↓o_eqT, ↓o_neT, ↓o_eqN, ↓o_neN, ↓o_ltT, ↓o_leT, ↓o_is, ↓o_isnot, ↓o_isB, ↓o_isnotB, ↓o_inT, ↓o_ninT, ↓o_inL, ↓o_ninL, ↓o_ixT, ↓o_ixR, ↓o_ixL, ↓o_rev, ↓o_ixS, ↓o_str, ↓o_strS, ↓o_set, ↓o_lenT, ↓o_lenR, ↓o_lenL, ↓o_lenS, ↓o_int, ↓o_intT, ↓o_intF, ↓o_abs, ↓o_max, ↓o_min, ↓o_tuple, ↓o_listXt, ↓o_listXr, ↓o_listXl, ↓o_listXs, ↓o_sortedXt, ↓o_tup0, ↓o_tup1, ↓o_tup2, ↓o_tup3, ↓o_tup4, ↓o_tup5, ↓o_tup6, ↓o_lst0, ↓o_lst1, ↓o_lst2, ↓o_lst3, ↓o_lst4, ↓o_lst5, ↓o_lst6, ↓o_sum, ↓W_meth, ↓o_append, ↓o_extend, ↓o_popAt, ↓W_cut, ↓W_noPart, ↓W_part, ↓o_cutT, ↓o_cutR, ↓o_cutL, ↓W_isi, ↓W_ch, ↓WS_for, ↓WI_iter, ↓WI_range1, ↓WI_range2, ↓WI_range3, ↓WI_enum, ↓WI_zip2, ↓WI_zip3, ↓W_callK, ↓WS_f0, ↓WS_f1, ↓W_alloc, ↓W_ofL, ↓W_comp, ↓WB_yes, ↓W_c0, ↓W_c1, ↓W_listRg, ↓W_tupRg, ↓W_rRange1, ↓W_rRange2, Option.isSome_some, z2_t, z3_t, perm_nil, perm_cons, List.getD_cons_zero, List.getD_cons_succ, o_intT, o_intF, o_intB, o_ixL, o_ixT, beq_self_eq_true, decide_true, decide_false, okEq, okCmp, okIn, D.fits, D.fitsL, D.dep, D.depL, D.eqv, D.eqvL, D.alike, D.alikeL, isBl_bl, isN_non, isN_bl, isN_int, isN_str, isN_tup, isN_rol, isN_loc, Nat.reduceAdd, Nat.reduceSub, Nat.max_self, Nat.min_self, Nat.max_zero, Nat.zero_max, Nat.min_zero, Nat.zero_min, ty_non, ty_bl, ty_int, ty_str, ty_tup, ty_rol, ty_loc, kb_bool_bool, kb_bool_int, kb_bool_str, kb_bool_tuple, kb_bool_list, kb_int_bool, kb_int_int, kb_int_str, kb_int_tuple, kb_int_list, kb_str_bool, kb_str_int, kb_str_str, kb_str_tuple, kb_str_list, kb_tuple_bool, kb_tuple_int, kb_tuple_str, kb_tuple_tuple, kb_tuple_list, kb_list_bool, kb_list_int, kb_list_str, kb_list_tuple, kb_list_list, kb_NoneType_bool, kb_NoneType_int, kb_NoneType_str, kb_NoneType_tuple, kb_NoneType_list, Nat.zero_add, c02, lstAt_setE, Option.map_some, lstAt_set_ne, ne_eq, Nat.reduceEqDiff, Nat.one_ne_zero, Nat.zero_ne_one, ix_1_0, ix_2_0, ix_2_1, ix_3_0, ix_3_1, ix_3_2, ix_4_0, ix_4_1, ix_4_2, ix_4_3, ix_5_0, ix_5_1, ix_5_2, ix_5_3, ix_5_4, ix_6_0, ix_6_1, ix_6_2, ix_6_3, ix_6_4, ix_6_5, Nat.reduceLeDiff, Int.reduceAdd, Int.reduceSub, Int.reduceMul, Int.reduceNeg, Int.reducePow, Int.reduceLT, Int.reduceLE, Int.reduceEq, Int.reduceToNat, Bool.and_true, Bool.true_and, Bool.and_self, Bool.and_false, Bool.false_and, Bool.and_eq_true, Bool.and_eq_false_imp, and_self, WS_qdn, WS_qdr, WS_qde, WS_qdb, WS_qdc, qn1, qn2, qn3, qn4, qn5, qk1, qk5, lq1, lq2, lq3, lq4, lq5, intD_int, items_tup, items_rol, items_loc, listOf_loc, listOf_rol, isL_loc, nd_non, nd_bl, nd_int, nd_str, nd_tup, nd_rol, noDct_loc, at0, at1, at2, at3, at4, at5, atl1, atl2, atl3, atl4, lstAt_new, lstAt_h0, lstAt_h1, lstAt_h2, lstAt_h3, it_tup, it_rol, kTup_eq, kLen_eq, wipe0, wipe1, b_nm, b_un, b_nil, b_cnm, b_cun, Option.bind_some, List.set_cons_zero, List.set_cons_succ, List.length_cons, List.length_nil, List.nil_append, List.cons_append, List.append_nil, List.isEmpty_cons, List.isEmpty_nil, true_and, and_true, false_and, and_false, true_implies, forall_const, not_true_eq_false, not_false_eq_true, implies_true, decide_eq_true_eq, decide_eq_false_iff_not, Bool.not_eq_true', Bool.not_eq_false', Bool.not_true, Bool.not_false, if_true, if_false, Bool.false_eq_true, Bool.true_eq_false, reduceCtorEq, false_implies, eq_self]
        refine made_w hn hA hO (by omega) w0 (by omega) fun S7 A7 => ?_
        simp only [↓reduceIte, ↓W_ok, ↓W_exn, ↓W_var0, ↓W_varS, ↓W_K, ↓W_bin, ↓W_un, ↓W_aNil, ↓W_aCons, ↓W_arg, ↓W_call, ↓W_of, ↓WB_test, ↓tc_bl, ↓WB_tru, ↓trc, ↓WB_and, ↓WB_or, ↓WB_not, ↓W_if, ↓W_andV, ↓W_orV, ↓W_notV, ↓WM_some, ↓WM_none, ↓WO_some, ↓tr_bl, ↓tr_non, ↓tr_int, ↓tr_tup, ↓tr_rol, ↓WS_nx, ↓WS_rt, ↓WS_ct, ↓WS_bk, ↓WS_exn, ↓WS_seq, ↓WS_nil, ↓WS_retN, ↓WS_break, ↓WS_cont, ↓WS_expr, ↓WS_ret, ↓WS_if, ↓WS_set, ↓WS_par, ↓WS_asg, ↓WS_gSet, ↓WS_gN, ↓WS_gC, ↓WS_gUn, ↓WS_gSub, ↓WS_aug, ↓o_add, ↓o_iadd, ↓o_sub, ↓o_neg, ↓o_mul, ↓o_mod, ↓o_div, ↓o_pow, ↓o_addT, ↓o_addS, ↓o_addL, ↓o_lt, ↓o_le, ↓o_gt, ↓o_ge, ↓o_eq, ↓o_ne, ↓o_eqS, ↓o_neS, ↓o_eqB, ↓o_neB, ↓o_eqT, ↓o_neT, ↓o_eqN, ↓o_neN, ↓o_ltT, ↓o_leT, ↓o_is, ↓o_isnot, ↓o_isB, ↓o_isnotB, ↓o_inT, ↓o_ninT, ↓o_inL, ↓o_ninL, ↓o_ixT, ↓o_ixR, ↓o_ixL, ↓o_rev, ↓o_ixS, ↓o_str, ↓o_strS, ↓o_set, ↓o_lenT, ↓o_lenR, ↓o_lenL, ↓o_lenS, ↓o_int, ↓o_intT, ↓o_intF, ↓o_abs, ↓o_max, ↓o_min, ↓o_tuple, ↓o_listXt, ↓o_listXr, ↓o_listXl, ↓o_listXs, ↓o_sortedXt, ↓o_tup0, ↓o_tup1, ↓o_tup2, ↓o_tup3, ↓o_tup4, ↓o_tup5, ↓o_tup6, ↓o_lst0, ↓o_lst1, ↓o_lst2, ↓o_lst3, ↓o_lst4, ↓o_lst5, ↓o_lst6, ↓o_sum, ↓W_meth, ↓o_append, ↓o_extend, ↓o_popAt, ↓W_cut, ↓W_noPart, ↓W_part, ↓o_cutT, ↓o_cutR, ↓o_cutL, ↓W_isi, ↓W_ch, ↓WS_for, ↓WI_iter, ↓WI_range1, ↓WI_range2, ↓WI_range3, ↓WI_enum, ↓WI_zip2, ↓WI_zip3, ↓W_callK, ↓WS_f0, ↓WS_f1, ↓W_alloc, ↓W_ofL, ↓W_comp, ↓WB_yes, ↓W_c0, ↓W_c1, ↓W_listRg, ↓W_tupRg, ↓W_rRange1, ↓W_rRange2, Option.isSome_some, z2_t, z3_t, perm_nil, perm_cons, List.getD_cons_zero, List.getD_cons_succ, o_intT, o_intF, o_intB, o_ixL, o_ixT, beq_self_eq_true, decide_true, decide_false, okEq, okCmp, okIn, D.fits, D.fitsL, D.dep, D.depL, D.eqv, D.eqvL, D.alike, D.alikeL, isBl_bl, isN_non, isN_bl, isN_int, isN_str, isN_tup, isN_rol, isN_loc, Nat.reduceAdd, Nat.reduceSub, Nat.max_self, Nat.min_self, Nat.max_zero, Nat.zero_max, Nat.min_zero, Nat.zero_min, ty_non, ty_bl, ty_int, ty_str, ty_tup, ty_rol, ty_loc, kb_bool_bool, kb_bool_int, kb_bool_str, kb_bool_tuple, kb_bool_list, kb_int_bool, kb_int_int, kb_int_str, kb_int_tuple, kb_int_list, kb_str_bool, kb_str_int, kb_str_str, kb_str_tuple, kb_str_list, kb_tuple_bool, kb_tuple_int, kb_tuple_str, kb_tuple_tuple, kb_tuple_list, kb_list_bool, kb_list_int, kb_list_str, kb_list_tuple, kb_list_list, kb_NoneType_bool, kb_NoneType_int, kb_NoneType_str, kb_NoneType_tuple, kb_NoneType_list, Nat.zero_add, c02, lstAt_setE, Option.map_some, lstAt_set_ne, ne_eq, Nat.reduceEqDiff, Nat.one_ne_zero, Nat.zero_ne_one, ix_1_0, ix_2_0, ix_2_1, ix_3_0, ix_3_1, ix_3_2, ix_4_0, ix_4_1, ix_4_2, ix_4_3, ix_5_0, ix_5_1, ix_5_2, ix_5_3, ix_5_4, ix_6_0, ix_6_1, ix_6_2, ix_6_3, ix_6_4, ix_6_5, Nat.reduceLeDiff, Int.reduceAdd, Int.reduceSub, Int.reduceMul, Int.reduceNeg, Int.reducePow, Int.reduceLT, Int.reduceLE, Int.reduceEq, Int.reduceToNat, Bool.and_true, Bool.true_and, Bool.and_self, Bool.and_false, Bool.false_and, Bool.and_eq_true, Bool.and_eq_false_imp, and_self, WS_qdn, WS_qdr, WS_qde, WS_qdb, WS_qdc, qn1, qn2, qn3, qn4, qn5, qk1, qk5, lq1, lq2, lq3, lq4, lq5, intD_int, items_tup, items_rol, items_loc, listOf_loc, listOf_rol, isL_loc, nd_non, nd_bl, nd_int, nd_str, nd_tup, nd_rol, noDct_loc, at0, at1, at2, at3, at4, at5, atl1, atl2, atl3, atl4, lstAt_new, lstAt_h0, lstAt_h1, lstAt_h2, lstAt_h3, it_tup, it_rol, kTup_eq, kLen_eq, wipe0, wipe1, b_nm, b_un, b_nil, b_cnm, b_cun, Option.bind_some, List.set_cons_zero, List.set_cons_succ, List.length_cons, List.length_nil, List.nil_append, List.cons_append, List.append_nil, List.isEmpty_cons, List.isEmpty_nil, true_and, and_true, false_and, and_false, true_implies, forall_const, not_true_eq_false, not_false_eq_true, implies_true, decide_eq_true_eq, decide_eq_false_iff_not, Bool.not_eq_true', Bool.not_eq_false', Bool.not_true, Bool.not_false, if_true, if_false, Bool.false_eq_true, Bool.true_eq_false, reduceCtorEq, false_implies, eq_self]
        refine made_l hn hA hO (by omega) w0 (by omega) fun S8 A8 => ?_
        refine same_w (tt := tg) ?_
        exact h _ (F6.ap (A7.trans A8)) (((K3.trans (A4.trans A5).fk).trans K6).trans (A7.trans A8).fk)
end
end LW

namespace LW
open PySem PySem.Spec PyProof.Rows L2 DL
section
variable {x : XQ} {Q : D → Store → Prop} {tt : Tg (x, Q)} {S S' S'' : Store} {l n : Nat} {c : D} {m : List Int} {many size : Int}
theorem fixed_w (hF : FlowOk S) (h : ∀ S', FlowOk S' → Fk 3 S S' → Q (.bl true) S') : W (x, Q) tt (m__law_fixed [.loc 2] S) := by
  simp only [↓reduceIte, ↓W_ok, ↓W_exn, ↓W_var0, ↓W_varS, ↓W_K, ↓W_bin, ↓W_un, ↓W_aNil, ↓W_aCons, ↓W_arg, ↓W_call, ↓W_of, ↓WB_test, ↓tc_bl, ↓WB_tru, ↓trc, ↓WB_and, ↓WB_or, ↓WB_not, ↓W_if, ↓W_andV, ↓W_orV, ↓W_notV, ↓WM_some, ↓WM_none, ↓WO_some, ↓tr_bl, ↓tr_non, ↓tr_int, ↓tr_tup, ↓tr_rol, ↓WS_nx, ↓WS_rt, ↓WS_ct, ↓WS_bk, ↓WS_exn, ↓WS_seq, ↓WS_nil, ↓WS_retN, ↓WS_break, ↓WS_cont, ↓WS_expr, ↓WS_ret, ↓WS_if, ↓WS_set, ↓WS_par, ↓WS_asg, ↓WS_gSet, ↓WS_gN, ↓WS_gC, ↓WS_gUn, ↓WS_gSub, ↓WS_aug, ↓o_add, ↓o_iadd, ↓o_sub, ↓o_neg, ↓o_mul, ↓o_mod, ↓o_div, ↓o_pow, ↓o_addT, ↓o_addS, ↓o_addL, ↓o_lt, ↓o_le, ↓o_gt, ↓o_ge, ↓o_eq, ↓o_ne, ↓o_eqS, ↓o_neS, ↓o_eqB, ↓o_neB, ↓o_eqT, ↓o_neT, ↓o_eqN, ↓o_neN, ↓o_ltT, ↓o_leT, ↓o_is, ↓o_isnot, ↓o_isB, ↓o_isnotB, ↓o_inT, ↓o_ninT, ↓o_inL, ↓o_ninL, ↓o_ixT, ↓o_ixR, ↓o_ixL, ↓o_rev, ↓o_ixS, ↓o_str, ↓o_strS, ↓o_set, ↓o_lenT, ↓o_lenR, ↓o_lenL, ↓o_lenS, ↓o_int, ↓o_intT, ↓o_intF, ↓o_abs, ↓o_max, ↓o_min, ↓o_tuple, ↓o_listXt, ↓o_listXr, ↓o_listXl, ↓o_listXs, ↓o_sortedXt, ↓o_tup0, ↓o_tup1, ↓o_tup2, ↓o_tup3, ↓o_tup4, ↓o_tup5, ↓o_tup6, ↓o_lst0, ↓o_lst1, ↓o_lst2, ↓o_lst3, ↓o_lst4, ↓o_lst5, ↓o_lst6, ↓o_sum, ↓W_meth, ↓o_append, ↓o_extend, ↓o_popAt, ↓W_cut, ↓W_noPart, ↓W_part, ↓o_cutT, ↓o_cutR, ↓o_cutL, ↓W_isi, ↓W_ch, ↓WS_for, ↓WI_iter, ↓WI_range1, ↓WI_range2, ↓WI_range3, ↓WI_enum, ↓WI_zip2, ↓WI_zip3, ↓W_callK, ↓WS_f0, ↓WS_f1, ↓W_alloc, ↓W_ofL, ↓W_comp, ↓WB_yes, ↓W_c0, ↓W_cx1, ↓W_cg0, ↓W_cg1, ↓W_listRg, ↓W_tupRg, ↓W_rRange1, ↓W_rRange2, Option.isSome_some, z2_t, z3_t, perm_nil, perm_cons, List.getD_cons_zero, List.getD_cons_succ, o_intT, o_intF, o_intB, o_ixL, o_ixT, beq_self_eq_true, decide_true, decide_false, okEq, okCmp, okIn, D.fits, D.fitsL, D.dep, D.depL, D.eqv, D.eqvL, D.alike, D.alikeL, isBl_bl, isN_non, isN_bl, isN_int, isN_str, isN_tup, isN_rol, isN_loc, Nat.reduceAdd, Nat.reduceSub, Nat.max_self, Nat.min_self, Nat.max_zero, Nat.zero_max, Nat.min_zero, Nat.zero_min, ty_non, ty_bl, ty_int, ty_str, ty_tup, ty_rol, ty_loc, kb_bool_bool, kb_bool_int, kb_bool_str, kb_bool_tuple, kb_bool_list, kb_int_bool, kb_int_int, kb_int_str, kb_int_tuple, kb_int_list, kb_str_bool, kb_str_int, kb_str_str, kb_str_tuple, kb_str_list, kb_tuple_bool, kb_tuple_int, kb_tuple_str, kb_tuple_tuple, kb_tuple_list, kb_list_bool, kb_list_int, kb_list_str, kb_list_tuple, kb_list_list, kb_NoneType_bool, kb_NoneType_int, kb_NoneType_str, kb_NoneType_tuple, kb_NoneType_list, Nat.zero_add, c02, lstAt_setE, Option.map_some, lstAt_set_ne, ne_eq, Nat.reduceEqDiff, Nat.one_ne_zero, Nat.zero_ne_one, ix_1_0, ix_2_0, ix_2_1, ix_3_0, ix_3_1, ix_3_2, ix_4_0, ix_4_1, ix_4_2, ix_4_3, ix_5_0, ix_5_1, ix_5_2, ix_5_3, ix_5_4, ix_6_0, ix_6_1, ix_6_2, ix_6_3, ix_6_4, ix_6_5, Nat.reduceLeDiff, Int.reduceAdd, Int.reduceSub, Int.reduceMul, Int.reduceNeg, Int.reducePow, Int.reduceLT, Int.reduceLE, Int.reduceEq, Int.reduceToNat, Bool.and_true, Bool.true_and, Bool.and_self, Bool.and_false, Bool.false_and, Bool.and_eq_true, Bool.and_eq_false_imp, and_self, WS_qdn, WS_qdr, WS_qde, WS_qdb, WS_qdc, qn1, qn2, qn3, qn4, qn5, qk1, qk5, lq1, lq2, lq3, lq4, lq5, intD_int, items_tup, items_rol, items_loc, listOf_loc, listOf_rol, isL_loc, nd_non, nd_bl, nd_int, nd_str, nd_tup, nd_rol, noDct_loc, at0, at1, at2, at3, at4, at5, atl1, atl2, atl3, atl4, lstAt_new, lstAt_h0, lstAt_h1, lstAt_h2, lstAt_h3, it_tup, it_rol, kTup_eq, kLen_eq, wipe0, wipe1, b_nm, b_un, b_nil, b_cnm, b_cun, Option.bind_some, List.set_cons_zero, List.set_cons_succ, List.length_cons, List.length_nil, List.nil_append, List.cons_append, List.append_nil, List.isEmpty_cons, List.isEmpty_nil, true_and, and_true, false_and, and_false, true_implies, forall_const, not_true_eq_false, not_false_eq_true, implies_true, decide_eq_true_eq, decide_eq_false_iff_not, Bool.not_eq_true', Bool.not_eq_false', Bool.not_true, Bool.not_false, if_true, if_false, Bool.false_eq_true, Bool.true_eq_false, reduceCtorEq, false_implies, eq_self, wm__law_fixed, b__law_fixed]
  refine draw_w hF (by decide) (by decide) fun v S1 v0 v1 F1 K1 => ?_
  generalize hlo : v - 1000 = low at *
  simp only [↓reduceIte, ↓W_ok, ↓W_exn, ↓W_var0, ↓W_varS, ↓W_K, ↓W_bin, ↓W_un, ↓W_aNil, ↓W_aCons, ↓W_arg, ↓W_call, ↓W_of, ↓WB_test, ↓tc_bl, ↓WB_tru, ↓trc, ↓WB_and, ↓WB_or, ↓WB_not, ↓W_if, ↓W_andV, ↓W_orV, ↓W_notV, ↓WM_some, ↓WM_none, ↓WO_some, ↓tr_bl, ↓tr_non, ↓tr_int, ↓tr_tup, ↓tr_rol, ↓WS_nx, ↓WS_rt, ↓WS_ct, ↓WS_bk, ↓WS_exn, ↓WS_seq, ↓WS_nil, ↓WS_retN, ↓WS_break, ↓WS_cont, ↓WS_expr, ↓WS_ret, ↓WS_if, ↓WS_set, ↓WS_par, ↓WS_asg, ↓WS_gSet, ↓WS_gN, ↓WS_gC, ↓WS_gUn, ↓WS_gSub, ↓WS_aug, ↓o_add, ↓o_iadd, ↓o_sub, ↓o_neg, ↓o_mul, ↓o_mod, ↓o_div, ↓o_pow, ↓o_addT, ↓o_addS, ↓o_addL, ↓o_lt, ↓o_le, ↓o_gt, ↓o_ge, ↓o_eq, ↓o_ne, ↓o_eqS, ↓o_neS, ↓o_eqB, ↓o_neB, ↓o_eqT, ↓o_neT, ↓o_eqN, ↓o_neN, ↓o_ltT, ↓o_leT, ↓o_is, ↓o_isnot, ↓o_isB, ↓o_isnotB, ↓o_inT, ↓o_ninT, ↓o_inL, ↓o_ninL, ↓o_ixT, ↓o_ixR, ↓o_ixL, ↓o_rev, ↓o_ixS, ↓o_str, ↓o_strS, ↓o_set, ↓o_lenT, ↓o_lenR, ↓o_lenL, ↓o_lenS, ↓o_int, ↓o_intT, ↓o_intF, ↓o_abs, ↓o_max, ↓o_min, ↓o_tuple, ↓o_listXt, ↓o_listXr, ↓o_listXl, ↓o_listXs, ↓o_sortedXt, ↓o_tup0, ↓o_tup1, ↓o_tup2, ↓o_tup3, ↓o_tup4, ↓o_tup5, ↓o_tup6, ↓o_lst0, ↓o_lst1, ↓o_lst2, ↓o_lst3, ↓o_lst4, ↓o_lst5, ↓o_lst6, ↓o_sum, ↓W_meth, ↓o_append, ↓o_extend, ↓o_popAt, ↓W_cut, ↓W_noPart, ↓W_part, ↓o_cutT, ↓o_cutR, ↓o_cutL, ↓W_isi, ↓W_ch, ↓WS_for, ↓WI_iter, ↓WI_range1, ↓WI_range2, ↓WI_range3, ↓WI_enum, ↓WI_zip2, ↓WI_zip3, ↓W_callK, ↓WS_f0, ↓WS_f1, ↓W_alloc, ↓W_ofL, ↓W_comp, ↓WB_yes, ↓W_c0, ↓W_cx1, ↓W_cg0, ↓W_cg1, ↓W_listRg, ↓W_tupRg, ↓W_rRange1, ↓W_rRange2, Option.isSome_some, z2_t, z3_t, perm_nil, perm_cons, List.getD_cons_zero, List.getD_cons_succ, o_intT, o_intF, o_intB, o_ixL, o_ixT, beq_self_eq_true, decide_true, decide_false, okEq, okCmp, okIn, D.fits, D.fitsL, D.dep, D.depL, D.eqv, D.eqvL, D.alike, D.alikeL, isBl_bl, isN_non, isN_bl, isN_int, isN_str, isN_tup, isN_rol, isN_loc, Nat.reduceAdd, Nat.reduceSub, Nat.max_self, Nat.min_self, Nat.max_zero, Nat.zero_max, Nat.min_zero, Nat.zero_min, ty_non, ty_bl, ty_int, ty_str, ty_tup, ty_rol, ty_loc, kb_bool_bool, kb_bool_int, kb_bool_str, kb_bool_tuple, kb_bool_list, kb_int_bool, kb_int_int, kb_int_str, kb_int_tuple, kb_int_list, kb_str_bool, kb_str_int, kb_str_str, kb_str_tuple, kb_str_list, kb_tuple_bool, kb_tuple_int, kb_tuple_str, kb_tuple_tuple, kb_tuple_list, kb_list_bool, kb_list_int, kb_list_str, kb_list_tuple, kb_list_list, kb_NoneType_bool, kb_NoneType_int, kb_NoneType_str, kb_NoneType_tuple, kb_NoneType_list, Nat.zero_add, c02, lstAt_setE, Option.map_some, lstAt_set_ne, ne_eq, Nat.reduceEqDiff, Nat.one_ne_zero, Nat.zero_ne_one, ix_1_0, ix_2_0, ix_2_1, ix_3_0, ix_3_1, ix_3_2, ix_4_0, ix_4_1, ix_4_2, ix_4_3, ix_5_0, ix_5_1, ix_5_2, ix_5_3, ix_5_4, ix_6_0, ix_6_1, ix_6_2, ix_6_3, ix_6_4, ix_6_5, Nat.reduceLeDiff, Int.reduceAdd, Int.reduceSub, Int.reduceMul, Int.reduceNeg, Int.reducePow, Int.reduceLT, Int.reduceLE, Int.reduceEq, Int.reduceToNat, Bool.and_true, Bool.true_and, Bool.and_self, Bool.and_false, Bool.false_and, Bool.and_eq_true, Bool.and_eq_false_imp, and_self, WS_qdn, WS_qdr, WS_qde, WS_qdb, WS_qdc, qn1, qn2, qn3, qn4, qn5, qk1, qk5, lq1, lq2, lq3, lq4, lq5, intD_int, items_tup, items_rol, items_loc, listOf_loc, listOf_rol, isL_loc, nd_non, nd_bl, nd_int, nd_str, nd_tup, nd_rol, noDct_loc, at0, at1, at2, at3, at4, at5, atl1, atl2, atl3, atl4, lstAt_new, lstAt_h0, lstAt_h1, lstAt_h2, lstAt_h3, it_tup, it_rol, kTup_eq, kLen_eq, wipe0, wipe1, b_nm, b_un, b_nil, b_cnm, b_cun, Option.bind_some, List.set_cons_zero, List.set_cons_succ, List.length_cons, List.length_nil, List.nil_append, List.cons_append, List.append_nil, List.isEmpty_cons, List.isEmpty_nil, true_and, and_true, false_and, and_false, true_implies, forall_const, not_true_eq_false, not_false_eq_true, implies_true, decide_eq_true_eq, decide_eq_false_iff_not, Bool.not_eq_true', Bool.not_eq_false', Bool.not_true, Bool.not_false, if_true, if_false, Bool.false_eq_true, Bool.true_eq_false, reduceCtorEq, false_implies, eq_self, hlo]
  refine ⟨by decide, ?_⟩
  have hs1 := F1.len
  have e3 : intsTo 0 (Int.toNat 3) = [.int 0, .int 1, .int 2] := rfl
  have e8 : intsTo 0 (Int.toNat 8) = [.int 0, .int 1, .int 2, .int 3, .int 4, .int 5, .int 6, .int 7] := rfl
  have l0 := fun T0 T1 T2 T3 => lstAt_app (T := [Cell.lst T3]) (lstAt_app (T := [Cell.lst T2]) (lstAt_app (T := [Cell.lst T1]) (lstAt_new (S := S1) (c := T0))))
  have l1 := fun T0 T1 T2 T3 => lstAt_app (T := [Cell.lst T3]) (lstAt_app (T := [Cell.lst T2]) (lstAt_new (S := S1 ++ [Cell.lst T0]) (c := T1)))
  have l2 := fun T0 T1 T2 T3 => lstAt_app (T := [Cell.lst T3]) (lstAt_new (S := S1 ++ [Cell.lst T0] ++ [Cell.lst T1]) (c := T2))
  have l3 := fun T0 T1 T2 T3 => lstAt_new (S := S1 ++ [Cell.lst T0] ++ [Cell.lst T1] ++ [Cell.lst T2]) (c := T3)
  have A2 := fun T0 T1 T2 T3 => (((((Ap.refl S1).app [Cell.lst T0]).app [Cell.lst T1]).app [Cell.lst T2]).app [Cell.lst T3])
  replace l0 := l0 [D.int low, D.int (low + 7), D.int (low + 3)] [D.int (low + 5), D.int low, D.int (low + 9)] [D.int (low + 2), D.int (low + 1), D.int (low + 4)]
  replace l1 := l1 [D.int low, D.int (low + 7), D.int (low + 3)] [D.int (low + 5), D.int low, D.int (low + 9)] [D.int (low + 2), D.int (low + 1), D.int (low + 4)]
  replace l2 := l2 [D.int low, D.int (low + 7), D.int (low + 3)] [D.int (low + 5), D.int low, D.int (low + 9)] [D.int (low + 2), D.int (low + 1), D.int (low + 4)]
  replace l3 := l3 [D.int low, D.int (low + 7), D.int (low + 3)] [D.int (low + 5), D.int low, D.int (low + 9)] [D.int (low + 2), D.int (low + 1), D.int (low + 4)]
  replace A2 := A2 [D.int low, D.int (low + 7), D.int (low + 3)] [D.int (low + 5), D.int low, D.int (low + 9)] [D.int (low + 2), D.int (low + 1), D.int (low + 4)]
  rw [show intsTo 0 3 = [.int 0, .int 1, .int 2] from rfl]
  simp only [↓reduceIte, ↓W_ok, ↓W_exn, ↓W_var0, ↓W_varS, ↓W_K, ↓W_bin, ↓W_un, ↓W_aNil, ↓W_aCons, ↓W_arg, ↓W_call, ↓W_of, ↓WB_test, ↓tc_bl, ↓WB_tru, ↓trc, ↓WB_and, ↓WB_or, ↓WB_not, ↓W_if, ↓W_andV, ↓W_orV, ↓W_notV, ↓WM_some, ↓WM_none, ↓WO_some, ↓tr_bl, ↓tr_non, ↓tr_int, ↓tr_tup, ↓tr_rol, ↓WS_nx, ↓WS_rt, ↓WS_ct, ↓WS_bk, ↓WS_exn, ↓WS_seq, ↓WS_nil, ↓WS_retN, ↓WS_break, ↓WS_cont, ↓WS_expr, ↓WS_ret, ↓WS_if, ↓WS_set, ↓WS_par, ↓WS_asg, ↓WS_gSet, ↓WS_gN, ↓WS_gC, ↓WS_gUn, ↓WS_gSub, ↓WS_aug, ↓o_add, ↓o_iadd, ↓o_sub, ↓o_neg, ↓o_mul, ↓o_mod, ↓o_div, ↓o_pow, ↓o_addT, ↓o_addS, ↓o_addL, ↓o_lt, ↓o_le, ↓o_gt, ↓o_ge, ↓o_eq, ↓o_ne, ↓o_eqS, ↓o_neS, ↓o_eqB, ↓o_neB, ↓o_eqT, ↓o_neT, ↓o_eqN, ↓o_neN, ↓o_ltT, ↓o_leT, ↓o_is, ↓o_isnot, ↓o_isB, ↓o_isnotB, ↓o_inT, ↓o_ninT, ↓o_inL, ↓o_ninL, ↓o_ixT, ↓o_ixR, ↓o_ixL, ↓o_rev, ↓o_ixS, ↓o_str, ↓o_strS, ↓o_set, ↓o_lenT, ↓o_lenR, ↓o_lenL, ↓o_lenS, ↓o_int, ↓o_intT, ↓o_intF, ↓o_abs, ↓o_max, ↓o_min, ↓o_tuple, ↓o_listXt, ↓o_listXr, ↓o_listXl, ↓o_listXs, ↓o_sortedXt, ↓o_tup0, ↓o_tup1, ↓o_tup2, ↓o_tup3, ↓o_tup4, ↓o_tup5, ↓o_tup6, ↓o_lst0, ↓o_lst1, ↓o_lst2, ↓o_lst3, ↓o_lst4, ↓o_lst5, ↓o_lst6, ↓o_sum, ↓W_meth, ↓o_append, ↓o_extend, ↓o_popAt, ↓W_cut, ↓W_noPart, ↓W_part, ↓o_cutT, ↓o_cutR, ↓o_cutL, ↓W_isi, ↓W_ch, ↓WS_for, ↓WI_iter, ↓WI_range1, ↓WI_range2, ↓WI_range3, ↓WI_enum, ↓WI_zip2, ↓WI_zip3, ↓W_callK, ↓WS_f0, ↓WS_f1, ↓W_alloc, ↓W_ofL, ↓W_comp, ↓WB_yes, ↓W_c0, ↓W_cx1, ↓W_cg0, ↓W_cg1, ↓W_listRg, ↓W_tupRg, ↓W_rRange1, ↓W_rRange2, Option.isSome_some, z2_t, z3_t, perm_nil, perm_cons, List.getD_cons_zero, List.getD_cons_succ, o_intT, o_intF, o_intB, o_ixL, o_ixT, beq_self_eq_true, decide_true, decide_false, okEq, okCmp, okIn, D.fits, D.fitsL, D.dep, D.depL, D.eqv, D.eqvL, D.alike, D.alikeL, isBl_bl, isN_non, isN_bl, isN_int, isN_str, isN_tup, isN_rol, isN_loc, Nat.reduceAdd, Nat.reduceSub, Nat.max_self, Nat.min_self, Nat.max_zero, Nat.zero_max, Nat.min_zero, Nat.zero_min, ty_non, ty_bl, ty_int, ty_str, ty_tup, ty_rol, ty_loc, kb_bool_bool, kb_bool_int, kb_bool_str, kb_bool_tuple, kb_bool_list, kb_int_bool, kb_int_int, kb_int_str, kb_int_tuple, kb_int_list, kb_str_bool, kb_str_int, kb_str_str, kb_str_tuple, kb_str_list, kb_tuple_bool, kb_tuple_int, kb_tuple_str, kb_tuple_tuple, kb_tuple_list, kb_list_bool, kb_list_int, kb_list_str, kb_list_tuple, kb_list_list, kb_NoneType_bool, kb_NoneType_int, kb_NoneType_str, kb_NoneType_tuple, kb_NoneType_list, Nat.zero_add, c02, lstAt_setE, Option.map_some, lstAt_set_ne, ne_eq, Nat.reduceEqDiff, Nat.one_ne_zero, Nat.zero_ne_one, ix_1_0, ix_2_0, ix_2_1, ix_3_0, ix_3_1, ix_3_2, ix_4_0, ix_4_1, ix_4_2, ix_4_3, ix_5_0, ix_5_1, ix_5_2, ix_5_3, ix_5_4, ix_6_0, ix_6_1, ix_6_2, ix_6_3, ix_6_4, ix_6_5, Nat.reduceLeDiff, Int.reduceAdd, Int.reduceSub, Int.reduceMul, Int.reduceNeg, Int.reducePow, Int.reduceLT, Int.reduceLE, Int.reduceEq, Int.reduceToNat, Bool.and_true, Bool.true_and, Bool.and_self, Bool.and_false, Bool.false_and, Bool.and_eq_true, Bool.and_eq_false_imp, and_self, WS_qdn, WS_qdr, WS_qde, WS_qdb, WS_qdc, qn1, qn2, qn3, qn4, qn5, qk1, qk5, lq1, lq2, lq3, lq4, lq5, intD_int, items_tup, items_rol, items_loc, listOf_loc, listOf_rol, isL_loc, nd_non, nd_bl, nd_int, nd_str, nd_tup, nd_rol, noDct_loc, at0, at1, at2, at3, at4, at5, atl1, atl2, atl3, atl4, lstAt_new, lstAt_h0, lstAt_h1, lstAt_h2, lstAt_h3, it_tup, it_rol, kTup_eq, kLen_eq, wipe0, wipe1, b_nm, b_un, b_nil, b_cnm, b_cun, Option.bind_some, List.set_cons_zero, List.set_cons_succ, List.length_cons, List.length_nil, List.nil_append, List.cons_append, List.append_nil, List.isEmpty_cons, List.isEmpty_nil, true_and, and_true, false_and, and_false, true_implies, forall_const, not_true_eq_false, not_false_eq_true, implies_true, decide_eq_true_eq, decide_eq_false_iff_not, Bool.not_eq_true', Bool.not_eq_false', Bool.not_true, Bool.not_false, if_true, if_false, Bool.false_eq_true, Bool.true_eq_false, reduceCtorEq, false_implies, eq_self, l0, l1, l2, l3, it_loc (l3 _), List.length_singleton, sizeLine_eq, Nat.reducePow, Nat.reduceLT]
  have F2 := F1.ap (A2 [D.loc S1.length, D.loc (S1 ++ [Cell.lst [D.int low, D.int (low + 7), D.int (low + 3)]]).length, D.loc (S1 ++ [Cell.lst [D.int low, D.int (low + 7), D.int (low + 3)]] ++ [Cell.lst [D.int (low + 5), D.int low, D.int (low + 9)]]).length])
  have K2 := K1.trans (A2 [D.loc S1.length, D.loc (S1 ++ [Cell.lst [D.int low, D.int (low + 7), D.int (low + 3)]]).length, D.loc (S1 ++ [Cell.lst [D.int low, D.int (low + 7), D.int (low + 3)]] ++ [Cell.lst [D.int (low + 5), D.int low, D.int (low + 9)]]).length]).fk
  clear A2 l0 l1 l2 l3
  revert F2 K2
  generalize S1 ++ [Cell.lst [D.int low, D.int (low + 7), D.int (low + 3)]] ++ [Cell.lst [D.int (low + 5), D.int low, D.int (low + 9)]] ++ [Cell.lst [D.int (low + 2), D.int (low + 1), D.int (low + 4)]] ++
    [Cell.lst [D.loc S1.length, D.loc (S1 ++ [Cell.lst [D.int low, D.int (low + 7), D.int (low + 3)]]).length, D.loc (S1 ++ [Cell.lst [D.int low, D.int (low + 7), D.int (low + 3)]] ++ [Cell.lst [D.int (low + 5), D.int low, D.int (low + 9)]]).length]] = S2
  intro F2 K2
  generalize hts : ([[low, low + 5, low + 2], [low + 7, low, low + 1], [low + 3, low + 9, low + 4]] : List (List Int)) = ts
  generalize hls : ([(0, 0, 1), (2, 3, 1), (4, 4, 0), (0, 1, 2), (6, 6, 5)] : List Ln) = ls
  have hA : AllL 3 ts := by rw [← hts]; intro t ht; simp at ht; rcases ht with rfl | rfl | rfl <;> rfl
  have hO : LnsOk 3 ls := by rw [← hls]; simp [LnsOk]
  have hl3 : ts.length = 3 := by rw [← hts]; rfl
  have hl5 : ls.length = 5 := by rw [← hls]; rfl
  have em : midL [low, low + 5, low + 2] [low + 7, low, low + 1] [low + 3, low + 9, low + 4] = [low + 3, low + 5, low + 2] := by
    simp only [midL, midI, List.cons.injEq, and_true]
    omega
  have e7 : madeL ts ls 7 = [low + 3, low + 5, low + 2] := by
    rw [← hts, ← hls]
    show midL (midL [low, low + 5, low + 2] [low + 7, low, low + 1] [low + 3, low + 9, low + 4]) (midL [low, low + 5, low + 2] [low + 7, low, low + 1] [low + 3, low + 9, low + 4]) _ = _
    rw [em]
    exact midL_same1 rfl
  refine middle_w (as := [low, low + 5, low + 2]) (bs := [low + 7, low, low + 1]) (cs := [low + 3, low + 9, low + 4]) (by simp) fun S3 A3 => ?_
  rw [em]
  refine same_w (as := [low + 3, low + 5, low + 2]) (tt := tg) ?_
  simp only [↓reduceIte, ↓W_ok, ↓W_exn, ↓W_var0, ↓W_varS, ↓W_K, ↓W_bin, ↓W_un, ↓W_aNil, ↓W_aCons, ↓W_arg, ↓W_call, ↓W_of, ↓WB_test, ↓tc_bl, ↓WB_tru, ↓trc, ↓WB_and, ↓WB_or, ↓WB_not, ↓W_if, ↓W_andV, ↓W_orV, ↓W_notV, ↓WM_some, ↓WM_none, ↓WO_some, ↓tr_bl, ↓tr_non, ↓tr_int, ↓tr_tup, ↓tr_rol, ↓WS_nx, ↓WS_rt, ↓WS_ct, ↓WS_bk, ↓WS_exn, ↓WS_seq, ↓WS_nil, ↓WS_retN, ↓WS_break, ↓WS_cont, ↓WS_expr, ↓WS_ret, ↓WS_if, ↓WS_set, ↓WS_par, ↓WS_asg, ↓WS_gSet, ↓WS_gN, ↓WS_gC, ↓WS_gUn, ↓WS_gSub, ↓WS_aug, ↓o_add, ↓o_iadd, ↓o_sub, ↓o_neg, ↓o_mul, ↓o_mod, ↓o_div, ↓o_pow, ↓o_addT, ↓o_addS, ↓o_addL, ↓o_lt, ↓o_le, ↓o_gt, ↓o_ge, ↓o_eq, ↓o_ne, ↓o_eqS, ↓o_neS, ↓o_eqB, ↓o_neB, ↓o_eqT, ↓o_neT, ↓o_eqN, ↓o_neN, ↓o_ltT, ↓o_leT, ↓o_is, ↓o_isnot, ↓o_isB, ↓o_isnotB, ↓o_inT, ↓o_ninT, ↓o_inL, ↓o_ninL, ↓o_ixT, ↓o_ixR, ↓o_ixL, ↓o_rev, ↓o_ixS, ↓o_str, ↓o_strS, ↓o_set, ↓o_lenT, ↓o_lenR, ↓o_lenL, ↓o_lenS, ↓o_int, ↓o_intT, ↓o_intF, ↓o_abs, ↓o_max, ↓o_min, ↓o_tuple, ↓o_listXt, ↓o_listXr, ↓o_listXl, ↓o_listXs, ↓o_sortedXt, ↓o_tup0, ↓o_tup1, ↓o_tup2, ↓o_tup3, ↓o_tup4, ↓o_tup5, ↓o_tup6, ↓o_lst0, ↓o_lst1, ↓o_lst2, ↓o_lst3, ↓o_lst4, ↓o_lst5, ↓o_lst6, ↓o_sum, ↓W_meth, ↓o_append, ↓o_extend, ↓o_popAt, ↓W_cut, ↓W_noPart, ↓W_part, ↓o_cutT, ↓o_cutR, ↓o_cutL, ↓W_isi, ↓W_ch, ↓WS_for, ↓WI_iter, ↓WI_range1, ↓WI_range2, ↓WI_range3, ↓WI_enum, ↓WI_zip2, ↓WI_zip3, ↓W_callK, ↓WS_f0, ↓WS_f1, ↓W_alloc, ↓W_ofL, ↓W_comp, ↓WB_yes, ↓W_c0, ↓W_cx1, ↓W_cg0, ↓W_cg1, ↓W_listRg, ↓W_tupRg, ↓W_rRange1, ↓W_rRange2, Option.isSome_some, z2_t, z3_t, perm_nil, perm_cons, List.getD_cons_zero, List.getD_cons_succ, o_intT, o_intF, o_intB, o_ixL, o_ixT, beq_self_eq_true, decide_true, decide_false, okEq, okCmp, okIn, D.fits, D.fitsL, D.dep, D.depL, D.eqv, D.eqvL, D.alike, D.alikeL, isBl_bl, isN_non, isN_bl, isN_int, isN_str, isN_tup, isN_rol, isN_loc, Nat.reduceAdd, Nat.reduceSub, Nat.max_self, Nat.min_self, Nat.max_zero, Nat.zero_max, Nat.min_zero, Nat.zero_min, ty_non, ty_bl, ty_int, ty_str, ty_tup, ty_rol, ty_loc, kb_bool_bool, kb_bool_int, kb_bool_str, kb_bool_tuple, kb_bool_list, kb_int_bool, kb_int_int, kb_int_str, kb_int_tuple, kb_int_list, kb_str_bool, kb_str_int, kb_str_str, kb_str_tuple, kb_str_list, kb_tuple_bool, kb_tuple_int, kb_tuple_str, kb_tuple_tuple, kb_tuple_list, kb_list_bool, kb_list_int, kb_list_str, kb_list_tuple, kb_list_list, kb_NoneType_bool, kb_NoneType_int, kb_NoneType_str, kb_NoneType_tuple, kb_NoneType_list, Nat.zero_add, c02, lstAt_setE, Option.map_some, lstAt_set_ne, ne_eq, Nat.reduceEqDiff, Nat.one_ne_zero, Nat.zero_ne_one, ix_1_0, ix_2_0, ix_2_1, ix_3_0, ix_3_1, ix_3_2, ix_4_0, ix_4_1, ix_4_2, ix_4_3, ix_5_0, ix_5_1, ix_5_2, ix_5_3, ix_5_4, ix_6_0, ix_6_1, ix_6_2, ix_6_3, ix_6_4, ix_6_5, Nat.reduceLeDiff, Int.reduceAdd, Int.reduceSub, Int.reduceMul, Int.reduceNeg, Int.reducePow, Int.reduceLT, Int.reduceLE, Int.reduceEq, Int.reduceToNat, Bool.and_true, Bool.true_and, Bool.and_self, Bool.and_false, Bool.false_and, Bool.and_eq_true, Bool.and_eq_false_imp, and_self, WS_qdn, WS_qdr, WS_qde, WS_qdb, WS_qdc, qn1, qn2, qn3, qn4, qn5, qk1, qk5, lq1, lq2, lq3, lq4, lq5, intD_int, items_tup, items_rol, items_loc, listOf_loc, listOf_rol, isL_loc, nd_non, nd_bl, nd_int, nd_str, nd_tup, nd_rol, noDct_loc, at0, at1, at2, at3, at4, at5, atl1, atl2, atl3, atl4, lstAt_new, lstAt_h0, lstAt_h1, lstAt_h2, lstAt_h3, it_tup, it_rol, kTup_eq, kLen_eq, wipe0, wipe1, b_nm, b_un, b_nil, b_cnm, b_cun, Option.bind_some, List.set_cons_zero, List.set_cons_succ, List.length_cons, List.length_nil, List.nil_append, List.cons_append, List.append_nil, List.isEmpty_cons, List.isEmpty_nil, true_and, and_true, false_and, and_false, true_implies, forall_const, not_true_eq_false, not_false_eq_true, implies_true, decide_eq_true_eq, decide_eq_false_iff_not, Bool.not_eq_true', Bool.not_eq_false', Bool.not_true, Bool.not_false, if_true, if_false, Bool.false_eq_true, Bool.true_eq_false, reduceCtorEq, false_implies, eq_self]
  refine ⟨by decide, ?_⟩
  refine WS_rloop (fun i σ S' => FlowOk S' ∧ Fk 3 S S' ∧ ∃ l p r1 r2, σ = [some (.loc 2), some (.int low), some (.loc l), some (.tup (ts.map shD)), some (shD [low + 3, low + 5, low + 2]), some (.tup (ls.map lnD)), p, r1, r2]) ⟨F2.ap A3, K2.trans A3.fk, _, _, _, _, by rw [← hts, ← hls]; rfl⟩ ?_ ?_
  · rintro i σ S4 i0 i1 ⟨F4, K4, l, p, r1, r2, rfl⟩
    simp only [↓reduceIte, ↓W_ok, ↓W_exn, ↓W_var0, ↓W_varS, ↓W_K, ↓W_bin, ↓W_un, ↓W_aNil, ↓W_aCons, ↓W_arg, ↓W_call, ↓W_of, ↓WB_test, ↓tc_bl, ↓WB_tru, ↓trc, ↓WB_and, ↓WB_or, ↓WB_not, ↓W_if, ↓W_andV, ↓W_orV, ↓W_notV, ↓WM_some, ↓WM_none, ↓WO_some, ↓tr_bl, ↓tr_non, ↓tr_int, ↓tr_tup, ↓tr_rol, ↓WS_nx, ↓WS_rt, ↓WS_ct, ↓WS_bk, ↓WS_exn, ↓WS_seq, ↓WS_nil, ↓WS_retN, ↓WS_break, ↓WS_cont, ↓WS_expr, ↓WS_ret, ↓WS_if, ↓WS_set, ↓WS_par, ↓WS_asg, ↓WS_gSet, ↓WS_gN, ↓WS_gC, ↓WS_gUn, ↓WS_gSub, ↓WS_aug, ↓o_add, ↓o_iadd, ↓o_sub, ↓o_neg, ↓o_mul, ↓o_mod, ↓o_div, ↓o_pow, ↓o_addT, ↓o_addS, ↓o_addL, ↓o_lt, ↓o_le, ↓o_gt, ↓o_ge, ↓o_eq, ↓o_ne, ↓o_eqS, ↓o_neS, ↓o_eqB, ↓o_neB, ↓o_eqT, ↓o_neT, ↓o_eqN, ↓o_neN, ↓o_ltT, ↓o_leT, ↓o_is, ↓o_isnot, ↓o_isB, ↓o_isnotB, ↓o_inT, ↓o_ninT, ↓o_inL, ↓o_ninL, ↓o_ixT, ↓o_ixR, ↓o_ixL, ↓o_rev, ↓o_ixS, ↓o_str, ↓o_strS, ↓o_set, ↓o_lenT, ↓o_lenR, ↓o_lenL, ↓o_lenS, ↓o_int, ↓o_intT, ↓o_intF, ↓o_abs, ↓o_max, ↓o_min, ↓o_tuple, ↓o_listXt, ↓o_listXr, ↓o_listXl, ↓o_listXs, ↓o_sortedXt, ↓o_tup0, ↓o_tup1, ↓o_tup2, ↓o_tup3, ↓o_tup4, ↓o_tup5, ↓o_tup6, ↓o_lst0, ↓o_lst1, ↓o_lst2, ↓o_lst3, ↓o_lst4, ↓o_lst5, ↓o_lst6, ↓o_sum, ↓W_meth, ↓o_append, ↓o_extend, ↓o_popAt, ↓W_cut, ↓W_noPart, ↓W_part, ↓o_cutT, ↓o_cutR, ↓o_cutL, ↓W_isi, ↓W_ch, ↓WS_for, ↓WI_iter, ↓WI_range1, ↓WI_range2, ↓WI_range3, ↓WI_enum, ↓WI_zip2, ↓WI_zip3, ↓W_callK, ↓WS_f0, ↓WS_f1, ↓W_alloc, ↓W_ofL, ↓W_comp, ↓WB_yes, ↓W_c0, ↓W_cx1, ↓W_cg0, ↓W_cg1, ↓W_listRg, ↓W_tupRg, ↓W_rRange1, ↓W_rRange2, Option.isSome_some, z2_t, z3_t, perm_nil, perm_cons, List.getD_cons_zero, List.getD_cons_succ, o_intT, o_intF, o_intB, o_ixL, o_ixT, beq_self_eq_true, decide_true, decide_false, okEq, okCmp, okIn, D.fits, D.fitsL, D.dep, D.depL, D.eqv, D.eqvL, D.alike, D.alikeL, isBl_bl, isN_non, isN_bl, isN_int, isN_str, isN_tup, isN_rol, isN_loc, Nat.reduceAdd, Nat.reduceSub, Nat.max_self, Nat.min_self, Nat.max_zero, Nat.zero_max, Nat.min_zero, Nat.zero_min, ty_non, ty_bl, ty_int, ty_str, ty_tup, ty_rol, ty_loc, kb_bool_bool, kb_bool_int, kb_bool_str, kb_bool_tuple, kb_bool_list, kb_int_bool, kb_int_int, kb_int_str, kb_int_tuple, kb_int_list, kb_str_bool, kb_str_int, kb_str_str, kb_str_tuple, kb_str_list, kb_tuple_bool, kb_tuple_int, kb_tuple_str, kb_tuple_tuple, kb_tuple_list, kb_list_bool, kb_list_int, kb_list_str, kb_list_tuple, kb_list_list, kb_NoneType_bool, kb_NoneType_int, kb_NoneType_str, kb_NoneType_tuple, kb_NoneType_list, Nat.zero_add, c02, lstAt_setE, Option.map_some, lstAt_set_ne, ne_eq, Nat.reduceEqDiff, Nat.one_ne_zero, Nat.zero_ne_one, ix_1_0, ix_2_0, ix_2_1, ix_3_0, ix_3_1, ix_3_2, ix_4_0, ix_4_1, ix_4_2, ix_4_3, ix_5_0, ix_5_1, ix_5_2, ix_5_3, ix_5_4, ix_6_0, ix_6_1, ix_6_2, ix_6_3, ix_6_4, ix_6_5, Nat.reduceLeDiff, Int.reduceAdd, Int.reduceSub, Int.reduceMul, Int.reduceNeg, Int.reducePow, Int.reduceLT, Int.reduceLE, Int.reduceEq, Int.reduceToNat, Bool.and_true, Bool.true_and, Bool.and_self, Bool.and_false, Bool.false_and, Bool.and_eq_true, Bool.and_eq_false_imp, and_self, WS_qdn, WS_qdr, WS_qde, WS_qdb, WS_qdc, qn1, qn2, qn3, qn4, qn5, qk1, qk5, lq1, lq2, lq3, lq4, lq5, intD_int, items_tup, items_rol, items_loc, listOf_loc, listOf_rol, isL_loc, nd_non, nd_bl, nd_int, nd_str, nd_tup, nd_rol, noDct_loc, at0, at1, at2, at3, at4, at5, atl1, atl2, atl3, atl4, lstAt_new, lstAt_h0, lstAt_h1, lstAt_h2, lstAt_h3, it_tup, it_rol, kTup_eq, kLen_eq, wipe0, wipe1, b_nm, b_un, b_nil, b_cnm, b_cun, Option.bind_some, List.set_cons_zero, List.set_cons_succ, List.length_cons, List.length_nil, List.nil_append, List.cons_append, List.append_nil, List.isEmpty_cons, List.isEmpty_nil, true_and, and_true, false_and, and_false, true_implies, forall_const, not_true_eq_false, not_false_eq_true, implies_true, decide_eq_true_eq, decide_eq_false_iff_not, Bool.not_eq_true', Bool.not_eq_false', Bool.not_true, Bool.not_false, if_true, if_false, Bool.false_eq_true, Bool.true_eq_false, reduceCtorEq, false_implies, eq_self]
    refine made_w (n := 3) (by decide) hA (by rw [hl3]; exact hO) (by omega) i0 (by omega) fun S5 A5 => ?_
    simp only [↓reduceIte, ↓W_ok, ↓W_exn, ↓W_var0, ↓W_varS, ↓W_K, ↓W_bin, ↓W_un, ↓W_aNil, ↓W_aCons, ↓W_arg, ↓W_call, ↓W_of, ↓WB_test, ↓tc_bl, ↓WB_tru, ↓trc, ↓WB_and, ↓WB_or, ↓WB_not, ↓W_if, ↓W_andV, ↓W_orV, ↓W_notV, ↓WM_some, ↓WM_none, ↓WO_some, ↓tr_bl, ↓tr_non, ↓tr_int, ↓tr_tup, ↓tr_rol, ↓WS_nx, ↓WS_rt, ↓WS_ct, ↓WS_bk, ↓WS_exn, ↓WS_seq, ↓WS_nil, ↓WS_retN, ↓WS_break, ↓WS_cont, ↓WS_expr, ↓WS_ret, ↓WS_if, ↓WS_set, ↓WS_par, ↓WS_asg, ↓WS_gSet, ↓WS_gN, ↓WS_gC, ↓WS_gUn, ↓WS_gSub, ↓WS_aug, ↓o_add, ↓o_iadd, ↓o_sub, ↓o_neg, ↓o_mul, ↓o_mod, ↓o_div, ↓o_pow, ↓o_addT, ↓o_addS, ↓o_addL, ↓o_lt, ↓o_le, ↓o_gt, ↓o_ge, ↓o_eq, ↓o_ne, ↓o_eqS, ↓o_neS, ↓o_eqB, ↓o_neB, ↓o_eqT, ↓o_neT, ↓o_eqN, ↓o_neN, ↓o_ltT, ↓o_leT, ↓o_is, ↓o_isnot, ↓o_isB, ↓o_isnotB, ↓o_inT, ↓o_ninT, ↓o_inL, ↓o_ninL, ↓o_ixT, ↓o_ixR, ↓o_ixL, ↓o_rev, ↓o_ixS, ↓o_str, ↓o_strS, ↓o_set, ↓o_lenT, ↓o_lenR, ↓o_lenL, ↓o_lenS, ↓o_int, ↓o_intT, ↓o_intF, ↓o_abs, ↓o_max, ↓o_min, ↓o_tuple, ↓o_listXt, ↓o_listXr, ↓o_listXl, ↓o_listXs, ↓o_sortedXt, ↓o_tup0, ↓o_tup1, ↓o_tup2, ↓o_tup3, ↓o_tup4, ↓o_tup5, ↓o_tup6, ↓o_lst0, ↓o_lst1, ↓o_lst2, ↓o_lst3, ↓o_lst4, ↓o_lst5, ↓o_lst6, ↓o_sum, ↓W_meth, ↓o_append, ↓o_extend, ↓o_popAt, ↓W_cut, ↓W_noPart, ↓W_part, ↓o_cutT, ↓o_cutR, ↓o_cutL, ↓W_isi, ↓W_ch, ↓WS_for, ↓WI_iter, ↓WI_range1, ↓WI_range2, ↓WI_range3, ↓WI_enum, ↓WI_zip2, ↓WI_zip3, ↓W_callK, ↓WS_f0, ↓WS_f1, ↓W_alloc, ↓W_ofL, ↓W_comp, ↓WB_yes, ↓W_c0, ↓W_cx1, ↓W_cg0, ↓W_cg1, ↓W_listRg, ↓W_tupRg, ↓W_rRange1, ↓W_rRange2, Option.isSome_some, z2_t, z3_t, perm_nil, perm_cons, List.getD_cons_zero, List.getD_cons_succ, o_intT, o_intF, o_intB, o_ixL, o_ixT, beq_self_eq_true, decide_true, decide_false, okEq, okCmp, okIn, D.fits, D.fitsL, D.dep, D.depL, D.eqv, D.eqvL, D.alike, D.alikeL, isBl_bl, isN_non, isN_bl, isN_int, isN_str, isN_tup, isN_rol, isN_loc, Nat.reduceAdd, Nat.reduceSub, Nat.max_self, Nat.min_self, Nat.max_zero, Nat.zero_max, Nat.min_zero, Nat.zero_min, ty_non, ty_bl, ty_int, ty_str, ty_tup, ty_rol, ty_loc, kb_bool_bool, kb_bool_int, kb_bool_str, kb_bool_tuple, kb_bool_list, kb_int_bool, kb_int_int, kb_int_str, kb_int_tuple, kb_int_list, kb_str_bool, kb_str_int, kb_str_str, kb_str_tuple, kb_str_list, kb_tuple_bool, kb_tuple_int, kb_tuple_str, kb_tuple_tuple, kb_tuple_list, kb_list_bool, kb_list_int, kb_list_str, kb_list_tuple, kb_list_list, kb_NoneType_bool, kb_NoneType_int, kb_NoneType_str, kb_NoneType_tuple, kb_NoneType_list, Nat.zero_add, c02, lstAt_setE, Option.map_some, lstAt_set_ne, ne_eq, Nat.reduceEqDiff, Nat.one_ne_zero, Nat.zero_ne_one, ix_1_0, ix_2_0, ix_2_1, ix_3_0, ix_3_1, ix_3_2, ix_4_0, ix_4_1, ix_4_2, ix_4_3, ix_5_0, ix_5_1, ix_5_2, ix_5_3, ix_5_4, ix_6_0, ix_6_1, ix_6_2, ix_6_3, ix_6_4, ix_6_5, Nat.reduceLeDiff, Int.reduceAdd, Int.reduceSub, Int.reduceMul, Int.reduceNeg, Int.reducePow, Int.reduceLT, Int.reduceLE, Int.reduceEq, Int.reduceToNat, Bool.and_true, Bool.true_and, Bool.and_self, Bool.and_false, Bool.false_and, Bool.and_eq_true, Bool.and_eq_false_imp, and_self, WS_qdn, WS_qdr, WS_qde, WS_qdb, WS_qdc, qn1, qn2, qn3, qn4, qn5, qk1, qk5, lq1, lq2, lq3, lq4, lq5, intD_int, items_tup, items_rol, items_loc, listOf_loc, listOf_rol, isL_loc, nd_non, nd_bl, nd_int, nd_str, nd_tup, nd_rol, noDct_loc, at0, at1, at2, at3, at4, at5, atl1, atl2, atl3, atl4, lstAt_new, lstAt_h0, lstAt_h1, lstAt_h2, lstAt_h3, it_tup, it_rol, kTup_eq, kLen_eq, wipe0, wipe1, b_nm, b_un, b_nil, b_cnm, b_cun, Option.bind_some, List.set_cons_zero, List.set_cons_succ, List.length_cons, List.length_nil, List.nil_append, List.cons_append, List.append_nil, List.isEmpty_cons, List.isEmpty_nil, true_and, and_true, false_and, and_false, true_implies, forall_const, not_true_eq_false, not_false_eq_true, implies_true, decide_eq_true_eq, decide_eq_false_iff_not, Bool.not_eq_true', Bool.not_eq_false', Bool.not_true, Bool.not_false, if_true, if_false, Bool.false_eq_true, Bool.true_eq_false, reduceCtorEq, false_implies, eq_self]
    refine made_l (n := 3) (by decide) hA (by rw [hl3]; exact hO) (by omega) i0 (by omega) fun S6 A6 => ?_
    refine same_w (tt := tg) ?_
    simp only [↓reduceIte, ↓W_ok, ↓W_exn, ↓W_var0, ↓W_varS, ↓W_K, ↓W_bin, ↓W_un, ↓W_aNil, ↓W_aCons, ↓W_arg, ↓W_call, ↓W_of, ↓WB_test, ↓tc_bl, ↓WB_tru, ↓trc, ↓WB_and, ↓WB_or, ↓WB_not, ↓W_if, ↓W_andV, ↓W_orV, ↓W_notV, ↓WM_some, ↓WM_none, ↓WO_some, ↓tr_bl, ↓tr_non, ↓tr_int, ↓tr_tup, ↓tr_rol, ↓WS_nx, ↓WS_rt, ↓WS_ct, ↓WS_bk, ↓WS_exn, ↓WS_seq, ↓WS_nil, ↓WS_retN, ↓WS_break, ↓WS_cont, ↓WS_expr, ↓WS_ret, ↓WS_if, ↓WS_set, ↓WS_par, ↓WS_asg, ↓WS_gSet, ↓WS_gN, ↓WS_gC, ↓WS_gUn, ↓WS_gSub, ↓WS_aug, ↓o_add, ↓o_iadd, ↓o_sub, ↓o_neg, ↓o_mul, ↓o_mod, ↓o_div, ↓o_pow, ↓o_addT, ↓o_addS, ↓o_addL, ↓o_lt, ↓o_le, ↓o_gt, ↓o_ge, ↓o_eq, ↓o_ne, ↓o_eqS, ↓o_neS, ↓o_eqB, ↓o_neB, ↓o_eqT, ↓o_neT, ↓o_eqN, ↓o_neN, ↓o_ltT, ↓o_leT, ↓o_is, ↓o_isnot, ↓o_isB, ↓o_isnotB, ↓o_inT, ↓o_ninT, ↓o_inL, ↓o_ninL, ↓o_ixT, ↓o_ixR, ↓o_ixL, ↓o_rev, ↓o_ixS, ↓o_str, ↓o_strS, ↓o_set, ↓o_lenT, ↓o_lenR, ↓o_lenL, ↓o_lenS, ↓o_int, ↓o_intT, ↓o_intF, ↓o_abs, ↓o_max, ↓o_min, ↓o_tuple, ↓o_listXt, ↓o_listXr, ↓o_listXl, ↓o_listXs, ↓o_sortedXt, ↓o_tup0, ↓o_tup1, ↓o_tup2, ↓o_tup3, ↓o_tup4, ↓o_tup5, ↓o_tup6, ↓o_lst0, ↓o_lst1, ↓o_lst2, ↓o_lst3, ↓o_lst4, ↓o_lst5, ↓o_lst6, ↓o_sum, ↓W_meth, ↓o_append, ↓o_extend, ↓o_popAt, ↓W_cut, ↓W_noPart, ↓W_part, ↓o_cutT, ↓o_cutR, ↓o_cutL, ↓W_isi, ↓W_ch, ↓WS_for, ↓WI_iter, ↓WI_range1, ↓WI_range2, ↓WI_range3, ↓WI_enum, ↓WI_zip2, ↓WI_zip3, ↓W_callK, ↓WS_f0, ↓WS_f1, ↓W_alloc, ↓W_ofL, ↓W_comp, ↓WB_yes, ↓W_c0, ↓W_cx1, ↓W_cg0, ↓W_cg1, ↓W_listRg, ↓W_tupRg, ↓W_rRange1, ↓W_rRange2, Option.isSome_some, z2_t, z3_t, perm_nil, perm_cons, List.getD_cons_zero, List.getD_cons_succ, o_intT, o_intF, o_intB, o_ixL, o_ixT, beq_self_eq_true, decide_true, decide_false, okEq, okCmp, okIn, D.fits, D.fitsL, D.dep, D.depL, D.eqv, D.eqvL, D.alike, D.alikeL, isBl_bl, isN_non, isN_bl, isN_int, isN_str, isN_tup, isN_rol, isN_loc, Nat.reduceAdd, Nat.reduceSub, Nat.max_self, Nat.min_self, Nat.max_zero, Nat.zero_max, Nat.min_zero, Nat.zero_min, ty_non, ty_bl, ty_int, ty_str, ty_tup, ty_rol, ty_loc, kb_bool_bool, kb_bool_int, kb_bool_str, kb_bool_tuple, kb_bool_list, kb_int_bool, kb_int_int, kb_int_str, kb_int_tuple, kb_int_list, kb_str_bool, kb_str_int, kb_str_str, kb_str_tuple, kb_str_list, kb_tuple_bool, kb_tuple_int, kb_tuple_str, kb_tuple_tuple, kb_tuple_list, kb_list_bool, kb_list_int, kb_list_str, kb_list_tuple, kb_list_list, kb_NoneType_bool, kb_NoneType_int, kb_NoneType_str, kb_NoneType_tuple, kb_NoneType_list, Nat.zero_add, c02, lstAt_setE, Option.map_some, lstAt_set_ne, ne_eq, Nat.reduceEqDiff, Nat.one_ne_zero, Nat.zero_ne_one, ix_1_0, ix_2_0, ix_2_1, ix_3_0, ix_3_1, ix_3_2, ix_4_0, ix_4_1, ix_4_2, ix_4_3, ix_5_0, ix_5_1, ix_5_2, ix_5_3, ix_5_4, ix_6_0, ix_6_1, ix_6_2, ix_6_3, ix_6_4, ix_6_5, Nat.reduceLeDiff, Int.reduceAdd, Int.reduceSub, Int.reduceMul, Int.reduceNeg, Int.reducePow, Int.reduceLT, Int.reduceLE, Int.reduceEq, Int.reduceToNat, Bool.and_true, Bool.true_and, Bool.and_self, Bool.and_false, Bool.false_and, Bool.and_eq_true, Bool.and_eq_false_imp, and_self, WS_qdn, WS_qdr, WS_qde, WS_qdb, WS_qdc, qn1, qn2, qn3, qn4, qn5, qk1, qk5, lq1, lq2, lq3, lq4, lq5, intD_int, items_tup, items_rol, items_loc, listOf_loc, listOf_rol, isL_loc, nd_non, nd_bl, nd_int, nd_str, nd_tup, nd_rol, noDct_loc, at0, at1, at2, at3, at4, at5, atl1, atl2, atl3, atl4, lstAt_new, lstAt_h0, lstAt_h1, lstAt_h2, lstAt_h3, it_tup, it_rol, kTup_eq, kLen_eq, wipe0, wipe1, b_nm, b_un, b_nil, b_cnm, b_cun, Option.bind_some, List.set_cons_zero, List.set_cons_succ, List.length_cons, List.length_nil, List.nil_append, List.cons_append, List.append_nil, List.isEmpty_cons, List.isEmpty_nil, true_and, and_true, false_and, and_false, true_implies, forall_const, not_true_eq_false, not_false_eq_true, implies_true, decide_eq_true_eq, decide_eq_false_iff_not, Bool.not_eq_true', Bool.not_eq_false', Bool.not_true, Bool.not_false, if_true, if_false, Bool.false_eq_true, Bool.true_eq_false, reduceCtorEq, false_implies, eq_self]
    exact ⟨F4.ap (A5.trans A6), K4.trans (A5.trans A6).fk, _, _, _, _, rfl⟩
  · rintro σ S4 ⟨F4, K4, l, p, r1, r2, rfl⟩
    simp only [↓reduceIte, ↓W_ok, ↓W_exn, ↓W_var0, ↓W_varS, ↓W_K, ↓W_bin, ↓W_un, ↓W_aNil, ↓W_aCons, ↓W_arg, ↓W_call, ↓W_of, ↓WB_test, ↓tc_bl, ↓WB_tru, ↓trc, ↓WB_and, ↓WB_or, ↓WB_not, ↓W_if, ↓W_andV, ↓W_orV, ↓W_notV, ↓WM_some, ↓WM_none, ↓WO_some, ↓tr_bl, ↓tr_non, ↓tr_int, ↓tr_tup, ↓tr_rol, ↓WS_nx, ↓WS_rt, ↓WS_ct, ↓WS_bk, ↓WS_exn, ↓WS_seq, ↓WS_nil, ↓WS_retN, ↓WS_break, ↓WS_cont, ↓WS_expr, ↓WS_ret, ↓WS_if, ↓WS_set, ↓WS_par, ↓WS_asg, ↓WS_gSet, ↓WS_gN, ↓WS_gC, ↓WS_gUn, ↓WS_gSub, ↓WS_aug, ↓o_add, ↓o_iadd, ↓o_sub, ↓o_neg, ↓o_mul, ↓o_mod, ↓o_div, ↓o_pow, ↓o_addT, ↓o_addS, ↓o_addL, ↓o_lt, ↓o_le, ↓o_gt, ↓o_ge, ↓o_eq, ↓o_ne, ↓o_eqS, ↓o_neS, ↓o_eqB, ↓o_neB, ↓o_eqT, ↓o_neT, ↓o_eqN, ↓o_neN, ↓o_ltT, ↓o_leT, ↓o_is, ↓o_isnot, ↓o_isB, ↓o_isnotB, ↓o_inT, ↓o_ninT, ↓o_inL, ↓o_ninL, ↓o_ixT, ↓o_ixR, ↓o_ixL, ↓o_rev, ↓o_ixS, ↓o_str, ↓o_strS, ↓o_set, ↓o_lenT, ↓o_lenR, ↓o_lenL, ↓o_lenS, ↓o_int, ↓o_intT, ↓o_intF, ↓o_abs, ↓o_max, ↓o_min, ↓o_tuple, ↓o_listXt, ↓o_listXr, ↓o_listXl, ↓o_listXs, ↓o_sortedXt, ↓o_tup0, ↓o_tup1, ↓o_tup2, ↓o_tup3, ↓o_tup4, ↓o_tup5, ↓o_tup6, ↓o_lst0, ↓o_lst1, ↓o_lst2, ↓o_lst3, ↓o_lst4, ↓o_lst5, ↓o_lst6, ↓o_sum, ↓W_meth, ↓o_append, ↓o_extend, ↓o_popAt, ↓W_cut, ↓W_noPart, ↓W_part, ↓o_cutT, ↓o_cutR, ↓o_cutL, ↓W_isi, ↓W_ch, ↓WS_for, ↓WI_iter, ↓WI_range1, ↓WI_range2, ↓WI_range3, ↓WI_enum, ↓WI_zip2, ↓WI_zip3, ↓W_callK, ↓WS_f0, ↓WS_f1, ↓W_alloc, ↓W_ofL, ↓W_comp, ↓WB_yes, ↓W_c0, ↓W_cx1, ↓W_cg0, ↓W_cg1, ↓W_listRg, ↓W_tupRg, ↓W_rRange1, ↓W_rRange2, Option.isSome_some, z2_t, z3_t, perm_nil, perm_cons, List.getD_cons_zero, List.getD_cons_succ, o_intT, o_intF, o_intB, o_ixL, o_ixT, beq_self_eq_true, decide_true, decide_false, okEq, okCmp, okIn, D.fits, D.fitsL, D.dep, D.depL, D.eqv, D.eqvL, D.alike, D.alikeL, isBl_bl, isN_non, isN_bl, isN_int, isN_str, isN_tup, isN_rol, isN_loc, Nat.reduceAdd, Nat.reduceSub, Nat.max_self, Nat.min_self, Nat.max_zero, Nat.zero_max, Nat.min_zero, Nat.zero_min, ty_non, ty_bl, ty_int, ty_str, ty_tup, ty_rol, ty_loc, kb_bool_bool, kb_bool_int, kb_bool_str, kb_bool_tuple, kb_bool_list, kb_int_bool, kb_int_int, kb_int_str, kb_int_tuple, kb_int_list, kb_str_bool, kb_str_int, kb_str_str, kb_str_tuple, kb_str_list, kb_tuple_bool, kb_tuple_int, kb_tuple_str, kb_tuple_tuple, kb_tuple_list, kb_list_bool, kb_list_int, kb_list_str, kb_list_tuple, kb_list_list, kb_NoneType_bool, kb_NoneType_int, kb_NoneType_str, kb_NoneType_tuple, kb_NoneType_list, Nat.zero_add, c02, lstAt_setE, Option.map_some, lstAt_set_ne, ne_eq, Nat.reduceEqDiff, Nat.one_ne_zero, Nat.zero_ne_one, ix_1_0, ix_2_0, ix_2_1, ix_3_0, ix_3_1, ix_3_2, ix_4_0, ix_4_1, ix_4_2, ix_4_3, ix_5_0, ix_5_1, ix_5_2, ix_5_3, ix_5_4, ix_6_0, ix_6_1, ix_6_2, ix_6_3, ix_6_4, ix_6_5, Nat.reduceLeDiff, Int.reduceAdd, Int.reduceSub, Int.reduceMul, Int.reduceNeg, Int.reducePow, Int.reduceLT, Int.reduceLE, Int.reduceEq, Int.reduceToNat, Bool.and_true, Bool.true_and, Bool.and_self, Bool.and_false, Bool.false_and, Bool.and_eq_true, Bool.and_eq_false_imp, and_self, WS_qdn, WS_qdr, WS_qde, WS_qdb, WS_qdc, qn1, qn2, qn3, qn4, qn5, qk1, qk5, lq1, lq2, lq3, lq4, lq5, intD_int, items_tup, items_rol, items_loc, listOf_loc, listOf_rol, isL_loc, nd_non, nd_bl, nd_int, nd_str, nd_tup, nd_rol, noDct_loc, at0, at1, at2, at3, at4, at5, atl1, atl2, atl3, atl4, lstAt_new, lstAt_h0, lstAt_h1, lstAt_h2, lstAt_h3, it_tup, it_rol, kTup_eq, kLen_eq, wipe0, wipe1, b_nm, b_un, b_nil, b_cnm, b_cun, Option.bind_some, List.set_cons_zero, List.set_cons_succ, List.length_cons, List.length_nil, List.nil_append, List.cons_append, List.append_nil, List.isEmpty_cons, List.isEmpty_nil, true_and, and_true, false_and, and_false, true_implies, forall_const, not_true_eq_false, not_false_eq_true, implies_true, decide_eq_true_eq, decide_eq_false_iff_not, Bool.not_eq_true', Bool.not_eq_false', Bool.not_true, Bool.not_false, if_true, if_false, Bool.false_eq_true, Bool.true_eq_false, reduceCtorEq, false_implies, eq_self]
    have ec : cutD (ts.map shD) none (some 1) = [[low, low + 5, low + 2]].map shD := by rw [← hts, cut_take (by decide)]; rfl
    rw [ec]
    refine made_w (n := 3) (ls := []) (by decide) (fun t ht => by rw [List.mem_singleton.mp ht]; rfl) trivial (by simp) (by decide) (by simp) fun S5 A5 => ?_
    have e0 : atI (ts.map shD) 0 = some (shD [low, low + 5, low + 2]) := by rw [← hts]; rfl
    simp only [↓reduceIte, ↓W_ok, ↓W_exn, ↓W_var0, ↓W_varS, ↓W_K, ↓W_bin, ↓W_un, ↓W_aNil, ↓W_aCons, ↓W_arg, ↓W_call, ↓W_of, ↓WB_test, ↓tc_bl, ↓WB_tru, ↓trc, ↓WB_and, ↓WB_or, ↓WB_not, ↓W_if, ↓W_andV, ↓W_orV, ↓W_notV, ↓WM_some, ↓WM_none, ↓WO_some, ↓tr_bl, ↓tr_non, ↓tr_int, ↓tr_tup, ↓tr_rol, ↓WS_nx, ↓WS_rt, ↓WS_ct, ↓WS_bk, ↓WS_exn, ↓WS_seq, ↓WS_nil, ↓WS_retN, ↓WS_break, ↓WS_cont, ↓WS_expr, ↓WS_ret, ↓WS_if, ↓WS_set, ↓WS_par, ↓WS_asg, ↓WS_gSet, ↓WS_gN, ↓WS_gC, ↓WS_gUn, ↓WS_gSub, ↓WS_aug, ↓o_add, ↓o_iadd, ↓o_sub, ↓o_neg, ↓o_mul, ↓o_mod, ↓o_div, ↓o_pow, ↓o_addT, ↓o_addS, ↓o_addL, ↓o_lt, ↓o_le, ↓o_gt, ↓o_ge, ↓o_eq, ↓o_ne, ↓o_eqS, ↓o_neS, ↓o_eqB, ↓o_neB, ↓o_eqT, ↓o_neT, ↓o_eqN, ↓o_neN, ↓o_ltT, ↓o_leT, ↓o_is, ↓o_isnot, ↓o_isB, ↓o_isnotB, ↓o_inT, ↓o_ninT, ↓o_inL, ↓o_ninL, ↓o_ixT, ↓o_ixR, ↓o_ixL, ↓o_rev, ↓o_ixS, ↓o_str, ↓o_strS, ↓o_set, ↓o_lenT, ↓o_lenR, ↓o_lenL, ↓o_lenS, ↓o_int, ↓o_intT, ↓o_intF, ↓o_abs, ↓o_max, ↓o_min, ↓o_tuple, ↓o_listXt, ↓o_listXr, ↓o_listXl, ↓o_listXs, ↓o_sortedXt, ↓o_tup0, ↓o_tup1, ↓o_tup2, ↓o_tup3, ↓o_tup4, ↓o_tup5, ↓o_tup6, ↓o_lst0, ↓o_lst1, ↓o_lst2, ↓o_lst3, ↓o_lst4, ↓o_lst5, ↓o_lst6, ↓o_sum, ↓W_meth, ↓o_append, ↓o_extend, ↓o_popAt, ↓W_cut, ↓W_noPart, ↓W_part, ↓o_cutT, ↓o_cutR, ↓o_cutL, ↓W_isi, ↓W_ch, ↓WS_for, ↓WI_iter, ↓WI_range1, ↓WI_range2, ↓WI_range3, ↓WI_enum, ↓WI_zip2, ↓WI_zip3, ↓W_callK, ↓WS_f0, ↓WS_f1, ↓W_alloc, ↓W_ofL, ↓W_comp, ↓WB_yes, ↓W_c0, ↓W_cx1, ↓W_cg0, ↓W_cg1, ↓W_listRg, ↓W_tupRg, ↓W_rRange1, ↓W_rRange2, Option.isSome_some, z2_t, z3_t, perm_nil, perm_cons, List.getD_cons_zero, List.getD_cons_succ, o_intT, o_intF, o_intB, o_ixL, o_ixT, beq_self_eq_true, decide_true, decide_false, okEq, okCmp, okIn, D.fits, D.fitsL, D.dep, D.depL, D.eqv, D.eqvL, D.alike, D.alikeL, isBl_bl, isN_non, isN_bl, isN_int, isN_str, isN_tup, isN_rol, isN_loc, Nat.reduceAdd, Nat.reduceSub, Nat.max_self, Nat.min_self, Nat.max_zero, Nat.zero_max, Nat.min_zero, Nat.zero_min, ty_non, ty_bl, ty_int, ty_str, ty_tup, ty_rol, ty_loc, kb_bool_bool, kb_bool_int, kb_bool_str, kb_bool_tuple, kb_bool_list, kb_int_bool, kb_int_int, kb_int_str, kb_int_tuple, kb_int_list, kb_str_bool, kb_str_int, kb_str_str, kb_str_tuple, kb_str_list, kb_tuple_bool, kb_tuple_int, kb_tuple_str, kb_tuple_tuple, kb_tuple_list, kb_list_bool, kb_list_int, kb_list_str, kb_list_tuple, kb_list_list, kb_NoneType_bool, kb_NoneType_int, kb_NoneType_str, kb_NoneType_tuple, kb_NoneType_list, Nat.zero_add, c02, lstAt_setE, Option.map_some, lstAt_set_ne, ne_eq, Nat.reduceEqDiff, Nat.one_ne_zero, Nat.zero_ne_one, ix_1_0, ix_2_0, ix_2_1, ix_3_0, ix_3_1, ix_3_2, ix_4_0, ix_4_1, ix_4_2, ix_4_3, ix_5_0, ix_5_1, ix_5_2, ix_5_3, ix_5_4, ix_6_0, ix_6_1, ix_6_2, ix_6_3, ix_6_4, ix_6_5, Nat.reduceLeDiff, Int.reduceAdd, Int.reduceSub, Int.reduceMul, Int.reduceNeg, Int.reducePow, Int.reduceLT, Int.reduceLE, Int.reduceEq, Int.reduceToNat, Bool.and_true, Bool.true_and, Bool.and_self, Bool.and_false, Bool.false_and, Bool.and_eq_true, Bool.and_eq_false_imp, and_self, WS_qdn, WS_qdr, WS_qde, WS_qdb, WS_qdc, qn1, qn2, qn3, qn4, qn5, qk1, qk5, lq1, lq2, lq3, lq4, lq5, intD_int, items_tup, items_rol, items_loc, listOf_loc, listOf_rol, isL_loc, nd_non, nd_bl, nd_int, nd_str, nd_tup, nd_rol, noDct_loc, at0, at1, at2, at3, at4, at5, atl1, atl2, atl3, atl4, lstAt_new, lstAt_h0, lstAt_h1, lstAt_h2, lstAt_h3, it_tup, it_rol, kTup_eq, kLen_eq, wipe0, wipe1, b_nm, b_un, b_nil, b_cnm, b_cun, Option.bind_some, List.set_cons_zero, List.set_cons_succ, List.length_cons, List.length_nil, List.nil_append, List.cons_append, List.append_nil, List.isEmpty_cons, List.isEmpty_nil, true_and, and_true, false_and, and_false, true_implies, forall_const, not_true_eq_false, not_false_eq_true, implies_true, decide_eq_true_eq, decide_eq_false_iff_not, Bool.not_eq_true', Bool.not_eq_false', Bool.not_true, Bool.not_false, if_true, if_false, Bool.false_eq_true, Bool.true_eq_false, reduceCtorEq, false_implies, eq_self, e0]
    refine same_w (as := [low, low + 5, low + 2]) (tt := tg) ?_
    simp only [↓reduceIte, ↓W_ok, ↓W_exn, ↓W_var0, ↓W_varS, ↓W_K, ↓W_bin, ↓W_un, ↓W_aNil, ↓W_aCons, ↓W_arg, ↓W_call, ↓W_of, ↓WB_test, ↓tc_bl, ↓WB_tru, ↓trc, ↓WB_and, ↓WB_or, ↓WB_not, ↓W_if, ↓W_andV, ↓W_orV, ↓W_notV, ↓WM_some, ↓WM_none, ↓WO_some, ↓tr_bl, ↓tr_non, ↓tr_int, ↓tr_tup, ↓tr_rol, ↓WS_nx, ↓WS_rt, ↓WS_ct, ↓WS_bk, ↓WS_exn, ↓WS_seq, ↓WS_nil, ↓WS_retN, ↓WS_break, ↓WS_cont, ↓WS_expr, ↓WS_ret, ↓WS_if, ↓WS_set, ↓WS_par, ↓WS_asg, ↓WS_gSet, ↓WS_gN, ↓WS_gC, ↓WS_gUn, ↓WS_gSub, ↓WS_aug, ↓o_add, ↓o_iadd, ↓o_sub, ↓o_neg, ↓o_mul, ↓o_mod, ↓o_div, ↓o_pow, ↓o_addT, ↓o_addS, ↓o_addL, ↓o_lt, ↓o_le, ↓o_gt, ↓o_ge, ↓o_eq, ↓o_ne, ↓o_eqS, ↓o_neS, ↓o_eqB, ↓o_neB, ↓o_eqT, ↓o_neT, ↓o_eqN, ↓o_neN, ↓o_ltT, ↓o_leT, ↓o_is, ↓o_isnot, ↓o_isB, ↓o_isnotB, ↓o_inT, ↓o_ninT, ↓o_inL, ↓o_ninL, ↓o_ixT, ↓o_ixR, ↓o_ixL, ↓o_rev, ↓o_ixS, ↓o_str, ↓o_strS, ↓o_set, ↓o_lenT, ↓o_lenR, ↓o_lenL, ↓o_lenS, ↓o_int, ↓o_intT, ↓o_intF, ↓o_abs, ↓o_max, ↓o_min, ↓o_tuple, ↓o_listXt, ↓o_listXr, ↓o_listXl, ↓o_listXs, ↓o_sortedXt, ↓o_tup0, ↓o_tup1, ↓o_tup2, ↓o_tup3, ↓o_tup4, ↓o_tup5, ↓o_tup6, ↓o_lst0, ↓o_lst1, ↓o_lst2, ↓o_lst3, ↓o_lst4, ↓o_lst5, ↓o_lst6, ↓o_sum, ↓W_meth, ↓o_append, ↓o_extend, ↓o_popAt, ↓W_cut, ↓W_noPart, ↓W_part, ↓o_cutT, ↓o_cutR, ↓o_cutL, ↓W_isi, ↓W_ch, ↓WS_for, ↓WI_iter, ↓WI_range1, ↓WI_range2, ↓WI_range3, ↓WI_enum, ↓WI_zip2, ↓WI_zip3, ↓W_callK, ↓WS_f0, ↓WS_f1, ↓W_alloc, ↓W_ofL, ↓W_comp, ↓WB_yes, ↓W_c0, ↓W_cx1, ↓W_cg0, ↓W_cg1, ↓W_listRg, ↓W_tupRg, ↓W_rRange1, ↓W_rRange2, Option.isSome_some, z2_t, z3_t, perm_nil, perm_cons, List.getD_cons_zero, List.getD_cons_succ, o_intT, o_intF, o_intB, o_ixL, o_ixT, beq_self_eq_true, decide_true, decide_false, okEq, okCmp, okIn, D.fits, D.fitsL, D.dep, D.depL, D.eqv, D.eqvL, D.alike, D.alikeL, isBl_bl, isN_non, isN_bl, isN_int, isN_str, isN_tup, isN_rol, isN_loc, Nat.reduceAdd, Nat.reduceSub, Nat.max_self, Nat.min_self, Nat.max_zero, Nat.zero_max, Nat.min_zero, Nat.zero_min, ty_non, ty_bl, ty_int, ty_str, ty_tup, ty_rol, ty_loc, kb_bool_bool, kb_bool_int, kb_bool_str, kb_bool_tuple, kb_bool_list, kb_int_bool, kb_int_int, kb_int_str, kb_int_tuple, kb_int_list, kb_str_bool, kb_str_int, kb_str_str, kb_str_tuple, kb_str_list, kb_tuple_bool, kb_tuple_int, kb_tuple_str, kb_tuple_tuple, kb_tuple_list, kb_list_bool, kb_list_int, kb_list_str, kb_list_tuple, kb_list_list, kb_NoneType_bool, kb_NoneType_int, kb_NoneType_str, kb_NoneType_tuple, kb_NoneType_list, Nat.zero_add, c02, lstAt_setE, Option.map_some, lstAt_set_ne, ne_eq, Nat.reduceEqDiff, Nat.one_ne_zero, Nat.zero_ne_one, ix_1_0, ix_2_0, ix_2_1, ix_3_0, ix_3_1, ix_3_2, ix_4_0, ix_4_1, ix_4_2, ix_4_3, ix_5_0, ix_5_1, ix_5_2, ix_5_3, ix_5_4, ix_6_0, ix_6_1, ix_6_2, ix_6_3, ix_6_4, ix_6_5, Nat.reduceLeDiff, Int.reduceAdd, Int.reduceSub, Int.reduceMul, Int.reduceNeg, Int.reducePow, Int.reduceLT, Int.reduceLE, Int.reduceEq, Int.reduceToNat, Bool.and_true, Bool.true_and, Bool.and_self, Bool.and_false, Bool.false_and, Bool.and_eq_true, Bool.and_eq_false_imp, and_self, WS_qdn, WS_qdr, WS_qde, WS_qdb, WS_qdc, qn1, qn2, qn3, qn4, qn5, qk1, qk5, lq1, lq2, lq3, lq4, lq5, intD_int, items_tup, items_rol, items_loc, listOf_loc, listOf_rol, isL_loc, nd_non, nd_bl, nd_int, nd_str, nd_tup, nd_rol, noDct_loc, at0, at1, at2, at3, at4, at5, atl1, atl2, atl3, atl4, lstAt_new, lstAt_h0, lstAt_h1, lstAt_h2, lstAt_h3, it_tup, it_rol, kTup_eq, kLen_eq, wipe0, wipe1, b_nm, b_un, b_nil, b_cnm, b_cun, Option.bind_some, List.set_cons_zero, List.set_cons_succ, List.length_cons, List.length_nil, List.nil_append, List.cons_append, List.append_nil, List.isEmpty_cons, List.isEmpty_nil, true_and, and_true, false_and, and_false, true_implies, forall_const, not_true_eq_false, not_false_eq_true, implies_true, decide_eq_true_eq, decide_eq_false_iff_not, Bool.not_eq_true', Bool.not_eq_false', Bool.not_true, Bool.not_false, if_true, if_false, Bool.false_eq_true, Bool.true_eq_false, reduceCtorEq, false_implies, eq_self]
    refine made_l (n := 3) (by decide) hA (by rw [hl3]; exact hO) (by omega) (by decide) (by omega) fun S6 A6 => ?_
    rw [e7]
    simp only [↓reduceIte, ↓W_ok, ↓W_exn, ↓W_var0, ↓W_varS, ↓W_K, ↓W_bin, ↓W_un, ↓W_aNil, ↓W_aCons, ↓W_arg, ↓W_call, ↓W_of, ↓WB_test, ↓tc_bl, ↓WB_tru, ↓trc, ↓WB_and, ↓WB_or, ↓WB_not, ↓W_if, ↓W_andV, ↓W_orV, ↓W_notV, ↓WM_some, ↓WM_none, ↓WO_some, ↓tr_bl, ↓tr_non, ↓tr_int, ↓tr_tup, ↓tr_rol, ↓WS_nx, ↓WS_rt, ↓WS_ct, ↓WS_bk, ↓WS_exn, ↓WS_seq, ↓WS_nil, ↓WS_retN, ↓WS_break, ↓WS_cont, ↓WS_expr, ↓WS_ret, ↓WS_if, ↓WS_set, ↓WS_par, ↓WS_asg, ↓WS_gSet, ↓WS_gN, ↓WS_gC, ↓WS_gUn, ↓WS_gSub, ↓WS_aug, ↓o_add, ↓o_iadd, ↓o_sub, ↓o_neg, ↓o_mul, ↓o_mod, ↓o_div, ↓o_pow, ↓o_addT, ↓o_addS, ↓o_addL, ↓o_lt, ↓o_le, ↓o_gt, ↓o_ge, ↓o_eq, ↓o_ne, ↓o_eqS, ↓o_neS, ↓o_eqB, ↓o_neB, ↓o_eqT, ↓o_neT, ↓o_eqN, ↓o_neN, ↓o_ltT, ↓o_leT, ↓o_is, ↓o_isnot, ↓o_isB, ↓o_isnotB, ↓o_inT, ↓o_ninT, ↓o_inL, ↓o_ninL, ↓o_ixT, ↓o_ixR, ↓o_ixL, ↓o_rev, ↓o_ixS, ↓o_str, ↓o_strS, ↓o_set, ↓o_lenT, ↓o_lenR, ↓o_lenL, ↓o_lenS, ↓o_int, ↓o_intT, ↓o_intF, ↓o_abs, ↓o_max, ↓o_min, ↓o_tuple, ↓o_listXt, ↓o_listXr, ↓o_listXl, ↓o_listXs, ↓o_sortedXt, ↓o_tup0, ↓o_tup1, ↓o_tup2, ↓o_tup3, ↓o_tup4, ↓o_tup5, ↓o_tup6, ↓o_lst0, ↓o_lst1, ↓o_lst2, ↓o_lst3, ↓o_lst4, ↓o_lst5, ↓o_lst6, ↓o_sum, ↓W_meth, ↓o_append, ↓o_extend, ↓o_popAt, ↓W_cut, ↓W_noPart, ↓W_part, ↓o_cutT, ↓o_cutR, ↓o_cutL, ↓W_isi, ↓W_ch, ↓WS_for, ↓WI_iter, ↓WI_range1, ↓WI_range2, ↓WI_range3, ↓WI_enum, ↓WI_zip2, ↓WI_zip3, ↓W_callK, ↓WS_f0, ↓WS_f1, ↓W_alloc, ↓W_ofL, ↓W_comp, ↓WB_yes, ↓W_c0, ↓W_cx1, ↓W_cg0, ↓W_cg1, ↓W_listRg, ↓W_tupRg, ↓W_rRange1, ↓W_rRange2, Option.isSome_some, z2_t, z3_t, perm_nil, perm_cons, List.getD_cons_zero, List.getD_cons_succ, o_intT, o_intF, o_intB, o_ixL, o_ixT, beq_self_eq_true, decide_true, decide_false, okEq, okCmp, okIn, D.fits, D.fitsL, D.dep, D.depL, D.eqv, D.eqvL, D.alike, D.alikeL, isBl_bl, isN_non, isN_bl, isN_int, isN_str, isN_tup, isN_rol, isN_loc, Nat.reduceAdd, Nat.reduceSub, Nat.max_self, Nat.min_self, Nat.max_zero, Nat.zero_max, Nat.min_zero, Nat.zero_min, ty_non, ty_bl, ty_int, ty_str, ty_tup, ty_rol, ty_loc, kb_bool_bool, kb_bool_int, kb_bool_str, kb_bool_tuple, kb_bool_list, kb_int_bool, kb_int_int, kb_int_str, kb_int_tuple, kb_int_list, kb_str_bool, kb_str_int, kb_str_str, kb_str_tuple, kb_str_list, kb_tuple_bool, kb_tuple_int, kb_tuple_str, kb_tuple_tuple, kb_tuple_list, kb_list_bool, kb_list_int, kb_list_str, kb_list_tuple, kb_list_list, kb_NoneType_bool, kb_NoneType_int, kb_NoneType_str, kb_NoneType_tuple, kb_NoneType_list, Nat.zero_add, c02, lstAt_setE, Option.map_some, lstAt_set_ne, ne_eq, Nat.reduceEqDiff, Nat.one_ne_zero, Nat.zero_ne_one, ix_1_0, ix_2_0, ix_2_1, ix_3_0, ix_3_1, ix_3_2, ix_4_0, ix_4_1, ix_4_2, ix_4_3, ix_5_0, ix_5_1, ix_5_2, ix_5_3, ix_5_4, ix_6_0, ix_6_1, ix_6_2, ix_6_3, ix_6_4, ix_6_5, Nat.reduceLeDiff, Int.reduceAdd, Int.reduceSub, Int.reduceMul, Int.reduceNeg, Int.reducePow, Int.reduceLT, Int.reduceLE, Int.reduceEq, Int.reduceToNat, Bool.and_true, Bool.true_and, Bool.and_self, Bool.and_false, Bool.false_and, Bool.and_eq_true, Bool.and_eq_false_imp, and_self, WS_qdn, WS_qdr, WS_qde, WS_qdb, WS_qdc, qn1, qn2, qn3, qn4, qn5, qk1, qk5, lq1, lq2, lq3, lq4, lq5, intD_int, items_tup, items_rol, items_loc, listOf_loc, listOf_rol, isL_loc, nd_non, nd_bl, nd_int, nd_str, nd_tup, nd_rol, noDct_loc, at0, at1, at2, at3, at4, at5, atl1, atl2, atl3, atl4, lstAt_new, lstAt_h0, lstAt_h1, lstAt_h2, lstAt_h3, it_tup, it_rol, kTup_eq, kLen_eq, wipe0, wipe1, b_nm, b_un, b_nil, b_cnm, b_cun, Option.bind_some, List.set_cons_zero, List.set_cons_succ, List.length_cons, List.length_nil, List.nil_append, List.cons_append, List.append_nil, List.isEmpty_cons, List.isEmpty_nil, true_and, and_true, false_and, and_false, true_implies, forall_const, not_true_eq_false, not_false_eq_true, implies_true, decide_eq_true_eq, decide_eq_false_iff_not, Bool.not_eq_true', Bool.not_eq_false', Bool.not_true, Bool.not_false, if_true, if_false, Bool.false_eq_true, Bool.true_eq_false, reduceCtorEq, false_implies, eq_self]
    have ef : D.fitsL ([low + 3, low + 5, low + 2].map D.int) = true := rfl
    have eq : D.eqvL ([low + 3, low + 5, low + 2].map D.int) ([low + 3, low + 5, low + 2].map D.int) = true := eqvL_refl _ ef
    rw [eq]
    exact ⟨⟨ef, ef, by simp [D.depL, D.dep]⟩, h _ (F4.ap (A5.trans A6)) (K4.trans (A5.trans A6).fk)⟩
end
end LW

namespace LW
open PySem PySem.Spec PyProof.Rows L2 DL
section
variable {x : XQ} {Q : D → Store → Prop} {tt : Tg (x, Q)} {S S' S'' : Store} {l n : Nat} {c : D} {m : List Int} {many size : Int}
theorem sheets_of {n : Nat} {ds ys : List D} (h : All2 (fun _ y => ∃ a, y = shD a ∧ a.length = n) ds ys) : ∃ ts : List (List Int), ys = ts.map shD ∧ AllL n ts ∧ ts.length = ds.length := by
  induction h with
  | nil => exact ⟨[], rfl, by intro t ht; simp at ht, rfl⟩
  | cons p _ ih =>
    obtain ⟨a, rfl, ha⟩ := p
    obtain ⟨ts, rfl, h1, h2⟩ := ih
    refine ⟨a :: ts, rfl, fun t ht => ?_, by simp [h2]⟩
    rcases List.mem_cons.mp ht with rfl | ht
    · exact ha
    · exact h1 t ht
theorem FdQ.sh {most : Int} {f : D} (h : FdQ most f) : ∃ n lo hi, f = .tup [.str n, .int lo, .int hi] ∧ lo ≤ hi ∧ hi < lo + most := by
  obtain ⟨n, lo, hi, e, _, _, h1, h2⟩ := h
  exact ⟨n, lo, hi, e, h1, h2⟩
theorem law_true : ∀ ns : List Int, ns.length ≤ 63 → (∀ z ∈ ns, Builtin.Int.intBits z ≤ 1048576) → ∃ S', m_law [.rol (ns.map D.int)] [] = .ok (.bl true) S' := by
  intro ns hl _
  suffices h : W (X0, fun d _ => d = .bl true) tg (m_law [.rol (ns.map D.int)] []) by
    obtain ⟨a, S, e, rfl⟩ := W_ex h
    exact ⟨S, e⟩
  rw [wm_law, b_law]
  simp only [↓reduceIte, ↓W_ok, ↓W_exn, ↓W_var0, ↓W_varS, ↓W_K, ↓W_bin, ↓W_un, ↓W_aNil, ↓W_aCons, ↓W_arg, ↓W_call, ↓W_of, ↓WB_test, ↓tc_bl, ↓WB_tru, ↓trc, ↓WB_and, ↓WB_or, ↓WB_not, ↓W_if, ↓W_andV, ↓W_orV, ↓W_notV, ↓WM_some, ↓WM_none, ↓WO_some, ↓tr_bl, ↓tr_non, ↓tr_int, ↓tr_tup, ↓tr_rol, ↓WS_nx, ↓WS_rt, ↓WS_ct, ↓WS_bk, ↓WS_exn, ↓WS_seq, ↓WS_nil, ↓WS_retN, ↓WS_break, ↓WS_cont, ↓WS_expr, ↓WS_ret, ↓WS_if, ↓WS_set, ↓WS_par, ↓WS_asg, ↓WS_gSet, ↓WS_gN, ↓WS_gC, ↓WS_gUn, ↓WS_gSub, ↓WS_aug, ↓o_add, ↓o_iadd, ↓o_sub, ↓o_neg, ↓o_mul, ↓o_mod, ↓o_div, ↓o_pow, ↓o_addT, ↓o_addS, ↓o_addL, ↓o_lt, ↓o_le, ↓o_gt, ↓o_ge, ↓o_eq, ↓o_ne, ↓o_eqS, ↓o_neS, ↓o_eqB, ↓o_neB, ↓o_eqT, ↓o_neT, ↓o_eqN, ↓o_neN, ↓o_ltT, ↓o_leT, ↓o_is, ↓o_isnot, ↓o_isB, ↓o_isnotB, ↓o_inT, ↓o_ninT, ↓o_inL, ↓o_ninL, ↓o_ixT, ↓o_ixR, ↓o_ixL, ↓o_rev, ↓o_ixS, ↓o_str, ↓o_strS, ↓o_set, ↓o_lenT, ↓o_lenR, ↓o_lenL, ↓o_lenS, ↓o_int, ↓o_intT, ↓o_intF, ↓o_abs, ↓o_max, ↓o_min, ↓o_tuple, ↓o_listXt, ↓o_listXr, ↓o_listXl, ↓o_listXs, ↓o_sortedXt, ↓o_tup0, ↓o_tup1, ↓o_tup2, ↓o_tup3, ↓o_tup4, ↓o_tup5, ↓o_tup6, ↓o_lst0, ↓o_lst1, ↓o_lst2, ↓o_lst3, ↓o_lst4, ↓o_lst5, ↓o_lst6, ↓o_sum, ↓W_meth, ↓o_append, ↓o_extend, ↓o_popAt, ↓W_cut, ↓W_noPart, ↓W_part, ↓o_cutT, ↓o_cutR, ↓o_cutL, ↓W_isi, ↓W_ch, ↓WS_for, ↓WI_iter, ↓WI_range1, ↓WI_range2, ↓WI_range3, ↓WI_enum, ↓WI_zip2, ↓WI_zip3, ↓W_callK, ↓WS_f0, ↓WS_f1, ↓W_alloc, ↓W_ofL, ↓W_comp, ↓WB_yes, ↓W_c0, ↓W_cx1, ↓W_cg0, ↓W_cg1, ↓W_listRg, ↓W_tupRg, ↓W_rRange1, ↓W_rRange2, Option.isSome_some, z2_t, z3_t, perm_nil, perm_cons, List.getD_cons_zero, List.getD_cons_succ, o_intT, o_intF, o_intB, o_ixL, o_ixT, beq_self_eq_true, decide_true, decide_false, okEq, okCmp, okIn, D.fits, D.fitsL, D.dep, D.depL, D.eqv, D.eqvL, D.alike, D.alikeL, isBl_bl, isN_non, isN_bl, isN_int, isN_str, isN_tup, isN_rol, isN_loc, Nat.reduceAdd, Nat.reduceSub, Nat.max_self, Nat.min_self, Nat.max_zero, Nat.zero_max, Nat.min_zero, Nat.zero_min, ty_non, ty_bl, ty_int, ty_str, ty_tup, ty_rol, ty_loc, kb_bool_bool, kb_bool_int, kb_bool_str, kb_bool_tuple, kb_bool_list, kb_int_bool, kb_int_int, kb_int_str, kb_int_tuple, kb_int_list, kb_str_bool, kb_str_int, kb_str_str, kb_str_tuple, kb_str_list, kb_tuple_bool, kb_tuple_int, kb_tuple_str, kb_tuple_tuple, kb_tuple_list, kb_list_bool, kb_list_int, kb_list_str, kb_list_tuple, kb_list_list, kb_NoneType_bool, kb_NoneType_int, kb_NoneType_str, kb_NoneType_tuple, kb_NoneType_list, Nat.zero_add, c02, lstAt_setE, Option.map_some, lstAt_set_ne, ne_eq, Nat.reduceEqDiff, Nat.one_ne_zero, Nat.zero_ne_one, ix_1_0, ix_2_0, ix_2_1, ix_3_0, ix_3_1, ix_3_2, ix_4_0, ix_4_1, ix_4_2, ix_4_3, ix_5_0, ix_5_1, ix_5_2, ix_5_3, ix_5_4, ix_6_0, ix_6_1, ix_6_2, ix_6_3, ix_6_4, ix_6_5, Nat.reduceLeDiff, Int.reduceAdd, Int.reduceSub, Int.reduceMul, Int.reduceNeg, Int.reducePow, Int.reduceLT, Int.reduceLE, Int.reduceEq, Int.reduceToNat, Bool.and_true, Bool.true_and, Bool.and_self, Bool.and_false, Bool.false_and, Bool.and_eq_true, Bool.and_eq_false_imp, and_self, WS_qdn, WS_qdr, WS_qde, WS_qdb, WS_qdc, qn1, qn2, qn3, qn4, qn5, qk1, qk5, lq1, lq2, lq3, lq4, lq5, intD_int, items_tup, items_rol, items_loc, listOf_loc, listOf_rol, isL_loc, nd_non, nd_bl, nd_int, nd_str, nd_tup, nd_rol, noDct_loc, at0, at1, at2, at3, at4, at5, atl1, atl2, atl3, atl4, lstAt_new, lstAt_h0, lstAt_h1, lstAt_h2, lstAt_h3, it_tup, it_rol, kTup_eq, kLen_eq, wipe0, wipe1, b_nm, b_un, b_nil, b_cnm, b_cun, Option.bind_some, List.set_cons_zero, List.set_cons_succ, List.length_cons, List.length_nil, List.nil_append, List.cons_append, List.append_nil, List.isEmpty_cons, List.isEmpty_nil, true_and, and_true, false_and, and_false, true_implies, forall_const, not_true_eq_false, not_false_eq_true, implies_true, decide_eq_true_eq, decide_eq_false_iff_not, Bool.not_eq_true', Bool.not_eq_false', Bool.not_true, Bool.not_false, if_true, if_false, Bool.false_eq_true, Bool.true_eq_false, reduceCtorEq, false_implies, eq_self]
  refine flow_w ns _ hl (by decide) (by decide) fun S1 F1 _ => ?_
  simp only [↓reduceIte, ↓W_ok, ↓W_exn, ↓W_var0, ↓W_varS, ↓W_K, ↓W_bin, ↓W_un, ↓W_aNil, ↓W_aCons, ↓W_arg, ↓W_call, ↓W_of, ↓WB_test, ↓tc_bl, ↓WB_tru, ↓trc, ↓WB_and, ↓WB_or, ↓WB_not, ↓W_if, ↓W_andV, ↓W_orV, ↓W_notV, ↓WM_some, ↓WM_none, ↓WO_some, ↓tr_bl, ↓tr_non, ↓tr_int, ↓tr_tup, ↓tr_rol, ↓WS_nx, ↓WS_rt, ↓WS_ct, ↓WS_bk, ↓WS_exn, ↓WS_seq, ↓WS_nil, ↓WS_retN, ↓WS_break, ↓WS_cont, ↓WS_expr, ↓WS_ret, ↓WS_if, ↓WS_set, ↓WS_par, ↓WS_asg, ↓WS_gSet, ↓WS_gN, ↓WS_gC, ↓WS_gUn, ↓WS_gSub, ↓WS_aug, ↓o_add, ↓o_iadd, ↓o_sub, ↓o_neg, ↓o_mul, ↓o_mod, ↓o_div, ↓o_pow, ↓o_addT, ↓o_addS, ↓o_addL, ↓o_lt, ↓o_le, ↓o_gt, ↓o_ge, ↓o_eq, ↓o_ne, ↓o_eqS, ↓o_neS, ↓o_eqB, ↓o_neB, ↓o_eqT, ↓o_neT, ↓o_eqN, ↓o_neN, ↓o_ltT, ↓o_leT, ↓o_is, ↓o_isnot, ↓o_isB, ↓o_isnotB, ↓o_inT, ↓o_ninT, ↓o_inL, ↓o_ninL, ↓o_ixT, ↓o_ixR, ↓o_ixL, ↓o_rev, ↓o_ixS, ↓o_str, ↓o_strS, ↓o_set, ↓o_lenT, ↓o_lenR, ↓o_lenL, ↓o_lenS, ↓o_int, ↓o_intT, ↓o_intF, ↓o_abs, ↓o_max, ↓o_min, ↓o_tuple, ↓o_listXt, ↓o_listXr, ↓o_listXl, ↓o_listXs, ↓o_sortedXt, ↓o_tup0, ↓o_tup1, ↓o_tup2, ↓o_tup3, ↓o_tup4, ↓o_tup5, ↓o_tup6, ↓o_lst0, ↓o_lst1, ↓o_lst2, ↓o_lst3, ↓o_lst4, ↓o_lst5, ↓o_lst6, ↓o_sum, ↓W_meth, ↓o_append, ↓o_extend, ↓o_popAt, ↓W_cut, ↓W_noPart, ↓W_part, ↓o_cutT, ↓o_cutR, ↓o_cutL, ↓W_isi, ↓W_ch, ↓WS_for, ↓WI_iter, ↓WI_range1, ↓WI_range2, ↓WI_range3, ↓WI_enum, ↓WI_zip2, ↓WI_zip3, ↓W_callK, ↓WS_f0, ↓WS_f1, ↓W_alloc, ↓W_ofL, ↓W_comp, ↓WB_yes, ↓W_c0, ↓W_cx1, ↓W_cg0, ↓W_cg1, ↓W_listRg, ↓W_tupRg, ↓W_rRange1, ↓W_rRange2, Option.isSome_some, z2_t, z3_t, perm_nil, perm_cons, List.getD_cons_zero, List.getD_cons_succ, o_intT, o_intF, o_intB, o_ixL, o_ixT, beq_self_eq_true, decide_true, decide_false, okEq, okCmp, okIn, D.fits, D.fitsL, D.dep, D.depL, D.eqv, D.eqvL, D.alike, D.alikeL, isBl_bl, isN_non, isN_bl, isN_int, isN_str, isN_tup, isN_rol, isN_loc, Nat.reduceAdd, Nat.reduceSub, Nat.max_self, Nat.min_self, Nat.max_zero, Nat.zero_max, Nat.min_zero, Nat.zero_min, ty_non, ty_bl, ty_int, ty_str, ty_tup, ty_rol, ty_loc, kb_bool_bool, kb_bool_int, kb_bool_str, kb_bool_tuple, kb_bool_list, kb_int_bool, kb_int_int, kb_int_str, kb_int_tuple, kb_int_list, kb_str_bool, kb_str_int, kb_str_str, kb_str_tuple, kb_str_list, kb_tuple_bool, kb_tuple_int, kb_tuple_str, kb_tuple_tuple, kb_tuple_list, kb_list_bool, kb_list_int, kb_list_str, kb_list_tuple, kb_list_list, kb_NoneType_bool, kb_NoneType_int, kb_NoneType_str, kb_NoneType_tuple, kb_NoneType_list, Nat.zero_add, c02, lstAt_setE, Option.map_some, lstAt_set_ne, ne_eq, Nat.reduceEqDiff, Nat.one_ne_zero, Nat.zero_ne_one, ix_1_0, ix_2_0, ix_2_1, ix_3_0, ix_3_1, ix_3_2, ix_4_0, ix_4_1, ix_4_2, ix_4_3, ix_5_0, ix_5_1, ix_5_2, ix_5_3, ix_5_4, ix_6_0, ix_6_1, ix_6_2, ix_6_3, ix_6_4, ix_6_5, Nat.reduceLeDiff, Int.reduceAdd, Int.reduceSub, Int.reduceMul, Int.reduceNeg, Int.reducePow, Int.reduceLT, Int.reduceLE, Int.reduceEq, Int.reduceToNat, Bool.and_true, Bool.true_and, Bool.and_self, Bool.and_false, Bool.false_and, Bool.and_eq_true, Bool.and_eq_false_imp, and_self, WS_qdn, WS_qdr, WS_qde, WS_qdb, WS_qdc, qn1, qn2, qn3, qn4, qn5, qk1, qk5, lq1, lq2, lq3, lq4, lq5, intD_int, items_tup, items_rol, items_loc, listOf_loc, listOf_rol, isL_loc, nd_non, nd_bl, nd_int, nd_str, nd_tup, nd_rol, noDct_loc, at0, at1, at2, at3, at4, at5, atl1, atl2, atl3, atl4, lstAt_new, lstAt_h0, lstAt_h1, lstAt_h2, lstAt_h3, it_tup, it_rol, kTup_eq, kLen_eq, wipe0, wipe1, b_nm, b_un, b_nil, b_cnm, b_cun, Option.bind_some, List.set_cons_zero, List.set_cons_succ, List.length_cons, List.length_nil, List.nil_append, List.cons_append, List.append_nil, List.isEmpty_cons, List.isEmpty_nil, true_and, and_true, false_and, and_false, true_implies, forall_const, not_true_eq_false, not_false_eq_true, implies_true, decide_eq_true_eq, decide_eq_false_iff_not, Bool.not_eq_true', Bool.not_eq_false', Bool.not_true, Bool.not_false, if_true, if_false, Bool.false_eq_true, Bool.true_eq_false, reduceCtorEq, false_implies, eq_self]
  refine fixed_w F1 fun S2 F2 _ => ?_
  simp only [↓reduceIte, ↓W_ok, ↓W_exn, ↓W_var0, ↓W_varS, ↓W_K, ↓W_bin, ↓W_un, ↓W_aNil, ↓W_aCons, ↓W_arg, ↓W_call, ↓W_of, ↓WB_test, ↓tc_bl, ↓WB_tru, ↓trc, ↓WB_and, ↓WB_or, ↓WB_not, ↓W_if, ↓W_andV, ↓W_orV, ↓W_notV, ↓WM_some, ↓WM_none, ↓WO_some, ↓tr_bl, ↓tr_non, ↓tr_int, ↓tr_tup, ↓tr_rol, ↓WS_nx, ↓WS_rt, ↓WS_ct, ↓WS_bk, ↓WS_exn, ↓WS_seq, ↓WS_nil, ↓WS_retN, ↓WS_break, ↓WS_cont, ↓WS_expr, ↓WS_ret, ↓WS_if, ↓WS_set, ↓WS_par, ↓WS_asg, ↓WS_gSet, ↓WS_gN, ↓WS_gC, ↓WS_gUn, ↓WS_gSub, ↓WS_aug, ↓o_add, ↓o_iadd, ↓o_sub, ↓o_neg, ↓o_mul, ↓o_mod, ↓o_div, ↓o_pow, ↓o_addT, ↓o_addS, ↓o_addL, ↓o_lt, ↓o_le, ↓o_gt, ↓o_ge, ↓o_eq, ↓o_ne, ↓o_eqS, ↓o_neS, ↓o_eqB, ↓o_neB, ↓o_eqT, ↓o_neT, ↓o_eqN, ↓o_neN, ↓o_ltT, ↓o_leT, ↓o_is, ↓o_isnot, ↓o_isB, ↓o_isnotB, ↓o_inT, ↓o_ninT, ↓o_inL, ↓o_ninL, ↓o_ixT, ↓o_ixR, ↓o_ixL, ↓o_rev, ↓o_ixS, ↓o_str, ↓o_strS, ↓o_set, ↓o_lenT, ↓o_lenR, ↓o_lenL, ↓o_lenS, ↓o_int, ↓o_intT, ↓o_intF, ↓o_abs, ↓o_max, ↓o_min, ↓o_tuple, ↓o_listXt, ↓o_listXr, ↓o_listXl, ↓o_listXs, ↓o_sortedXt, ↓o_tup0, ↓o_tup1, ↓o_tup2, ↓o_tup3, ↓o_tup4, ↓o_tup5, ↓o_tup6, ↓o_lst0, ↓o_lst1, ↓o_lst2, ↓o_lst3, ↓o_lst4, ↓o_lst5, ↓o_lst6, ↓o_sum, ↓W_meth, ↓o_append, ↓o_extend, ↓o_popAt, ↓W_cut, ↓W_noPart, ↓W_part, ↓o_cutT, ↓o_cutR, ↓o_cutL, ↓W_isi, ↓W_ch, ↓WS_for, ↓WI_iter, ↓WI_range1, ↓WI_range2, ↓WI_range3, ↓WI_enum, ↓WI_zip2, ↓WI_zip3, ↓W_callK, ↓WS_f0, ↓WS_f1, ↓W_alloc, ↓W_ofL, ↓W_comp, ↓WB_yes, ↓W_c0, ↓W_cx1, ↓W_cg0, ↓W_cg1, ↓W_listRg, ↓W_tupRg, ↓W_rRange1, ↓W_rRange2, Option.isSome_some, z2_t, z3_t, perm_nil, perm_cons, List.getD_cons_zero, List.getD_cons_succ, o_intT, o_intF, o_intB, o_ixL, o_ixT, beq_self_eq_true, decide_true, decide_false, okEq, okCmp, okIn, D.fits, D.fitsL, D.dep, D.depL, D.eqv, D.eqvL, D.alike, D.alikeL, isBl_bl, isN_non, isN_bl, isN_int, isN_str, isN_tup, isN_rol, isN_loc, Nat.reduceAdd, Nat.reduceSub, Nat.max_self, Nat.min_self, Nat.max_zero, Nat.zero_max, Nat.min_zero, Nat.zero_min, ty_non, ty_bl, ty_int, ty_str, ty_tup, ty_rol, ty_loc, kb_bool_bool, kb_bool_int, kb_bool_str, kb_bool_tuple, kb_bool_list, kb_int_bool, kb_int_int, kb_int_str, kb_int_tuple, kb_int_list, kb_str_bool, kb_str_int, kb_str_str, kb_str_tuple, kb_str_list, kb_tuple_bool, kb_tuple_int, kb_tuple_str, kb_tuple_tuple, kb_tuple_list, kb_list_bool, kb_list_int, kb_list_str, kb_list_tuple, kb_list_list, kb_NoneType_bool, kb_NoneType_int, kb_NoneType_str, kb_NoneType_tuple, kb_NoneType_list, Nat.zero_add, c02, lstAt_setE, Option.map_some, lstAt_set_ne, ne_eq, Nat.reduceEqDiff, Nat.one_ne_zero, Nat.zero_ne_one, ix_1_0, ix_2_0, ix_2_1, ix_3_0, ix_3_1, ix_3_2, ix_4_0, ix_4_1, ix_4_2, ix_4_3, ix_5_0, ix_5_1, ix_5_2, ix_5_3, ix_5_4, ix_6_0, ix_6_1, ix_6_2, ix_6_3, ix_6_4, ix_6_5, Nat.reduceLeDiff, Int.reduceAdd, Int.reduceSub, Int.reduceMul, Int.reduceNeg, Int.reducePow, Int.reduceLT, Int.reduceLE, Int.reduceEq, Int.reduceToNat, Bool.and_true, Bool.true_and, Bool.and_self, Bool.and_false, Bool.false_and, Bool.and_eq_true, Bool.and_eq_false_imp, and_self, WS_qdn, WS_qdr, WS_qde, WS_qdb, WS_qdc, qn1, qn2, qn3, qn4, qn5, qk1, qk5, lq1, lq2, lq3, lq4, lq5, intD_int, items_tup, items_rol, items_loc, listOf_loc, listOf_rol, isL_loc, nd_non, nd_bl, nd_int, nd_str, nd_tup, nd_rol, noDct_loc, at0, at1, at2, at3, at4, at5, atl1, atl2, atl3, atl4, lstAt_new, lstAt_h0, lstAt_h1, lstAt_h2, lstAt_h3, it_tup, it_rol, kTup_eq, kLen_eq, wipe0, wipe1, b_nm, b_un, b_nil, b_cnm, b_cun, Option.bind_some, List.set_cons_zero, List.set_cons_succ, List.length_cons, List.length_nil, List.nil_append, List.cons_append, List.append_nil, List.isEmpty_cons, List.isEmpty_nil, true_and, and_true, false_and, and_false, true_implies, forall_const, not_true_eq_false, not_false_eq_true, implies_true, decide_eq_true_eq, decide_eq_false_iff_not, Bool.not_eq_true', Bool.not_eq_false', Bool.not_true, Bool.not_false, if_true, if_false, Bool.false_eq_true, Bool.true_eq_false, reduceCtorEq, false_implies, eq_self]
  refine ⟨by decide, ?_⟩
  refine WS_rloop (fun i σ S => FlowOk S ∧ ∃ p1 p2 p3 p4 p5 p6 p7 p8, σ = [some (.rol (ns.map D.int)), some (.loc 2), p1, p2, p3, p4, p5, p6, p7, p8]) ⟨F2, _, _, _, _, _, _, _, _, rfl⟩ ?_ ?_
  · rintro i σ S3 i0 i1 ⟨F3, p1, p2, p3, p4, p5, p6, p7, p8, rfl⟩
    simp only [↓reduceIte, ↓W_ok, ↓W_exn, ↓W_var0, ↓W_varS, ↓W_K, ↓W_bin, ↓W_un, ↓W_aNil, ↓W_aCons, ↓W_arg, ↓W_call, ↓W_of, ↓WB_test, ↓tc_bl, ↓WB_tru, ↓trc, ↓WB_and, ↓WB_or, ↓WB_not, ↓W_if, ↓W_andV, ↓W_orV, ↓W_notV, ↓WM_some, ↓WM_none, ↓WO_some, ↓tr_bl, ↓tr_non, ↓tr_int, ↓tr_tup, ↓tr_rol, ↓WS_nx, ↓WS_rt, ↓WS_ct, ↓WS_bk, ↓WS_exn, ↓WS_seq, ↓WS_nil, ↓WS_retN, ↓WS_break, ↓WS_cont, ↓WS_expr, ↓WS_ret, ↓WS_if, ↓WS_set, ↓WS_par, ↓WS_asg, ↓WS_gSet, ↓WS_gN, ↓WS_gC, ↓WS_gUn, ↓WS_gSub, ↓WS_aug, ↓o_add, ↓o_iadd, ↓o_sub, ↓o_neg, ↓o_mul, ↓o_mod, ↓o_div, ↓o_pow, ↓o_addT, ↓o_addS, ↓o_addL, ↓o_lt, ↓o_le, ↓o_gt, ↓o_ge, ↓o_eq, ↓o_ne, ↓o_eqS, ↓o_neS, ↓o_eqB, ↓o_neB, ↓o_eqT, ↓o_neT, ↓o_eqN, ↓o_neN, ↓o_ltT, ↓o_leT, ↓o_is, ↓o_isnot, ↓o_isB, ↓o_isnotB, ↓o_inT, ↓o_ninT, ↓o_inL, ↓o_ninL, ↓o_ixT, ↓o_ixR, ↓o_ixL, ↓o_rev, ↓o_ixS, ↓o_str, ↓o_strS, ↓o_set, ↓o_lenT, ↓o_lenR, ↓o_lenL, ↓o_lenS, ↓o_int, ↓o_intT, ↓o_intF, ↓o_abs, ↓o_max, ↓o_min, ↓o_tuple, ↓o_listXt, ↓o_listXr, ↓o_listXl, ↓o_listXs, ↓o_sortedXt, ↓o_tup0, ↓o_tup1, ↓o_tup2, ↓o_tup3, ↓o_tup4, ↓o_tup5, ↓o_tup6, ↓o_lst0, ↓o_lst1, ↓o_lst2, ↓o_lst3, ↓o_lst4, ↓o_lst5, ↓o_lst6, ↓o_sum, ↓W_meth, ↓o_append, ↓o_extend, ↓o_popAt, ↓W_cut, ↓W_noPart, ↓W_part, ↓o_cutT, ↓o_cutR, ↓o_cutL, ↓W_isi, ↓W_ch, ↓WS_for, ↓WI_iter, ↓WI_range1, ↓WI_range2, ↓WI_range3, ↓WI_enum, ↓WI_zip2, ↓WI_zip3, ↓W_callK, ↓WS_f0, ↓WS_f1, ↓W_alloc, ↓W_ofL, ↓W_comp, ↓WB_yes, ↓W_c0, ↓W_cx1, ↓W_cg0, ↓W_cg1, ↓W_listRg, ↓W_tupRg, ↓W_rRange1, ↓W_rRange2, Option.isSome_some, z2_t, z3_t, perm_nil, perm_cons, List.getD_cons_zero, List.getD_cons_succ, o_intT, o_intF, o_intB, o_ixL, o_ixT, beq_self_eq_true, decide_true, decide_false, okEq, okCmp, okIn, D.fits, D.fitsL, D.dep, D.depL, D.eqv, D.eqvL, D.alike, D.alikeL, isBl_bl, isN_non, isN_bl, isN_int, isN_str, isN_tup, isN_rol, isN_loc, Nat.reduceAdd, Nat.reduceSub, Nat.max_self, Nat.min_self, Nat.max_zero, Nat.zero_max, Nat.min_zero, Nat.zero_min, ty_non, ty_bl, ty_int, ty_str, ty_tup, ty_rol, ty_loc, kb_bool_bool, kb_bool_int, kb_bool_str, kb_bool_tuple, kb_bool_list, kb_int_bool, kb_int_int, kb_int_str, kb_int_tuple, kb_int_list, kb_str_bool, kb_str_int, kb_str_str, kb_str_tuple, kb_str_list, kb_tuple_bool, kb_tuple_int, kb_tuple_str, kb_tuple_tuple, kb_tuple_list, kb_list_bool, kb_list_int, kb_list_str, kb_list_tuple, kb_list_list, kb_NoneType_bool, kb_NoneType_int, kb_NoneType_str, kb_NoneType_tuple, kb_NoneType_list, Nat.zero_add, c02, lstAt_setE, Option.map_some, lstAt_set_ne, ne_eq, Nat.reduceEqDiff, Nat.one_ne_zero, Nat.zero_ne_one, ix_1_0, ix_2_0, ix_2_1, ix_3_0, ix_3_1, ix_3_2, ix_4_0, ix_4_1, ix_4_2, ix_4_3, ix_5_0, ix_5_1, ix_5_2, ix_5_3, ix_5_4, ix_6_0, ix_6_1, ix_6_2, ix_6_3, ix_6_4, ix_6_5, Nat.reduceLeDiff, Int.reduceAdd, Int.reduceSub, Int.reduceMul, Int.reduceNeg, Int.reducePow, Int.reduceLT, Int.reduceLE, Int.reduceEq, Int.reduceToNat, Bool.and_true, Bool.true_and, Bool.and_self, Bool.and_false, Bool.false_and, Bool.and_eq_true, Bool.and_eq_false_imp, and_self, WS_qdn, WS_qdr, WS_qde, WS_qdb, WS_qdc, qn1, qn2, qn3, qn4, qn5, qk1, qk5, lq1, lq2, lq3, lq4, lq5, intD_int, items_tup, items_rol, items_loc, listOf_loc, listOf_rol, isL_loc, nd_non, nd_bl, nd_int, nd_str, nd_tup, nd_rol, noDct_loc, at0, at1, at2, at3, at4, at5, atl1, atl2, atl3, atl4, lstAt_new, lstAt_h0, lstAt_h1, lstAt_h2, lstAt_h3, it_tup, it_rol, kTup_eq, kLen_eq, wipe0, wipe1, b_nm, b_un, b_nil, b_cnm, b_cun, Option.bind_some, List.set_cons_zero, List.set_cons_succ, List.length_cons, List.length_nil, List.nil_append, List.cons_append, List.append_nil, List.isEmpty_cons, List.isEmpty_nil, true_and, and_true, false_and, and_false, true_implies, forall_const, not_true_eq_false, not_false_eq_true, implies_true, decide_eq_true_eq, decide_eq_false_iff_not, Bool.not_eq_true', Bool.not_eq_false', Bool.not_true, Bool.not_false, if_true, if_false, Bool.false_eq_true, Bool.true_eq_false, reduceCtorEq, false_implies, eq_self]
    refine draw_w F3 (by decide) (by decide) fun v S4 v0 v1 F4 _ => ?_
    simp only [↓reduceIte, ↓W_ok, ↓W_exn, ↓W_var0, ↓W_varS, ↓W_K, ↓W_bin, ↓W_un, ↓W_aNil, ↓W_aCons, ↓W_arg, ↓W_call, ↓W_of, ↓WB_test, ↓tc_bl, ↓WB_tru, ↓trc, ↓WB_and, ↓WB_or, ↓WB_not, ↓W_if, ↓W_andV, ↓W_orV, ↓W_notV, ↓WM_some, ↓WM_none, ↓WO_some, ↓tr_bl, ↓tr_non, ↓tr_int, ↓tr_tup, ↓tr_rol, ↓WS_nx, ↓WS_rt, ↓WS_ct, ↓WS_bk, ↓WS_exn, ↓WS_seq, ↓WS_nil, ↓WS_retN, ↓WS_break, ↓WS_cont, ↓WS_expr, ↓WS_ret, ↓WS_if, ↓WS_set, ↓WS_par, ↓WS_asg, ↓WS_gSet, ↓WS_gN, ↓WS_gC, ↓WS_gUn, ↓WS_gSub, ↓WS_aug, ↓o_add, ↓o_iadd, ↓o_sub, ↓o_neg, ↓o_mul, ↓o_mod, ↓o_div, ↓o_pow, ↓o_addT, ↓o_addS, ↓o_addL, ↓o_lt, ↓o_le, ↓o_gt, ↓o_ge, ↓o_eq, ↓o_ne, ↓o_eqS, ↓o_neS, ↓o_eqB, ↓o_neB, ↓o_eqT, ↓o_neT, ↓o_eqN, ↓o_neN, ↓o_ltT, ↓o_leT, ↓o_is, ↓o_isnot, ↓o_isB, ↓o_isnotB, ↓o_inT, ↓o_ninT, ↓o_inL, ↓o_ninL, ↓o_ixT, ↓o_ixR, ↓o_ixL, ↓o_rev, ↓o_ixS, ↓o_str, ↓o_strS, ↓o_set, ↓o_lenT, ↓o_lenR, ↓o_lenL, ↓o_lenS, ↓o_int, ↓o_intT, ↓o_intF, ↓o_abs, ↓o_max, ↓o_min, ↓o_tuple, ↓o_listXt, ↓o_listXr, ↓o_listXl, ↓o_listXs, ↓o_sortedXt, ↓o_tup0, ↓o_tup1, ↓o_tup2, ↓o_tup3, ↓o_tup4, ↓o_tup5, ↓o_tup6, ↓o_lst0, ↓o_lst1, ↓o_lst2, ↓o_lst3, ↓o_lst4, ↓o_lst5, ↓o_lst6, ↓o_sum, ↓W_meth, ↓o_append, ↓o_extend, ↓o_popAt, ↓W_cut, ↓W_noPart, ↓W_part, ↓o_cutT, ↓o_cutR, ↓o_cutL, ↓W_isi, ↓W_ch, ↓WS_for, ↓WI_iter, ↓WI_range1, ↓WI_range2, ↓WI_range3, ↓WI_enum, ↓WI_zip2, ↓WI_zip3, ↓W_callK, ↓WS_f0, ↓WS_f1, ↓W_alloc, ↓W_ofL, ↓W_comp, ↓WB_yes, ↓W_c0, ↓W_cx1, ↓W_cg0, ↓W_cg1, ↓W_listRg, ↓W_tupRg, ↓W_rRange1, ↓W_rRange2, Option.isSome_some, z2_t, z3_t, perm_nil, perm_cons, List.getD_cons_zero, List.getD_cons_succ, o_intT, o_intF, o_intB, o_ixL, o_ixT, beq_self_eq_true, decide_true, decide_false, okEq, okCmp, okIn, D.fits, D.fitsL, D.dep, D.depL, D.eqv, D.eqvL, D.alike, D.alikeL, isBl_bl, isN_non, isN_bl, isN_int, isN_str, isN_tup, isN_rol, isN_loc, Nat.reduceAdd, Nat.reduceSub, Nat.max_self, Nat.min_self, Nat.max_zero, Nat.zero_max, Nat.min_zero, Nat.zero_min, ty_non, ty_bl, ty_int, ty_str, ty_tup, ty_rol, ty_loc, kb_bool_bool, kb_bool_int, kb_bool_str, kb_bool_tuple, kb_bool_list, kb_int_bool, kb_int_int, kb_int_str, kb_int_tuple, kb_int_list, kb_str_bool, kb_str_int, kb_str_str, kb_str_tuple, kb_str_list, kb_tuple_bool, kb_tuple_int, kb_tuple_str, kb_tuple_tuple, kb_tuple_list, kb_list_bool, kb_list_int, kb_list_str, kb_list_tuple, kb_list_list, kb_NoneType_bool, kb_NoneType_int, kb_NoneType_str, kb_NoneType_tuple, kb_NoneType_list, Nat.zero_add, c02, lstAt_setE, Option.map_some, lstAt_set_ne, ne_eq, Nat.reduceEqDiff, Nat.one_ne_zero, Nat.zero_ne_one, ix_1_0, ix_2_0, ix_2_1, ix_3_0, ix_3_1, ix_3_2, ix_4_0, ix_4_1, ix_4_2, ix_4_3, ix_5_0, ix_5_1, ix_5_2, ix_5_3, ix_5_4, ix_6_0, ix_6_1, ix_6_2, ix_6_3, ix_6_4, ix_6_5, Nat.reduceLeDiff, Int.reduceAdd, Int.reduceSub, Int.reduceMul, Int.reduceNeg, Int.reducePow, Int.reduceLT, Int.reduceLE, Int.reduceEq, Int.reduceToNat, Bool.and_true, Bool.true_and, Bool.and_self, Bool.and_false, Bool.false_and, Bool.and_eq_true, Bool.and_eq_false_imp, and_self, WS_qdn, WS_qdr, WS_qde, WS_qdb, WS_qdc, qn1, qn2, qn3, qn4, qn5, qk1, qk5, lq1, lq2, lq3, lq4, lq5, intD_int, items_tup, items_rol, items_loc, listOf_loc, listOf_rol, isL_loc, nd_non, nd_bl, nd_int, nd_str, nd_tup, nd_rol, noDct_loc, at0, at1, at2, at3, at4, at5, atl1, atl2, atl3, atl4, lstAt_new, lstAt_h0, lstAt_h1, lstAt_h2, lstAt_h3, it_tup, it_rol, kTup_eq, kLen_eq, wipe0, wipe1, b_nm, b_un, b_nil, b_cnm, b_cun, Option.bind_some, List.set_cons_zero, List.set_cons_succ, List.length_cons, List.length_nil, List.nil_append, List.cons_append, List.append_nil, List.isEmpty_cons, List.isEmpty_nil, true_and, and_true, false_and, and_false, true_implies, forall_const, not_true_eq_false, not_false_eq_true, implies_true, decide_eq_true_eq, decide_eq_false_iff_not, Bool.not_eq_true', Bool.not_eq_false', Bool.not_true, Bool.not_false, if_true, if_false, Bool.false_eq_true, Bool.true_eq_false, reduceCtorEq, false_implies, eq_self]
    refine fields_w F4 (by omega) (by omega) (by decide) (by decide) fun fs S5 hf hfl F5 _ => ?_
    simp only [↓reduceIte, ↓W_ok, ↓W_exn, ↓W_var0, ↓W_varS, ↓W_K, ↓W_bin, ↓W_un, ↓W_aNil, ↓W_aCons, ↓W_arg, ↓W_call, ↓W_of, ↓WB_test, ↓tc_bl, ↓WB_tru, ↓trc, ↓WB_and, ↓WB_or, ↓WB_not, ↓W_if, ↓W_andV, ↓W_orV, ↓W_notV, ↓WM_some, ↓WM_none, ↓WO_some, ↓tr_bl, ↓tr_non, ↓tr_int, ↓tr_tup, ↓tr_rol, ↓WS_nx, ↓WS_rt, ↓WS_ct, ↓WS_bk, ↓WS_exn, ↓WS_seq, ↓WS_nil, ↓WS_retN, ↓WS_break, ↓WS_cont, ↓WS_expr, ↓WS_ret, ↓WS_if, ↓WS_set, ↓WS_par, ↓WS_asg, ↓WS_gSet, ↓WS_gN, ↓WS_gC, ↓WS_gUn, ↓WS_gSub, ↓WS_aug, ↓o_add, ↓o_iadd, ↓o_sub, ↓o_neg, ↓o_mul, ↓o_mod, ↓o_div, ↓o_pow, ↓o_addT, ↓o_addS, ↓o_addL, ↓o_lt, ↓o_le, ↓o_gt, ↓o_ge, ↓o_eq, ↓o_ne, ↓o_eqS, ↓o_neS, ↓o_eqB, ↓o_neB, ↓o_eqT, ↓o_neT, ↓o_eqN, ↓o_neN, ↓o_ltT, ↓o_leT, ↓o_is, ↓o_isnot, ↓o_isB, ↓o_isnotB, ↓o_inT, ↓o_ninT, ↓o_inL, ↓o_ninL, ↓o_ixT, ↓o_ixR, ↓o_ixL, ↓o_rev, ↓o_ixS, ↓o_str, ↓o_strS, ↓o_set, ↓o_lenT, ↓o_lenR, ↓o_lenL, ↓o_lenS, ↓o_int, ↓o_intT, ↓o_intF, ↓o_abs, ↓o_max, ↓o_min, ↓o_tuple, ↓o_listXt, ↓o_listXr, ↓o_listXl, ↓o_listXs, ↓o_sortedXt, ↓o_tup0, ↓o_tup1, ↓o_tup2, ↓o_tup3, ↓o_tup4, ↓o_tup5, ↓o_tup6, ↓o_lst0, ↓o_lst1, ↓o_lst2, ↓o_lst3, ↓o_lst4, ↓o_lst5, ↓o_lst6, ↓o_sum, ↓W_meth, ↓o_append, ↓o_extend, ↓o_popAt, ↓W_cut, ↓W_noPart, ↓W_part, ↓o_cutT, ↓o_cutR, ↓o_cutL, ↓W_isi, ↓W_ch, ↓WS_for, ↓WI_iter, ↓WI_range1, ↓WI_range2, ↓WI_range3, ↓WI_enum, ↓WI_zip2, ↓WI_zip3, ↓W_callK, ↓WS_f0, ↓WS_f1, ↓W_alloc, ↓W_ofL, ↓W_comp, ↓WB_yes, ↓W_c0, ↓W_cx1, ↓W_cg0, ↓W_cg1, ↓W_listRg, ↓W_tupRg, ↓W_rRange1, ↓W_rRange2, Option.isSome_some, z2_t, z3_t, perm_nil, perm_cons, List.getD_cons_zero, List.getD_cons_succ, o_intT, o_intF, o_intB, o_ixL, o_ixT, beq_self_eq_true, decide_true, decide_false, okEq, okCmp, okIn, D.fits, D.fitsL, D.dep, D.depL, D.eqv, D.eqvL, D.alike, D.alikeL, isBl_bl, isN_non, isN_bl, isN_int, isN_str, isN_tup, isN_rol, isN_loc, Nat.reduceAdd, Nat.reduceSub, Nat.max_self, Nat.min_self, Nat.max_zero, Nat.zero_max, Nat.min_zero, Nat.zero_min, ty_non, ty_bl, ty_int, ty_str, ty_tup, ty_rol, ty_loc, kb_bool_bool, kb_bool_int, kb_bool_str, kb_bool_tuple, kb_bool_list, kb_int_bool, kb_int_int, kb_int_str, kb_int_tuple, kb_int_list, kb_str_bool, kb_str_int, kb_str_str, kb_str_tuple, kb_str_list, kb_tuple_bool, kb_tuple_int, kb_tuple_str, kb_tuple_tuple, kb_tuple_list, kb_list_bool, kb_list_int, kb_list_str, kb_list_tuple, kb_list_list, kb_NoneType_bool, kb_NoneType_int, kb_NoneType_str, kb_NoneType_tuple, kb_NoneType_list, Nat.zero_add, c02, lstAt_setE, Option.map_some, lstAt_set_ne, ne_eq, Nat.reduceEqDiff, Nat.one_ne_zero, Nat.zero_ne_one, ix_1_0, ix_2_0, ix_2_1, ix_3_0, ix_3_1, ix_3_2, ix_4_0, ix_4_1, ix_4_2, ix_4_3, ix_5_0, ix_5_1, ix_5_2, ix_5_3, ix_5_4, ix_6_0, ix_6_1, ix_6_2, ix_6_3, ix_6_4, ix_6_5, Nat.reduceLeDiff, Int.reduceAdd, Int.reduceSub, Int.reduceMul, Int.reduceNeg, Int.reducePow, Int.reduceLT, Int.reduceLE, Int.reduceEq, Int.reduceToNat, Bool.and_true, Bool.true_and, Bool.and_self, Bool.and_false, Bool.false_and, Bool.and_eq_true, Bool.and_eq_false_imp, and_self, WS_qdn, WS_qdr, WS_qde, WS_qdb, WS_qdc, qn1, qn2, qn3, qn4, qn5, qk1, qk5, lq1, lq2, lq3, lq4, lq5, intD_int, items_tup, items_rol, items_loc, listOf_loc, listOf_rol, isL_loc, nd_non, nd_bl, nd_int, nd_str, nd_tup, nd_rol, noDct_loc, at0, at1, at2, at3, at4, at5, atl1, atl2, atl3, atl4, lstAt_new, lstAt_h0, lstAt_h1, lstAt_h2, lstAt_h3, it_tup, it_rol, kTup_eq, kLen_eq, wipe0, wipe1, b_nm, b_un, b_nil, b_cnm, b_cun, Option.bind_some, List.set_cons_zero, List.set_cons_succ, List.length_cons, List.length_nil, List.nil_append, List.cons_append, List.append_nil, List.isEmpty_cons, List.isEmpty_nil, true_and, and_true, false_and, and_false, true_implies, forall_const, not_true_eq_false, not_false_eq_true, implies_true, decide_eq_true_eq, decide_eq_false_iff_not, Bool.not_eq_true', Bool.not_eq_false', Bool.not_true, Bool.not_false, if_true, if_false, Bool.false_eq_true, Bool.true_eq_false, reduceCtorEq, false_implies, eq_self]
    refine draw_w F5 (by decide) (by decide) fun w S6 w0 w1 F6 _ => ?_
    simp only [↓reduceIte, ↓W_ok, ↓W_exn, ↓W_var0, ↓W_varS, ↓W_K, ↓W_bin, ↓W_un, ↓W_aNil, ↓W_aCons, ↓W_arg, ↓W_call, ↓W_of, ↓WB_test, ↓tc_bl, ↓WB_tru, ↓trc, ↓WB_and, ↓WB_or, ↓WB_not, ↓W_if, ↓W_andV, ↓W_orV, ↓W_notV, ↓WM_some, ↓WM_none, ↓WO_some, ↓tr_bl, ↓tr_non, ↓tr_int, ↓tr_tup, ↓tr_rol, ↓WS_nx, ↓WS_rt, ↓WS_ct, ↓WS_bk, ↓WS_exn, ↓WS_seq, ↓WS_nil, ↓WS_retN, ↓WS_break, ↓WS_cont, ↓WS_expr, ↓WS_ret, ↓WS_if, ↓WS_set, ↓WS_par, ↓WS_asg, ↓WS_gSet, ↓WS_gN, ↓WS_gC, ↓WS_gUn, ↓WS_gSub, ↓WS_aug, ↓o_add, ↓o_iadd, ↓o_sub, ↓o_neg, ↓o_mul, ↓o_mod, ↓o_div, ↓o_pow, ↓o_addT, ↓o_addS, ↓o_addL, ↓o_lt, ↓o_le, ↓o_gt, ↓o_ge, ↓o_eq, ↓o_ne, ↓o_eqS, ↓o_neS, ↓o_eqB, ↓o_neB, ↓o_eqT, ↓o_neT, ↓o_eqN, ↓o_neN, ↓o_ltT, ↓o_leT, ↓o_is, ↓o_isnot, ↓o_isB, ↓o_isnotB, ↓o_inT, ↓o_ninT, ↓o_inL, ↓o_ninL, ↓o_ixT, ↓o_ixR, ↓o_ixL, ↓o_rev, ↓o_ixS, ↓o_str, ↓o_strS, ↓o_set, ↓o_lenT, ↓o_lenR, ↓o_lenL, ↓o_lenS, ↓o_int, ↓o_intT, ↓o_intF, ↓o_abs, ↓o_max, ↓o_min, ↓o_tuple, ↓o_listXt, ↓o_listXr, ↓o_listXl, ↓o_listXs, ↓o_sortedXt, ↓o_tup0, ↓o_tup1, ↓o_tup2, ↓o_tup3, ↓o_tup4, ↓o_tup5, ↓o_tup6, ↓o_lst0, ↓o_lst1, ↓o_lst2, ↓o_lst3, ↓o_lst4, ↓o_lst5, ↓o_lst6, ↓o_sum, ↓W_meth, ↓o_append, ↓o_extend, ↓o_popAt, ↓W_cut, ↓W_noPart, ↓W_part, ↓o_cutT, ↓o_cutR, ↓o_cutL, ↓W_isi, ↓W_ch, ↓WS_for, ↓WI_iter, ↓WI_range1, ↓WI_range2, ↓WI_range3, ↓WI_enum, ↓WI_zip2, ↓WI_zip3, ↓W_callK, ↓WS_f0, ↓WS_f1, ↓W_alloc, ↓W_ofL, ↓W_comp, ↓WB_yes, ↓W_c0, ↓W_cx1, ↓W_cg0, ↓W_cg1, ↓W_listRg, ↓W_tupRg, ↓W_rRange1, ↓W_rRange2, Option.isSome_some, z2_t, z3_t, perm_nil, perm_cons, List.getD_cons_zero, List.getD_cons_succ, o_intT, o_intF, o_intB, o_ixL, o_ixT, beq_self_eq_true, decide_true, decide_false, okEq, okCmp, okIn, D.fits, D.fitsL, D.dep, D.depL, D.eqv, D.eqvL, D.alike, D.alikeL, isBl_bl, isN_non, isN_bl, isN_int, isN_str, isN_tup, isN_rol, isN_loc, Nat.reduceAdd, Nat.reduceSub, Nat.max_self, Nat.min_self, Nat.max_zero, Nat.zero_max, Nat.min_zero, Nat.zero_min, ty_non, ty_bl, ty_int, ty_str, ty_tup, ty_rol, ty_loc, kb_bool_bool, kb_bool_int, kb_bool_str, kb_bool_tuple, kb_bool_list, kb_int_bool, kb_int_int, kb_int_str, kb_int_tuple, kb_int_list, kb_str_bool, kb_str_int, kb_str_str, kb_str_tuple, kb_str_list, kb_tuple_bool, kb_tuple_int, kb_tuple_str, kb_tuple_tuple, kb_tuple_list, kb_list_bool, kb_list_int, kb_list_str, kb_list_tuple, kb_list_list, kb_NoneType_bool, kb_NoneType_int, kb_NoneType_str, kb_NoneType_tuple, kb_NoneType_list, Nat.zero_add, c02, lstAt_setE, Option.map_some, lstAt_set_ne, ne_eq, Nat.reduceEqDiff, Nat.one_ne_zero, Nat.zero_ne_one, ix_1_0, ix_2_0, ix_2_1, ix_3_0, ix_3_1, ix_3_2, ix_4_0, ix_4_1, ix_4_2, ix_4_3, ix_5_0, ix_5_1, ix_5_2, ix_5_3, ix_5_4, ix_6_0, ix_6_1, ix_6_2, ix_6_3, ix_6_4, ix_6_5, Nat.reduceLeDiff, Int.reduceAdd, Int.reduceSub, Int.reduceMul, Int.reduceNeg, Int.reducePow, Int.reduceLT, Int.reduceLE, Int.reduceEq, Int.reduceToNat, Bool.and_true, Bool.true_and, Bool.and_self, Bool.and_false, Bool.false_and, Bool.and_eq_true, Bool.and_eq_false_imp, and_self, WS_qdn, WS_qdr, WS_qde, WS_qdb, WS_qdc, qn1, qn2, qn3, qn4, qn5, qk1, qk5, lq1, lq2, lq3, lq4, lq5, intD_int, items_tup, items_rol, items_loc, listOf_loc, listOf_rol, isL_loc, nd_non, nd_bl, nd_int, nd_str, nd_tup, nd_rol, noDct_loc, at0, at1, at2, at3, at4, at5, atl1, atl2, atl3, atl4, lstAt_new, lstAt_h0, lstAt_h1, lstAt_h2, lstAt_h3, it_tup, it_rol, kTup_eq, kLen_eq, wipe0, wipe1, b_nm, b_un, b_nil, b_cnm, b_cun, Option.bind_some, List.set_cons_zero, List.set_cons_succ, List.length_cons, List.length_nil, List.nil_append, List.cons_append, List.append_nil, List.isEmpty_cons, List.isEmpty_nil, true_and, and_true, false_and, and_false, true_implies, forall_const, not_true_eq_false, not_false_eq_true, implies_true, decide_eq_true_eq, decide_eq_false_iff_not, Bool.not_eq_true', Bool.not_eq_false', Bool.not_true, Bool.not_false, if_true, if_false, Bool.false_eq_true, Bool.true_eq_false, reduceCtorEq, false_implies, eq_self]
    refine ⟨by constructor <;> omega, ?_⟩
    refine W_cMap (fun _ y => ∃ a, y = shD a ∧ a.length = fs.length) (fun S' => FlowOk S') F6 (by rw [intsTo_len, sizeLine_eq]; simp; omega) (fun _ _ => trivial) ?_ ?_
    · rintro d S7 - F7
      simp only [↓reduceIte, ↓W_ok, ↓W_exn, ↓W_var0, ↓W_varS, ↓W_K, ↓W_bin, ↓W_un, ↓W_aNil, ↓W_aCons, ↓W_arg, ↓W_call, ↓W_of, ↓WB_test, ↓tc_bl, ↓WB_tru, ↓trc, ↓WB_and, ↓WB_or, ↓WB_not, ↓W_if, ↓W_andV, ↓W_orV, ↓W_notV, ↓WM_some, ↓WM_none, ↓WO_some, ↓tr_bl, ↓tr_non, ↓tr_int, ↓tr_tup, ↓tr_rol, ↓WS_nx, ↓WS_rt, ↓WS_ct, ↓WS_bk, ↓WS_exn, ↓WS_seq, ↓WS_nil, ↓WS_retN, ↓WS_break, ↓WS_cont, ↓WS_expr, ↓WS_ret, ↓WS_if, ↓WS_set, ↓WS_par, ↓WS_asg, ↓WS_gSet, ↓WS_gN, ↓WS_gC, ↓WS_gUn, ↓WS_gSub, ↓WS_aug, ↓o_add, ↓o_iadd, ↓o_sub, ↓o_neg, ↓o_mul, ↓o_mod, ↓o_div, ↓o_pow, ↓o_addT, ↓o_addS, ↓o_addL, ↓o_lt, ↓o_le, ↓o_gt, ↓o_ge, ↓o_eq, ↓o_ne, ↓o_eqS, ↓o_neS, ↓o_eqB, ↓o_neB, ↓o_eqT, ↓o_neT, ↓o_eqN, ↓o_neN, ↓o_ltT, ↓o_leT, ↓o_is, ↓o_isnot, ↓o_isB, ↓o_isnotB, ↓o_inT, ↓o_ninT, ↓o_inL, ↓o_ninL, ↓o_ixT, ↓o_ixR, ↓o_ixL, ↓o_rev, ↓o_ixS, ↓o_str, ↓o_strS, ↓o_set, ↓o_lenT, ↓o_lenR, ↓o_lenL, ↓o_lenS, ↓o_int, ↓o_intT, ↓o_intF, ↓o_abs, ↓o_max, ↓o_min, ↓o_tuple, ↓o_listXt, ↓o_listXr, ↓o_listXl, ↓o_listXs, ↓o_sortedXt, ↓o_tup0, ↓o_tup1, ↓o_tup2, ↓o_tup3, ↓o_tup4, ↓o_tup5, ↓o_tup6, ↓o_lst0, ↓o_lst1, ↓o_lst2, ↓o_lst3, ↓o_lst4, ↓o_lst5, ↓o_lst6, ↓o_sum, ↓W_meth, ↓o_append, ↓o_extend, ↓o_popAt, ↓W_cut, ↓W_noPart, ↓W_part, ↓o_cutT, ↓o_cutR, ↓o_cutL, ↓W_isi, ↓W_ch, ↓WS_for, ↓WI_iter, ↓WI_range1, ↓WI_range2, ↓WI_range3, ↓WI_enum, ↓WI_zip2, ↓WI_zip3, ↓W_callK, ↓WS_f0, ↓WS_f1, ↓W_alloc, ↓W_ofL, ↓W_comp, ↓WB_yes, ↓W_c0, ↓W_cx1, ↓W_cg0, ↓W_cg1, ↓W_listRg, ↓W_tupRg, ↓W_rRange1, ↓W_rRange2, Option.isSome_some, z2_t, z3_t, perm_nil, perm_cons, List.getD_cons_zero, List.getD_cons_succ, o_intT, o_intF, o_intB, o_ixL, o_ixT, beq_self_eq_true, decide_true, decide_false, okEq, okCmp, okIn, D.fits, D.fitsL, D.dep, D.depL, D.eqv, D.eqvL, D.alike, D.alikeL, isBl_bl, isN_non, isN_bl, isN_int, isN_str, isN_tup, isN_rol, isN_loc, Nat.reduceAdd, Nat.reduceSub, Nat.max_self, Nat.min_self, Nat.max_zero, Nat.zero_max, Nat.min_zero, Nat.zero_min, ty_non, ty_bl, ty_int, ty_str, ty_tup, ty_rol, ty_loc, kb_bool_bool, kb_bool_int, kb_bool_str, kb_bool_tuple, kb_bool_list, kb_int_bool, kb_int_int, kb_int_str, kb_int_tuple, kb_int_list, kb_str_bool, kb_str_int, kb_str_str, kb_str_tuple, kb_str_list, kb_tuple_bool, kb_tuple_int, kb_tuple_str, kb_tuple_tuple, kb_tuple_list, kb_list_bool, kb_list_int, kb_list_str, kb_list_tuple, kb_list_list, kb_NoneType_bool, kb_NoneType_int, kb_NoneType_str, kb_NoneType_tuple, kb_NoneType_list, Nat.zero_add, c02, lstAt_setE, Option.map_some, lstAt_set_ne, ne_eq, Nat.reduceEqDiff, Nat.one_ne_zero, Nat.zero_ne_one, ix_1_0, ix_2_0, ix_2_1, ix_3_0, ix_3_1, ix_3_2, ix_4_0, ix_4_1, ix_4_2, ix_4_3, ix_5_0, ix_5_1, ix_5_2, ix_5_3, ix_5_4, ix_6_0, ix_6_1, ix_6_2, ix_6_3, ix_6_4, ix_6_5, Nat.reduceLeDiff, Int.reduceAdd, Int.reduceSub, Int.reduceMul, Int.reduceNeg, Int.reducePow, Int.reduceLT, Int.reduceLE, Int.reduceEq, Int.reduceToNat, Bool.and_true, Bool.true_and, Bool.and_self, Bool.and_false, Bool.false_and, Bool.and_eq_true, Bool.and_eq_false_imp, and_self, WS_qdn, WS_qdr, WS_qde, WS_qdb, WS_qdc, qn1, qn2, qn3, qn4, qn5, qk1, qk5, lq1, lq2, lq3, lq4, lq5, intD_int, items_tup, items_rol, items_loc, listOf_loc, listOf_rol, isL_loc, nd_non, nd_bl, nd_int, nd_str, nd_tup, nd_rol, noDct_loc, at0, at1, at2, at3, at4, at5, atl1, atl2, atl3, atl4, lstAt_new, lstAt_h0, lstAt_h1, lstAt_h2, lstAt_h3, it_tup, it_rol, kTup_eq, kLen_eq, wipe0, wipe1, b_nm, b_un, b_nil, b_cnm, b_cun, Option.bind_some, List.set_cons_zero, List.set_cons_succ, List.length_cons, List.length_nil, List.nil_append, List.cons_append, List.append_nil, List.isEmpty_cons, List.isEmpty_nil, true_and, and_true, false_and, and_false, true_implies, forall_const, not_true_eq_false, not_false_eq_true, implies_true, decide_eq_true_eq, decide_eq_false_iff_not, Bool.not_eq_true', Bool.not_eq_false', Bool.not_true, Bool.not_false, if_true, if_false, Bool.false_eq_true, Bool.true_eq_false, reduceCtorEq, false_implies, eq_self]
      refine sheet_w F7 (most := 6) (by decide) (fun f hfm => (hf f hfm).sh) (by omega) fun as S8 hal F8 _ => ?_
      exact ⟨⟨as, rfl, hal⟩, F8⟩
    · rintro ys S7 F7 hy
      obtain ⟨ts, rfl, hA, htl⟩ := sheets_of hy
      rw [intsTo_len] at htl
      simp only [↓reduceIte, ↓W_ok, ↓W_exn, ↓W_var0, ↓W_varS, ↓W_K, ↓W_bin, ↓W_un, ↓W_aNil, ↓W_aCons, ↓W_arg, ↓W_call, ↓W_of, ↓WB_test, ↓tc_bl, ↓WB_tru, ↓trc, ↓WB_and, ↓WB_or, ↓WB_not, ↓W_if, ↓W_andV, ↓W_orV, ↓W_notV, ↓WM_some, ↓WM_none, ↓WO_some, ↓tr_bl, ↓tr_non, ↓tr_int, ↓tr_tup, ↓tr_rol, ↓WS_nx, ↓WS_rt, ↓WS_ct, ↓WS_bk, ↓WS_exn, ↓WS_seq, ↓WS_nil, ↓WS_retN, ↓WS_break, ↓WS_cont, ↓WS_expr, ↓WS_ret, ↓WS_if, ↓WS_set, ↓WS_par, ↓WS_asg, ↓WS_gSet, ↓WS_gN, ↓WS_gC, ↓WS_gUn, ↓WS_gSub, ↓WS_aug, ↓o_add, ↓o_iadd, ↓o_sub, ↓o_neg, ↓o_mul, ↓o_mod, ↓o_div, ↓o_pow, ↓o_addT, ↓o_addS, ↓o_addL, ↓o_lt, ↓o_le, ↓o_gt, ↓o_ge, ↓o_eq, ↓o_ne, ↓o_eqS, ↓o_neS, ↓o_eqB, ↓o_neB, ↓o_eqT, ↓o_neT, ↓o_eqN, ↓o_neN, ↓o_ltT, ↓o_leT, ↓o_is, ↓o_isnot, ↓o_isB, ↓o_isnotB, ↓o_inT, ↓o_ninT, ↓o_inL, ↓o_ninL, ↓o_ixT, ↓o_ixR, ↓o_ixL, ↓o_rev, ↓o_ixS, ↓o_str, ↓o_strS, ↓o_set, ↓o_lenT, ↓o_lenR, ↓o_lenL, ↓o_lenS, ↓o_int, ↓o_intT, ↓o_intF, ↓o_abs, ↓o_max, ↓o_min, ↓o_tuple, ↓o_listXt, ↓o_listXr, ↓o_listXl, ↓o_listXs, ↓o_sortedXt, ↓o_tup0, ↓o_tup1, ↓o_tup2, ↓o_tup3, ↓o_tup4, ↓o_tup5, ↓o_tup6, ↓o_lst0, ↓o_lst1, ↓o_lst2, ↓o_lst3, ↓o_lst4, ↓o_lst5, ↓o_lst6, ↓o_sum, ↓W_meth, ↓o_append, ↓o_extend, ↓o_popAt, ↓W_cut, ↓W_noPart, ↓W_part, ↓o_cutT, ↓o_cutR, ↓o_cutL, ↓W_isi, ↓W_ch, ↓WS_for, ↓WI_iter, ↓WI_range1, ↓WI_range2, ↓WI_range3, ↓WI_enum, ↓WI_zip2, ↓WI_zip3, ↓W_callK, ↓WS_f0, ↓WS_f1, ↓W_alloc, ↓W_ofL, ↓W_comp, ↓WB_yes, ↓W_c0, ↓W_cx1, ↓W_cg0, ↓W_cg1, ↓W_listRg, ↓W_tupRg, ↓W_rRange1, ↓W_rRange2, Option.isSome_some, z2_t, z3_t, perm_nil, perm_cons, List.getD_cons_zero, List.getD_cons_succ, o_intT, o_intF, o_intB, o_ixL, o_ixT, beq_self_eq_true, decide_true, decide_false, okEq, okCmp, okIn, D.fits, D.fitsL, D.dep, D.depL, D.eqv, D.eqvL, D.alike, D.alikeL, isBl_bl, isN_non, isN_bl, isN_int, isN_str, isN_tup, isN_rol, isN_loc, Nat.reduceAdd, Nat.reduceSub, Nat.max_self, Nat.min_self, Nat.max_zero, Nat.zero_max, Nat.min_zero, Nat.zero_min, ty_non, ty_bl, ty_int, ty_str, ty_tup, ty_rol, ty_loc, kb_bool_bool, kb_bool_int, kb_bool_str, kb_bool_tuple, kb_bool_list, kb_int_bool, kb_int_int, kb_int_str, kb_int_tuple, kb_int_list, kb_str_bool, kb_str_int, kb_str_str, kb_str_tuple, kb_str_list, kb_tuple_bool, kb_tuple_int, kb_tuple_str, kb_tuple_tuple, kb_tuple_list, kb_list_bool, kb_list_int, kb_list_str, kb_list_tuple, kb_list_list, kb_NoneType_bool, kb_NoneType_int, kb_NoneType_str, kb_NoneType_tuple, kb_NoneType_list, Nat.zero_add, c02, lstAt_setE, Option.map_some, lstAt_set_ne, ne_eq, Nat.reduceEqDiff, Nat.one_ne_zero, Nat.zero_ne_one, ix_1_0, ix_2_0, ix_2_1, ix_3_0, ix_3_1, ix_3_2, ix_4_0, ix_4_1, ix_4_2, ix_4_3, ix_5_0, ix_5_1, ix_5_2, ix_5_3, ix_5_4, ix_6_0, ix_6_1, ix_6_2, ix_6_3, ix_6_4, ix_6_5, Nat.reduceLeDiff, Int.reduceAdd, Int.reduceSub, Int.reduceMul, Int.reduceNeg, Int.reducePow, Int.reduceLT, Int.reduceLE, Int.reduceEq, Int.reduceToNat, Bool.and_true, Bool.true_and, Bool.and_self, Bool.and_false, Bool.false_and, Bool.and_eq_true, Bool.and_eq_false_imp, and_self, WS_qdn, WS_qdr, WS_qde, WS_qdb, WS_qdc, qn1, qn2, qn3, qn4, qn5, qk1, qk5, lq1, lq2, lq3, lq4, lq5, intD_int, items_tup, items_rol, items_loc, listOf_loc, listOf_rol, isL_loc, nd_non, nd_bl, nd_int, nd_str, nd_tup, nd_rol, noDct_loc, at0, at1, at2, at3, at4, at5, atl1, atl2, atl3, atl4, lstAt_new, lstAt_h0, lstAt_h1, lstAt_h2, lstAt_h3, it_tup, it_rol, kTup_eq, kLen_eq, wipe0, wipe1, b_nm, b_un, b_nil, b_cnm, b_cun, Option.bind_some, List.set_cons_zero, List.set_cons_succ, List.length_cons, List.length_nil, List.nil_append, List.cons_append, List.append_nil, List.isEmpty_cons, List.isEmpty_nil, true_and, and_true, false_and, and_false, true_implies, forall_const, not_true_eq_false, not_false_eq_true, implies_true, decide_eq_true_eq, decide_eq_false_iff_not, Bool.not_eq_true', Bool.not_eq_false', Bool.not_true, Bool.not_false, if_true, if_false, Bool.false_eq_true, Bool.true_eq_false, reduceCtorEq, false_implies, eq_self]
      refine middles_w F7 (by omega) hA (by omega) (by omega) fun S8 F8 _ => ?_
      simp only [↓reduceIte, ↓W_ok, ↓W_exn, ↓W_var0, ↓W_varS, ↓W_K, ↓W_bin, ↓W_un, ↓W_aNil, ↓W_aCons, ↓W_arg, ↓W_call, ↓W_of, ↓WB_test, ↓tc_bl, ↓WB_tru, ↓trc, ↓WB_and, ↓WB_or, ↓WB_not, ↓W_if, ↓W_andV, ↓W_orV, ↓W_notV, ↓WM_some, ↓WM_none, ↓WO_some, ↓tr_bl, ↓tr_non, ↓tr_int, ↓tr_tup, ↓tr_rol, ↓WS_nx, ↓WS_rt, ↓WS_ct, ↓WS_bk, ↓WS_exn, ↓WS_seq, ↓WS_nil, ↓WS_retN, ↓WS_break, ↓WS_cont, ↓WS_expr, ↓WS_ret, ↓WS_if, ↓WS_set, ↓WS_par, ↓WS_asg, ↓WS_gSet, ↓WS_gN, ↓WS_gC, ↓WS_gUn, ↓WS_gSub, ↓WS_aug, ↓o_add, ↓o_iadd, ↓o_sub, ↓o_neg, ↓o_mul, ↓o_mod, ↓o_div, ↓o_pow, ↓o_addT, ↓o_addS, ↓o_addL, ↓o_lt, ↓o_le, ↓o_gt, ↓o_ge, ↓o_eq, ↓o_ne, ↓o_eqS, ↓o_neS, ↓o_eqB, ↓o_neB, ↓o_eqT, ↓o_neT, ↓o_eqN, ↓o_neN, ↓o_ltT, ↓o_leT, ↓o_is, ↓o_isnot, ↓o_isB, ↓o_isnotB, ↓o_inT, ↓o_ninT, ↓o_inL, ↓o_ninL, ↓o_ixT, ↓o_ixR, ↓o_ixL, ↓o_rev, ↓o_ixS, ↓o_str, ↓o_strS, ↓o_set, ↓o_lenT, ↓o_lenR, ↓o_lenL, ↓o_lenS, ↓o_int, ↓o_intT, ↓o_intF, ↓o_abs, ↓o_max, ↓o_min, ↓o_tuple, ↓o_listXt, ↓o_listXr, ↓o_listXl, ↓o_listXs, ↓o_sortedXt, ↓o_tup0, ↓o_tup1, ↓o_tup2, ↓o_tup3, ↓o_tup4, ↓o_tup5, ↓o_tup6, ↓o_lst0, ↓o_lst1, ↓o_lst2, ↓o_lst3, ↓o_lst4, ↓o_lst5, ↓o_lst6, ↓o_sum, ↓W_meth, ↓o_append, ↓o_extend, ↓o_popAt, ↓W_cut, ↓W_noPart, ↓W_part, ↓o_cutT, ↓o_cutR, ↓o_cutL, ↓W_isi, ↓W_ch, ↓WS_for, ↓WI_iter, ↓WI_range1, ↓WI_range2, ↓WI_range3, ↓WI_enum, ↓WI_zip2, ↓WI_zip3, ↓W_callK, ↓WS_f0, ↓WS_f1, ↓W_alloc, ↓W_ofL, ↓W_comp, ↓WB_yes, ↓W_c0, ↓W_cx1, ↓W_cg0, ↓W_cg1, ↓W_listRg, ↓W_tupRg, ↓W_rRange1, ↓W_rRange2, Option.isSome_some, z2_t, z3_t, perm_nil, perm_cons, List.getD_cons_zero, List.getD_cons_succ, o_intT, o_intF, o_intB, o_ixL, o_ixT, beq_self_eq_true, decide_true, decide_false, okEq, okCmp, okIn, D.fits, D.fitsL, D.dep, D.depL, D.eqv, D.eqvL, D.alike, D.alikeL, isBl_bl, isN_non, isN_bl, isN_int, isN_str, isN_tup, isN_rol, isN_loc, Nat.reduceAdd, Nat.reduceSub, Nat.max_self, Nat.min_self, Nat.max_zero, Nat.zero_max, Nat.min_zero, Nat.zero_min, ty_non, ty_bl, ty_int, ty_str, ty_tup, ty_rol, ty_loc, kb_bool_bool, kb_bool_int, kb_bool_str, kb_bool_tuple, kb_bool_list, kb_int_bool, kb_int_int, kb_int_str, kb_int_tuple, kb_int_list, kb_str_bool, kb_str_int, kb_str_str, kb_str_tuple, kb_str_list, kb_tuple_bool, kb_tuple_int, kb_tuple_str, kb_tuple_tuple, kb_tuple_list, kb_list_bool, kb_list_int, kb_list_str, kb_list_tuple, kb_list_list, kb_NoneType_bool, kb_NoneType_int, kb_NoneType_str, kb_NoneType_tuple, kb_NoneType_list, Nat.zero_add, c02, lstAt_setE, Option.map_some, lstAt_set_ne, ne_eq, Nat.reduceEqDiff, Nat.one_ne_zero, Nat.zero_ne_one, ix_1_0, ix_2_0, ix_2_1, ix_3_0, ix_3_1, ix_3_2, ix_4_0, ix_4_1, ix_4_2, ix_4_3, ix_5_0, ix_5_1, ix_5_2, ix_5_3, ix_5_4, ix_6_0, ix_6_1, ix_6_2, ix_6_3, ix_6_4, ix_6_5, Nat.reduceLeDiff, Int.reduceAdd, Int.reduceSub, Int.reduceMul, Int.reduceNeg, Int.reducePow, Int.reduceLT, Int.reduceLE, Int.reduceEq, Int.reduceToNat, Bool.and_true, Bool.true_and, Bool.and_self, Bool.and_false, Bool.false_and, Bool.and_eq_true, Bool.and_eq_false_imp, and_self, WS_qdn, WS_qdr, WS_qde, WS_qdb, WS_qdc, qn1, qn2, qn3, qn4, qn5, qk1, qk5, lq1, lq2, lq3, lq4, lq5, intD_int, items_tup, items_rol, items_loc, listOf_loc, listOf_rol, isL_loc, nd_non, nd_bl, nd_int, nd_str, nd_tup, nd_rol, noDct_loc, at0, at1, at2, at3, at4, at5, atl1, atl2, atl3, atl4, lstAt_new, lstAt_h0, lstAt_h1, lstAt_h2, lstAt_h3, it_tup, it_rol, kTup_eq, kLen_eq, wipe0, wipe1, b_nm, b_un, b_nil, b_cnm, b_cun, Option.bind_some, List.set_cons_zero, List.set_cons_succ, List.length_cons, List.length_nil, List.nil_append, List.cons_append, List.append_nil, List.isEmpty_cons, List.isEmpty_nil, true_and, and_true, false_and, and_false, true_implies, forall_const, not_true_eq_false, not_false_eq_true, implies_true, decide_eq_true_eq, decide_eq_false_iff_not, Bool.not_eq_true', Bool.not_eq_false', Bool.not_true, Bool.not_false, if_true, if_false, Bool.false_eq_true, Bool.true_eq_false, reduceCtorEq, false_implies, eq_self]
      refine draw_w F8 (by decide) (by decide) fun u S9 u0 u1 F9 _ => ?_
      simp only [↓reduceIte, ↓W_ok, ↓W_exn, ↓W_var0, ↓W_varS, ↓W_K, ↓W_bin, ↓W_un, ↓W_aNil, ↓W_aCons, ↓W_arg, ↓W_call, ↓W_of, ↓WB_test, ↓tc_bl, ↓WB_tru, ↓trc, ↓WB_and, ↓WB_or, ↓WB_not, ↓W_if, ↓W_andV, ↓W_orV, ↓W_notV, ↓WM_some, ↓WM_none, ↓WO_some, ↓tr_bl, ↓tr_non, ↓tr_int, ↓tr_tup, ↓tr_rol, ↓WS_nx, ↓WS_rt, ↓WS_ct, ↓WS_bk, ↓WS_exn, ↓WS_seq, ↓WS_nil, ↓WS_retN, ↓WS_break, ↓WS_cont, ↓WS_expr, ↓WS_ret, ↓WS_if, ↓WS_set, ↓WS_par, ↓WS_asg, ↓WS_gSet, ↓WS_gN, ↓WS_gC, ↓WS_gUn, ↓WS_gSub, ↓WS_aug, ↓o_add, ↓o_iadd, ↓o_sub, ↓o_neg, ↓o_mul, ↓o_mod, ↓o_div, ↓o_pow, ↓o_addT, ↓o_addS, ↓o_addL, ↓o_lt, ↓o_le, ↓o_gt, ↓o_ge, ↓o_eq, ↓o_ne, ↓o_eqS, ↓o_neS, ↓o_eqB, ↓o_neB, ↓o_eqT, ↓o_neT, ↓o_eqN, ↓o_neN, ↓o_ltT, ↓o_leT, ↓o_is, ↓o_isnot, ↓o_isB, ↓o_isnotB, ↓o_inT, ↓o_ninT, ↓o_inL, ↓o_ninL, ↓o_ixT, ↓o_ixR, ↓o_ixL, ↓o_rev, ↓o_ixS, ↓o_str, ↓o_strS, ↓o_set, ↓o_lenT, ↓o_lenR, ↓o_lenL, ↓o_lenS, ↓o_int, ↓o_intT, ↓o_intF, ↓o_abs, ↓o_max, ↓o_min, ↓o_tuple, ↓o_listXt, ↓o_listXr, ↓o_listXl, ↓o_listXs, ↓o_sortedXt, ↓o_tup0, ↓o_tup1, ↓o_tup2, ↓o_tup3, ↓o_tup4, ↓o_tup5, ↓o_tup6, ↓o_lst0, ↓o_lst1, ↓o_lst2, ↓o_lst3, ↓o_lst4, ↓o_lst5, ↓o_lst6, ↓o_sum, ↓W_meth, ↓o_append, ↓o_extend, ↓o_popAt, ↓W_cut, ↓W_noPart, ↓W_part, ↓o_cutT, ↓o_cutR, ↓o_cutL, ↓W_isi, ↓W_ch, ↓WS_for, ↓WI_iter, ↓WI_range1, ↓WI_range2, ↓WI_range3, ↓WI_enum, ↓WI_zip2, ↓WI_zip3, ↓W_callK, ↓WS_f0, ↓WS_f1, ↓W_alloc, ↓W_ofL, ↓W_comp, ↓WB_yes, ↓W_c0, ↓W_cx1, ↓W_cg0, ↓W_cg1, ↓W_listRg, ↓W_tupRg, ↓W_rRange1, ↓W_rRange2, Option.isSome_some, z2_t, z3_t, perm_nil, perm_cons, List.getD_cons_zero, List.getD_cons_succ, o_intT, o_intF, o_intB, o_ixL, o_ixT, beq_self_eq_true, decide_true, decide_false, okEq, okCmp, okIn, D.fits, D.fitsL, D.dep, D.depL, D.eqv, D.eqvL, D.alike, D.alikeL, isBl_bl, isN_non, isN_bl, isN_int, isN_str, isN_tup, isN_rol, isN_loc, Nat.reduceAdd, Nat.reduceSub, Nat.max_self, Nat.min_self, Nat.max_zero, Nat.zero_max, Nat.min_zero, Nat.zero_min, ty_non, ty_bl, ty_int, ty_str, ty_tup, ty_rol, ty_loc, kb_bool_bool, kb_bool_int, kb_bool_str, kb_bool_tuple, kb_bool_list, kb_int_bool, kb_int_int, kb_int_str, kb_int_tuple, kb_int_list, kb_str_bool, kb_str_int, kb_str_str, kb_str_tuple, kb_str_list, kb_tuple_bool, kb_tuple_int, kb_tuple_str, kb_tuple_tuple, kb_tuple_list, kb_list_bool, kb_list_int, kb_list_str, kb_list_tuple, kb_list_list, kb_NoneType_bool, kb_NoneType_int, kb_NoneType_str, kb_NoneType_tuple, kb_NoneType_list, Nat.zero_add, c02, lstAt_setE, Option.map_some, lstAt_set_ne, ne_eq, Nat.reduceEqDiff, Nat.one_ne_zero, Nat.zero_ne_one, ix_1_0, ix_2_0, ix_2_1, ix_3_0, ix_3_1, ix_3_2, ix_4_0, ix_4_1, ix_4_2, ix_4_3, ix_5_0, ix_5_1, ix_5_2, ix_5_3, ix_5_4, ix_6_0, ix_6_1, ix_6_2, ix_6_3, ix_6_4, ix_6_5, Nat.reduceLeDiff, Int.reduceAdd, Int.reduceSub, Int.reduceMul, Int.reduceNeg, Int.reducePow, Int.reduceLT, Int.reduceLE, Int.reduceEq, Int.reduceToNat, Bool.and_true, Bool.true_and, Bool.and_self, Bool.and_false, Bool.false_and, Bool.and_eq_true, Bool.and_eq_false_imp, and_self, WS_qdn, WS_qdr, WS_qde, WS_qdb, WS_qdc, qn1, qn2, qn3, qn4, qn5, qk1, qk5, lq1, lq2, lq3, lq4, lq5, intD_int, items_tup, items_rol, items_loc, listOf_loc, listOf_rol, isL_loc, nd_non, nd_bl, nd_int, nd_str, nd_tup, nd_rol, noDct_loc, at0, at1, at2, at3, at4, at5, atl1, atl2, atl3, atl4, lstAt_new, lstAt_h0, lstAt_h1, lstAt_h2, lstAt_h3, it_tup, it_rol, kTup_eq, kLen_eq, wipe0, wipe1, b_nm, b_un, b_nil, b_cnm, b_cun, Option.bind_some, List.set_cons_zero, List.set_cons_succ, List.length_cons, List.length_nil, List.nil_append, List.cons_append, List.append_nil, List.isEmpty_cons, List.isEmpty_nil, true_and, and_true, false_and, and_false, true_implies, forall_const, not_true_eq_false, not_false_eq_true, implies_true, decide_eq_true_eq, decide_eq_false_iff_not, Bool.not_eq_true', Bool.not_eq_false', Bool.not_true, Bool.not_false, if_true, if_false, Bool.false_eq_true, Bool.true_eq_false, reduceCtorEq, false_implies, eq_self]
      refine cooked_w F9 (by omega) hA (by omega) (by omega) u0 (by omega) fun S10 F10 _ => ?_
      simp only [↓reduceIte, ↓W_ok, ↓W_exn, ↓W_var0, ↓W_varS, ↓W_K, ↓W_bin, ↓W_un, ↓W_aNil, ↓W_aCons, ↓W_arg, ↓W_call, ↓W_of, ↓WB_test, ↓tc_bl, ↓WB_tru, ↓trc, ↓WB_and, ↓WB_or, ↓WB_not, ↓W_if, ↓W_andV, ↓W_orV, ↓W_notV, ↓WM_some, ↓WM_none, ↓WO_some, ↓tr_bl, ↓tr_non, ↓tr_int, ↓tr_tup, ↓tr_rol, ↓WS_nx, ↓WS_rt, ↓WS_ct, ↓WS_bk, ↓WS_exn, ↓WS_seq, ↓WS_nil, ↓WS_retN, ↓WS_break, ↓WS_cont, ↓WS_expr, ↓WS_ret, ↓WS_if, ↓WS_set, ↓WS_par, ↓WS_asg, ↓WS_gSet, ↓WS_gN, ↓WS_gC, ↓WS_gUn, ↓WS_gSub, ↓WS_aug, ↓o_add, ↓o_iadd, ↓o_sub, ↓o_neg, ↓o_mul, ↓o_mod, ↓o_div, ↓o_pow, ↓o_addT, ↓o_addS, ↓o_addL, ↓o_lt, ↓o_le, ↓o_gt, ↓o_ge, ↓o_eq, ↓o_ne, ↓o_eqS, ↓o_neS, ↓o_eqB, ↓o_neB, ↓o_eqT, ↓o_neT, ↓o_eqN, ↓o_neN, ↓o_ltT, ↓o_leT, ↓o_is, ↓o_isnot, ↓o_isB, ↓o_isnotB, ↓o_inT, ↓o_ninT, ↓o_inL, ↓o_ninL, ↓o_ixT, ↓o_ixR, ↓o_ixL, ↓o_rev, ↓o_ixS, ↓o_str, ↓o_strS, ↓o_set, ↓o_lenT, ↓o_lenR, ↓o_lenL, ↓o_lenS, ↓o_int, ↓o_intT, ↓o_intF, ↓o_abs, ↓o_max, ↓o_min, ↓o_tuple, ↓o_listXt, ↓o_listXr, ↓o_listXl, ↓o_listXs, ↓o_sortedXt, ↓o_tup0, ↓o_tup1, ↓o_tup2, ↓o_tup3, ↓o_tup4, ↓o_tup5, ↓o_tup6, ↓o_lst0, ↓o_lst1, ↓o_lst2, ↓o_lst3, ↓o_lst4, ↓o_lst5, ↓o_lst6, ↓o_sum, ↓W_meth, ↓o_append, ↓o_extend, ↓o_popAt, ↓W_cut, ↓W_noPart, ↓W_part, ↓o_cutT, ↓o_cutR, ↓o_cutL, ↓W_isi, ↓W_ch, ↓WS_for, ↓WI_iter, ↓WI_range1, ↓WI_range2, ↓WI_range3, ↓WI_enum, ↓WI_zip2, ↓WI_zip3, ↓W_callK, ↓WS_f0, ↓WS_f1, ↓W_alloc, ↓W_ofL, ↓W_comp, ↓WB_yes, ↓W_c0, ↓W_cx1, ↓W_cg0, ↓W_cg1, ↓W_listRg, ↓W_tupRg, ↓W_rRange1, ↓W_rRange2, Option.isSome_some, z2_t, z3_t, perm_nil, perm_cons, List.getD_cons_zero, List.getD_cons_succ, o_intT, o_intF, o_intB, o_ixL, o_ixT, beq_self_eq_true, decide_true, decide_false, okEq, okCmp, okIn, D.fits, D.fitsL, D.dep, D.depL, D.eqv, D.eqvL, D.alike, D.alikeL, isBl_bl, isN_non, isN_bl, isN_int, isN_str, isN_tup, isN_rol, isN_loc, Nat.reduceAdd, Nat.reduceSub, Nat.max_self, Nat.min_self, Nat.max_zero, Nat.zero_max, Nat.min_zero, Nat.zero_min, ty_non, ty_bl, ty_int, ty_str, ty_tup, ty_rol, ty_loc, kb_bool_bool, kb_bool_int, kb_bool_str, kb_bool_tuple, kb_bool_list, kb_int_bool, kb_int_int, kb_int_str, kb_int_tuple, kb_int_list, kb_str_bool, kb_str_int, kb_str_str, kb_str_tuple, kb_str_list, kb_tuple_bool, kb_tuple_int, kb_tuple_str, kb_tuple_tuple, kb_tuple_list, kb_list_bool, kb_list_int, kb_list_str, kb_list_tuple, kb_list_list, kb_NoneType_bool, kb_NoneType_int, kb_NoneType_str, kb_NoneType_tuple, kb_NoneType_list, Nat.zero_add, c02, lstAt_setE, Option.map_some, lstAt_set_ne, ne_eq, Nat.reduceEqDiff, Nat.one_ne_zero, Nat.zero_ne_one, ix_1_0, ix_2_0, ix_2_1, ix_3_0, ix_3_1, ix_3_2, ix_4_0, ix_4_1, ix_4_2, ix_4_3, ix_5_0, ix_5_1, ix_5_2, ix_5_3, ix_5_4, ix_6_0, ix_6_1, ix_6_2, ix_6_3, ix_6_4, ix_6_5, Nat.reduceLeDiff, Int.reduceAdd, Int.reduceSub, Int.reduceMul, Int.reduceNeg, Int.reducePow, Int.reduceLT, Int.reduceLE, Int.reduceEq, Int.reduceToNat, Bool.and_true, Bool.true_and, Bool.and_self, Bool.and_false, Bool.false_and, Bool.and_eq_true, Bool.and_eq_false_imp, and_self, WS_qdn, WS_qdr, WS_qde, WS_qdb, WS_qdc, qn1, qn2, qn3, qn4, qn5, qk1, qk5, lq1, lq2, lq3, lq4, lq5, intD_int, items_tup, items_rol, items_loc, listOf_loc, listOf_rol, isL_loc, nd_non, nd_bl, nd_int, nd_str, nd_tup, nd_rol, noDct_loc, at0, at1, at2, at3, at4, at5, atl1, atl2, atl3, atl4, lstAt_new, lstAt_h0, lstAt_h1, lstAt_h2, lstAt_h3, it_tup, it_rol, kTup_eq, kLen_eq, wipe0, wipe1, b_nm, b_un, b_nil, b_cnm, b_cun, Option.bind_some, List.set_cons_zero, List.set_cons_succ, List.length_cons, List.length_nil, List.nil_append, List.cons_append, List.append_nil, List.isEmpty_cons, List.isEmpty_nil, true_and, and_true, false_and, and_false, true_implies, forall_const, not_true_eq_false, not_false_eq_true, implies_true, decide_eq_true_eq, decide_eq_false_iff_not, Bool.not_eq_true', Bool.not_eq_false', Bool.not_true, Bool.not_false, if_true, if_false, Bool.false_eq_true, Bool.true_eq_false, reduceCtorEq, false_implies, eq_self]
      exact ⟨F10, _, _, _, _, _, _, _, _, rfl⟩
  · rintro σ S3 ⟨F3, p1, p2, p3, p4, p5, p6, p7, p8, rfl⟩
    rw [qn1, WS_seq]
    refine WS_mid (fun σ S => FlowOk S ∧ ∃ p1 p2 p3 p4 p5 p6 p7 p8, σ = [some (.rol (ns.map D.int)), some (.loc 2), p1, p2, p3, p4, p5, p6, p7, p8]) ?_ ?_
    · simp only [↓reduceIte, ↓W_ok, ↓W_exn, ↓W_var0, ↓W_varS, ↓W_K, ↓W_bin, ↓W_un, ↓W_aNil, ↓W_aCons, ↓W_arg, ↓W_call, ↓W_of, ↓WB_test, ↓tc_bl, ↓WB_tru, ↓trc, ↓WB_and, ↓WB_or, ↓WB_not, ↓W_if, ↓W_andV, ↓W_orV, ↓W_notV, ↓WM_some, ↓WM_none, ↓WO_some, ↓tr_bl, ↓tr_non, ↓tr_int, ↓tr_tup, ↓tr_rol, ↓WS_nx, ↓WS_rt, ↓WS_ct, ↓WS_bk, ↓WS_exn, ↓WS_seq, ↓WS_nil, ↓WS_retN, ↓WS_break, ↓WS_cont, ↓WS_expr, ↓WS_ret, ↓WS_if, ↓WS_set, ↓WS_par, ↓WS_asg, ↓WS_gSet, ↓WS_gN, ↓WS_gC, ↓WS_gUn, ↓WS_gSub, ↓WS_aug, ↓o_add, ↓o_iadd, ↓o_sub, ↓o_neg, ↓o_mul, ↓o_mod, ↓o_div, ↓o_pow, ↓o_addT, ↓o_addS, ↓o_addL, ↓o_lt, ↓o_le, ↓o_gt, ↓o_ge, ↓o_eq, ↓o_ne, ↓o_eqS, ↓o_neS, ↓o_eqB, ↓o_neB, ↓o_eqT, ↓o_neT, ↓o_eqN, ↓o_neN, ↓o_ltT, ↓o_leT, ↓o_is, ↓o_isnot, ↓o_isB, ↓o_isnotB, ↓o_inT, ↓o_ninT, ↓o_inL, ↓o_ninL, ↓o_ixT, ↓o_ixR, ↓o_ixL, ↓o_rev, ↓o_ixS, ↓o_str, ↓o_strS, ↓o_set, ↓o_lenT, ↓o_lenR, ↓o_lenL, ↓o_lenS, ↓o_int, ↓o_intT, ↓o_intF, ↓o_abs, ↓o_max, ↓o_min, ↓o_tuple, ↓o_listXt, ↓o_listXr, ↓o_listXl, ↓o_listXs, ↓o_sortedXt, ↓o_tup0, ↓o_tup1, ↓o_tup2, ↓o_tup3, ↓o_tup4, ↓o_tup5, ↓o_tup6, ↓o_lst0, ↓o_lst1, ↓o_lst2, ↓o_lst3, ↓o_lst4, ↓o_lst5, ↓o_lst6, ↓o_sum, ↓W_meth, ↓o_append, ↓o_extend, ↓o_popAt, ↓W_cut, ↓W_noPart, ↓W_part, ↓o_cutT, ↓o_cutR, ↓o_cutL, ↓W_isi, ↓W_ch, ↓WS_for, ↓WI_iter, ↓WI_range1, ↓WI_range2, ↓WI_range3, ↓WI_enum, ↓WI_zip2, ↓WI_zip3, ↓W_callK, ↓WS_f0, ↓WS_f1, ↓W_alloc, ↓W_ofL, ↓W_comp, ↓WB_yes, ↓W_c0, ↓W_cx1, ↓W_cg0, ↓W_cg1, ↓W_listRg, ↓W_tupRg, ↓W_rRange1, ↓W_rRange2, Option.isSome_some, z2_t, z3_t, perm_nil, perm_cons, List.getD_cons_zero, List.getD_cons_succ, o_intT, o_intF, o_intB, o_ixL, o_ixT, beq_self_eq_true, decide_true, decide_false, okEq, okCmp, okIn, D.fits, D.fitsL, D.dep, D.depL, D.eqv, D.eqvL, D.alike, D.alikeL, isBl_bl, isN_non, isN_bl, isN_int, isN_str, isN_tup, isN_rol, isN_loc, Nat.reduceAdd, Nat.reduceSub, Nat.max_self, Nat.min_self, Nat.max_zero, Nat.zero_max, Nat.min_zero, Nat.zero_min, ty_non, ty_bl, ty_int, ty_str, ty_tup, ty_rol, ty_loc, kb_bool_bool, kb_bool_int, kb_bool_str, kb_bool_tuple, kb_bool_list, kb_int_bool, kb_int_int, kb_int_str, kb_int_tuple, kb_int_list, kb_str_bool, kb_str_int, kb_str_str, kb_str_tuple, kb_str_list, kb_tuple_bool, kb_tuple_int, kb_tuple_str, kb_tuple_tuple, kb_tuple_list, kb_list_bool, kb_list_int, kb_list_str, kb_list_tuple, kb_list_list, kb_NoneType_bool, kb_NoneType_int, kb_NoneType_str, kb_NoneType_tuple, kb_NoneType_list, Nat.zero_add, c02, lstAt_setE, Option.map_some, lstAt_set_ne, ne_eq, Nat.reduceEqDiff, Nat.one_ne_zero, Nat.zero_ne_one, ix_1_0, ix_2_0, ix_2_1, ix_3_0, ix_3_1, ix_3_2, ix_4_0, ix_4_1, ix_4_2, ix_4_3, ix_5_0, ix_5_1, ix_5_2, ix_5_3, ix_5_4, ix_6_0, ix_6_1, ix_6_2, ix_6_3, ix_6_4, ix_6_5, Nat.reduceLeDiff, Int.reduceAdd, Int.reduceSub, Int.reduceMul, Int.reduceNeg, Int.reducePow, Int.reduceLT, Int.reduceLE, Int.reduceEq, Int.reduceToNat, Bool.and_true, Bool.true_and, Bool.and_self, Bool.and_false, Bool.false_and, Bool.and_eq_true, Bool.and_eq_false_imp, and_self, WS_qdn, WS_qdr, WS_qde, WS_qdb, WS_qdc, qn1, qn2, qn3, qn4, qn5, qk1, qk5, lq1, lq2, lq3, lq4, lq5, intD_int, items_tup, items_rol, items_loc, listOf_loc, listOf_rol, isL_loc, nd_non, nd_bl, nd_int, nd_str, nd_tup, nd_rol, noDct_loc, at0, at1, at2, at3, at4, at5, atl1, atl2, atl3, atl4, lstAt_new, lstAt_h0, lstAt_h1, lstAt_h2, lstAt_h3, it_tup, it_rol, kTup_eq, kLen_eq, wipe0, wipe1, b_nm, b_un, b_nil, b_cnm, b_cun, Option.bind_some, List.set_cons_zero, List.set_cons_succ, List.length_cons, List.length_nil, List.nil_append, List.cons_append, List.append_nil, List.isEmpty_cons, List.isEmpty_nil, true_and, and_true, false_and, and_false, true_implies, forall_const, not_true_eq_false, not_false_eq_true, implies_true, decide_eq_true_eq, decide_eq_false_iff_not, Bool.not_eq_true', Bool.not_eq_false', Bool.not_true, Bool.not_false, if_true, if_false, Bool.false_eq_true, Bool.true_eq_false, reduceCtorEq, false_implies, eq_self]
      refine draw_w F3 (by decide) (by decide) fun v S4 v0 v1 F4 _ => ?_
      simp only [↓reduceIte, ↓W_ok, ↓W_exn, ↓W_var0, ↓W_varS, ↓W_K, ↓W_bin, ↓W_un, ↓W_aNil, ↓W_aCons, ↓W_arg, ↓W_call, ↓W_of, ↓WB_test, ↓tc_bl, ↓WB_tru, ↓trc, ↓WB_and, ↓WB_or, ↓WB_not, ↓W_if, ↓W_andV, ↓W_orV, ↓W_notV, ↓WM_some, ↓WM_none, ↓WO_some, ↓tr_bl, ↓tr_non, ↓tr_int, ↓tr_tup, ↓tr_rol, ↓WS_nx, ↓WS_rt, ↓WS_ct, ↓WS_bk, ↓WS_exn, ↓WS_seq, ↓WS_nil, ↓WS_retN, ↓WS_break, ↓WS_cont, ↓WS_expr, ↓WS_ret, ↓WS_if, ↓WS_set, ↓WS_par, ↓WS_asg, ↓WS_gSet, ↓WS_gN, ↓WS_gC, ↓WS_gUn, ↓WS_gSub, ↓WS_aug, ↓o_add, ↓o_iadd, ↓o_sub, ↓o_neg, ↓o_mul, ↓o_mod, ↓o_div, ↓o_pow, ↓o_addT, ↓o_addS, ↓o_addL, ↓o_lt, ↓o_le, ↓o_gt, ↓o_ge, ↓o_eq, ↓o_ne, ↓o_eqS, ↓o_neS, ↓o_eqB, ↓o_neB, ↓o_eqT, ↓o_neT, ↓o_eqN, ↓o_neN, ↓o_ltT, ↓o_leT, ↓o_is, ↓o_isnot, ↓o_isB, ↓o_isnotB, ↓o_inT, ↓o_ninT, ↓o_inL, ↓o_ninL, ↓o_ixT, ↓o_ixR, ↓o_ixL, ↓o_rev, ↓o_ixS, ↓o_str, ↓o_strS, ↓o_set, ↓o_lenT, ↓o_lenR, ↓o_lenL, ↓o_lenS, ↓o_int, ↓o_intT, ↓o_intF, ↓o_abs, ↓o_max, ↓o_min, ↓o_tuple, ↓o_listXt, ↓o_listXr, ↓o_listXl, ↓o_listXs, ↓o_sortedXt, ↓o_tup0, ↓o_tup1, ↓o_tup2, ↓o_tup3, ↓o_tup4, ↓o_tup5, ↓o_tup6, ↓o_lst0, ↓o_lst1, ↓o_lst2, ↓o_lst3, ↓o_lst4, ↓o_lst5, ↓o_lst6, ↓o_sum, ↓W_meth, ↓o_append, ↓o_extend, ↓o_popAt, ↓W_cut, ↓W_noPart, ↓W_part, ↓o_cutT, ↓o_cutR, ↓o_cutL, ↓W_isi, ↓W_ch, ↓WS_for, ↓WI_iter, ↓WI_range1, ↓WI_range2, ↓WI_range3, ↓WI_enum, ↓WI_zip2, ↓WI_zip3, ↓W_callK, ↓WS_f0, ↓WS_f1, ↓W_alloc, ↓W_ofL, ↓W_comp, ↓WB_yes, ↓W_c0, ↓W_cx1, ↓W_cg0, ↓W_cg1, ↓W_listRg, ↓W_tupRg, ↓W_rRange1, ↓W_rRange2, Option.isSome_some, z2_t, z3_t, perm_nil, perm_cons, List.getD_cons_zero, List.getD_cons_succ, o_intT, o_intF, o_intB, o_ixL, o_ixT, beq_self_eq_true, decide_true, decide_false, okEq, okCmp, okIn, D.fits, D.fitsL, D.dep, D.depL, D.eqv, D.eqvL, D.alike, D.alikeL, isBl_bl, isN_non, isN_bl, isN_int, isN_str, isN_tup, isN_rol, isN_loc, Nat.reduceAdd, Nat.reduceSub, Nat.max_self, Nat.min_self, Nat.max_zero, Nat.zero_max, Nat.min_zero, Nat.zero_min, ty_non, ty_bl, ty_int, ty_str, ty_tup, ty_rol, ty_loc, kb_bool_bool, kb_bool_int, kb_bool_str, kb_bool_tuple, kb_bool_list, kb_int_bool, kb_int_int, kb_int_str, kb_int_tuple, kb_int_list, kb_str_bool, kb_str_int, kb_str_str, kb_str_tuple, kb_str_list, kb_tuple_bool, kb_tuple_int, kb_tuple_str, kb_tuple_tuple, kb_tuple_list, kb_list_bool, kb_list_int, kb_list_str, kb_list_tuple, kb_list_list, kb_NoneType_bool, kb_NoneType_int, kb_NoneType_str, kb_NoneType_tuple, kb_NoneType_list, Nat.zero_add, c02, lstAt_setE, Option.map_some, lstAt_set_ne, ne_eq, Nat.reduceEqDiff, Nat.one_ne_zero, Nat.zero_ne_one, ix_1_0, ix_2_0, ix_2_1, ix_3_0, ix_3_1, ix_3_2, ix_4_0, ix_4_1, ix_4_2, ix_4_3, ix_5_0, ix_5_1, ix_5_2, ix_5_3, ix_5_4, ix_6_0, ix_6_1, ix_6_2, ix_6_3, ix_6_4, ix_6_5, Nat.reduceLeDiff, Int.reduceAdd, Int.reduceSub, Int.reduceMul, Int.reduceNeg, Int.reducePow, Int.reduceLT, Int.reduceLE, Int.reduceEq, Int.reduceToNat, Bool.and_true, Bool.true_and, Bool.and_self, Bool.and_false, Bool.false_and, Bool.and_eq_true, Bool.and_eq_false_imp, and_self, WS_qdn, WS_qdr, WS_qde, WS_qdb, WS_qdc, qn1, qn2, qn3, qn4, qn5, qk1, qk5, lq1, lq2, lq3, lq4, lq5, intD_int, items_tup, items_rol, items_loc, listOf_loc, listOf_rol, isL_loc, nd_non, nd_bl, nd_int, nd_str, nd_tup, nd_rol, noDct_loc, at0, at1, at2, at3, at4, at5, atl1, atl2, atl3, atl4, lstAt_new, lstAt_h0, lstAt_h1, lstAt_h2, lstAt_h3, it_tup, it_rol, kTup_eq, kLen_eq, wipe0, wipe1, b_nm, b_un, b_nil, b_cnm, b_cun, Option.bind_some, List.set_cons_zero, List.set_cons_succ, List.length_cons, List.length_nil, List.nil_append, List.cons_append, List.append_nil, List.isEmpty_cons, List.isEmpty_nil, true_and, and_true, false_and, and_false, true_implies, forall_const, not_true_eq_false, not_false_eq_true, implies_true, decide_eq_true_eq, decide_eq_false_iff_not, Bool.not_eq_true', Bool.not_eq_false', Bool.not_true, Bool.not_false, if_true, if_false, Bool.false_eq_true, Bool.true_eq_false, reduceCtorEq, false_implies, eq_self]
      refine ⟨fun _ => ?_, fun _ => ⟨F4, _, _, _, _, _, _, _, _, rfl⟩⟩
      refine ⟨by decide, by decide, ?_⟩
      refine draw_w (F4.app _) (by decide) (by decide) fun v S5 v0 v1 F5 K5 => ?_
      simp only [↓reduceIte, ↓W_ok, ↓W_exn, ↓W_var0, ↓W_varS, ↓W_K, ↓W_bin, ↓W_un, ↓W_aNil, ↓W_aCons, ↓W_arg, ↓W_call, ↓W_of, ↓WB_test, ↓tc_bl, ↓WB_tru, ↓trc, ↓WB_and, ↓WB_or, ↓WB_not, ↓W_if, ↓W_andV, ↓W_orV, ↓W_notV, ↓WM_some, ↓WM_none, ↓WO_some, ↓tr_bl, ↓tr_non, ↓tr_int, ↓tr_tup, ↓tr_rol, ↓WS_nx, ↓WS_rt, ↓WS_ct, ↓WS_bk, ↓WS_exn, ↓WS_seq, ↓WS_nil, ↓WS_retN, ↓WS_break, ↓WS_cont, ↓WS_expr, ↓WS_ret, ↓WS_if, ↓WS_set, ↓WS_par, ↓WS_asg, ↓WS_gSet, ↓WS_gN, ↓WS_gC, ↓WS_gUn, ↓WS_gSub, ↓WS_aug, ↓o_add, ↓o_iadd, ↓o_sub, ↓o_neg, ↓o_mul, ↓o_mod, ↓o_div, ↓o_pow, ↓o_addT, ↓o_addS, ↓o_addL, ↓o_lt, ↓o_le, ↓o_gt, ↓o_ge, ↓o_eq, ↓o_ne, ↓o_eqS, ↓o_neS, ↓o_eqB, ↓o_neB, ↓o_eqT, ↓o_neT, ↓o_eqN, ↓o_neN, ↓o_ltT, ↓o_leT, ↓o_is, ↓o_isnot, ↓o_isB, ↓o_isnotB, ↓o_inT, ↓o_ninT, ↓o_inL, ↓o_ninL, ↓o_ixT, ↓o_ixR, ↓o_ixL, ↓o_rev, ↓o_ixS, ↓o_str, ↓o_strS, ↓o_set, ↓o_lenT, ↓o_lenR, ↓o_lenL, ↓o_lenS, ↓o_int, ↓o_intT, ↓o_intF, ↓o_abs, ↓o_max, ↓o_min, ↓o_tuple, ↓o_listXt, ↓o_listXr, ↓o_listXl, ↓o_listXs, ↓o_sortedXt, ↓o_tup0, ↓o_tup1, ↓o_tup2, ↓o_tup3, ↓o_tup4, ↓o_tup5, ↓o_tup6, ↓o_lst0, ↓o_lst1, ↓o_lst2, ↓o_lst3, ↓o_lst4, ↓o_lst5, ↓o_lst6, ↓o_sum, ↓W_meth, ↓o_append, ↓o_extend, ↓o_popAt, ↓W_cut, ↓W_noPart, ↓W_part, ↓o_cutT, ↓o_cutR, ↓o_cutL, ↓W_isi, ↓W_ch, ↓WS_for, ↓WI_iter, ↓WI_range1, ↓WI_range2, ↓WI_range3, ↓WI_enum, ↓WI_zip2, ↓WI_zip3, ↓W_callK, ↓WS_f0, ↓WS_f1, ↓W_alloc, ↓W_ofL, ↓W_comp, ↓WB_yes, ↓W_c0, ↓W_cx1, ↓W_cg0, ↓W_cg1, ↓W_listRg, ↓W_tupRg, ↓W_rRange1, ↓W_rRange2, Option.isSome_some, z2_t, z3_t, perm_nil, perm_cons, List.getD_cons_zero, List.getD_cons_succ, o_intT, o_intF, o_intB, o_ixL, o_ixT, beq_self_eq_true, decide_true, decide_false, okEq, okCmp, okIn, D.fits, D.fitsL, D.dep, D.depL, D.eqv, D.eqvL, D.alike, D.alikeL, isBl_bl, isN_non, isN_bl, isN_int, isN_str, isN_tup, isN_rol, isN_loc, Nat.reduceAdd, Nat.reduceSub, Nat.max_self, Nat.min_self, Nat.max_zero, Nat.zero_max, Nat.min_zero, Nat.zero_min, ty_non, ty_bl, ty_int, ty_str, ty_tup, ty_rol, ty_loc, kb_bool_bool, kb_bool_int, kb_bool_str, kb_bool_tuple, kb_bool_list, kb_int_bool, kb_int_int, kb_int_str, kb_int_tuple, kb_int_list, kb_str_bool, kb_str_int, kb_str_str, kb_str_tuple, kb_str_list, kb_tuple_bool, kb_tuple_int, kb_tuple_str, kb_tuple_tuple, kb_tuple_list, kb_list_bool, kb_list_int, kb_list_str, kb_list_tuple, kb_list_list, kb_NoneType_bool, kb_NoneType_int, kb_NoneType_str, kb_NoneType_tuple, kb_NoneType_list, Nat.zero_add, c02, lstAt_setE, Option.map_some, lstAt_set_ne, ne_eq, Nat.reduceEqDiff, Nat.one_ne_zero, Nat.zero_ne_one, ix_1_0, ix_2_0, ix_2_1, ix_3_0, ix_3_1, ix_3_2, ix_4_0, ix_4_1, ix_4_2, ix_4_3, ix_5_0, ix_5_1, ix_5_2, ix_5_3, ix_5_4, ix_6_0, ix_6_1, ix_6_2, ix_6_3, ix_6_4, ix_6_5, Nat.reduceLeDiff, Int.reduceAdd, Int.reduceSub, Int.reduceMul, Int.reduceNeg, Int.reducePow, Int.reduceLT, Int.reduceLE, Int.reduceEq, Int.reduceToNat, Bool.and_true, Bool.true_and, Bool.and_self, Bool.and_false, Bool.false_and, Bool.and_eq_true, Bool.and_eq_false_imp, and_self, WS_qdn, WS_qdr, WS_qde, WS_qdb, WS_qdc, qn1, qn2, qn3, qn4, qn5, qk1, qk5, lq1, lq2, lq3, lq4, lq5, intD_int, items_tup, items_rol, items_loc, listOf_loc, listOf_rol, isL_loc, nd_non, nd_bl, nd_int, nd_str, nd_tup, nd_rol, noDct_loc, at0, at1, at2, at3, at4, at5, atl1, atl2, atl3, atl4, lstAt_new, lstAt_h0, lstAt_h1, lstAt_h2, lstAt_h3, it_tup, it_rol, kTup_eq, kLen_eq, wipe0, wipe1, b_nm, b_un, b_nil, b_cnm, b_cun, Option.bind_some, List.set_cons_zero, List.set_cons_succ, List.length_cons, List.length_nil, List.nil_append, List.cons_append, List.append_nil, List.isEmpty_cons, List.isEmpty_nil, true_and, and_true, false_and, and_false, true_implies, forall_const, not_true_eq_false, not_false_eq_true, implies_true, decide_eq_true_eq, decide_eq_false_iff_not, Bool.not_eq_true', Bool.not_eq_false', Bool.not_true, Bool.not_false, if_true, if_false, Bool.false_eq_true, Bool.true_eq_false, reduceCtorEq, false_implies, eq_self, K5.lst F4.len lstAt_new]
      refine WM_in v0 (by simpa using v1) fun e he => ?_
      obtain ⟨lo, rfl⟩ : ∃ lo : Int, e = .int lo := by
        simp only [List.mem_cons, List.not_mem_nil, or_false] at he
        rcases he with rfl | rfl <;> exact ⟨_, rfl⟩
      simp only [↓reduceIte, ↓W_ok, ↓W_exn, ↓W_var0, ↓W_varS, ↓W_K, ↓W_bin, ↓W_un, ↓W_aNil, ↓W_aCons, ↓W_arg, ↓W_call, ↓W_of, ↓WB_test, ↓tc_bl, ↓WB_tru, ↓trc, ↓WB_and, ↓WB_or, ↓WB_not, ↓W_if, ↓W_andV, ↓W_orV, ↓W_notV, ↓WM_some, ↓WM_none, ↓WO_some, ↓tr_bl, ↓tr_non, ↓tr_int, ↓tr_tup, ↓tr_rol, ↓WS_nx, ↓WS_rt, ↓WS_ct, ↓WS_bk, ↓WS_exn, ↓WS_seq, ↓WS_nil, ↓WS_retN, ↓WS_break, ↓WS_cont, ↓WS_expr, ↓WS_ret, ↓WS_if, ↓WS_set, ↓WS_par, ↓WS_asg, ↓WS_gSet, ↓WS_gN, ↓WS_gC, ↓WS_gUn, ↓WS_gSub, ↓WS_aug, ↓o_add, ↓o_iadd, ↓o_sub, ↓o_neg, ↓o_mul, ↓o_mod, ↓o_div, ↓o_pow, ↓o_addT, ↓o_addS, ↓o_addL, ↓o_lt, ↓o_le, ↓o_gt, ↓o_ge, ↓o_eq, ↓o_ne, ↓o_eqS, ↓o_neS, ↓o_eqB, ↓o_neB, ↓o_eqT, ↓o_neT, ↓o_eqN, ↓o_neN, ↓o_ltT, ↓o_leT, ↓o_is, ↓o_isnot, ↓o_isB, ↓o_isnotB, ↓o_inT, ↓o_ninT, ↓o_inL, ↓o_ninL, ↓o_ixT, ↓o_ixR, ↓o_ixL, ↓o_rev, ↓o_ixS, ↓o_str, ↓o_strS, ↓o_set, ↓o_lenT, ↓o_lenR, ↓o_lenL, ↓o_lenS, ↓o_int, ↓o_intT, ↓o_intF, ↓o_abs, ↓o_max, ↓o_min, ↓o_tuple, ↓o_listXt, ↓o_listXr, ↓o_listXl, ↓o_listXs, ↓o_sortedXt, ↓o_tup0, ↓o_tup1, ↓o_tup2, ↓o_tup3, ↓o_tup4, ↓o_tup5, ↓o_tup6, ↓o_lst0, ↓o_lst1, ↓o_lst2, ↓o_lst3, ↓o_lst4, ↓o_lst5, ↓o_lst6, ↓o_sum, ↓W_meth, ↓o_append, ↓o_extend, ↓o_popAt, ↓W_cut, ↓W_noPart, ↓W_part, ↓o_cutT, ↓o_cutR, ↓o_cutL, ↓W_isi, ↓W_ch, ↓WS_for, ↓WI_iter, ↓WI_range1, ↓WI_range2, ↓WI_range3, ↓WI_enum, ↓WI_zip2, ↓WI_zip3, ↓W_callK, ↓WS_f0, ↓WS_f1, ↓W_alloc, ↓W_ofL, ↓W_comp, ↓WB_yes, ↓W_c0, ↓W_cx1, ↓W_cg0, ↓W_cg1, ↓W_listRg, ↓W_tupRg, ↓W_rRange1, ↓W_rRange2, Option.isSome_some, z2_t, z3_t, perm_nil, perm_cons, List.getD_cons_zero, List.getD_cons_succ, o_intT, o_intF, o_intB, o_ixL, o_ixT, beq_self_eq_true, decide_true, decide_false, okEq, okCmp, okIn, D.fits, D.fitsL, D.dep, D.depL, D.eqv, D.eqvL, D.alike, D.alikeL, isBl_bl, isN_non, isN_bl, isN_int, isN_str, isN_tup, isN_rol, isN_loc, Nat.reduceAdd, Nat.reduceSub, Nat.max_self, Nat.min_self, Nat.max_zero, Nat.zero_max, Nat.min_zero, Nat.zero_min, ty_non, ty_bl, ty_int, ty_str, ty_tup, ty_rol, ty_loc, kb_bool_bool, kb_bool_int, kb_bool_str, kb_bool_tuple, kb_bool_list, kb_int_bool, kb_int_int, kb_int_str, kb_int_tuple, kb_int_list, kb_str_bool, kb_str_int, kb_str_str, kb_str_tuple, kb_str_list, kb_tuple_bool, kb_tuple_int, kb_tuple_str, kb_tuple_tuple, kb_tuple_list, kb_list_bool, kb_list_int, kb_list_str, kb_list_tuple, kb_list_list, kb_NoneType_bool, kb_NoneType_int, kb_NoneType_str, kb_NoneType_tuple, kb_NoneType_list, Nat.zero_add, c02, lstAt_setE, Option.map_some, lstAt_set_ne, ne_eq, Nat.reduceEqDiff, Nat.one_ne_zero, Nat.zero_ne_one, ix_1_0, ix_2_0, ix_2_1, ix_3_0, ix_3_1, ix_3_2, ix_4_0, ix_4_1, ix_4_2, ix_4_3, ix_5_0, ix_5_1, ix_5_2, ix_5_3, ix_5_4, ix_6_0, ix_6_1, ix_6_2, ix_6_3, ix_6_4, ix_6_5, Nat.reduceLeDiff, Int.reduceAdd, Int.reduceSub, Int.reduceMul, Int.reduceNeg, Int.reducePow, Int.reduceLT, Int.reduceLE, Int.reduceEq, Int.reduceToNat, Bool.and_true, Bool.true_and, Bool.and_self, Bool.and_false, Bool.false_and, Bool.and_eq_true, Bool.and_eq_false_imp, and_self, WS_qdn, WS_qdr, WS_qde, WS_qdb, WS_qdc, qn1, qn2, qn3, qn4, qn5, qk1, qk5, lq1, lq2, lq3, lq4, lq5, intD_int, items_tup, items_rol, items_loc, listOf_loc, listOf_rol, isL_loc, nd_non, nd_bl, nd_int, nd_str, nd_tup, nd_rol, noDct_loc, at0, at1, at2, at3, at4, at5, atl1, atl2, atl3, atl4, lstAt_new, lstAt_h0, lstAt_h1, lstAt_h2, lstAt_h3, it_tup, it_rol, kTup_eq, kLen_eq, wipe0, wipe1, b_nm, b_un, b_nil, b_cnm, b_cun, Option.bind_some, List.set_cons_zero, List.set_cons_succ, List.length_cons, List.length_nil, List.nil_append, List.cons_append, List.append_nil, List.isEmpty_cons, List.isEmpty_nil, true_and, and_true, false_and, and_false, true_implies, forall_const, not_true_eq_false, not_false_eq_true, implies_true, decide_eq_true_eq, decide_eq_false_iff_not, Bool.not_eq_true', Bool.not_eq_false', Bool.not_true, Bool.not_false, if_true, if_false, Bool.false_eq_true, Bool.true_eq_false, reduceCtorEq, false_implies, eq_self]
      refine fields_w F5 (by decide) (by decide) (by decide) (by decide) fun fs S6 hf hfl F6 _ => ?_
      simp only [↓reduceIte, ↓W_ok, ↓W_exn, ↓W_var0, ↓W_varS, ↓W_K, ↓W_bin, ↓W_un, ↓W_aNil, ↓W_aCons, ↓W_arg, ↓W_call, ↓W_of, ↓WB_test, ↓tc_bl, ↓WB_tru, ↓trc, ↓WB_and, ↓WB_or, ↓WB_not, ↓W_if, ↓W_andV, ↓W_orV, ↓W_notV, ↓WM_some, ↓WM_none, ↓WO_some, ↓tr_bl, ↓tr_non, ↓tr_int, ↓tr_tup, ↓tr_rol, ↓WS_nx, ↓WS_rt, ↓WS_ct, ↓WS_bk, ↓WS_exn, ↓WS_seq, ↓WS_nil, ↓WS_retN, ↓WS_break, ↓WS_cont, ↓WS_expr, ↓WS_ret, ↓WS_if, ↓WS_set, ↓WS_par, ↓WS_asg, ↓WS_gSet, ↓WS_gN, ↓WS_gC, ↓WS_gUn, ↓WS_gSub, ↓WS_aug, ↓o_add, ↓o_iadd, ↓o_sub, ↓o_neg, ↓o_mul, ↓o_mod, ↓o_div, ↓o_pow, ↓o_addT, ↓o_addS, ↓o_addL, ↓o_lt, ↓o_le, ↓o_gt, ↓o_ge, ↓o_eq, ↓o_ne, ↓o_eqS, ↓o_neS, ↓o_eqB, ↓o_neB, ↓o_eqT, ↓o_neT, ↓o_eqN, ↓o_neN, ↓o_ltT, ↓o_leT, ↓o_is, ↓o_isnot, ↓o_isB, ↓o_isnotB, ↓o_inT, ↓o_ninT, ↓o_inL, ↓o_ninL, ↓o_ixT, ↓o_ixR, ↓o_ixL, ↓o_rev, ↓o_ixS, ↓o_str, ↓o_strS, ↓o_set, ↓o_lenT, ↓o_lenR, ↓o_lenL, ↓o_lenS, ↓o_int, ↓o_intT, ↓o_intF, ↓o_abs, ↓o_max, ↓o_min, ↓o_tuple, ↓o_listXt, ↓o_listXr, ↓o_listXl, ↓o_listXs, ↓o_sortedXt, ↓o_tup0, ↓o_tup1, ↓o_tup2, ↓o_tup3, ↓o_tup4, ↓o_tup5, ↓o_tup6, ↓o_lst0, ↓o_lst1, ↓o_lst2, ↓o_lst3, ↓o_lst4, ↓o_lst5, ↓o_lst6, ↓o_sum, ↓W_meth, ↓o_append, ↓o_extend, ↓o_popAt, ↓W_cut, ↓W_noPart, ↓W_part, ↓o_cutT, ↓o_cutR, ↓o_cutL, ↓W_isi, ↓W_ch, ↓WS_for, ↓WI_iter, ↓WI_range1, ↓WI_range2, ↓WI_range3, ↓WI_enum, ↓WI_zip2, ↓WI_zip3, ↓W_callK, ↓WS_f0, ↓WS_f1, ↓W_alloc, ↓W_ofL, ↓W_comp, ↓WB_yes, ↓W_c0, ↓W_cx1, ↓W_cg0, ↓W_cg1, ↓W_listRg, ↓W_tupRg, ↓W_rRange1, ↓W_rRange2, Option.isSome_some, z2_t, z3_t, perm_nil, perm_cons, List.getD_cons_zero, List.getD_cons_succ, o_intT, o_intF, o_intB, o_ixL, o_ixT, beq_self_eq_true, decide_true, decide_false, okEq, okCmp, okIn, D.fits, D.fitsL, D.dep, D.depL, D.eqv, D.eqvL, D.alike, D.alikeL, isBl_bl, isN_non, isN_bl, isN_int, isN_str, isN_tup, isN_rol, isN_loc, Nat.reduceAdd, Nat.reduceSub, Nat.max_self, Nat.min_self, Nat.max_zero, Nat.zero_max, Nat.min_zero, Nat.zero_min, ty_non, ty_bl, ty_int, ty_str, ty_tup, ty_rol, ty_loc, kb_bool_bool, kb_bool_int, kb_bool_str, kb_bool_tuple, kb_bool_list, kb_int_bool, kb_int_int, kb_int_str, kb_int_tuple, kb_int_list, kb_str_bool, kb_str_int, kb_str_str, kb_str_tuple, kb_str_list, kb_tuple_bool, kb_tuple_int, kb_tuple_str, kb_tuple_tuple, kb_tuple_list, kb_list_bool, kb_list_int, kb_list_str, kb_list_tuple, kb_list_list, kb_NoneType_bool, kb_NoneType_int, kb_NoneType_str, kb_NoneType_tuple, kb_NoneType_list, Nat.zero_add, c02, lstAt_setE, Option.map_some, lstAt_set_ne, ne_eq, Nat.reduceEqDiff, Nat.one_ne_zero, Nat.zero_ne_one, ix_1_0, ix_2_0, ix_2_1, ix_3_0, ix_3_1, ix_3_2, ix_4_0, ix_4_1, ix_4_2, ix_4_3, ix_5_0, ix_5_1, ix_5_2, ix_5_3, ix_5_4, ix_6_0, ix_6_1, ix_6_2, ix_6_3, ix_6_4, ix_6_5, Nat.reduceLeDiff, Int.reduceAdd, Int.reduceSub, Int.reduceMul, Int.reduceNeg, Int.reducePow, Int.reduceLT, Int.reduceLE, Int.reduceEq, Int.reduceToNat, Bool.and_true, Bool.true_and, Bool.and_self, Bool.and_false, Bool.false_and, Bool.and_eq_true, Bool.and_eq_false_imp, and_self, WS_qdn, WS_qdr, WS_qde, WS_qdb, WS_qdc, qn1, qn2, qn3, qn4, qn5, qk1, qk5, lq1, lq2, lq3, lq4, lq5, intD_int, items_tup, items_rol, items_loc, listOf_loc, listOf_rol, isL_loc, nd_non, nd_bl, nd_int, nd_str, nd_tup, nd_rol, noDct_loc, at0, at1, at2, at3, at4, at5, atl1, atl2, atl3, atl4, lstAt_new, lstAt_h0, lstAt_h1, lstAt_h2, lstAt_h3, it_tup, it_rol, kTup_eq, kLen_eq, wipe0, wipe1, b_nm, b_un, b_nil, b_cnm, b_cun, Option.bind_some, List.set_cons_zero, List.set_cons_succ, List.length_cons, List.length_nil, List.nil_append, List.cons_append, List.append_nil, List.isEmpty_cons, List.isEmpty_nil, true_and, and_true, false_and, and_false, true_implies, forall_const, not_true_eq_false, not_false_eq_true, implies_true, decide_eq_true_eq, decide_eq_false_iff_not, Bool.not_eq_true', Bool.not_eq_false', Bool.not_true, Bool.not_false, if_true, if_false, Bool.false_eq_true, Bool.true_eq_false, reduceCtorEq, false_implies, eq_self]
      refine W_cMap (fun _ y => ∃ n : Str, y = .tup [.str n, .int lo, .int (lo + 19)]) (fun S' => FlowOk S') F6 (by rw [sizeLine_eq]; simp; omega) (fun _ _ => trivial) ?_ ?_
      · rintro d S7 hd F7
        obtain ⟨n, l1, h1, rfl, -⟩ := hf d hd
        simp only [↓reduceIte, ↓W_ok, ↓W_exn, ↓W_var0, ↓W_varS, ↓W_K, ↓W_bin, ↓W_un, ↓W_aNil, ↓W_aCons, ↓W_arg, ↓W_call, ↓W_of, ↓WB_test, ↓tc_bl, ↓WB_tru, ↓trc, ↓WB_and, ↓WB_or, ↓WB_not, ↓W_if, ↓W_andV, ↓W_orV, ↓W_notV, ↓WM_some, ↓WM_none, ↓WO_some, ↓tr_bl, ↓tr_non, ↓tr_int, ↓tr_tup, ↓tr_rol, ↓WS_nx, ↓WS_rt, ↓WS_ct, ↓WS_bk, ↓WS_exn, ↓WS_seq, ↓WS_nil, ↓WS_retN, ↓WS_break, ↓WS_cont, ↓WS_expr, ↓WS_ret, ↓WS_if, ↓WS_set, ↓WS_par, ↓WS_asg, ↓WS_gSet, ↓WS_gN, ↓WS_gC, ↓WS_gUn, ↓WS_gSub, ↓WS_aug, ↓o_add, ↓o_iadd, ↓o_sub, ↓o_neg, ↓o_mul, ↓o_mod, ↓o_div, ↓o_pow, ↓o_addT, ↓o_addS, ↓o_addL, ↓o_lt, ↓o_le, ↓o_gt, ↓o_ge, ↓o_eq, ↓o_ne, ↓o_eqS, ↓o_neS, ↓o_eqB, ↓o_neB, ↓o_eqT, ↓o_neT, ↓o_eqN, ↓o_neN, ↓o_ltT, ↓o_leT, ↓o_is, ↓o_isnot, ↓o_isB, ↓o_isnotB, ↓o_inT, ↓o_ninT, ↓o_inL, ↓o_ninL, ↓o_ixT, ↓o_ixR, ↓o_ixL, ↓o_rev, ↓o_ixS, ↓o_str, ↓o_strS, ↓o_set, ↓o_lenT, ↓o_lenR, ↓o_lenL, ↓o_lenS, ↓o_int, ↓o_intT, ↓o_intF, ↓o_abs, ↓o_max, ↓o_min, ↓o_tuple, ↓o_listXt, ↓o_listXr, ↓o_listXl, ↓o_listXs, ↓o_sortedXt, ↓o_tup0, ↓o_tup1, ↓o_tup2, ↓o_tup3, ↓o_tup4, ↓o_tup5, ↓o_tup6, ↓o_lst0, ↓o_lst1, ↓o_lst2, ↓o_lst3, ↓o_lst4, ↓o_lst5, ↓o_lst6, ↓o_sum, ↓W_meth, ↓o_append, ↓o_extend, ↓o_popAt, ↓W_cut, ↓W_noPart, ↓W_part, ↓o_cutT, ↓o_cutR, ↓o_cutL, ↓W_isi, ↓W_ch, ↓WS_for, ↓WI_iter, ↓WI_range1, ↓WI_range2, ↓WI_range3, ↓WI_enum, ↓WI_zip2, ↓WI_zip3, ↓W_callK, ↓WS_f0, ↓WS_f1, ↓W_alloc, ↓W_ofL, ↓W_comp, ↓WB_yes, ↓W_c0, ↓W_cx1, ↓W_cg0, ↓W_cg1, ↓W_listRg, ↓W_tupRg, ↓W_rRange1, ↓W_rRange2, Option.isSome_some, z2_t, z3_t, perm_nil, perm_cons, List.getD_cons_zero, List.getD_cons_succ, o_intT, o_intF, o_intB, o_ixL, o_ixT, beq_self_eq_true, decide_true, decide_false, okEq, okCmp, okIn, D.fits, D.fitsL, D.dep, D.depL, D.eqv, D.eqvL, D.alike, D.alikeL, isBl_bl, isN_non, isN_bl, isN_int, isN_str, isN_tup, isN_rol, isN_loc, Nat.reduceAdd, Nat.reduceSub, Nat.max_self, Nat.min_self, Nat.max_zero, Nat.zero_max, Nat.min_zero, Nat.zero_min, ty_non, ty_bl, ty_int, ty_str, ty_tup, ty_rol, ty_loc, kb_bool_bool, kb_bool_int, kb_bool_str, kb_bool_tuple, kb_bool_list, kb_int_bool, kb_int_int, kb_int_str, kb_int_tuple, kb_int_list, kb_str_bool, kb_str_int, kb_str_str, kb_str_tuple, kb_str_list, kb_tuple_bool, kb_tuple_int, kb_tuple_str, kb_tuple_tuple, kb_tuple_list, kb_list_bool, kb_list_int, kb_list_str, kb_list_tuple, kb_list_list, kb_NoneType_bool, kb_NoneType_int, kb_NoneType_str, kb_NoneType_tuple, kb_NoneType_list, Nat.zero_add, c02, lstAt_setE, Option.map_some, lstAt_set_ne, ne_eq, Nat.reduceEqDiff, Nat.one_ne_zero, Nat.zero_ne_one, ix_1_0, ix_2_0, ix_2_1, ix_3_0, ix_3_1, ix_3_2, ix_4_0, ix_4_1, ix_4_2, ix_4_3, ix_5_0, ix_5_1, ix_5_2, ix_5_3, ix_5_4, ix_6_0, ix_6_1, ix_6_2, ix_6_3, ix_6_4, ix_6_5, Nat.reduceLeDiff, Int.reduceAdd, Int.reduceSub, Int.reduceMul, Int.reduceNeg, Int.reducePow, Int.reduceLT, Int.reduceLE, Int.reduceEq, Int.reduceToNat, Bool.and_true, Bool.true_and, Bool.and_self, Bool.and_false, Bool.false_and, Bool.and_eq_true, Bool.and_eq_false_imp, and_self, WS_qdn, WS_qdr, WS_qde, WS_qdb, WS_qdc, qn1, qn2, qn3, qn4, qn5, qk1, qk5, lq1, lq2, lq3, lq4, lq5, intD_int, items_tup, items_rol, items_loc, listOf_loc, listOf_rol, isL_loc, nd_non, nd_bl, nd_int, nd_str, nd_tup, nd_rol, noDct_loc, at0, at1, at2, at3, at4, at5, atl1, atl2, atl3, atl4, lstAt_new, lstAt_h0, lstAt_h1, lstAt_h2, lstAt_h3, it_tup, it_rol, kTup_eq, kLen_eq, wipe0, wipe1, b_nm, b_un, b_nil, b_cnm, b_cun, Option.bind_some, List.set_cons_zero, List.set_cons_succ, List.length_cons, List.length_nil, List.nil_append, List.cons_append, List.append_nil, List.isEmpty_cons, List.isEmpty_nil, true_and, and_true, false_and, and_false, true_implies, forall_const, not_true_eq_false, not_false_eq_true, implies_true, decide_eq_true_eq, decide_eq_false_iff_not, Bool.not_eq_true', Bool.not_eq_false', Bool.not_true, Bool.not_false, if_true, if_false, Bool.false_eq_true, Bool.true_eq_false, reduceCtorEq, false_implies, eq_self]
        exact ⟨⟨n, rfl⟩, F7⟩
      · rintro gs S7 F7 hy
        have hgl := hy.length
        have hg := All2.right (R := fun y => ∃ n : Str, y = D.tup [.str n, .int lo, .int (lo + 19)]) (fun _ _ h => h) hy
        simp only [↓reduceIte, ↓W_ok, ↓W_exn, ↓W_var0, ↓W_varS, ↓W_K, ↓W_bin, ↓W_un, ↓W_aNil, ↓W_aCons, ↓W_arg, ↓W_call, ↓W_of, ↓WB_test, ↓tc_bl, ↓WB_tru, ↓trc, ↓WB_and, ↓WB_or, ↓WB_not, ↓W_if, ↓W_andV, ↓W_orV, ↓W_notV, ↓WM_some, ↓WM_none, ↓WO_some, ↓tr_bl, ↓tr_non, ↓tr_int, ↓tr_tup, ↓tr_rol, ↓WS_nx, ↓WS_rt, ↓WS_ct, ↓WS_bk, ↓WS_exn, ↓WS_seq, ↓WS_nil, ↓WS_retN, ↓WS_break, ↓WS_cont, ↓WS_expr, ↓WS_ret, ↓WS_if, ↓WS_set, ↓WS_par, ↓WS_asg, ↓WS_gSet, ↓WS_gN, ↓WS_gC, ↓WS_gUn, ↓WS_gSub, ↓WS_aug, ↓o_add, ↓o_iadd, ↓o_sub, ↓o_neg, ↓o_mul, ↓o_mod, ↓o_div, ↓o_pow, ↓o_addT, ↓o_addS, ↓o_addL, ↓o_lt, ↓o_le, ↓o_gt, ↓o_ge, ↓o_eq, ↓o_ne, ↓o_eqS, ↓o_neS, ↓o_eqB, ↓o_neB, ↓o_eqT, ↓o_neT, ↓o_eqN, ↓o_neN, ↓o_ltT, ↓o_leT, ↓o_is, ↓o_isnot, ↓o_isB, ↓o_isnotB, ↓o_inT, ↓o_ninT, ↓o_inL, ↓o_ninL, ↓o_ixT, ↓o_ixR, ↓o_ixL, ↓o_rev, ↓o_ixS, ↓o_str, ↓o_strS, ↓o_set, ↓o_lenT, ↓o_lenR, ↓o_lenL, ↓o_lenS, ↓o_int, ↓o_intT, ↓o_intF, ↓o_abs, ↓o_max, ↓o_min, ↓o_tuple, ↓o_listXt, ↓o_listXr, ↓o_listXl, ↓o_listXs, ↓o_sortedXt, ↓o_tup0, ↓o_tup1, ↓o_tup2, ↓o_tup3, ↓o_tup4, ↓o_tup5, ↓o_tup6, ↓o_lst0, ↓o_lst1, ↓o_lst2, ↓o_lst3, ↓o_lst4, ↓o_lst5, ↓o_lst6, ↓o_sum, ↓W_meth, ↓o_append, ↓o_extend, ↓o_popAt, ↓W_cut, ↓W_noPart, ↓W_part, ↓o_cutT, ↓o_cutR, ↓o_cutL, ↓W_isi, ↓W_ch, ↓WS_for, ↓WI_iter, ↓WI_range1, ↓WI_range2, ↓WI_range3, ↓WI_enum, ↓WI_zip2, ↓WI_zip3, ↓W_callK, ↓WS_f0, ↓WS_f1, ↓W_alloc, ↓W_ofL, ↓W_comp, ↓WB_yes, ↓W_c0, ↓W_cx1, ↓W_cg0, ↓W_cg1, ↓W_listRg, ↓W_tupRg, ↓W_rRange1, ↓W_rRange2, Option.isSome_some, z2_t, z3_t, perm_nil, perm_cons, List.getD_cons_zero, List.getD_cons_succ, o_intT, o_intF, o_intB, o_ixL, o_ixT, beq_self_eq_true, decide_true, decide_false, okEq, okCmp, okIn, D.fits, D.fitsL, D.dep, D.depL, D.eqv, D.eqvL, D.alike, D.alikeL, isBl_bl, isN_non, isN_bl, isN_int, isN_str, isN_tup, isN_rol, isN_loc, Nat.reduceAdd, Nat.reduceSub, Nat.max_self, Nat.min_self, Nat.max_zero, Nat.zero_max, Nat.min_zero, Nat.zero_min, ty_non, ty_bl, ty_int, ty_str, ty_tup, ty_rol, ty_loc, kb_bool_bool, kb_bool_int, kb_bool_str, kb_bool_tuple, kb_bool_list, kb_int_bool, kb_int_int, kb_int_str, kb_int_tuple, kb_int_list, kb_str_bool, kb_str_int, kb_str_str, kb_str_tuple, kb_str_list, kb_tuple_bool, kb_tuple_int, kb_tuple_str, kb_tuple_tuple, kb_tuple_list, kb_list_bool, kb_list_int, kb_list_str, kb_list_tuple, kb_list_list, kb_NoneType_bool, kb_NoneType_int, kb_NoneType_str, kb_NoneType_tuple, kb_NoneType_list, Nat.zero_add, c02, lstAt_setE, Option.map_some, lstAt_set_ne, ne_eq, Nat.reduceEqDiff, Nat.one_ne_zero, Nat.zero_ne_one, ix_1_0, ix_2_0, ix_2_1, ix_3_0, ix_3_1, ix_3_2, ix_4_0, ix_4_1, ix_4_2, ix_4_3, ix_5_0, ix_5_1, ix_5_2, ix_5_3, ix_5_4, ix_6_0, ix_6_1, ix_6_2, ix_6_3, ix_6_4, ix_6_5, Nat.reduceLeDiff, Int.reduceAdd, Int.reduceSub, Int.reduceMul, Int.reduceNeg, Int.reducePow, Int.reduceLT, Int.reduceLE, Int.reduceEq, Int.reduceToNat, Bool.and_true, Bool.true_and, Bool.and_self, Bool.and_false, Bool.false_and, Bool.and_eq_true, Bool.and_eq_false_imp, and_self, WS_qdn, WS_qdr, WS_qde, WS_qdb, WS_qdc, qn1, qn2, qn3, qn4, qn5, qk1, qk5, lq1, lq2, lq3, lq4, lq5, intD_int, items_tup, items_rol, items_loc, listOf_loc, listOf_rol, isL_loc, nd_non, nd_bl, nd_int, nd_str, nd_tup, nd_rol, noDct_loc, at0, at1, at2, at3, at4, at5, atl1, atl2, atl3, atl4, lstAt_new, lstAt_h0, lstAt_h1, lstAt_h2, lstAt_h3, it_tup, it_rol, kTup_eq, kLen_eq, wipe0, wipe1, b_nm, b_un, b_nil, b_cnm, b_cun, Option.bind_some, List.set_cons_zero, List.set_cons_succ, List.length_cons, List.length_nil, List.nil_append, List.cons_append, List.append_nil, List.isEmpty_cons, List.isEmpty_nil, true_and, and_true, false_and, and_false, true_implies, forall_const, not_true_eq_false, not_false_eq_true, implies_true, decide_eq_true_eq, decide_eq_false_iff_not, Bool.not_eq_true', Bool.not_eq_false', Bool.not_true, Bool.not_false, if_true, if_false, Bool.false_eq_true, Bool.true_eq_false, reduceCtorEq, false_implies, eq_self]
        refine ⟨by decide, ?_⟩
        refine W_cMap (fun _ y => ∃ a, y = shD a ∧ a.length = gs.length) (fun S' => FlowOk S') F7 (by rw [intsTo_len, sizeLine_eq]; decide) (fun _ _ => trivial) ?_ ?_
        · rintro d S8 - F8
          simp only [↓reduceIte, ↓W_ok, ↓W_exn, ↓W_var0, ↓W_varS, ↓W_K, ↓W_bin, ↓W_un, ↓W_aNil, ↓W_aCons, ↓W_arg, ↓W_call, ↓W_of, ↓WB_test, ↓tc_bl, ↓WB_tru, ↓trc, ↓WB_and, ↓WB_or, ↓WB_not, ↓W_if, ↓W_andV, ↓W_orV, ↓W_notV, ↓WM_some, ↓WM_none, ↓WO_some, ↓tr_bl, ↓tr_non, ↓tr_int, ↓tr_tup, ↓tr_rol, ↓WS_nx, ↓WS_rt, ↓WS_ct, ↓WS_bk, ↓WS_exn, ↓WS_seq, ↓WS_nil, ↓WS_retN, ↓WS_break, ↓WS_cont, ↓WS_expr, ↓WS_ret, ↓WS_if, ↓WS_set, ↓WS_par, ↓WS_asg, ↓WS_gSet, ↓WS_gN, ↓WS_gC, ↓WS_gUn, ↓WS_gSub, ↓WS_aug, ↓o_add, ↓o_iadd, ↓o_sub, ↓o_neg, ↓o_mul, ↓o_mod, ↓o_div, ↓o_pow, ↓o_addT, ↓o_addS, ↓o_addL, ↓o_lt, ↓o_le, ↓o_gt, ↓o_ge, ↓o_eq, ↓o_ne, ↓o_eqS, ↓o_neS, ↓o_eqB, ↓o_neB, ↓o_eqT, ↓o_neT, ↓o_eqN, ↓o_neN, ↓o_ltT, ↓o_leT, ↓o_is, ↓o_isnot, ↓o_isB, ↓o_isnotB, ↓o_inT, ↓o_ninT, ↓o_inL, ↓o_ninL, ↓o_ixT, ↓o_ixR, ↓o_ixL, ↓o_rev, ↓o_ixS, ↓o_str, ↓o_strS, ↓o_set, ↓o_lenT, ↓o_lenR, ↓o_lenL, ↓o_lenS, ↓o_int, ↓o_intT, ↓o_intF, ↓o_abs, ↓o_max, ↓o_min, ↓o_tuple, ↓o_listXt, ↓o_listXr, ↓o_listXl, ↓o_listXs, ↓o_sortedXt, ↓o_tup0, ↓o_tup1, ↓o_tup2, ↓o_tup3, ↓o_tup4, ↓o_tup5, ↓o_tup6, ↓o_lst0, ↓o_lst1, ↓o_lst2, ↓o_lst3, ↓o_lst4, ↓o_lst5, ↓o_lst6, ↓o_sum, ↓W_meth, ↓o_append, ↓o_extend, ↓o_popAt, ↓W_cut, ↓W_noPart, ↓W_part, ↓o_cutT, ↓o_cutR, ↓o_cutL, ↓W_isi, ↓W_ch, ↓WS_for, ↓WI_iter, ↓WI_range1, ↓WI_range2, ↓WI_range3, ↓WI_enum, ↓WI_zip2, ↓WI_zip3, ↓W_callK, ↓WS_f0, ↓WS_f1, ↓W_alloc, ↓W_ofL, ↓W_comp, ↓WB_yes, ↓W_c0, ↓W_cx1, ↓W_cg0, ↓W_cg1, ↓W_listRg, ↓W_tupRg, ↓W_rRange1, ↓W_rRange2, Option.isSome_some, z2_t, z3_t, perm_nil, perm_cons, List.getD_cons_zero, List.getD_cons_succ, o_intT, o_intF, o_intB, o_ixL, o_ixT, beq_self_eq_true, decide_true, decide_false, okEq, okCmp, okIn, D.fits, D.fitsL, D.dep, D.depL, D.eqv, D.eqvL, D.alike, D.alikeL, isBl_bl, isN_non, isN_bl, isN_int, isN_str, isN_tup, isN_rol, isN_loc, Nat.reduceAdd, Nat.reduceSub, Nat.max_self, Nat.min_self, Nat.max_zero, Nat.zero_max, Nat.min_zero, Nat.zero_min, ty_non, ty_bl, ty_int, ty_str, ty_tup, ty_rol, ty_loc, kb_bool_bool, kb_bool_int, kb_bool_str, kb_bool_tuple, kb_bool_list, kb_int_bool, kb_int_int, kb_int_str, kb_int_tuple, kb_int_list, kb_str_bool, kb_str_int, kb_str_str, kb_str_tuple, kb_str_list, kb_tuple_bool, kb_tuple_int, kb_tuple_str, kb_tuple_tuple, kb_tuple_list, kb_list_bool, kb_list_int, kb_list_str, kb_list_tuple, kb_list_list, kb_NoneType_bool, kb_NoneType_int, kb_NoneType_str, kb_NoneType_tuple, kb_NoneType_list, Nat.zero_add, c02, lstAt_setE, Option.map_some, lstAt_set_ne, ne_eq, Nat.reduceEqDiff, Nat.one_ne_zero, Nat.zero_ne_one, ix_1_0, ix_2_0, ix_2_1, ix_3_0, ix_3_1, ix_3_2, ix_4_0, ix_4_1, ix_4_2, ix_4_3, ix_5_0, ix_5_1, ix_5_2, ix_5_3, ix_5_4, ix_6_0, ix_6_1, ix_6_2, ix_6_3, ix_6_4, ix_6_5, Nat.reduceLeDiff, Int.reduceAdd, Int.reduceSub, Int.reduceMul, Int.reduceNeg, Int.reducePow, Int.reduceLT, Int.reduceLE, Int.reduceEq, Int.reduceToNat, Bool.and_true, Bool.true_and, Bool.and_self, Bool.and_false, Bool.false_and, Bool.and_eq_true, Bool.and_eq_false_imp, and_self, WS_qdn, WS_qdr, WS_qde, WS_qdb, WS_qdc, qn1, qn2, qn3, qn4, qn5, qk1, qk5, lq1, lq2, lq3, lq4, lq5, intD_int, items_tup, items_rol, items_loc, listOf_loc, listOf_rol, isL_loc, nd_non, nd_bl, nd_int, nd_str, nd_tup, nd_rol, noDct_loc, at0, at1, at2, at3, at4, at5, atl1, atl2, atl3, atl4, lstAt_new, lstAt_h0, lstAt_h1, lstAt_h2, lstAt_h3, it_tup, it_rol, kTup_eq, kLen_eq, wipe0, wipe1, b_nm, b_un, b_nil, b_cnm, b_cun, Option.bind_some, List.set_cons_zero, List.set_cons_succ, List.length_cons, List.length_nil, List.nil_append, List.cons_append, List.append_nil, List.isEmpty_cons, List.isEmpty_nil, true_and, and_true, false_and, and_false, true_implies, forall_const, not_true_eq_false, not_false_eq_true, implies_true, decide_eq_true_eq, decide_eq_false_iff_not, Bool.not_eq_true', Bool.not_eq_false', Bool.not_true, Bool.not_false, if_true, if_false, Bool.false_eq_true, Bool.true_eq_false, reduceCtorEq, false_implies, eq_self]
          refine sheet_w F8 (most := 20) (by decide) (fun f hfm => ?_) (by omega) fun as S9 hal F9 _ => ?_
          · obtain ⟨n, rfl⟩ := hg f hfm
            exact ⟨n, _, _, rfl, by omega, by omega⟩
          · exact ⟨⟨as, rfl, hal⟩, F9⟩
        · rintro ys S8 F8 hy
          obtain ⟨ts, rfl, hA, htl⟩ := sheets_of hy
          rw [intsTo_len] at htl
          simp only [↓reduceIte, ↓W_ok, ↓W_exn, ↓W_var0, ↓W_varS, ↓W_K, ↓W_bin, ↓W_un, ↓W_aNil, ↓W_aCons, ↓W_arg, ↓W_call, ↓W_of, ↓WB_test, ↓tc_bl, ↓WB_tru, ↓trc, ↓WB_and, ↓WB_or, ↓WB_not, ↓W_if, ↓W_andV, ↓W_orV, ↓W_notV, ↓WM_some, ↓WM_none, ↓WO_some, ↓tr_bl, ↓tr_non, ↓tr_int, ↓tr_tup, ↓tr_rol, ↓WS_nx, ↓WS_rt, ↓WS_ct, ↓WS_bk, ↓WS_exn, ↓WS_seq, ↓WS_nil, ↓WS_retN, ↓WS_break, ↓WS_cont, ↓WS_expr, ↓WS_ret, ↓WS_if, ↓WS_set, ↓WS_par, ↓WS_asg, ↓WS_gSet, ↓WS_gN, ↓WS_gC, ↓WS_gUn, ↓WS_gSub, ↓WS_aug, ↓o_add, ↓o_iadd, ↓o_sub, ↓o_neg, ↓o_mul, ↓o_mod, ↓o_div, ↓o_pow, ↓o_addT, ↓o_addS, ↓o_addL, ↓o_lt, ↓o_le, ↓o_gt, ↓o_ge, ↓o_eq, ↓o_ne, ↓o_eqS, ↓o_neS, ↓o_eqB, ↓o_neB, ↓o_eqT, ↓o_neT, ↓o_eqN, ↓o_neN, ↓o_ltT, ↓o_leT, ↓o_is, ↓o_isnot, ↓o_isB, ↓o_isnotB, ↓o_inT, ↓o_ninT, ↓o_inL, ↓o_ninL, ↓o_ixT, ↓o_ixR, ↓o_ixL, ↓o_rev, ↓o_ixS, ↓o_str, ↓o_strS, ↓o_set, ↓o_lenT, ↓o_lenR, ↓o_lenL, ↓o_lenS, ↓o_int, ↓o_intT, ↓o_intF, ↓o_abs, ↓o_max, ↓o_min, ↓o_tuple, ↓o_listXt, ↓o_listXr, ↓o_listXl, ↓o_listXs, ↓o_sortedXt, ↓o_tup0, ↓o_tup1, ↓o_tup2, ↓o_tup3, ↓o_tup4, ↓o_tup5, ↓o_tup6, ↓o_lst0, ↓o_lst1, ↓o_lst2, ↓o_lst3, ↓o_lst4, ↓o_lst5, ↓o_lst6, ↓o_sum, ↓W_meth, ↓o_append, ↓o_extend, ↓o_popAt, ↓W_cut, ↓W_noPart, ↓W_part, ↓o_cutT, ↓o_cutR, ↓o_cutL, ↓W_isi, ↓W_ch, ↓WS_for, ↓WI_iter, ↓WI_range1, ↓WI_range2, ↓WI_range3, ↓WI_enum, ↓WI_zip2, ↓WI_zip3, ↓W_callK, ↓WS_f0, ↓WS_f1, ↓W_alloc, ↓W_ofL, ↓W_comp, ↓WB_yes, ↓W_c0, ↓W_cx1, ↓W_cg0, ↓W_cg1, ↓W_listRg, ↓W_tupRg, ↓W_rRange1, ↓W_rRange2, Option.isSome_some, z2_t, z3_t, perm_nil, perm_cons, List.getD_cons_zero, List.getD_cons_succ, o_intT, o_intF, o_intB, o_ixL, o_ixT, beq_self_eq_true, decide_true, decide_false, okEq, okCmp, okIn, D.fits, D.fitsL, D.dep, D.depL, D.eqv, D.eqvL, D.alike, D.alikeL, isBl_bl, isN_non, isN_bl, isN_int, isN_str, isN_tup, isN_rol, isN_loc, Nat.reduceAdd, Nat.reduceSub, Nat.max_self, Nat.min_self, Nat.max_zero, Nat.zero_max, Nat.min_zero, Nat.zero_min, ty_non, ty_bl, ty_int, ty_str, ty_tup, ty_rol, ty_loc, kb_bool_bool, kb_bool_int, kb_bool_str, kb_bool_tuple, kb_bool_list, kb_int_bool, kb_int_int, kb_int_str, kb_int_tuple, kb_int_list, kb_str_bool, kb_str_int, kb_str_str, kb_str_tuple, kb_str_list, kb_tuple_bool, kb_tuple_int, kb_tuple_str, kb_tuple_tuple, kb_tuple_list, kb_list_bool, kb_list_int, kb_list_str, kb_list_tuple, kb_list_list, kb_NoneType_bool, kb_NoneType_int, kb_NoneType_str, kb_NoneType_tuple, kb_NoneType_list, Nat.zero_add, c02, lstAt_setE, Option.map_some, lstAt_set_ne, ne_eq, Nat.reduceEqDiff, Nat.one_ne_zero, Nat.zero_ne_one, ix_1_0, ix_2_0, ix_2_1, ix_3_0, ix_3_1, ix_3_2, ix_4_0, ix_4_1, ix_4_2, ix_4_3, ix_5_0, ix_5_1, ix_5_2, ix_5_3, ix_5_4, ix_6_0, ix_6_1, ix_6_2, ix_6_3, ix_6_4, ix_6_5, Nat.reduceLeDiff, Int.reduceAdd, Int.reduceSub, Int.reduceMul, Int.reduceNeg, Int.reducePow, Int.reduceLT, Int.reduceLE, Int.reduceEq, Int.reduceToNat, Bool.and_true, Bool.true_and, Bool.and_self, Bool.and_false, Bool.false_and, Bool.and_eq_true, Bool.and_eq_false_imp, and_self, WS_qdn, WS_qdr, WS_qde, WS_qdb, WS_qdc, qn1, qn2, qn3, qn4, qn5, qk1, qk5, lq1, lq2, lq3, lq4, lq5, intD_int, items_tup, items_rol, items_loc, listOf_loc, listOf_rol, isL_loc, nd_non, nd_bl, nd_int, nd_str, nd_tup, nd_rol, noDct_loc, at0, at1, at2, at3, at4, at5, atl1, atl2, atl3, atl4, lstAt_new, lstAt_h0, lstAt_h1, lstAt_h2, lstAt_h3, it_tup, it_rol, kTup_eq, kLen_eq, wipe0, wipe1, b_nm, b_un, b_nil, b_cnm, b_cun, Option.bind_some, List.set_cons_zero, List.set_cons_succ, List.length_cons, List.length_nil, List.nil_append, List.cons_append, List.append_nil, List.isEmpty_cons, List.isEmpty_nil, true_and, and_true, false_and, and_false, true_implies, forall_const, not_true_eq_false, not_false_eq_true, implies_true, decide_eq_true_eq, decide_eq_false_iff_not, Bool.not_eq_true', Bool.not_eq_false', Bool.not_true, Bool.not_false, if_true, if_false, Bool.false_eq_true, Bool.true_eq_false, reduceCtorEq, false_implies, eq_self]
          refine middles_w F8 (by omega) hA (by rw [htl]; decide) (by rw [htl]; decide) fun S9 F9 _ => ?_
          simp only [↓reduceIte, ↓W_ok, ↓W_exn, ↓W_var0, ↓W_varS, ↓W_K, ↓W_bin, ↓W_un, ↓W_aNil, ↓W_aCons, ↓W_arg, ↓W_call, ↓W_of, ↓WB_test, ↓tc_bl, ↓WB_tru, ↓trc, ↓WB_and, ↓WB_or, ↓WB_not, ↓W_if, ↓W_andV, ↓W_orV, ↓W_notV, ↓WM_some, ↓WM_none, ↓WO_some, ↓tr_bl, ↓tr_non, ↓tr_int, ↓tr_tup, ↓tr_rol, ↓WS_nx, ↓WS_rt, ↓WS_ct, ↓WS_bk, ↓WS_exn, ↓WS_seq, ↓WS_nil, ↓WS_retN, ↓WS_break, ↓WS_cont, ↓WS_expr, ↓WS_ret, ↓WS_if, ↓WS_set, ↓WS_par, ↓WS_asg, ↓WS_gSet, ↓WS_gN, ↓WS_gC, ↓WS_gUn, ↓WS_gSub, ↓WS_aug, ↓o_add, ↓o_iadd, ↓o_sub, ↓o_neg, ↓o_mul, ↓o_mod, ↓o_div, ↓o_pow, ↓o_addT, ↓o_addS, ↓o_addL, ↓o_lt, ↓o_le, ↓o_gt, ↓o_ge, ↓o_eq, ↓o_ne, ↓o_eqS, ↓o_neS, ↓o_eqB, ↓o_neB, ↓o_eqT, ↓o_neT, ↓o_eqN, ↓o_neN, ↓o_ltT, ↓o_leT, ↓o_is, ↓o_isnot, ↓o_isB, ↓o_isnotB, ↓o_inT, ↓o_ninT, ↓o_inL, ↓o_ninL, ↓o_ixT, ↓o_ixR, ↓o_ixL, ↓o_rev, ↓o_ixS, ↓o_str, ↓o_strS, ↓o_set, ↓o_lenT, ↓o_lenR, ↓o_lenL, ↓o_lenS, ↓o_int, ↓o_intT, ↓o_intF, ↓o_abs, ↓o_max, ↓o_min, ↓o_tuple, ↓o_listXt, ↓o_listXr, ↓o_listXl, ↓o_listXs, ↓o_sortedXt, ↓o_tup0, ↓o_tup1, ↓o_tup2, ↓o_tup3, ↓o_tup4, ↓o_tup5, ↓o_tup6, ↓o_lst0, ↓o_lst1, ↓o_lst2, ↓o_lst3, ↓o_lst4, ↓o_lst5, ↓o_lst6, ↓o_sum, ↓W_meth, ↓o_append, ↓o_extend, ↓o_popAt, ↓W_cut, ↓W_noPart, ↓W_part, ↓o_cutT, ↓o_cutR, ↓o_cutL, ↓W_isi, ↓W_ch, ↓WS_for, ↓WI_iter, ↓WI_range1, ↓WI_range2, ↓WI_range3, ↓WI_enum, ↓WI_zip2, ↓WI_zip3, ↓W_callK, ↓WS_f0, ↓WS_f1, ↓W_alloc, ↓W_ofL, ↓W_comp, ↓WB_yes, ↓W_c0, ↓W_cx1, ↓W_cg0, ↓W_cg1, ↓W_listRg, ↓W_tupRg, ↓W_rRange1, ↓W_rRange2, Option.isSome_some, z2_t, z3_t, perm_nil, perm_cons, List.getD_cons_zero, List.getD_cons_succ, o_intT, o_intF, o_intB, o_ixL, o_ixT, beq_self_eq_true, decide_true, decide_false, okEq, okCmp, okIn, D.fits, D.fitsL, D.dep, D.depL, D.eqv, D.eqvL, D.alike, D.alikeL, isBl_bl, isN_non, isN_bl, isN_int, isN_str, isN_tup, isN_rol, isN_loc, Nat.reduceAdd, Nat.reduceSub, Nat.max_self, Nat.min_self, Nat.max_zero, Nat.zero_max, Nat.min_zero, Nat.zero_min, ty_non, ty_bl, ty_int, ty_str, ty_tup, ty_rol, ty_loc, kb_bool_bool, kb_bool_int, kb_bool_str, kb_bool_tuple, kb_bool_list, kb_int_bool, kb_int_int, kb_int_str, kb_int_tuple, kb_int_list, kb_str_bool, kb_str_int, kb_str_str, kb_str_tuple, kb_str_list, kb_tuple_bool, kb_tuple_int, kb_tuple_str, kb_tuple_tuple, kb_tuple_list, kb_list_bool, kb_list_int, kb_list_str, kb_list_tuple, kb_list_list, kb_NoneType_bool, kb_NoneType_int, kb_NoneType_str, kb_NoneType_tuple, kb_NoneType_list, Nat.zero_add, c02, lstAt_setE, Option.map_some, lstAt_set_ne, ne_eq, Nat.reduceEqDiff, Nat.one_ne_zero, Nat.zero_ne_one, ix_1_0, ix_2_0, ix_2_1, ix_3_0, ix_3_1, ix_3_2, ix_4_0, ix_4_1, ix_4_2, ix_4_3, ix_5_0, ix_5_1, ix_5_2, ix_5_3, ix_5_4, ix_6_0, ix_6_1, ix_6_2, ix_6_3, ix_6_4, ix_6_5, Nat.reduceLeDiff, Int.reduceAdd, Int.reduceSub, Int.reduceMul, Int.reduceNeg, Int.reducePow, Int.reduceLT, Int.reduceLE, Int.reduceEq, Int.reduceToNat, Bool.and_true, Bool.true_and, Bool.and_self, Bool.and_false, Bool.false_and, Bool.and_eq_true, Bool.and_eq_false_imp, and_self, WS_qdn, WS_qdr, WS_qde, WS_qdb, WS_qdc, qn1, qn2, qn3, qn4, qn5, qk1, qk5, lq1, lq2, lq3, lq4, lq5, intD_int, items_tup, items_rol, items_loc, listOf_loc, listOf_rol, isL_loc, nd_non, nd_bl, nd_int, nd_str, nd_tup, nd_rol, noDct_loc, at0, at1, at2, at3, at4, at5, atl1, atl2, atl3, atl4, lstAt_new, lstAt_h0, lstAt_h1, lstAt_h2, lstAt_h3, it_tup, it_rol, kTup_eq, kLen_eq, wipe0, wipe1, b_nm, b_un, b_nil, b_cnm, b_cun, Option.bind_some, List.set_cons_zero, List.set_cons_succ, List.length_cons, List.length_nil, List.nil_append, List.cons_append, List.append_nil, List.isEmpty_cons, List.isEmpty_nil, true_and, and_true, false_and, and_false, true_implies, forall_const, not_true_eq_false, not_false_eq_true, implies_true, decide_eq_true_eq, decide_eq_false_iff_not, Bool.not_eq_true', Bool.not_eq_false', Bool.not_true, Bool.not_false, if_true, if_false, Bool.false_eq_true, Bool.true_eq_false, reduceCtorEq, false_implies, eq_self]
          refine cooked_w F9 (by omega) hA (by rw [htl]; decide) (by rw [htl]; decide) (by decide) (by decide) fun S10 F10 _ => ?_
          simp only [↓reduceIte, ↓W_ok, ↓W_exn, ↓W_var0, ↓W_varS, ↓W_K, ↓W_bin, ↓W_un, ↓W_aNil, ↓W_aCons, ↓W_arg, ↓W_call, ↓W_of, ↓WB_test, ↓tc_bl, ↓WB_tru, ↓trc, ↓WB_and, ↓WB_or, ↓WB_not, ↓W_if, ↓W_andV, ↓W_orV, ↓W_notV, ↓WM_some, ↓WM_none, ↓WO_some, ↓tr_bl, ↓tr_non, ↓tr_int, ↓tr_tup, ↓tr_rol, ↓WS_nx, ↓WS_rt, ↓WS_ct, ↓WS_bk, ↓WS_exn, ↓WS_seq, ↓WS_nil, ↓WS_retN, ↓WS_break, ↓WS_cont, ↓WS_expr, ↓WS_ret, ↓WS_if, ↓WS_set, ↓WS_par, ↓WS_asg, ↓WS_gSet, ↓WS_gN, ↓WS_gC, ↓WS_gUn, ↓WS_gSub, ↓WS_aug, ↓o_add, ↓o_iadd, ↓o_sub, ↓o_neg, ↓o_mul, ↓o_mod, ↓o_div, ↓o_pow, ↓o_addT, ↓o_addS, ↓o_addL, ↓o_lt, ↓o_le, ↓o_gt, ↓o_ge, ↓o_eq, ↓o_ne, ↓o_eqS, ↓o_neS, ↓o_eqB, ↓o_neB, ↓o_eqT, ↓o_neT, ↓o_eqN, ↓o_neN, ↓o_ltT, ↓o_leT, ↓o_is, ↓o_isnot, ↓o_isB, ↓o_isnotB, ↓o_inT, ↓o_ninT, ↓o_inL, ↓o_ninL, ↓o_ixT, ↓o_ixR, ↓o_ixL, ↓o_rev, ↓o_ixS, ↓o_str, ↓o_strS, ↓o_set, ↓o_lenT, ↓o_lenR, ↓o_lenL, ↓o_lenS, ↓o_int, ↓o_intT, ↓o_intF, ↓o_abs, ↓o_max, ↓o_min, ↓o_tuple, ↓o_listXt, ↓o_listXr, ↓o_listXl, ↓o_listXs, ↓o_sortedXt, ↓o_tup0, ↓o_tup1, ↓o_tup2, ↓o_tup3, ↓o_tup4, ↓o_tup5, ↓o_tup6, ↓o_lst0, ↓o_lst1, ↓o_lst2, ↓o_lst3, ↓o_lst4, ↓o_lst5, ↓o_lst6, ↓o_sum, ↓W_meth, ↓o_append, ↓o_extend, ↓o_popAt, ↓W_cut, ↓W_noPart, ↓W_part, ↓o_cutT, ↓o_cutR, ↓o_cutL, ↓W_isi, ↓W_ch, ↓WS_for, ↓WI_iter, ↓WI_range1, ↓WI_range2, ↓WI_range3, ↓WI_enum, ↓WI_zip2, ↓WI_zip3, ↓W_callK, ↓WS_f0, ↓WS_f1, ↓W_alloc, ↓W_ofL, ↓W_comp, ↓WB_yes, ↓W_c0, ↓W_cx1, ↓W_cg0, ↓W_cg1, ↓W_listRg, ↓W_tupRg, ↓W_rRange1, ↓W_rRange2, Option.isSome_some, z2_t, z3_t, perm_nil, perm_cons, List.getD_cons_zero, List.getD_cons_succ, o_intT, o_intF, o_intB, o_ixL, o_ixT, beq_self_eq_true, decide_true, decide_false, okEq, okCmp, okIn, D.fits, D.fitsL, D.dep, D.depL, D.eqv, D.eqvL, D.alike, D.alikeL, isBl_bl, isN_non, isN_bl, isN_int, isN_str, isN_tup, isN_rol, isN_loc, Nat.reduceAdd, Nat.reduceSub, Nat.max_self, Nat.min_self, Nat.max_zero, Nat.zero_max, Nat.min_zero, Nat.zero_min, ty_non, ty_bl, ty_int, ty_str, ty_tup, ty_rol, ty_loc, kb_bool_bool, kb_bool_int, kb_bool_str, kb_bool_tuple, kb_bool_list, kb_int_bool, kb_int_int, kb_int_str, kb_int_tuple, kb_int_list, kb_str_bool, kb_str_int, kb_str_str, kb_str_tuple, kb_str_list, kb_tuple_bool, kb_tuple_int, kb_tuple_str, kb_tuple_tuple, kb_tuple_list, kb_list_bool, kb_list_int, kb_list_str, kb_list_tuple, kb_list_list, kb_NoneType_bool, kb_NoneType_int, kb_NoneType_str, kb_NoneType_tuple, kb_NoneType_list, Nat.zero_add, c02, lstAt_setE, Option.map_some, lstAt_set_ne, ne_eq, Nat.reduceEqDiff, Nat.one_ne_zero, Nat.zero_ne_one, ix_1_0, ix_2_0, ix_2_1, ix_3_0, ix_3_1, ix_3_2, ix_4_0, ix_4_1, ix_4_2, ix_4_3, ix_5_0, ix_5_1, ix_5_2, ix_5_3, ix_5_4, ix_6_0, ix_6_1, ix_6_2, ix_6_3, ix_6_4, ix_6_5, Nat.reduceLeDiff, Int.reduceAdd, Int.reduceSub, Int.reduceMul, Int.reduceNeg, Int.reducePow, Int.reduceLT, Int.reduceLE, Int.reduceEq, Int.reduceToNat, Bool.and_true, Bool.true_and, Bool.and_self, Bool.and_false, Bool.false_and, Bool.and_eq_true, Bool.and_eq_false_imp, and_self, WS_qdn, WS_qdr, WS_qde, WS_qdb, WS_qdc, qn1, qn2, qn3, qn4, qn5, qk1, qk5, lq1, lq2, lq3, lq4, lq5, intD_int, items_tup, items_rol, items_loc, listOf_loc, listOf_rol, isL_loc, nd_non, nd_bl, nd_int, nd_str, nd_tup, nd_rol, noDct_loc, at0, at1, at2, at3, at4, at5, atl1, atl2, atl3, atl4, lstAt_new, lstAt_h0, lstAt_h1, lstAt_h2, lstAt_h3, it_tup, it_rol, kTup_eq, kLen_eq, wipe0, wipe1, b_nm, b_un, b_nil, b_cnm, b_cun, Option.bind_some, List.set_cons_zero, List.set_cons_succ, List.length_cons, List.length_nil, List.nil_append, List.cons_append, List.append_nil, List.isEmpty_cons, List.isEmpty_nil, true_and, and_true, false_and, and_false, true_implies, forall_const, not_true_eq_false, not_false_eq_true, implies_true, decide_eq_true_eq, decide_eq_false_iff_not, Bool.not_eq_true', Bool.not_eq_false', Bool.not_true, Bool.not_false, if_true, if_false, Bool.false_eq_true, Bool.true_eq_false, reduceCtorEq, false_implies, eq_self]
          exact ⟨F10, _, _, _, _, _, _, _, _, rfl⟩
    · rintro σ S4 ⟨F4, p1, p2, p3, p4, p5, p6, p7, p8, rfl⟩
      simp only [↓reduceIte, ↓W_ok, ↓W_exn, ↓W_var0, ↓W_varS, ↓W_K, ↓W_bin, ↓W_un, ↓W_aNil, ↓W_aCons, ↓W_arg, ↓W_call, ↓W_of, ↓WB_test, ↓tc_bl, ↓WB_tru, ↓trc, ↓WB_and, ↓WB_or, ↓WB_not, ↓W_if, ↓W_andV, ↓W_orV, ↓W_notV, ↓WM_some, ↓WM_none, ↓WO_some, ↓tr_bl, ↓tr_non, ↓tr_int, ↓tr_tup, ↓tr_rol, ↓WS_nx, ↓WS_rt, ↓WS_ct, ↓WS_bk, ↓WS_exn, ↓WS_seq, ↓WS_nil, ↓WS_retN, ↓WS_break, ↓WS_cont, ↓WS_expr, ↓WS_ret, ↓WS_if, ↓WS_set, ↓WS_par, ↓WS_asg, ↓WS_gSet, ↓WS_gN, ↓WS_gC, ↓WS_gUn, ↓WS_gSub, ↓WS_aug, ↓o_add, ↓o_iadd, ↓o_sub, ↓o_neg, ↓o_mul, ↓o_mod, ↓o_div, ↓o_pow, ↓o_addT, ↓o_addS, ↓o_addL, ↓o_lt, ↓o_le, ↓o_gt, ↓o_ge, ↓o_eq, ↓o_ne, ↓o_eqS, ↓o_neS, ↓o_eqB, ↓o_neB, ↓o_eqT, ↓o_neT, ↓o_eqN, ↓o_neN, ↓o_ltT, ↓o_leT, ↓o_is, ↓o_isnot, ↓o_isB, ↓o_isnotB, ↓o_inT, ↓o_ninT, ↓o_inL, ↓o_ninL, ↓o_ixT, ↓o_ixR, ↓o_ixL, ↓o_rev, ↓o_ixS, ↓o_str, ↓o_strS, ↓o_set, ↓o_lenT, ↓o_lenR, ↓o_lenL, ↓o_lenS, ↓o_int, ↓o_intT, ↓o_intF, ↓o_abs, ↓o_max, ↓o_min, ↓o_tuple, ↓o_listXt, ↓o_listXr, ↓o_listXl, ↓o_listXs, ↓o_sortedXt, ↓o_tup0, ↓o_tup1, ↓o_tup2, ↓o_tup3, ↓o_tup4, ↓o_tup5, ↓o_tup6, ↓o_lst0, ↓o_lst1, ↓o_lst2, ↓o_lst3, ↓o_lst4, ↓o_lst5, ↓o_lst6, ↓o_sum, ↓W_meth, ↓o_append, ↓o_extend, ↓o_popAt, ↓W_cut, ↓W_noPart, ↓W_part, ↓o_cutT, ↓o_cutR, ↓o_cutL, ↓W_isi, ↓W_ch, ↓WS_for, ↓WI_iter, ↓WI_range1, ↓WI_range2, ↓WI_range3, ↓WI_enum, ↓WI_zip2, ↓WI_zip3, ↓W_callK, ↓WS_f0, ↓WS_f1, ↓W_alloc, ↓W_ofL, ↓W_comp, ↓WB_yes, ↓W_c0, ↓W_cx1, ↓W_cg0, ↓W_cg1, ↓W_listRg, ↓W_tupRg, ↓W_rRange1, ↓W_rRange2, Option.isSome_some, z2_t, z3_t, perm_nil, perm_cons, List.getD_cons_zero, List.getD_cons_succ, o_intT, o_intF, o_intB, o_ixL, o_ixT, beq_self_eq_true, decide_true, decide_false, okEq, okCmp, okIn, D.fits, D.fitsL, D.dep, D.depL, D.eqv, D.eqvL, D.alike, D.alikeL, isBl_bl, isN_non, isN_bl, isN_int, isN_str, isN_tup, isN_rol, isN_loc, Nat.reduceAdd, Nat.reduceSub, Nat.max_self, Nat.min_self, Nat.max_zero, Nat.zero_max, Nat.min_zero, Nat.zero_min, ty_non, ty_bl, ty_int, ty_str, ty_tup, ty_rol, ty_loc, kb_bool_bool, kb_bool_int, kb_bool_str, kb_bool_tuple, kb_bool_list, kb_int_bool, kb_int_int, kb_int_str, kb_int_tuple, kb_int_list, kb_str_bool, kb_str_int, kb_str_str, kb_str_tuple, kb_str_list, kb_tuple_bool, kb_tuple_int, kb_tuple_str, kb_tuple_tuple, kb_tuple_list, kb_list_bool, kb_list_int, kb_list_str, kb_list_tuple, kb_list_list, kb_NoneType_bool, kb_NoneType_int, kb_NoneType_str, kb_NoneType_tuple, kb_NoneType_list, Nat.zero_add, c02, lstAt_setE, Option.map_some, lstAt_set_ne, ne_eq, Nat.reduceEqDiff, Nat.one_ne_zero, Nat.zero_ne_one, ix_1_0, ix_2_0, ix_2_1, ix_3_0, ix_3_1, ix_3_2, ix_4_0, ix_4_1, ix_4_2, ix_4_3, ix_5_0, ix_5_1, ix_5_2, ix_5_3, ix_5_4, ix_6_0, ix_6_1, ix_6_2, ix_6_3, ix_6_4, ix_6_5, Nat.reduceLeDiff, Int.reduceAdd, Int.reduceSub, Int.reduceMul, Int.reduceNeg, Int.reducePow, Int.reduceLT, Int.reduceLE, Int.reduceEq, Int.reduceToNat, Bool.and_true, Bool.true_and, Bool.and_self, Bool.and_false, Bool.false_and, Bool.and_eq_true, Bool.and_eq_false_imp, and_self, WS_qdn, WS_qdr, WS_qde, WS_qdb, WS_qdc, qn1, qn2, qn3, qn4, qn5, qk1, qk5, lq1, lq2, lq3, lq4, lq5, intD_int, items_tup, items_rol, items_loc, listOf_loc, listOf_rol, isL_loc, nd_non, nd_bl, nd_int, nd_str, nd_tup, nd_rol, noDct_loc, at0, at1, at2, at3, at4, at5, atl1, atl2, atl3, atl4, lstAt_new, lstAt_h0, lstAt_h1, lstAt_h2, lstAt_h3, it_tup, it_rol, kTup_eq, kLen_eq, wipe0, wipe1, b_nm, b_un, b_nil, b_cnm, b_cun, Option.bind_some, List.set_cons_zero, List.set_cons_succ, List.length_cons, List.length_nil, List.nil_append, List.cons_append, List.append_nil, List.isEmpty_cons, List.isEmpty_nil, true_and, and_true, false_and, and_false, true_implies, forall_const, not_true_eq_false, not_false_eq_true, implies_true, decide_eq_true_eq, decide_eq_false_iff_not, Bool.not_eq_true', Bool.not_eq_false', Bool.not_true, Bool.not_false, if_true, if_false, Bool.false_eq_true, Bool.true_eq_false, reduceCtorEq, false_implies, eq_self]
      refine draw_w F4 (by decide) (by decide) fun v S5 v0 v1 F5 _ => ?_
      simp only [↓reduceIte, ↓W_ok, ↓W_exn, ↓W_var0, ↓W_varS, ↓W_K, ↓W_bin, ↓W_un, ↓W_aNil, ↓W_aCons, ↓W_arg, ↓W_call, ↓W_of, ↓WB_test, ↓tc_bl, ↓WB_tru, ↓trc, ↓WB_and, ↓WB_or, ↓WB_not, ↓W_if, ↓W_andV, ↓W_orV, ↓W_notV, ↓WM_some, ↓WM_none, ↓WO_some, ↓tr_bl, ↓tr_non, ↓tr_int, ↓tr_tup, ↓tr_rol, ↓WS_nx, ↓WS_rt, ↓WS_ct, ↓WS_bk, ↓WS_exn, ↓WS_seq, ↓WS_nil, ↓WS_retN, ↓WS_break, ↓WS_cont, ↓WS_expr, ↓WS_ret, ↓WS_if, ↓WS_set, ↓WS_par, ↓WS_asg, ↓WS_gSet, ↓WS_gN, ↓WS_gC, ↓WS_gUn, ↓WS_gSub, ↓WS_aug, ↓o_add, ↓o_iadd, ↓o_sub, ↓o_neg, ↓o_mul, ↓o_mod, ↓o_div, ↓o_pow, ↓o_addT, ↓o_addS, ↓o_addL, ↓o_lt, ↓o_le, ↓o_gt, ↓o_ge, ↓o_eq, ↓o_ne, ↓o_eqS, ↓o_neS, ↓o_eqB, ↓o_neB, ↓o_eqT, ↓o_neT, ↓o_eqN, ↓o_neN, ↓o_ltT, ↓o_leT, ↓o_is, ↓o_isnot, ↓o_isB, ↓o_isnotB, ↓o_inT, ↓o_ninT, ↓o_inL, ↓o_ninL, ↓o_ixT, ↓o_ixR, ↓o_ixL, ↓o_rev, ↓o_ixS, ↓o_str, ↓o_strS, ↓o_set, ↓o_lenT, ↓o_lenR, ↓o_lenL, ↓o_lenS, ↓o_int, ↓o_intT, ↓o_intF, ↓o_abs, ↓o_max, ↓o_min, ↓o_tuple, ↓o_listXt, ↓o_listXr, ↓o_listXl, ↓o_listXs, ↓o_sortedXt, ↓o_tup0, ↓o_tup1, ↓o_tup2, ↓o_tup3, ↓o_tup4, ↓o_tup5, ↓o_tup6, ↓o_lst0, ↓o_lst1, ↓o_lst2, ↓o_lst3, ↓o_lst4, ↓o_lst5, ↓o_lst6, ↓o_sum, ↓W_meth, ↓o_append, ↓o_extend, ↓o_popAt, ↓W_cut, ↓W_noPart, ↓W_part, ↓o_cutT, ↓o_cutR, ↓o_cutL, ↓W_isi, ↓W_ch, ↓WS_for, ↓WI_iter, ↓WI_range1, ↓WI_range2, ↓WI_range3, ↓WI_enum, ↓WI_zip2, ↓WI_zip3, ↓W_callK, ↓WS_f0, ↓WS_f1, ↓W_alloc, ↓W_ofL, ↓W_comp, ↓WB_yes, ↓W_c0, ↓W_cx1, ↓W_cg0, ↓W_cg1, ↓W_listRg, ↓W_tupRg, ↓W_rRange1, ↓W_rRange2, Option.isSome_some, z2_t, z3_t, perm_nil, perm_cons, List.getD_cons_zero, List.getD_cons_succ, o_intT, o_intF, o_intB, o_ixL, o_ixT, beq_self_eq_true, decide_true, decide_false, okEq, okCmp, okIn, D.fits, D.fitsL, D.dep, D.depL, D.eqv, D.eqvL, D.alike, D.alikeL, isBl_bl, isN_non, isN_bl, isN_int, isN_str, isN_tup, isN_rol, isN_loc, Nat.reduceAdd, Nat.reduceSub, Nat.max_self, Nat.min_self, Nat.max_zero, Nat.zero_max, Nat.min_zero, Nat.zero_min, ty_non, ty_bl, ty_int, ty_str, ty_tup, ty_rol, ty_loc, kb_bool_bool, kb_bool_int, kb_bool_str, kb_bool_tuple, kb_bool_list, kb_int_bool, kb_int_int, kb_int_str, kb_int_tuple, kb_int_list, kb_str_bool, kb_str_int, kb_str_str, kb_str_tuple, kb_str_list, kb_tuple_bool, kb_tuple_int, kb_tuple_str, kb_tuple_tuple, kb_tuple_list, kb_list_bool, kb_list_int, kb_list_str, kb_list_tuple, kb_list_list, kb_NoneType_bool, kb_NoneType_int, kb_NoneType_str, kb_NoneType_tuple, kb_NoneType_list, Nat.zero_add, c02, lstAt_setE, Option.map_some, lstAt_set_ne, ne_eq, Nat.reduceEqDiff, Nat.one_ne_zero, Nat.zero_ne_one, ix_1_0, ix_2_0, ix_2_1, ix_3_0, ix_3_1, ix_3_2, ix_4_0, ix_4_1, ix_4_2, ix_4_3, ix_5_0, ix_5_1, ix_5_2, ix_5_3, ix_5_4, ix_6_0, ix_6_1, ix_6_2, ix_6_3, ix_6_4, ix_6_5, Nat.reduceLeDiff, Int.reduceAdd, Int.reduceSub, Int.reduceMul, Int.reduceNeg, Int.reducePow, Int.reduceLT, Int.reduceLE, Int.reduceEq, Int.reduceToNat, Bool.and_true, Bool.true_and, Bool.and_self, Bool.and_false, Bool.false_and, Bool.and_eq_true, Bool.and_eq_false_imp, and_self, WS_qdn, WS_qdr, WS_qde, WS_qdb, WS_qdc, qn1, qn2, qn3, qn4, qn5, qk1, qk5, lq1, lq2, lq3, lq4, lq5, intD_int, items_tup, items_rol, items_loc, listOf_loc, listOf_rol, isL_loc, nd_non, nd_bl, nd_int, nd_str, nd_tup, nd_rol, noDct_loc, at0, at1, at2, at3, at4, at5, atl1, atl2, atl3, atl4, lstAt_new, lstAt_h0, lstAt_h1, lstAt_h2, lstAt_h3, it_tup, it_rol, kTup_eq, kLen_eq, wipe0, wipe1, b_nm, b_un, b_nil, b_cnm, b_cun, Option.bind_some, List.set_cons_zero, List.set_cons_succ, List.length_cons, List.length_nil, List.nil_append, List.cons_append, List.append_nil, List.isEmpty_cons, List.isEmpty_nil, true_and, and_true, false_and, and_false, true_implies, forall_const, not_true_eq_false, not_false_eq_true, implies_true, decide_eq_true_eq, decide_eq_false_iff_not, Bool.not_eq_true', Bool.not_eq_false', Bool.not_true, Bool.not_false, if_true, if_false, Bool.false_eq_true, Bool.true_eq_false, reduceCtorEq, false_implies, eq_self]
      refine fun _ => ?_
      refine fields_w F5 (by decide) (by decide) (by decide) (by decide) fun fs S6 hf hfl F6 _ => ?_
      simp only [↓reduceIte, ↓W_ok, ↓W_exn, ↓W_var0, ↓W_varS, ↓W_K, ↓W_bin, ↓W_un, ↓W_aNil, ↓W_aCons, ↓W_arg, ↓W_call, ↓W_of, ↓WB_test, ↓tc_bl, ↓WB_tru, ↓trc, ↓WB_and, ↓WB_or, ↓WB_not, ↓W_if, ↓W_andV, ↓W_orV, ↓W_notV, ↓WM_some, ↓WM_none, ↓WO_some, ↓tr_bl, ↓tr_non, ↓tr_int, ↓tr_tup, ↓tr_rol, ↓WS_nx, ↓WS_rt, ↓WS_ct, ↓WS_bk, ↓WS_exn, ↓WS_seq, ↓WS_nil, ↓WS_retN, ↓WS_break, ↓WS_cont, ↓WS_expr, ↓WS_ret, ↓WS_if, ↓WS_set, ↓WS_par, ↓WS_asg, ↓WS_gSet, ↓WS_gN, ↓WS_gC, ↓WS_gUn, ↓WS_gSub, ↓WS_aug, ↓o_add, ↓o_iadd, ↓o_sub, ↓o_neg, ↓o_mul, ↓o_mod, ↓o_div, ↓o_pow, ↓o_addT, ↓o_addS, ↓o_addL, ↓o_lt, ↓o_le, ↓o_gt, ↓o_ge, ↓o_eq, ↓o_ne, ↓o_eqS, ↓o_neS, ↓o_eqB, ↓o_neB, ↓o_eqT, ↓o_neT, ↓o_eqN, ↓o_neN, ↓o_ltT, ↓o_leT, ↓o_is, ↓o_isnot, ↓o_isB, ↓o_isnotB, ↓o_inT, ↓o_ninT, ↓o_inL, ↓o_ninL, ↓o_ixT, ↓o_ixR, ↓o_ixL, ↓o_rev, ↓o_ixS, ↓o_str, ↓o_strS, ↓o_set, ↓o_lenT, ↓o_lenR, ↓o_lenL, ↓o_lenS, ↓o_int, ↓o_intT, ↓o_intF, ↓o_abs, ↓o_max, ↓o_min, ↓o_tuple, ↓o_listXt, ↓o_listXr, ↓o_listXl, ↓o_listXs, ↓o_sortedXt, ↓o_tup0, ↓o_tup1, ↓o_tup2, ↓o_tup3, ↓o_tup4, ↓o_tup5, ↓o_tup6, ↓o_lst0, ↓o_lst1, ↓o_lst2, ↓o_lst3, ↓o_lst4, ↓o_lst5, ↓o_lst6, ↓o_sum, ↓W_meth, ↓o_append, ↓o_extend, ↓o_popAt, ↓W_cut, ↓W_noPart, ↓W_part, ↓o_cutT, ↓o_cutR, ↓o_cutL, ↓W_isi, ↓W_ch, ↓WS_for, ↓WI_iter, ↓WI_range1, ↓WI_range2, ↓WI_range3, ↓WI_enum, ↓WI_zip2, ↓WI_zip3, ↓W_callK, ↓WS_f0, ↓WS_f1, ↓W_alloc, ↓W_ofL, ↓W_comp, ↓WB_yes, ↓W_c0, ↓W_cx1, ↓W_cg0, ↓W_cg1, ↓W_listRg, ↓W_tupRg, ↓W_rRange1, ↓W_rRange2, Option.isSome_some, z2_t, z3_t, perm_nil, perm_cons, List.getD_cons_zero, List.getD_cons_succ, o_intT, o_intF, o_intB, o_ixL, o_ixT, beq_self_eq_true, decide_true, decide_false, okEq, okCmp, okIn, D.fits, D.fitsL, D.dep, D.depL, D.eqv, D.eqvL, D.alike, D.alikeL, isBl_bl, isN_non, isN_bl, isN_int, isN_str, isN_tup, isN_rol, isN_loc, Nat.reduceAdd, Nat.reduceSub, Nat.max_self, Nat.min_self, Nat.max_zero, Nat.zero_max, Nat.min_zero, Nat.zero_min, ty_non, ty_bl, ty_int, ty_str, ty_tup, ty_rol, ty_loc, kb_bool_bool, kb_bool_int, kb_bool_str, kb_bool_tuple, kb_bool_list, kb_int_bool, kb_int_int, kb_int_str, kb_int_tuple, kb_int_list, kb_str_bool, kb_str_int, kb_str_str, kb_str_tuple, kb_str_list, kb_tuple_bool, kb_tuple_int, kb_tuple_str, kb_tuple_tuple, kb_tuple_list, kb_list_bool, kb_list_int, kb_list_str, kb_list_tuple, kb_list_list, kb_NoneType_bool, kb_NoneType_int, kb_NoneType_str, kb_NoneType_tuple, kb_NoneType_list, Nat.zero_add, c02, lstAt_setE, Option.map_some, lstAt_set_ne, ne_eq, Nat.reduceEqDiff, Nat.one_ne_zero, Nat.zero_ne_one, ix_1_0, ix_2_0, ix_2_1, ix_3_0, ix_3_1, ix_3_2, ix_4_0, ix_4_1, ix_4_2, ix_4_3, ix_5_0, ix_5_1, ix_5_2, ix_5_3, ix_5_4, ix_6_0, ix_6_1, ix_6_2, ix_6_3, ix_6_4, ix_6_5, Nat.reduceLeDiff, Int.reduceAdd, Int.reduceSub, Int.reduceMul, Int.reduceNeg, Int.reducePow, Int.reduceLT, Int.reduceLE, Int.reduceEq, Int.reduceToNat, Bool.and_true, Bool.true_and, Bool.and_self, Bool.and_false, Bool.false_and, Bool.and_eq_true, Bool.and_eq_false_imp, and_self, WS_qdn, WS_qdr, WS_qde, WS_qdb, WS_qdc, qn1, qn2, qn3, qn4, qn5, qk1, qk5, lq1, lq2, lq3, lq4, lq5, intD_int, items_tup, items_rol, items_loc, listOf_loc, listOf_rol, isL_loc, nd_non, nd_bl, nd_int, nd_str, nd_tup, nd_rol, noDct_loc, at0, at1, at2, at3, at4, at5, atl1, atl2, atl3, atl4, lstAt_new, lstAt_h0, lstAt_h1, lstAt_h2, lstAt_h3, it_tup, it_rol, kTup_eq, kLen_eq, wipe0, wipe1, b_nm, b_un, b_nil, b_cnm, b_cun, Option.bind_some, List.set_cons_zero, List.set_cons_succ, List.length_cons, List.length_nil, List.nil_append, List.cons_append, List.append_nil, List.isEmpty_cons, List.isEmpty_nil, true_and, and_true, false_and, and_false, true_implies, forall_const, not_true_eq_false, not_false_eq_true, implies_true, decide_eq_true_eq, decide_eq_false_iff_not, Bool.not_eq_true', Bool.not_eq_false', Bool.not_true, Bool.not_false, if_true, if_false, Bool.false_eq_true, Bool.true_eq_false, reduceCtorEq, false_implies, eq_self]
      refine ⟨by decide, ?_⟩
      refine W_cMap (fun _ y => ∃ a, y = shD a ∧ a.length = fs.length) (fun S' => FlowOk S') F6 (by rw [intsTo_len, sizeLine_eq]; decide) (fun _ _ => trivial) ?_ ?_
      · rintro d S7 - F7
        simp only [↓reduceIte, ↓W_ok, ↓W_exn, ↓W_var0, ↓W_varS, ↓W_K, ↓W_bin, ↓W_un, ↓W_aNil, ↓W_aCons, ↓W_arg, ↓W_call, ↓W_of, ↓WB_test, ↓tc_bl, ↓WB_tru, ↓trc, ↓WB_and, ↓WB_or, ↓WB_not, ↓W_if, ↓W_andV, ↓W_orV, ↓W_notV, ↓WM_some, ↓WM_none, ↓WO_some, ↓tr_bl, ↓tr_non, ↓tr_int, ↓tr_tup, ↓tr_rol, ↓WS_nx, ↓WS_rt, ↓WS_ct, ↓WS_bk, ↓WS_exn, ↓WS_seq, ↓WS_nil, ↓WS_retN, ↓WS_break, ↓WS_cont, ↓WS_expr, ↓WS_ret, ↓WS_if, ↓WS_set, ↓WS_par, ↓WS_asg, ↓WS_gSet, ↓WS_gN, ↓WS_gC, ↓WS_gUn, ↓WS_gSub, ↓WS_aug, ↓o_add, ↓o_iadd, ↓o_sub, ↓o_neg, ↓o_mul, ↓o_mod, ↓o_div, ↓o_pow, ↓o_addT, ↓o_addS, ↓o_addL, ↓o_lt, ↓o_le, ↓o_gt, ↓o_ge, ↓o_eq, ↓o_ne, ↓o_eqS, ↓o_neS, ↓o_eqB, ↓o_neB, ↓o_eqT, ↓o_neT, ↓o_eqN, ↓o_neN, ↓o_ltT, ↓o_leT, ↓o_is, ↓o_isnot, ↓o_isB, ↓o_isnotB, ↓o_inT, ↓o_ninT, ↓o_inL, ↓o_ninL, ↓o_ixT, ↓o_ixR, ↓o_ixL, ↓o_rev, ↓o_ixS, ↓o_str, ↓o_strS, ↓o_set, ↓o_lenT, ↓o_lenR, ↓o_lenL, ↓o_lenS, ↓o_int, ↓o_intT, ↓o_intF, ↓o_abs, ↓o_max, ↓o_min, ↓o_tuple, ↓o_listXt, ↓o_listXr, ↓o_listXl, ↓o_listXs, ↓o_sortedXt, ↓o_tup0, ↓o_tup1, ↓o_tup2, ↓o_tup3, ↓o_tup4, ↓o_tup5, ↓o_tup6, ↓o_lst0, ↓o_lst1, ↓o_lst2, ↓o_lst3, ↓o_lst4, ↓o_lst5, ↓o_lst6, ↓o_sum, ↓W_meth, ↓o_append, ↓o_extend, ↓o_popAt, ↓W_cut, ↓W_noPart, ↓W_part, ↓o_cutT, ↓o_cutR, ↓o_cutL, ↓W_isi, ↓W_ch, ↓WS_for, ↓WI_iter, ↓WI_range1, ↓WI_range2, ↓WI_range3, ↓WI_enum, ↓WI_zip2, ↓WI_zip3, ↓W_callK, ↓WS_f0, ↓WS_f1, ↓W_alloc, ↓W_ofL, ↓W_comp, ↓WB_yes, ↓W_c0, ↓W_cx1, ↓W_cg0, ↓W_cg1, ↓W_listRg, ↓W_tupRg, ↓W_rRange1, ↓W_rRange2, Option.isSome_some, z2_t, z3_t, perm_nil, perm_cons, List.getD_cons_zero, List.getD_cons_succ, o_intT, o_intF, o_intB, o_ixL, o_ixT, beq_self_eq_true, decide_true, decide_false, okEq, okCmp, okIn, D.fits, D.fitsL, D.dep, D.depL, D.eqv, D.eqvL, D.alike, D.alikeL, isBl_bl, isN_non, isN_bl, isN_int, isN_str, isN_tup, isN_rol, isN_loc, Nat.reduceAdd, Nat.reduceSub, Nat.max_self, Nat.min_self, Nat.max_zero, Nat.zero_max, Nat.min_zero, Nat.zero_min, ty_non, ty_bl, ty_int, ty_str, ty_tup, ty_rol, ty_loc, kb_bool_bool, kb_bool_int, kb_bool_str, kb_bool_tuple, kb_bool_list, kb_int_bool, kb_int_int, kb_int_str, kb_int_tuple, kb_int_list, kb_str_bool, kb_str_int, kb_str_str, kb_str_tuple, kb_str_list, kb_tuple_bool, kb_tuple_int, kb_tuple_str, kb_tuple_tuple, kb_tuple_list, kb_list_bool, kb_list_int, kb_list_str, kb_list_tuple, kb_list_list, kb_NoneType_bool, kb_NoneType_int, kb_NoneType_str, kb_NoneType_tuple, kb_NoneType_list, Nat.zero_add, c02, lstAt_setE, Option.map_some, lstAt_set_ne, ne_eq, Nat.reduceEqDiff, Nat.one_ne_zero, Nat.zero_ne_one, ix_1_0, ix_2_0, ix_2_1, ix_3_0, ix_3_1, ix_3_2, ix_4_0, ix_4_1, ix_4_2, ix_4_3, ix_5_0, ix_5_1, ix_5_2, ix_5_3, ix_5_4, ix_6_0, ix_6_1, ix_6_2, ix_6_3, ix_6_4, ix_6_5, Nat.reduceLeDiff, Int.reduceAdd, Int.reduceSub, Int.reduceMul, Int.reduceNeg, Int.reducePow, Int.reduceLT, Int.reduceLE, Int.reduceEq, Int.reduceToNat, Bool.and_true, Bool.true_and, Bool.and_self, Bool.and_false, Bool.false_and, Bool.and_eq_true, Bool.and_eq_false_imp, and_self, WS_qdn, WS_qdr, WS_qde, WS_qdb, WS_qdc, qn1, qn2, qn3, qn4, qn5, qk1, qk5, lq1, lq2, lq3, lq4, lq5, intD_int, items_tup, items_rol, items_loc, listOf_loc, listOf_rol, isL_loc, nd_non, nd_bl, nd_int, nd_str, nd_tup, nd_rol, noDct_loc, at0, at1, at2, at3, at4, at5, atl1, atl2, atl3, atl4, lstAt_new, lstAt_h0, lstAt_h1, lstAt_h2, lstAt_h3, it_tup, it_rol, kTup_eq, kLen_eq, wipe0, wipe1, b_nm, b_un, b_nil, b_cnm, b_cun, Option.bind_some, List.set_cons_zero, List.set_cons_succ, List.length_cons, List.length_nil, List.nil_append, List.cons_append, List.append_nil, List.isEmpty_cons, List.isEmpty_nil, true_and, and_true, false_and, and_false, true_implies, forall_const, not_true_eq_false, not_false_eq_true, implies_true, decide_eq_true_eq, decide_eq_false_iff_not, Bool.not_eq_true', Bool.not_eq_false', Bool.not_true, Bool.not_false, if_true, if_false, Bool.false_eq_true, Bool.true_eq_false, reduceCtorEq, false_implies, eq_self]
        refine sheet_w F7 (most := 20) (by decide) (fun f hfm => (hf f hfm).sh) (by omega) fun as S8 hal F8 _ => ?_
        exact ⟨⟨as, rfl, hal⟩, F8⟩
      · rintro ys S7 F7 hy
        obtain ⟨ts, rfl, hA, htl⟩ := sheets_of hy
        rw [intsTo_len] at htl
        simp only [↓reduceIte, ↓W_ok, ↓W_exn, ↓W_var0, ↓W_varS, ↓W_K, ↓W_bin, ↓W_un, ↓W_aNil, ↓W_aCons, ↓W_arg, ↓W_call, ↓W_of, ↓WB_test, ↓tc_bl, ↓WB_tru, ↓trc, ↓WB_and, ↓WB_or, ↓WB_not, ↓W_if, ↓W_andV, ↓W_orV, ↓W_notV, ↓WM_some, ↓WM_none, ↓WO_some, ↓tr_bl, ↓tr_non, ↓tr_int, ↓tr_tup, ↓tr_rol, ↓WS_nx, ↓WS_rt, ↓WS_ct, ↓WS_bk, ↓WS_exn, ↓WS_seq, ↓WS_nil, ↓WS_retN, ↓WS_break, ↓WS_cont, ↓WS_expr, ↓WS_ret, ↓WS_if, ↓WS_set, ↓WS_par, ↓WS_asg, ↓WS_gSet, ↓WS_gN, ↓WS_gC, ↓WS_gUn, ↓WS_gSub, ↓WS_aug, ↓o_add, ↓o_iadd, ↓o_sub, ↓o_neg, ↓o_mul, ↓o_mod, ↓o_div, ↓o_pow, ↓o_addT, ↓o_addS, ↓o_addL, ↓o_lt, ↓o_le, ↓o_gt, ↓o_ge, ↓o_eq, ↓o_ne, ↓o_eqS, ↓o_neS, ↓o_eqB, ↓o_neB, ↓o_eqT, ↓o_neT, ↓o_eqN, ↓o_neN, ↓o_ltT, ↓o_leT, ↓o_is, ↓o_isnot, ↓o_isB, ↓o_isnotB, ↓o_inT, ↓o_ninT, ↓o_inL, ↓o_ninL, ↓o_ixT, ↓o_ixR, ↓o_ixL, ↓o_rev, ↓o_ixS, ↓o_str, ↓o_strS, ↓o_set, ↓o_lenT, ↓o_lenR, ↓o_lenL, ↓o_lenS, ↓o_int, ↓o_intT, ↓o_intF, ↓o_abs, ↓o_max, ↓o_min, ↓o_tuple, ↓o_listXt, ↓o_listXr, ↓o_listXl, ↓o_listXs, ↓o_sortedXt, ↓o_tup0, ↓o_tup1, ↓o_tup2, ↓o_tup3, ↓o_tup4, ↓o_tup5, ↓o_tup6, ↓o_lst0, ↓o_lst1, ↓o_lst2, ↓o_lst3, ↓o_lst4, ↓o_lst5, ↓o_lst6, ↓o_sum, ↓W_meth, ↓o_append, ↓o_extend, ↓o_popAt, ↓W_cut, ↓W_noPart, ↓W_part, ↓o_cutT, ↓o_cutR, ↓o_cutL, ↓W_isi, ↓W_ch, ↓WS_for, ↓WI_iter, ↓WI_range1, ↓WI_range2, ↓WI_range3, ↓WI_enum, ↓WI_zip2, ↓WI_zip3, ↓W_callK, ↓WS_f0, ↓WS_f1, ↓W_alloc, ↓W_ofL, ↓W_comp, ↓WB_yes, ↓W_c0, ↓W_cx1, ↓W_cg0, ↓W_cg1, ↓W_listRg, ↓W_tupRg, ↓W_rRange1, ↓W_rRange2, Option.isSome_some, z2_t, z3_t, perm_nil, perm_cons, List.getD_cons_zero, List.getD_cons_succ, o_intT, o_intF, o_intB, o_ixL, o_ixT, beq_self_eq_true, decide_true, decide_false, okEq, okCmp, okIn, D.fits, D.fitsL, D.dep, D.depL, D.eqv, D.eqvL, D.alike, D.alikeL, isBl_bl, isN_non, isN_bl, isN_int, isN_str, isN_tup, isN_rol, isN_loc, Nat.reduceAdd, Nat.reduceSub, Nat.max_self, Nat.min_self, Nat.max_zero, Nat.zero_max, Nat.min_zero, Nat.zero_min, ty_non, ty_bl, ty_int, ty_str, ty_tup, ty_rol, ty_loc, kb_bool_bool, kb_bool_int, kb_bool_str, kb_bool_tuple, kb_bool_list, kb_int_bool, kb_int_int, kb_int_str, kb_int_tuple, kb_int_list, kb_str_bool, kb_str_int, kb_str_str, kb_str_tuple, kb_str_list, kb_tuple_bool, kb_tuple_int, kb_tuple_str, kb_tuple_tuple, kb_tuple_list, kb_list_bool, kb_list_int, kb_list_str, kb_list_tuple, kb_list_list, kb_NoneType_bool, kb_NoneType_int, kb_NoneType_str, kb_NoneType_tuple, kb_NoneType_list, Nat.zero_add, c02, lstAt_setE, Option.map_some, lstAt_set_ne, ne_eq, Nat.reduceEqDiff, Nat.one_ne_zero, Nat.zero_ne_one, ix_1_0, ix_2_0, ix_2_1, ix_3_0, ix_3_1, ix_3_2, ix_4_0, ix_4_1, ix_4_2, ix_4_3, ix_5_0, ix_5_1, ix_5_2, ix_5_3, ix_5_4, ix_6_0, ix_6_1, ix_6_2, ix_6_3, ix_6_4, ix_6_5, Nat.reduceLeDiff, Int.reduceAdd, Int.reduceSub, Int.reduceMul, Int.reduceNeg, Int.reducePow, Int.reduceLT, Int.reduceLE, Int.reduceEq, Int.reduceToNat, Bool.and_true, Bool.true_and, Bool.and_self, Bool.and_false, Bool.false_and, Bool.and_eq_true, Bool.and_eq_false_imp, and_self, WS_qdn, WS_qdr, WS_qde, WS_qdb, WS_qdc, qn1, qn2, qn3, qn4, qn5, qk1, qk5, lq1, lq2, lq3, lq4, lq5, intD_int, items_tup, items_rol, items_loc, listOf_loc, listOf_rol, isL_loc, nd_non, nd_bl, nd_int, nd_str, nd_tup, nd_rol, noDct_loc, at0, at1, at2, at3, at4, at5, atl1, atl2, atl3, atl4, lstAt_new, lstAt_h0, lstAt_h1, lstAt_h2, lstAt_h3, it_tup, it_rol, kTup_eq, kLen_eq, wipe0, wipe1, b_nm, b_un, b_nil, b_cnm, b_cun, Option.bind_some, List.set_cons_zero, List.set_cons_succ, List.length_cons, List.length_nil, List.nil_append, List.cons_append, List.append_nil, List.isEmpty_cons, List.isEmpty_nil, true_and, and_true, false_and, and_false, true_implies, forall_const, not_true_eq_false, not_false_eq_true, implies_true, decide_eq_true_eq, decide_eq_false_iff_not, Bool.not_eq_true', Bool.not_eq_false', Bool.not_true, Bool.not_false, if_true, if_false, Bool.false_eq_true, Bool.true_eq_false, reduceCtorEq, false_implies, eq_self]
        refine cooked_w F7 (by omega) hA (by rw [htl]; decide) (by rw [htl]; decide) (by decide) (by decide) fun S8 F8 _ => ?_
        rfl
end
end LW

namespace LW
open PySem PySem.Spec PyProof.Rows L2 DL
def topS (i : Nat) : Stmt := PySem.Challenge.pw_halffilled_k38_middles.main.body.getD i (.Pass ⟨0, 0, 0, 0⟩)
abbrev s_middle_of : Stmt := topS 1
abbrev s__law_is_integer : Stmt := topS 6
abbrev s__law_flow : Stmt := topS 8
abbrev s__law_draw : Stmt := topS 9
abbrev s__law_middle : Stmt := topS 13
abbrev s_things_of : Stmt := topS 3
abbrev s__law_same_numbers : Stmt := topS 7
abbrev s__law_shuffled : Stmt := topS 10
abbrev s__law_sheet : Stmt := topS 12
abbrev s__law_made : Stmt := topS 14
abbrev s__law_recipe : Stmt := topS 16
abbrev s_made_by : Stmt := topS 4
abbrev s__law_fields : Stmt := topS 11
abbrev s__law_middles : Stmt := topS 15
abbrev s__law_cooked : Stmt := topS 17
abbrev s__law_fixed : Stmt := topS 18
abbrev s_law : Stmt := topS 19
structure Top (K : PySem.W.Frag) (mg : Str → Option Value) : Prop where
  f_middle_of : ∃ f fd, mg "middle_of" = some (.ref f) ∧ Fun K "middle_of" "middle_of" s_middle_of f fd
  f__law_is_integer : ∃ f fd, mg "_law_is_integer" = some (.ref f) ∧ Fun K "_law_is_integer" "_law_is_integer" s__law_is_integer f fd
  f__law_flow : ∃ f fd, mg "_law_flow" = some (.ref f) ∧ Fun K "_law_flow" "_law_flow" s__law_flow f fd
  f__law_draw : ∃ f fd, mg "_law_draw" = some (.ref f) ∧ Fun K "_law_draw" "_law_draw" s__law_draw f fd
  f__law_middle : ∃ f fd, mg "_law_middle" = some (.ref f) ∧ Fun K "_law_middle" "_law_middle" s__law_middle f fd
  f_things_of : ∃ f fd, mg "things_of" = some (.ref f) ∧ Fun K "things_of" "things_of" s_things_of f fd
  f__law_same_numbers : ∃ f fd, mg "_law_same_numbers" = some (.ref f) ∧ Fun K "_law_same_numbers" "_law_same_numbers" s__law_same_numbers f fd
  f__law_shuffled : ∃ f fd, mg "_law_shuffled" = some (.ref f) ∧ Fun K "_law_shuffled" "_law_shuffled" s__law_shuffled f fd
  f__law_sheet : ∃ f fd, mg "_law_sheet" = some (.ref f) ∧ Fun K "_law_sheet" "_law_sheet" s__law_sheet f fd
  f__law_made : ∃ f fd, mg "_law_made" = some (.ref f) ∧ Fun K "_law_made" "_law_made" s__law_made f fd
  f__law_recipe : ∃ f fd, mg "_law_recipe" = some (.ref f) ∧ Fun K "_law_recipe" "_law_recipe" s__law_recipe f fd
  f_made_by : ∃ f fd, mg "made_by" = some (.ref f) ∧ Fun K "made_by" "made_by" s_made_by f fd
  f__law_fields : ∃ f fd, mg "_law_fields" = some (.ref f) ∧ Fun K "_law_fields" "_law_fields" s__law_fields f fd
  f__law_middles : ∃ f fd, mg "_law_middles" = some (.ref f) ∧ Fun K "_law_middles" "_law_middles" s__law_middles f fd
  f__law_cooked : ∃ f fd, mg "_law_cooked" = some (.ref f) ∧ Fun K "_law_cooked" "_law_cooked" s__law_cooked f fd
  f__law_fixed : ∃ f fd, mg "_law_fixed" = some (.ref f) ∧ Fun K "_law_fixed" "_law_fixed" s__law_fixed f fd
  f_law : ∃ f fd, mg "law" = some (.ref f) ∧ Fun K "law" "law" s_law f fd
  z_abs : mg "abs" = none
  z_bool : mg "bool" = none
  z_int : mg "int" = none
  z_isinstance : mg "isinstance" = none
  z_len : mg "len" = none
  z_list : mg "list" = none
  z_min : mg "min" = none
  z_range : mg "range" = none
  z_sorted : mg "sorted" = none
  z_tuple : mg "tuple" = none
  z_zip : mg "zip" = none
section
variable {P : Program} {w : World} {K : PySem.W.Frag} {mg : Str → Option Value} {base : Heap}
theorem sc_middle_of : FnScope ["one", "two", "three", "answers"] ["one", "two", "three"] (defScope s_middle_of) := ⟨rfl, rfl, rfl, by decide +kernel, rfl, by decide +kernel, by decide +kernel⟩
theorem ok_middle_of (T : Top K mg) : FnD P w K mg base 1 "middle_of" 3 m_middle_of := by
  unfold m_middle_of b_middle_of
  exact d_def (N := ["one", "two", "three", "answers"]) (ps := ["one", "two", "three"]) T.f_middle_of sc_middle_of rfl rfl (fun _ _ _ _ _ _ us hl => match us, hl with | [_, _, _], _ => rfl) (fun f cdv A outer s H E hr tk hp =>
    (ss_one (s_ret (e_tupL T.z_tuple (l_comp (own := [("answers", 3)]) sc_middle_of.nd (i_zip3n T.z_zip (e_var 0) (e_var 1) (e_var 2)) (blkOk_by (N := ["one", "two", "three", "answers"]) (sc := defScope s_middle_of) (by decide +kernel)) (by decide) (fun _ _ _ _ _ => (p_name 3 sc_middle_of.nd)) (fun _ _ _ _ _ => ts_nil) (fun _ _ _ _ _ => (e_ix (e_callB (d_sortedX hr.units) T.z_sorted (by decide +kernel) (a_cons (e_var 3) a_nil)) e_int)))))))
theorem sc__law_is_integer : FnScope ["thing"] ["thing"] (defScope s__law_is_integer) := ⟨rfl, rfl, rfl, by decide +kernel, rfl, by decide +kernel, by decide +kernel⟩
theorem ok__law_is_integer (T : Top K mg) : FnD P w K mg base 1 "_law_is_integer" 1 m__law_is_integer := by
  unfold m__law_is_integer b__law_is_integer
  exact d_def (N := ["thing"]) (ps := ["thing"]) T.f__law_is_integer sc__law_is_integer rfl rfl (fun _ _ _ _ _ _ us hl => match us, hl with | [_], _ => rfl) (fun f cdv A outer s H E hr tk hp =>
    (ss_one (s_ret (e_and (e_isi T.z_isinstance T.z_int (by decide +kernel) (e_var 0)) (e_one (e_not (e_isi T.z_isinstance T.z_bool (by decide +kernel) (e_var 0))))))))
theorem sc__law_flow : FnScope ["script", "salt", "seed", "great", "cell", "size"] ["script", "salt"] (defScope s__law_flow) := ⟨rfl, rfl, rfl, by decide +kernel, rfl, by decide +kernel, by decide +kernel⟩
theorem ok__law_flow (T : Top K mg) : FnD P w K mg base 1 "_law_flow" 2 m__law_flow := by
  unfold m__law_flow b__law_flow
  exact d_def (N := ["script", "salt", "seed", "great", "cell", "size"]) (ps := ["script", "salt"]) T.f__law_flow sc__law_flow rfl rfl (fun _ _ _ _ _ _ us hl => match us, hl with | [_, _], _ => rfl) (fun f cdv A outer s H E hr tk hp =>
    (ss_cons (s_set (i := 2) sc__law_flow.nd (e_var 1))
    (ss_cons (s_set (i := 3) sc__law_flow.nd (e_lst a_nil))
    (ss_cons (s_for hp (i_seq (e_cut (e_var 0) o_none (o_some e_int))) (g_name 4 sc__law_flow.nd) (ss_cons (s_set (i := 5) sc__law_flow.nd (e_callB d_abs T.z_abs (by decide +kernel) (a_cons (e_callTy d_int T.z_int (by decide +kernel) (a_cons (e_var 4) a_nil)) a_nil)))
    (ss_cons (s_set (i := 2) sc__law_flow.nd (e_bin d_mod (e_callTy d_int T.z_int (by decide +kernel) (a_cons (e_bin d_add (e_bin d_add (e_bin d_mul (e_var 2) e_int) (e_bin d_mod (e_var 5) e_int)) e_int) a_nil)) e_int))
    (ss_one (s_if (t_cmp d_ge (e_var 5) (e_bin d_pow e_int e_int)) (ss_one (s_expr (e_append (e_var 3) (a_cons (e_var 5) a_nil)))) ss_nil)))))
    (ss_one (s_ret (e_lst (a_cons (e_var 3) (a_cons e_int (a_cons e_int (a_cons (e_var 2) a_nil)))))))))))
theorem sc__law_draw : FnScope ["flow", "many", "told"] ["flow", "many"] (defScope s__law_draw) := ⟨rfl, rfl, rfl, by decide +kernel, rfl, by decide +kernel, by decide +kernel⟩
theorem ok__law_draw (T : Top K mg) : FnD P w K mg base 1 "_law_draw" 2 m__law_draw := by
  unfold m__law_draw b__law_draw
  exact d_def (N := ["flow", "many", "told"]) (ps := ["flow", "many"]) T.f__law_draw sc__law_draw rfl rfl (fun _ _ _ _ _ _ us hl => match us, hl with | [_, _], _ => rfl) (fun f cdv A outer s H E hr tk hp =>
    (ss_cons (s_if (PW.pt (w_and (t_cmp (d_eq hr.units) (e_ix (e_var 0) e_int) e_int) (w_and1 (t_cmp (d_lt hr.units) (e_ix (e_var 0) e_int) (e_callB d_len T.z_len (by decide +kernel) (a_cons (e_ix (e_var 0) e_int) a_nil)))))) (ss_cons (s_asg (e_ix (e_ix (e_var 0) e_int) (e_ix (e_var 0) e_int)) (g_sub (e_var 0) e_int))
    (ss_one (s_asg (e_bin d_add (e_ix (e_var 0) e_int) e_int) (g_sub (e_var 0) e_int)))) ss_nil)
    (ss_cons (s_if (t_cmp d_gt (e_ix (e_var 0) e_int) e_int) (ss_cons (s_set (i := 2) sc__law_draw.nd (e_bin d_mod (e_callTy d_int T.z_int (by decide +kernel) (a_cons (e_ix (e_var 0) e_int) a_nil)) (e_var 1)))
    (ss_cons (s_asg (e_bin d_div (e_ix (e_var 0) e_int) (e_var 1)) (g_sub (e_var 0) e_int))
    (ss_one (s_ret (e_var 2))))) ss_nil)
    (ss_cons (s_asg (e_bin d_mod (e_callTy d_int T.z_int (by decide +kernel) (a_cons (e_bin d_add (e_bin d_mul (e_ix (e_var 0) e_int) e_int) e_int) a_nil)) e_int) (g_sub (e_var 0) e_int))
    (ss_one (s_ret (e_bin d_mod (e_bin d_div (e_bin d_mod (e_callTy d_int T.z_int (by decide +kernel) (a_cons (e_bin d_mul (e_ix (e_var 0) e_int) e_int) a_nil)) e_int) e_int) (e_var 1))))))))
theorem sc__law_middle : FnScope ["one", "two", "three", "answers"] ["one", "two", "three"] (defScope s__law_middle) := ⟨rfl, rfl, rfl, by decide +kernel, rfl, by decide +kernel, by decide +kernel⟩
theorem ok__law_middle (T : Top K mg) : FnD P w K mg base 1 "_law_middle" 3 m__law_middle := by
  unfold m__law_middle b__law_middle
  exact d_def (N := ["one", "two", "three", "answers"]) (ps := ["one", "two", "three"]) T.f__law_middle sc__law_middle rfl rfl (fun _ _ _ _ _ _ us hl => match us, hl with | [_, _, _], _ => rfl) (fun f cdv A outer s H E hr tk hp =>
    (ss_one (s_ret (e_tupL T.z_tuple (l_comp (own := [("answers", 3)]) sc__law_middle.nd (i_zip3n T.z_zip (e_var 0) (e_var 1) (e_var 2)) (blkOk_by (N := ["one", "two", "three", "answers"]) (sc := defScope s__law_middle) (by decide +kernel)) (by decide) (fun _ _ _ _ _ => (p_name 3 sc__law_middle.nd)) (fun _ _ _ _ _ => ts_nil) (fun _ _ _ _ _ => (e_ix (e_callB (d_sortedX hr.units) T.z_sorted (by decide +kernel) (a_cons (e_var 3) a_nil)) e_int)))))))
theorem sc_things_of : FnScope ["sheets", "lines", "things", "one", "two", "three"] ["sheets", "lines"] (defScope s_things_of) := ⟨rfl, rfl, rfl, by decide +kernel, rfl, by decide +kernel, by decide +kernel⟩
theorem ok_things_of (T : Top K mg) : FnD P w K mg base 2 "things_of" 2 m_things_of := by
  unfold m_things_of b_things_of
  exact d_def (N := ["sheets", "lines", "things", "one", "two", "three"]) (ps := ["sheets", "lines"]) T.f_things_of sc_things_of rfl rfl (fun _ _ _ _ _ _ us hl => match us, hl with | [_, _], _ => rfl) (fun f cdv A outer s H E hr tk hp =>
    (ss_cons (s_set (i := 2) sc_things_of.nd (e_callTy (d_listX rfl) T.z_list (by decide +kernel) (a_cons (e_var 0) a_nil)))
    (ss_cons (s_for hp (i_seq (e_var 1)) (g_un (gs_cons (g_name 3 sc_things_of.nd) (gs_cons (g_name 4 sc_things_of.nd) (gs_cons (g_name 5 sc_things_of.nd) gs_nil)))) (ss_one (s_expr (e_append (e_var 2) (a_cons (e_call (ok_middle_of T) hr (by decide) tk (a_cons (e_ix (e_var 2) (e_var 3)) (a_cons (e_ix (e_var 2) (e_var 4)) (a_cons (e_ix (e_var 2) (e_var 5)) a_nil))) (aCons_len (aCons_len (aCons_len aNil_len)))) a_nil)))))
    (ss_one (s_ret (e_var 2))))))
theorem sc__law_same_numbers : FnScope ["told", "due", "one", "other"] ["told", "due"] (defScope s__law_same_numbers) := ⟨rfl, rfl, rfl, by decide +kernel, rfl, by decide +kernel, by decide +kernel⟩
theorem ok__law_same_numbers (T : Top K mg) : FnD P w K mg base 2 "_law_same_numbers" 2 m__law_same_numbers := by
  unfold m__law_same_numbers b__law_same_numbers
  exact d_def (N := ["told", "due", "one", "other"]) (ps := ["told", "due"]) T.f__law_same_numbers sc__law_same_numbers rfl rfl (fun _ _ _ _ _ _ us hl => match us, hl with | [_, _], _ => rfl) (fun f cdv A outer s H E hr tk hp =>
    (ss_cons (s_if (PW.pt (w_or (t_not (t_tru (e_isi T.z_isinstance T.z_tuple (by decide +kernel) (e_var 0)))) (w_or1 (t_cmp (d_ne hr.units) (e_callB d_len T.z_len (by decide +kernel) (a_cons (e_var 0) a_nil)) (e_callB d_len T.z_len (by decide +kernel) (a_cons (e_var 1) a_nil)))))) (ss_one (s_ret e_bl)) ss_nil)
    (ss_cons (s_for hp (i_zip2 T.z_zip (e_var 0) (e_var 1)) (g_un (gs_cons (g_name 2 sc__law_same_numbers.nd) (gs_cons (g_name 3 sc__law_same_numbers.nd) gs_nil))) (ss_one (s_if (PW.pt (w_or (t_not (t_tru (e_call (ok__law_is_integer T) hr (by decide) tk (a_cons (e_var 2) a_nil) (aCons_len aNil_len)))) (w_or1 (t_cmp (d_ne hr.units) (e_var 2) (e_var 3))))) (ss_one (s_ret e_bl)) ss_nil)))
    (ss_one (s_ret e_bl)))))
theorem sc__law_shuffled : FnScope ["flow", "row", "at", "other", "kept"] ["flow", "row"] (defScope s__law_shuffled) := ⟨rfl, rfl, rfl, by decide +kernel, rfl, by decide +kernel, by decide +kernel⟩
theorem ok__law_shuffled (T : Top K mg) : FnD P w K mg base 2 "_law_shuffled" 2 m__law_shuffled := by
  unfold m__law_shuffled b__law_shuffled
  exact d_def (N := ["flow", "row", "at", "other", "kept"]) (ps := ["flow", "row"]) T.f__law_shuffled sc__law_shuffled rfl rfl (fun _ _ _ _ _ _ us hl => match us, hl with | [_, _], _ => rfl) (fun f cdv A outer s H E hr tk hp =>
    (ss_cons (s_set (i := 1) sc__law_shuffled.nd (e_callTy (d_listX rfl) T.z_list (by decide +kernel) (a_cons (e_var 1) a_nil)))
    (ss_cons (s_for hp (i_range3 T.z_range (e_bin d_sub (e_callB d_len T.z_len (by decide +kernel) (a_cons (e_var 1) a_nil)) e_int) e_int (e_un d_neg e_int)) (g_name 2 sc__law_shuffled.nd) (ss_cons (s_set (i := 3) sc__law_shuffled.nd (e_call (ok__law_draw T) hr (by decide) tk (a_cons (e_var 0) (a_cons (e_bin d_add (e_var 2) e_int) a_nil)) (aCons_len (aCons_len aNil_len))))
    (ss_cons (s_set (i := 4) sc__law_shuffled.nd (e_ix (e_var 1) (e_var 2)))
    (ss_cons (s_asg (e_ix (e_var 1) (e_var 3)) (g_sub (e_var 1) (e_var 2)))
    (ss_one (s_asg (e_var 4) (g_sub (e_var 1) (e_var 3))))))))
    (ss_one (s_ret (e_var 1))))))
theorem sc__law_sheet : FnScope ["flow", "fields", "name", "low", "high"] ["flow", "fields"] (defScope s__law_sheet) := ⟨rfl, rfl, rfl, by decide +kernel, rfl, by decide +kernel, by decide +kernel⟩
theorem ok__law_sheet (T : Top K mg) : FnD P w K mg base 2 "_law_sheet" 2 m__law_sheet := by
  unfold m__law_sheet b__law_sheet
  exact d_def (N := ["flow", "fields", "name", "low", "high"]) (ps := ["flow", "fields"]) T.f__law_sheet sc__law_sheet rfl rfl (fun _ _ _ _ _ _ us hl => match us, hl with | [_, _], _ => rfl) (fun f cdv A outer s H E hr tk hp =>
    (ss_one (s_ret (e_tupL T.z_tuple (l_comp (own := [("name", 2), ("low", 3), ("high", 4)]) sc__law_sheet.nd (i_seq (e_var 1)) (blkOk_by (N := ["flow", "fields", "name", "low", "high"]) (sc := defScope s__law_sheet) (by decide +kernel)) (by decide) (fun _ _ _ _ _ => (p_un (ps_cons (p_name 2 sc__law_sheet.nd) (ps_cons (p_name 3 sc__law_sheet.nd) (ps_cons (p_name 4 sc__law_sheet.nd) ps_nil))))) (fun _ _ _ _ _ => ts_nil) (fun _ _ _ _ _ => (e_bin d_add (e_var 3) (e_call (ok__law_draw T) hr (by decide) takes0' (a_cons (e_var 0) (a_cons (e_bin d_add (e_bin d_sub (e_var 4) (e_var 3)) e_int) a_nil)) (aCons_len (aCons_len aNil_len))))))))))
theorem sc__law_made : FnScope ["sheets", "lines", "last", "things", "one", "two", "three"] ["sheets", "lines", "last"] (defScope s__law_made) := ⟨rfl, rfl, rfl, by decide +kernel, rfl, by decide +kernel, by decide +kernel⟩
theorem ok__law_made (T : Top K mg) : FnD P w K mg base 2 "_law_made" 3 m__law_made := by
  unfold m__law_made b__law_made
  exact d_def (N := ["sheets", "lines", "last", "things", "one", "two", "three"]) (ps := ["sheets", "lines", "last"]) T.f__law_made sc__law_made rfl rfl (fun _ _ _ _ _ _ us hl => match us, hl with | [_, _, _], _ => rfl) (fun f cdv A outer s H E hr tk hp =>
    (ss_cons (s_set (i := 3) sc__law_made.nd (e_callTy (d_listX rfl) T.z_list (by decide +kernel) (a_cons (e_var 0) a_nil)))
    (ss_cons (s_for hp (i_seq (e_var 1)) (g_un (gs_cons (g_name 4 sc__law_made.nd) (gs_cons (g_name 5 sc__law_made.nd) (gs_cons (g_name 6 sc__law_made.nd) gs_nil)))) (ss_one (s_expr (e_append (e_var 3) (a_cons (e_call (ok__law_middle T) hr (by decide) tk (a_cons (e_ix (e_var 3) (e_var 4)) (a_cons (e_ix (e_var 3) (e_var 5)) (a_cons (e_ix (e_var 3) (e_var 6)) a_nil))) (aCons_len (aCons_len (aCons_len aNil_len)))) a_nil)))))
    (ss_one (s_ret (e_ix (e_var 3) (e_var 2)))))))
theorem sc__law_recipe : FnScope ["flow", "many", "size", "lines", "at", "line", "turn", "things", "late"] ["flow", "many", "size"] (defScope s__law_recipe) := ⟨rfl, rfl, rfl, by decide +kernel, rfl, by decide +kernel, by decide +kernel⟩
theorem ok__law_recipe (T : Top K mg) : FnD P w K mg base 2 "_law_recipe" 3 m__law_recipe := by
  unfold m__law_recipe b__law_recipe
  exact d_def (N := ["flow", "many", "size", "lines", "at", "line", "turn", "things", "late"]) (ps := ["flow", "many", "size"]) T.f__law_recipe sc__law_recipe rfl rfl (fun _ _ _ _ _ _ us hl => match us, hl with | [_, _, _], _ => rfl) (fun f cdv A outer s H E hr tk hp =>
    (ss_cons (s_set (i := 3) sc__law_recipe.nd (e_lst a_nil))
    (ss_cons (s_for hp (i_range1 T.z_range (e_var 2)) (g_name 4 sc__law_recipe.nd) (ss_cons (s_set (i := 5) sc__law_recipe.nd (e_lst a_nil))
    (ss_cons (s_for hp (i_range1 T.z_range e_int) (g_name 6 sc__law_recipe.nd) (ss_cons (s_set (i := 7) sc__law_recipe.nd (e_bin d_add (e_var 1) (e_var 4)))
    (ss_cons (s_set (i := 8) sc__law_recipe.nd (e_bin d_sub (e_bin d_sub (e_var 7) e_int) (e_call (ok__law_draw T) hr (by decide) tk (a_cons (e_var 0) (a_cons (e_callB (d_min rfl) T.z_min (by decide +kernel) (a_cons (e_var 7) (a_cons e_int a_nil))) a_nil)) (aCons_len (aCons_len aNil_len)))))
    (ss_one (s_expr (e_append (e_var 5) (a_cons (e_if (t_cmp (d_eq hr.units) (e_call (ok__law_draw T) hr (by decide) tk (a_cons (e_var 0) (a_cons e_int a_nil)) (aCons_len (aCons_len aNil_len))) e_int) (e_var 8) (e_call (ok__law_draw T) hr (by decide) tk (a_cons (e_var 0) (a_cons (e_var 7) a_nil)) (aCons_len (aCons_len aNil_len)))) a_nil)))))))
    (ss_one (s_expr (e_append (e_var 3) (a_cons (e_callTy d_tuple T.z_tuple (by decide +kernel) (a_cons (e_var 5) a_nil)) a_nil)))))))
    (ss_one (s_ret (e_callTy d_tuple T.z_tuple (by decide +kernel) (a_cons (e_var 3) a_nil)))))))
theorem sc_made_by : FnScope ["sheets", "recipe", "lines", "last"] ["sheets", "recipe"] (defScope s_made_by) := ⟨rfl, rfl, rfl, by decide +kernel, rfl, by decide +kernel, by decide +kernel⟩
theorem ok_made_by (T : Top K mg) : FnD P w K mg base 3 "made_by" 2 m_made_by := by
  unfold m_made_by b_made_by
  exact d_def (N := ["sheets", "recipe", "lines", "last"]) (ps := ["sheets", "recipe"]) T.f_made_by sc_made_by rfl rfl (fun _ _ _ _ _ _ us hl => match us, hl with | [_, _], _ => rfl) (fun f cdv A outer s H E hr tk hp =>
    (ss_cons (s_asg (e_var 1) (g_un (gs_cons (g_name 2 sc_made_by.nd) (gs_cons (g_name 3 sc_made_by.nd) gs_nil))))
    (ss_one (s_ret (e_ix (e_call (ok_things_of T) hr (by decide) tk (a_cons (e_var 0) (a_cons (e_var 2) a_nil)) (aCons_len (aCons_len aNil_len))) (e_var 3))))))
theorem sc__law_fields : FnScope ["flow", "many", "most", "end", "letters", "fields", "at", "low"] ["flow", "many", "most"] (defScope s__law_fields) := ⟨rfl, rfl, rfl, by decide +kernel, rfl, by decide +kernel, by decide +kernel⟩
theorem ok__law_fields (T : Top K mg) : FnD P w K mg base 3 "_law_fields" 3 m__law_fields := by
  unfold m__law_fields b__law_fields
  exact d_def (N := ["flow", "many", "most", "end", "letters", "fields", "at", "low"]) (ps := ["flow", "many", "most"]) T.f__law_fields sc__law_fields rfl rfl (fun _ _ _ _ _ _ us hl => match us, hl with | [_, _, _], _ => rfl) (fun f cdv A outer s H E hr tk hp =>
    (ss_cons (s_set (i := 3) sc__law_fields.nd (e_ix (e_lst (a_cons e_str (a_cons e_str (a_cons e_str (a_cons e_str (a_cons e_str a_nil)))))) (e_call (ok__law_draw T) hr (by decide) tk (a_cons (e_var 0) (a_cons e_int a_nil)) (aCons_len (aCons_len aNil_len)))))
    (ss_cons (s_set (i := 4) sc__law_fields.nd (e_call (ok__law_shuffled T) hr (by decide) tk (a_cons (e_var 0) (a_cons (e_callTy (d_listX rfl) T.z_list (by decide +kernel) (a_cons e_str a_nil)) a_nil)) (aCons_len (aCons_len aNil_len))))
    (ss_cons (s_set (i := 5) sc__law_fields.nd (e_lst a_nil))
    (ss_cons (s_for hp (i_range1 T.z_range (e_var 1)) (g_name 6 sc__law_fields.nd) (ss_cons (s_set (i := 7) sc__law_fields.nd (e_bin d_sub (e_call (ok__law_draw T) hr (by decide) tk (a_cons (e_var 0) (a_cons e_int a_nil)) (aCons_len (aCons_len aNil_len))) e_int))
    (ss_one (s_expr (e_append (e_var 5) (a_cons (e_tup (a_cons (e_bin d_add (e_ix (e_var 4) (e_var 6)) (e_var 3)) (a_cons (e_var 7) (a_cons (e_bin d_add (e_var 7) (e_call (ok__law_draw T) hr (by decide) tk (a_cons (e_var 0) (a_cons (e_var 2) a_nil)) (aCons_len (aCons_len aNil_len)))) a_nil)))) a_nil))))))
    (ss_one (s_ret (e_callTy d_tuple T.z_tuple (by decide +kernel) (a_cons (e_var 5) a_nil)))))))))
theorem sc__law_middles : FnScope ["flow", "sheets", "picks", "due", "turn", "row", "one", "other"] ["flow", "sheets"] (defScope s__law_middles) := ⟨rfl, rfl, rfl, by decide +kernel, rfl, by decide +kernel, by decide +kernel⟩
theorem ok__law_middles (T : Top K mg) : FnD P w K mg base 3 "_law_middles" 2 m__law_middles := by
  unfold m__law_middles b__law_middles
  exact d_def (N := ["flow", "sheets", "picks", "due", "turn", "row", "one", "other"]) (ps := ["flow", "sheets"]) T.f__law_middles sc__law_middles rfl rfl (fun _ _ _ _ _ _ us hl => match us, hl with | [_, _], _ => rfl) (fun f cdv A outer s H E hr tk hp =>
    (ss_cons (s_setLc (i := 2) (own := [("turn", 4)]) sc__law_middles.nd (i_range1 T.z_range e_int) (blkOk_by (N := ["flow", "sheets", "picks", "due", "turn", "row", "one", "other"]) (sc := defScope s__law_middles) (by decide +kernel)) (by decide) (fun _ _ _ _ _ => (p_name 4 sc__law_middles.nd)) (fun _ _ _ _ _ => ts_nil) (fun _ _ _ _ _ => (e_ix (e_var 1) (e_call (ok__law_draw T) hr (by decide) takes0' (a_cons (e_var 0) (a_cons (e_callB d_len T.z_len (by decide +kernel) (a_cons (e_var 1) a_nil)) a_nil)) (aCons_len (aCons_len aNil_len))))) (sw_true rfl rfl rfl (by decide +kernel)))
    (ss_cons (s_set (i := 3) sc__law_middles.nd (e_call (ok__law_middle T) hr (by decide) tk (a_cons (e_ix (e_var 2) e_int) (a_cons (e_ix (e_var 2) e_int) (a_cons (e_ix (e_var 2) e_int) a_nil))) (aCons_len (aCons_len (aCons_len aNil_len)))))
    (ss_cons (s_for hp (i_range1 T.z_range e_int) (g_name 4 sc__law_middles.nd) (ss_cons (s_set (i := 2) sc__law_middles.nd (e_call (ok__law_shuffled T) hr (by decide) tk (a_cons (e_var 0) (a_cons (e_var 2) a_nil)) (aCons_len (aCons_len aNil_len))))
    (ss_one (s_if (t_not (t_tru (e_call (ok__law_same_numbers T) hr (by decide) tk (a_cons (e_call (ok_middle_of T) hr (by decide) tk (a_cons (e_ix (e_var 2) e_int) (a_cons (e_ix (e_var 2) e_int) (a_cons (e_ix (e_var 2) e_int) a_nil))) (aCons_len (aCons_len (aCons_len aNil_len)))) (a_cons (e_var 3) a_nil)) (aCons_len (aCons_len aNil_len))))) (ss_one (s_ret e_bl)) ss_nil))))
    (ss_cons (s_par (i := 6) (j := 7) sc__law_middles.nd (by decide) (e_ix (e_var 2) e_int) (e_ix (e_var 2) e_int))
    (ss_cons (s_for hp (i_seq (e_tup (a_cons (e_tup (a_cons (e_var 6) (a_cons (e_var 6) (a_cons (e_var 7) a_nil)))) (a_cons (e_tup (a_cons (e_var 6) (a_cons (e_var 7) (a_cons (e_var 6) a_nil)))) (a_cons (e_tup (a_cons (e_var 7) (a_cons (e_var 6) (a_cons (e_var 6) a_nil)))) (a_cons (e_tup (a_cons (e_var 6) (a_cons (e_var 6) (a_cons (e_var 6) a_nil)))) a_nil)))))) (g_name 5 sc__law_middles.nd) (ss_one (s_if (t_not (t_tru (e_call (ok__law_same_numbers T) hr (by decide) tk (a_cons (e_call (ok_middle_of T) hr (by decide) tk (a_cons (e_ix (e_var 5) e_int) (a_cons (e_ix (e_var 5) e_int) (a_cons (e_ix (e_var 5) e_int) a_nil))) (aCons_len (aCons_len (aCons_len aNil_len)))) (a_cons (e_var 6) a_nil)) (aCons_len (aCons_len aNil_len))))) (ss_one (s_ret e_bl)) ss_nil)))
    (ss_one (s_ret (e_call (ok__law_same_numbers T) hr (by decide) tk (a_cons (e_callK0 (ks := ["three", "one", "two"]) (ps := ["one", "two", "three"]) [1, 2, 0] (ok_middle_of T) T.f_middle_of hr (by decide) tk (k_cons (e_ix (e_var 2) e_int) (k_cons (e_ix (e_var 2) e_int) (k_cons (e_ix (e_var 2) e_int) k_nil))) (aCons_len (aCons_len (aCons_len aNil_len))) (fun _ _ _ _ _ _ us ws h1 h2 => match us, ws, h1, h2 with | [], [_, _, _], _, _ => rfl)) (a_cons (e_var 3) a_nil)) (aCons_len (aCons_len aNil_len)))))))))))
theorem sc__law_cooked : FnScope ["flow", "sheets", "size", "lines", "last"] ["flow", "sheets", "size"] (defScope s__law_cooked) := ⟨rfl, rfl, rfl, by decide +kernel, rfl, by decide +kernel, by decide +kernel⟩
theorem ok__law_cooked (T : Top K mg) : FnD P w K mg base 4 "_law_cooked" 3 m__law_cooked := by
  unfold m__law_cooked b__law_cooked
  exact d_def (N := ["flow", "sheets", "size", "lines", "last"]) (ps := ["flow", "sheets", "size"]) T.f__law_cooked sc__law_cooked rfl rfl (fun _ _ _ _ _ _ us hl => match us, hl with | [_, _, _], _ => rfl) (fun f cdv A outer s H E hr tk hp =>
    (ss_cons (s_set (i := 3) sc__law_cooked.nd (e_call (ok__law_recipe T) hr (by decide) tk (a_cons (e_var 0) (a_cons (e_callB d_len T.z_len (by decide +kernel) (a_cons (e_var 1) a_nil)) (a_cons (e_var 2) a_nil))) (aCons_len (aCons_len (aCons_len aNil_len)))))
    (ss_cons (s_set (i := 4) sc__law_cooked.nd (e_bin d_sub (e_bin d_add (e_callB d_len T.z_len (by decide +kernel) (a_cons (e_var 1) a_nil)) (e_var 2)) e_int))
    (ss_cons (s_if (t_cmp (d_eq hr.units) (e_call (ok__law_draw T) hr (by decide) tk (a_cons (e_var 0) (a_cons e_int a_nil)) (aCons_len (aCons_len aNil_len))) e_int) (ss_one (s_set (i := 4) sc__law_cooked.nd (e_call (ok__law_draw T) hr (by decide) tk (a_cons (e_var 0) (a_cons (e_bin d_add (e_callB d_len T.z_len (by decide +kernel) (a_cons (e_var 1) a_nil)) (e_var 2)) a_nil)) (aCons_len (aCons_len aNil_len))))) ss_nil)
    (ss_cons (s_if (t_not (t_tru (e_call (ok__law_same_numbers T) hr (by decide) tk (a_cons (e_call (ok_made_by T) hr (by decide) tk (a_cons (e_var 1) (a_cons (e_tup (a_cons (e_var 3) (a_cons (e_var 4) a_nil))) a_nil)) (aCons_len (aCons_len aNil_len))) (a_cons (e_call (ok__law_made T) hr (by decide) tk (a_cons (e_var 1) (a_cons (e_var 3) (a_cons (e_var 4) a_nil))) (aCons_len (aCons_len (aCons_len aNil_len)))) a_nil)) (aCons_len (aCons_len aNil_len))))) (ss_one (s_ret e_bl)) ss_nil)
    (ss_cons (s_set (i := 4) sc__law_cooked.nd (e_call (ok__law_draw T) hr (by decide) tk (a_cons (e_var 0) (a_cons (e_bin d_add (e_callB d_len T.z_len (by decide +kernel) (a_cons (e_var 1) a_nil)) (e_var 2)) a_nil)) (aCons_len (aCons_len aNil_len))))
    (ss_one (s_ret (e_call (ok__law_same_numbers T) hr (by decide) tk (a_cons (e_callK0 (ks := ["recipe", "sheets"]) (ps := ["sheets", "recipe"]) [1, 0] (ok_made_by T) T.f_made_by hr (by decide) tk (k_cons (e_tup (a_cons (e_var 3) (a_cons (e_var 4) a_nil))) (k_cons (e_var 1) k_nil)) (aCons_len (aCons_len aNil_len)) (fun _ _ _ _ _ _ us ws h1 h2 => match us, ws, h1, h2 with | [], [_, _], _, _ => rfl)) (a_cons (e_call (ok__law_made T) hr (by decide) tk (a_cons (e_var 1) (a_cons (e_var 3) (a_cons (e_var 4) a_nil))) (aCons_len (aCons_len (aCons_len aNil_len)))) a_nil)) (aCons_len (aCons_len aNil_len)))))))))))
theorem sc__law_fixed : FnScope ["flow", "low", "rows", "sheets", "due", "lines", "last", "at", "row"] ["flow"] (defScope s__law_fixed) := ⟨rfl, rfl, rfl, by decide +kernel, rfl, by decide +kernel, by decide +kernel⟩
theorem ok__law_fixed (T : Top K mg) : FnD P w K mg base 4 "_law_fixed" 1 m__law_fixed := by
  unfold m__law_fixed b__law_fixed
  exact d_def (N := ["flow", "low", "rows", "sheets", "due", "lines", "last", "at", "row"]) (ps := ["flow"]) T.f__law_fixed sc__law_fixed rfl rfl (fun _ _ _ _ _ _ us hl => match us, hl with | [_], _ => rfl) (fun f cdv A outer s H E hr tk hp =>
    (ss_cons (s_set (i := 1) sc__law_fixed.nd (e_bin d_sub (e_call (ok__law_draw T) hr (by decide) tk (a_cons (e_var 0) (a_cons e_int a_nil)) (aCons_len (aCons_len aNil_len))) e_int))
    (ss_cons (s_set (i := 2) sc__law_fixed.nd (e_lst (a_cons (e_lst (a_cons (e_var 1) (a_cons (e_bin d_add (e_var 1) e_int) (a_cons (e_bin d_add (e_var 1) e_int) a_nil)))) (a_cons (e_lst (a_cons (e_bin d_add (e_var 1) e_int) (a_cons (e_var 1) (a_cons (e_bin d_add (e_var 1) e_int) a_nil)))) (a_cons (e_lst (a_cons (e_bin d_add (e_var 1) e_int) (a_cons (e_bin d_add (e_var 1) e_int) (a_cons (e_bin d_add (e_var 1) e_int) a_nil)))) a_nil)))))
    (ss_cons (s_set (i := 3) sc__law_fixed.nd (e_tupL T.z_tuple (l_comp (own := [("at", 7)]) sc__law_fixed.nd (i_range1 T.z_range e_int) (blkOk_by (N := ["flow", "low", "rows", "sheets", "due", "lines", "last", "at", "row"]) (sc := defScope s__law_fixed) (by decide +kernel)) (by decide) (fun _ _ _ _ _ => (p_name 7 sc__law_fixed.nd)) (fun _ _ _ _ _ => ts_nil) (fun _ _ _ _ _ => (e_tupL T.z_tuple (l_comp (own := [("row", 8)]) sc__law_fixed.nd (i_seq (e_var 2)) (blkOk_by (by kernel_rfl)) (by decide) (fun _ _ _ _ _ => (p_name 8 sc__law_fixed.nd)) (fun _ _ _ _ _ => ts_nil) (fun _ _ _ _ _ => (e_ix (e_var 8) (e_var 7)))))))))
    (ss_cons (s_set (i := 4) sc__law_fixed.nd (e_tup (a_cons (e_bin d_add (e_var 1) e_int) (a_cons (e_bin d_add (e_var 1) e_int) (a_cons (e_bin d_add (e_var 1) e_int) a_nil)))))
    (ss_cons (s_if (t_not (t_tru (e_call (ok__law_same_numbers T) hr (by decide) tk (a_cons (e_call (ok_middle_of T) hr (by decide) tk (a_cons (e_ix (e_var 3) e_int) (a_cons (e_ix (e_var 3) e_int) (a_cons (e_ix (e_var 3) e_int) a_nil))) (aCons_len (aCons_len (aCons_len aNil_len)))) (a_cons (e_var 4) a_nil)) (aCons_len (aCons_len aNil_len))))) (ss_one (s_ret e_bl)) ss_nil)
    (ss_cons (s_set (i := 5) sc__law_fixed.nd (e_tup (a_cons (e_tup (a_cons e_int (a_cons e_int (a_cons e_int a_nil)))) (a_cons (e_tup (a_cons e_int (a_cons e_int (a_cons e_int a_nil)))) (a_cons (e_tup (a_cons e_int (a_cons e_int (a_cons e_int a_nil)))) (a_cons (e_tup (a_cons e_int (a_cons e_int (a_cons e_int a_nil)))) (a_cons (e_tup (a_cons e_int (a_cons e_int (a_cons e_int a_nil)))) a_nil)))))))
    (ss_cons (s_for hp (i_range1 T.z_range e_int) (g_name 6 sc__law_fixed.nd) (ss_one (s_if (t_not (t_tru (e_call (ok__law_same_numbers T) hr (by decide) tk (a_cons (e_call (ok_made_by T) hr (by decide) tk (a_cons (e_var 3) (a_cons (e_tup (a_cons (e_var 5) (a_cons (e_var 6) a_nil))) a_nil)) (aCons_len (aCons_len aNil_len))) (a_cons (e_call (ok__law_made T) hr (by decide) tk (a_cons (e_var 3) (a_cons (e_var 5) (a_cons (e_var 6) a_nil))) (aCons_len (aCons_len (aCons_len aNil_len)))) a_nil)) (aCons_len (aCons_len aNil_len))))) (ss_one (s_ret e_bl)) ss_nil)))
    (ss_cons (s_if (t_not (t_tru (e_call (ok__law_same_numbers T) hr (by decide) tk (a_cons (e_call (ok_made_by T) hr (by decide) tk (a_cons (e_cut (e_var 3) o_none (o_some e_int)) (a_cons (e_tup (a_cons (e_tup a_nil) (a_cons e_int a_nil))) a_nil)) (aCons_len (aCons_len aNil_len))) (a_cons (e_ix (e_var 3) e_int) a_nil)) (aCons_len (aCons_len aNil_len))))) (ss_one (s_ret e_bl)) ss_nil)
    (ss_one (s_ret (e_cmp (d_eq hr.units) (e_call (ok__law_made T) hr (by decide) tk (a_cons (e_var 3) (a_cons (e_var 5) (a_cons e_int a_nil))) (aCons_len (aCons_len (aCons_len aNil_len)))) (e_var 4)))))))))))))
theorem sc_law : FnScope ["script", "flow", "turn", "fields", "sheets", "low", "at", "name", "one", "other"] ["script"] (defScope s_law) := ⟨rfl, rfl, rfl, by decide +kernel, rfl, by decide +kernel, by decide +kernel⟩
theorem ok_law (T : Top K mg) {f : Addr} {fd : FuncData} (F : Fun K "law" "law" s_law f fd) : FnOk P w K mg base (L2.CX P w) 5 f fd ["script"] (spD ⟨K, w⟩ mg 1 m_law) := by
  unfold m_law b_law
  exact d_fn (N := ["script", "flow", "turn", "fields", "sheets", "low", "at", "name", "one", "other"]) (ps := ["script"]) F sc_law rfl rfl (fun f cdv A outer s H E hr tk hp =>
    (ss_cons (s_set (i := 1) sc_law.nd (e_call (ok__law_flow T) hr (by decide) tk (a_cons (e_var 0) (a_cons e_int a_nil)) (aCons_len (aCons_len aNil_len))))
    (ss_cons (s_if (t_not (t_tru (e_call (ok__law_fixed T) hr (by decide) tk (a_cons (e_var 1) a_nil) (aCons_len aNil_len)))) (ss_one (s_ret e_bl)) ss_nil)
    (ss_cons (s_for hp (i_range1 T.z_range e_int) (g_name 2 sc_law.nd) (ss_cons (s_set (i := 3) sc_law.nd (e_call (ok__law_fields T) hr (by decide) tk (a_cons (e_var 1) (a_cons (e_bin d_add e_int (e_call (ok__law_draw T) hr (by decide) tk (a_cons (e_var 1) (a_cons e_int a_nil)) (aCons_len (aCons_len aNil_len)))) (a_cons e_int a_nil))) (aCons_len (aCons_len (aCons_len aNil_len)))))
    (ss_cons (s_set (i := 4) sc_law.nd (e_tupL T.z_tuple (l_comp (own := [("at", 6)]) sc_law.nd (i_range1 T.z_range (e_bin d_add e_int (e_call (ok__law_draw T) hr (by decide) tk (a_cons (e_var 1) (a_cons e_int a_nil)) (aCons_len (aCons_len aNil_len))))) (blkOk_by (N := ["script", "flow", "turn", "fields", "sheets", "low", "at", "name", "one", "other"]) (sc := defScope s_law) (by decide +kernel)) (by decide) (fun _ _ _ _ _ => (p_name 6 sc_law.nd)) (fun _ _ _ _ _ => ts_nil) (fun _ _ _ _ _ => (e_call (ok__law_sheet T) hr (by decide) takes0' (a_cons (e_var 1) (a_cons (e_var 3) a_nil)) (aCons_len (aCons_len aNil_len)))))))
    (ss_one (s_if (PW.pt (w_or (t_not (t_tru (e_call (ok__law_middles T) hr (by decide) tk (a_cons (e_var 1) (a_cons (e_var 4) a_nil)) (aCons_len (aCons_len aNil_len))))) (w_or1 (t_not (t_tru (e_call (ok__law_cooked T) hr (by decide) tk (a_cons (e_var 1) (a_cons (e_var 4) (a_cons (e_call (ok__law_draw T) hr (by decide) tk (a_cons (e_var 1) (a_cons e_int a_nil)) (aCons_len (aCons_len aNil_len))) a_nil))) (aCons_len (aCons_len (aCons_len aNil_len))))))))) (ss_one (s_ret e_bl)) ss_nil)))))
    (ss_cons (s_if (t_cmp (d_eq hr.units) (e_call (ok__law_draw T) hr (by decide) tk (a_cons (e_var 1) (a_cons e_int a_nil)) (aCons_len (aCons_len aNil_len))) e_int) (ss_cons (s_set (i := 5) sc_law.nd (e_ix (e_lst (a_cons (e_bin d_sub (e_bin d_pow e_int e_int) e_int) (a_cons (e_un d_neg (e_bin d_pow e_int e_int)) a_nil))) (e_call (ok__law_draw T) hr (by decide) tk (a_cons (e_var 1) (a_cons e_int a_nil)) (aCons_len (aCons_len aNil_len)))))
    (ss_cons (s_set (i := 3) sc_law.nd (e_tupL T.z_tuple (l_comp (own := [("name", 7), ("one", 8), ("other", 9)]) sc_law.nd (i_seq (e_call (ok__law_fields T) hr (by decide) tk (a_cons (e_var 1) (a_cons e_int (a_cons e_int a_nil))) (aCons_len (aCons_len (aCons_len aNil_len))))) (blkOk_by (N := ["script", "flow", "turn", "fields", "sheets", "low", "at", "name", "one", "other"]) (sc := defScope s_law) (by decide +kernel)) (by decide) (fun _ _ _ _ _ => (p_un (ps_cons (p_name 7 sc_law.nd) (ps_cons (p_name 8 sc_law.nd) (ps_cons (p_name 9 sc_law.nd) ps_nil))))) (fun _ _ _ _ _ => ts_nil) (fun _ _ _ _ _ => (e_tup (a_cons (e_var 7) (a_cons (e_var 5) (a_cons (e_bin d_add (e_var 5) e_int) a_nil))))))))
    (ss_cons (s_set (i := 4) sc_law.nd (e_tupL T.z_tuple (l_comp (own := [("at", 6)]) sc_law.nd (i_range1 T.z_range e_int) (blkOk_by (N := ["script", "flow", "turn", "fields", "sheets", "low", "at", "name", "one", "other"]) (sc := defScope s_law) (by decide +kernel)) (by decide) (fun _ _ _ _ _ => (p_name 6 sc_law.nd)) (fun _ _ _ _ _ => ts_nil) (fun _ _ _ _ _ => (e_call (ok__law_sheet T) hr (by decide) takes0' (a_cons (e_var 1) (a_cons (e_var 3) a_nil)) (aCons_len (aCons_len aNil_len)))))))
    (ss_one (s_if (PW.pt (w_or (t_not (t_tru (e_call (ok__law_middles T) hr (by decide) tk (a_cons (e_var 1) (a_cons (e_var 4) a_nil)) (aCons_len (aCons_len aNil_len))))) (w_or1 (t_not (t_tru (e_call (ok__law_cooked T) hr (by decide) tk (a_cons (e_var 1) (a_cons (e_var 4) (a_cons e_int a_nil))) (aCons_len (aCons_len (aCons_len aNil_len))))))))) (ss_one (s_ret e_bl)) ss_nil))))) ss_nil)
    (ss_cons (s_if (t_cmp (d_eq hr.units) (e_call (ok__law_draw T) hr (by decide) tk (a_cons (e_var 1) (a_cons e_int a_nil)) (aCons_len (aCons_len aNil_len))) e_int) (ss_cons (s_set (i := 3) sc_law.nd (e_call (ok__law_fields T) hr (by decide) tk (a_cons (e_var 1) (a_cons e_int (a_cons e_int a_nil))) (aCons_len (aCons_len (aCons_len aNil_len)))))
    (ss_cons (s_set (i := 4) sc_law.nd (e_tupL T.z_tuple (l_comp (own := [("at", 6)]) sc_law.nd (i_range1 T.z_range e_int) (blkOk_by (N := ["script", "flow", "turn", "fields", "sheets", "low", "at", "name", "one", "other"]) (sc := defScope s_law) (by decide +kernel)) (by decide) (fun _ _ _ _ _ => (p_name 6 sc_law.nd)) (fun _ _ _ _ _ => ts_nil) (fun _ _ _ _ _ => (e_call (ok__law_sheet T) hr (by decide) takes0' (a_cons (e_var 1) (a_cons (e_var 3) a_nil)) (aCons_len (aCons_len aNil_len)))))))
    (ss_one (s_ret (e_call (ok__law_cooked T) hr (by decide) tk (a_cons (e_var 1) (a_cons (e_var 4) (a_cons e_int a_nil))) (aCons_len (aCons_len (aCons_len aNil_len)))))))) ss_nil)
    (ss_one (s_ret e_bl))))))))
end
end LW

namespace LW
open PySem PySem.Spec PyProof.Rows L2 DL
theorem all_mk {K : PySem.W.Frag} {h : Heap} {mg : Str → Option Value} {fa f : Addr} {od an : Option Addr} {sl : Array (Option Value)} {oc kV dc pm cd ct : Value} {P : Program} {w : World} (T : Top K mg) (X : K.In h) (G : h.Ns mainGlobals mg) (hfa : mg "law" = some (.ref fa))
    (a : PySem.W.nsIn K mainGlobals "law" = some (some (.ref f))) (l : K.lookup f = some ⟨oc, od, .func (PySem.W.fnOf "law" "law" (defArgs s_law) (defBody s_law) (defScope s_law) .none kV dc pm an cd ct), sl⟩) (c : PySem.W.codeIn K cd "law" = true) (k : PySem.W.keepIn K (.ref f) = true) :
    ∃ fd : FuncData, (∀ (s : Shared) (v : Value), BindsTo s fd ⟨[v], []⟩ [("script", v)]) ∧ ∀ base : Heap, K.In base → base.Ns mainGlobals mg → FnOk P w K mg base (L2.CX P w) 5 fa fd ["script"] (spLaw ⟨K, w⟩ m_law) := by
  have e := hfa.symm.trans (PySem.W.mg_of X G a)
  cases e
  exact ⟨_, fun s v => .of_eq rfl, fun base _ _ => law_imp (ok_law T (fun_mk l c k))⟩
end LW
open PySem PySem.W PyProof.Rows
set_option maxHeartbeats 0 in
theorem PySem.Challenge.cw_halffilled_k38_middles_holds : PySem.Challenge.rw_halffilled_k38_middles.Holds := by
  w_on; o_law; k_head; (case hw => w_witness2)
  k_fill
  refine L2.walk_ofB (l := PySem.Challenge.rw_halffilled_k38_middles) (n := 63) (k := 5) (x := "script") (CX := fun w => L2.CX (PySem.Challenge.rw_halffilled_k38_middles).prog w) (sp := fun w => DL.spLaw ⟨_, w⟩ LW.m_law) rfl (by decide) rfl ⟨rfl, by decide, by decide⟩ (fun w h Y => PySem.W.kIn_of Y) ?F (fun w H a ns hl hb ho hS => ⟨a, ns, rfl, DL.only_sq ho hS, Nat.le_trans hl (by decide), LW.law_true ns hl hb, fun _ => rfl⟩) (fun _ _ _ _ _ h => DL.cx_end h)
  case F =>
    intro w mg fa h KX G hmg
    refine' LW.all_mk ?T KX G hmg ?a ?l ?c ?k; (case a => k_is); (case l => k_is); (case c => k_is); (case k => k_is)
    case T =>
      constructor
      · refine' DL.top_f KX G (st := LW.s_middle_of) ?a ?l ?c ?k; (case a => k_is); (case l => k_is); (case c => k_is); (case k => k_is)
      · refine' DL.top_f KX G (st := LW.s__law_is_integer) ?a ?l ?c ?k; (case a => k_is); (case l => k_is); (case c => k_is); (case k => k_is)
      · refine' DL.top_f KX G (st := LW.s__law_flow) ?a ?l ?c ?k; (case a => k_is); (case l => k_is); (case c => k_is); (case k => k_is)
      · refine' DL.top_f KX G (st := LW.s__law_draw) ?a ?l ?c ?k; (case a => k_is); (case l => k_is); (case c => k_is); (case k => k_is)
      · refine' DL.top_f KX G (st := LW.s__law_middle) ?a ?l ?c ?k; (case a => k_is); (case l => k_is); (case c => k_is); (case k => k_is)
      · refine' DL.top_f KX G (st := LW.s_things_of) ?a ?l ?c ?k; (case a => k_is); (case l => k_is); (case c => k_is); (case k => k_is)
      · refine' DL.top_f KX G (st := LW.s__law_same_numbers) ?a ?l ?c ?k; (case a => k_is); (case l => k_is); (case c => k_is); (case k => k_is)
      · refine' DL.top_f KX G (st := LW.s__law_shuffled) ?a ?l ?c ?k; (case a => k_is); (case l => k_is); (case c => k_is); (case k => k_is)
      · refine' DL.top_f KX G (st := LW.s__law_sheet) ?a ?l ?c ?k; (case a => k_is); (case l => k_is); (case c => k_is); (case k => k_is)
      · refine' DL.top_f KX G (st := LW.s__law_made) ?a ?l ?c ?k; (case a => k_is); (case l => k_is); (case c => k_is); (case k => k_is)
      · refine' DL.top_f KX G (st := LW.s__law_recipe) ?a ?l ?c ?k; (case a => k_is); (case l => k_is); (case c => k_is); (case k => k_is)
      · refine' DL.top_f KX G (st := LW.s_made_by) ?a ?l ?c ?k; (case a => k_is); (case l => k_is); (case c => k_is); (case k => k_is)
      · refine' DL.top_f KX G (st := LW.s__law_fields) ?a ?l ?c ?k; (case a => k_is); (case l => k_is); (case c => k_is); (case k => k_is)
      · refine' DL.top_f KX G (st := LW.s__law_middles) ?a ?l ?c ?k; (case a => k_is); (case l => k_is); (case c => k_is); (case k => k_is)
      · refine' DL.top_f KX G (st := LW.s__law_cooked) ?a ?l ?c ?k; (case a => k_is); (case l => k_is); (case c => k_is); (case k => k_is)
      · refine' DL.top_f KX G (st := LW.s__law_fixed) ?a ?l ?c ?k; (case a => k_is); (case l => k_is); (case c => k_is); (case k => k_is)
      · refine' DL.top_f KX G (st := LW.s_law) ?a ?l ?c ?k; (case a => k_is); (case l => k_is); (case c => k_is); (case k => k_is)
      · refine' PySem.W.mg_none_of KX G ?z; (case z => k_is)
      · refine' PySem.W.mg_none_of KX G ?z; (case z => k_is)
      · refine' PySem.W.mg_none_of KX G ?z; (case z => k_is)
      · refine' PySem.W.mg_none_of KX G ?z; (case z => k_is)
      · refine' PySem.W.mg_none_of KX G ?z; (case z => k_is)
      · refine' PySem.W.mg_none_of KX G ?z; (case z => k_is)
      · refine' PySem.W.mg_none_of KX G ?z; (case z => k_is)
      · refine' PySem.W.mg_none_of KX G ?z; (case z => k_is)
      · refine' PySem.W.mg_none_of KX G ?z; (case z => k_is)
      · refine' PySem.W.mg_none_of KX G ?z; (case z => k_is)
      · refine' PySem.W.mg_none_of KX G ?z; (case z => k_is)

