import PyProof.Rows.All
import Wide.All
import OpenK.AllK
import Wide.FinOn
import HandS.ForMost
import HandS.Exc
import HandS.ExcOwn
import HandS.ExcSuper
import HandS.Wide
import HandS.EndBits
import HandS.Walk
import HandS.IsInst
import HandS.TryOnly
import HandS.Flow
import HandS.WordsExc
import HandS.ExcCtx
import HandS.HotCalls
import KE.KDictKeyed
import KE.SortData
import HandS.TupAny
import HandS.TupLe
import HandS.Deep
import HandS.Zip
import HandS.Conv
import KE.GoesMore
import PyProof.EnumMake
import HandS.RaiseMore
import KE.GoesNew
import KE.GoesEnum
import HandS.Style
import KE.KDictZip
import PyProof.TupleOfSeq
import PyProof.ListStr
import HandS.ExcInit
import HandS.ExcIs
import KE.KExcSuper
import KE.KExcIs
import HandS.TupMul
import KE.DataMinMax
import PyProof.AutoSeq1
import HandS.WideBits
import HandS.Dict
import KE.KRevSl
import PyProof.StrOps2
import HandS.Text
import KE.IntTextLaws
import PyProof.Rows.StrSplitAre
import PyProof.Rows.StrSplitJoin
import KE.KStrOpen
import PySem.Challenge.RW_halffilled_k04_saying_texts
set_option Elab.async false
set_option linter.all false
set_option maxRecDepth 100000
set_option maxHeartbeats 4000000
/-! DL: data values, a store of lists, combinators, and what they say of the text's code. -/
namespace DL
open PySem PySem.Spec PyProof.Rows L2

/-! ### values, cells, results -/
inductive D where
  | non | bl (b : Bool) | int (i : Int) | str (x : Str) | tup (xs : List D) | rol (xs : List D) | loc (l : Nat)
inductive Cell where
  | lst (xs : List D) | dct (kvs : List (D × D))
mutual
/-- a key of a dict -/
def nkO : D → Option NestedKey
  | .non => some .none
  | .bl b => some (.num (if b = true then 1 else 0))
  | .int i => some (.num i)
  | .str x => some (.text x)
  | .tup xs => (nkL xs).map .tup
  | .rol _ => none
  | .loc _ => none
def nkL : List D → Option (List NestedKey)
  | [] => some []
  | x :: xs => match nkO x, nkL xs with
    | some a, some as => some (a :: as)
    | _, _ => none
end
abbrev Store := List Cell
structure Exn where
  cls : Str
  fs : List (Str × D)
inductive Res (α : Type) where
  | ok (a : α) (S : Store) | ex (e : Exn) (S : Store) | no
def Res.bind {α β : Type} (r : Res α) (k : α → Store → Res β) : Res β := match r with
  | .ok a S => k a S
  | .ex e S => .ex e S
  | .no => .no
@[simp] theorem Res.bind_ok {α β : Type} (a : α) (S : Store) (k : α → Store → Res β) : (Res.ok a S).bind k = k a S := rfl
@[simp] theorem Res.bind_ex {α β : Type} (e : Exn) (S : Store) (k : α → Store → Res β) : (Res.ex e S : Res α).bind k = .ex e S := rfl
@[simp] theorem Res.bind_no {α β : Type} (k : α → Store → Res β) : (Res.no : Res α).bind k = .no := rfl
abbrev Sg := List (Option D)
abbrev DE := Sg → Store → Res D
abbrev DT := Sg → Store → Res Bool
abbrev DA := Sg → Store → Res (List D)
inductive SR where
  | nx (σ : Sg) (S : Store) | rt (d : D) (S : Store) | bk (σ : Sg) (S : Store) | ct (σ : Sg) (S : Store) | ex (e : Exn) (σ : Sg) (S : Store) | no
abbrev DS := Sg → Store → SR
abbrev K1 := D → Store → Res D
abbrev K2 := D → D → Store → Res D
abbrev KA := List D → Store → Res D

/-! ### what they stand for -/
/-- the text's own things, and the world (for the hashes of dicts) -/
structure Pin where
  i : Nat
  a : Addr
  C : Addr
  da : Addr
  vs : List (Str × V)
  e : Exn
/-- .. and, in an except suite, the exception that it holds: its slot, its address, its class, its dict -/
structure KW where
  f : PySem.W.Frag
  w : World
  pin : Option Pin
instance : CoeOut KW PySem.W.Frag := ⟨KW.f⟩
@[reducible] def _root_.L2.Cx.kwp (X : L2.Cx) (p : Option Pin) : KW := ⟨X.K, X.w, p⟩
@[reducible] def _root_.L2.Cx.kw (X : L2.Cx) : KW := ⟨X.K, X.w, none⟩
/-- what never changes -/
def imm : HO → Prop
  | .tup _ => True
  | .frz _ _ => True
  | _ => False
/-- a list that stays: locked, or one of the text's own -/
def SqI (K : PySem.W.Frag) (H : Hp) (a : Addr) (xs : List V) : Prop :=
  (∃ o, H a = some (.frz o (.lst xs))) ∨
    ∃ (o : Obj) (its : Array Value) (n : Nat), K.lookup a = some o ∧ o.cls = .type "list" ∧ o.dict = none ∧ o.data = .seq its n ∧ its.size ≤ sizeLine ∧ Vals xs its.toList
theorem SqI.sq {K : PySem.W.Frag} {H : Hp} {a : Addr} {xs : List V} (h : SqI K H a xs) : SqL K H a xs := by
  rcases h with ⟨o, h⟩ | h
  · exact .inl (.inr ⟨o, h⟩)
  · exact .inr h
mutual
inductive R (K : KW) (μ : List Addr) (H : Hp) : D → V → Prop
  | non : R K μ H .non .non
  | bl (b : Bool) : R K μ H (.bl b) (.bl b)
  | int (i : Int) : R K μ H (.int i) (.int i)
  | str (x : Str) : R K μ H (.str x) (.str x)
  | tup {a : Addr} {vs : List V} {xs : List D} : SqT K H a vs → vs.length ≤ sizeLine → RL K μ H xs vs → R K μ H (.tup xs) (.ref a)
  | rol {a : Addr} {vs : List V} {xs : List D} : SqI K H a vs → vs.length ≤ sizeLine → RL K μ H xs vs → R K μ H (.rol xs) (.ref a)
  | loc {l : Nat} {a : Addr} : μ[l]? = some a → R K μ H (.loc l) (.ref a)
inductive RL (K : KW) (μ : List Addr) (H : Hp) : List D → List V → Prop
  | nil : RL K μ H [] []
  | cons {x : D} {v : V} {xs : List D} {vs : List V} : R K μ H x v → RL K μ H xs vs → RL K μ H (x :: xs) (v :: vs)
end
def entW (w : World) (x : NestedKey × Addr × Value) : DictEntry := ⟨x.1.hash w, .ref x.2.1, x.2.2⟩
/-- a dict whose keys are tuples -/
def dctO (w : World) (a : Addr) (xs : List (NestedKey × Addr × Value)) : HO := .ext fun h => ∃ o es ep, h.get? a = some o ∧ o.ExactDict ∧ o.data = .dict es ep ∧ es.toList = xs.map (entW w)
inductive KR (K : KW) (μ : List Addr) (H : Hp) : List (D × D) → List (NestedKey × Addr × Value) → Prop
  | nil : KR K μ H [] []
  | cons {ds : List D} {nk : NestedKey} {b : Addr} {d : D} {v : V} {u : Value} {kvs : List (D × D)} {xs : List (NestedKey × Addr × Value)} : nkO (.tup ds) = some nk → nk.depth ≤ 8 → R K μ H (.tup ds) (.ref b) → R K μ H d v → RelV v u →
      KR K μ H kvs xs → KR K μ H ((.tup ds, d) :: kvs) ((nk, b, u) :: xs)
def CellR (K : KW) (μ : List Addr) (H : Hp) (a : Addr) : Cell → Prop
  | .dct kvs => ∃ xs, H a = some (dctO K.w a xs) ∧ (a == sysModules) = false ∧ xs.length ≤ sizeLine ∧ (xs.map (·.1)).Nodup ∧ KR K μ H kvs xs
  | .lst xs => ∃ vs, H a = some (.lst vs) ∧ vs.length ≤ sizeLine ∧ RL K μ H xs vs
structure Ok (K : KW) (μ : List Addr) (H : Hp) (S : Store) : Prop where
  len : μ.length = S.length
  nd : μ.Nodup
  cell : ∀ (l : Nat) (a : Addr) (c : Cell), μ[l]? = some a → S[l]? = some c → CellR K μ H a c
structure Ext (μ : List Addr) (H : Hp) (μ' : List Addr) (H' : Hp) : Prop where
  pre : ∃ ν, μ' = μ ++ ν
  keep : ∀ b o, H b = some o → (b ∈ μ → imm o) → H' b = some o
  new : ∀ a, a ∈ μ' → a ∉ μ → H a = none

section
variable {K : KW} {μ μ1 μ2 : List Addr} {H H1 H2 : Hp}
theorem Ext.refl (μ : List Addr) (H : Hp) : Ext μ H μ H := ⟨⟨[], by simp⟩, fun _ _ e _ => e, fun a h h' => absurd h h'⟩
theorem Ext.trans (a : Ext μ H μ1 H1) (b : Ext μ1 H1 μ2 H2) : Ext μ H μ2 H2 := by
  obtain ⟨ν, e⟩ := a.pre
  obtain ⟨ν', e'⟩ := b.pre
  refine ⟨⟨ν ++ ν', by rw [e', e, List.append_assoc]⟩, fun c o h hc => b.keep c o (a.keep c o h hc) fun hm => ?_, fun c h1 h2 => ?_⟩
  · by_cases hμ : c ∈ μ
    · exact hc hμ
    · rw [a.new c hm hμ] at h; cases h
  · by_cases h3 : c ∈ μ1
    · exact a.new c h3 h2
    · have z := b.new c h1 h3
      cases q : H c with
      | none => rfl
      | some o => rw [a.keep c o q fun hm => absurd hm h2] at z; cases z
theorem Ext.tup (a : Ext μ H μ1 H1) {b : Addr} {vs : List V} (h : H b = some (.tup vs)) : H1 b = some (.tup vs) := a.keep _ _ h fun _ => trivial
theorem Ext.frz (a : Ext μ H μ1 H1) {b : Addr} {o : Obj} {u : HO} (h : H b = some (.frz o u)) : H1 b = some (.frz o u) := a.keep _ _ h fun _ => trivial
/-- what never changes is kept -/
structure Sub (μ : List Addr) (H : Hp) (μ' : List Addr) (H' : Hp) : Prop where
  pre : ∃ ν, μ' = μ ++ ν
  imm : ∀ b o, H b = some o → imm o → H' b = some o
theorem Ext.sub (a : Ext μ H μ1 H1) : Sub μ H μ1 H1 := ⟨a.pre, fun b o h i => a.keep b o h fun _ => i⟩
theorem Sub.sqT (x : Sub μ H μ1 H1) {a : Addr} {vs : List V} (h : SqT K H a vs) : SqT K H1 a vs := by
  rcases h with (h | ⟨o, h⟩) | h
  · exact .inl (.inl (x.imm _ _ h trivial))
  · exact .inl (.inr ⟨o, x.imm _ _ h trivial⟩)
  · exact .inr h
theorem Ext.sqT (x : Ext μ H μ1 H1) {a : Addr} {vs : List V} (h : SqT K H a vs) : SqT K H1 a vs := x.sub.sqT h
theorem Sub.at (x : Sub μ H μ1 H1) {l : Nat} {a : Addr} (h : μ[l]? = some a) : μ1[l]? = some a := by
  obtain ⟨ν, e⟩ := x.pre
  rw [e, List.getElem?_append_left (List.getElem?_eq_some_iff.mp h).1]
  exact h
theorem Ext.at (x : Ext μ H μ1 H1) {l : Nat} {a : Addr} (h : μ[l]? = some a) : μ1[l]? = some a := x.sub.at h
theorem Sub.sqI (x : Sub μ H μ1 H1) {a : Addr} {vs : List V} (h : SqI K H a vs) : SqI K H1 a vs := by
  rcases h with ⟨o, h⟩ | h
  · exact .inl ⟨o, x.imm _ _ h trivial⟩
  · exact .inr h
theorem Ext.sqI (x : Ext μ H μ1 H1) {a : Addr} {vs : List V} (h : SqI K H a vs) : SqI K H1 a vs := x.sub.sqI h
mutual
theorem R.subM (x : Sub μ H μ1 H1) : ∀ {d : D} {v : V}, R K μ H d v → R K μ1 H1 d v
  | _, _, .non => .non
  | _, _, .bl b => .bl b
  | _, _, .int i => .int i
  | _, _, .str z => .str z
  | _, _, .tup h l r => .tup (x.sqT h) l (RL.subM x r)
  | _, _, .rol h l r => .rol (x.sqI h) l (RL.subM x r)
  | _, _, .loc h => .loc (x.at h)
theorem RL.subM (x : Sub μ H μ1 H1) : ∀ {ds : List D} {vs : List V}, RL K μ H ds vs → RL K μ1 H1 ds vs
  | _, _, .nil => .nil
  | _, _, .cons r t => .cons (R.subM x r) (RL.subM x t)
end
theorem R.mono (x : Ext μ H μ1 H1) {d : D} {v : V} (r : R K μ H d v) : R K μ1 H1 d v := r.subM x.sub
theorem RL.mono (x : Ext μ H μ1 H1) {ds : List D} {vs : List V} (r : RL K μ H ds vs) : RL K μ1 H1 ds vs := r.subM x.sub
theorem RL.length : ∀ {ds : List D} {vs : List V}, RL K μ H ds vs → ds.length = vs.length
  | _, _, .nil => rfl
  | _, _, .cons _ t => by rw [List.length_cons, List.length_cons, RL.length t]
theorem RL.get : ∀ {ds : List D} {vs : List V} {i : Nat} {d : D}, RL K μ H ds vs → ds[i]? = some d → ∃ v, vs[i]? = some v ∧ R K μ H d v
  | _, _, _, _, .nil, e => by simp at e
  | _, _, 0, _, .cons r _, e => by simp at e; subst e; exact ⟨_, rfl, r⟩
  | _, _, i + 1, _, .cons _ t, e => by
    obtain ⟨v, h1, h2⟩ := RL.get (i := i) t (by simpa using e)
    exact ⟨v, by simpa using h1, h2⟩
theorem RL.getV : ∀ {ds : List D} {vs : List V} {i : Nat} {v : V}, RL K μ H ds vs → vs[i]? = some v → ∃ d, ds[i]? = some d ∧ R K μ H d v
  | _, _, _, _, .nil, e => by simp at e
  | _, _, 0, _, .cons r _, e => by simp at e; subst e; exact ⟨_, rfl, r⟩
  | _, _, i + 1, _, .cons _ t, e => by
    obtain ⟨v, h1, h2⟩ := RL.getV (i := i) t (by simpa using e)
    exact ⟨v, by simpa using h1, h2⟩
theorem RL.set {d : D} {v : V} (r : R K μ H d v) : ∀ {ds : List D} {vs : List V} (i : Nat), RL K μ H ds vs → RL K μ H (ds.set i d) (vs.set i v)
  | _, _, _, .nil => .nil
  | _, _, 0, .cons _ t => .cons r t
  | _, _, i + 1, .cons q t => .cons q (RL.set r i t)
theorem RL.append : ∀ {ds es : List D} {vs ws : List V}, RL K μ H ds vs → RL K μ H es ws → RL K μ H (ds ++ es) (vs ++ ws)
  | _, _, _, _, .nil, s => s
  | _, _, _, _, .cons r t, s => .cons r (RL.append t s)
theorem RL.take : ∀ {ds : List D} {vs : List V} (n : Nat), RL K μ H ds vs → RL K μ H (ds.take n) (vs.take n)
  | _, _, 0, _ => .nil
  | _, _, _ + 1, .nil => .nil
  | _, _, n + 1, .cons r t => .cons r (RL.take n t)
theorem RL.drop : ∀ {ds : List D} {vs : List V} (n : Nat), RL K μ H ds vs → RL K μ H (ds.drop n) (vs.drop n)
  | _, _, 0, r => r
  | _, _, _ + 1, .nil => .nil
  | _, _, n + 1, .cons _ t => RL.drop n t
theorem RL.eraseIdx : ∀ {ds : List D} {vs : List V} (n : Nat), RL K μ H ds vs → RL K μ H (ds.eraseIdx n) (vs.eraseIdx n)
  | _, _, _, .nil => .nil
  | _, _, 0, .cons _ t => t
  | _, _, n + 1, .cons r t => .cons r (RL.eraseIdx n t)
theorem RL.reverse : ∀ {ds : List D} {vs : List V}, RL K μ H ds vs → RL K μ H ds.reverse vs.reverse
  | _, _, .nil => .nil
  | _, _, .cons r t => by
    rw [List.reverse_cons, List.reverse_cons]
    exact RL.append (RL.reverse t) (.cons r .nil)
theorem RL.dropLast : ∀ {ds : List D} {vs : List V}, RL K μ H ds vs → RL K μ H ds.dropLast vs.dropLast := fun {ds vs} r => by
  rw [List.dropLast_eq_take, List.dropLast_eq_take, r.length]
  exact r.take _
theorem RL.ints : ∀ (ns : List Int), RL K μ H (ns.map D.int) (ns.map V.int)
  | [] => .nil
  | n :: r => .cons (.int n) (RL.ints r)
theorem RL.intsV : ∀ {ns : List Int} {vs : List V}, RL K μ H (ns.map D.int) vs → vs = ns.map V.int
  | [], _, .nil => rfl
  | n :: r, _, .cons h t => by
    cases h
    rw [RL.intsV t]; rfl
theorem KR.subM (x : Sub μ H μ1 H1) : ∀ {kvs : List (D × D)} {xs : List (NestedKey × Addr × Value)}, KR K μ H kvs xs → KR K μ1 H1 kvs xs
  | _, _, .nil => .nil
  | _, _, .cons a b c d e t => .cons a b (c.subM x) (d.subM x) e (KR.subM x t)
theorem CellR.subM (x : Sub μ H μ1 H1) {a : Addr} (hk : ∀ o, H a = some o → H1 a = some o) : ∀ {c : Cell}, CellR K μ H a c → CellR K μ1 H1 a c
  | .lst _, ⟨vs, h, l, r⟩ => ⟨vs, hk _ h, l, r.subM x⟩
  | .dct _, ⟨vs, h, l, z, n, r⟩ => ⟨vs, hk _ h, l, z, n, r.subM x⟩
theorem CellR.mono (x : Ext μ H μ1 H1) {a : Addr} (hk : ∀ o, H a = some o → H1 a = some o) {c : Cell} (h : CellR K μ H a c) : CellR K μ1 H1 a c := h.subM x.sub hk
end

/-! ### the store's steps -/
section
variable {K : KW} {μ : List Addr} {H : Hp} {S : Store}
theorem Ok.at (ok : Ok K μ H S) {l : Nat} {c : Cell} (h : S[l]? = some c) : ∃ a, μ[l]? = some a ∧ CellR K μ H a c := by
  have hl : l < μ.length := by rw [ok.len]; exact (List.getElem?_eq_some_iff.mp h).1
  exact ⟨μ[l], by simp [hl], ok.cell l _ c (by simp [hl]) h⟩
theorem Ok.lst (ok : Ok K μ H S) {a : Addr} (h : a ∈ μ) : ∃ o, H a = some o ∧ ((∃ vs, o = .lst vs) ∨ ∃ φ, o = .ext φ) := by
  obtain ⟨l, hl, e⟩ := List.getElem_of_mem h
  have hs : l < S.length := by rw [← ok.len]; exact hl
  have z := ok.cell l a S[l] (by simp [hl, e]) (by simp [hs])
  cases q : S[l] with
  | lst xs =>
    rw [q] at z
    obtain ⟨vs, h, _⟩ := z
    exact ⟨_, h, .inl ⟨vs, rfl⟩⟩
  | dct xs =>
    rw [q] at z
    obtain ⟨vs, h, _⟩ := z
    exact ⟨_, h, .inr ⟨_, rfl⟩⟩
theorem ext_new {p : Addr} {o : HO} (h : H p = none) : Ext μ H μ (upd H p o) := ⟨⟨[], by simp⟩, fun b o' e _ => by rw [upd_ne (ne_of_none e h)]; exact e, fun a h1 h2 => absurd h1 h2⟩
/-- something that the store does not tell of -/
theorem Ok.ext (ok : Ok K μ H S) {H' : Hp} (x : Ext μ H μ H') (hk : ∀ a ∈ μ, ∀ o, H a = some o → H' a = some o) : Ok K μ H' S :=
  ⟨ok.len, ok.nd, fun l a c h1 h2 => (ok.cell l a c h1 h2).mono x fun o e => hk a (List.mem_of_getElem? h1) o e⟩
theorem Ok.laid (ok : Ok K μ H S) {p : Addr} {o : HO} (h : H p = none) : Ok K μ (upd H p o) S :=
  ok.ext (ext_new h) fun a _ o' e => by rw [upd_ne (ne_of_none e h)]; exact e
theorem Ok.notin (ok : Ok K μ H S) {p : Addr} (h : H p = none) : p ∉ μ := fun hm => by
  obtain ⟨vs, e, _⟩ := ok.lst hm
  rw [h] at e; cases e
/-- a list is laid -/
theorem ext_add {p : Addr} {o : HO} (h : H p = none) : Ext μ H (μ ++ [p]) (upd H p o) := ⟨⟨[p], rfl⟩, fun b o' e _ => by rw [upd_ne (ne_of_none e h)]; exact e, fun a h1 h2 => by
  rcases List.mem_append.mp h1 with z | z
  · exact absurd z h2
  · rw [List.mem_singleton.mp z]; exact h⟩
theorem Ok.add (ok : Ok K μ H S) {p : Addr} {vs : List V} {xs : List D} (h : H p = none) (l : vs.length ≤ sizeLine) (r : RL K μ H xs vs) : Ok K (μ ++ [p]) (upd H p (.lst vs)) (S ++ [.lst xs]) := by
  have x : Ext μ H (μ ++ [p]) (upd H p (.lst vs)) := ext_add h
  refine ⟨by rw [List.length_append, List.length_append, ok.len]; rfl, ?_, fun i a c h1 h2 => ?_⟩
  · rw [List.nodup_append]
    refine ⟨ok.nd, by simp, fun a ha b hb e => ?_⟩
    rw [List.mem_singleton.mp hb] at e
    rw [e] at ha
    exact ok.notin h ha
  · by_cases hi : i < μ.length
    · rw [List.getElem?_append_left hi] at h1
      rw [List.getElem?_append_left (by rw [← ok.len]; exact hi)] at h2
      exact (ok.cell i a c h1 h2).mono x fun o e => by rw [upd_ne (ne_of_none e h)]; exact e
    · rw [List.getElem?_append_right (by omega)] at h1
      rw [List.getElem?_append_right (by rw [← ok.len]; omega)] at h2
      have e0 : i - μ.length = 0 := by
        have := (List.getElem?_eq_some_iff.mp h1).1
        simp at this
        omega
      have e1 : i - S.length = 0 := by rw [← ok.len]; exact e0
      rw [e0] at h1
      rw [e1] at h2
      simp at h1 h2
      subst h1 h2
      exact ⟨vs, upd_same, l, r.mono x⟩
/-- a list is changed -/
theorem ext_set {a : Addr} {o : HO} (hm : a ∈ μ) (hi : ∀ o, H a = some o → ¬ imm o) : Ext μ H μ (upd H a o) := ⟨⟨[], by simp⟩, fun b o' e hb => by
  by_cases z : b = a
  · subst z
    exact absurd (hb hm) (hi _ e)
  · rw [upd_ne z]; exact e, fun a h1 h2 => absurd h1 h2⟩
theorem Ok.set (ok : Ok K μ H S) {i : Nat} {a : Addr} {vs : List V} {xs : List D} (h : μ[i]? = some a) (l : vs.length ≤ sizeLine) (r : RL K μ H xs vs) : Ext μ H μ (upd H a (.lst vs)) ∧ Ok K μ (upd H a (.lst vs)) (S.set i (.lst xs)) := by
  have hm := List.mem_of_getElem? h
  obtain ⟨ws, hw, hq⟩ := ok.lst hm
  have x : Ext μ H μ (upd H a (.lst vs)) := ext_set hm fun o e => by
    rw [hw] at e; cases e
    rcases hq with ⟨_, rfl⟩ | ⟨_, rfl⟩ <;> exact fun z => z
  refine ⟨x, ⟨by rw [List.length_set]; exact ok.len, ok.nd, fun j b c h1 h2 => ?_⟩⟩
  by_cases hj : i = j
  · subst hj
    rw [h] at h1; cases h1
    have hi : i < S.length := by rw [← ok.len]; exact (List.getElem?_eq_some_iff.mp h).1
    rw [List.getElem?_set_self hi] at h2
    cases h2
    exact ⟨vs, upd_same, l, r.mono x⟩
  · rw [List.getElem?_set_ne hj] at h2
    have hb : b ≠ a := fun e => hj (by
      subst e
      obtain ⟨l1, e1⟩ := List.getElem?_eq_some_iff.mp h
      obtain ⟨l2, e2⟩ := List.getElem?_eq_some_iff.mp h1
      exact (List.getElem_inj ok.nd).mp (e1.trans e2.symm))
    exact (ok.cell j b c h1 h2).mono x fun o e => by rw [upd_ne hb]; exact e
end

/-! ### what is wanted behind -/
inductive FR (K : KW) (μ : List Addr) (H : Hp) : List (Str × D) → List (Str × V) → Prop
  | nil : FR K μ H [] []
  | cons {n : Str} {x : D} {v : V} {xs : List (Str × D)} {vs : List (Str × V)} : R K μ H x v → FR K μ H xs vs → FR K μ H ((n, x) :: xs) ((n, v) :: vs)
theorem FR.mono {K : KW} {μ μ1 : List Addr} {H H1 : Hp} (x : Ext μ H μ1 H1) : ∀ {xs : List (Str × D)} {vs : List (Str × V)}, FR K μ H xs vs → FR K μ1 H1 xs vs
  | _, _, .nil => .nil
  | _, _, .cons r t => .cons (r.mono x) (FR.mono x t)
/-- what the written part says of an exception's class -/
structure ExF (K : PySem.W.Frag) (C : Addr) (fs : List Str) : Prop where
  cl : (PySem.W.clsIn K C).isSome = true
  ga : PySem.W.findIn K (.ref C) "__getattribute__" = some (some (.builtin "BaseException.__getattribute__"))
  gg : PySem.W.findIn K (.ref C) "__getattr__" = some none
  exC : PySem.W.subIn K (.ref C) (.type "BaseException") = some true
  hdC : PySem.W.hasDictIn K C = true
  ha : PySem.W.findIn K (.ref C) "__class__" = some (some (.builtin "object.__class__"))
  hn : PySem.W.specialIn K (.builtin "object.__class__") "__get__" = some (some (.builtin "getset_descriptor.__get__"))
  ht : PySem.W.takesIn K (.builtin "object.__class__") = some true
  hm : PySem.W.mroIn K C (.type "object") = some true
  noN : ∀ f ∈ fs, PySem.W.findIn K (.ref C) f = some none
/-- an exception of a class of the text, its fields -/
def ExR (K : KW) (mg : Str → Option Value) (μ : List Addr) (H : Hp) (e : Exn) (cls : Value) (dx : Option Addr) : Prop :=
  ∃ C da vs, mg e.cls = some (.ref C) ∧ cls = .ref C ∧ dx = some da ∧ H da = some (.xd vs) ∧ da ∉ μ ∧ FR K μ H e.fs vs ∧ ExF K C (e.fs.map (·.1))
section
variable {α β γ δ : Type} (K : KW) (mg : Str → Option Value) (W : WX)
def Post (RA : List Addr → Hp → α → β → Prop) (μ : List Addr) (H : Hp) (σV : L2.St) (r : Res α) (Q : β → Hp → Prop) : Prop := match r with
  | .ok a S' => ∀ μ' H' b, Ext μ H μ' H' → Ok K μ' H' S' → RA μ' H' a b → Q b H'
  | .ex e S' => ∀ μ' H' cls dx, Ext μ H μ' H' → Ok K μ' H' S' → ExR K mg μ' H' e cls dx → W cls dx σV H'
  | .no => False
end
section
variable {α β γ δ : Type} {K : KW} {mg : Str → Option Value} {W : WX} {μ μ1 : List Addr} {H H1 : Hp} {σV : L2.St}
  {RA : List Addr → Hp → α → β → Prop} {RC : List Addr → Hp → γ → δ → Prop}
theorem Post.mono (x : Ext μ H μ1 H1) {r : Res α} {Q : β → Hp → Prop} (h : Post K mg W RA μ H σV r Q) : Post K mg W RA μ1 H1 σV r Q := by
  cases r with
  | ok a S => exact fun μ' H' b e => h μ' H' b (x.trans e)
  | ex e S => exact fun μ' H' c d e => h μ' H' c d (x.trans e)
  | no => exact h
theorem Post.bind {r : Res α} {k : α → Store → Res γ} {Q : δ → Hp → Prop} {Q1 : β → Hp → Prop} (h : Post K mg W RC μ H σV (r.bind k) Q)
    (hk : ∀ a S1 μ1 H1 b, Ext μ H μ1 H1 → Ok K μ1 H1 S1 → RA μ1 H1 a b → Post K mg W RC μ1 H1 σV (k a S1) Q → Q1 b H1) : Post K mg W RA μ H σV r Q1 := by
  cases r with
  | ok a S => exact fun μ' H' b x ok ra => hk a S μ' H' b x ok ra (Post.mono x h)
  | ex e S => exact h
  | no => exact h
theorem Post.imp {r : Res α} {Q Q' : β → Hp → Prop} (h : Post K mg W RA μ H σV r Q) (hq : ∀ b H', Q b H' → Q' b H') : Post K mg W RA μ H σV r Q' := by
  cases r with
  | ok a S => exact fun μ' H' b e o ra => hq _ _ (h μ' H' b e o ra)
  | ex e S => exact h
  | no => exact h
end
abbrev RB : List Addr → Hp → Bool → Bool → Prop := fun _ _ a b => a = b
/-- the slots -/
structure EnvR (K : KW) (μ : List Addr) (H : Hp) (σ : Sg) (σV : L2.St) : Prop where
  len : σ.length = σV.length
  get : ∀ (i : Nat) (d : D), σ[i]? = some (some d) → ∃ v, σV[i]? = some (some v) ∧ R K μ H d v
  pin : ∀ p, K.pin = some p → σ[p.i]? = some none → σV[p.i]? = some (some (.ref p.a)) ∧ H p.da = some (.xd p.vs) ∧ p.da ∉ μ ∧ FR K μ H p.e.fs p.vs
theorem EnvR.mono {K : KW} {μ μ1 : List Addr} {H H1 : Hp} {σ : Sg} {σV : L2.St} (x : Ext μ H μ1 H1) (e : EnvR K μ H σ σV) : EnvR K μ1 H1 σ σV := ⟨e.len, fun i d h => by
  obtain ⟨v, h1, r⟩ := e.get i d h
  exact ⟨v, h1, r.mono x⟩, fun p hp h => by
  obtain ⟨h1, h2, h3, h4⟩ := e.pin p hp h
  exact ⟨h1, x.keep _ _ h2 fun z => absurd z h3, fun z => (by rw [x.new _ z h3] at h2; cases h2), h4.mono x⟩⟩
theorem EnvR.set {K : KW} {μ : List Addr} {H : Hp} {σ : Sg} {σV : L2.St} {d : D} {v : V} (e : EnvR K μ H σ σV) (i : Nat) (r : R K μ H d v) : EnvR K μ H (σ.set i (some d)) (σV.set i (some v)) := by
  refine ⟨by rw [List.length_set, List.length_set]; exact e.len, fun j d' h => ?_, fun p hp h => ?_⟩
  by_cases hj : i = j
  · subst hj
    have hi : i < σ.length := by
      have := (List.getElem?_eq_some_iff.mp h).1
      rwa [List.length_set] at this
    rw [List.getElem?_set_self hi] at h
    cases h
    exact ⟨v, List.getElem?_set_self (by rw [← e.len]; exact hi), r⟩
  · rw [List.getElem?_set_ne hj] at h ⊢
    exact e.get j d' h
  by_cases hj : i = p.i
  · rw [← hj] at h
    have hi : i < σ.length := by
      have := (List.getElem?_eq_some_iff.mp h).1
      rwa [List.length_set] at this
    rw [List.getElem?_set_self hi] at h
    cases h
  · rw [List.getElem?_set_ne hj] at h ⊢
    exact e.pin p hp h
/-! ### the readings -/
section
variable (K : KW) (mg : Str → Option Value) (W : WX)
def tG {α β : Type} (RA : List Addr → Hp → α → β → Prop) (f : Sg → Store → Res α) (σV : L2.St) (H : Hp) (Q : β → Hp → Prop) : Prop :=
  ∃ μ σ S, Ok K μ H S ∧ EnvR K μ H σ σV ∧ Post K mg W RA μ H σV (f σ S) Q
abbrev tE (f : DE) : TE := tG K mg W (R K) f
abbrev tT (f : DT) : TT := tG K mg W RB f
abbrev tA (f : DA) : TA := tG K mg W (RL K) f
/-- behind a statement -/
def SPost (μ : List Addr) (H : Hp) (r : SR) (Dn : Ends) : Prop := match r with
  | .nx σ S => ∀ μ' H' σV', Ext μ H μ' H' → Ok K μ' H' S → EnvR K μ' H' σ σV' → Dn.nx σV' H'
  | .rt d S => ∀ μ' H' v, Ext μ H μ' H' → Ok K μ' H' S → R K μ' H' d v → Dn.rt v H'
  | .bk σ S => ∀ μ' H' σV', Ext μ H μ' H' → Ok K μ' H' S → EnvR K μ' H' σ σV' → Dn.bk σV' H'
  | .ct σ S => ∀ μ' H' σV', Ext μ H μ' H' → Ok K μ' H' S → EnvR K μ' H' σ σV' → Dn.ct σV' H'
  | .ex e σ S => ∀ μ' H' σV' cls dx, Ext μ H μ' H' → Ok K μ' H' S → EnvR K μ' H' σ σV' → ExR K mg μ' H' e cls dx → W cls dx σV' H'
  | .no => False
def tS (f : DS) : TS := fun Dn σV H => ∃ μ σ S, Ok K μ H S ∧ EnvR K μ H σ σV ∧ SPost K mg W μ H (f σ S) Dn
end
theorem SPost.mono {K : KW} {mg : Str → Option Value} {W : WX} {μ μ1 : List Addr} {H H1 : Hp} {r : SR} {Dn : Ends} (x : Ext μ H μ1 H1) (h : SPost K mg W μ H r Dn) : SPost K mg W μ1 H1 r Dn := by
  cases r with
  | nx σ S => exact fun μ' H' s e => h μ' H' s (x.trans e)
  | rt d S => exact fun μ' H' s e => h μ' H' s (x.trans e)
  | bk σ S => exact fun μ' H' s e => h μ' H' s (x.trans e)
  | ct σ S => exact fun μ' H' s e => h μ' H' s (x.trans e)
  | ex e σ S => exact fun μ' H' s c d e => h μ' H' s c d (x.trans e)
  | no => exact h
theorem PE.weak {X : Cx} {e : Expr} {t t' : TE} (h : PE X e t) (w : ∀ σ H Q, t' σ H Q → t σ H Q) : PE X e t' := ⟨fun pins s σ H Q I q => h.run pins s σ H Q I (w σ H Q q)⟩
theorem PT.weak {X : Cx} {e : Expr} {t t' : TT} (h : PT X e t) (w : ∀ σ H Q, t' σ H Q → t σ H Q) : PT X e t' := ⟨fun pins s σ H Q I q => h.run pins s σ H Q I (w σ H Q q)⟩
theorem PA.weak {X : Cx} {e : List Expr} {t t' : TA} (h : PA X e t) (w : ∀ σ H Q, t' σ H Q → t σ H Q) : PA X e t' := ⟨fun pos pins s σ H Q I q => h.run pos pins s σ H Q I (w σ H Q q)⟩
theorem PS.weak {X : Cx} {e : Stmt} {t t' : TS} (h : PS X e t) (w : ∀ D σ H, t' D σ H → t D σ H) : PS X e t' := ⟨fun pins s σ H D I q => h.run pins s σ H D I (w D σ H q)⟩
theorem PSs.weak {X : Cx} {e : List Stmt} {t t' : TS} (h : PSs X e t) (w : ∀ D σ H, t' D σ H → t D σ H) : PSs X e t' := ⟨fun pins s σ H D I q => h.run pins s σ H D I (w D σ H q)⟩
end DL

namespace DL
open PySem PySem.Spec PyProof.Rows L2

/-! ### operations on values -/
abbrev O1 := D → Store → Option (D × Store)
abbrev O2 := D → D → Store → Option (D × Store)
abbrev OA := List D → Store → Option (D × Store)
def Res.of {α : Type} : Option (α × Store) → Res α
  | some (a, S) => .ok a S
  | none => .no
@[simp] theorem Res.of_some {α : Type} (a : α) (S : Store) : Res.of (some (a, S)) = .ok a S := rfl
@[simp] theorem Res.of_none {α : Type} : (Res.of none : Res α) = .no := rfl
def PV {α β : Type} (K : KW) (RA : List Addr → Hp → α → β → Prop) (μ : List Addr) (H : Hp) (r : Option (α × Store)) (Q : β → Hp → Prop) : Prop := match r with
  | some (a, S') => ∀ μ' H' b, Ext μ H μ' H' → Ok K μ' H' S' → RA μ' H' a b → Q b H'
  | none => False
theorem Post.of {α β : Type} {K : KW} {mg : Str → Option Value} {W : WX} {RA : List Addr → Hp → α → β → Prop} {μ : List Addr} {H : Hp} {σV : L2.St} {r : Option (α × Store)} {Q : β → Hp → Prop} (h : Post K mg W RA μ H σV (Res.of r) Q) : PV K RA μ H r Q := by
  cases r with
  | none => exact h
  | some p => exact h
theorem PV.same {α β : Type} {K : KW} {RA : List Addr → Hp → α → β → Prop} {μ : List Addr} {H : Hp} {S : Store} {a : α} {b : β} {Q : β → Hp → Prop} (h : PV K RA μ H (some (a, S)) Q) (ok : Ok K μ H S) (r : RA μ H a b) : Q b H := h μ H b (Ext.refl _ _) ok r
/-- a new tuple -/
theorem PV.tup {K : KW} {μ : List Addr} {H : Hp} {S : Store} {xs : List D} {vs : List V} {Q : V → Hp → Prop} (h : PV K (R K) μ H (some (D.tup xs, S)) Q) (ok : Ok K μ H S) (l : vs.length ≤ sizeLine) (r : RL K μ H xs vs) : ∀ p, H p = none → Q (.ref p) (upd H p (.tup vs)) := fun p hp =>
  h μ _ _ (ext_new hp) (ok.laid hp) (.tup (.inl (.inl upd_same)) l (r.mono (ext_new hp)))
/-- a new list -/
theorem PV.lst {K : KW} {μ : List Addr} {H : Hp} {S : Store} {xs : List D} {vs : List V} {Q : V → Hp → Prop} (h : PV K (R K) μ H (some (D.loc S.length, S ++ [.lst xs])) Q) (ok : Ok K μ H S) (l : vs.length ≤ sizeLine) (r : RL K μ H xs vs) : ∀ p, H p = none → Q (.ref p) (upd H p (.lst vs)) := fun p hp =>
  h _ _ _ (ext_add hp) (ok.add hp l r) (.loc (by rw [← ok.len, List.getElem?_append_right (Nat.le_refl _)]; simp))

def r1 (K : KW) (k : O1) : V → Hp → VK → Prop := fun v H Q => ∃ μ S x, Ok K μ H S ∧ R K μ H x v ∧ PV K (R K) μ H (k x S) Q
def r2 (K : KW) (k : O2) : R2 := fun v u H Q => ∃ μ S x y, Ok K μ H S ∧ R K μ H x v ∧ R K μ H y u ∧ PV K (R K) μ H (k x y S) Q
def rA (K : KW) (k : OA) : List V → Hp → VK → Prop := fun vs H Q => ∃ μ S xs, Ok K μ H S ∧ RL K μ H xs vs ∧ PV K (R K) μ H (k xs S) Q

/-! ### combinators: expressions -/
def cVar (i : Nat) : DE := fun σ S => match σ[i]? with
  | some (some d) => .ok d S
  | _ => .no
def cK (d : D) : DE := fun _ S => .ok d S
def cUn (k : O1) (f : DE) : DE := fun σ S => (f σ S).bind fun x S1 => Res.of (k x S1)
def cBin (k : O2) (f g : DE) : DE := fun σ S => (f σ S).bind fun x S1 => (g σ S1).bind fun y S2 => Res.of (k x y S2)
def aNil : DA := fun _ S => .ok [] S
def aCons (f : DE) (g : DA) : DA := fun σ S => (f σ S).bind fun x S1 => (g σ S1).bind fun xs S2 => .ok (x :: xs) S2
def cArg (k : OA) (a : DA) : DE := fun σ S => (a σ S).bind fun xs S1 => Res.of (k xs S1)
/-- a value that is a bool, as a test -/
def cTest (f : DE) : DT := fun σ S => (f σ S).bind fun x S1 => match x with
  | .bl b => .ok b S1
  | _ => .no
def dTru (x : D) (S : Store) : Option Bool := match x with
  | .non => some false
  | .bl b => some b
  | .int i => some (i != 0)
  | .str y => if y.length ≤ sizeLine then some ((y.length : Int) != 0) else none
  | .tup xs => some (!xs.isEmpty)
  | .rol xs => some (!xs.isEmpty)
  | .loc l => match S[l]? with
    | some (.lst xs) => some (!xs.isEmpty)
    | _ => none
def cTru (f : DE) : DT := fun σ S => (f σ S).bind fun x S1 => Res.of ((dTru x S1).map fun b => (b, S1))
def cAnd (f g : DT) : DT := fun σ S => (f σ S).bind fun b S1 => if b = true then g σ S1 else .ok false S1
def cOr (f g : DT) : DT := fun σ S => (f σ S).bind fun b S1 => if b = true then .ok true S1 else g σ S1
def cNot (f : DT) : DT := fun σ S => (f σ S).bind fun b S1 => .ok (!b) S1
def cIf (t : DT) (f g : DE) : DE := fun σ S => (t σ S).bind fun b S1 => if b = true then f σ S1 else g σ S1
/-- as values, by truth -/
def cAndV (f g : DE) : DE := fun σ S => (f σ S).bind fun x S1 => match dTru x S1 with
  | some true => g σ S1
  | some false => .ok x S1
  | none => .no
def cOrV (f g : DE) : DE := fun σ S => (f σ S).bind fun x S1 => match dTru x S1 with
  | some true => .ok x S1
  | some false => g σ S1
  | none => .no
def cNotV (f : DE) : DE := fun σ S => (f σ S).bind fun x S1 => match dTru x S1 with
  | some b => .ok (.bl (!b)) S1
  | none => .no

section
variable {X : Cx} {pq : Option Pin} {W : WX} {pos : Pos} {a b c e : Expr} {es : List Expr} {f g h : DE} {t u : DT} {fa : DA}
variable {K : KW} {mg : Str → Option Value}

/-! ### rules: expressions -/
theorem tE_var {i : Nat} {σ : L2.St} {H : Hp} {Q : VK} (h : tE K mg W (cVar i) σ H Q) : tVar i σ H Q := by
  obtain ⟨μ, σD, S, ok, en, h⟩ := h
  unfold cVar at h
  cases q : σD[i]? with
  | none => rw [q] at h; exact h.elim
  | some o =>
    cases o with
    | none => rw [q] at h; exact h.elim
    | some d =>
      rw [q] at h
      obtain ⟨v, hv, r⟩ := en.get i d q
      exact ⟨v, hv, h μ H v (Ext.refl _ _) ok r⟩
theorem e_var (i : Nat) {x : Str} (hN : X.N[i]? = some x := by rfl) (hv : Vis X.env.scope x := by first | exact Or.inl rfl | exact Or.inr (Or.inl rfl) | exact Or.inr (Or.inr rfl)) (hd : (x == ("__debug__" : Str)) = false := by decide)
    (hcd : (x == ("__classdict__" : Str)) = false := by decide) : PE X (.Name x pos) (tE (X.kwp pq) X.mg W (cVar i)) := PE.weak (pv i hN hv hd hcd) fun _ _ _ => tE_var
theorem tE_const {d : D} {v : V} (r : ∀ μ H, R K μ H d v) {σ : L2.St} {H : Hp} {Q : VK} (h : tE K mg W (cK d) σ H Q) : tC v σ H Q := by
  obtain ⟨μ, σD, S, ok, en, h⟩ := h
  exact h μ H v (Ext.refl _ _) ok (r μ H)
theorem e_int {i : Int} {j} : PE X (.Constant (.int i) j pos) (tE (X.kwp pq) X.mg W (cK (.int i))) := PE.weak pe_int fun _ _ _ => tE_const fun _ _ => .int i
theorem e_bl {i : Bool} {j} : PE X (.Constant (.bool i) j pos) (tE (X.kwp pq) X.mg W (cK (.bl i))) := PE.weak pe_bl fun _ _ _ => tE_const fun _ _ => .bl i
theorem e_non {j} : PE X (.Constant .none j pos) (tE (X.kwp pq) X.mg W (cK .non)) := PE.weak pe_non fun _ _ _ => tE_const fun _ _ => .non
theorem e_str {x : Str} {j} : PE X (.Constant (.str x) j pos) (tE (X.kwp pq) X.mg W (cK (.str x))) := PE.weak pe_str fun _ _ _ => tE_const fun _ _ => .str x
/-- a constant of the text -/
theorem e_glob {x : Str} {d : D} {v : V} {u : Value} (hg : Gl X x) (hm : X.mg x = some u) (rv : RelV v u) (r : ∀ μ H, R (X.kwp pq) μ H d v) (hd : (x == ("__debug__" : Str)) = false := by decide) : PE X (.Name x pos) (tE (X.kwp pq) X.mg W (cK d)) :=
  PE.weak (pe_glob hg hm rv hd) fun _ _ _ => tE_const r
/-- two expressions, one after the other -/
theorem tG2 {α β γ δ ε ζ : Type} {RA : List Addr → Hp → α → β → Prop} {RB : List Addr → Hp → γ → δ → Prop} {RC : List Addr → Hp → ε → ζ → Prop} {f : Sg → Store → Res α} {g : Sg → Store → Res γ} {k : α → γ → Store → Res ε}
    (mono : ∀ μ H μ1 H1 x v, Ext μ H μ1 H1 → RA μ H x v → RA μ1 H1 x v)
    {σ : L2.St} {H : Hp} {Q : ζ → Hp → Prop} {Q2 : β → δ → Hp → Prop}
    (h : tG K mg W RC (fun σ S => (f σ S).bind fun x S1 => (g σ S1).bind fun y S2 => k x y S2) σ H Q)
    (hk : ∀ x y S μ H v u, Ok K μ H S → RA μ H x v → RB μ H y u → Post K mg W RC μ H σ (k x y S) Q → Q2 v u H) :
    tG K mg W RA f σ H fun v H1 => tG K mg W RB g σ H1 fun u H2 => Q2 v u H2 := by
  obtain ⟨μ, σD, S, ok, en, h⟩ := h
  refine ⟨μ, σD, S, ok, en, Post.bind h fun x S1 μ1 H1 v x1 ok1 rx h1 => ⟨μ1, σD, S1, ok1, en.mono x1, Post.bind h1 fun y S2 μ2 H2 u x2 ok2 ry h2 => hk x y S2 μ2 H2 v u ok2 (mono _ _ _ _ _ _ x2 rx) ry h2⟩⟩
theorem tG1 {α β ε ζ : Type} {RA : List Addr → Hp → α → β → Prop} {RC : List Addr → Hp → ε → ζ → Prop} {f : Sg → Store → Res α} {k : α → Store → Res ε}
    {σ : L2.St} {H : Hp} {Q : ζ → Hp → Prop} {Q2 : β → Hp → Prop}
    (h : tG K mg W RC (fun σ S => (f σ S).bind fun x S1 => k x S1) σ H Q)
    (hk : ∀ x S μ H v, Ok K μ H S → RA μ H x v → Post K mg W RC μ H σ (k x S) Q → Q2 v H) : tG K mg W RA f σ H Q2 := by
  obtain ⟨μ, σD, S, ok, en, h⟩ := h
  exact ⟨μ, σD, S, ok, en, Post.bind h fun x S1 μ1 H1 v x1 ok1 rx h1 => hk x S1 μ1 H1 v ok1 rx h1⟩
/-- .. and the slots are still there -/
theorem tG1e {α β ε ζ : Type} {RA : List Addr → Hp → α → β → Prop} {RC : List Addr → Hp → ε → ζ → Prop} {f : Sg → Store → Res α} {k : Sg → α → Store → Res ε}
    {σ : L2.St} {H : Hp} {Q : ζ → Hp → Prop} {Q2 : β → Hp → Prop}
    (h : tG K mg W RC (fun σ S => (f σ S).bind fun x S1 => k σ x S1) σ H Q)
    (hk : ∀ σD x S μ H v, Ok K μ H S → EnvR K μ H σD σ → RA μ H x v → Post K mg W RC μ H σ (k σD x S) Q → Q2 v H) : tG K mg W RA f σ H Q2 := by
  obtain ⟨μ, σD, S, ok, en, h⟩ := h
  exact ⟨μ, σD, S, ok, en, Post.bind h fun x S1 μ1 H1 v x1 ok1 rx h1 => hk σD x S1 μ1 H1 v ok1 (en.mono x1) rx h1⟩
theorem tE_bin {k : O2} {σ : L2.St} {H : Hp} {Q : VK} (h : tE K mg W (cBin k f g) σ H Q) : tOp (r2 K k) (tE K mg W f) (tE K mg W g) σ H Q :=
  tG2 (RA := R K) (RB := R K) (fun _ _ _ _ _ _ x r => r.mono x) h fun x y S μ H v u ok rx ry h => ⟨μ, S, x, y, ok, rx, ry, h.of⟩
theorem tE_un {k : O1} {σ : L2.St} {H : Hp} {Q : VK} (h : tE K mg W (cUn k f) σ H Q) : tUn (r1 K k) (tE K mg W f) σ H Q :=
  tG1 (RA := R K) h fun x S μ H v ok rx h => ⟨μ, S, x, ok, rx, h.of⟩
theorem e_bin {op : Operator} {k : O2} (ho : OpR X (binaryOp op) (r2 (X.kwp pq) k)) (ha : PE X a (tE (X.kwp pq) X.mg W f)) (hb : PE X b (tE (X.kwp pq) X.mg W g)) : PE X (.BinOp a op b pos) (tE (X.kwp pq) X.mg W (cBin k f g)) := PE.weak (pe_op ho ha hb) fun _ _ _ => tE_bin
theorem e_un {op : UnaryOp} {k : O1} (ho : UnR X (unaryOp op) (r1 (X.kwp pq) k)) (ha : PE X a (tE (X.kwp pq) X.mg W f)) : PE X (.UnaryOp op a pos) (tE (X.kwp pq) X.mg W (cUn k f)) := PE.weak (pe_un ho ha) fun _ _ _ => tE_un
theorem e_cmp {op : CmpOp} {k : O2} (ho : OpR X (compareOp op) (r2 (X.kwp pq) k)) (ha : PE X a (tE (X.kwp pq) X.mg W f)) (hb : PE X b (tE (X.kwp pq) X.mg W g)) (hm : behindInMarks op b = false := by first | exact nomark _ | rfl) : PE X (.Compare a [op] [b] pos) (tE (X.kwp pq) X.mg W (cBin k f g)) :=
  PE.weak (pe_cmpR ho ha hb hm) fun _ _ _ => tE_bin
theorem t_cmp {op : CmpOp} {k : O2} (ho : OpR X (compareOp op) (r2 (X.kwp pq) k)) (ha : PE X a (tE (X.kwp pq) X.mg W f)) (hb : PE X b (tE (X.kwp pq) X.mg W g)) (hm : behindInMarks op b = false := by first | exact nomark _ | rfl) : PT X (.Compare a [op] [b] pos) (tT (X.kwp pq) X.mg W (cTest (cBin k f g))) := by
  refine PT.weak (pt_cmpR ho ha hb hm) fun σ H Q h => ?_
  have h1 : tE (X.kwp pq) X.mg W (cBin k f g) σ H fun v H1 => ∃ k, v = .bl k ∧ Q k H1 := tG1 (RA := R (X.kwp pq)) h fun x S μ H v ok rx h => by
    cases x with
    | bl b =>
      cases rx
      exact ⟨b, rfl, h μ H b (Ext.refl _ _) ok rfl⟩
    | _ => exact h.elim
  exact tE_bin h1
def cChain (k k' : O2) (f g h : DE) : DE := fun σ S => (f σ S).bind fun x S1 => (g σ S1).bind fun y S2 => (Res.of (k x y S2)).bind fun z S3 => match z with
  | .bl true => (h σ S3).bind fun w S4 => Res.of (k' y w S4)
  | .bl false => .ok (.bl false) S3
  | _ => .no
/-- an argument list -/
theorem tA_nil {σ : L2.St} {H : Hp} {Q : List V → Hp → Prop} (h : tA K mg W aNil σ H Q) : tNil σ H Q := by
  obtain ⟨μ, σD, S, ok, en, h⟩ := h
  exact h μ H [] (Ext.refl _ _) ok .nil
theorem tA_cons {σ : L2.St} {H : Hp} {Q : List V → Hp → Prop} (h : tA K mg W (aCons f fa) σ H Q) : tCons (tE K mg W f) (tA K mg W fa) σ H Q :=
  tG2 (RA := R K) (RB := RL K) (fun _ _ _ _ _ _ x r => r.mono x) h fun x y S μ H v u ok rx ry h => h μ H _ (Ext.refl _ _) ok (.cons rx ry)
theorem a_nil : PA X [] (tA (X.kwp pq) X.mg W aNil) := PA.weak pa_nil fun _ _ _ => tA_nil
theorem a_cons (ha : PE X e (tE (X.kwp pq) X.mg W f)) (hr : PA X es (tA (X.kwp pq) X.mg W fa)) (hs : starEach (e :: es) X.env = (false, eval e X.env) :: starEach es X.env := by rfl) : PA X (e :: es) (tA (X.kwp pq) X.mg W (aCons f fa)) :=
  PA.weak (pa_cons ha hr hs) fun _ _ _ => tA_cons
theorem tE_arg {k : OA} {σ : L2.St} {H : Hp} {Q : VK} (h : tE K mg W (cArg k fa) σ H Q) : tA K mg W fa σ H fun vs H1 => rA K k vs H1 Q :=
  tG1 (RA := RL K) h fun x S μ H v ok rx h => ⟨μ, S, x, ok, rx, h.of⟩
/-- f(..), f a built-in function or type -/
theorem e_callB {x : Str} {id : String} {k : OA} {p : Pos} (hc : CallR X (.builtin id) (rA (X.kwp pq) k)) (hm : X.mg x = none) (hv : bootBuiltins x = some (.builtin id)) (ha : PA X (e :: es) (tA (X.kwp pq) X.mg W fa)) (hg : Gl X x := by rfl) (hn : x ≠ "__name__" := by decide) (hdb : (x == ("__debug__" : Str)) = false := by decide)
    (he : starEach (e :: es) X.env = (false, eval e X.env) :: starEach es X.env := by rfl) (hpl : (backTo pos (starEach es X.env)).any (·.1) = false := by rfl) : PE X (.Call (.Name x p) (e :: es) [] pos) (tE (X.kwp pq) X.mg W (cArg k fa)) :=
  PE.weak (pe_callB hc hg hm hv ha hn hdb he hpl) fun _ _ _ => tE_arg
theorem e_callTy {x : Str} {T : String} {k : OA} {p : Pos} (hc : CallR X (.type T) (rA (X.kwp pq) k)) (hm : X.mg x = none) (hv : bootBuiltins x = some (.type T)) (ha : PA X (e :: es) (tA (X.kwp pq) X.mg W fa)) (hg : Gl X x := by rfl) (hn : x ≠ "__name__" := by decide) (hdb : (x == ("__debug__" : Str)) = false := by decide)
    (he : starEach (e :: es) X.env = (false, eval e X.env) :: starEach es X.env := by rfl) (hpl : (backTo pos (starEach es X.env)).any (·.1) = false := by rfl) : PE X (.Call (.Name x p) (e :: es) [] pos) (tE (X.kwp pq) X.mg W (cArg k fa)) :=
  PE.weak (pe_callTy hc hg hm hv ha hn hdb he hpl) fun _ _ _ => tE_arg
/-- displays -/
def oTup : OA := fun xs S => if xs.length ≤ sizeLine then some (.tup xs, S) else none
def oLst : OA := fun xs S => if xs.length ≤ sizeLine then some (.loc S.length, S ++ [.lst xs]) else none
theorem e_tup {x1} (ha : PA X es (tA (X.kwp pq) X.mg W fa)) : PE X (.Tuple es x1 pos) (tE (X.kwp pq) X.mg W (cArg oTup fa)) := by
  refine PE.weak (pe_tup ha) fun σ H Q h => ?_
  refine tG1 (RA := RL (X.kwp pq)) h fun x S μ H v ok rx h => ?_
  have h := h.of
  unfold oTup at h
  split at h
  · rename_i hl
    have hl' : v.length ≤ sizeLine := by rw [← rx.length]; exact hl
    exact ⟨hl', h.tup ok hl' rx⟩
  · exact h.elim
theorem e_lst (ha : PA X es (tA (X.kwp pq) X.mg W fa)) : PE X (.List es pos) (tE (X.kwp pq) X.mg W (cArg oLst fa)) := by
  refine PE.weak (pe_lst ha) fun σ H Q h => ?_
  refine tG1 (RA := RL (X.kwp pq)) h fun x S μ H v ok rx h => ?_
  have h := h.of
  unfold oLst at h
  split at h
  · rename_i hl
    have hl' : v.length ≤ sizeLine := by rw [← rx.length]; exact hl
    exact ⟨hl', h.lst ok hl' rx⟩
  · exact h.elim
/-! ### tests -/
theorem dTru_ok {μ : List Addr} {H : Hp} {S : Store} {x : D} {v : V} {k : Bool} (ok : Ok K μ H S) (r : R K μ H x v) (h : dTru x S = some k) : TruV K v H k := by
  cases r with
  | non => cases h; rfl
  | bl b => cases h; rfl
  | int i => cases h; rfl
  | str y =>
    simp only [dTru] at h
    split at h
    · rename_i hl; cases h; exact ⟨hl, rfl⟩
    · cases h
  | @tup a vs xs hs l rr =>
    cases h
    refine .inr (.inl ⟨vs, hs, ?_⟩)
    cases rr <;> rfl
  | @rol a vs xs hs l rr =>
    cases h
    refine .inl ⟨vs, hs.sq, ?_⟩
    cases rr <;> rfl
  | @loc l a ha =>
    simp only [dTru] at h
    cases q : S[l]? with
    | none => rw [q] at h; cases h
    | some c =>
      rw [q] at h
      obtain ⟨a', h1, hc⟩ := ok.at q
      rw [ha] at h1; cases h1
      cases c with
      | dct _ => (first | exact hp.elim | exact h.elim | exact hh.elim | (cases h; done) | (cases hp; done) | (cases hh; done) | (rw [e1, e2] at hp; exact hp.elim) | (rw [e1] at hp; exact hp.elim) | (rw [q] at hp; exact hp.elim) | (rw [q] at h; cases h; done) | (rw [q] at hh; exact hh.elim) | (rw [q] at h; exact h.elim) | (rw [q2] at hh; exact hh.elim) | (rw [q2] at h; exact h.elim) | (rw [q2] at hp; exact hp.elim))
      | lst xs =>
        obtain ⟨vs, hv, _, rr⟩ := hc
        cases h
        refine .inl ⟨vs, .inl (.inl hv), ?_⟩
        cases rr <;> rfl
theorem t_tru (ha : PE X a (tE (X.kwp pq) X.mg W f)) (he : ∀ whole, isTrue a X.env whole = (do let v ← whole; standAt a.pos; holding [v] (truthy v)) := by intro _; rfl) : PT X a (tT (X.kwp pq) X.mg W (cTru f)) := by
  refine PT.weak (pt_truth ha he) fun σ H Q h => ?_
  refine tG1 (RA := R (X.kwp pq)) h fun x S μ H v ok rx h => ?_
  have h := h.of
  cases q : dTru x S with
  | none => rw [q] at h; exact h.elim
  | some b =>
    rw [q] at h
    exact ⟨b, dTru_ok ok rx q, h μ H b (Ext.refl _ _) ok rfl⟩
theorem tT_and {σ : L2.St} {H : Hp} {Q : Bool → Hp → Prop} (h : tT K mg W (cAnd t u) σ H Q) : tAnd (tT K mg W t) (tT K mg W u) σ H Q :=
  tG1e (k := fun σ b S1 => if b = true then u σ S1 else .ok false S1) (RA := RB) h fun σD x S μ H v ok en rx h => by
    cases rx
    cases x with
    | true => exact ⟨μ, σD, S, ok, en, h⟩
    | false => exact h μ H false (Ext.refl _ _) ok rfl
theorem tT_or {σ : L2.St} {H : Hp} {Q : Bool → Hp → Prop} (h : tT K mg W (cOr t u) σ H Q) : tOr (tT K mg W t) (tT K mg W u) σ H Q :=
  tG1e (k := fun σ b S1 => if b = true then .ok true S1 else u σ S1) (RA := RB) h fun σD x S μ H v ok en rx h => by
    cases rx
    cases x with
    | false => exact ⟨μ, σD, S, ok, en, h⟩
    | true => exact h μ H true (Ext.refl _ _) ok rfl
theorem PW.weak {X : Cx} {e : Expr} {t t' : TT} (h : PW X e t) (w : ∀ σ H Q, t' σ H Q → t σ H Q) : PW X e t' := ⟨fun wh pins s σ H Q I q => h.run wh pins s σ H Q I (w σ H Q q)⟩
theorem w_and1 (ha : PT X a (tT (X.kwp pq) X.mg W t)) : PW X (.BoolOp .And [a] pos) (tT (X.kwp pq) X.mg W t) := pw_and1 ha
theorem w_or1 (ha : PT X a (tT (X.kwp pq) X.mg W t)) : PW X (.BoolOp .Or [a] pos) (tT (X.kwp pq) X.mg W t) := pw_or1 ha
theorem w_and {rest : List Expr} (ha : PT X a (tT (X.kwp pq) X.mg W t)) (hb : PW X (.BoolOp .And (b :: rest) pos) (tT (X.kwp pq) X.mg W u)) : PW X (.BoolOp .And (a :: b :: rest) pos) (tT (X.kwp pq) X.mg W (cAnd t u)) := PW.weak (pw_and ha hb) fun _ _ _ => tT_and
theorem w_or {rest : List Expr} (ha : PT X a (tT (X.kwp pq) X.mg W t)) (hb : PW X (.BoolOp .Or (b :: rest) pos) (tT (X.kwp pq) X.mg W u)) : PW X (.BoolOp .Or (a :: b :: rest) pos) (tT (X.kwp pq) X.mg W (cOr t u)) := PW.weak (pw_or ha hb) fun _ _ _ => tT_or
theorem t_not (ha : PT X a (tT (X.kwp pq) X.mg W t)) : PT X (.UnaryOp .Not a pos) (tT (X.kwp pq) X.mg W (cNot t)) := PT.weak (pt_not ha) fun σ H Q h => tG1 (RA := RB) h fun x S μ H v ok rx h => by
  cases rx
  exact h μ H _ (Ext.refl _ _) ok rfl
theorem e_if (hc : PT X c (tT (X.kwp pq) X.mg W t)) (ha : PE X a (tE (X.kwp pq) X.mg W f)) (hb : PE X b (tE (X.kwp pq) X.mg W g)) : PE X (.IfExp c a b pos) (tE (X.kwp pq) X.mg W (cIf t f g)) := PE.weak (pe_ifExp hc ha hb) fun σ H Q h =>
  tG1e (k := fun σ b S1 => if b = true then f σ S1 else g σ S1) (RA := RB) h fun σD x S μ H v ok en rx h => by
    cases rx
    cases x with
    | false => exact ⟨μ, σD, S, ok, en, h⟩
    | true => exact ⟨μ, σD, S, ok, en, h⟩
theorem e_one {op} (h : PE X a (tE (X.kwp pq) X.mg W f)) : PE X (.BoolOp op [a] pos) (tE (X.kwp pq) X.mg W f) := pe_one h
theorem e_and {rest : List Expr} (ha : PE X a (tE (X.kwp pq) X.mg W f)) (hb : PE X (.BoolOp .And (b :: rest) pos) (tE (X.kwp pq) X.mg W g)) : PE X (.BoolOp .And (a :: b :: rest) pos) (tE (X.kwp pq) X.mg W (cAndV f g)) := PE.weak (pe_andT ha hb) fun σ H Q h =>
  tG1e (k := fun σ x S1 => match dTru x S1 with
    | some true => g σ S1
    | some false => .ok x S1
    | none => .no) (RA := R (X.kwp pq)) h fun σD x S μ H v ok en rx h => by
    cases q : dTru x S with
    | none => rw [q] at h; exact h.elim
    | some b =>
      rw [q] at h
      refine ⟨b, dTru_ok ok rx q, ?_⟩
      cases b with
      | true => exact ⟨μ, σD, S, ok, en, h⟩
      | false => exact h μ H v (Ext.refl _ _) ok rx
theorem e_or {rest : List Expr} (ha : PE X a (tE (X.kwp pq) X.mg W f)) (hb : PE X (.BoolOp .Or (b :: rest) pos) (tE (X.kwp pq) X.mg W g)) : PE X (.BoolOp .Or (a :: b :: rest) pos) (tE (X.kwp pq) X.mg W (cOrV f g)) := PE.weak (pe_orT ha hb) fun σ H Q h =>
  tG1e (k := fun σ x S1 => match dTru x S1 with
    | some true => .ok x S1
    | some false => g σ S1
    | none => .no) (RA := R (X.kwp pq)) h fun σD x S μ H v ok en rx h => by
    cases q : dTru x S with
    | none => rw [q] at h; exact h.elim
    | some b =>
      rw [q] at h
      refine ⟨b, dTru_ok ok rx q, ?_⟩
      cases b with
      | false => exact ⟨μ, σD, S, ok, en, h⟩
      | true => exact h μ H v (Ext.refl _ _) ok rx
theorem e_not (ha : PE X a (tE (X.kwp pq) X.mg W f)) : PE X (.UnaryOp .Not a pos) (tE (X.kwp pq) X.mg W (cNotV f)) := PE.weak (pe_notT ha) fun σ H Q h => tG1 (RA := R (X.kwp pq)) h fun x S μ H v ok rx h => by
  cases q : dTru x S with
  | none => rw [q] at h; exact h.elim
  | some b =>
    rw [q] at h
    exact ⟨b, dTru_ok ok rx q, h μ H _ (Ext.refl _ _) ok (.bl _)⟩
end
end DL

namespace DL
open PySem PySem.Spec PyProof.Rows L2

section
variable {X : Cx} {pq : Option Pin}
/-! ### ints -/
theorem o2_int {f : Value → Value → Sem Value} {C : Int → Int → Prop} [∀ i j, Decidable (C i j)] {gv : Int → Int → V} {gd : Int → Int → D} (h : OpR X f (rI C gv)) (hg : ∀ μ H i j, R (X.kwp pq) μ H (gd i j) (gv i j))
    {k : O2} (hk : ∀ x y S r, k x y S = some r → ∃ i j, x = .int i ∧ y = .int j ∧ C i j ∧ r = (gd i j, S)) : OpR X f (r2 (X.kwp pq) k) := by
  intro pins s σ H x y v u Q I rx ry hr
  obtain ⟨μ, S, a, b, ok, ra, rb, hp⟩ := hr
  cases q : k a b S with
  | none => rw [q] at hp; exact hp.elim
  | some r =>
    obtain ⟨i, j, rfl, rfl, c, rfl⟩ := hk a b S r q
    rw [q] at hp
    cases ra
    cases rb
    exact h pins s σ H _ _ v u Q I rx ry ⟨i, j, rfl, rfl, c, hp.same ok (hg _ _ _ _)⟩
def MulOk (i j : Int) : Prop := CMul i j ∨ CMulW i j
instance (i j : Int) : Decidable (MulOk i j) := by unfold MulOk CMul CMulW; infer_instance
def DivOk (j : Int) : Prop := (0 < j ∧ j < 1073741824) ∨ CDivW 0 j
instance (j : Int) : Decidable (DivOk j) := by unfold DivOk CDivW; infer_instance
def PowOk (i j : Int) : Prop := CPow i j
instance (i j : Int) : Decidable (PowOk i j) := by unfold PowOk CPow; infer_instance
def oSub : O2 := fun x y S => match x, y with
  | .int i, .int j => some (.int (i - j), S)
  | _, _ => none
def oMod : O2 := fun x y S => match x, y with
  | .int i, .int j => if 0 < j then some (.int (i % j), S) else none
  | _, _ => none
def oDiv : O2 := fun x y S => match x, y with
  | .int i, .int j => if DivOk j then some (.int (i / j), S) else none
  | _, _ => none
def oPow : O2 := fun x y S => match x, y with
  | .int i, .int j => if PowOk i j then some (.int (i ^ j.toNat), S) else none
  | _, _ => none
def oNeg : O1 := fun x S => match x with
  | .int i => some (.int (-i), S)
  | _ => none
theorem op_mul' {i j : Int} (h : MulOk i j) : IntMulOk i j := h.elim CMul.ok CMulW.ok
theorem two_ints {k : O2} {gd : Int → Int → D} {x y : D} {S : Store} {r : D × Store} {C : Int → Int → Prop} [∀ i j, Decidable (C i j)]
    (h : (match x, y with | .int i, .int j => if C i j then some (gd i j, S) else none | _, _ => none) = some r) : ∃ i j, x = .int i ∧ y = .int j ∧ C i j ∧ r = (gd i j, S) := by
  cases x with
  | int i =>
    cases y with
    | int j =>
      simp only at h
      split at h
      · rename_i hc
        cases h
        exact ⟨i, j, rfl, rfl, hc, rfl⟩
      · cases h
    | _ => simp at h
  | _ => simp at h
theorem d_sub : OpR X (binaryOp .Sub) (r2 (X.kwp pq) oSub) := o2_int (C := fun _ _ => True) (gv := fun i j => .int (i - j)) (gd := fun i j => .int (i - j)) (opI fun _ _ _ _ _ _ _ _ q => sub_int q) (fun _ _ _ _ => .int _) fun x y S r h => by
  cases x with
  | int i =>
    cases y with
    | int j => cases h; exact ⟨i, j, rfl, rfl, trivial, rfl⟩
    | _ => cases h
  | _ => cases h
theorem d_isub : OpR X (inplaceOp .Sub) (r2 (X.kwp pq) oSub) := o2_int (C := fun _ _ => True) (gv := fun i j => .int (i - j)) (gd := fun i j => .int (i - j)) (opI fun _ _ _ _ _ _ _ _ q => isub_int q) (fun _ _ _ _ => .int _) fun x y S r h => by
  cases x with
  | int i =>
    cases y with
    | int j => cases h; exact ⟨i, j, rfl, rfl, trivial, rfl⟩
    | _ => cases h
  | _ => cases h
theorem d_mod : OpR X (binaryOp .Mod) (r2 (X.kwp pq) oMod) := o2_int (C := fun _ j => 0 < j) (gd := fun i j => .int (i % j)) op_mod (fun _ _ _ _ => .int _) fun x y S r h => two_ints (k := oMod) (gd := fun i j => .int (i % j)) (C := fun _ j => 0 < j) h
theorem d_pow : OpR X (binaryOp .Pow) (r2 (X.kwp pq) oPow) := o2_int (C := PowOk) (gd := fun i j => .int (i ^ j.toNat)) op_pow (fun _ _ _ _ => .int _) fun x y S r h => two_ints (k := oPow) (gd := fun i j => .int (i ^ j.toNat)) (C := PowOk) h
theorem op_div : OpR X (binaryOp .FloorDiv) (rI (fun _ j => DivOk j) fun i j => .int (i / j)) := by
  intro pins s σ H x y v u Q I rx ry h
  obtain ⟨i, j, rfl, rfl, c, q⟩ := h
  rcases c with c | c
  · exact op_fdiv pins s σ H _ _ v u Q I rx ry ⟨i, j, rfl, rfl, c, q⟩
  · exact op_fdivW pins s σ H _ _ v u Q I rx ry ⟨i, j, rfl, rfl, c, q⟩
theorem iop_div : OpR X (inplaceOp .FloorDiv) (rI (fun _ j => 0 < j ∧ j < 1073741824) fun i j => .int (i / j)) := iop_fdiv
theorem d_div : OpR X (binaryOp .FloorDiv) (r2 (X.kwp pq) oDiv) := o2_int (C := fun _ j => DivOk j) (gd := fun i j => .int (i / j)) op_div (fun _ _ _ _ => .int _) fun x y S r h => two_ints (k := oDiv) (gd := fun i j => .int (i / j)) (C := fun _ j => DivOk j) h
theorem d_neg : UnR X (unaryOp .USub) (r1 (X.kwp pq) oNeg) := by
  intro pins s σ H x v Q I rx hr
  obtain ⟨μ, S, a, ok, ra, hp⟩ := hr
  cases ra with
  | int i => exact un_neg pins s σ H _ v Q I rx ⟨i, rfl, hp.same ok (.int _)⟩
  | _ => exact hp.elim
/-! ### + and * of several kinds -/
def catL (S : Store) (xs ys : List D) : Option (D × Store) := if xs.length + ys.length ≤ sizeLine then some (.loc S.length, S ++ [.lst (xs ++ ys)]) else none
def oAdd : O2 := fun x y S => match x, y with
  | .int i, .int j => some (.int (i + j), S)
  | .str a, .str b => if a.length + b.length ≤ sizeLine then some (.str (a ++ b), S) else none
  | .tup xs, .tup ys => if xs.length + ys.length ≤ sizeLine then some (.tup (xs ++ ys), S) else none
  | .loc l, .loc m => match S[l]?, S[m]? with
    | some (.lst xs), some (.lst ys) => catL S xs ys
    | _, _ => none
  | _, _ => none
theorem RL.nil_iff {K : KW} {μ : List Addr} {H : Hp} {xs : List D} {vs : List V} (r : RL K μ H xs vs) : xs = [] ↔ vs = [] := by
  cases r with
  | nil => simp
  | cons _ _ => simp
theorem d_add : OpR X (binaryOp .Add) (r2 (X.kwp pq) oAdd) := by
  intro pins s σ H x y v u Q I rx ry hr
  obtain ⟨μ, S, a, b, ok, ra, rb, hp⟩ := hr
  cases ra with
  | int i =>
    cases rb with
    | int j => exact op_add pins s σ H _ _ v u Q I rx ry ⟨i, j, rfl, rfl, hp.same ok (.int _)⟩
    | _ => exact hp.elim
  | str i =>
    cases rb with
    | str j =>
      simp only [oAdd] at hp
      split at hp
      · rename_i hl
        exact op_add_str pins s σ H _ _ v u Q I rx ry ⟨i, j, rfl, rfl, hl, hp.same ok (.str _)⟩
      · exact hp.elim
    | _ => exact hp.elim
  | @tup p vs xs hs hl rr =>
    cases rb with
    | @tup q ws ys hs' hl' rr' =>
      simp only [oAdd] at hp
      split at hp
      · rename_i hz
        rw [rr.length, rr'.length] at hz
        refine op_catA pins s σ H _ _ v u Q I rx ry ⟨p, q, vs, ws, rfl, rfl, hs, hs', hz, fun e => ?_, fun _ e => ?_, fun _ _ => hp.tup ok (by rw [List.length_append]; exact hz) (rr.append rr')⟩
        · subst e
          have e2 := rr.nil_iff.mpr rfl
          subst e2
          exact hp.same ok (.tup hs' hl' rr')
        · subst e
          have e2 := rr'.nil_iff.mpr rfl
          subst e2
          rw [List.append_nil] at hp
          exact hp.same ok (.tup hs hl rr)
      · exact hp.elim
    | _ => exact hp.elim
  | @loc l p hp1 =>
    cases rb with
    | @loc m q hq1 =>
      simp only [oAdd] at hp
      cases e1 : S[l]? with
      | none => rw [e1] at hp; exact hp.elim
      | some c1 =>
        cases e2 : S[m]? with
        | none => rw [e1, e2] at hp; cases c1 <;> exact hp.elim
        | some c2 =>
          obtain ⟨p', h1, hc1⟩ := ok.at e1
          obtain ⟨q', h2, hc2⟩ := ok.at e2
          rw [hp1] at h1; cases h1
          rw [hq1] at h2; cases h2
          cases c1 with
          | dct _ => (first | exact hp.elim | exact h.elim | exact hh.elim | (cases h; done) | (cases hp; done) | (cases hh; done) | (rw [e1, e2] at hp; exact hp.elim) | (rw [e1] at hp; exact hp.elim) | (rw [q] at hp; exact hp.elim) | (rw [q] at h; cases h; done) | (rw [q] at hh; exact hh.elim) | (rw [q] at h; exact h.elim) | (rw [q2] at hh; exact hh.elim) | (rw [q2] at h; exact h.elim) | (rw [q2] at hp; exact hp.elim))
          | lst xs =>
            cases c2 with
            | dct _ => (first | exact hp.elim | exact h.elim | exact hh.elim | (cases h; done) | (cases hp; done) | (cases hh; done) | (rw [e1, e2] at hp; exact hp.elim) | (rw [e1] at hp; exact hp.elim) | (rw [q] at hp; exact hp.elim) | (rw [q] at h; cases h; done) | (rw [q] at hh; exact hh.elim) | (rw [q] at h; exact h.elim) | (rw [q2] at hh; exact hh.elim) | (rw [q2] at h; exact h.elim) | (rw [q2] at hp; exact hp.elim))
            | lst ys =>
              obtain ⟨vs, hv, lv, rv⟩ := hc1
              obtain ⟨ws, hw, lw, rw'⟩ := hc2
              rw [e1, e2] at hp
              simp only [catL] at hp
              split at hp
              · rename_i hz
                rw [rv.length, rw'.length] at hz
                exact op_cat pins s σ H _ _ v u Q I rx ry ⟨p, q, vs, ws, rfl, rfl, hv, hw, hz, hp.lst ok (by rw [List.length_append]; exact hz) (rv.append rw')⟩
              · exact hp.elim
    | _ => exact hp.elim
  | _ => exact hp.elim
/-- += of ints and texts -/
def oIAdd : O2 := fun x y S => match x, y with
  | .int i, .int j => some (.int (i + j), S)
  | .str a, .str b => if a.length + b.length ≤ sizeLine then some (.str (a ++ b), S) else none
  | _, _ => none
theorem d_iadd : OpR X (inplaceOp .Add) (r2 (X.kwp pq) oIAdd) := by
  intro pins s σ H x y v u Q I rx ry hr
  obtain ⟨μ, S, a, b, ok, ra, rb, hp⟩ := hr
  cases ra with
  | int i =>
    cases rb with
    | int j => exact iop_add pins s σ H _ _ v u Q I rx ry ⟨i, j, rfl, rfl, hp.same ok (.int _)⟩
    | _ => exact hp.elim
  | str i =>
    cases rb with
    | str j =>
      simp only [oIAdd] at hp
      split at hp
      · rename_i hl
        exact iop_add_str pins s σ H _ _ v u Q I rx ry ⟨i, j, rfl, rfl, hl, hp.same ok (.str _)⟩
      · exact hp.elim
    | _ => exact hp.elim
  | _ => exact hp.elim
/-- ints, a list by a number -/
def oMul : O2 := fun x y S => match x, y with
  | .int i, .int j => if MulOk i j then some (.int (i * j), S) else none
  | .loc l, .int k => match S[l]? with
    | some (.lst xs) => if -(2 ^ 63) ≤ k ∧ k < 2 ^ 63 ∧ xs.length * k.toNat ≤ sizeLine then some (.loc S.length, S ++ [.lst (List.replicate k.toNat xs).flatten]) else none
    | _ => none
  | _, _ => none
theorem RL.rep {K : KW} {μ : List Addr} {H : Hp} {xs : List D} {vs : List V} (r : RL K μ H xs vs) : ∀ k : Nat, RL K μ H (List.replicate k xs).flatten (List.replicate k vs).flatten
  | 0 => .nil
  | k + 1 => by
    rw [List.replicate_succ, List.replicate_succ, List.flatten_cons, List.flatten_cons]
    exact r.append (RL.rep r k)
theorem d_mul : OpR X (binaryOp .Mult) (r2 (X.kwp pq) oMul) := by
  intro pins s σ H x y v u Q I rx ry hr
  obtain ⟨μ, S, a, b, ok, ra, rb, hp⟩ := hr
  cases ra with
  | int i =>
    cases rb with
    | int j =>
      simp only [oMul] at hp
      split at hp
      · rename_i hm
        rcases hm with hm | hm
        · exact op_mul pins s σ H _ _ v u Q I rx ry ⟨i, j, rfl, rfl, hm, hp.same ok (.int _)⟩
        · exact op_mulW pins s σ H _ _ v u Q I rx ry ⟨i, j, rfl, rfl, hm, hp.same ok (.int _)⟩
      · exact hp.elim
    | _ => exact hp.elim
  | @loc l p hp1 =>
    cases rb with
    | int k =>
      simp only [oMul] at hp
      cases e1 : S[l]? with
      | none => rw [e1] at hp; exact hp.elim
      | some c1 =>
        obtain ⟨p', h1, hc1⟩ := ok.at e1
        rw [hp1] at h1; cases h1
        cases c1 with
        | dct _ => (first | exact hp.elim | exact h.elim | exact hh.elim | (cases h; done) | (cases hp; done) | (cases hh; done) | (rw [e1, e2] at hp; exact hp.elim) | (rw [e1] at hp; exact hp.elim) | (rw [q] at hp; exact hp.elim) | (rw [q] at h; cases h; done) | (rw [q] at hh; exact hh.elim) | (rw [q] at h; exact h.elim) | (rw [q2] at hh; exact hh.elim) | (rw [q2] at h; exact h.elim) | (rw [q2] at hp; exact hp.elim))
        | lst xs =>
          obtain ⟨vs, hv, lv, rv⟩ := hc1
          rw [e1] at hp
          simp only at hp
          split at hp
          · rename_i hz
            obtain ⟨z1, z2, z3⟩ := hz
            rw [rv.length] at z3
            refine op_rep pins s σ H _ _ v u Q I rx ry ⟨p, k, vs, rfl, rfl, hv, z1, z2, z3, hp.lst ok ?_ (rv.rep _)⟩
            rw [List.length_flatten, List.map_replicate, List.sum_replicate_nat, Nat.mul_comm]
            exact z3
          · exact hp.elim
    | _ => exact hp.elim
  | _ => exact hp.elim
end
end DL

namespace DL
open PySem PySem.Spec PyProof.Rows L2

/-! ### data, compared -/
mutual
def D.py : D → PyData
  | .non => .none
  | .bl b => .bool b
  | .int i => .int i
  | .str x => .str x
  | .tup xs => .tuple (D.pys xs)
  | .rol xs => .list (D.pys xs)
  | .loc _ => .none
def D.pys : List D → List PyData
  | [] => []
  | x :: xs => x.py :: D.pys xs
end
mutual
/-- no list of the store in it, the texts in order -/
def D.fits : D → Bool
  | .str x => PyData.strOk x
  | .tup xs => D.fitsL xs
  | .rol xs => D.fitsL xs
  | .loc _ => false
  | _ => true
def D.fitsL : List D → Bool
  | [] => true
  | x :: xs => x.fits && D.fitsL xs
end
mutual
def D.dep : D → Nat
  | .tup xs => D.depL xs + 1
  | .rol xs => D.depL xs + 1
  | _ => 0
def D.depL : List D → Nat
  | [] => 0
  | x :: xs => max x.dep (D.depL xs)
end
mutual
def D.eqv : D → D → Bool
  | .non, .non => true
  | .bl a, .bl b => a == b
  | .bl a, .int j => decide ((if a then 1 else 0) = j)
  | .int i, .bl b => decide (i = (if b then 1 else 0))
  | .int i, .int j => decide (i = j)
  | .str x, .str y => decide (x = y)
  | .tup xs, .tup ys => D.eqvL xs ys
  | .rol xs, .rol ys => D.eqvL xs ys
  | _, _ => false
def D.eqvL : List D → List D → Bool
  | [], [] => true
  | x :: xs, y :: ys => D.eqv x y && D.eqvL xs ys
  | _, _ => false
end
mutual
def D.lt : D → D → Bool
  | .bl a, .bl b => decide (PyProof.Rows.b2i a < PyProof.Rows.b2i b)
  | .int i, .int j => decide (i < j)
  | .str x, .str y => decide (x.cps.toList < y.cps.toList)
  | .tup xs, .tup ys => D.ltL xs ys
  | _, _ => false
def D.ltL : List D → List D → Bool
  | [], [] => false
  | [], _ :: _ => true
  | _ :: _, [] => false
  | x :: xs, y :: ys => if D.eqv x y = true then D.ltL xs ys else D.lt x y
end
mutual
def D.le : D → D → Bool
  | .int i, .int j => decide (i ≤ j)
  | .str x, .str y => !decide (y.cps.toList < x.cps.toList)
  | .tup xs, .tup ys => D.leL xs ys
  | _, _ => false
def D.leL : List D → List D → Bool
  | [], _ => true
  | _ :: _, [] => false
  | x :: xs, y :: ys => if D.eqv x y = true then D.leL xs ys else D.le x y
end
mutual
/-- ints, texts, tuples of these, place by place -/
def D.alike : D → D → Bool
  | .non, .non => true
  | .int _, .int _ => true
  | .str _, .str _ => true
  | .tup xs, .tup ys => D.alikeL xs ys
  | _, _ => false
def D.alikeL : List D → List D → Bool
  | x :: xs, y :: ys => D.alike x y && D.alikeL xs ys
  | [], _ => true
  | _ :: _, [] => true
end
theorem D.pys_map : ∀ xs : List D, D.pys xs = xs.map D.py
  | [] => rfl
  | x :: xs => by rw [D.pys, D.pys_map xs]; rfl
mutual
theorem D.canLay : ∀ x : D, x.fits = true → x.py.canLay0 = true
  | .non, _ => by simp only [D.py, PyData.canLay0]
  | .bl _, _ => by simp only [D.py, PyData.canLay0]
  | .int _, _ => by simp only [D.py, PyData.canLay0]
  | .str x, h => by
    simp only [D.py, PyData.canLay0]
    simpa [D.fits] using h
  | .tup xs, h => by
    simp only [D.py, PyData.canLay0]
    exact D.canLayL xs (by simpa [D.fits] using h)
  | .rol xs, h => by
    simp only [D.py, PyData.canLay0]
    exact D.canLayL xs (by simpa [D.fits] using h)
  | .loc _, h => by simp [D.fits] at h
theorem D.canLayL : ∀ xs : List D, D.fitsL xs = true → PyData.canLayAll0 (D.pys xs) = true
  | [], _ => by simp only [D.pys, PyData.canLayAll0]
  | x :: xs, h => by
    simp only [D.fitsL, Bool.and_eq_true] at h
    simp only [D.pys, PyData.canLayAll0, D.canLay x h.1, D.canLayL xs h.2, Bool.and_self]
end
mutual
theorem D.depth : ∀ x : D, x.fits = true → x.py.depth = x.dep
  | .non, _ => by simp only [D.py, D.dep, PyData.depth]
  | .bl _, _ => by simp only [D.py, D.dep, PyData.depth]
  | .int _, _ => by simp only [D.py, D.dep, PyData.depth]
  | .str x, h => by simp only [D.py, D.dep, PyData.depth]
  | .tup xs, h => by
    simp only [D.py, D.dep, PyData.depth]
    rw [D.depthL xs (by simpa [D.fits] using h)]
  | .rol xs, h => by
    simp only [D.py, D.dep, PyData.depth]
    rw [D.depthL xs (by simpa [D.fits] using h)]
  | .loc _, h => by simp [D.fits] at h
theorem D.depthL : ∀ xs : List D, D.fitsL xs = true → PyData.depthAll (D.pys xs) = D.depL xs
  | [], _ => by simp only [D.pys, D.depL, PyData.depthAll]
  | x :: xs, h => by
    simp only [D.fitsL, Bool.and_eq_true] at h
    simp only [D.pys, D.depL, PyData.depthAll, D.depth x h.1, D.depthL xs h.2]
end
theorem str_beq (x y : Str) : (x == y) = decide (x = y) := by
  by_cases h : x = y
  · subst h; simp
  · rw [decide_eq_false h]; exact beq_eq_false_iff_ne.mpr h
mutual
theorem D.eqv_py : ∀ x y : D, x.fits = true → y.fits = true → PyData.eqv x.py y.py = D.eqv x y
  | .non, y, _, hy => by cases y <;> simp_all [D.py, D.eqv, PyData.eqv, D.fits]
  | .bl _, y, _, hy => by
    cases y <;> simp_all [D.py, D.eqv, PyData.eqv, D.fits]
    exact Bool.beq_eq_decide_eq _ _
  | .int _, y, _, hy => by
    cases y <;> simp_all [D.py, D.eqv, PyData.eqv, D.fits]
    all_goals exact Bool.beq_eq_decide_eq _ _
  | .str x, y, _, hy => by
    cases y <;> simp_all [D.py, D.eqv, PyData.eqv, D.fits, str_beq]
  | .tup xs, y, hx, hy => by
    cases y with
    | tup ys =>
      simp only [D.py, D.eqv, PyData.eqv]
      exact D.eqvL_py xs ys (by simpa [D.fits] using hx) (by simpa [D.fits] using hy)
    | _ => simp_all [D.py, D.eqv, PyData.eqv, D.fits]
  | .rol xs, y, hx, hy => by
    cases y with
    | rol ys =>
      simp only [D.py, D.eqv, PyData.eqv]
      exact D.eqvL_py xs ys (by simpa [D.fits] using hx) (by simpa [D.fits] using hy)
    | _ => simp_all [D.py, D.eqv, PyData.eqv, D.fits]
  | .loc _, _, h, _ => by simp [D.fits] at h
theorem D.eqvL_py : ∀ xs ys : List D, D.fitsL xs = true → D.fitsL ys = true → PyData.eqvAll (D.pys xs) (D.pys ys) = D.eqvL xs ys
  | [], [], _, _ => by simp only [D.pys, D.eqvL, PyData.eqvAll]
  | [], _ :: _, _, _ => by simp only [D.pys, D.eqvL, PyData.eqvAll]
  | _ :: _, [], _, _ => by simp only [D.pys, D.eqvL, PyData.eqvAll]
  | x :: xs, y :: ys, h, h' => by
    simp only [D.fitsL, Bool.and_eq_true] at h h'
    simp only [D.pys, D.eqvL, PyData.eqvAll, D.eqv_py x y h.1 h'.1, D.eqvL_py xs ys h.2 h'.2]
end
section
variable {K : KW} {μ : List Addr} {H : Hp}
mutual
theorem R.dp : ∀ {x : D} {v : V}, R K μ H x v → x.fits = true → Dp K H v x.py
  | _, _, .non, _ => .non
  | _, _, .bl b, _ => .bl b
  | _, _, .int i, _ => .int i
  | _, _, .str x, _ => .str x
  | _, _, .tup h l r, f => by
    rw [D.py]
    exact .tup h (RL.dp r (by simpa [D.fits] using f))
  | _, _, .rol h l r, f => by
    rw [D.py]
    exact .lst h.sq (RL.dp r (by simpa [D.fits] using f))
  | _, _, .loc h, f => by simp [D.fits] at f
theorem RL.dp : ∀ {xs : List D} {vs : List V}, RL K μ H xs vs → D.fitsL xs = true → DpAll K H vs (D.pys xs)
  | _, _, .nil, _ => by rw [D.pys]; exact .nil
  | _, _, .cons r t, f => by
    simp only [D.fitsL, Bool.and_eq_true] at f
    rw [D.pys]
    exact .cons (R.dp r f.1) (RL.dp t f.2)
end
end
theorem D.fits_shaped {x : D} (f : x.fits = true) (d : x.dep ≤ 64) : SeqAt.shaped x.py = true := by
  unfold SeqAt.shaped
  rw [D.canLay x f, D.depth x f, decide_eq_true d]; rfl
section
variable {X : Cx} {pq : Option Pin} {pins : List (Addr × Obj)} {σ : L2.St} {H : Hp} {s : Shared} {μ : List Addr}
theorem R.reads (I : Inv X pins σ H s) {x : D} {v : V} {u : Value} (r : R (X.kwp pq) μ H x v) (f : x.fits = true) (rv : RelV v u) : ∃ as, Reads s.heap u x.py as := Dp.reads I x.py v u (r.dp f) rv
theorem eqAtD {A : Around} {s : Shared} {x y : D} {u w : Value} {as bs : List Addr} (rx : Reads s.heap u x.py as) (ry : Reads s.heap w y.py bs) (fx : x.fits = true) (fy : y.fits = true) (hu : A.units + min x.dep y.dep < cLine) : SeqAt.EqAt A s u w (D.eqv x y) := by
  rw [← D.eqv_py x y fx fy]
  exact SeqAt.eqAt_reads _ _ A s u w as bs rx ry (D.canLay x fx) (D.canLay y fy) (by rw [D.depth x fx, D.depth y fy]; exact hu)
end
/-- == of data -/
def okEq (x y : D) : Prop := x.fits = true ∧ y.fits = true ∧ min x.dep y.dep ≤ 64
instance (x y : D) : Decidable (okEq x y) := by unfold okEq; infer_instance
def oEq : O2 := fun x y S => match x, y with
  | .int i, .int j => some (.bl (decide (i = j)), S)
  | .str i, .str j => some (.bl (decide (i = j)), S)
  | x, y => if okEq x y then some (.bl (D.eqv x y), S) else none
def oNe : O2 := fun x y S => match x, y with
  | .int i, .int j => some (.bl (!decide (i = j)), S)
  | .str i, .str j => some (.bl (!decide (i = j)), S)
  | x, y => if okEq x y then some (.bl (!D.eqv x y), S) else none
theorem dec_int' {i j : Int} : decide (V.int i = V.int j) = decide (i = j) := by
  by_cases h : i = j
  · subst h; simp
  · rw [decide_eq_false h, decide_eq_false (fun e => h (V.int.inj e))]
theorem dec_str' {i j : Str} : decide (V.str i = V.str j) = decide (i = j) := by
  by_cases h : i = j
  · subst h; simp
  · rw [decide_eq_false h, decide_eq_false (fun e => h (V.str.inj e))]
section
variable {X : Cx} {pq : Option Pin}
theorem d_eq (hu : X.A.units + 64 < cLine) : OpR X (compareOp .Eq) (r2 (X.kwp pq) oEq) := by
  intro pins s σ H x y v u Q I rx ry hr
  obtain ⟨μ, S, a, b, ok, ra, rb, hp⟩ := hr
  have gen : okEq a b → PV (X.kwp pq) (R (X.kwp pq)) μ H (some (.bl (D.eqv a b), S)) Q → wpAny (model X.prog X.w) X.A (compareOp .Eq v u) (EP X pins σ Q) X.xe s := fun ho hp => by
    obtain ⟨fa, fb, hd⟩ := ho
    obtain ⟨as, r1⟩ := ra.reads I fa rx
    obtain ⟨bs, r2⟩ := rb.reads I fb ry
    refine SeqAt.compareEq_reads r1 r2 (D.canLay a fa) (D.canLay b fb) (by rw [D.depth a fa, D.depth b fb]; omega) ⟨.bl _, H, I, rfl, ?_⟩
    rw [D.eqv_py a b fa fb]
    exact hp.same ok (.bl _)
  unfold oEq at hp
  split at hp
  · cases ra
    cases rb
    exact op_eq pins s σ H _ _ v u Q I rx ry ⟨rfl, by rw [dec_int']; exact hp.same ok (.bl _)⟩
  · cases ra
    cases rb
    exact op_eq pins s σ H _ _ v u Q I rx ry ⟨rfl, by rw [dec_str']; exact hp.same ok (.bl _)⟩
  · split at hp
    · rename_i ho
      exact gen ho hp
    · exact hp.elim
theorem d_ne (hu : X.A.units + 64 < cLine) : OpR X (compareOp .NotEq) (r2 (X.kwp pq) oNe) := by
  intro pins s σ H x y v u Q I rx ry hr
  obtain ⟨μ, S, a, b, ok, ra, rb, hp⟩ := hr
  have gen : okEq a b → PV (X.kwp pq) (R (X.kwp pq)) μ H (some (.bl (!D.eqv a b), S)) Q → wpAny (model X.prog X.w) X.A (compareOp .NotEq v u) (EP X pins σ Q) X.xe s := fun ho hp => by
    obtain ⟨fa, fb, hd⟩ := ho
    obtain ⟨as, r1⟩ := ra.reads I fa rx
    obtain ⟨bs, r2⟩ := rb.reads I fb ry
    refine SeqAt.compareNe_reads r1 r2 (D.canLay a fa) (D.canLay b fb) (by rw [D.depth a fa, D.depth b fb]; omega) ⟨.bl _, H, I, rfl, ?_⟩
    rw [D.eqv_py a b fa fb]
    exact hp.same ok (.bl _)
  unfold oNe at hp
  split at hp
  · cases ra
    cases rb
    exact op_ne pins s σ H _ _ v u Q I rx ry ⟨rfl, by rw [dec_int']; exact hp.same ok (.bl _)⟩
  · cases ra
    cases rb
    exact op_ne pins s σ H _ _ v u Q I rx ry ⟨rfl, by rw [dec_str']; exact hp.same ok (.bl _)⟩
  · split at hp
    · rename_i ho
      exact gen ho hp
    · exact hp.elim
end
/-! ### the order -/
theorem readsAll_get {h : Heap} : ∀ {us : List Value} {ds : List PyData} {as : List Addr} {j : Nat} {u : Value} {d : PyData}, ReadsAll h us ds as → us[j]? = some u → ds[j]? = some d → ∃ bs, Reads h u d bs
  | _, _, _, _, _, _, .nil, e, _ => by simp at e
  | _, _, _, 0, _, _, .cons r _, e, e' => by
    simp at e e'
    subst e e'
    exact ⟨_, r⟩
  | _, _, _, j + 1, _, _, .cons _ t, e, e' => readsAll_get (j := j) t (by simpa using e) (by simpa using e')
theorem depL_get : ∀ {xs : List D} {j : Nat} {x : D}, xs[j]? = some x → x.dep ≤ D.depL xs
  | [], _, _, e => by simp at e
  | y :: xs, 0, x, e => by
    simp at e
    subst e
    rw [D.depL]
    exact Nat.le_max_left _ _
  | y :: xs, j + 1, x, e => by
    rw [D.depL]
    exact Nat.le_trans (depL_get (j := j) (by simpa using e)) (Nat.le_max_right _ _)
theorem fitsL_get : ∀ {xs : List D} {j : Nat} {x : D}, D.fitsL xs = true → xs[j]? = some x → x.fits = true
  | [], _, _, _, e => by simp at e
  | y :: xs, 0, x, f, e => by
    simp at e
    subst e
    rw [D.fitsL, Bool.and_eq_true] at f
    exact f.1
  | y :: xs, j + 1, x, f, e => by
    rw [D.fitsL, Bool.and_eq_true] at f
    exact fitsL_get (j := j) f.2 (by simpa using e)
def lexO (f : D → D → Bool) (z : Nat → Nat → Bool) : List D → List D → Bool
  | [], ys => z 0 ys.length
  | x :: xs, [] => z (xs.length + 1) 0
  | x :: xs, y :: ys => if D.eqv x y = true then lexO f z xs ys else f x y
theorem lexAt_O {f : D → D → Bool} {z : Nat → Nat → Bool} (hz : ∀ a b, z (a + 1) (b + 1) = z a b) (e r : Nat → Bool) : ∀ (xs ys : List D) (i : Nat),
    (∀ (j : Nat) (x y : D), xs[j]? = some x → ys[j]? = some y → e (i + j) = D.eqv x y ∧ r (i + j) = f x y) →
    Ob.lexAt e r (z xs.length ys.length) i (min xs.length ys.length) = lexO f z xs ys
  | [], ys, i, h => by
    rw [List.length_nil, Nat.zero_min]
    rfl
  | x :: xs, [], i, h => by
    rw [List.length_nil, Nat.min_zero]
    rfl
  | x :: xs, y :: ys, i, h => by
    have h0 := h 0 x y rfl rfl
    rw [Nat.add_zero] at h0
    rw [lexO]
    rw [List.length_cons, List.length_cons, show min (xs.length + 1) (ys.length + 1) = min xs.length ys.length + 1 by omega, Ob.lexAt_succ, h0.1]
    by_cases q : D.eqv x y = true
    · rw [if_pos q, if_pos q, hz]
      exact lexAt_O hz e r xs ys (i + 1) fun j x' y' hx hy => by
        have := h (j + 1) x' y' (by simpa using hx) (by simpa using hy)
        rw [show i + (j + 1) = i + 1 + j by omega] at this
        exact this
    · rw [if_neg q, if_neg q]
      exact h0.2
theorem ltL_O : ∀ xs ys : List D, D.ltL xs ys = lexO D.lt (fun a b => decide (a < b)) xs ys
  | [], [] => by rw [D.ltL, lexO]; rfl
  | [], y :: ys => by rw [D.ltL, lexO, List.length_cons]; simp
  | x :: xs, [] => by rw [D.ltL, lexO]; rfl
  | x :: xs, y :: ys => by rw [D.ltL, lexO, ltL_O xs ys]
theorem leL_O : ∀ xs ys : List D, D.leL xs ys = lexO D.le (fun a b => decide (a ≤ b)) xs ys
  | [], ys => by rw [D.leL, lexO]; simp
  | x :: xs, [] => by rw [D.leL, lexO]; simp
  | x :: xs, y :: ys => by rw [D.leL, lexO, leL_O xs ys]
theorem alikeL_get : ∀ {xs ys : List D} {j : Nat} {x y : D}, D.alikeL xs ys = true → xs[j]? = some x → ys[j]? = some y → D.alike x y = true
  | [], _, _, _, _, _, e, _ => by simp at e
  | _ :: _, [], _, _, _, _, _, e => by simp at e
  | a :: xs, b :: ys, 0, x, y, f, e, e' => by
    simp at e e'
    subst e e'
    rw [D.alikeL, Bool.and_eq_true] at f
    exact f.1
  | a :: xs, b :: ys, j + 1, x, y, f, e, e' => by
    rw [D.alikeL, Bool.and_eq_true] at f
    exact alikeL_get (j := j) f.2 (by simpa using e) (by simpa using e')
theorem tupRc {op : CmpOp} {A : Around} {s : Shared} {f : D → D → Bool} {z : Nat → Nat → Bool} (hz : ∀ a b, z (a + 1) (b + 1) = z a b) {xs ys : List D} {a b : Addr} {vs ws : Array Value} {as bs : List Addr}
    (rule : ∀ (e r : Nat → Bool), (∀ j (h1 : j < vs.size) (h2 : j < ws.size), SeqAt.EqAt A.in1 s vs[j] ws[j] (e j)) → (∀ j (h1 : j < vs.size) (h2 : j < ws.size), e j = false → Ob.RcOp op A.in1 s vs[j] ws[j] (r j)) →
      Ob.RcOp op A s (.ref a) (.ref b) (Ob.lexAt e r (z vs.size ws.size) 0 (min vs.size ws.size)))
    (r1 : ReadsAll s.heap vs.toList (D.pys xs) as) (r2 : ReadsAll s.heap ws.toList (D.pys ys) bs) (f1 : D.fitsL xs = true) (f2 : D.fitsL ys = true) (hu : A.in1.units + min (D.depL xs) (D.depL ys) < cLine)
    (ih : ∀ (j : Nat) (x y : D) (u w : Value) (as bs : List Addr), xs[j]? = some x → ys[j]? = some y → Reads s.heap u x.py as → Reads s.heap w y.py bs → D.eqv x y = false → Ob.RcOp op A.in1 s u w (f x y)) :
    Ob.RcOp op A s (.ref a) (.ref b) (lexO f z xs ys) := by
  have n1 : vs.size = xs.length := by
    have := SeqAt.ReadsAll.length _ _ _ r1
    rw [D.pys_map, List.length_map] at this
    simpa using this
  have n2 : ws.size = ys.length := by
    have := SeqAt.ReadsAll.length _ _ _ r2
    rw [D.pys_map, List.length_map] at this
    simpa using this
  have key : ∀ j (h1 : j < vs.size) (h2 : j < ws.size), ∃ x y as bs, xs[j]? = some x ∧ ys[j]? = some y ∧ Reads s.heap vs[j] x.py as ∧ Reads s.heap ws[j] y.py bs := fun j h1 h2 => by
    have g1 : xs[j]? = some (xs[j]'(by omega)) := List.getElem?_eq_getElem (by omega)
    have g2 : ys[j]? = some (ys[j]'(by omega)) := List.getElem?_eq_getElem (by omega)
    obtain ⟨as', q1⟩ := readsAll_get r1 (j := j) (u := vs[j]) (by simp [h1]) (by rw [D.pys_map, List.getElem?_map, g1]; rfl)
    obtain ⟨bs', q2⟩ := readsAll_get r2 (j := j) (u := ws[j]) (by simp [h2]) (by rw [D.pys_map, List.getElem?_map, g2]; rfl)
    exact ⟨_, _, as', bs', g1, g2, q1, q2⟩
  have q := rule (fun j => D.eqv (xs.getD j .non) (ys.getD j .non)) (fun j => f (xs.getD j .non) (ys.getD j .non)) (fun j h1 h2 => ?_) (fun j h1 h2 he => ?_)
  · rw [n1, n2, lexAt_O hz _ _ xs ys 0 fun j x y hx hy => ?_] at q
    · exact q
    · rw [Nat.zero_add, List.getD_eq_getElem?_getD, List.getD_eq_getElem?_getD, hx, hy]
      exact ⟨rfl, rfl⟩
  · obtain ⟨x, y, as', bs', g1, g2, q1, q2⟩ := key j h1 h2
    rw [List.getD_eq_getElem?_getD, List.getD_eq_getElem?_getD, g1, g2]
    show SeqAt.EqAt _ _ _ _ (D.eqv x y)
    refine eqAtD q1 q2 (fitsL_get f1 g1) (fitsL_get f2 g2) ?_
    have d1 := depL_get g1
    have d2 := depL_get g2
    omega
  · obtain ⟨x, y, as', bs', g1, g2, q1, q2⟩ := key j h1 h2
    rw [List.getD_eq_getElem?_getD, List.getD_eq_getElem?_getD, g1, g2] at he ⊢
    exact ih j x y _ _ as' bs' g1 g2 q1 q2 he
theorem units_in {A : Around} {a b : Nat} (h : A.units + min (a + 1) (b + 1) < cLine) : A.in1.units + min a b < cLine := SeqAt.room_in h
mutual
theorem ltAtD : ∀ (x y : D) (A : Around) (s : Shared) (u w : Value) (as bs : List Addr), Reads s.heap u x.py as → Reads s.heap w y.py bs → x.fits = true → y.fits = true → D.alike x y = true → D.eqv x y = false → A.units + min x.dep y.dep < cLine → Ob.RcOp .Lt A s u w (D.lt x y)
  | .int i, y, A, s, u, w, as, bs, r1, r2, f1, f2, al, ne, hu => by
    cases y with
    | int j =>
      rw [D.py] at r1 r2
      cases r1
      cases r2
      rw [D.lt]
      exact Ob.RcOp.lt_int _ _ _ _
    | _ => simp [D.alike] at al
  | .str i, y, A, s, u, w, as, bs, r1, r2, f1, f2, al, ne, hu => by
    cases y with
    | str j =>
      rw [D.py] at r1 r2
      cases r1
      cases r2
      rw [D.lt]
      exact fun _ _ _ _ h => P.lt_str h
    | _ => simp [D.alike] at al
  | .tup xs, y, A, s, u, w, as, bs, r1, r2, f1, f2, al, ne, hu => by
    cases y with
    | tup ys =>
      rw [D.py] at r1 r2
      simp only [D.fits] at f1 f2
      simp only [D.alike] at al
      simp only [D.dep] at hu
      rw [D.lt, ltL_O]
      cases r1 with
      | @tuple a o vs n _ as₁ h1 h2 h3 h4 =>
        cases r2 with
        | @tuple b o' ws n' _ bs₁ k1 k2 k3 k4 =>
          exact tupRc (by intro a b; simp) (fun e r he hr => Ob.RcOp.tuples_lt ⟨_, h1, h2, _, h3⟩ ⟨_, k1, k2, _, k3⟩ (SeqAt.room_here hu) he hr) h4 k4 f1 f2 (units_in hu) (ltAtDL xs ys A.in1 s f1 f2 al (units_in hu))
    | _ => simp [D.alike] at al
  | .non, y, A, s, u, w, as, bs, r1, r2, f1, f2, al, ne, hu => by cases y <;> simp_all [D.alike, D.eqv]
  | .bl _, y, A, s, u, w, as, bs, r1, r2, f1, f2, al, ne, hu => by cases y <;> simp_all [D.alike, D.eqv]
  | .rol _, y, A, s, u, w, as, bs, r1, r2, f1, f2, al, ne, hu => by cases y <;> simp_all [D.alike, D.eqv]
  | .loc _, y, A, s, u, w, as, bs, r1, r2, f1, f2, al, ne, hu => by cases y <;> simp_all [D.alike, D.eqv]
theorem ltAtDL : ∀ (xs ys : List D) (A : Around) (s : Shared), D.fitsL xs = true → D.fitsL ys = true → D.alikeL xs ys = true → A.units + min (D.depL xs) (D.depL ys) < cLine →
    ∀ (j : Nat) (x y : D) (u w : Value) (as bs : List Addr), xs[j]? = some x → ys[j]? = some y → Reads s.heap u x.py as → Reads s.heap w y.py bs → D.eqv x y = false → Ob.RcOp .Lt A s u w (D.lt x y)
  | [], _, _, _, _, _, _, _, _, _, _, _, _, _, _, e, _, _, _, _ => by simp at e
  | _ :: _, [], _, _, _, _, _, _, _, _, _, _, _, _, _, _, e, _, _, _ => by simp at e
  | a :: xs, b :: ys, A, s, f1, f2, al, hu, j, x, y, u, w, as, bs, e, e', r1, r2, ne => by
    rw [D.fitsL, Bool.and_eq_true] at f1 f2
    rw [D.alikeL, Bool.and_eq_true] at al
    rw [D.depL, D.depL] at hu
    cases j with
    | zero =>
      simp at e e'
      subst e e'
      exact ltAtD a b A s u w as bs r1 r2 f1.1 f2.1 al.1 ne (SeqAt.room_head hu)
    | succ j => exact ltAtDL xs ys A s f1.2 f2.2 al.2 (SeqAt.room_tail hu) j x y u w as bs (by simpa using e) (by simpa using e') r1 r2 ne
end
mutual
theorem leAtD : ∀ (x y : D) (A : Around) (s : Shared) (u w : Value) (as bs : List Addr), Reads s.heap u x.py as → Reads s.heap w y.py bs → x.fits = true → y.fits = true → D.alike x y = true → D.eqv x y = false → A.units + min x.dep y.dep < cLine → Ob.RcOp .LtE A s u w (D.le x y)
  | .int i, y, A, s, u, w, as, bs, r1, r2, f1, f2, al, ne, hu => by
    cases y with
    | int j =>
      rw [D.py] at r1 r2
      cases r1
      cases r2
      rw [D.le]
      exact Ob.RcOp.le_int _ _ _ _
    | _ => simp [D.alike] at al
  | .str i, y, A, s, u, w, as, bs, r1, r2, f1, f2, al, ne, hu => by
    cases y with
    | str j =>
      rw [D.py] at r1 r2
      cases r1
      cases r2
      rw [D.le]
      exact fun _ _ _ _ h => P.le_str h
    | _ => simp [D.alike] at al
  | .tup xs, y, A, s, u, w, as, bs, r1, r2, f1, f2, al, ne, hu => by
    cases y with
    | tup ys =>
      rw [D.py] at r1 r2
      simp only [D.fits] at f1 f2
      simp only [D.alike] at al
      simp only [D.dep] at hu
      rw [D.le, leL_O]
      cases r1 with
      | @tuple a o vs n _ as₁ h1 h2 h3 h4 =>
        cases r2 with
        | @tuple b o' ws n' _ bs₁ k1 k2 k3 k4 =>
          exact tupRc (by intro a b; simp) (fun e r he hr => Ob.RcOp.tuples_le ⟨_, h1, h2, _, h3⟩ ⟨_, k1, k2, _, k3⟩ (SeqAt.room_here hu) he hr) h4 k4 f1 f2 (units_in hu) (leAtDL xs ys A.in1 s f1 f2 al (units_in hu))
    | _ => simp [D.alike] at al
  | .non, y, A, s, u, w, as, bs, r1, r2, f1, f2, al, ne, hu => by cases y <;> simp_all [D.alike, D.eqv]
  | .bl _, y, A, s, u, w, as, bs, r1, r2, f1, f2, al, ne, hu => by cases y <;> simp_all [D.alike, D.eqv]
  | .rol _, y, A, s, u, w, as, bs, r1, r2, f1, f2, al, ne, hu => by cases y <;> simp_all [D.alike, D.eqv]
  | .loc _, y, A, s, u, w, as, bs, r1, r2, f1, f2, al, ne, hu => by cases y <;> simp_all [D.alike, D.eqv]
theorem leAtDL : ∀ (xs ys : List D) (A : Around) (s : Shared), D.fitsL xs = true → D.fitsL ys = true → D.alikeL xs ys = true → A.units + min (D.depL xs) (D.depL ys) < cLine →
    ∀ (j : Nat) (x y : D) (u w : Value) (as bs : List Addr), xs[j]? = some x → ys[j]? = some y → Reads s.heap u x.py as → Reads s.heap w y.py bs → D.eqv x y = false → Ob.RcOp .LtE A s u w (D.le x y)
  | [], _, _, _, _, _, _, _, _, _, _, _, _, _, _, e, _, _, _, _ => by simp at e
  | _ :: _, [], _, _, _, _, _, _, _, _, _, _, _, _, _, _, e, _, _, _ => by simp at e
  | a :: xs, b :: ys, A, s, f1, f2, al, hu, j, x, y, u, w, as, bs, e, e', r1, r2, ne => by
    rw [D.fitsL, Bool.and_eq_true] at f1 f2
    rw [D.alikeL, Bool.and_eq_true] at al
    rw [D.depL, D.depL] at hu
    cases j with
    | zero =>
      simp at e e'
      subst e e'
      exact leAtD a b A s u w as bs r1 r2 f1.1 f2.1 al.1 ne (SeqAt.room_head hu)
    | succ j => exact leAtDL xs ys A s f1.2 f2.2 al.2 (SeqAt.room_tail hu) j x y u w as bs (by simpa using e) (by simpa using e') r1 r2 ne
end
end DL

namespace DL
open PySem PySem.Spec PyProof.Rows L2

/-! ### the order of ints, texts, tuples -/
def okCmp (xs ys : List D) : Prop := D.fitsL xs = true ∧ D.fitsL ys = true ∧ D.alikeL xs ys = true ∧ min (D.depL xs) (D.depL ys) ≤ 60
instance (xs ys : List D) : Decidable (okCmp xs ys) := by unfold okCmp; infer_instance
def oLt : O2 := fun x y S => match x, y with
  | .int i, .int j => some (.bl (decide (i < j)), S)
  | .str i, .str j => some (.bl (decide (i.cps.toList < j.cps.toList)), S)
  | .tup xs, .tup ys => if okCmp xs ys then some (.bl (D.ltL xs ys), S) else none
  | _, _ => none
def oLe : O2 := fun x y S => match x, y with
  | .int i, .int j => some (.bl (decide (i ≤ j)), S)
  | .str i, .str j => some (.bl (!decide (j.cps.toList < i.cps.toList)), S)
  | .tup xs, .tup ys => if okCmp xs ys then some (.bl (D.leL xs ys), S) else none
  | _, _ => none
def oGt : O2 := fun x y S => match x, y with
  | .int i, .int j => some (.bl (decide (j < i)), S)
  | _, _ => none
def oGe : O2 := fun x y S => match x, y with
  | .int i, .int j => some (.bl (decide (j ≤ i)), S)
  | _, _ => none
/-- the items of what is read -/
def itemsOf (S : Store) : D → Option (List D)
  | .tup xs => some xs
  | .rol xs => some xs
  | .loc l => match S[l]? with
    | some (.lst xs) => some xs
    | _ => none
  | _ => none
section
variable {K : KW} {μ : List Addr} {H : Hp} {S : Store}
theorem itemsOf_ok (ok : Ok K μ H S) {x : D} {v : V} {xs : List D} (r : R K μ H x v) (h : itemsOf S x = some xs) : ∃ p vs, v = .ref p ∧ (SqL K H p vs ∨ SqT K H p vs) ∧ vs.length ≤ sizeLine ∧ RL K μ H xs vs := by
  cases r with
  | @tup p vs ys hs l rr => cases h; exact ⟨p, vs, rfl, .inr hs, l, rr⟩
  | @rol p vs ys hs l rr => cases h; exact ⟨p, vs, rfl, .inl hs.sq, l, rr⟩
  | @loc l p hp =>
    simp only [itemsOf] at h
    cases q : S[l]? with
    | none => rw [q] at h; cases h
    | some c =>
      rw [q] at h
      obtain ⟨p', h1, hc⟩ := ok.at q
      rw [hp] at h1; cases h1
      cases c with
      | dct _ => (first | exact hp.elim | exact h.elim | exact hh.elim | (cases h; done) | (cases hp; done) | (cases hh; done) | (rw [e1, e2] at hp; exact hp.elim) | (rw [e1] at hp; exact hp.elim) | (rw [q] at hp; exact hp.elim) | (rw [q] at h; cases h; done) | (rw [q] at hh; exact hh.elim) | (rw [q] at h; exact h.elim) | (rw [q2] at hh; exact hh.elim) | (rw [q2] at h; exact h.elim) | (rw [q2] at hp; exact hp.elim))
      | lst ys =>
        cases h
        obtain ⟨vs, hv, l, rr⟩ := hc
        exact ⟨p, vs, rfl, .inl (.inl (.inl hv)), l, rr⟩
  | _ => cases h
end
section
variable {X : Cx} {pq : Option Pin}
theorem d_lt (hu : X.A.units + 64 < cLine) : OpR X (compareOp .Lt) (r2 (X.kwp pq) oLt) := by
  intro pins s σ H x y v u Q I rx ry hr
  obtain ⟨μ, S, a, b, ok, ra, rb, hp⟩ := hr
  unfold oLt at hp
  split at hp
  · cases ra
    cases rb
    exact op_lt pins s σ H _ _ v u Q I rx ry ⟨_, _, rfl, rfl, hp.same ok (.bl _)⟩
  · cases ra
    cases rb
    exact op_lt_str pins s σ H _ _ v u Q I rx ry ⟨_, _, rfl, rfl, hp.same ok (.bl _)⟩
  · rename_i xs ys
    split at hp
    · rename_i hc
      obtain ⟨f1, f2, al, hd⟩ := hc
      obtain ⟨as, r1⟩ := ra.reads I (by simpa [D.fits] using f1) rx
      obtain ⟨bs, r2⟩ := rb.reads I (by simpa [D.fits] using f2) ry
      have hu2 : X.A.in1.units + min (D.depL xs) (D.depL ys) < cLine := by
        have : X.A.in1.units = X.A.units + 1 := rfl
        omega
      rw [D.py] at r1 r2
      cases r1 with
      | @tuple a o vs n _ as₁ h1 h2 h3 h4 =>
        cases r2 with
        | @tuple b o' ws n' _ bs₁ k1 k2 k3 k4 =>
          rw [ltL_O] at hp
          have z := tupRc (A := X.A) (s := s) (a := a) (b := b) (f := D.lt) (z := fun a b => decide (a < b)) (by intro a b; simp) (fun e r he hr => Ob.RcOp.tuples_lt ⟨_, h1, h2, _, h3⟩ ⟨_, k1, k2, _, k3⟩ (by omega) he hr) h4 k4 f1 f2 hu2 (ltAtDL xs ys X.A.in1 s f1 f2 al hu2)
          exact z X.prog X.w X.xe (EP X pins σ Q) ⟨.bl _, H, I, rfl, hp.same ok (.bl _)⟩
    · exact hp.elim
  · exact hp.elim
theorem d_le (hu : X.A.units + 64 < cLine) : OpR X (compareOp .LtE) (r2 (X.kwp pq) oLe) := by
  intro pins s σ H x y v u Q I rx ry hr
  obtain ⟨μ, S, a, b, ok, ra, rb, hp⟩ := hr
  unfold oLe at hp
  split at hp
  · cases ra
    cases rb
    exact op_le pins s σ H _ _ v u Q I rx ry ⟨_, _, rfl, rfl, hp.same ok (.bl _)⟩
  · cases ra
    cases rb
    exact op_le_str pins s σ H _ _ v u Q I rx ry ⟨_, _, rfl, rfl, hp.same ok (.bl _)⟩
  · rename_i xs ys
    split at hp
    · rename_i hc
      obtain ⟨f1, f2, al, hd⟩ := hc
      obtain ⟨as, r1⟩ := ra.reads I (by simpa [D.fits] using f1) rx
      obtain ⟨bs, r2⟩ := rb.reads I (by simpa [D.fits] using f2) ry
      have hu2 : X.A.in1.units + min (D.depL xs) (D.depL ys) < cLine := by
        have : X.A.in1.units = X.A.units + 1 := rfl
        omega
      rw [D.py] at r1 r2
      cases r1 with
      | @tuple a o vs n _ as₁ h1 h2 h3 h4 =>
        cases r2 with
        | @tuple b o' ws n' _ bs₁ k1 k2 k3 k4 =>
          rw [leL_O] at hp
          have z := tupRc (A := X.A) (s := s) (a := a) (b := b) (f := D.le) (z := fun a b => decide (a ≤ b)) (by intro a b; simp) (fun e r he hr => Ob.RcOp.tuples_le ⟨_, h1, h2, _, h3⟩ ⟨_, k1, k2, _, k3⟩ (by omega) he hr) h4 k4 f1 f2 hu2 (leAtDL xs ys X.A.in1 s f1 f2 al hu2)
          exact z X.prog X.w X.xe (EP X pins σ Q) ⟨.bl _, H, I, rfl, hp.same ok (.bl _)⟩
    · exact hp.elim
  · exact hp.elim
theorem d_gt : OpR X (compareOp .Gt) (r2 (X.kwp pq) oGt) := by
  intro pins s σ H x y v u Q I rx ry hr
  obtain ⟨μ, S, a, b, ok, ra, rb, hp⟩ := hr
  unfold oGt at hp
  split at hp
  · cases ra
    cases rb
    exact op_gt pins s σ H _ _ v u Q I rx ry ⟨_, _, rfl, rfl, hp.same ok (.bl _)⟩
  · exact hp.elim
theorem d_ge : OpR X (compareOp .GtE) (r2 (X.kwp pq) oGe) := by
  intro pins s σ H x y v u Q I rx ry hr
  obtain ⟨μ, S, a, b, ok, ra, rb, hp⟩ := hr
  unfold oGe at hp
  split at hp
  · cases ra
    cases rb
    exact op_ge pins s σ H _ _ v u Q I rx ry ⟨_, _, rfl, rfl, hp.same ok (.bl _)⟩
  · exact hp.elim
/-! ### is None -/
def isBl (b : Bool) : D → Bool
  | .bl a => a == b
  | _ => false
def oIs : O2 := fun x y S => match y with
  | .non => some (.bl (match x with | .non => true | _ => false), S)
  | .bl b => some (.bl (isBl b x), S)
  | _ => none
def oIsNot : O2 := fun x y S => match y with
  | .non => some (.bl (match x with | .non => false | _ => true), S)
  | .bl b => some (.bl (!isBl b x), S)
  | _ => none
theorem is_bl {pins : List (Addr × Obj)} {s : Shared} {σ : L2.St} {H : Hp} {μ : List Addr} {x : D} {v : V} {u : Value} {b : Bool} (I : Inv X pins σ H s) (r : R (X.kwp pq) μ H x v) (rx : RelV v u) : PySem.plainIs u (.bool b) = true ∧ (u == Value.bool b) = isBl b x := by
  cases r with
  | bl a =>
    cases rx
    refine ⟨rfl, ?_⟩
    cases a <;> cases b <;> rfl
  | non => cases rx; exact ⟨rfl, rfl⟩
  | int i => obtain ⟨t, rfl⟩ := rx; exact ⟨rfl, rfl⟩
  | str i => obtain ⟨t, rfl⟩ := rx; exact ⟨rfl, rfl⟩
  | tup h1 h2 h3 => cases rx; exact ⟨rfl, rfl⟩
  | rol h1 h2 h3 => cases rx; exact ⟨rfl, rfl⟩
  | loc h1 => cases rx; exact ⟨rfl, rfl⟩
theorem d_is : OpR X (compareOp .Is) (r2 (X.kwp pq) oIs) := by
  intro pins s σ H x y v u Q I rx ry hr
  obtain ⟨μ, S, a, b, ok, ra, rb, hp⟩ := hr
  cases rb with
  | non =>
    refine op_isN pins s σ H _ _ v u Q I rx ry ⟨rfl, ?_⟩
    cases ra <;> exact hp.same ok (.bl _)
  | bl b =>
    cases ry
    obtain ⟨h1, h2⟩ := is_bl (b := b) I ra rx
    exact PySem.wpAny_is_plain h1 (by rw [h2]; exact ⟨.bl _, H, I, rfl, hp.same ok (.bl _)⟩)
  | _ => exact hp.elim
theorem d_isnot : OpR X (compareOp .IsNot) (r2 (X.kwp pq) oIsNot) := by
  intro pins s σ H x y v u Q I rx ry hr
  obtain ⟨μ, S, a, b, ok, ra, rb, hp⟩ := hr
  cases rb with
  | non =>
    refine op_notN pins s σ H _ _ v u Q I rx ry ⟨rfl, ?_⟩
    cases ra <;> exact hp.same ok (.bl _)
  | bl b =>
    cases ry
    obtain ⟨h1, h2⟩ := is_bl (b := b) I ra rx
    exact PySem.wpAny_isNot_plain h1 (by rw [h2]; exact ⟨.bl _, H, I, rfl, hp.same ok (.bl _)⟩)
  | _ => exact hp.elim
/-! ### in -/
def okIn (x : D) (xs : List D) : Prop := x.fits = true ∧ D.fitsL xs = true ∧ min (D.depL xs) x.dep ≤ 60
instance (x : D) (xs : List D) : Decidable (okIn x xs) := by unfold okIn; infer_instance
def inL (x : D) (xs : List D) : Bool := xs.any fun z => D.eqv z x
def oIn : O2 := fun x y S => match itemsOf S y with
  | some xs => if okIn x xs then some (.bl (inL x xs), S) else none
  | none => match x, y with
    | .str i, .str j => some (.bl (!(Builtin.Str.occurrences j i 0 j.length 1).isEmpty), S)
    | _, _ => none
def oNotIn : O2 := fun x y S => match itemsOf S y with
  | some xs => if okIn x xs then some (.bl (!inL x xs), S) else none
  | none => match x, y with
    | .str i, .str j => some (.bl (!(!(Builtin.Str.occurrences j i 0 j.length 1).isEmpty)), S)
    | _, _ => none
theorem any_pys (x : D) (fx : x.fits = true) : ∀ xs : List D, D.fitsL xs = true → (D.pys xs).any (fun z => PyData.eqv z x.py) = inL x xs
  | [], _ => rfl
  | y :: xs, f => by
    rw [D.fitsL, Bool.and_eq_true] at f
    have ih := any_pys x fx xs f.2
    unfold inL at ih ⊢
    rw [D.pys, List.any_cons, List.any_cons, ih, D.eqv_py y x f.1 fx]
theorem inItems {pins : List (Addr × Obj)} {s : Shared} {σ : L2.St} {H : Hp} {μ : List Addr} (hu : X.A.units + 64 < cLine) (I : Inv X pins σ H s) {x : D} {xs : List D} {vs : List V} {v : V} {u : Value} {its : List Value} (rx : R (X.kwp pq) μ H x v) (ru : RelV v u) (rr : RL (X.kwp pq) μ H xs vs) (rv : Vals vs its) (h : okIn x xs) :
    ∃ e : Value → Bool, (∀ y, y ∈ its.toArray → SeqAt.EqAt X.A.in1 s y u (e y)) ∧ its.toArray.any e = inL x xs := by
  obtain ⟨fx, fl, hd⟩ := h
  obtain ⟨as, r1⟩ := rx.reads I fx ru
  obtain ⟨bs, r2⟩ := Dp.readsAll I _ _ _ (rr.dp fl) rv
  refine ⟨fun y => PyData.eqv (SeqAt.readOf s.heap y) x.py, SeqAt.items_eqAt r2 r1 (D.canLayL xs fl) (D.canLay x fx) (by rw [D.depthL xs fl, D.depth x fx]; omega), ?_⟩
  rw [← any_pys x fx xs fl, ← SeqAt.readsAll_map _ _ _ (D.canLayL xs fl) r2]
  simp [List.any_map, Function.comp_def]
theorem d_in (hu : X.A.units + 64 < cLine) : OpR X (compareOp .In) (r2 (X.kwp pq) oIn) := by
  intro pins s σ H x y v u Q I rx ry hr
  obtain ⟨μ, S, a, b, ok, ra, rb, hp⟩ := hr
  unfold oIn at hp
  cases q : itemsOf S b with
  | some xs =>
    rw [q] at hp
    simp only at hp
    split at hp
    · rename_i hc
      obtain ⟨p, vs, rfl, hs, hl, rr⟩ := itemsOf_ok ok rb q
      cases ry
      rcases hs with hs | hs
      · obtain ⟨its, rv, pl, _⟩ := I.list hs
        obtain ⟨e, he, ha⟩ := inItems hu I ra rx rr rv hc
        exact SeqAt.in_listAt e pl.isList he ⟨.bl _, H, I, rfl, by rw [ha]; exact hp.same ok (.bl _)⟩
      · obtain ⟨its, rv, pl, _⟩ := I.tuple hs
        obtain ⟨e, he, ha⟩ := inItems hu I ra rx rr rv hc
        exact SeqAt.in_tupleAt e pl he ⟨.bl _, H, I, rfl, by rw [ha]; exact hp.same ok (.bl _)⟩
    · exact hp.elim
  | none =>
    rw [q] at hp
    simp only at hp
    split at hp
    · cases ra
      cases rb
      exact op_in_str pins s σ H _ _ v u Q I rx ry ⟨_, _, rfl, rfl, hp.same ok (.bl _)⟩
    · exact hp.elim
theorem d_notin (hu : X.A.units + 64 < cLine) : OpR X (compareOp .NotIn) (r2 (X.kwp pq) oNotIn) := by
  intro pins s σ H x y v u Q I rx ry hr
  obtain ⟨μ, S, a, b, ok, ra, rb, hp⟩ := hr
  unfold oNotIn at hp
  cases q : itemsOf S b with
  | some xs =>
    rw [q] at hp
    simp only at hp
    split at hp
    · rename_i hc
      obtain ⟨p, vs, rfl, hs, hl, rr⟩ := itemsOf_ok ok rb q
      cases ry
      rcases hs with hs | hs
      · obtain ⟨its, rv, pl, _⟩ := I.list hs
        obtain ⟨e, he, ha⟩ := inItems hu I ra rx rr rv hc
        exact SeqAt.notIn_listAt e pl.isList he ⟨.bl _, H, I, rfl, by rw [ha]; exact hp.same ok (.bl _)⟩
      · obtain ⟨its, rv, pl, _⟩ := I.tuple hs
        obtain ⟨e, he, ha⟩ := inItems hu I ra rx rr rv hc
        exact SeqAt.notIn_tupleAt e pl he ⟨.bl _, H, I, rfl, by rw [ha]; exact hp.same ok (.bl _)⟩
    · exact hp.elim
  | none =>
    rw [q] at hp
    simp only at hp
    split at hp
    · cases ra
      cases rb
      exact op_notin_str pins s σ H _ _ v u Q I rx ry ⟨_, _, rfl, rfl, hp.same ok (.bl _)⟩
    · exact hp.elim
/-! ### subscripts, slices -/
def oIx : O2 := fun x y S => match y with
  | .int i => match itemsOf S x with
    | some xs => match atI xs i with
      | some d => some (d, S)
      | none => none
    | none => match x with
      | .str z => if z.length ≤ sizeLine then match atI z.cps.toList i with
          | some c => some (.str ⟨#[c]⟩, S)
          | none => none
        else none
      | _ => none
  | _ => none
theorem RL.atI {K : KW} {μ : List Addr} {H : Hp} {xs : List D} {vs : List V} {i : Int} {d : D} (r : RL K μ H xs vs) (h : atI xs i = some d) : ∃ v, L2.atI vs i = some v ∧ R K μ H d v := by
  unfold L2.atI at h ⊢
  rw [← r.length]
  cases q : ixN xs.length i with
  | none => rw [q] at h; cases h
  | some j =>
    rw [q] at h
    exact r.get h
theorem d_ix : IxR X (r2 (X.kwp pq) oIx) := by
  intro value slice pins s σ H x y v u Q I rx ry hr hsub
  obtain ⟨μ, S, a, b, ok, ra, rb, hp⟩ := hr
  cases rb with
  | int i =>
    simp only [oIx] at hp
    cases q : itemsOf S a with
    | some xs =>
      rw [q] at hp
      simp only at hp
      cases q2 : atI xs i with
      | none => rw [q2] at hp; exact hp.elim
      | some d =>
        rw [q2] at hp
        obtain ⟨p, vs, rfl, hs, hl, rr⟩ := itemsOf_ok ok ra q
        obtain ⟨w, hw, rw'⟩ := rr.atI q2
        rcases hs with hs | hs
        · exact ix_list value slice pins s σ H _ _ v u Q I rx ry ⟨p, vs, i, w, rfl, rfl, hs, hw, hp.same ok rw'⟩ hsub
        · exact ix_tup value slice pins s σ H _ _ v u Q I rx ry ⟨p, vs, i, w, rfl, rfl, hs, hw, hp.same ok rw'⟩ hsub
    | none =>
      rw [q] at hp
      simp only at hp
      cases ra with
      | str z =>
        simp only at hp
        split at hp
        · rename_i hl
          cases q2 : atI z.cps.toList i with
          | none => rw [q2] at hp; exact hp.elim
          | some c =>
            rw [q2] at hp
            exact ix_str value slice pins s σ H _ _ v u Q I rx ry ⟨z, i, c, rfl, rfl, hl, q2, hp.same ok (.str _)⟩ hsub
        · exact hp.elim
      | _ => exact hp.elim
  | _ => exact hp.elim
variable {W : WX} {pos : Pos} {a b c e : Expr} {es : List Expr} {f g h : DE}
theorem e_ix (ha : PE X a (tE (X.kwp pq) X.mg W f)) (hb : PE X b (tE (X.kwp pq) X.mg W g)) (hs : PlainIx b := by exact fun _ _ => rfl) : PE X (.Subscript a b pos) (tE (X.kwp pq) X.mg W (cBin oIx f g)) := PE.weak (pe_ix d_ix ha hb hs) fun _ _ _ => tE_bin
abbrev DO := Sg → Store → Res (Option Int)
def cNoPart : DO := fun _ S => .ok none S
def cPart (f : DE) : DO := fun σ S => (f σ S).bind fun x S1 => match x with
  | .int i => .ok (some i) S1
  | _ => .no
abbrev RO : List Addr → Hp → Option Int → Option Int → Prop := fun _ _ a b => a = b
abbrev tO (K : KW) (mg : Str → Option Value) (W : WX) (f : DO) : TO := tG K mg W RO f
theorem PO.weak {X : Cx} {e : Option Expr} {t t' : TO} (h : PO X e t) (w : ∀ σ H Q, t' σ H Q → t σ H Q) : PO X e t' := ⟨fun pins s σ H Q I q => h.run pins s σ H Q I (w σ H Q q)⟩
theorem o_none : PO X none (tO (X.kwp pq) X.mg W cNoPart) := PO.weak po_none fun σ H Q h => by
  obtain ⟨μ, σD, S, ok, en, h⟩ := h
  exact h μ H none (Ext.refl _ _) ok rfl
theorem o_some (he : PE X e (tE (X.kwp pq) X.mg W f)) : PO X (some e) (tO (X.kwp pq) X.mg W (cPart f)) := PO.weak (po_some he) fun σ H Q h => tG1 (RA := R (X.kwp pq)) h fun x S μ H v ok rx h => by
  cases rx with
  | int i => exact ⟨i, rfl, h μ H (some i) (Ext.refl _ _) ok rfl⟩
  | _ => exact h.elim
def cutD (xs : List D) (lo hi : Option Int) : List D := (xs.drop (HT.sIx xs.length 0 lo)).take (HT.sIx xs.length xs.length hi - HT.sIx xs.length 0 lo)
def oCut (x : D) (lo hi : Option Int) (S : Store) : Option (D × Store) := match x with
  | .tup xs => some (.tup (cutD xs lo hi), S)
  | .str z => if z.length ≤ sizeLine then some (.str (cutS z lo hi), S) else none
  | x => match itemsOf S x with
    | some xs => some (.loc S.length, S ++ [.lst (cutD xs lo hi)])
    | none => none
def cCut (f : DE) (l u : DO) : DE := fun σ S => (f σ S).bind fun x S1 => (l σ S1).bind fun lo S2 => (u σ S2).bind fun hi S3 => Res.of (oCut x lo hi S3)
theorem RL.cut {K : KW} {μ : List Addr} {H : Hp} {xs : List D} {vs : List V} {lo hi : Option Int} (r : RL K μ H xs vs) : RL K μ H (cutD xs lo hi) (cutV vs lo hi) := by
  unfold cutD cutV
  rw [r.length]
  exact (r.drop _).take _
end
end DL

namespace DL
open PySem PySem.Spec PyProof.Rows L2
section
variable {X : Cx} {pq : Option Pin} {W : WX} {pos : Pos} {a b c e : Expr} {es : List Expr} {f g h : DE} {K : KW} {mg : Str → Option Value}
/-! ### slices -/
theorem items_lst {H : Hp} {μ : List Addr} {S : Store} (ok : Ok K μ H S) {l : Nat} {p : Addr} {xs : List D} (hl : μ[l]? = some p) (z : itemsOf S (.loc l) = some xs) : ∃ ws, H p = some (.lst ws) := by
  simp only [itemsOf] at z
  cases q : S[l]? with
  | none => rw [q] at z; cases z
  | some c =>
    obtain ⟨p', h1, hc⟩ := ok.at q
    rw [hl] at h1; cases h1
    cases c with
    | dct _ => rw [q] at z; cases z
    | lst ws =>
      obtain ⟨vs, h, _⟩ := hc
      exact ⟨vs, h⟩
def rSl (K : KW) : V → Option Int → Option Int → Hp → VK → Prop := fun v lo hi H Q => ∃ μ S x, Ok K μ H S ∧ R K μ H x v ∧ PV K (R K) μ H (oCut x lo hi S) Q
theorem d_cut : SlR X (rSl (X.kwp pq)) := by
  intro pins s σ H x v vl vu lo hi sl Q I rx hs pl pu hr
  obtain ⟨μ, S, d, ok, rd, hp⟩ := hr
  cases rd with
  | @tup p vs xs ht l rr =>
    refine sl_tupA pins s σ H _ v vl vu lo hi sl Q I rx hs pl pu ⟨p, vs, rfl, ht, fun hw => ?_, fun _ => hp.tup ok (Nat.le_trans (cutV_length _ _ _) l) rr.cut⟩
    have e : cutD xs lo hi = xs := by
      unfold cutD
      rw [rr.length, hw.1, hw.2, List.drop_zero, Nat.sub_zero, ← rr.length, List.take_length]
    rw [oCut, e] at hp
    exact hp.same ok (.tup ht l rr)
  | str z =>
    simp only [oCut] at hp
    split at hp
    · rename_i hl
      exact sl_str pins s σ H _ v vl vu lo hi sl Q I rx hs pl pu ⟨z, rfl, hl, hp.same ok (.str _)⟩
    · exact hp.elim
  | @rol p vs xs ht l rr =>
    exact sl_list pins s σ H _ v vl vu lo hi sl Q I rx hs pl pu ⟨p, vs, rfl, ht.sq, PV.lst hp ok (Nat.le_trans (cutV_length _ _ _) l) rr.cut⟩
  | @loc l p hl =>
    simp only [oCut] at hp
    cases q : itemsOf S (.loc l) with
    | none => rw [q] at hp; exact hp.elim
    | some xs =>
      rw [q] at hp
      obtain ⟨p', vs, e1, hs', hz, rr⟩ := itemsOf_ok ok (R.loc hl) q
      cases e1
      rcases hs' with hs' | hs'
      · exact sl_list pins s σ H _ v vl vu lo hi sl Q I rx hs pl pu ⟨p, vs, rfl, hs', PV.lst hp ok (Nat.le_trans (cutV_length _ _ _) hz) rr.cut⟩
      · obtain ⟨ws, hw⟩ := items_lst ok hl q
        rcases hs' with (z | ⟨o, z⟩) | ⟨o, its, n, hk, hc, _⟩
        · rw [hw] at z; cases z
        · rw [hw] at z; cases z
        · obtain ⟨_, its', n', _, e⟩ := I.hok _ _ hw
          have := I.kIn _ _ hk
          rw [e] at this
          cases this
          exact absurd hc (by simp)
  | _ => exact hp.elim
theorem e_cut {lo hi : Option Expr} {p2 : Pos} {l u : DO} (he : PE X e (tE (X.kwp pq) X.mg W f)) (hl : PO X lo (tO (X.kwp pq) X.mg W l)) (hu : PO X hi (tO (X.kwp pq) X.mg W u)) : PE X (.Subscript e (.Slice lo hi none p2) pos) (tE (X.kwp pq) X.mg W (cCut f l u)) := by
  refine PE.weak (pe_slice (d_cut (pq := pq)) he hl hu) fun σ H Q hh => ?_
  refine tG1e (k := fun σ x S1 => (l σ S1).bind fun lo S2 => (u σ S2).bind fun hi S3 => Res.of (oCut x lo hi S3)) (RA := R (X.kwp pq)) hh fun σD x S μ H v ok en rx hh => ?_
  refine ⟨μ, σD, S, ok, en, Post.bind hh fun lo S2 μ2 H2 lo' x2 ok2 rl hh => ?_⟩
  cases rl
  refine ⟨μ2, σD, S2, ok2, en.mono x2, Post.bind hh fun hi S3 μ3 H3 hi' x3 ok3 ru hh => ?_⟩
  cases ru
  exact ⟨μ3, S3, x, ok3, (rx.mono x2).mono x3, hh.of⟩
/-! ### calls of built-in functions -/
def oLen : OA := fun xs S => match xs with
  | [x] => match itemsOf S x with
    | some ys => some (.int ys.length, S)
    | none => match x with
      | .str z => if z.length ≤ sizeLine then some (.int z.length, S) else none
      | _ => none
  | _ => none
theorem RL.one {μ : List Addr} {H : Hp} {x : D} {vs : List V} (r : RL K μ H [x] vs) : ∃ v, vs = [v] ∧ R K μ H x v := by
  cases r with
  | cons r t => cases t; exact ⟨_, rfl, r⟩
theorem RL.two {μ : List Addr} {H : Hp} {x y : D} {vs : List V} (r : RL K μ H [x, y] vs) : ∃ v u, vs = [v, u] ∧ R K μ H x v ∧ R K μ H y u := by
  cases r with
  | cons r t =>
    obtain ⟨u, rfl, r2⟩ := t.one
    exact ⟨_, u, rfl, r, r2⟩
theorem d_len : CallR X (.builtin "len") (rA (X.kwp pq) oLen) := by
  intro pins s σ H xs us Q I r hr
  obtain ⟨μ, S, ds, ok, rd, hp⟩ := hr
  unfold oLen at hp
  split at hp
  · rename_i x
    obtain ⟨v, rfl, rx⟩ := rd.one
    cases q : itemsOf S x with
    | some ys =>
      rw [q] at hp
      obtain ⟨p, vs, rfl, hs, hl, rr⟩ := itemsOf_ok ok rx q
      refine call_len_seq pins s σ H _ us Q I r ⟨p, vs, rfl, hs, ?_⟩
      rw [← rr.length]
      exact hp.same ok (.int _)
    | none =>
      rw [q] at hp
      simp only at hp
      cases rx with
      | str z =>
        simp only at hp
        split at hp
        · rename_i hl
          exact call_len_str pins s σ H _ us Q I r ⟨z, rfl, hl, hp.same ok (.int _)⟩
        · exact hp.elim
      | _ => exact hp.elim
  · exact hp.elim
def oInt : OA := fun xs S => match xs with
  | [.int i] => some (.int i, S)
  | [.bl b] => some (.int (if b then 1 else 0), S)
  | _ => none
theorem d_int : CallR X (.type "int") (rA (X.kwp pq) oInt) := by
  intro pins s σ H xs us Q I r hr
  obtain ⟨μ, S, ds, ok, rd, hp⟩ := hr
  unfold oInt at hp
  split at hp
  · obtain ⟨v, rfl, rx⟩ := rd.one
    cases rx
    exact call_int1 pins s σ H _ us Q I r (.inl ⟨_, rfl, hp.same ok (.int _)⟩)
  · obtain ⟨v, rfl, rx⟩ := rd.one
    cases rx
    exact call_int1 pins s σ H _ us Q I r (.inr ⟨_, rfl, hp.same ok (.int _)⟩)
  · exact hp.elim
def oAbs : OA := fun xs S => match xs with
  | [.int i] => some (.int (if i < 0 then -i else i), S)
  | _ => none
theorem d_abs : CallR X (.builtin "abs") (rA (X.kwp pq) oAbs) := by
  intro pins s σ H xs us Q I r hr
  obtain ⟨μ, S, ds, ok, rd, hp⟩ := hr
  unfold oAbs at hp
  split at hp
  · obtain ⟨v, rfl, rx⟩ := rd.one
    cases rx
    exact call_abs pins s σ H _ us Q I r ⟨_, rfl, hp.same ok (.int _)⟩
  · exact hp.elim
/-- max, min of two ints -/
def oMax : OA := fun xs S => match xs with
  | [.int i, .int j] => some (.int (if j > i then j else i), S)
  | _ => none
def oMin : OA := fun xs S => match xs with
  | [.int i, .int j] => some (.int (if j < i then j else i), S)
  | _ => none
theorem d_max (hc : X.calm = true) : CallR X (.builtin "max") (rA (X.kwp pq) oMax) := by
  intro pins s σ H xs us Q I r hr
  obtain ⟨μ, S, ds, ok, rd, hp⟩ := hr
  unfold oMax at hp
  split at hp
  · obtain ⟨v, u, rfl, rx, ry⟩ := rd.two
    cases rx
    cases ry
    exact call_max2 hc pins s σ H _ us Q I r ⟨_, _, rfl, hp.same ok (.int _)⟩
  · exact hp.elim
theorem d_min (hc : X.calm = true) : CallR X (.builtin "min") (rA (X.kwp pq) oMin) := by
  intro pins s σ H xs us Q I r hr
  obtain ⟨μ, S, ds, ok, rd, hp⟩ := hr
  unfold oMin at hp
  split at hp
  · obtain ⟨v, u, rfl, rx, ry⟩ := rd.two
    cases rx
    cases ry
    exact call_min2 hc pins s σ H _ us Q I r ⟨_, _, rfl, hp.same ok (.int _)⟩
  · exact hp.elim
def oTuple : OA := fun xs S => match xs with
  | [x] => match itemsOf S x with
    | some ys => some (.tup ys, S)
    | none => none
  | _ => none
def oList : OA := fun xs S => match xs with
  | [x] => match itemsOf S x with
    | some ys => some (.loc S.length, S ++ [.lst ys])
    | none => none
  | _ => none
/-- a list at an address that is tracked is no tuple -/
theorem loc_notT {pins : List (Addr × Obj)} {s : Shared} {σ : L2.St} {H : Hp} {p : Addr} {ws vs : List V} (I : Inv X pins σ H s) (hw : H p = some (.lst ws)) (h : SqT (X.kwp pq) H p vs) : False := by
  rcases h with (z | ⟨o, z⟩) | ⟨o, its, n, hk, hc, _⟩
  · rw [hw] at z; cases z
  · rw [hw] at z; cases z
  · obtain ⟨_, its', n', _, e⟩ := I.hok _ _ hw
    have := I.kIn _ _ hk
    rw [e] at this
    cases this
    exact absurd hc (by simp)
theorem d_tuple : CallR X (.type "tuple") (rA (X.kwp pq) oTuple) := by
  intro pins s σ H xs us Q I r hr
  obtain ⟨μ, S, ds, ok, rd, hp⟩ := hr
  unfold oTuple at hp
  split at hp
  · rename_i x
    obtain ⟨v, rfl, rx⟩ := rd.one
    cases q : itemsOf S x with
    | none => rw [q] at hp; exact hp.elim
    | some ys =>
      rw [q] at hp
      simp only at hp
      cases rx with
      | @tup p vs zs hs l rr =>
        cases q
        exact call_tuple_of pins s σ H _ us Q I r ⟨p, vs, rfl, .inr ⟨hs, hp.same ok (.tup hs l rr)⟩⟩
      | @rol p vs zs hs l rr =>
        cases q
        exact call_tuple_of pins s σ H _ us Q I r ⟨p, vs, rfl, .inl ⟨hs.sq, hp.tup ok l rr⟩⟩
      | @loc l p hl =>
        obtain ⟨p', vs, e1, hs', hz, rr⟩ := itemsOf_ok ok (R.loc hl) q
        cases e1
        rcases hs' with hs' | hs'
        · exact call_tuple_of pins s σ H _ us Q I r ⟨p, vs, rfl, .inl ⟨hs', hp.tup ok hz rr⟩⟩
        · obtain ⟨ws, hw⟩ := items_lst ok hl q
          exact (loc_notT I hw hs').elim
      | _ => cases q
  · exact hp.elim
theorem d_list : CallR X (.type "list") (rA (X.kwp pq) oList) := by
  intro pins s σ H xs us Q I r hr
  obtain ⟨μ, S, ds, ok, rd, hp⟩ := hr
  unfold oList at hp
  split at hp
  · rename_i x
    obtain ⟨v, rfl, rx⟩ := rd.one
    cases q : itemsOf S x with
    | none => rw [q] at hp; exact hp.elim
    | some ys =>
      rw [q] at hp
      simp only at hp
      obtain ⟨p, vs, rfl, hs, hl, rr⟩ := itemsOf_ok ok rx q
      exact call_list_of pins s σ H _ us Q I r ⟨p, vs, rfl, hs, hp.lst ok hl rr⟩
  · exact hp.elim
/-- sum of ints, any and all of bools -/
def intsOf : List D → Option (List Int)
  | [] => some []
  | .int i :: r => (intsOf r).map (i :: ·)
  | _ :: _ => none
def bolsOf : List D → Option (List Bool)
  | [] => some []
  | .bl i :: r => (bolsOf r).map (i :: ·)
  | _ :: _ => none
theorem intsOf_eq : ∀ {xs : List D} {ns : List Int}, intsOf xs = some ns → xs = ns.map D.int
  | [], ns, h => by cases h; rfl
  | .int i :: r, ns, h => by
    rw [intsOf] at h
    cases q : intsOf r with
    | none => rw [q] at h; cases h
    | some ms => rw [q] at h; cases h; rw [intsOf_eq q]; rfl
  | .non :: _, _, h => by simp [intsOf] at h
  | .bl _ :: _, _, h => by simp [intsOf] at h
  | .str _ :: _, _, h => by simp [intsOf] at h
  | .tup _ :: _, _, h => by simp [intsOf] at h
  | .rol _ :: _, _, h => by simp [intsOf] at h
  | .loc _ :: _, _, h => by simp [intsOf] at h
theorem intsOf_map : ∀ ns : List Int, intsOf (ns.map D.int) = some ns
  | [] => rfl
  | n :: r => by rw [List.map_cons, intsOf, intsOf_map r]; rfl
theorem bolsOf_map : ∀ ns : List Bool, bolsOf (ns.map D.bl) = some ns
  | [] => rfl
  | n :: r => by rw [List.map_cons, bolsOf, bolsOf_map r]; rfl
theorem bolsOf_eq : ∀ {xs : List D} {ns : List Bool}, bolsOf xs = some ns → xs = ns.map D.bl
  | [], ns, h => by cases h; rfl
  | .bl i :: r, ns, h => by
    rw [bolsOf] at h
    cases q : bolsOf r with
    | none => rw [q] at h; cases h
    | some ms => rw [q] at h; cases h; rw [bolsOf_eq q]; rfl
  | .non :: _, _, h => by simp [bolsOf] at h
  | .int _ :: _, _, h => by simp [bolsOf] at h
  | .str _ :: _, _, h => by simp [bolsOf] at h
  | .tup _ :: _, _, h => by simp [bolsOf] at h
  | .rol _ :: _, _, h => by simp [bolsOf] at h
  | .loc _ :: _, _, h => by simp [bolsOf] at h
theorem RL.bolsV {μ : List Addr} {H : Hp} : ∀ {ns : List Bool} {vs : List V}, RL K μ H (ns.map D.bl) vs → vs = ns.map V.bl
  | [], _, .nil => rfl
  | n :: r, _, .cons h t => by
    cases h
    rw [RL.bolsV t]; rfl
/-- a list (no tuple) -/
def listOf (S : Store) : D → Option (List D)
  | .rol xs => some xs
  | .loc l => match S[l]? with
    | some (.lst xs) => some xs
    | _ => none
  | _ => none
theorem listOf_ok {μ : List Addr} {H : Hp} {S : Store} (ok : Ok K μ H S) {x : D} {v : V} {xs : List D} (r : R K μ H x v) (h : listOf S x = some xs) : ∃ p vs, v = .ref p ∧ SqL K H p vs ∧ vs.length ≤ sizeLine ∧ RL K μ H xs vs := by
  cases r with
  | @rol p vs ys hs l rr => cases h; exact ⟨p, vs, rfl, hs.sq, l, rr⟩
  | @loc l p hp =>
    simp only [listOf] at h
    cases q : S[l]? with
    | none => rw [q] at h; cases h
    | some c =>
      rw [q] at h
      obtain ⟨p', h1, hc⟩ := ok.at q
      rw [hp] at h1; cases h1
      cases c with
      | dct _ => (first | exact hp.elim | exact h.elim | exact hh.elim | (cases h; done) | (cases hp; done) | (cases hh; done) | (rw [e1, e2] at hp; exact hp.elim) | (rw [e1] at hp; exact hp.elim) | (rw [q] at hp; exact hp.elim) | (rw [q] at h; cases h; done) | (rw [q] at hh; exact hh.elim) | (rw [q] at h; exact h.elim) | (rw [q2] at hh; exact hh.elim) | (rw [q2] at h; exact h.elim) | (rw [q2] at hp; exact hp.elim))
      | lst ys =>
        cases h
        obtain ⟨vs, hv, l, rr⟩ := hc
        exact ⟨p, vs, rfl, .inl (.inl hv), l, rr⟩
  | _ => cases h
def oSum : OA := fun xs S => match xs with
  | [x] => match (listOf S x).bind intsOf with
    | some ns => some (.int ns.sum, S)
    | none => none
  | _ => none
def oAny : OA := fun xs S => match xs with
  | [x] => match (listOf S x).bind bolsOf with
    | some ns => some (.bl (ns.any id), S)
    | none => none
  | _ => none
def oAll : OA := fun xs S => match xs with
  | [x] => match (listOf S x).bind bolsOf with
    | some ns => some (.bl (ns.all id), S)
    | none => none
  | _ => none
theorem listInts {μ : List Addr} {H : Hp} {S : Store} (ok : Ok K μ H S) {x : D} {v : V} {ns : List Int} (r : R K μ H x v) (h : (listOf S x).bind intsOf = some ns) : ∃ p, v = .ref p ∧ SqL K H p (ns.map V.int) := by
  cases q : listOf S x with
  | none => rw [q] at h; cases h
  | some ys =>
    rw [q] at h
    obtain ⟨p, vs, rfl, hs, hl, rr⟩ := listOf_ok ok r q
    have e := intsOf_eq (show intsOf ys = some ns from h)
    subst e
    rw [rr.intsV] at hs
    exact ⟨p, rfl, hs⟩
theorem listBols {μ : List Addr} {H : Hp} {S : Store} (ok : Ok K μ H S) {x : D} {v : V} {ns : List Bool} (r : R K μ H x v) (h : (listOf S x).bind bolsOf = some ns) : ∃ p, v = .ref p ∧ SqL K H p (ns.map V.bl) := by
  cases q : listOf S x with
  | none => rw [q] at h; cases h
  | some ys =>
    rw [q] at h
    obtain ⟨p, vs, rfl, hs, hl, rr⟩ := listOf_ok ok r q
    have e := bolsOf_eq (show bolsOf ys = some ns from h)
    subst e
    rw [rr.bolsV] at hs
    exact ⟨p, rfl, hs⟩
theorem d_sum (hc : X.calm = true) : CallR X (.builtin "sum") (rA (X.kwp pq) oSum) := by
  intro pins s σ H xs us Q I r hr
  obtain ⟨μ, S, ds, ok, rd, hp⟩ := hr
  unfold oSum at hp
  split at hp
  · obtain ⟨v, rfl, rx⟩ := rd.one
    split at hp
    · rename_i ns q
      obtain ⟨p, rfl, hs⟩ := listInts ok rx q
      exact cr_sum hc pins s σ H _ us Q I r ⟨p, ns, rfl, hs, hp.same ok (.int _)⟩
    · exact hp.elim
  · exact hp.elim
theorem d_any (hc : X.calm = true) : CallR X (.builtin "any") (rA (X.kwp pq) oAny) := by
  intro pins s σ H xs us Q I r hr
  obtain ⟨μ, S, ds, ok, rd, hp⟩ := hr
  unfold oAny at hp
  split at hp
  · obtain ⟨v, rfl, rx⟩ := rd.one
    split at hp
    · rename_i ns q
      obtain ⟨p, rfl, hs⟩ := listBols ok rx q
      exact cr_any hc pins s σ H _ us Q I r ⟨p, ns, rfl, hs, hp.same ok (.bl _)⟩
    · exact hp.elim
  · exact hp.elim
theorem d_all (hc : X.calm = true) : CallR X (.builtin "all") (rA (X.kwp pq) oAll) := by
  intro pins s σ H xs us Q I r hr
  obtain ⟨μ, S, ds, ok, rd, hp⟩ := hr
  unfold oAll at hp
  split at hp
  · obtain ⟨v, rfl, rx⟩ := rd.one
    split at hp
    · rename_i ns q
      obtain ⟨p, rfl, hs⟩ := listBols ok rx q
      exact cr_all hc pins s σ H _ us Q I r ⟨p, ns, rfl, hs, hp.same ok (.bl _)⟩
    · exact hp.elim
  · exact hp.elim
/-! ### sorted -/
def okSort (xs : List D) : Prop := D.fitsL xs = true ∧ D.depL xs ≤ 60 ∧ (∀ x ∈ xs, ∀ y ∈ xs, PySem.W.alike x.py y.py = true) ∧ PySem.W.Sortable (xs.map D.py)
noncomputable def sortD (xs : List D) : List D := xs.mergeSort (PySem.W.dataLe false D.py)
open Classical in
noncomputable def oSorted : OA := fun xs S => match xs with
  | [x] => match listOf S x with
    | some ys => if okSort ys then some (.loc S.length, S ++ [.lst (sortD ys)]) else none
    | none => none
  | _ => none
theorem each_of {pins : List (Addr × Obj)} {s : Shared} {σ : L2.St} {H : Hp} {μ : List Addr} (I : Inv X pins σ H s) : ∀ {xs : List D} {vs : List V} {us : List Value}, RL (X.kwp pq) μ H xs vs → Vals vs us → D.fitsL xs = true →
    PySem.W.EachIs (fun (u : Value) (d : D) => ∃ v, RelV v u ∧ R (X.kwp pq) μ H d v) us xs ∧ PySem.W.EachIs (fun (u : Value) (d : D) => ∃ as, Reads s.heap u d.py as) us xs
  | _, _, _, .nil, .nil, _ => ⟨.nil, .nil⟩
  | _, _, _, .cons r t, .cons q qs, f => by
    rw [D.fitsL, Bool.and_eq_true] at f
    obtain ⟨h1, h2⟩ := each_of I t qs f.2
    exact ⟨.cons ⟨_, q, r⟩ h1, .cons (r.reads I f.1 q) h2⟩
theorem of_each {H : Hp} {μ : List Addr} : ∀ {xs : List D} {us : List Value}, PySem.W.EachIs (fun (u : Value) (d : D) => ∃ v, RelV v u ∧ R (X.kwp pq) μ H d v) us xs → ∃ vs, RL (X.kwp pq) μ H xs vs ∧ Vals vs us
  | _, _, .nil => ⟨[], .nil, .nil⟩
  | _, _, .cons ⟨v, r, q⟩ t => by
    obtain ⟨vs, h1, h2⟩ := of_each t
    exact ⟨v :: vs, .cons q h1, .cons r h2⟩
theorem depL_mem {xs : List D} {x : D} (h : x ∈ xs) : x.dep ≤ D.depL xs := by
  obtain ⟨j, hj, e⟩ := List.getElem_of_mem h
  exact depL_get (j := j) (by rw [List.getElem?_eq_getElem hj, e])
theorem fitsL_mem {xs : List D} {x : D} (f : D.fitsL xs = true) (h : x ∈ xs) : x.fits = true := by
  obtain ⟨j, hj, e⟩ := List.getElem_of_mem h
  exact fitsL_get (j := j) f (by rw [List.getElem?_eq_getElem hj, e])
theorem d_sorted (hu : X.A.units + 64 < cLine) : CallR X (.builtin "sorted") (rA (X.kwp pq) oSorted) := by
  intro pins s σ H xs us Q I r hr
  obtain ⟨μ, S, ds, ok, rd, hp⟩ := hr
  unfold oSorted at hp
  split at hp
  · rename_i x
    obtain ⟨v, rfl, rx⟩ := rd.one
    cases q : listOf S x with
    | none => rw [q] at hp; exact hp.elim
    | some ys =>
      rw [q] at hp
      simp only at hp
      split at hp
      · rename_i hk
        obtain ⟨hf, hd, hal, hso⟩ := hk
        obtain ⟨p, vs, rfl, hs, hl, rr⟩ := listOf_ok ok rx q
        obtain ⟨u, rfl, ru⟩ := vals1 r
        cases ru
        obtain ⟨its, rv, pl, _⟩ := I.list hs
        obtain ⟨e1, e2⟩ := each_of I rr rv hf
        refine PySem.W.sorted_data (enc := D.py) (bs := ys) pl.isList e1 e2 (fun d h1 d' h2 => ?_) hso (by rw [rr.length]; exact hl) (fun b hb => ?_) fun out ho hout => ?_
        · obtain ⟨x, hx, rfl⟩ := List.mem_map.mp h1
          obtain ⟨y, hy, rfl⟩ := List.mem_map.mp h2
          exact hal x hx y hy
        · rw [D.depth b (fitsL_mem hf hb)]
          have := depL_mem hb
          omega
        · obtain ⟨ws, h1, h2⟩ := of_each hout
          obtain ⟨n, hn⟩ := sortedAll_at s.heap its out.toArray
          have hfr : H (s.heap.objs.size + 1) = none := I.hok.fresh (Nat.le_succ _)
          have hlen : ws.length ≤ sizeLine := by
            rw [← h1.length, List.length_mergeSort, rr.length]
            exact hl
          exact ⟨.ref (s.heap.objs.size + 1), _, I.laid (t' := s.toks) (fun _ _ => sortedAll_old) (Nat.le_succ _) (show ObjOk X.prog X.w _ _ _ (.lst ws) from ⟨hlen, out, n, h2, hn⟩), rfl, PV.lst hp ok hlen h1 _ hfr⟩
      · exact hp.elim
  · exact hp.elim
/-! ### isinstance with a built-in type -/
def tyName : D → String
  | .non => "NoneType"
  | .bl _ => "bool"
  | .int _ => "int"
  | .str _ => "str"
  | .tup _ => "tuple"
  | .rol _ => "list"
  | .loc _ => "list"
/-- no dict -/
def noDct (x : D) (S : Store) : Bool := match x with
  | .loc l => match S[l]? with
    | some (.lst _) => true
    | _ => false
  | _ => true
theorem noDct_lst {H : Hp} {μ : List Addr} {S : Store} (ok : Ok K μ H S) {l : Nat} {p : Addr} (hl : μ[l]? = some p) (z : noDct (.loc l) S = true) : ∃ ws, H p = some (.lst ws) := by
  simp only [noDct] at z
  cases q : S[l]? with
  | none => rw [q] at z; cases z
  | some c =>
    obtain ⟨p', h1, hc⟩ := ok.at q
    rw [hl] at h1; cases h1
    cases c with
    | dct _ => rw [q] at z; cases z
    | lst ws =>
      obtain ⟨vs, h, _⟩ := hc
      exact ⟨vs, h⟩
theorem ty_of {H : Hp} {μ : List Addr} {S : Store} (ok : Ok (X.kwp pq) μ H S) {x : D} {v : V} (r : R (X.kwp pq) μ H x v) (z : noDct x S = true) : TyX (X.kwp pq) H v (.type (tyName x)) := by
  cases r with
  | non => exact .base .non
  | bl b => exact .base (.bl b)
  | int i => exact .base (.int i)
  | str y => exact .base (.str y)
  | @tup p vs xs hs l rr =>
    rcases hs with (h | ⟨o, h⟩) | ⟨o, its, n, hk, hc, _⟩
    · exact .base (.tup h)
    · exact .fTuple h
    · exact .kTuple hk hc
  | @rol p vs xs hs l rr =>
    rcases hs with ⟨o, h⟩ | ⟨o, its, n, hk, hc, _⟩
    · exact .base (.frz h)
    · exact .kList hk hc
  | @loc l p hl =>
    obtain ⟨ws, hw⟩ := noDct_lst ok hl z
    exact .base (.lst hw)
def cIsi (T : String) (f : DE) : DE := fun σ S => (f σ S).bind fun x S1 => if noDct x S1 = true then match kitB (tyName x) T with
  | some b => .ok (.bl b) S1
  | none => .no
  else .no
theorem e_isi {T : Str} {n : String} {p p2 : Pos} (hm : X.mg "isinstance" = none) (hm2 : X.mg T = none) (hv : bootBuiltins T = some (.type n)) (ha : PE X e (tE (X.kwp pq) X.mg W f)) (hg : Gl X "isinstance" := by rfl) (hg2 : Gl X T := by rfl) (hn : T ≠ "__name__" := by decide) (hdb : (T == ("__debug__" : Str)) = false := by decide)
    (he : starEach [e, .Name T p2] X.env = (false, eval e X.env) :: starEach [.Name T p2] X.env := by rfl) (he2 : starEach [.Name T p2] X.env = (false, eval (.Name T p2) X.env) :: starEach [] X.env := by rfl) (hpl : (backTo pos (starEach [.Name T p2] X.env)).any (·.1) = false := by rfl) :
    PE X (.Call (.Name "isinstance" p) [e, .Name T p2] [] pos) (tE (X.kwp pq) X.mg W (cIsi n f)) := by
  refine PE.weak (pe_callB (pos := pos) (p := p) call_isi hg hm (by decide +kernel) (pa_cons ha (pa_cons (pe_bltn (v := .ty n) hg2 hm2 hv rfl hn hdb) pa_nil he2) he) (by decide) (by decide) he hpl) fun σ H Q hh => ?_
  refine tG1 (RA := R (X.kwp pq)) hh fun x S μ H v ok rx hh => ?_
  cases z : noDct x S with
  | false => rw [if_neg (by rw [z]; decide)] at hh; exact hh.elim
  | true =>
  rw [if_pos z] at hh
  cases q : kitB (tyName x) n with
  | none => rw [q] at hh; exact hh.elim
  | some b =>
    rw [q] at hh
    exact ⟨v, .ty n, _, _, b, rfl, .ty n, ty_of ok rx z, kit_ty q, hh μ H _ (Ext.refl _ _) ok (.bl _)⟩
end
end DL

namespace DL
open PySem PySem.Spec PyProof.Rows L2
/-! ### methods of a list -/
def isL : D → Store → Bool
  | .rol _, _ => true
  | .loc l, S => noDct (.loc l) S
  | _, _ => false
abbrev OM := D → List D → Store → Option (D × Store)
def cMeth (isT : D → Store → Bool) (k : OM) (f : DE) (a : DA) : DE := fun σ S => (f σ S).bind fun x S1 => if isT x S1 = true then (a σ S1).bind fun xs S2 => Res.of (k x xs S2) else .no
def rM (K : KW) (k : OM) : V → List V → Hp → VK → Prop := fun v vs H Q => ∃ μ S x xs, Ok K μ H S ∧ R K μ H x v ∧ RL K μ H xs vs ∧ PV K (R K) μ H (k x xs S) Q
/-- a list of the store that is changed -/
def upL (l : Nat) (S : Store) (ys : List D) : Option (D × Store) := if ys.length ≤ sizeLine then some (.non, S.set l (.lst ys)) else none
def mAppend : OM := fun x xs S => match x, xs with
  | .loc l, [d] => match S[l]? with
    | some (.lst ys) => upL l S (ys ++ [d])
    | _ => none
  | _, _ => none
def mExtend : OM := fun x xs S => match x, xs with
  | .loc l, [.loc m] => match S[l]?, S[m]? with
    | some (.lst ys), some (.lst zs) => upL l S (ys ++ zs)
    | _, _ => none
  | _, _ => none
def mPop : OM := fun x xs S => match x, xs with
  | .loc l, [] => match S[l]? with
    | some (.lst ys) => match ys[ys.length - 1]? with
      | some d => some (d, S.set l (.lst ys.dropLast))
      | none => none
    | _ => none
  | .loc l, [.int i] => match S[l]? with
    | some (.lst ys) => match ixN ys.length i with
      | some k => match ys[k]? with
        | some d => some (d, S.set l (.lst (ys.eraseIdx k)))
        | none => none
      | none => none
    | _ => none
  | _, _ => none
def mReverse : OM := fun x xs S => match x, xs with
  | .loc l, [] => match S[l]? with
    | some (.lst ys) => some (.non, S.set l (.lst ys.reverse))
    | _ => none
  | _, _ => none
section
variable {X : Cx} {pq : Option Pin} {W : WX} {pos : Pos} {a b c e o : Expr} {es : List Expr} {f g h : DE} {fa : DA} {K : KW} {mg : Str → Option Value}
theorem tyL {H : Hp} {μ : List Addr} {S : Store} (ok : Ok K μ H S) {x : D} {v : V} (r : R K μ H x v) (h : isL x S = true) : tyV K "list" v H := by
  cases r with
  | @rol p vs xs hs l rr => exact .inl ⟨rfl, vs, hs.sq⟩
  | @loc l p hl =>
    obtain ⟨ws, hw⟩ := noDct_lst ok hl h
    exact .inl ⟨rfl, ws, .inl (.inl hw)⟩
  | _ => cases h
def isS : D → Bool
  | .str _ => true
  | _ => false
theorem tyS {H : Hp} {μ : List Addr} {S : Store} (ok : Ok K μ H S) {x : D} {v : V} (r : R K μ H x v) (h : isS x = true) : tyV K "str" v H := by
  cases r with
  | str z => rfl
  | _ => cases h
theorem tE_meth {T : String} {isT : D → Store → Bool} {k : OM} (hT : ∀ {H : Hp} {μ : List Addr} {S : Store}, Ok K μ H S → ∀ {x : D} {v : V}, R K μ H x v → isT x S = true → tyV K T v H) {σ : L2.St} {H : Hp} {Q : VK} (hh : tE K mg W (cMeth isT k f fa) σ H Q) :
    tBM K T (rM K k) (tE K mg W f) (tA K mg W fa) σ H Q := by
  refine tG1e (k := fun σ x S1 => if isT x S1 = true then (fa σ S1).bind fun xs S2 => Res.of (k x xs S2) else .no) (RA := R K) hh fun σD x S μ H v ok en rx hh => ?_
  split at hh
  · rename_i ht
    exact ⟨hT ok rx ht, μ, σD, S, ok, en, Post.bind hh fun xs S2 μ2 H2 vs x2 ok2 rxs hh => ⟨μ2, S2, x, xs, ok2, rx.mono x2, rxs, hh.of⟩⟩
  · exact hh.elim
theorem tE_meth0 {T : String} {isT : D → Store → Bool} {k : OM} (hT : ∀ {H : Hp} {μ : List Addr} {S : Store}, Ok K μ H S → ∀ {x : D} {v : V}, R K μ H x v → isT x S = true → tyV K T v H) {σ : L2.St} {H : Hp} {Q : VK} (hh : tE K mg W (cMeth isT k f aNil) σ H Q) :
    tBM0 K T (rM K k) (tE K mg W f) σ H Q := by
  refine tG1e (k := fun σ x S1 => if isT x S1 = true then (aNil σ S1).bind fun xs S2 => Res.of (k x xs S2) else .no) (RA := R K) hh fun σD x S μ H v ok en rx hh => ?_
  split at hh
  · rename_i ht
    exact ⟨hT ok rx ht, μ, S, x, [], ok, rx, .nil, hh.of⟩
  · exact hh.elim
theorem upL_ok {μ : List Addr} {H : Hp} {S : Store} (ok : Ok K μ H S) {l : Nat} {p : Addr} (hl : μ[l]? = some p) {ys : List D} {ws : List V} (rr : RL K μ H ys ws) {Q : VK} (hp : PV K (R K) μ H (upL l S ys) Q) : ws.length ≤ sizeLine ∧ Q .non (upd H p (.lst ws)) := by
  unfold upL at hp
  split at hp
  · rename_i hz
    rw [rr.length] at hz
    obtain ⟨x1, ok1⟩ := ok.set hl hz rr
    exact ⟨hz, hp μ _ _ x1 ok1 .non⟩
  · exact hp.elim
theorem loc_at {μ : List Addr} {H : Hp} {S : Store} (ok : Ok K μ H S) {l : Nat} {v : V} (r : R K μ H (.loc l) v) {ys : List D} (q : S[l]? = some (.lst ys)) : ∃ p vs, v = .ref p ∧ μ[l]? = some p ∧ H p = some (.lst vs) ∧ vs.length ≤ sizeLine ∧ RL K μ H ys vs := by
  cases r with
  | @loc _ p hl =>
    obtain ⟨p', h1, hc⟩ := ok.at q
    rw [hl] at h1; cases h1
    obtain ⟨vs, hv, l, rr⟩ := hc
    exact ⟨p, vs, rfl, hl, hv, l, rr⟩
theorem d_append : MtR X "list.append" (rM (X.kwp pq) mAppend) := by
  intro pins s σ H x xs v us Q I rx rs hr
  obtain ⟨μ, S, d, ds, ok, rd, rds, hp⟩ := hr
  unfold mAppend at hp
  split at hp
  · split at hp
    · rename_i l y ys q
      obtain ⟨p, vs, rfl, hl, hv, hz, rr⟩ := loc_at ok rd q
      obtain ⟨w, rfl, rw'⟩ := rds.one
      obtain ⟨hz', hq⟩ := upL_ok ok hl (rr.append (.cons rw' .nil)) hp
      rw [List.length_append] at hz'
      exact mt_append pins s σ H _ _ v us Q I rx rs ⟨p, vs, w, rfl, rfl, hv, Nat.lt_of_lt_of_le (Nat.lt_succ_self _) hz', hq⟩
    · exact hp.elim
  · exact hp.elim
theorem d_extend : MtR X "list.extend" (rM (X.kwp pq) mExtend) := by
  intro pins s σ H x xs v us Q I rx rs hr
  obtain ⟨μ, S, d, ds, ok, rd, rds, hp⟩ := hr
  unfold mExtend at hp
  split at hp
  · split at hp
    · rename_i l m ys zs q1 q2
      obtain ⟨p, vs, rfl, hl, hv, hz, rr⟩ := loc_at ok rd q1
      obtain ⟨w, rfl, rw'⟩ := rds.one
      obtain ⟨p2, ws, rfl, hl2, hv2, hz2, rr2⟩ := loc_at ok rw' q2
      obtain ⟨hz', hq⟩ := upL_ok ok hl (rr.append rr2) hp
      rw [List.length_append] at hz'
      exact mt_extend pins s σ H _ _ v us Q I rx rs ⟨p, p2, vs, ws, rfl, rfl, hv, hv2, hz', hq⟩
    · exact hp.elim
  · exact hp.elim
theorem d_pop : MtR X "list.pop" (rM (X.kwp pq) mPop) := by
  intro pins s σ H x xs v us Q I rx rs hr
  obtain ⟨μ, S, d, ds, ok, rd, rds, hp⟩ := hr
  unfold mPop at hp
  split at hp
  · split at hp
    · rename_i l ys q
      split at hp
      · rename_i d' qd
        obtain ⟨p, vs, rfl, hl, hv, hz, rr⟩ := loc_at ok rd q
        cases rds
        obtain ⟨w, hw, rw'⟩ := rr.get qd
        obtain ⟨x1, ok1⟩ := ok.set hl (vs := vs.dropLast) (by rw [List.length_dropLast]; omega) rr.dropLast
        exact mt_pop pins s σ H _ _ v us Q I rx rs ⟨p, vs, w, rfl, rfl, hv, by rw [← rr.length]; exact hw, hp μ _ _ x1 ok1 (rw'.mono x1)⟩
      · exact hp.elim
    · exact hp.elim
  · split at hp
    · rename_i l i _ ys q
      split at hp
      · rename_i k qk
        split at hp
        · rename_i d' qd
          obtain ⟨p, vs, rfl, hl, hv, hz, rr⟩ := loc_at ok rd q
          obtain ⟨w0, rfl, rw0⟩ := rds.one
          cases rw0
          obtain ⟨w, hw, rw'⟩ := rr.get qd
          obtain ⟨h1, h2, h3, h4⟩ := ixN_seq qk
          rw [rr.length] at h1 h2 h3 h4
          obtain ⟨x1, ok1⟩ := ok.set hl (vs := vs.eraseIdx k) (Nat.le_trans (len_erase _ _) hz) (rr.eraseIdx k)
          have hs := sizeLine_eq
          exact mt_popAt pins s σ H _ _ v us Q I rx rs ⟨p, vs, i, k, w, rfl, rfl, hv, by omega, by omega, h1, hw, hp μ _ _ x1 ok1 (rw'.mono x1)⟩
        · exact hp.elim
      · exact hp.elim
    · exact hp.elim
  · exact hp.elim
theorem d_reverse : MtR X "list.reverse" (rM (X.kwp pq) mReverse) := by
  intro pins s σ H x xs v us Q I rx rs hr
  obtain ⟨μ, S, d, ds, ok, rd, rds, hp⟩ := hr
  unfold mReverse at hp
  split at hp
  · split at hp
    · rename_i l ys q
      obtain ⟨p, vs, rfl, hl, hv, hz, rr⟩ := loc_at ok rd q
      cases rds
      obtain ⟨x1, ok1⟩ := ok.set hl (vs := vs.reverse) (by rw [List.length_reverse]; exact hz) rr.reverse
      exact mt_reverse pins s σ H _ _ v us Q I rx rs ⟨p, vs, rfl, rfl, hv, hp μ _ _ x1 ok1 .non⟩
    · exact hp.elim
  · exact hp.elim
theorem e_append (ho : PE X o (tE (X.kwp pq) X.mg W f)) (ha : PA X (e :: es) (tA (X.kwp pq) X.mg W fa)) {apos : Pos} (hbase : attributeBase o "append" X.env (eval o X.env) = eval o X.env := by rfl)
    (hfew : ((backTo pos (starEach (e :: es) X.env)).all (fun x => !x.1) && (backToKw pos (keywordEach [] X.env)).all (fun x => x.1.isSome) && decide ((e :: es).length + ([] : List Keyword).length + (if ([] : List Keyword).isEmpty then 0 else 1) < 30)) = true := by rfl)
    (hline : (apos.endLine == pos.line) = true := by rfl) (hs : starEach (e :: es) X.env = (false, eval e X.env) :: starEach es X.env := by rfl) (hplain : (backTo pos (starEach es X.env)).any (·.1) = false := by rfl) :
    PE X (.Call (.Attribute o "append" apos) (e :: es) [] pos) (tE (X.kwp pq) X.mg W (cMeth isL mAppend f fa)) :=
  PE.weak (pe_bm PySem.F.plainAttrs_list PySem.F.slot_list_append PySem.F.type_list_append (d_append (pq := pq)) ho ha hbase hfew hline hs hplain) fun _ _ _ => tE_meth tyL
theorem e_extend (ho : PE X o (tE (X.kwp pq) X.mg W f)) (ha : PA X (e :: es) (tA (X.kwp pq) X.mg W fa)) {apos : Pos} (hbase : attributeBase o "extend" X.env (eval o X.env) = eval o X.env := by rfl)
    (hfew : ((backTo pos (starEach (e :: es) X.env)).all (fun x => !x.1) && (backToKw pos (keywordEach [] X.env)).all (fun x => x.1.isSome) && decide ((e :: es).length + ([] : List Keyword).length + (if ([] : List Keyword).isEmpty then 0 else 1) < 30)) = true := by rfl)
    (hline : (apos.endLine == pos.line) = true := by rfl) (hs : starEach (e :: es) X.env = (false, eval e X.env) :: starEach es X.env := by rfl) (hplain : (backTo pos (starEach es X.env)).any (·.1) = false := by rfl) :
    PE X (.Call (.Attribute o "extend" apos) (e :: es) [] pos) (tE (X.kwp pq) X.mg W (cMeth isL mExtend f fa)) :=
  PE.weak (pe_bm PySem.F.plainAttrs_list PySem.F.slot_list_extend PySem.F.type_list_extend (d_extend (pq := pq)) ho ha hbase hfew hline hs hplain) fun _ _ _ => tE_meth tyL
theorem e_popAt (ho : PE X o (tE (X.kwp pq) X.mg W f)) (ha : PA X (e :: es) (tA (X.kwp pq) X.mg W fa)) {apos : Pos} (hbase : attributeBase o "pop" X.env (eval o X.env) = eval o X.env := by rfl)
    (hfew : ((backTo pos (starEach (e :: es) X.env)).all (fun x => !x.1) && (backToKw pos (keywordEach [] X.env)).all (fun x => x.1.isSome) && decide ((e :: es).length + ([] : List Keyword).length + (if ([] : List Keyword).isEmpty then 0 else 1) < 30)) = true := by rfl)
    (hline : (apos.endLine == pos.line) = true := by rfl) (hs : starEach (e :: es) X.env = (false, eval e X.env) :: starEach es X.env := by rfl) (hplain : (backTo pos (starEach es X.env)).any (·.1) = false := by rfl) :
    PE X (.Call (.Attribute o "pop" apos) (e :: es) [] pos) (tE (X.kwp pq) X.mg W (cMeth isL mPop f fa)) :=
  PE.weak (pe_bm PySem.F.plainAttrs_list PySem.F.slot_list_pop PySem.F.type_list_pop (d_pop (pq := pq)) ho ha hbase hfew hline hs hplain) fun _ _ _ => tE_meth tyL
theorem e_pop (ho : PE X o (tE (X.kwp pq) X.mg W f)) {apos : Pos} (hbase : attributeBase o "pop" X.env (eval o X.env) = eval o X.env := by rfl) (hline : (apos.endLine == pos.line) = true := by rfl) :
    PE X (.Call (.Attribute o "pop" apos) [] [] pos) (tE (X.kwp pq) X.mg W (cMeth isL mPop f aNil)) :=
  PE.weak (pe_bm0 PySem.F.plainAttrs_list PySem.F.slot_list_pop PySem.F.type_list_pop (d_pop (pq := pq)) ho hbase hline) fun _ _ _ => tE_meth0 tyL
theorem e_reverse (ho : PE X o (tE (X.kwp pq) X.mg W f)) {apos : Pos} (hbase : attributeBase o "reverse" X.env (eval o X.env) = eval o X.env := by rfl) (hline : (apos.endLine == pos.line) = true := by rfl) :
    PE X (.Call (.Attribute o "reverse" apos) [] [] pos) (tE (X.kwp pq) X.mg W (cMeth isL mReverse f aNil)) :=
  PE.weak (pe_bm0 PySem.F.plainAttrs_list PySem.F.slot_list_reverse PySem.F.type_list_reverse (d_reverse (pq := pq)) ho hbase hline) fun _ _ _ => tE_meth0 tyL
end

/-! ### statements -/
def sNil : DS := fun σ S => .nx σ S
def sSeq (f g : DS) : DS := fun σ S => match f σ S with
  | .nx σ' S' => g σ' S'
  | r => r
def SR.ofE (σ : Sg) (r : Res D) (k : D → Store → SR) : SR := match r with
  | .ok d S => k d S
  | .ex e S => .ex e σ S
  | .no => .no
def sExpr (f : DE) : DS := fun σ S => SR.ofE σ (f σ S) fun _ S1 => .nx σ S1
def sRet (f : DE) : DS := fun σ S => SR.ofE σ (f σ S) fun d S1 => .rt d S1
def sRetN : DS := fun _ S => .rt .non S
def sBreak : DS := fun σ S => .bk σ S
def sCont : DS := fun σ S => .ct σ S
def SR.ofT (σ : Sg) (r : Res Bool) (k : Bool → Store → SR) : SR := match r with
  | .ok d S => k d S
  | .ex e S => .ex e σ S
  | .no => .no
def sIf (t : DT) (f g : DS) : DS := fun σ S => SR.ofT σ (t σ S) fun b S1 => if b = true then f σ S1 else g σ S1
/-- a target: the value, the slots, the store -/
abbrev DG := D → Sg → Store → SR
def gSet (i : Nat) : DG := fun d σ S => .nx (σ.set i (some d)) S
abbrev DGs := List D → Sg → Store → SR
def gN : DGs := fun ds σ S => match ds with
  | [] => .nx σ S
  | _ :: _ => .no
def gC (g : DG) (gs : DGs) : DGs := fun ds σ S => match ds with
  | [] => .no
  | d :: r => match g d σ S with
    | .nx σ' S' => gs r σ' S'
    | .ex e σ' S' => .ex e σ' S'
    | _ => .no
def gUn (n : Nat) (gs : DGs) : DG := fun d σ S => match itemsOf S d with
  | some xs => if xs.length = n then gs xs σ S else .no
  | none => .no
/-- o[i] = d -/
def oSet (o i d : D) (S : Store) : Option Store := match o, i with
  | .loc l, .int k => match S[l]? with
    | some (.lst ys) => match ixN ys.length k with
      | some j => some (S.set l (.lst (ys.set j d)))
      | none => none
    | _ => none
  | _, _ => none
def gSubD (fo fi : DE) : DG := fun d σ S => SR.ofE σ (fo σ S) fun o S1 => SR.ofE σ (fi σ S1) fun i S2 => match oSet o i d S2 with
  | some S3 => .nx σ S3
  | none => .no
def sAsg (f : DE) (g : DG) : DS := fun σ S => SR.ofE σ (f σ S) fun d S1 => match g d σ S1 with
  | .nx σ' S' => .nx σ' S'
  | .ex e σ' S' => .ex e σ' S'
  | _ => .no
def sSet (i : Nat) (f : DE) : DS := fun σ S => SR.ofE σ (f σ S) fun d S1 => .nx (σ.set i (some d)) S1
/-- a, b = e1, e2 -/
def sPar (i j : Nat) (f g : DE) : DS := fun σ S => SR.ofE σ (f σ S) fun x S1 => SR.ofE σ (g σ S1) fun y S2 => .nx ((σ.set i (some x)).set j (some y)) S2
def sAug (i : Nat) (k : O2) (f : DE) : DS := fun σ S => match σ[i]? with
  | some (some x) => SR.ofE σ (f σ S) fun y S1 => match k x y S1 with
    | some (z, S2) => .nx (σ.set i (some z)) S2
    | none => .no
  | _ => .no
section
variable {X : Cx} {pq : Option Pin} {W : WX} {pos : Pos} {a b c e o : Expr} {es : List Expr} {f g h : DE} {t : DT} {fa : DA} {K : KW} {mg : Str → Option Value} {st : Stmt} {rest : List Stmt} {fs gs : DS}
theorem ss_nil : PSs X [] (tS (X.kwp pq) X.mg W sNil) := PSs.weak pss_nil fun D σ H hh => by
  obtain ⟨μ, σD, S, ok, en, hh⟩ := hh
  exact hh μ H σ (Ext.refl _ _) ok en
theorem SPost.seq {μ : List Addr} {H : Hp} {r : SR} {k : Sg → Store → SR} {Dn : Ends} {nx : L2.St → Hp → Prop} (hh : SPost K mg W μ H (match r with | .nx σ' S' => k σ' S' | r => r) Dn)
    (hk : ∀ σ S μ' H' σV', Ext μ H μ' H' → Ok K μ' H' S → EnvR K μ' H' σ σV' → SPost K mg W μ' H' (k σ S) Dn → nx σV' H') : SPost K mg W μ H r { Dn with nx := nx } := by
  cases r with
  | nx σ S => exact fun μ' H' σV' x ok en => hk σ S μ' H' σV' x ok en (SPost.mono x hh)
  | rt d S => exact hh
  | bk σ S => exact hh
  | ct σ S => exact hh
  | ex e σ S => exact hh
  | no => exact hh
theorem ss_cons (h1 : PS X st (tS (X.kwp pq) X.mg W fs)) (h2 : PSs X rest (tS (X.kwp pq) X.mg W gs)) : PSs X (st :: rest) (tS (X.kwp pq) X.mg W (sSeq fs gs)) := PSs.weak (pss_cons h1 h2) fun D σ H hh => by
  obtain ⟨μ, σD, S, ok, en, hh⟩ := hh
  exact ⟨μ, σD, S, ok, en, SPost.seq hh fun σ' S' μ' H' σV' x ok' en' hh' => ⟨μ', σ', S', ok', en', hh'⟩⟩
theorem ss_one (h1 : PS X st (tS (X.kwp pq) X.mg W fs)) : PSs X [st] (tS (X.kwp pq) X.mg W fs) := pss_one h1
/-- an expression first -/
theorem tS_E {σ : L2.St} {H : Hp} {k : Sg → D → Store → SR} {Dn : Ends} {Q : VK} (hh : tS K mg W (fun σ S => SR.ofE σ (f σ S) (k σ)) Dn σ H)
    (hk : ∀ σD d S μ' H' v, Ok K μ' H' S → EnvR K μ' H' σD σ → R K μ' H' d v → SPost K mg W μ' H' (k σD d S) Dn → Q v H') : tE K mg W f σ H Q := by
  obtain ⟨μ, σD, S, ok, en, hh⟩ := hh
  dsimp only at hh
  refine ⟨μ, σD, S, ok, en, ?_⟩
  cases q : f σD S with
  | ok d S1 =>
    rw [q] at hh
    exact fun μ' H' v x ok' r => hk σD d S1 μ' H' v ok' (en.mono x) r (SPost.mono x hh)
  | ex e S1 =>
    rw [q] at hh
    exact fun μ' H' cls dx x ok' r => hh μ' H' σ cls dx x ok' (en.mono x) r
  | no => rw [q] at hh; exact hh.elim
theorem tS_T {σ : L2.St} {H : Hp} {k : Sg → Bool → Store → SR} {Dn : Ends} {Q : Bool → Hp → Prop} (hh : tS K mg W (fun σ S => SR.ofT σ (t σ S) (k σ)) Dn σ H)
    (hk : ∀ σD d S μ' H', Ok K μ' H' S → EnvR K μ' H' σD σ → SPost K mg W μ' H' (k σD d S) Dn → Q d H') : tT K mg W t σ H Q := by
  obtain ⟨μ, σD, S, ok, en, hh⟩ := hh
  dsimp only at hh
  refine ⟨μ, σD, S, ok, en, ?_⟩
  cases q : t σD S with
  | ok d S1 =>
    rw [q] at hh
    exact fun μ' H' v x ok' r => by
      cases r
      exact hk σD d S1 μ' H' ok' (en.mono x) (SPost.mono x hh)
  | ex e S1 =>
    rw [q] at hh
    exact fun μ' H' cls dx x ok' r => hh μ' H' σ cls dx x ok' (en.mono x) r
  | no => rw [q] at hh; exact hh.elim
theorem s_expr (he : PE X e (tE (X.kwp pq) X.mg W f)) (hs : swapsWith e none pos.line X.env = pure false := by rfl) : PS X (.Expr e pos) (tS (X.kwp pq) X.mg W (sExpr f)) := PS.weak (ps_expr he hs) fun D σ H hh =>
  tS_E (k := fun σ _ S1 => .nx σ S1) hh fun σD d S μ' H' v ok en r hh => hh μ' H' σ (Ext.refl _ _) ok en
theorem s_doc {x j pos'} : PS X (.Expr (.Constant (.str x) j pos') pos) (tS (X.kwp pq) X.mg W sNil) := PS.weak ps_doc fun D σ H hh => by
  obtain ⟨μ, σD, S, ok, en, hh⟩ := hh
  exact hh μ H σ (Ext.refl _ _) ok en
theorem s_pass : PS X (.Pass pos) (tS (X.kwp pq) X.mg W sNil) := PS.weak ps_pass fun D σ H hh => by
  obtain ⟨μ, σD, S, ok, en, hh⟩ := hh
  exact hh μ H σ (Ext.refl _ _) ok en
theorem s_break : PS X (.Break pos) (tS (X.kwp pq) X.mg W sBreak) := PS.weak ps_break fun D σ H hh => by
  obtain ⟨μ, σD, S, ok, en, hh⟩ := hh
  exact hh μ H σ (Ext.refl _ _) ok en
theorem s_cont : PS X (.Continue pos) (tS (X.kwp pq) X.mg W sCont) := PS.weak ps_continue fun D σ H hh => by
  obtain ⟨μ, σD, S, ok, en, hh⟩ := hh
  exact hh μ H σ (Ext.refl _ _) ok en
theorem s_ret (he : PE X e (tE (X.kwp pq) X.mg W f)) : PS X (.Return (some e) pos) (tS (X.kwp pq) X.mg W (sRet f)) := PS.weak (ps_ret he) fun D σ H hh =>
  tS_E (k := fun σ d S1 => .rt d S1) hh fun σD d S μ' H' v ok en r hh => hh μ' H' v (Ext.refl _ _) ok r
theorem s_retN : PS X (.Return none pos) (tS (X.kwp pq) X.mg W sRetN) := PS.weak ps_retN fun D σ H hh => by
  obtain ⟨μ, σD, S, ok, en, hh⟩ := hh
  exact hh μ H .non (Ext.refl _ _) ok .non
theorem s_if {c : Expr} {p q : List Stmt} (hc : PT X c (tT (X.kwp pq) X.mg W t)) (ha : PSs X p (tS (X.kwp pq) X.mg W fs)) (hb : PSs X q (tS (X.kwp pq) X.mg W gs)) : PS X (.If c p q pos) (tS (X.kwp pq) X.mg W (sIf t fs gs)) := PS.weak (ps_if hc ha hb) fun D σ H hh =>
  tS_T (k := fun σ b S1 => if b = true then fs σ S1 else gs σ S1) hh fun σD d S μ' H' ok en hh => by
    cases d with
    | true => exact ⟨μ', σD, S, ok, en, hh⟩
    | false => exact ⟨μ', σD, S, ok, en, hh⟩
theorem s_set {i : Nat} {x : Str} {e : Expr} {pos' : Pos} (hN : X.N.Nodup) (he : PE X e (tE (X.kwp pq) X.mg W f)) (hi : X.N[i]? = some x := by rfl) (hx : Loc X.env.scope x := by first | exact .inl rfl | exact .inr rfl) (hs : swapsWith e (some (.Name x pos')) pos.line X.env = pure false := by rfl) (hf : X.fn x = true ∨ X.env.scope.names.lookup x = some .local := by first | exact .inl rfl | exact .inr rfl | assumption) :
    PS X (.Assign [.Name x pos'] e pos) (tS (X.kwp pq) X.mg W (sSet i f)) := PS.weak (ps_set hN hi hx he hs hf) fun D σ H hh =>
  tS_E (k := fun σ d S1 => .nx (σ.set i (some d)) S1) hh fun σD d S μ' H' v ok en r hh => hh μ' H' _ (Ext.refl _ _) ok (en.set i r)
/-! targets -/
def tGt (K : KW) (mg : Str → Option Value) (W : WX) (g : DG) : TG := fun v σ H Q => ∃ μ σD S d, Ok K μ H S ∧ EnvR K μ H σD σ ∧ R K μ H d v ∧ match g d σD S with
  | .nx σ' S' => ∀ μ' H' σV', Ext μ H μ' H' → Ok K μ' H' S' → EnvR K μ' H' σ' σV' → Q σV' H'
  | .ex e σ' S' => ∀ μ' H' σV' cls dx, Ext μ H μ' H' → Ok K μ' H' S' → EnvR K μ' H' σ' σV' → ExR K mg μ' H' e cls dx → W cls dx σV' H'
  | _ => False
def tGts (K : KW) (mg : Str → Option Value) (W : WX) (g : DGs) : TGs := fun vs σ H Q => ∃ μ σD S ds, Ok K μ H S ∧ EnvR K μ H σD σ ∧ RL K μ H ds vs ∧ match g ds σD S with
  | .nx σ' S' => ∀ μ' H' σV', Ext μ H μ' H' → Ok K μ' H' S' → EnvR K μ' H' σ' σV' → Q σV' H'
  | .ex e σ' S' => ∀ μ' H' σV' cls dx, Ext μ H μ' H' → Ok K μ' H' S' → EnvR K μ' H' σ' σV' → ExR K mg μ' H' e cls dx → W cls dx σV' H'
  | _ => False
theorem PG.weak {X : Cx} {e : Expr} {t t' : TG} (h : PG X e t) (w : ∀ v σ H Q, t' v σ H Q → t v σ H Q) : PG X e t' := ⟨fun pins s σ H v u Q I r q => h.run pins s σ H v u Q I r (w v σ H Q q)⟩
theorem PGs.weak {X : Cx} {e : List Expr} {t t' : TGs} (h : PGs X e t) (w : ∀ v σ H Q, t' v σ H Q → t v σ H Q) : PGs X e t' := ⟨fun pins s σ H v u Q I r q => h.run pins s σ H v u Q I r (w v σ H Q q)⟩
theorem PG.or {X : Cx} {e : Expr} {t t' : TG} (h : PG X e t) (h' : PG X e t') : PG X e (fun v σ H Q => t v σ H Q ∨ t' v σ H Q) := ⟨fun pins s σ H v u Q I r q => q.elim (h.run pins s σ H v u Q I r) (h'.run pins s σ H v u Q I r)⟩
theorem g_name (i : Nat) {x : Str} (hN : X.N.Nodup) (hi : X.N[i]? = some x := by rfl) (hx : Loc X.env.scope x := by first | exact .inl rfl | exact .inr rfl) (hf : X.fn x = true ∨ X.env.scope.names.lookup x = some .local := by first | exact .inl rfl | exact .inr rfl | assumption) : PG X (.Name x pos) (tGt (X.kwp pq) X.mg W (gSet i)) :=
  PG.weak (pg_name hN hi hx hf) fun v σ H Q hh => by
    obtain ⟨μ, σD, S, d, ok, en, r, hh⟩ := hh
    exact hh μ H _ (Ext.refl _ _) ok (en.set i r)
theorem gs_nil : PGs X [] (tGts (X.kwp pq) X.mg W gN) := PGs.weak pgs_nil fun v σ H Q hh => by
  obtain ⟨μ, σD, S, d, ok, en, r, hh⟩ := hh
  cases r with
  | nil => exact ⟨rfl, hh μ H _ (Ext.refl _ _) ok en⟩
  | cons _ _ => exact hh.elim
theorem gs_cons {g : DG} {gs : DGs} (h1 : PG X e (tGt (X.kwp pq) X.mg W g)) (h2 : PGs X es (tGts (X.kwp pq) X.mg W gs)) (hs : (assignEach (e :: es) X.env).map (·.2) = assign e X.env :: (assignEach es X.env).map (·.2) := by rfl) : PGs X (e :: es) (tGts (X.kwp pq) X.mg W (gC g gs)) :=
  PGs.weak (pgs_cons h1 h2 hs) fun v σ H Q hh => by
    obtain ⟨μ, σD, S, d, ok, en, r, hh⟩ := hh
    cases r with
    | nil => exact hh.elim
    | @cons x v xs vs r1 r2 =>
      refine ⟨v, vs, rfl, μ, σD, S, x, ok, en, r1, ?_⟩
      simp only [gC] at hh
      cases q : g x σD S with
      | nx σ' S' =>
        rw [q] at hh
        exact fun μ' H' σV' x ok' en' => ⟨μ', σ', S', xs, ok', en', r2.mono x, by
          simp only at hh
          cases q2 : gs xs σ' S' with
          | nx σ2 S2 =>
            rw [q2] at hh
            exact fun μ2 H2 σ3 x2 => hh μ2 H2 σ3 (x.trans x2)
          | ex e σ2 S2 =>
            rw [q2] at hh
            exact fun μ2 H2 σ3 c d x2 => hh μ2 H2 σ3 c d (x.trans x2)
          | _ => rw [q2] at hh; exact hh.elim⟩
      | ex e σ' S' =>
        rw [q] at hh
        exact hh
      | _ => rw [q] at hh; exact hh.elim
theorem g_un {g : DGs} {k : Nat} {n : Nat} (h : PGs X es (tGts (X.kwp pq) X.mg W g)) (hc : X.calm = true := by rfl) (hn : (assignEach es X.env).length = n := by rfl) (hst : (assignEach es X.env).findIdx? (·.1) = none := by rfl) : PG X (.Tuple es k pos) (tGt (X.kwp pq) X.mg W (gUn n g)) :=
  PG.weak (PG.or (pg_tup hc h hn hst) (pg_lst hc h hn hst)) fun v σ H Q hh => by
    obtain ⟨μ, σD, S, d, ok, en, r, hh⟩ := hh
    simp only [gUn] at hh
    cases q : itemsOf S d with
    | none => rw [q] at hh; exact hh.elim
    | some xs =>
      rw [q] at hh
      simp only at hh
      obtain ⟨p, vs, rfl, hs, hl, rr⟩ := itemsOf_ok ok r q
      by_cases hln : xs.length = n
      · rw [if_pos hln] at hh
        rw [rr.length] at hln
        rcases hs with hs | hs
        · exact .inr ⟨p, vs, rfl, hs, hln, μ, σD, S, xs, ok, en, rr, hh⟩
        · exact .inl ⟨p, vs, rfl, hs, hln, μ, σD, S, xs, ok, en, rr, hh⟩
      · rw [if_neg hln] at hh
        exact hh.elim
/-- o[i] = v, by values -/
def rSet (K : KW) : V → V → V → Hp → (Hp → Prop) → Prop := fun vo vi v H Q => ∃ μ S o i d, Ok K μ H S ∧ R K μ H o vo ∧ R K μ H i vi ∧ R K μ H d v ∧ match oSet o i d S with
  | some S' => ∀ μ' H', Ext μ H μ' H' → Ok K μ' H' S' → Q H'
  | none => False
theorem d_set : PSet X (rSet (X.kwp pq)) := by
  intro pins s σ H vo vi v ov iv u Q I r1 r2 r3 hr
  obtain ⟨μ, S, o, i, d, ok, ro, ri, rd, hh⟩ := hr
  unfold oSet at hh
  split at hh
  · rename_i S' q
    split at q
    · split at q
      · rename_i l k _ ys q1
        split at q
        · rename_i j q2
          cases q
          obtain ⟨p, vs, rfl, hl, hv, hz, rr⟩ := loc_at ok ro q1
          cases ri
          obtain ⟨x1, ok1⟩ := ok.set hl (vs := vs.set j v) (by rw [List.length_set]; exact hz) (rr.set rd j)
          rw [rr.length] at q2
          exact set_list pins s σ H _ _ v ov iv u Q I r1 r2 r3 ⟨p, vs, k, j, rfl, rfl, hv, q2, hh μ _ x1 ok1⟩
        · cases q
      · cases q
    · cases q
  · exact hh.elim
theorem g_sub {o i : Expr} {fo fi : DE} (ho : PE X o (tE (X.kwp pq) X.mg W fo)) (hi : PE X i (tE (X.kwp pq) X.mg W fi)) (ha : ∀ v, assign (.Subscript o i pos) X.env v = (do
      let ov ← holding [v] (eval o X.env)
      let iv ← holding [v, ov] (eval i X.env)
      standAt pos
      holding [v, ov, iv] (setItem ov iv v)
      release [v, ov, iv] []) := by intro _; rfl) : PG X (.Subscript o i pos) (tGt (X.kwp pq) X.mg W (gSubD fo fi)) :=
  PG.weak (pg_sub ho hi d_set ha) fun v σ H Q hh => by
    obtain ⟨μ, σD, S, d, ok, en, r, hh⟩ := hh
    simp only [gSubD] at hh
    refine ⟨μ, σD, S, ok, en, ?_⟩
    cases q : fo σD S with
    | no => rw [q] at hh; exact hh.elim
    | ex e S1 =>
      rw [q] at hh
      exact fun μ' H' cls dx x ok' => hh μ' H' σ cls dx x ok' (en.mono x)
    | ok o1 S1 =>
      rw [q] at hh
      simp only [SR.ofE] at hh
      refine fun μ1 H1 vo x1 ok1 ro => ⟨μ1, σD, S1, ok1, en.mono x1, ?_⟩
      cases q2 : fi σD S1 with
      | no => rw [q2] at hh; exact hh.elim
      | ex e S2 =>
        rw [q2] at hh
        exact fun μ' H' cls dx x ok' => hh μ' H' σ cls dx (x1.trans x) ok' (en.mono (x1.trans x))
      | ok i1 S2 =>
        rw [q2] at hh
        simp only at hh
        refine fun μ2 H2 vi x2 ok2 ri => ⟨μ2, S2, o1, i1, d, ok2, ro.mono x2, ri, r.mono (x1.trans x2), ?_⟩
        cases q3 : oSet o1 i1 d S2 with
        | none => rw [q3] at hh; exact hh.elim
        | some S3 =>
          rw [q3] at hh
          exact fun μ3 H3 x3 ok3 => hh μ3 H3 σ ((x1.trans x2).trans x3) ok3 (en.mono ((x1.trans x2).trans x3))
theorem s_asg {tg e : Expr} {g : DG} (he : PE X e (tE (X.kwp pq) X.mg W f)) (hg : PG X tg (tGt (X.kwp pq) X.mg W g)) (hs : swapsWithSole [tg] e pos.line X.env = pure false := by rfl) (hw : swappedStores [tg] e X.env = pure none := by rfl)
    (h1 : (assignEach [tg] X.env).map (·.2) = [assign tg X.env] := by rfl) : PS X (.Assign [tg] e pos) (tS (X.kwp pq) X.mg W (sAsg f g)) := PS.weak (ps_asg he hg hs hw h1) fun D σ H hh =>
  tS_E (k := fun σ d S1 => match g d σ S1 with
    | .nx σ' S' => .nx σ' S'
    | .ex e σ' S' => .ex e σ' S'
    | _ => .no) hh fun σD d S μ' H' v ok en r hh => ⟨μ', σD, S, d, ok, en, r, by
      cases q : g d σD S with
      | nx σ' S' => rw [q] at hh; exact hh
      | ex e σ' S' => rw [q] at hh; exact hh
      | _ => rw [q] at hh; exact hh.elim⟩
theorem s_par {i j : Nat} {x y : Str} {a b : Expr} {px py pt : Pos} {kt k2 pt2} (hN : X.N.Nodup) (hij : i ≠ j) (ha : PE X a (tE (X.kwp pq) X.mg W f)) (hb : PE X b (tE (X.kwp pq) X.mg W g)) (hc : X.calm = true := by rfl) (hi : X.N[i]? = some x := by rfl) (hj : X.N[j]? = some y := by rfl)
    (hx : X.env.scope.names.lookup x = some .local := by rfl) (hy : X.env.scope.names.lookup y = some .local := by rfl)
    (hw : swappedStores [.Tuple [.Name x px, .Name y py] kt pt] (.Tuple [a, b] k2 pt2) X.env = pure (some [x, y]) := by rfl)
    (hs : swapsWithSole [.Tuple [.Name x px, .Name y py] kt pt] (.Tuple [a, b] k2 pt2) pos.line X.env = pure false := by rfl)
    (he1 : starEach [a, b] X.env = (false, eval a X.env) :: starEach [b] X.env := by rfl) (he2 : starEach [b] X.env = (false, eval b X.env) :: starEach [] X.env := by rfl) :
    PS X (.Assign [.Tuple [.Name x px, .Name y py] kt pt] (.Tuple [a, b] k2 pt2) pos) (tS (X.kwp pq) X.mg W (sPar i j f g)) :=
  PS.weak (ps_par hc hN hi hj hij hx hy (pa_cons ha (pa_cons hb pa_nil he2) he1) hw hs) fun D σ H hh => by
  obtain ⟨μ, σD, S, ok, en, hh⟩ := hh
  simp only [sPar] at hh
  refine ⟨μ, σD, S, ok, en, ?_⟩
  cases q : f σD S with
  | no => rw [q] at hh; exact hh.elim
  | ex e S1 =>
    rw [q] at hh
    exact fun μ' H' cls dx x ok' => hh μ' H' σ cls dx x ok' (en.mono x)
  | ok x1 S1 =>
    rw [q] at hh
    simp only [SR.ofE] at hh
    refine fun μ1 H1 v x1' ok1 r1 => ?_
    show tCons (tE (X.kwp pq) X.mg W g) tNil σ H1 _
    refine ⟨μ1, σD, S1, ok1, en.mono x1', ?_⟩
    cases q2 : g σD S1 with
    | no => rw [q2] at hh; exact hh.elim
    | ex e S2 =>
      rw [q2] at hh
      exact fun μ' H' cls dx x ok' => hh μ' H' σ cls dx (x1'.trans x) ok' (en.mono (x1'.trans x))
    | ok y1 S2 =>
      rw [q2] at hh
      refine fun μ2 H2 u x2 ok2 r2 => ?_
      exact ⟨v, u, rfl, hh μ2 H2 _ (x1'.trans x2) ok2 (((en.mono (x1'.trans x2)).set i (r1.mono x2)).set j r2)⟩
theorem s_aug {i : Nat} {x : Str} {e : Expr} {op : Operator} {k : O2} {pos' : Pos} (hN : X.N.Nodup) (ho : OpR X (inplaceOp op) (r2 (X.kwp pq) k)) (he : PE X e (tE (X.kwp pq) X.mg W f)) (hi : X.N[i]? = some x := by rfl) (hx : Loc X.env.scope x := by first | exact .inl rfl | exact .inr rfl) (hf : X.fn x = true ∨ X.env.scope.names.lookup x = some .local := by first | exact .inl rfl | exact .inr rfl | assumption) :
    PS X (.AugAssign (.Name x pos') op e pos) (tS (X.kwp pq) X.mg W (sAug i k f)) := PS.weak (ps_aug hN hi hx he (fun pins s σ H x y v u Q I r1 r2 q => ho pins s σ H x y v u Q I r1 r2 q) hf) fun D σ H hh => by
  obtain ⟨μ, σD, S, ok, en, hh⟩ := hh
  simp only [sAug] at hh
  cases q : σD[i]? with
  | none => rw [q] at hh; exact hh.elim
  | some oo =>
    cases oo with
    | none => rw [q] at hh; exact hh.elim
    | some d =>
      rw [q] at hh
      simp only at hh
      obtain ⟨v, hv, r⟩ := en.get i d q
      refine ⟨v, hv, μ, σD, S, ok, en, ?_⟩
      cases q2 : f σD S with
      | no => rw [q2] at hh; exact hh.elim
      | ex e S1 =>
        rw [q2] at hh
        exact fun μ' H' cls dx x ok' => hh μ' H' σ cls dx x ok' (en.mono x)
      | ok y S1 =>
        rw [q2] at hh
        simp only [SR.ofE] at hh
        refine fun μ1 H1 vy x1 ok1 ry => ⟨μ1, S1, d, y, ok1, r.mono x1, ry, ?_⟩
        cases q3 : k d y S1 with
        | none => rw [q3] at hh; exact hh.elim
        | some p =>
          obtain ⟨z, S2⟩ := p
          rw [q3] at hh
          exact fun μ2 H2 vz x2 ok2 rz => hh μ2 H2 _ (x1.trans x2) ok2 ((en.mono (x1.trans x2)).set i rz)
end
end DL

namespace DL
open PySem PySem.Spec PyProof.Rows L2
/-! ### what is walked -/
/-- a list of the store that has to stay as it is -/
abbrev Gd := Option (Nat × List D)
def Gd.ok : Gd → Store → Prop
  | none, _ => True
  | some (l, xs), S => S[l]? = some (.lst xs)
abbrev DI := Sg → Store → Res (Gd × List D)
structure Wlk (K : KW) (J : It) (μ0 : List Addr) (H0 : Hp) (p : Gd × List D) : Prop where
  go : ∀ (i : Nat) (μ : List Addr) (H : Hp) (S : Store) (d : D), Sub μ0 H0 μ H → Ok K μ H S → p.1.ok S → p.2[i]? = some d → J.go i H ∧ ∀ x H', J.yld i H x H' → Ext μ H μ H' ∧ Ok K μ H' S ∧ R K μ H' d x
  stop : ∀ (i : Nat) (μ : List Addr) (H : Hp) (S : Store), Sub μ0 H0 μ H → Ok K μ H S → p.1.ok S → p.2.length ≤ i → J.stop i H
abbrev RI (K : KW) : List Addr → Hp → (Gd × List D) → It → Prop := fun μ H p J => Wlk K J μ H p
abbrev tI (K : KW) (mg : Str → Option Value) (W : WX) (f : DI) : TI := tG K mg W (RI K) f
theorem PI.weak {X : Cx} {tg e : Expr} {t t' : TI} (h : PI X tg e t) (w : ∀ σ H Q, t' σ H Q → t σ H Q) : PI X tg e t' := ⟨fun pins s σ H R I q => h.run pins s σ H R I (w σ H R q)⟩
theorem PI.or {X : Cx} {tg e : Expr} {t t' : TI} (h : PI X tg e t) (h' : PI X tg e t') : PI X tg e (fun σ H Q => t σ H Q ∨ t' σ H Q) := ⟨fun pins s σ H R I q => q.elim (h.run pins s σ H R I) (h'.run pins s σ H R I)⟩
section
variable {X : Cx} {W : WX} {pos : Pos} {tg a b c e o : Expr} {es : List Expr} {f g h : DE} {t : DT} {fa : DA} {K : KW} {mg : Str → Option Value}
/-- a list, a tuple -/
def cIter (f : DE) : DI := fun σ S => (f σ S).bind fun x S1 => match x with
  | .tup xs => .ok (none, xs) S1
  | .rol xs => .ok (none, xs) S1
  | .loc l => match S1[l]? with
    | some (.lst xs) => .ok (some (l, xs), xs) S1
    | _ => .no
  | _ => .no
theorem wlk_tup {μ : List Addr} {H : Hp} {a : Addr} {vs : List V} {xs : List D} (h : SqT K H a vs) (r : RL K μ H xs vs) : Wlk K (Itt K a) μ H (none, xs) where
  go := fun i μ' H' S d x ok _ hd => by
    obtain ⟨v, hv, _⟩ := r.get hd
    refine ⟨⟨vs, v, x.sqT h, hv⟩, fun y H'' hy => ?_⟩
    obtain ⟨rfl, hy⟩ := hy
    have e := hy vs (x.sqT h)
    obtain ⟨d', hd', rd⟩ := r.getV e
    rw [show xs[i]? = some d from hd] at hd'; cases hd'
    exact ⟨Ext.refl _ _, ok, rd.subM x⟩
  stop := fun i μ' H' S x ok _ hi => ⟨vs, x.sqT h, by rw [← r.length]; exact hi⟩
theorem wlk_rol {μ : List Addr} {H : Hp} {a : Addr} {vs : List V} {xs : List D} (h : SqI K H a vs) (r : RL K μ H xs vs) : Wlk K (Itl K a) μ H (none, xs) where
  go := fun i μ' H' S d x ok _ hd => by
    obtain ⟨v, hv, _⟩ := r.get hd
    refine ⟨⟨vs, v, (x.sqI h).sq, hv⟩, fun y H'' hy => ?_⟩
    obtain ⟨rfl, hy⟩ := hy
    have e := hy vs (x.sqI h).sq
    obtain ⟨d', hd', rd⟩ := r.getV e
    rw [show xs[i]? = some d from hd] at hd'; cases hd'
    exact ⟨Ext.refl _ _, ok, rd.subM x⟩
  stop := fun i μ' H' S x ok _ hi => ⟨vs, (x.sqI h).sq, by rw [← r.length]; exact hi⟩
/-- what a guard says -/
theorem gd_loc {μ0 μ : List Addr} {H0 H : Hp} {S : Store} {l : Nat} {a : Addr} {xs : List D} (hl : μ0[l]? = some a) (x : Sub μ0 H0 μ H) (ok : Ok K μ H S) (g : S[l]? = some (.lst xs)) : ∃ vs, SqL K H a vs ∧ RL K μ H xs vs := by
  obtain ⟨a', h1, hc⟩ := ok.at g
  rw [x.at hl] at h1; cases h1
  obtain ⟨vs, hv, _, r⟩ := hc
  exact ⟨vs, .inl (.inl hv), r⟩
theorem wlk_loc {μ : List Addr} {H : Hp} {l : Nat} {a : Addr} {xs : List D} (hl : μ[l]? = some a) : Wlk K (Itl K a) μ H (some (l, xs), xs) where
  go := fun i μ' H' S d x ok g hd => by
    obtain ⟨vs, hs, r⟩ := gd_loc hl x ok g
    obtain ⟨v, hv, _⟩ := r.get hd
    refine ⟨⟨vs, v, hs, hv⟩, fun y H'' hy => ?_⟩
    obtain ⟨rfl, hy⟩ := hy
    have e := hy vs hs
    obtain ⟨d', hd', rd⟩ := r.getV e
    rw [show xs[i]? = some d from hd] at hd'; cases hd'
    exact ⟨Ext.refl _ _, ok, rd⟩
  stop := fun i μ' H' S x ok g hi => by
    obtain ⟨vs, hs, r⟩ := gd_loc hl x ok g
    exact ⟨vs, hs, by rw [← r.length]; exact hi⟩
theorem i_seq (he : PE X e (tE X.kw X.mg W f)) : PI X tg e (tI X.kw X.mg W (cIter f)) := by
  refine PI.weak (PI.or (pi_list he) (pi_tup he)) fun σ H Q hh => ?_
  obtain ⟨μ, σD, S, ok, en, hh⟩ := hh
  unfold cIter at hh
  cases q : f σD S with
  | no => rw [q] at hh; exact hh.elim
  | ex e S1 =>
    rw [q] at hh
    exact .inl ⟨μ, σD, S, ok, en, by rw [q]; exact hh⟩
  | ok x S1 =>
    rw [q] at hh
    cases x with
    | tup xs =>
      refine .inr ⟨μ, σD, S, ok, en, ?_⟩
      rw [q]
      intro μ' H' v x1 ok1 r
      cases r with
      | @tup p vs _ hs hl rr => exact ⟨p, rfl, ⟨vs, hs⟩, hh μ' H' _ x1 ok1 (wlk_tup hs rr)⟩
    | rol xs =>
      refine .inl ⟨μ, σD, S, ok, en, ?_⟩
      rw [q]
      intro μ' H' v x1 ok1 r
      cases r with
      | @rol p vs _ hs hl rr => exact ⟨p, rfl, ⟨vs, hs.sq⟩, hh μ' H' _ x1 ok1 (wlk_rol hs rr)⟩
    | loc l =>
      refine .inl ⟨μ, σD, S, ok, en, ?_⟩
      rw [q]
      intro μ' H' v x1 ok1 r
      simp only [Res.bind_ok] at hh
      cases q2 : S1[l]? with
      | none => rw [q2] at hh; exact hh.elim
      | some c =>
        cases c with
        | dct _ => (first | exact hp.elim | exact h.elim | exact hh.elim | (cases h; done) | (cases hp; done) | (cases hh; done) | (rw [e1, e2] at hp; exact hp.elim) | (rw [e1] at hp; exact hp.elim) | (rw [q] at hp; exact hp.elim) | (rw [q] at h; cases h; done) | (rw [q] at hh; exact hh.elim) | (rw [q] at h; exact h.elim) | (rw [q2] at hh; exact hh.elim) | (rw [q2] at h; exact h.elim) | (rw [q2] at hp; exact hp.elim))
        | lst xs =>
          rw [q2] at hh
          obtain ⟨p, vs, rfl, hl, hv, _, rr⟩ := loc_at ok1 r q2
          exact ⟨p, rfl, ⟨vs, .inl (.inl hv)⟩, hh μ' H' _ x1 ok1 (wlk_loc hl)⟩
    | _ => exact hh.elim
/-- ranges -/
def intsTo (lo : Int) (n : Nat) : List D := (List.range n).map fun i : Nat => D.int (lo + i)
def okB (i : Int) : Prop := -(2 ^ 62) ≤ i ∧ i < 2 ^ 62
instance (i : Int) : Decidable (okB i) := by unfold okB; infer_instance
theorem wlk_range {lo : Int} {n : Nat} {μ : List Addr} {H : Hp} : Wlk K (Itr lo n) μ H (none, intsTo lo n) where
  go := fun i μ' H' S d x ok _ hd => by
    unfold intsTo at hd
    rw [List.getElem?_map] at hd
    have hi : i < n := by
      rcases Nat.lt_or_ge i n with h | h
      · exact h
      · rw [List.getElem?_eq_none (by simpa using h)] at hd; cases hd
    rw [List.getElem?_range hi] at hd
    cases hd
    refine ⟨hi, fun y H'' hy => ?_⟩
    obtain ⟨rfl, rfl⟩ := hy
    exact ⟨Ext.refl _ _, ok, .int _⟩
  stop := fun i μ' H' S x ok _ hi => by
    unfold intsTo at hi
    have : n ≤ i := by simpa using hi
    exact this
@[irreducible] def cRange1 (f : DE) : DI := fun σ S => (f σ S).bind fun x S1 => match x with
  | .int j => if okB j then .ok (none, intsTo 0 j.toNat) S1 else .no
  | _ => .no
@[irreducible] def cRange2 (f g : DE) : DI := fun σ S => (f σ S).bind fun x S1 => (g σ S1).bind fun y S2 => match x, y with
  | .int i, .int j => if okB i ∧ okB j then .ok (none, intsTo i (j - i).toNat) S2 else .no
  | _, _ => .no
theorem tNil_A {σ : L2.St} {H : Hp} {Q : List V → Hp → Prop} : Q [] H → tNil σ H Q := fun h => h
theorem i_range1 {p : Pos} (hm : X.mg "range" = none) (ha : PE X a (tE X.kw X.mg W f)) (hg : Gl X "range" := by rfl) (hs : starEach [a] X.env = [(false, eval a X.env)] := by rfl) : PI X tg (.Call (.Name "range" p) [a] [] pos) (tI X.kw X.mg W (cRange1 f)) :=
  PI.weak (pi_range1 hg hm (pa_cons ha pa_nil hs) hs) fun σ H Q hh => by
  unfold cRange1 at hh
  exact tG1 (RA := R X.kw) hh fun x S μ H v ok rx hh => by
    cases rx with
    | int j =>
      simp only at hh
      split at hh
      · rename_i hb
        exact ⟨j, rfl, hb.1, hb.2, hh μ H _ (Ext.refl _ _) ok wlk_range⟩
      · exact hh.elim
    | _ => exact hh.elim
theorem i_range2 {p : Pos} (hm : X.mg "range" = none) (ha : PE X a (tE X.kw X.mg W f)) (hb : PE X b (tE X.kw X.mg W g)) (hg : Gl X "range" := by rfl) (hs : starEach [a, b] X.env = [(false, eval a X.env), (false, eval b X.env)] := by rfl) (hs2 : starEach [b] X.env = [(false, eval b X.env)] := by rfl)
    (hs3 : starEach [a, b] X.env = (false, eval a X.env) :: starEach [b] X.env := by rfl) : PI X tg (.Call (.Name "range" p) [a, b] [] pos) (tI X.kw X.mg W (cRange2 f g)) :=
  PI.weak (pi_range2 hg hm (pa_cons ha (pa_cons hb pa_nil hs2) hs3) hs hs2) fun σ H Q hh => by
  unfold cRange2 at hh
  exact tG2 (RA := R X.kw) (RB := R X.kw) (fun _ _ _ _ _ _ x r => r.mono x) hh fun x y S μ H v u ok rx ry hh => by
    cases rx with
    | int i =>
      cases ry with
      | int j =>
        simp only at hh
        split at hh
        · rename_i hb
          exact ⟨i, j, rfl, ⟨hb.1.1, hb.1.2, hb.2.1, hb.2.2⟩, hh μ H _ (Ext.refl _ _) ok wlk_range⟩
        · exact hh.elim
      | _ => exact hh.elim
    | _ => exact hh.elim
/-- range(i, j, c) -/
def stepsTo (i c : Int) (n : Nat) : List D := (List.range n).map fun k : Nat => D.int (i + (k : Int) * c)
def rgN (i j c : Int) : Nat := (Builtin.Range.rangeSize i j c).toNat
def okRg (i j c : Int) : Prop := c ≠ 0 ∧ c.natAbs < 1073741824 ∧ Builtin.Range.small i j c = true ∧ 0 ≤ Builtin.Range.rangeSize i j c
instance (i j c : Int) : Decidable (okRg i j c) := by unfold okRg; infer_instance
theorem wlk_rangeC {lo c : Int} {n : Nat} {μ : List Addr} {H : Hp} : Wlk K (Itc lo c n) μ H (none, stepsTo lo c n) where
  go := fun i μ' H' S d x ok _ hd => by
    unfold stepsTo at hd
    rw [List.getElem?_map] at hd
    have hi : i < n := by
      rcases Nat.lt_or_ge i n with h | h
      · exact h
      · rw [List.getElem?_eq_none (by simpa using h)] at hd; cases hd
    rw [List.getElem?_range hi] at hd
    cases hd
    refine ⟨hi, fun y H'' hy => ?_⟩
    obtain ⟨rfl, rfl⟩ := hy
    exact ⟨Ext.refl _ _, ok, .int _⟩
  stop := fun i μ' H' S x ok _ hi => by
    unfold stepsTo at hi
    have : n ≤ i := by simpa using hi
    exact this
def rg3 (x y z : D) (S : Store) : Res (Gd × List D) := match x, y, z with
  | .int i, .int j, .int c => if okRg i j c then .ok (none, stepsTo i c (rgN i j c)) S else .no
  | _, _, _ => .no
def cRange3 (f g h : DE) : DI := fun σ S => (f σ S).bind fun x S1 => (g σ S1).bind fun y S2 => (h σ S2).bind fun z S3 => rg3 x y z S3
theorem i_range3 {p : Pos} (hm : X.mg "range" = none) (ha : PE X a (tE X.kw X.mg W f)) (hb : PE X b (tE X.kw X.mg W g)) (hc : PE X c (tE X.kw X.mg W h)) (hg : Gl X "range" := by rfl)
    (hs1 : starEach [a, b, c] X.env = (false, eval a X.env) :: starEach [b, c] X.env := by rfl) (hs2 : starEach [b, c] X.env = (false, eval b X.env) :: starEach [c] X.env := by rfl) (hs3 : starEach [c] X.env = (false, eval c X.env) :: starEach [] X.env := by rfl)
    (hpl : (backTo pos (starEach [b, c] X.env)).any (·.1) = false := by rfl) : PI X tg (.Call (.Name "range" p) [a, b, c] [] pos) (tI X.kw X.mg W (cRange3 f g h)) := by
  refine PI.weak (pi_range3 hg hm (pa_cons ha (pa_cons hb (pa_cons hc pa_nil hs3) hs2) hs1) hs1 hpl) fun σ H Q hh => ?_
  refine tG1e (k := fun σ x S1 => (g σ S1).bind fun y S2 => (h σ S2).bind fun z S3 => rg3 x y z S3) (RA := R X.kw) hh fun σD x S μ H v ok en rx hh => ?_
  show tCons (tE X.kw X.mg W g) (tCons (tE X.kw X.mg W h) tNil) σ H _
  refine tG1e (RC := RI X.kw) (RA := R X.kw) (k := fun σ y S2 => (h σ S2).bind fun z S3 => rg3 x y z S3) (Q := Q) ⟨μ, σD, S, ok, en, hh⟩ fun σD2 y S2 μ2 H2 u ok2 en2 ry hh => ?_
  show tCons (tE X.kw X.mg W h) tNil σ H2 _
  refine tG1 (RC := RI X.kw) (RA := R X.kw) (k := fun z S3 => rg3 x y z S3) (Q := Q) ⟨μ2, σD2, S2, ok2, en2, hh⟩ fun z S3 μ3 H3 w ok3 rz hh => ?_
  show ∃ i j c n, [v, u, w] = [V.int i, V.int j, V.int c] ∧ _
  cases x with
  | int i =>
    cases y with
    | int j =>
      cases z with
      | int c =>
        cases rx
        cases ry
        cases rz
        simp only [rg3] at hh
        split at hh
        · rename_i hb
          refine ⟨i, j, c, rgN i j c, rfl, ⟨hb.1, hb.2.1, hb.2.2.1, ?_⟩, hh μ3 H3 _ (Ext.refl _ _) ok3 wlk_rangeC⟩
          unfold rgN
          exact (Int.toNat_of_nonneg hb.2.2.2).symm
        · exact hh.elim
      | _ => exact hh.elim
    | _ => exact hh.elim
  | _ => exact hh.elim
/-- enumerate(list) -/
def numbered (k : Nat) : List D → List D
  | [] => []
  | x :: xs => .tup [.int (k : Nat), x] :: numbered (k + 1) xs
theorem numbered_get : ∀ (xs : List D) (k i : Nat), (numbered k xs)[i]? = xs[i]?.map fun x => D.tup [.int ((k + i : Nat) : Int), x]
  | [], k, i => by simp [numbered]
  | x :: xs, k, 0 => by simp [numbered]
  | x :: xs, k, i + 1 => by
    rw [numbered, List.getElem?_cons_succ, List.getElem?_cons_succ, numbered_get xs (k + 1) i, show k + 1 + i = k + (i + 1) by omega]
theorem numbered_length : ∀ (xs : List D) (k : Nat), (numbered k xs).length = xs.length
  | [], _ => rfl
  | _ :: xs, k => by rw [numbered, List.length_cons, List.length_cons, numbered_length xs]
/-- the items of a list that is numbered, with its guard -/
def enumL (x : D) (S : Store) : Res (Gd × List D) := match x with
  | .rol xs => .ok (none, numbered 0 xs) S
  | .loc l => match S[l]? with
    | some (.lst xs) => .ok (some (l, xs), numbered 0 xs) S
    | _ => .no
  | _ => .no
theorem wlk_enum {μ0 : List Addr} {H0 : Hp} {a : Addr} {gd : Gd} {xs : List D} (hq : ∀ μ H S, Sub μ0 H0 μ H → Ok K μ H S → gd.ok S → ∃ vs, SqL K H a vs ∧ RL K μ H xs vs) : Wlk K (Ite K a) μ0 H0 (gd, numbered 0 xs) where
  go := fun i μ' H' S d x ok g hd => by
    obtain ⟨vs, hs, r⟩ := hq μ' H' S x ok g
    rw [numbered_get] at hd
    cases q : xs[i]? with
    | none => rw [q] at hd; cases hd
    | some y =>
      rw [q] at hd
      cases hd
      obtain ⟨v, hv, rv⟩ := r.get q
      refine ⟨⟨vs, v, hs, hv⟩, fun z H'' hy => ?_⟩
      obtain ⟨T, w, rfl, hT, rfl, hw⟩ := hy
      have e := hw vs hs
      rw [hv] at e; cases e
      refine ⟨ext_new hT, ok.laid hT, .tup (.inl (.inl upd_same)) (by show 2 ≤ sizeLine; decide) (.cons ?_ (.cons (rv.mono (ext_new hT)) .nil))⟩
      rw [Nat.zero_add]
      exact .int _
  stop := fun i μ' H' S x ok g hi => by
    obtain ⟨vs, hs, r⟩ := hq μ' H' S x ok g
    rw [numbered_length] at hi
    exact ⟨vs, hs, by rw [← r.length]; exact hi⟩
end
end DL

namespace DL
open PySem PySem.Spec PyProof.Rows L2
/-! ### for -/
open Classical in
noncomputable def forL (gd : Gd) (g : DG) (b : DS) : List D → Sg → Store → SR
  | [], σ, S => if gd.ok S then .nx σ S else .no
  | x :: xs, σ, S => if gd.ok S then match g x σ S with
      | .nx σ1 S1 => match b σ1 S1 with
        | .nx σ2 S2 => forL gd g b xs σ2 S2
        | .ct σ2 S2 => forL gd g b xs σ2 S2
        | .bk σ2 S2 => .nx σ2 S2
        | r => r
      | .ex e σ1 S1 => .ex e σ1 S1
      | _ => .no
    else .no
def SR.ofI (σ : Sg) (r : Res (Gd × List D)) (k : Gd → List D → Store → SR) : SR := match r with
  | .ok d S => k d.1 d.2 S
  | .ex e S => .ex e σ S
  | .no => .no
noncomputable def sFor (src : DI) (g : DG) (b : DS) : DS := fun σ S => SR.ofI σ (src σ S) fun gd ds S1 => forL gd g b ds σ S1
def whileN (t : DT) (b : DS) : Nat → Sg → Store → SR
  | 0, _, _ => .no
  | n + 1, σ, S => SR.ofT σ (t σ S) fun c S1 => if c = true then match b σ S1 with
      | .nx σ2 S2 => whileN t b n σ2 S2
      | .ct σ2 S2 => whileN t b n σ2 S2
      | .bk σ2 S2 => .nx σ2 S2
      | r => r
    else .nx σ S1
def WF : Nat := 100000000
def sWhile (t : DT) (b : DS) : DS := fun σ S => whileN t b WF σ S
section
variable {X : Cx} {W : WX} {pos : Pos} {tg iter a c e o : Expr} {es : List Expr} {f h : DE} {t : DT} {fa : DA} {K : KW} {mg : Str → Option Value} {body : List Stmt} {b : DS} {g : DG} {src : DI}
theorem s_for (hp : PassesOwn (model X.prog X.w) X.A X.env X.xe) (hi : PI X tg iter (tI X.kw X.mg W src)) (hg : PG X tg (tGt X.kw X.mg W g)) (hb : PSs X body (tS X.kw X.mg W b)) (hc : X.calm = true := by rfl)
    (hs : ∀ x, foldedSetIterable iter X.env x = pure x := by intro _; rfl) : PS X (.For tg iter body [] pos) (tS X.kw X.mg W (sFor src g b)) := by
  refine PS.weak (ps_for hp hc hi hg hb hs) fun Dn σ H hh => ?_
  obtain ⟨μ, σD, S, ok, en, hh⟩ := hh
  refine ⟨μ, σD, S, ok, en, ?_⟩
  simp only [sFor] at hh
  cases q : src σD S with
  | no => rw [q] at hh; exact hh.elim
  | ex e S1 =>
    rw [q] at hh
    exact fun μ' H' cls dx x ok' => hh μ' H' σ cls dx x ok' (en.mono x)
  | ok p S1 =>
    rw [q] at hh
    obtain ⟨gd, ds⟩ := p
    simp only [SR.ofI] at hh
    intro μ1 H1 J x1 ok1 wk
    refine ⟨fun i m σ2 H2 => m = ds.length - i ∧ i ≤ ds.length ∧ ∃ μ2 σD2 S2, Ext μ1 H1 μ2 H2 ∧ Ok X.kw μ2 H2 S2 ∧ EnvR X.kw μ2 H2 σD2 σ2 ∧ SPost X.kw X.mg W μ2 H2 (forL gd g b (ds.drop i) σD2 S2) Dn,
      ⟨ds.length, rfl, Nat.zero_le _, μ1, σD, S1, Ext.refl _ _, ok1, en.mono x1, SPost.mono x1 hh⟩, ?_⟩
    rintro i m σ2 H2 ⟨rfl, hi, μ2, σD2, S2, x2, ok2, en2, h2⟩
    by_cases hlt : i < ds.length
    · rw [List.drop_eq_getElem_cons hlt, forL] at h2
      by_cases hgd : gd.ok S2
      · rw [if_pos hgd] at h2
        obtain ⟨go, yl⟩ := wk.go i μ2 H2 S2 ds[i] x2.sub ok2 hgd (List.getElem?_eq_getElem hlt)
        refine .inr ⟨go, fun σ3 H3 => ∃ μ3 σD3 S3, Ext μ1 H1 μ3 H3 ∧ Ok X.kw μ3 H3 S3 ∧ EnvR X.kw μ3 H3 σD3 σ3 ∧ SPost X.kw X.mg W μ3 H3 (forL gd g b (ds.drop (i + 1)) σD3 S3) Dn,
          fun σ3 H3 h3 => ⟨ds.length - (i + 1), by omega, rfl, hlt, h3⟩, fun x H' hy => ?_⟩
        obtain ⟨xe, oke, re⟩ := yl x H' hy
        refine ⟨μ2, σD2, S2, ds[i], oke, en2.mono xe, re, ?_⟩
        cases q2 : g ds[i] σD2 S2 with
        | nx σD3 S3 =>
          rw [q2] at h2
          simp only at h2
          intro μ3 H3 σ3 x3 ok3 en3
          refine ⟨μ3, σD3, S3, ok3, en3, ?_⟩
          have x23 : Ext μ2 H2 μ3 H3 := xe.trans x3
          have h3 := SPost.mono x23 h2
          cases q3 : b σD3 S3 with
          | nx σ4 S4 =>
            rw [q3] at h3
            exact fun μ4 H4 σ5 x4 ok4 en4 => ⟨μ4, σ4, S4, x2.trans (x23.trans x4), ok4, en4, SPost.mono x4 h3⟩
          | ct σ4 S4 =>
            rw [q3] at h3
            exact fun μ4 H4 σ5 x4 ok4 en4 => ⟨μ4, σ4, S4, x2.trans (x23.trans x4), ok4, en4, SPost.mono x4 h3⟩
          | bk σ4 S4 =>
            rw [q3] at h3
            exact h3
          | rt d S4 =>
            rw [q3] at h3
            exact h3
          | ex e σ4 S4 =>
            rw [q3] at h3
            exact h3
          | no => rw [q3] at h3; exact h3.elim
        | ex e σD3 S3 =>
          rw [q2] at h2
          exact fun μ3 H3 σ3 c d x3 => h2 μ3 H3 σ3 c d (xe.trans x3)
        | _ => rw [q2] at h2; exact h2.elim
      · rw [if_neg hgd] at h2
        exact h2.elim
    · have e : i = ds.length := by omega
      subst e
      rw [List.drop_length, forL] at h2
      by_cases hgd : gd.ok S2
      · rw [if_pos hgd] at h2
        exact .inl ⟨wk.stop _ μ2 H2 S2 x2.sub ok2 hgd (Nat.le_refl _), h2 μ2 H2 σ2 (Ext.refl _ _) ok2 en2⟩
      · rw [if_neg hgd] at h2
        exact h2.elim
theorem s_while (hp : PassesOwn (model X.prog X.w) X.A X.env X.xe) (hc : PT X c (tT X.kw X.mg W t)) (hb : PSs X body (tS X.kw X.mg W b)) : PS X (.While c body [] pos) (tS X.kw X.mg W (sWhile t b)) := by
  refine PS.weak (ps_while hp hc hb) fun Dn σ H hh => ?_
  obtain ⟨μ, σD, S, ok, en, hh⟩ := hh
  refine ⟨fun m σ2 H2 => ∃ μ2 σD2 S2, Ok X.kw μ2 H2 S2 ∧ EnvR X.kw μ2 H2 σD2 σ2 ∧ SPost X.kw X.mg W μ2 H2 (whileN t b m σD2 S2) Dn, ⟨WF, μ, σD, S, ok, en, hh⟩, ?_⟩
  rintro m σ2 H2 ⟨μ2, σD2, S2, ok2, en2, h2⟩
  cases m with
  | zero => exact h2.elim
  | succ n =>
    rw [whileN] at h2
    refine ⟨μ2, σD2, S2, ok2, en2, ?_⟩
    cases q : t σD2 S2 with
    | no => rw [q] at h2; exact h2.elim
    | ex e S3 =>
      rw [q] at h2
      exact fun μ' H' cls dx x ok' => h2 μ' H' σ2 cls dx x ok' (en2.mono x)
    | ok k S3 =>
      rw [q] at h2
      simp only [SR.ofT] at h2
      intro μ3 H3 k' x3 ok3 ek
      cases ek
      cases k with
      | false => exact h2 μ3 H3 σ2 x3 ok3 (en2.mono x3)
      | true =>
        rw [if_pos rfl] at h2 ⊢
        refine ⟨fun σ4 H4 => ∃ μ4 σD4 S4, Ok X.kw μ4 H4 S4 ∧ EnvR X.kw μ4 H4 σD4 σ4 ∧ SPost X.kw X.mg W μ4 H4 (whileN t b n σD4 S4) Dn, fun σ4 H4 h4 => ⟨n, Nat.lt_succ_self _, h4⟩, μ3, σD2, S3, ok3, en2.mono x3, ?_⟩
        have h3 := SPost.mono x3 h2
        cases q3 : b σD2 S3 with
        | nx σ4 S4 =>
          rw [q3] at h3
          exact fun μ4 H4 σ5 x4 ok4 en4 => ⟨μ4, σ4, S4, ok4, en4, SPost.mono x4 h3⟩
        | ct σ4 S4 =>
          rw [q3] at h3
          exact fun μ4 H4 σ5 x4 ok4 en4 => ⟨μ4, σ4, S4, ok4, en4, SPost.mono x4 h3⟩
        | bk σ4 S4 => rw [q3] at h3; exact h3
        | rt d S4 => rw [q3] at h3; exact h3
        | ex e σ4 S4 => rw [q3] at h3; exact h3
        | no => rw [q3] at h3; exact h3.elim
/-- enumerate(list) -/
def cEnum (f : DE) : DI := fun σ S => (f σ S).bind enumL
theorem i_enumL {elts : List Expr} {kk : Nat} {p tpos : Pos} (hm : X.mg "enumerate" = none) (he : PE X e (tE X.kw X.mg W f)) (hg : Gl X "enumerate" := by rfl) (hs : starEach [e] X.env = [(false, eval e X.env)] := by rfl) :
    PI X (.Tuple elts kk tpos) (.Call (.Name "enumerate" p) [e] [] pos) (tI X.kw X.mg W (cEnum f)) :=
  PI.weak (pi_enum hg hm (pa_cons he pa_nil hs) hs) fun σ H Q hh => tG1 (k := enumL) (RA := R X.kw) hh fun x S μ H v ok rx hh => by
    cases rx with
    | @rol p vs xs hs hl rr =>
      exact ⟨p, vs, rfl, hs.sq, hh μ H _ (Ext.refl _ _) ok (wlk_enum fun μ' H' S' x _ _ => ⟨vs, (x.sqI hs).sq, rr.subM x⟩)⟩
    | @loc l p hl =>
      simp only [enumL] at hh
      cases q : S[l]? with
      | none => rw [q] at hh; exact hh.elim
      | some c =>
        cases c with
        | dct _ => (first | exact hp.elim | exact h.elim | exact hh.elim | (cases h; done) | (cases hp; done) | (cases hh; done) | (rw [e1, e2] at hp; exact hp.elim) | (rw [e1] at hp; exact hp.elim) | (rw [q] at hp; exact hp.elim) | (rw [q] at h; cases h; done) | (rw [q] at hh; exact hh.elim) | (rw [q] at h; exact h.elim) | (rw [q2] at hh; exact hh.elim) | (rw [q2] at h; exact h.elim) | (rw [q2] at hp; exact hp.elim))
        | lst xs =>
          rw [q] at hh
          obtain ⟨p', vs, e1, _, hv, _, rr⟩ := loc_at ok (R.loc hl) q
          cases e1
          exact ⟨p, vs, rfl, .inl (.inl hv), hh μ H _ (Ext.refl _ _) ok (wlk_enum fun μ' H' S' x ok' g => gd_loc hl x ok' g)⟩
    | _ => exact hh.elim
end

/-! ### comprehensions -/
/-- a pattern of names -/
inductive Pat where
  | nm (i : Nat) | un (ps : List Pat)
mutual
def Pat.slots : Pat → List Nat
  | .nm i => [i]
  | .un ps => Pat.slotsL ps
def Pat.slotsL : List Pat → List Nat
  | [] => []
  | p :: ps => p.slots ++ Pat.slotsL ps
end
mutual
def Pat.bind (S : Store) : Pat → D → Sg → Option Sg
  | .nm i, d, σ => some (σ.set i (some d))
  | .un ps, d, σ => match itemsOf S d with
    | some xs => Pat.bindL S ps xs σ
    | none => none
def Pat.bindL (S : Store) : List Pat → List D → Sg → Option Sg
  | [], [], σ => some σ
  | p :: ps, x :: xs, σ => match Pat.bind S p x σ with
    | some σ' => Pat.bindL S ps xs σ'
    | none => none
  | _, _, _ => none
end
def wipeD (σ : Sg) : List Nat → Sg
  | [] => σ
  | v :: vs => (wipeD σ vs).set v none
theorem EnvR.wipe {K : KW} {μ : List Addr} {H : Hp} {σ : Sg} {σV : L2.St} (hK : K.pin = none) (e : EnvR K μ H σ σV) : ∀ vs, EnvR K μ H (wipeD σ vs) (L2.wipe σV vs)
  | [] => e
  | v :: vs => by
    have ih := EnvR.wipe hK e vs
    rw [wipeD, L2.wipe]
    refine ⟨by rw [List.length_set, List.length_set]; exact ih.len, fun j d h => ?_, fun p hp => by rw [hK] at hp; cases hp⟩
    by_cases hj : v = j
    · subst hj
      have hi : v < (wipeD σ vs).length := by
        have := (List.getElem?_eq_some_iff.mp h).1
        rwa [List.length_set] at this
      rw [List.getElem?_set_self hi] at h
      cases h
    · rw [List.getElem?_set_ne hj] at h ⊢
      exact ih.get j d h
theorem wipe_set {σ : L2.St} {i : Nat} {o : Option V} : ∀ {vs : List Nat}, i ∈ vs → L2.wipe (σ.set i o) vs = L2.wipe σ vs
  | [], h => by cases h
  | v :: vs, h => by
    unfold L2.wipe
    by_cases hv : i ∈ vs
    · rw [wipe_set hv]
    · have e : i = v := by
        rcases List.mem_cons.mp h with z | z
        · exact z
        · exact absurd z hv
      subst e
      have out : ∀ {ws : List Nat} {σ : L2.St}, i ∉ ws → L2.wipe (σ.set i o) ws = (L2.wipe σ ws).set i o := by
        intro ws
        induction ws with
        | nil => intro σ _; rfl
        | cons w ws ih =>
          intro σ hw
          rw [List.mem_cons, not_or] at hw
          unfold L2.wipe
          rw [ih hw.2, List.set_comm _ _ hw.1]
      rw [out hv, List.set_set]
def tPt (K : KW) (p : Pat) : TG := fun v σ H Q => ∃ μ σD S d, Ok K μ H S ∧ EnvR K μ H σD σ ∧ R K μ H d v ∧ match p.bind S d σD with
  | some σ' => ∀ σV', EnvR K μ H σ' σV' → (∀ vs, (∀ i ∈ p.slots, i ∈ vs) → L2.wipe σV' vs = L2.wipe σ vs) → Q σV' H
  | none => False
def tPts (K : KW) (ps : List Pat) : TGs := fun vs σ H Q => ∃ μ σD S ds, Ok K μ H S ∧ EnvR K μ H σD σ ∧ RL K μ H ds vs ∧ match Pat.bindL S ps ds σD with
  | some σ' => ∀ σV', EnvR K μ H σ' σV' → (∀ vs, (∀ i ∈ Pat.slotsL ps, i ∈ vs) → L2.wipe σV' vs = L2.wipe σ vs) → Q σV' H
  | none => False
section
variable {X : Cx} {pos : Pos} {e : Expr} {es : List Expr}
theorem p_name (i : Nat) {x : Str} (hN : X.N.Nodup) (hi : X.N[i]? = some x := by rfl) (hx : Loc X.env.scope x := by first | exact .inl rfl | exact .inr rfl) (hf : X.fn x = true ∨ X.env.scope.names.lookup x = some .local := by first | exact .inl rfl | exact .inr rfl | assumption) : PG X (.Name x pos) (tPt X.kw (.nm i)) :=
  PG.weak (pg_name hN hi hx hf) fun v σ H Q hh => by
    obtain ⟨μ, σD, S, d, ok, en, r, hh⟩ := hh
    exact hh _ (en.set i r) fun vs hv => wipe_set (hv i (by simp [Pat.slots]))
theorem ps_nil : PGs X [] (tPts X.kw []) := PGs.weak pgs_nil fun v σ H Q hh => by
  obtain ⟨μ, σD, S, d, ok, en, r, hh⟩ := hh
  cases r with
  | nil => exact ⟨rfl, hh _ en fun _ _ => rfl⟩
  | cons _ _ => exact hh.elim
theorem ps_cons {p : Pat} {ps : List Pat} (h1 : PG X e (tPt X.kw p)) (h2 : PGs X es (tPts X.kw ps)) (hs : (assignEach (e :: es) X.env).map (·.2) = assign e X.env :: (assignEach es X.env).map (·.2) := by rfl) : PGs X (e :: es) (tPts X.kw (p :: ps)) :=
  PGs.weak (pgs_cons h1 h2 hs) fun v σ H Q hh => by
    obtain ⟨μ, σD, S, d, ok, en, r, hh⟩ := hh
    cases r with
    | nil => exact hh.elim
    | @cons x v xs vs r1 r2 =>
      refine ⟨v, vs, rfl, μ, σD, S, x, ok, en, r1, ?_⟩
      rw [Pat.bindL] at hh
      cases q : p.bind S x σD with
      | none => rw [q] at hh; exact hh.elim
      | some σ' =>
        rw [q] at hh
        simp only at hh
        refine fun σV' en' hw => ⟨μ, σ', S, xs, ok, en', r2, ?_⟩
        cases q2 : Pat.bindL S ps xs σ' with
        | none => rw [q2] at hh; exact hh.elim
        | some σ2 =>
          rw [q2] at hh
          exact fun σV2 en2 hw2 => hh σV2 en2 fun vs hv => by
            rw [hw2 vs fun i hi => hv i (by rw [Pat.slotsL]; exact List.mem_append_right _ hi), hw vs fun i hi => hv i (by rw [Pat.slotsL]; exact List.mem_append_left _ hi)]
theorem bindL_len {S : Store} : ∀ {ps : List Pat} {xs : List D} {σ σ' : Sg}, Pat.bindL S ps xs σ = some σ' → xs.length = ps.length
  | [], [], _, _, _ => rfl
  | [], _ :: _, _, _, h => by simp [Pat.bindL] at h
  | _ :: _, [], _, _, h => by simp [Pat.bindL] at h
  | p :: ps, x :: xs, σ, σ', h => by
    rw [Pat.bindL] at h
    cases q : p.bind S x σ with
    | none => rw [q] at h; cases h
    | some σ2 =>
      rw [q] at h
      rw [List.length_cons, List.length_cons, bindL_len h]
theorem p_un {ps : List Pat} {k : Nat} (h : PGs X es (tPts X.kw ps)) (hc : X.calm = true := by rfl) (hn : (assignEach es X.env).length = ps.length := by rfl) (hst : (assignEach es X.env).findIdx? (·.1) = none := by rfl) : PG X (.Tuple es k pos) (tPt X.kw (.un ps)) :=
  PG.weak (PG.or (pg_tup hc h hn hst) (pg_lst hc h hn hst)) fun v σ H Q hh => by
    obtain ⟨μ, σD, S, d, ok, en, r, hh⟩ := hh
    rw [Pat.bind] at hh
    cases q : itemsOf S d with
    | none => rw [q] at hh; exact hh.elim
    | some xs =>
      rw [q] at hh
      simp only at hh
      obtain ⟨p, vs, rfl, hs, hl, rr⟩ := itemsOf_ok ok r q
      have hln : vs.length = ps.length := by
        cases q2 : Pat.bindL S ps xs σD with
        | none => rw [q2] at hh; exact hh.elim
        | some σ2 => rw [← rr.length]; exact bindL_len q2
      have hh' : tPts X.kw ps vs σ H Q := ⟨μ, σD, S, xs, ok, en, rr, by
        cases q2 : Pat.bindL S ps xs σD with
        | none => rw [q2] at hh; exact hh.elim
        | some σ2 =>
          rw [q2] at hh
          exact fun σV' e1 e2 => hh σV' e1 fun vs hv => e2 vs (by simpa [Pat.slots] using hv)⟩
      rcases hs with hs | hs
      · exact .inr ⟨p, vs, rfl, hs, hln, hh'⟩
      · exact .inl ⟨p, vs, rfl, hs, hln, hh'⟩
end
end DL

namespace DL
open PySem PySem.Spec PyProof.Rows L2
/-! ### expressions that make a new list -/
abbrev DL' := Sg → Store → Res (List D)
/-- a new list, not (yet) of the store -/
def tL (K : KW) (mg : Str → Option Value) (W : WX) (f : DL') : TE := fun σV H Q => ∃ μ σ S, Ok K μ H S ∧ EnvR K μ H σ σV ∧ match f σ S with
  | .ok xs S' => ∀ μ' H' a vs, Ext μ H μ' H' → Ok K μ' H' S' → a ∉ μ' → H a = none → H' a = some (.lst vs) → vs.length ≤ sizeLine → RL K μ' H' xs vs → Q (.ref a) H'
  | .ex e S' => ∀ μ' H' cls dx, Ext μ H μ' H' → Ok K μ' H' S' → ExR K mg μ' H' e cls dx → W cls dx σV H'
  | .no => False
def cAlloc (f : DL') : DE := fun σ S => (f σ S).bind fun xs S1 => .ok (.loc S1.length) (S1 ++ [.lst xs])
section
variable {K : KW} {mg : Str → Option Value} {W : WX}
/-- a list that stands becomes one of the store -/
theorem Ok.adopt {μ : List Addr} {H : Hp} {S : Store} (ok : Ok K μ H S) {p : Addr} {vs : List V} {xs : List D} (hn : p ∉ μ) (h : H p = some (.lst vs)) (l : vs.length ≤ sizeLine) (r : RL K μ H xs vs) : Ok K (μ ++ [p]) H (S ++ [.lst xs]) := by
  have x : Sub μ H (μ ++ [p]) H := ⟨⟨[p], rfl⟩, fun _ _ e _ => e⟩
  refine ⟨by rw [List.length_append, List.length_append, ok.len]; rfl, ?_, fun i a c h1 h2 => ?_⟩
  · rw [List.nodup_append]
    refine ⟨ok.nd, by simp, fun a ha b hb e => ?_⟩
    rw [List.mem_singleton.mp hb] at e
    rw [e] at ha
    exact hn ha
  · by_cases hi : i < μ.length
    · rw [List.getElem?_append_left hi] at h1
      rw [List.getElem?_append_left (by rw [← ok.len]; exact hi)] at h2
      exact (ok.cell i a c h1 h2).subM x fun o e => e
    · rw [List.getElem?_append_right (by omega)] at h1
      rw [List.getElem?_append_right (by rw [← ok.len]; omega)] at h2
      have e0 : i - μ.length = 0 := by
        have := (List.getElem?_eq_some_iff.mp h1).1
        simp at this
        omega
      have e1 : i - S.length = 0 := by rw [← ok.len]; exact e0
      rw [e0] at h1
      rw [e1] at h2
      simp at h1 h2
      subst h1 h2
      exact ⟨vs, h, l, r.subM x⟩
theorem ext_adopt {μ μ' : List Addr} {H H' : Hp} (x : Ext μ H μ' H') {p : Addr} (h : H p = none) : Ext μ H (μ' ++ [p]) H' := by
  obtain ⟨ν, e⟩ := x.pre
  refine ⟨⟨ν ++ [p], by rw [e, List.append_assoc]⟩, x.keep, fun a h1 h2 => ?_⟩
  rcases List.mem_append.mp h1 with z | z
  · exact x.new a z h2
  · rw [List.mem_singleton.mp z]; exact h
theorem tL_alloc {f : DL'} {σ : L2.St} {H : Hp} {Q : VK} (hh : tE K mg W (cAlloc f) σ H Q) : tL K mg W f σ H Q := by
  obtain ⟨μ, σD, S, ok, en, hh⟩ := hh
  refine ⟨μ, σD, S, ok, en, ?_⟩
  unfold cAlloc at hh
  cases q : f σD S with
  | no => rw [q] at hh; exact hh.elim
  | ex e S1 => rw [q] at hh; exact hh
  | ok xs S1 =>
    rw [q] at hh
    exact fun μ' H' a vs x ok' hn ha h l r => hh _ _ _ (ext_adopt x ha) (ok'.adopt hn h l r) (.loc (by rw [← ok'.len, List.getElem?_append_right (Nat.le_refl _)]; simp))
end
section
variable {X : Cx} {W : WX} {pos : Pos} {tg iter e elt : Expr} {f : DL'} {te : DE} {tt : DT} {src : DI} {ifs : List Expr}
theorem l_alloc (h : PE X e (tL X.kw X.mg W f)) : PE X e (tE X.kw X.mg W (cAlloc f)) := PE.weak h fun _ _ _ => tL_alloc
open Classical in
noncomputable def compL (gd : Gd) (p : Pat) (tt : DT) (te : DE) : List D → List D → Sg → Store → Res (List D)
  | [], acc, _, S => if gd.ok S then .ok acc S else .no
  | x :: xs, acc, σ, S => if gd.ok S then match p.bind S x σ with
      | some σ1 => match tt σ1 S with
        | .ok true S2 => match te σ1 S2 with
          | .ok y S3 => if acc.length < sizeLine then compL gd p tt te xs (acc ++ [y]) σ S3 else .no
          | _ => .no
        | .ok false S2 => compL gd p tt te xs acc σ S2
        | _ => .no
      | none => .no
    else .no
noncomputable def lComp (src : DI) (p : Pat) (tt : DT) (te : DE) (vs : List Nat) : DL' := fun σ S => (src σ S).bind fun d S1 => compL d.1 p tt te d.2 [] (wipeD σ vs) S1
def tYesD : DT := fun _ S => .ok true S
abbrev W0 : WX := fun _ _ _ _ => False
theorem PTs.weak {X : Cx} {e : List Expr} {t t' : TT} (h : PTs X e t) (w : ∀ σ H Q, t' σ H Q → t σ H Q) : PTs X e t' := ⟨fun pins s σ H Q I q => h.run pins s σ H Q I (w σ H Q q)⟩
theorem ts_nil : PTs X [] (tT X.kw X.mg W tYesD) := PTs.weak pts_nil fun σ H Q hh => by
  obtain ⟨μ, σD, S, ok, en, hh⟩ := hh
  exact hh μ H true (Ext.refl _ _) ok rfl
theorem ts_one {c : Expr} {t : DT} (h : PT X c (tT X.kw X.mg W t)) : PTs X [c] (tT X.kw X.mg W t) := pts_one h
theorem tL_comp {K : KW} {mg : Str → Option Value} {p : Pat} {vs : List Nat} (hK : K.pin = none) (hp : ∀ i ∈ p.slots, i ∈ vs) {σ : L2.St} {H : Hp} {Q : VK} (hh : tL K mg W (lComp src p tt te vs) σ H Q) :
    tLc (tI K mg W src) (tPt K p) (tT K mg W0 tt) (tE K mg W0 te) vs σ H Q := by
  obtain ⟨μ, σD, S, ok, en, hh⟩ := hh
  refine ⟨μ, σD, S, ok, en, ?_⟩
  unfold lComp at hh
  cases q : src σD S with
  | no => rw [q] at hh; exact hh.elim
  | ex e S1 => rw [q] at hh; exact hh
  | ok d S1 =>
    rw [q] at hh
    obtain ⟨gd, ds⟩ := d
    simp only [Res.bind_ok] at hh
    intro μ1 H1 J x1 ok1 wk Da hDa
    have hDm : Da ∉ μ1 := ok1.notin hDa
    refine ⟨fun i m H2 => m = ds.length - i ∧ i ≤ ds.length ∧ ∃ μ2 S2 acc va, Ext μ1 H1 μ2 H2 ∧ Ok K μ2 H2 S2 ∧ Da ∉ μ2 ∧ H2 Da = some (.lst va) ∧ va.length ≤ sizeLine ∧ RL K μ2 H2 acc va ∧
        match compL gd p tt te (ds.drop i) acc (wipeD σD vs) S2 with
        | .ok xs S' => ∀ μ' H' a vs, Ext μ H μ' H' → Ok K μ' H' S' → a ∉ μ' → H a = none → H' a = some (.lst vs) → vs.length ≤ sizeLine → RL K μ' H' xs vs → Q (.ref a) H'
        | _ => False,
      ⟨ds.length, rfl, Nat.zero_le _, μ1, S1, [], [], ext_new hDa, ok1.laid hDa, hDm, upd_same, Nat.zero_le _, .nil, ?_⟩, ?_⟩
    · rw [List.drop_zero]
      cases q2 : compL gd p tt te ds [] (wipeD σD vs) S1 with
      | no => rw [q2] at hh; exact hh.elim
      | ex e S2 =>
        exfalso
        have noex : ∀ (ds : List D) acc σ S e S2, compL gd p tt te ds acc σ S ≠ .ex e S2 := by
          intro ds
          induction ds with
          | nil =>
            intro acc σ S e S2 h
            rw [compL] at h
            split at h <;> cases h
          | cons x xs ih =>
            intro acc σ S e S2 h
            rw [compL] at h
            split at h
            · split at h
              · split at h
                · split at h
                  · split at h
                    · exact ih _ _ _ _ _ h
                    · cases h
                  · cases h
                · exact ih _ _ _ _ _ h
                · cases h
              · cases h
            · cases h
        exact noex _ _ _ _ _ _ q2
      | ok xs S2 =>
        rw [q2] at hh
        exact hh
    · rintro i m H2 ⟨rfl, hi, μ2, S2, acc, va, x2, ok2, hm2, hd2, hl2, ra, h2⟩
      by_cases hlt : i < ds.length
      · rw [List.drop_eq_getElem_cons hlt, compL] at h2
        by_cases hgd : gd.ok S2
        · rw [if_pos hgd] at h2
          obtain ⟨go, yl⟩ := wk.go i μ2 H2 S2 ds[i] x2.sub ok2 hgd (List.getElem?_eq_getElem hlt)
          refine .inr ⟨go, fun H3 => ∃ μ3 S3 acc va, Ext μ1 H1 μ3 H3 ∧ Ok K μ3 H3 S3 ∧ Da ∉ μ3 ∧ H3 Da = some (.lst va) ∧ va.length ≤ sizeLine ∧ RL K μ3 H3 acc va ∧
              match compL gd p tt te (ds.drop (i + 1)) acc (wipeD σD vs) S3 with
              | .ok xs S' => ∀ μ' H' a vs, Ext μ H μ' H' → Ok K μ' H' S' → a ∉ μ' → H a = none → H' a = some (.lst vs) → vs.length ≤ sizeLine → RL K μ' H' xs vs → Q (.ref a) H'
              | _ => False,
            fun H3 h3 => ⟨ds.length - (i + 1), by omega, rfl, hlt, h3⟩, fun x H' hy => ?_⟩
          obtain ⟨xe, oke, re⟩ := yl x H' hy
          cases q2 : p.bind S2 ds[i] (wipeD σD vs) with
          | none => rw [q2] at h2; exact h2.elim
          | some σ1 =>
            rw [q2] at h2
            simp only at h2
            refine ⟨μ2, wipeD σD vs, S2, ds[i], oke, ((((en.mono x1).wipe hK vs).mono x2).mono xe), re, ?_⟩
            rw [q2]
            refine fun σV1 en1 hw => ⟨?_, ?_⟩
            · rw [hw vs hp]
              have : ∀ (l : List Nat) (τ : L2.St), L2.wipe (L2.wipe τ l) l = L2.wipe τ l := by
                intro l τ
                have gen : ∀ (a b : List Nat), (∀ i ∈ a, i ∈ b) → L2.wipe (L2.wipe τ b) a = L2.wipe τ b := by
                  intro a b
                  induction a with
                  | nil => intro _; rfl
                  | cons v a ih =>
                    intro hs
                    rw [L2.wipe, ih fun i hi => hs i (List.mem_cons_of_mem _ hi)]
                    -- the slot is forgotten already
                    have hv : v ∈ b := hs v List.mem_cons_self
                    apply List.ext_getElem?
                    intro j
                    by_cases hj : v = j
                    · subst hj
                      by_cases hlen : v < (L2.wipe τ b).length
                      · rw [List.getElem?_set_self hlen]
                        cases z : (L2.wipe τ b)[v]? with
                        | none => rw [List.getElem?_eq_getElem hlen] at z; cases z
                        | some o =>
                          cases o with
                          | none => rfl
                          | some y => exact absurd hv (wipe_some z).2
                      · rw [List.getElem?_eq_none (by rw [List.length_set]; omega), List.getElem?_eq_none (by omega)]
                    · rw [List.getElem?_set_ne hj]
                exact gen l l fun _ h => h
              exact this vs σ
            · refine ⟨μ2, σ1, S2, oke, en1, ?_⟩
              cases q3 : tt σ1 S2 with
              | no => rw [q3] at h2; exact h2.elim
              | ex e S3 => rw [q3] at h2; exact h2.elim
              | ok k S3 =>
                rw [q3] at h2
                intro μ3 H3 k' x3 ok3 ek
                cases ek
                have x23 : Ext μ2 H2 μ3 H3 := xe.trans x3
                have hm3 : Da ∉ μ3 := fun z => by
                  have := x23.new Da z hm2
                  rw [hd2] at this; cases this
                have hd3 : H3 Da = some (.lst va) := x23.keep _ _ hd2 fun z => absurd z hm2
                cases k with
                | false =>
                  rw [if_neg Bool.false_ne_true]
                  refine ⟨μ3, S3, acc, va, x2.trans x23, ok3, hm3, hd3, hl2, ra.mono x23, ?_⟩
                  simp only at h2
                  cases q4 : compL gd p tt te (ds.drop (i + 1)) acc (wipeD σD vs) S3 with
                  | ok xs S' =>
                    rw [q4] at h2
                    exact h2
                  | _ => rw [q4] at h2; exact h2.elim
                | true =>
                  rw [if_pos rfl]
                  simp only at h2
                  refine ⟨μ3, σ1, S3, ok3, en1.mono x3, ?_⟩
                  cases q4 : te σ1 S3 with
                  | no => rw [q4] at h2; exact h2.elim
                  | ex e S4 => rw [q4] at h2; exact h2.elim
                  | ok y S4 =>
                    rw [q4] at h2
                    simp only at h2
                    intro μ4 H4 vy x4 ok4 ry
                    have x24 : Ext μ2 H2 μ4 H4 := x23.trans x4
                    have hm4 : Da ∉ μ4 := fun z => by
                      have := x24.new Da z hm2
                      rw [hd2] at this; cases this
                    have hd4 : H4 Da = some (.lst va) := x24.keep _ _ hd2 fun z => absurd z hm2
                    by_cases hz : acc.length < sizeLine
                    · rw [if_pos hz] at h2
                      have hza : va.length < sizeLine := by rw [← ra.length]; exact hz
                      refine ⟨va, hd4, hza, ?_⟩
                      have xs4 : Sub μ4 H4 μ4 (upd H4 Da (.lst (va ++ [vy]))) := ⟨⟨[], by simp⟩, fun b o e im => by
                        by_cases hb : b = Da
                        · rw [hb, hd4] at e; cases e; exact absurd im fun z => z
                        · rw [upd_ne hb]; exact e⟩
                      have ok5 : Ok K μ4 (upd H4 Da (.lst (va ++ [vy]))) S4 := ⟨ok4.len, ok4.nd, fun l a c h1 h2 => (ok4.cell l a c h1 h2).subM xs4 fun o e => by
                        rw [upd_ne (fun z => hm4 (by rw [← z]; exact List.mem_of_getElem? h1))]; exact e⟩
                      have x14 : Ext μ1 H1 μ4 (upd H4 Da (.lst (va ++ [vy]))) := by
                        have x := x2.trans x24
                        refine ⟨x.pre, fun b o e hb => ?_, x.new⟩
                        rw [upd_ne (ne_of_none e hDa)]
                        exact x.keep b o e hb
                      refine ⟨μ4, S4, acc ++ [y], va ++ [vy], x14, ok5, hm4, upd_same, by rw [List.length_append]; exact hza, ((ra.mono x24).append (.cons ry .nil)).subM xs4, ?_⟩
                      cases q5 : compL gd p tt te (ds.drop (i + 1)) (acc ++ [y]) (wipeD σD vs) S4 with
                      | ok xs S' =>
                        rw [q5] at h2
                        exact h2
                      | _ => rw [q5] at h2; exact h2.elim
                    · rw [if_neg hz] at h2; exact h2.elim
        · rw [if_neg hgd] at h2; exact h2.elim
      · have e : i = ds.length := by omega
        subst e
        rw [List.drop_length, compL] at h2
        by_cases hgd : gd.ok S2
        · rw [if_pos hgd] at h2
          have hDH : H Da = none := by
            cases z : H Da with
            | none => rfl
            | some o =>
              by_cases hm : Da ∈ μ
              · obtain ⟨ν, e⟩ := x1.pre
                exact absurd (by rw [e]; exact List.mem_append_left _ hm) hDm
              · rw [x1.keep _ _ z fun h => absurd h hm] at hDa; cases hDa
          exact .inl ⟨wk.stop _ μ2 H2 S2 x2.sub ok2 hgd (Nat.le_refl _), h2 μ2 H2 Da va (x1.trans x2) ok2 hm2 hDH hd2 hl2 ra⟩
        · rw [if_neg hgd] at h2; exact h2.elim
end
end DL

namespace DL
open PySem PySem.Spec PyProof.Rows L2
/-! ### comprehensions as expressions -/
section
variable {X : Cx} {W : WX} {pos : Pos} {tg iter e elt : Expr} {f : DL'} {te : DE} {tt : DT} {src : DI} {ifs : List Expr}
theorem l_comp {scope : Scope} {own : List (Str × Nat)} {p : Pat} (hN : X.N.Nodup) (hi : PI X tg iter (tI X.kw X.mg W src)) (ok : BlkOk X.N X.env.scope scope own) (hv : ∀ i ∈ p.slots, i ∈ own.map (·.2))
    (hg : ∀ (s : Shared) (H : Hp) (C : Addr) (cl : List (Str × Addr)) (fp : List Addr), PG (X.blk s H scope (compEnvC scope cl C X.env) fp) tg (tPt X.kw p)) (ht : ∀ (s : Shared) (H : Hp) (C : Addr) (cl : List (Str × Addr)) (fp : List Addr), PTs (X.blk s H scope (compEnvC scope cl C X.env) fp) ifs (tT X.kw X.mg W0 tt))
    (he : ∀ (s : Shared) (H : Hp) (C : Addr) (cl : List (Str × Addr)) (fp : List Addr), PE (X.blk s H scope (compEnvC scope cl C X.env) fp) elt (tE X.kw X.mg W0 te)) (hc : X.calm = true := by rfl) (hs : ∀ x, foldedSetIterable iter X.env x = pure x := by intro _; rfl) :
    PE X (.ListComp elt [⟨tg, iter, ifs, 0⟩] scope pos) (tL X.kw X.mg W (lComp src p tt te (own.map (·.2)))) := PE.weak (pe_lc hc hN hi ok hg ht he hs) fun _ _ _ => tL_comp rfl hv
theorem s_setLc {i : Nat} {y : Str} {py spos : Pos} {scope : Scope} {own : List (Str × Nat)} {p : Pat} (hN : X.N.Nodup) (hi : PI X tg iter (tI X.kw X.mg W src)) (ok : BlkOk X.N X.env.scope scope own) (hv : ∀ i ∈ p.slots, i ∈ own.map (·.2))
    (hg : ∀ (s : Shared) (H : Hp) (C : Addr) (cl : List (Str × Addr)) (fp : List Addr), PG (X.blk s H scope (compEnvC scope cl C X.env) fp) tg (tPt X.kw p)) (ht : ∀ (s : Shared) (H : Hp) (C : Addr) (cl : List (Str × Addr)) (fp : List Addr), PTs (X.blk s H scope (compEnvC scope cl C X.env) fp) ifs (tT X.kw X.mg W0 tt))
    (he : ∀ (s : Shared) (H : Hp) (C : Addr) (cl : List (Str × Addr)) (fp : List Addr), PE (X.blk s H scope (compEnvC scope cl C X.env) fp) elt (tE X.kw X.mg W0 te))
    (hsw : swapsWith (.ListComp elt [⟨tg, iter, ifs, 0⟩] scope pos) (some (.Name y py)) spos.line X.env = pure true) (hc : X.calm = true := by rfl) (hy : X.N[i]? = some y := by rfl) (hyl : X.env.scope.names.lookup y = some .local := by rfl) (hs : ∀ x, foldedSetIterable iter X.env x = pure x := by intro _; rfl) :
    PS X (.Assign [.Name y py] (.ListComp elt [⟨tg, iter, ifs, 0⟩] scope pos) spos) (tS X.kw X.mg W (sSet i (cAlloc (lComp src p tt te (own.map (·.2)))))) := by
  refine PS.weak (ps_setLc hc hN hy hyl hsw hi ok hg ht he hs) fun Dn σ H hh => ?_
  have h1 : tE X.kw X.mg W (cAlloc (lComp src p tt te (own.map (·.2)))) σ H (fun x H1 => gName i x σ H1 Dn.nx) :=
    tS_E (k := fun σ d S1 => .nx (σ.set i (some d)) S1) hh fun σD d S μ' H' v ok en r hh => hh μ' H' _ (Ext.refl _ _) ok (en.set i r)
  exact tL_comp rfl hv (tL_alloc h1)
/-- tuple of a new list, and its like: the list is not kept -/
def cOfL (k : List D → Option D) (f : DL') : DE := fun σ S => (f σ S).bind fun xs S1 => match k xs with
  | some d => .ok d S1
  | none => .no
theorem tL_ofL {k : List D → Option D} {K : KW} {mg : Str → Option Value} {r : List V → Hp → VK → Prop} (hk : ∀ xs d a vs μ H S (Q : VK), k xs = some d → Ok K μ H S → a ∉ μ → H a = some (.lst vs) → vs.length ≤ sizeLine → RL K μ H xs vs → (∀ μ' H' v, Ext μ H μ' H' → Ok K μ' H' S → R K μ' H' d v → Q v H') → r [.ref a] H Q)
    {σ : L2.St} {H : Hp} {Q : VK} (hh : tE K mg W (cOfL k f) σ H Q) : tL K mg W f σ H fun v H1 => r [v] H1 Q := by
  obtain ⟨μ, σD, S, ok, en, hh⟩ := hh
  refine ⟨μ, σD, S, ok, en, ?_⟩
  unfold cOfL at hh
  cases q : f σD S with
  | no => rw [q] at hh; exact hh.elim
  | ex e S1 => rw [q] at hh; exact hh
  | ok xs S1 =>
    rw [q] at hh
    simp only [Res.bind_ok] at hh
    intro μ' H' a vs x ok' hn ha h l rr
    cases q2 : k xs with
    | none => rw [q2] at hh; exact hh.elim
    | some d =>
      rw [q2] at hh
      exact hk xs d a vs μ' H' S1 Q q2 ok' hn h l rr fun μ2 H2 v x2 => hh μ2 H2 v (x.trans x2)
theorem e_ofTy {T : String} {x : Str} {p : Pos} {k : List D → Option D} {r : List V → Hp → VK → Prop} (hcr : CallR X (.type T) r) (hk : ∀ xs d a vs μ H S (Q : VK), k xs = some d → Ok X.kw μ H S → a ∉ μ → H a = some (.lst vs) → vs.length ≤ sizeLine → RL X.kw μ H xs vs → (∀ μ' H' v, Ext μ H μ' H' → Ok X.kw μ' H' S → R X.kw μ' H' d v → Q v H') → r [.ref a] H Q)
    (hg : Gl X x) (hm : X.mg x = none) (hv : bootBuiltins x = some (.type T)) (ha : PE X e (tL X.kw X.mg W f)) (hn : x ≠ "__name__" := by decide) (hdb : (x == ("__debug__" : Str)) = false := by decide)
    (he : starEach [e] X.env = (false, eval e X.env) :: starEach [] X.env := by rfl) (hpl : (backTo pos (starEach [] X.env)).any (·.1) = false := by rfl) : PE X (.Call (.Name x p) [e] [] pos) (tE X.kw X.mg W (cOfL k f)) :=
  PE.weak (pe_callTy hcr hg hm hv (pa_cons ha pa_nil he) hn hdb he hpl) fun _ _ _ hh => tL_ofL hk hh
theorem e_ofB {T : String} {x : Str} {p : Pos} {k : List D → Option D} {r : List V → Hp → VK → Prop} (hcr : CallR X (.builtin T) r) (hk : ∀ xs d a vs μ H S (Q : VK), k xs = some d → Ok X.kw μ H S → a ∉ μ → H a = some (.lst vs) → vs.length ≤ sizeLine → RL X.kw μ H xs vs → (∀ μ' H' v, Ext μ H μ' H' → Ok X.kw μ' H' S → R X.kw μ' H' d v → Q v H') → r [.ref a] H Q)
    (hg : Gl X x) (hm : X.mg x = none) (hv : bootBuiltins x = some (.builtin T)) (ha : PE X e (tL X.kw X.mg W f)) (hn : x ≠ "__name__" := by decide) (hdb : (x == ("__debug__" : Str)) = false := by decide)
    (he : starEach [e] X.env = (false, eval e X.env) :: starEach [] X.env := by rfl) (hpl : (backTo pos (starEach [] X.env)).any (·.1) = false := by rfl) : PE X (.Call (.Name x p) [e] [] pos) (tE X.kw X.mg W (cOfL k f)) :=
  PE.weak (pe_callB hcr hg hm hv (pa_cons ha pa_nil he) hn hdb he hpl) fun _ _ _ hh => tL_ofL hk hh
def kTup : List D → Option D := fun xs => some (.tup xs)
def kAll : List D → Option D := fun xs => (bolsOf xs).map fun bs => .bl (bs.all id)
def kAny : List D → Option D := fun xs => (bolsOf xs).map fun bs => .bl (bs.any id)
def kSum : List D → Option D := fun xs => (intsOf xs).map fun bs => .int bs.sum
def kLen : List D → Option D := fun xs => some (.int xs.length)
theorem e_tupL {p : Pos} (hm : X.mg "tuple" = none) (ha : PE X e (tL X.kw X.mg W f)) (hg : Gl X "tuple" := by rfl) (he : starEach [e] X.env = (false, eval e X.env) :: starEach [] X.env := by rfl) (hpl : (backTo pos (starEach [] X.env)).any (·.1) = false := by rfl) : PE X (.Call (.Name "tuple" p) [e] [] pos) (tE X.kw X.mg W (cOfL kTup f)) :=
  e_ofTy call_tuple_of (fun xs d a vs μ H S Q hk ok hn h l rr hq => by
    cases hk
    exact ⟨a, vs, rfl, .inl ⟨.inl (.inl h), fun q hq' => hq μ _ _ (ext_new hq') (ok.laid hq') (.tup (.inl (.inl upd_same)) l (rr.mono (ext_new hq')))⟩⟩) hg hm (by decide +kernel) ha (by decide) (by decide) he hpl
theorem e_allL {p : Pos} (hm : X.mg "all" = none) (ha : PE X e (tL X.kw X.mg W f)) (hc : X.calm = true := by rfl) (hg : Gl X "all" := by rfl) (he : starEach [e] X.env = (false, eval e X.env) :: starEach [] X.env := by rfl) (hpl : (backTo pos (starEach [] X.env)).any (·.1) = false := by rfl) : PE X (.Call (.Name "all" p) [e] [] pos) (tE X.kw X.mg W (cOfL kAll f)) :=
  e_ofB (cr_all hc) (fun xs d a vs μ H S Q hk ok hn h l rr hq => by
    unfold kAll at hk
    cases q : bolsOf xs with
    | none => rw [q] at hk; cases hk
    | some bs =>
      rw [q] at hk; cases hk
      have e := bolsOf_eq q
      subst e
      rw [rr.bolsV] at h
      exact ⟨a, bs, rfl, .inl (.inl h), hq μ H _ (Ext.refl _ _) ok (.bl _)⟩) hg hm (by decide +kernel) ha (by decide) (by decide) he hpl
theorem e_anyL {p : Pos} (hm : X.mg "any" = none) (ha : PE X e (tL X.kw X.mg W f)) (hc : X.calm = true := by rfl) (hg : Gl X "any" := by rfl) (he : starEach [e] X.env = (false, eval e X.env) :: starEach [] X.env := by rfl) (hpl : (backTo pos (starEach [] X.env)).any (·.1) = false := by rfl) : PE X (.Call (.Name "any" p) [e] [] pos) (tE X.kw X.mg W (cOfL kAny f)) :=
  e_ofB (cr_any hc) (fun xs d a vs μ H S Q hk ok hn h l rr hq => by
    unfold kAny at hk
    cases q : bolsOf xs with
    | none => rw [q] at hk; cases hk
    | some bs =>
      rw [q] at hk; cases hk
      have e := bolsOf_eq q
      subst e
      rw [rr.bolsV] at h
      exact ⟨a, bs, rfl, .inl (.inl h), hq μ H _ (Ext.refl _ _) ok (.bl _)⟩) hg hm (by decide +kernel) ha (by decide) (by decide) he hpl
theorem e_sumL {p : Pos} (hm : X.mg "sum" = none) (ha : PE X e (tL X.kw X.mg W f)) (hc : X.calm = true := by rfl) (hg : Gl X "sum" := by rfl) (he : starEach [e] X.env = (false, eval e X.env) :: starEach [] X.env := by rfl) (hpl : (backTo pos (starEach [] X.env)).any (·.1) = false := by rfl) : PE X (.Call (.Name "sum" p) [e] [] pos) (tE X.kw X.mg W (cOfL kSum f)) :=
  e_ofB (cr_sum hc) (fun xs d a vs μ H S Q hk ok hn h l rr hq => by
    unfold kSum at hk
    cases q : intsOf xs with
    | none => rw [q] at hk; cases hk
    | some bs =>
      rw [q] at hk; cases hk
      have e := intsOf_eq q
      subst e
      rw [rr.intsV] at h
      exact ⟨a, bs, rfl, .inl (.inl h), hq μ H _ (Ext.refl _ _) ok (.int _)⟩) hg hm (by decide +kernel) ha (by decide) (by decide) he hpl
theorem e_lenL {p : Pos} (hm : X.mg "len" = none) (ha : PE X e (tL X.kw X.mg W f)) (hg : Gl X "len" := by rfl) (he : starEach [e] X.env = (false, eval e X.env) :: starEach [] X.env := by rfl) (hpl : (backTo pos (starEach [] X.env)).any (·.1) = false := by rfl) : PE X (.Call (.Name "len" p) [e] [] pos) (tE X.kw X.mg W (cOfL kLen f)) :=
  e_ofB call_len_seq (fun xs d a vs μ H S Q hk ok hn h l rr hq => by
    cases hk
    refine ⟨a, vs, rfl, .inl (.inl (.inl h)), ?_⟩
    rw [← rr.length]
    exact hq μ H _ (Ext.refl _ _) ok (.int _)) hg hm (by decide +kernel) ha (by decide) (by decide) he hpl
end

/-! ### defs -/
abbrev FD := List D → Store → Res D
def spD (K : KW) (mg : Str → Option Value) (n : Nat) (F : FD) : Sp := fun vs H Q E => ∃ μ S ds, Ok K μ H S ∧ RL K μ H ds vs ∧ ds.length = n ∧ Post K mg (fun cls dx _ H' => E cls dx H') (R K) μ H [] (F ds S) Q
def cDef (n : Nat) (body : DS) : FD := fun ds S => match body (ds.map some ++ List.replicate (n - ds.length) none) S with
  | .nx _ S' => .ok .non S'
  | .rt d S' => .ok d S'
  | .ex e _ S' => .ex e S'
  | _ => .no
def cCall (F : FD) (a : DA) : DE := fun σ S => (a σ S).bind fun ds S1 => F ds S1
structure FnD (P : Program) (w : World) (K : PySem.W.Frag) (mg : Str → Option Value) (base : Heap) (lv : Nat) (x : Str) (n : Nat) (F : FD) : Prop where
  ex : ∃ f fd ps, mg x = some (.ref f) ∧ PySem.W.keepIn K (.ref f) = true ∧ Binds K fd ps [] ∧ ps.length = n ∧ FnOk P w K mg base (L2N.CX P w) lv f fd ps (spD ⟨K, w, none⟩ mg n F) ∧ ∃ qual st, Fun K x qual st f fd ∧ ps = (defArgs st).args.map (·.arg)
section
variable {X : Cx} {W : WX} {pos p : Pos} {e : Expr} {es : List Expr} {fa : DA} {F : FD} {x : Str} {k j n : Nat}
theorem e_call (T : FnD X.prog X.w X.K X.mg X.base j x n F) (hr : Room k X.A) (hj : j ≤ k) (tk : L2N.Takes X W) (ha : PA X (e :: es) (tA X.kw X.mg W fa)) (hn : ∀ σ S ds S', fa σ S = .ok ds S' → ds.length = n) (hg : Gl X x := by rfl) (hdb : (x == ("__debug__" : Str)) = false := by decide)
    (he : starEach (e :: es) X.env = (false, eval e X.env) :: starEach es X.env := by rfl) (hpl : (backTo pos (starEach es X.env)).any (·.1) = false := by rfl) : PE X (.Call (.Name x p) (e :: es) [] pos) (tE X.kw X.mg W (cCall F fa)) := by
  obtain ⟨f, fd, ps, hm, hk, hb, hl, ok, _⟩ := T.ex
  refine PE.weak (pe_callS ok (hr.mono hj) hg hm hk hb (fun σ => L2N.passAt tk σ) ha hdb he hpl) fun σ H Q hh => ?_
  obtain ⟨μ, σD, S, ok0, en, hh⟩ := hh
  refine ⟨μ, σD, S, ok0, en, ?_⟩
  unfold cCall at hh
  cases q : fa σD S with
  | no => rw [q] at hh; exact hh.elim
  | ex e S1 => rw [q] at hh; exact hh
  | ok ds S1 =>
    rw [q] at hh
    simp only [Res.bind_ok] at hh
    intro μ1 H1 vs x1 ok1 rl
    refine ⟨μ1, S1, ds, ok1, rl, hn _ _ _ _ q, ?_⟩
    have h1 := Post.mono x1 hh
    cases q2 : F ds S1 with
    | ok d S2 => rw [q2] at h1; exact h1
    | ex e S2 => rw [q2] at h1; exact h1
    | no => rw [q2] at h1; exact h1
theorem aNil_len : ∀ (σ : Sg) (S : Store) (ds : List D) (S' : Store), aNil σ S = .ok ds S' → ds.length = 0 := fun σ S ds S' h => by cases h; rfl
theorem aCons_len {f : DE} {g : DA} {m : Nat} (hg : ∀ (σ : Sg) (S : Store) (ds : List D) (S' : Store), g σ S = .ok ds S' → ds.length = m) : ∀ (σ : Sg) (S : Store) (ds : List D) (S' : Store), aCons f g σ S = .ok ds S' → ds.length = m + 1 := fun σ S ds S' h => by
  unfold aCons at h
  cases q : f σ S with
  | no => rw [q] at h; cases h
  | ex e S1 => rw [q] at h; cases h
  | ok d S1 =>
    rw [q] at h
    simp only [Res.bind_ok] at h
    cases q2 : g σ S1 with
    | no => rw [q2] at h; cases h
    | ex e S2 => rw [q2] at h; cases h
    | ok ds2 S2 =>
      rw [q2] at h
      cases h
      rw [List.length_cons, hg _ _ _ _ q2]
end
section
variable {P : Program} {w : World} {K : KW} {mg : Str → Option Value} {base : Heap}
theorem envStart {μ : List Addr} {H : Hp} {ds : List D} {vs : List V} (hK : K.pin = none) (r : RL K μ H ds vs) (N : List Str) (n : Nat) (hn : N.length = n) : EnvR K μ H (ds.map some ++ List.replicate (n - ds.length) none) (L2.start N vs) := by
  subst hn
  unfold L2.start
  have hl := r.length
  refine ⟨by rw [List.length_append, List.length_append, List.length_map, List.length_map, List.length_replicate, List.length_replicate, hl], fun i d h => ?_, fun p hp => by rw [hK] at hp; cases hp⟩
  by_cases hi : i < ds.length
  · rw [List.getElem?_append_left (by simpa using hi), List.getElem?_map] at h
    cases q : ds[i]? with
    | none => rw [q] at h; cases h
    | some d' =>
      rw [q] at h; cases h
      obtain ⟨v, hv, rv⟩ := r.get q
      refine ⟨v, ?_, rv⟩
      rw [List.getElem?_append_left (by rw [List.length_map, ← hl]; exact hi), List.getElem?_map, hv]; rfl
  · rw [List.getElem?_append_right (by simpa using hi), List.getElem?_replicate] at h
    split at h <;> cases h
/-- as Fun.okX, where exceptions have no context -/
theorem okN {P : Program} {w : World} {K : PySem.W.Frag} {mg : Str → Option Value} {base : Heap} {x qual : Str} {st : Stmt} {f : Addr} {fd : FuncData} {N ps : List Str} {k : Nat} {sp : Sp} (F : Fun K x qual st f fd) (S : FnScope N ps (defScope st)) (len : ∀ vs H Q E, sp vs H Q E → vs.length = ps.length)
    (hbody : ∀ (cdv : Value) (A : Around) (outer : List Env) (s : Shared) (H : Hp) (vs : List V) (Q : VK) (E : XK), Room k (A.deeper (envOfC qual (defScope st) s.heap.objs.size f cdv)) → sp vs H Q E →
      ∃ t, PSs (cxOf (L2N.CX P w) P w K mg base N qual (defScope st) f cdv A outer s H E) (defBody st) t ∧ t { nx := fun _ H' => Q .non H', rt := Q } (start N vs) H) : FnOk P w K mg base (L2N.CX P w) (k + 1) f fd ps sp := by
  obtain ⟨oc, od, kV, doc, pm, an, cdv, ct, osl, rfl, lk, hcd⟩ := F.ex
  exact fn_of lk hcd S len fun A outer s H vs Q E hr hsp => hbody cdv A outer s H vs Q E hr hsp
/-- THE RULE for a def -/
theorem d_def {K : PySem.W.Frag} {x qual : Str} {st : Stmt} {N ps : List Str} {k n m : Nat} {body : DS} (Fn : ∃ f fd, mg x = some (.ref f) ∧ Fun K x qual st f fd) (S : FnScope N ps (defScope st)) (hN : N.length = m) (hps : ps.length = n)
    (hb : ∀ (kV doc pm : Value) (an : Option Addr) (cdv ct : Value) (us : List Value), us.length = ps.length → bindArgs (PySem.W.fnOf x qual (defArgs st) (defBody st) (defScope st) .none kV doc pm an cdv ct) ⟨us, []⟩ = pure (ps.zip us))
    (hbody : ∀ (f : Addr) (cdv : Value) (A : Around) (outer : List Env) (s : Shared) (H : Hp) (E : XK), Room k (A.deeper (envOfC qual (defScope st) s.heap.objs.size f cdv)) →
      L2N.Takes (cxOf (L2N.CX P w) P w K mg base N qual (defScope st) f cdv A outer s H E) (fun cls d _ H => E cls d H) → PassesOwn (model P w) (A.deeper (envOfC qual (defScope st) s.heap.objs.size f cdv)) (envOfC qual (defScope st) s.heap.objs.size f cdv) (cxOf (L2N.CX P w) P w K mg base N qual (defScope st) f cdv A outer s H E).xe →
      PSs (cxOf (L2N.CX P w) P w K mg base N qual (defScope st) f cdv A outer s H E) (defBody st) (tS ⟨K, w, none⟩ mg (fun cls d _ H => E cls d H) body)) (hpn : ps = (defArgs st).args.map (·.arg) := by rfl) : FnD P w K mg base (k + 1) x n (cDef m body) := by
  obtain ⟨f, fd, hm, F⟩ := Fn
  refine ⟨f, fd, ps, hm, F.kp, F.binds hb, hps, okN F S (fun vs H Q E h => ?_) fun cdv A outer s H vs Q E hr h => ?_, qual, st, F, hpn⟩
  · obtain ⟨μ, S0, ds, ok, rl, hl, _⟩ := h
    rw [← rl.length, hl, hps]
  · obtain ⟨μ, S0, ds, ok, rl, hl, hh⟩ := h
    refine ⟨_, hbody f cdv A outer s H E hr (L2N.takes_of rfl rfl rfl rfl) (passes_of rfl), μ, _, S0, ok, envStart rfl rl N m hN, ?_⟩
    unfold cDef at hh
    cases q : body (ds.map some ++ List.replicate (m - ds.length) none) S0 with
    | nx σ S1 =>
      rw [q] at hh
      exact fun μ' H' σV' x1 ok1 en1 => hh μ' H' .non x1 ok1 .non
    | rt d S1 =>
      rw [q] at hh
      exact hh
    | ex e σ S1 =>
      rw [q] at hh
      exact fun μ' H' σV' cls dx x1 ok1 en1 => hh μ' H' cls dx x1 ok1
    | bk σ S1 => rw [q] at hh; exact hh.elim
    | ct σ S1 => rw [q] at hh; exact hh.elim
    | no => rw [q] at hh; exact hh.elim
theorem only_sq {H : Hp} {a : Addr} {vs : List V} (o : Only H) (h : SqL K H a vs) : SqI K H a vs := by
  rcases h with (h | ⟨ob, h⟩) | h
  · rcases o a with z | ⟨ob, xs, z⟩
    · rw [h] at z; cases z
    · rw [h] at z; cases z
  · exact .inl ⟨ob, h⟩
  · exact .inr h
theorem law_sp {F : FD} {H : Hp} {a : Addr} {ns : List Int} (o : Only H) (h : SqL K H a (ns.map V.int)) (hl : ns.length ≤ sizeLine) (hF : ∃ S', F [.rol (ns.map D.int)] [] = .ok (.bl true) S') : spD K mg 1 F [.ref a] H (fun v _ => v = .bl true) fun _ _ _ => False := by
  obtain ⟨S', hF⟩ := hF
  refine ⟨[], [], [.rol (ns.map D.int)], ⟨rfl, List.nodup_nil, fun l a c h => by simp at h⟩, .cons (.rol (only_sq o h) (by rw [List.length_map]; exact hl) (RL.ints ns)) .nil, rfl, ?_⟩
  rw [hF]
  intro μ' H' v x ok r
  cases r
  rfl
end
end DL
namespace DL
open PySem PySem.Spec PyProof.Rows L2
section
variable {X : Cx} {W : WX} {pos : Pos} {a b c e : Expr} {f g h : DE} {K : KW} {mg : Str → Option Value}
theorem e_globC {x : Str} {d : D} {v : V} (hm : ∃ u, X.mg x = some u ∧ RelV v u) (r : ∀ μ H, R X.kw μ H d v) (hg : Gl X x := by rfl) (hd : (x == ("__debug__" : Str)) = false := by decide) : PE X (.Name x pos) (tE X.kw X.mg W (cK d)) := by
  obtain ⟨u, hm, rv⟩ := hm
  exact e_glob hg hm rv r hd
/-- a < b < c -/
def cCh (k k' : O2) (f g h : DE) : DE := fun σ S => (f σ S).bind fun x S1 => (g σ S1).bind fun y S2 => match k x y S2 with
  | some (.bl true, S3) => (h σ S3).bind fun z S4 => Res.of (k' y z S4)
  | some (.bl false, S3) => .ok (.bl false) S3
  | _ => .no
theorem tE_chain {k k' : O2} {σ : L2.St} {H : Hp} {Q : VK} (hh : tE K mg W (cCh k k' f g h) σ H Q) : tChain (r2 K k) (r2 K k') (tE K mg W f) (tE K mg W g) (tE K mg W h) σ H Q := by
  obtain ⟨μ, σD, S, ok, en, hh⟩ := hh
  refine ⟨μ, σD, S, ok, en, Post.bind hh fun x S1 μ1 H1 v x1 ok1 rx h1 => ⟨μ1, σD, S1, ok1, en.mono x1, Post.bind h1 fun y S2 μ2 H2 u x2 ok2 ry h2 => ⟨μ2, S2, x, y, ok2, rx.mono x2, ry, ?_⟩⟩⟩
  cases q : k x y S2 with
  | none => rw [q] at h2; exact h2.elim
  | some p =>
    obtain ⟨d, S3⟩ := p
    rw [q] at h2
    intro μ3 H3 w x3 ok3 rw'
    cases d with
    | bl b =>
      cases rw'
      refine ⟨b, rfl, ?_⟩
      cases b with
      | false =>
        rw [if_neg Bool.false_ne_true]
        exact h2 μ3 H3 _ x3 ok3 (.bl _)
      | true =>
        rw [if_pos rfl]
        simp only at h2
        have h3 := Post.mono x3 h2
        exact ⟨μ3, σD, S3, ok3, (en.mono x1).mono (x2.trans x3), Post.bind h3 fun z S4 μ4 H4 t x4 ok4 rz h4 => ⟨μ4, S4, y, z, ok4, ry.mono (x3.trans x4), rz, h4.of⟩⟩
    | _ => exact h2.elim
end
end DL
namespace DL
open PySem PySem.Spec PyProof.Rows L2
section
variable {X : Cx} {W : WX} {pos : Pos} {a b c e : Expr} {f g h : DE}
theorem e_chain {op op' : CmpOp} {k k' : O2} (ho : OpR X (compareOp op) (r2 X.kw k)) (ho' : OpR X (compareOp op') (r2 X.kw k')) (ha : PE X a (tE X.kw X.mg W f)) (hb : PE X b (tE X.kw X.mg W g)) (hc : PE X c (tE X.kw X.mg W h))
    (hm : lastMarks [op, op'] [b, c] = false := by with_unfolding_all rfl) : PE X (.Compare a [op, op'] [b, c] pos) (tE X.kw X.mg W (cCh k k' f g h)) := PE.weak (pe_chain ho ho' ha hb hc hm) fun _ _ _ => tE_chain
theorem t_chain {op op' : CmpOp} {k k' : O2} (ho : OpR X (compareOp op) (r2 X.kw k)) (ho' : OpR X (compareOp op') (r2 X.kw k')) (ha : PE X a (tE X.kw X.mg W f)) (hb : PE X b (tE X.kw X.mg W g)) (hc : PE X c (tE X.kw X.mg W h))
    (hm : lastMarks [op, op'] [b, c] = false := by with_unfolding_all rfl) : PT X (.Compare a [op, op'] [b, c] pos) (tT X.kw X.mg W (cTest (cCh k k' f g h))) := by
  refine PT.weak (pt_chain ho ho' ha hb hc hm) fun σ H Q hh => ?_
  have h1 : tE X.kw X.mg W (cCh k k' f g h) σ H fun v H1 => ∃ k, v = .bl k ∧ Q k H1 := tG1 (RA := R X.kw) hh fun x S μ H v ok rx hh => by
    cases x with
    | bl b =>
      cases rx
      exact ⟨b, rfl, hh μ H b (Ext.refl _ _) ok rfl⟩
    | _ => exact hh.elim
  exact tE_chain h1
/-- where nothing is let out -/
theorem takes0' {X : Cx} : L2N.Takes X W0 := fun _ _ x => by
  obtain ⟨_, _, _, _, _, _, _, _, _, _, _, _, _, _, _, _, z⟩ := x
  exact z.elim
end
end DL

namespace DL
open PySem PySem.Spec PyProof.Rows L2
section
variable {X : Cx} {W : WX} {pos : Pos} {a b c e : Expr} {f g h : DE} {K : KW} {mg : Str → Option Value}
/-! ### list(range(..)), tuple(range(..)) -/
def RgL (i j : Int) : Prop := okB i ∧ okB j ∧ (j - i).toNat ≤ 2 ^ 24
instance (i j : Int) : Decidable (RgL i j) := by unfold RgL; infer_instance
def lRange1 (f : DE) : DL' := fun σ S => (f σ S).bind fun x S1 => match x with
  | .int j => if RgL 0 j then .ok (intsTo 0 j.toNat) S1 else .no
  | _ => .no
def lRange2 (f g : DE) : DL' := fun σ S => (f σ S).bind fun x S1 => (g σ S1).bind fun y S2 => match x, y with
  | .int i, .int j => if RgL i j then .ok (intsTo i (j - i).toNat) S2 else .no
  | _, _ => .no
theorem rg_rl (μ : List Addr) (H : Hp) (i j : Int) : RL K μ H (intsTo i (j - i).toNat) (rgV i j) := by
  unfold intsTo rgV
  have : ∀ l : List Nat, RL K μ H (l.map fun k : Nat => D.int (i + k)) (l.map fun k : Nat => V.int (i + k)) := by
    intro l
    induction l with
    | nil => exact .nil
    | cons k l ih => exact .cons (.int _) ih
  exact this _
/-- a range that a list or a tuple is made of -/
def tRgD (K : KW) (mg : Str → Option Value) (W : WX) (f : Sg → Store → Res (Int × Int)) : L2.St → Hp → (Int → Int → Hp → Prop) → Prop := fun σ H Q => tG K mg W (fun _ _ (a : Int × Int) (b : Int × Int) => a = b) f σ H fun p H1 => Q p.1 p.2 H1
def rRange1 (f : DE) : Sg → Store → Res (Int × Int) := fun σ S => (f σ S).bind fun x S1 => match x with
  | .int j => .ok (0, j) S1
  | _ => .no
def rRange2 (f g : DE) : Sg → Store → Res (Int × Int) := fun σ S => (f σ S).bind fun x S1 => (g σ S1).bind fun y S2 => match x, y with
  | .int i, .int j => .ok (i, j) S2
  | _, _ => .no
theorem PRg.weak {e : Expr} {t t' : L2.St → Hp → (Int → Int → Hp → Prop) → Prop} (h : PRg X e t) (w : ∀ σ H Q, t' σ H Q → t σ H Q) : PRg X e t' := fun pins s σ H Q I q => h pins s σ H Q I (w σ H Q q)
theorem rg_1 {p : Pos} (hm : X.mg "range" = none) (ha : PE X a (tE X.kw X.mg W f)) (hg : Gl X "range" := by rfl) (na : starEach [a] X.env = (false, eval a X.env) :: starEach [] X.env := by rfl) : PRg X (.Call (.Name "range" p) [a] [] pos) (tRgD X.kw X.mg W (rRange1 f)) :=
  PRg.weak (prg_1 hg hm ha na) fun σ H Q hh => tG1 (RA := R X.kw) hh fun x S μ H v ok rx hh => by
    cases rx with
    | int j => exact ⟨j, rfl, hh μ H (0, j) (Ext.refl _ _) ok rfl⟩
    | _ => exact hh.elim
theorem rg_2 {p : Pos} (hm : X.mg "range" = none) (ha : PE X a (tE X.kw X.mg W f)) (hb : PE X b (tE X.kw X.mg W g)) (hg : Gl X "range" := by rfl) (na : starEach [a, b] X.env = (false, eval a X.env) :: starEach [b] X.env := by rfl) (nb : starEach [b] X.env = (false, eval b X.env) :: starEach [] X.env := by rfl) (hp2 : (backTo pos (starEach [b] X.env)).any (·.1) = false := by rfl) : PRg X (.Call (.Name "range" p) [a, b] [] pos) (tRgD X.kw X.mg W (rRange2 f g)) :=
  PRg.weak (prg_2 hg hm ha hb na nb hp2) fun σ H Q hh => tG2 (RA := R X.kw) (RB := R X.kw) (fun _ _ _ _ _ _ x r => r.mono x) hh fun x y S μ H v u ok rx ry hh => by
    cases rx with
    | int i =>
      cases ry with
      | int j => exact ⟨i, j, rfl, rfl, hh μ H (i, j) (Ext.refl _ _) ok rfl⟩
      | _ => exact hh.elim
    | _ => exact hh.elim
@[irreducible] def lRg (r : Sg → Store → Res (Int × Int)) : DL' := fun σ S => (r σ S).bind fun p S1 => if RgL p.1 p.2 then .ok (intsTo p.1 (p.2 - p.1).toNat) S1 else .no
def cTupRg (r : Sg → Store → Res (Int × Int)) : DE := fun σ S => (r σ S).bind fun p S1 => if RgL p.1 p.2 then .ok (.tup (intsTo p.1 (p.2 - p.1).toNat)) S1 else .no
theorem RgL.ok {i j : Int} (h : RgL i j) : RgOk i j := ⟨h.1.1, h.1.2, h.2.1.1, h.2.1.2, h.2.2⟩
theorem rgV_line {i j : Int} (h : RgL i j) : (rgV i j).length ≤ sizeLine := by
  rw [rgV_length, sizeLine_eq]
  have := h.2.2
  omega
theorem l_listRg {p : Pos} {r : Sg → Store → Res (Int × Int)} (hm : X.mg "list" = none) (he : PRg X e (tRgD X.kw X.mg W r)) (hc : X.calm = true := by rfl) (hg : Gl X "list" := by rfl) (na : starEach [e] X.env = (false, eval e X.env) :: starEach [] X.env := by rfl) : PE X (.Call (.Name "list" p) [e] [] pos) (tL X.kw X.mg W (lRg r)) :=
  PE.weak (pe_listRg hc hg hm he na) fun σ H Q hh => by
    obtain ⟨μ, σD, S, ok, en, hh⟩ := hh
    refine ⟨μ, σD, S, ok, en, ?_⟩
    unfold lRg at hh
    cases q : r σD S with
    | no => rw [q] at hh; exact hh.elim
    | ex e S1 => rw [q] at hh; exact hh
    | ok p S1 =>
      rw [q] at hh
      simp only [Res.bind_ok] at hh
      intro μ1 H1 p' x1 ok1 ep
      cases ep
      by_cases hr : RgL p.1 p.2
      · rw [if_pos hr] at hh
        refine ⟨hr.ok, fun q hq => ?_⟩
        exact hh μ1 _ q _ (x1.trans (ext_new hq)) (ok1.laid hq) (ok1.notin hq) (by
          cases z : H q with
          | none => rfl
          | some o =>
            by_cases hmem : q ∈ μ
            · obtain ⟨ν, e⟩ := x1.pre
              exact absurd (by rw [e]; exact List.mem_append_left _ hmem) (ok1.notin hq)
            · rw [x1.keep _ _ z fun h => absurd h hmem] at hq; cases hq) upd_same (rgV_line hr) (rg_rl _ _ _ _)
      · rw [if_neg hr] at hh; exact hh.elim
theorem e_tupRg {p : Pos} {r : Sg → Store → Res (Int × Int)} (hm : X.mg "tuple" = none) (he : PRg X e (tRgD X.kw X.mg W r)) (hc : X.calm = true := by rfl) (hg : Gl X "tuple" := by rfl) (na : starEach [e] X.env = (false, eval e X.env) :: starEach [] X.env := by rfl) : PE X (.Call (.Name "tuple" p) [e] [] pos) (tE X.kw X.mg W (cTupRg r)) :=
  PE.weak (pe_tupRg hc hg hm he na) fun σ H Q hh => tG1 (k := fun (p : Int × Int) S1 => if RgL p.1 p.2 then .ok (D.tup (intsTo p.1 (p.2 - p.1).toNat)) S1 else .no) (RC := R X.kw) (RA := fun _ _ (a : Int × Int) (b : Int × Int) => a = b) hh fun p S μ H v ok ep hh => by
    cases ep
    by_cases hr : RgL p.1 p.2
    · rw [if_pos hr] at hh
      exact ⟨hr.ok, fun q hq => hh μ _ _ (ext_new hq) (ok.laid hq) (.tup (.inl (.inl upd_same)) (rgV_line hr) (rg_rl _ _ _ _))⟩
    · rw [if_neg hr] at hh; exact hh.elim
end
/-! ### a def that calls itself: by a number of turns -/
theorem FnD.zero {P : Program} {w : World} {K : PySem.W.Frag} {mg : Str → Option Value} {base : Heap} {x qual : Str} {st : Stmt} {ps : List Str} {k n : Nat} (Fn : ∃ f fd, mg x = some (.ref f) ∧ Fun K x qual st f fd) {N : List Str} (S : FnScope N ps (defScope st)) (hps : ps.length = n)
    (hb : ∀ (kV doc pm : Value) (an : Option Addr) (cdv ct : Value) (us : List Value), us.length = ps.length → bindArgs (PySem.W.fnOf x qual (defArgs st) (defBody st) (defScope st) .none kV doc pm an cdv ct) ⟨us, []⟩ = pure (ps.zip us)) (hpn : ps = (defArgs st).args.map (·.arg) := by rfl) : FnD P w K mg base (k + 1) x n (fun _ _ => .no) := by
  obtain ⟨f, fd, hm, F⟩ := Fn
  refine ⟨f, fd, ps, hm, F.kp, F.binds hb, hps, okN F S (fun vs H Q E h => ?_) fun cdv A outer s H vs Q E hr h => ?_, qual, st, F, hpn⟩
  · obtain ⟨μ, S0, ds, ok, rl, hl, _⟩ := h
    rw [← rl.length, hl, hps]
  · obtain ⟨μ, S0, ds, ok, rl, hl, hh⟩ := h
    exact hh.elim
/-! ### the end of a law -/
theorem d_fn {P : Program} {w : World} {K : PySem.W.Frag} {mg : Str → Option Value} {base : Heap} {x qual : Str} {st : Stmt} {f : Addr} {fd : FuncData} {N ps : List Str} {k n m : Nat} {body : DS} (F : Fun K x qual st f fd) (S : FnScope N ps (defScope st)) (hN : N.length = m) (hps : ps.length = n)
    (hbody : ∀ (f : Addr) (cdv : Value) (A : Around) (outer : List Env) (s : Shared) (H : Hp) (E : XK), Room k (A.deeper (envOfC qual (defScope st) s.heap.objs.size f cdv)) →
      L2N.Takes (cxOf (L2N.CX P w) P w K mg base N qual (defScope st) f cdv A outer s H E) (fun cls d _ H => E cls d H) → PassesOwn (model P w) (A.deeper (envOfC qual (defScope st) s.heap.objs.size f cdv)) (envOfC qual (defScope st) s.heap.objs.size f cdv) (cxOf (L2N.CX P w) P w K mg base N qual (defScope st) f cdv A outer s H E).xe →
      PSs (cxOf (L2N.CX P w) P w K mg base N qual (defScope st) f cdv A outer s H E) (defBody st) (tS ⟨K, w, none⟩ mg (fun cls d _ H => E cls d H) body)) : FnOk P w K mg base (L2N.CX P w) (k + 1) f fd ps (spD ⟨K, w, none⟩ mg n (cDef m body)) := by
  refine okN F S (fun vs H Q E h => ?_) fun cdv A outer s H vs Q E hr h => ?_
  · obtain ⟨μ, S0, ds, ok, rl, hl, _⟩ := h
    rw [← rl.length, hl, hps]
  · obtain ⟨μ, S0, ds, ok, rl, hl, hh⟩ := h
    refine ⟨_, hbody f cdv A outer s H E hr (L2N.takes_of rfl rfl rfl rfl) (passes_of rfl), μ, _, S0, ok, envStart rfl rl N m hN, ?_⟩
    unfold cDef at hh
    cases q : body (ds.map some ++ List.replicate (m - ds.length) none) S0 with
    | nx σ S1 =>
      rw [q] at hh
      exact fun μ' H' σV' x1 ok1 en1 => hh μ' H' .non x1 ok1 .non
    | rt d S1 =>
      rw [q] at hh
      exact hh
    | ex e σ S1 =>
      rw [q] at hh
      exact fun μ' H' σV' cls dx x1 ok1 en1 => hh μ' H' cls dx x1 ok1
    | bk σ S1 => rw [q] at hh; exact hh.elim
    | ct σ S1 => rw [q] at hh; exact hh.elim
    | no => rw [q] at hh; exact hh.elim
/-- the law's promise -/
def spLaw (K : KW) (F : FD) : Sp := fun vs H Q _ => ∃ (a : Addr) (ns : List Int), vs = [.ref a] ∧ SqI K H a (ns.map V.int) ∧ ns.length ≤ sizeLine ∧ (∃ S', F [.rol (ns.map D.int)] [] = .ok (.bl true) S') ∧ ∀ H', Q (.bl true) H'
theorem law_imp {P : Program} {w : World} {K : PySem.W.Frag} {mg : Str → Option Value} {base : Heap} {CX : CXT} {k : Nat} {f : Addr} {fd : FuncData} {ps : List Str} {F : FD} (h : FnOk P w K mg base CX k f fd ps (spD ⟨K, w, none⟩ mg 1 F)) : FnOk P w K mg base CX k f fd ps (spLaw ⟨K, w, none⟩ F) :=
  h.imp fun vs H Q E hh => by
    obtain ⟨a, ns, rfl, hs, hl, ⟨S', hF⟩, hq⟩ := hh
    refine ⟨[], [], [.rol (ns.map D.int)], ⟨rfl, List.nodup_nil, fun l a c h => by simp at h⟩, .cons (.rol hs (by rw [List.length_map]; exact hl) (RL.ints ns)) .nil, rfl, ?_⟩
    rw [hF]
    intro μ' H' v x ok r
    cases r
    exact hq H'
/-- a def of the text as it stands behind the top -/
theorem top_f {K : PySem.W.Frag} {h : Heap} {mg : Str → Option Value} (X : K.In h) (G : h.Ns mainGlobals mg) {x : Str} {st : Stmt} {f : Addr} {od an : Option Addr} {sl : Array (Option Value)} {oc kV dc pm cd ct : Value}
    (a : PySem.W.nsIn K mainGlobals x = some (some (.ref f))) (l : K.lookup f = some ⟨oc, od, .func (PySem.W.fnOf x x (defArgs st) (defBody st) (defScope st) .none kV dc pm an cd ct), sl⟩) (c : PySem.W.codeIn K cd x = true) (k : PySem.W.keepIn K (.ref f) = true) :
    ∃ f fd, mg x = some (.ref f) ∧ Fun K x x st f fd := ⟨f, _, PySem.W.mg_of X G a, fun_mk l c k⟩
theorem top_c {K : PySem.W.Frag} {h : Heap} {mg : Str → Option Value} (X : K.In h) (G : h.Ns mainGlobals mg) {x : Str} {v : V} {u : Value} (r : RelV v u) (a : PySem.W.nsIn K mainGlobals x = some (some u)) : ∃ u, mg x = some u ∧ RelV v u := ⟨u, PySem.W.mg_of X G a, r⟩
theorem cx_end {P : Program} {w : World} {H : Hp} {s : Shared} {e : Value} {s' : Shared} (h : L2N.CX P w [] H s (fun _ _ _ => False) e s') : False := by
  obtain ⟨_, _, _, _, _, _, _, _, _, _, _, _, z⟩ := h
  exact z
end DL

namespace PySem
open Sem (wp)
open Builtin Builtin.Str
open AutoSeq1 (wpAny_loadPart')
theorem xx_enumerate_newT (l : Addr) (items : Array Value) (n : Nat) (dct : Option Addr) (sl : Array (Option Value)) :
    Meets (Builtin.«enumerate.__new__» ⟨[.type "enumerate", .ref l], []⟩) (fun _ R s => s.heap.get? l = some { cls := .type "tuple", dict := dct, data := .seq items n, slots := sl } ∧
      R (.ok (.ret (.ref (s.heap.push { cls := .type "tuple_iterator", data := .fields #[.ref l, .int 0 0] }).objs.size)))
        { s with heap := (s.heap.push { cls := .type "tuple_iterator", data := .fields #[.ref l, .int 0 0] }).push { cls := .type "enumerate", data := .fields #[.none, .bool false, .ref s.heap.objs.size, rawInt 0, .none, .none] } }) :=
  .of_wp fun prog w A R s h => by
    obtain ⟨hp, g, d, tk, os⟩ := s; obtain ⟨hl, h⟩ := h
    have hsub := sub_enumerate
    have hL : Heap.IsTuple (Shared.heap ⟨hp, g, d, tk, os⟩) l items := ⟨_, hl, rfl, n, rfl⟩
    wp_walk using wpAny_loadPart' hl
    refine wpAny_stack_any fun st => wpAny_pure ?_
    split
    · rename_i c _ _ _ _ _
      cases (c == Value.type "enumerate")
      · wp_walk using wpAny_loadPart' hl, wpAny_pyIter_tuple hL
        exact ⟨_, rfl, h⟩
      · wp_walk using wpAny_loadPart' hl, wpAny_pyIter_tuple hL
        exact ⟨_, rfl, h⟩
    · wp_walk using wpAny_loadPart' hl, wpAny_pyIter_tuple hL
      exact ⟨_, rfl, h⟩
section
variable {prog : Program} {w : World} {A : Around} {E : Value → Shared → Prop} {s : Shared}
theorem xx_enumerate_tuple {l : Addr} {items : Array Value} {Q : Value → Shared → Prop} (hL : s.heap.IsTuple l items)
    (h : ∀ h', IsEnum h' (s.heap.objs.size + 1) s.heap.objs.size 0 .none → h'.IsTupleIter s.heap.objs.size l 0 → h'.objs.size = s.heap.objs.size + 2 →
      (∀ b o, s.heap.get? b = some o → h'.get? b = some o) → Q (.ref (s.heap.objs.size + 1)) { s with heap := h' }) :
    wpAny (model prog w) A (call (.type "enumerate") [.ref l]) Q E s := by
  obtain ⟨⟨c, dct, dt, sl⟩, hl, hc, n, hd⟩ := hL
  replace hc : c = .type "tuple" := hc
  replace hd : dt = .seq items n := hd
  subst hc hd
  refine callType_new F.called_enumerate (by decide) (F.typeCall_enumerate_1 _) (F.newCall_enumerate_1 _) (fun obj => F.args_object_init_2 obj _) F.entry_enumerate_new
    (xx_enumerate_newT l items n dct sl) ⟨hl, ?_⟩
  have hz : (s.heap.push { cls := .type "tuple_iterator", data := .fields #[.ref l, .int 0 0] }).objs.size = s.heap.objs.size + 1 := Heap.size_push ..
  show _ ∧ _
  rw [hz]
  have he : IsEnum ((s.heap.push { cls := .type "tuple_iterator", data := .fields #[.ref l, .int 0 0] }).push
      { cls := .type "enumerate", data := .fields #[.none, .bool false, .ref s.heap.objs.size, rawInt 0, .none, .none] }) (s.heap.objs.size + 1) s.heap.objs.size 0 .none := by
    have := Heap.get?_push_size (s.heap.push { cls := .type "tuple_iterator", data := .fields #[.ref l, .int 0 0] })
      (o := { cls := .type "enumerate", data := .fields #[.none, .bool false, .ref s.heap.objs.size, rawInt 0, .none, .none] }) rfl
    rw [hz] at this; exact this
  refine ⟨⟨_, he, rfl⟩, h _ he ⟨_, Heap.get?_push_of_some _ (Heap.get?_push_size _ rfl), rfl, rfl⟩ (by rw [Heap.size_push, hz]) fun b o x => Heap.get?_push_of_some _ (Heap.get?_push_of_some _ x)⟩
theorem xx_enum_tup_end {e it t : Addr} {i : Int} {j : Nat} {items : Array Value} {old : Value} {Q : Option Value → Shared → Prop} (hh : A.handled = none)
    (he : IsEnum s.heap e it i old) (hit : s.heap.IsTupleIter it t j) (ht : s.heap.IsTuple t items) (hx : items[j]? = none)
    (hQ : ∀ h', Heap.ExtBut it s.heap h' → Q none { s with heap := h' }) : wpAny (model prog w) A (pyNext (.ref e)) Q E s := by
  have hT : s.TypeIs (.ref e) "enumerate" := ⟨_, he, rfl⟩
  unfold pyNext
  refine wpAny_bind (wpAny_attempt (wpAny_callSpecial?_slot (name := Str.ofString "__next__") hT F.slot_enumerate_next
    (wpAny_call_entry F.slot_enumerate_next hT F.entry_enumerate_next ?_ (F.args_enumerate_next_1 _))))
  show wpAny _ _ (field (.ref e) 2 >>= _) _ _ _
  refine wpAny_bind (wpAny_field he rfl (x := .ref it) rfl ?_)
  refine wpAny_bind (wpAny_nextOf_tuple_end (A := A.in1) hh hit ht hx fun h' x he' hx' => ?_)
  obtain ⟨o, ho, hc⟩ := hx'
  refine wpAny_bind (wpAny_isInstance (T := "StopIteration") (b := true) ⟨o, ho, hc⟩ isSubtype_stop ?_)
  exact wpAny_pure (hQ _ he')
end
end PySem
namespace DL
open PySem PySem.Spec PyProof.Rows L2
/-- enumerate of a tuple -/
def IteT (K : PySem.W.Frag) (a : Addr) : It :=
  ⟨fun i H => ∃ (xs : List V) (x : V), SqT K H a xs ∧ xs[i]? = some x, fun i H v H' => ∃ T x, v = .ref T ∧ H T = none ∧ H' = upd H T (.tup [.int (i : Nat), x]) ∧ ∀ xs, SqT K H a xs → xs[i]? = some x, fun i H => ∃ xs : List V, SqT K H a xs ∧ xs.length ≤ i⟩
theorem turn_enumT {P : Program} {w : World} {K : PySem.W.Frag} {elts : List Expr} {kk : Nat} {tpos : Pos} (a e it : Addr) :
    Turn P w K (.Tuple elts kk tpos) (IteT K a) [e, it] e (fun i h => (∃ old, IsEnum h e it ((i : Nat) : Int) old) ∧ h.IsTupleIter it a i ∧ e ≠ it ∧ a ≠ it ∧ e ≠ a) where
  mem := by simp
  obj := fun i h st b hb => by
    obtain ⟨⟨old, he⟩, ⟨o, ho, hc, hd⟩, _⟩ := st
    have e' : b = e ∨ b = it := by simpa using hb
    rcases e' with z | z
    · rw [z]; exact ⟨_, he, fun v q => nomatch q⟩
    · rw [z]; exact ⟨o, ho, fun v q => by rw [hd] at q; cases q⟩
  keep := fun i h h' st k => let ⟨⟨old, he⟩, hi, hne⟩ := st; ⟨⟨old, k e (by simp) _ he⟩, hi.at fun o q => k it (by simp) o q, hne⟩
  item := by
    intro X hP hw hK hc i pins s σ H E I hf st hg
    subst hP hw hK
    obtain ⟨⟨old, he⟩, hit, hne, hai, hea⟩ := st
    obtain ⟨xs, x, hq, hx⟩ := hg
    obtain ⟨its, rv, p, hz⟩ := I.tuple hq
    obtain ⟨u, hu, ru⟩ := rv.get hx
    have hel : e < s.heap.objs.size := Heap.lt_size he
    have hil : it < s.heap.objs.size := by obtain ⟨_, q, _⟩ := hit; exact Heap.lt_size q
    have hlt : i < its.toArray.size := by
      have := (List.getElem?_eq_some_iff.mp hu).1
      simpa using this
    refine wpAny_pyNext_enum_itemD (Draws.tuple (A := X.A.in1) (I.ok.hd hc) it a hai its.toArray) he ⟨hit, p⟩ hlt hne (by simp [hne, hea]) fun x' h' tk hxP ho hst' hT hsz hk => ?_
    have hx' : x' = u := by
      have : its.toArray[i]? = some u := by simpa using hu
      rw [this] at hxP; cases hxP; rfl
    subst hx'
    refine ⟨_, rfl, wpAny_letOwnedTupleGo_enum (s := { s with heap := h', toks := tk + 1 }) ho fun h'' he' sb => ?_⟩
    have hT2 : h''.get? s.heap.objs.size = some { cls := .type "tuple", data := .seq #[.int i tk, x'] } := (sb.2 _ (Nat.ne_of_gt hel)).trans hT
    have new : ObjOk X.prog X.w (upd H s.heap.objs.size (.tup [.int (i : Nat), x])) h'' s.heap.objs.size (.tup [.int (i : Nat), x]) :=
      ⟨by show 2 ≤ sizeLine; decide, [.int i tk, x'], .cons ⟨_, rfl⟩ (.cons ru .nil), ⟨_, hT2, rfl, _, rfl⟩⟩
    have I1 : Inv X pins σ (upd H s.heap.objs.size (.tup [.int (i : Nat), x])) { s with heap := h'', toks := tk + 1 } :=
      I.turnedNew (ch := [e, it]) (fun b ob hb q => (sb.2 b (fun z => hb (by simp [z]))).trans (hk b ob (fun z => hb (by simp [z])) (fun z => hb (by simp [z])) q)) hf (Nat.le_refl _) new
    refine ⟨.ref s.heap.objs.size, _, I1, rfl, ⟨_, x, rfl, I.hok.fresh (Nat.le_refl _), rfl, fun ys hy => by rw [I.tuple_inj hy hq]; exact hx⟩, ⟨⟨x', ?_⟩, hst'.1.at fun o q => (sb.2 it (Ne.symm hne)).trans q, hne, hai, hea⟩, fun b hb => ?_⟩
    · have e1 : ((i + 1 : Nat) : Int) = (i : Int) + 1 := by omega
      rw [e1]; exact he'
    · have hb' : b < s.heap.objs.size := by
        have e' : b = e ∨ b = it := by simpa using hb
        rcases e' with z | z
        · rw [z]; exact hel
        · rw [z]; exact hil
      rw [upd_ne (Nat.ne_of_lt hb')]
      exact (hf b hb).1
  done := by
    intro X hP hw hK hc i pins s σ H E I hf st hg
    subst hP hw hK
    obtain ⟨⟨old, he⟩, hit, hne, hai, hea⟩ := st
    obtain ⟨xs, hq, hx⟩ := hg
    obtain ⟨its, rv, p, hz⟩ := I.tuple hq
    obtain ⟨f0, f1, f2, f3, f4, f5⟩ := hf it (by simp)
    have hl := rv.length
    exact xx_enum_tup_end (I.ok.hd hc) he hit p (by simp; omega) fun h' eb => ⟨rfl, I.turned (t' := s.toks) (fun b o hb q => eb b o hb q) f0 f1 f3 f4 f5⟩
  self := fun A i s Q E st h => let ⟨⟨_, he⟩, _⟩ := st; wpAny_pyIter_enum he h
def iEnumA (K : PySem.W.Frag) (ta : TA) : TI := fun σ H R => ta σ H fun vs H1 => ∃ a xs, vs = [.ref a] ∧ ((SqL K H1 a xs ∧ R (Ite K a) H1) ∨ (SqT K H1 a xs ∧ R (IteT K a) H1))
theorem pi_enumA {X : Cx} {e : Expr} {ta : TA} {p pos tpos : Pos} {elts : List Expr} {kk : Nat} (hg : Gl X "enumerate") (hm : X.mg "enumerate" = none) (ha : PA X [e] ta) (hs : starEach [e] X.env = [(false, eval e X.env)] := by rfl) :
    PI X (.Tuple elts kk tpos) (.Call (.Name "enumerate" p) [e] [] pos) (iEnumA X.K ta) := by
  refine ⟨fun pins s σ H R I h => ?_⟩
  refine Call_ (ld_blt I hg hm boot_enumerate (PyProof.Rows.callWith_type1 (thn (ha.run pos pins s σ H _ I h) fun us s1 ⟨vs, H1, I1, r1, q1⟩ => ?_) hs rfl))
  obtain ⟨a, xs, ex, q1⟩ := q1
  subst ex
  cases r1 with
  | cons r rr =>
    cases rr
    cases r
    have fr : ∀ b ∈ [s1.heap.objs.size + 1, s1.heap.objs.size], FpOk X pins H1 b := fun b hb => by
      have e' : b = s1.heap.objs.size + 1 ∨ b = s1.heap.objs.size := by simpa using hb
      have hle : s1.heap.objs.size ≤ b := by
        rcases e' with z | z
        · rw [z]; exact Nat.le_add_right _ _
        · rw [z]; exact Nat.le_refl _
      exact I1.fpOk hle (I1.hok.fresh hle)
    rcases q1 with ⟨hq, q⟩ | ⟨hq, q⟩
    · obtain ⟨its, rv, p', hz⟩ := I1.list hq
      refine call_enumerate_list p'.isList fun h' he hit hsz hk => wpAny_pyIter_enum he ?_
      have I2 : Inv X pins σ H1 { s1 with heap := h' } := I1.kept (t' := s1.toks) hk
      exact ⟨s1.heap.objs.size + 1, [s1.heap.objs.size + 1, s1.heap.objs.size], _, _, H1, rfl, I2, turn_enum a (s1.heap.objs.size + 1) s1.heap.objs.size, ⟨⟨.none, he⟩, hit, Nat.succ_ne_self _⟩, fr, q⟩
    · obtain ⟨its, rv, p', hz⟩ := I1.tuple hq
      refine xx_enumerate_tuple p' fun h' he hit hsz hk => wpAny_pyIter_enum he ?_
      have I2 : Inv X pins σ H1 { s1 with heap := h' } := I1.kept (t' := s1.toks) hk
      have hlt : a < s1.heap.objs.size := by obtain ⟨o, ho, _⟩ := p'; exact Heap.lt_size ho
      exact ⟨s1.heap.objs.size + 1, [s1.heap.objs.size + 1, s1.heap.objs.size], _, _, H1, rfl, I2, turn_enumT a (s1.heap.objs.size + 1) s1.heap.objs.size, ⟨⟨.none, he⟩, hit, Nat.succ_ne_self _, Nat.ne_of_lt hlt, Nat.ne_of_gt (Nat.lt_succ_of_lt hlt)⟩, fr, q⟩
/-- enumerate of a tuple, of a list -/
def enumA (x : D) (S : Store) : Res (Gd × List D) := match x with
  | .tup xs => .ok (none, numbered 0 xs) S
  | x => enumL x S
theorem wlk_enumT {K : KW} {μ0 : List Addr} {H0 : Hp} {a : Addr} {vs : List V} {xs : List D} (hq : SqT K H0 a vs) (rr : RL K μ0 H0 xs vs) : Wlk K (IteT K a) μ0 H0 (none, numbered 0 xs) where
  go := fun i μ' H' S d x ok g hd => by
    rw [numbered_get] at hd
    cases q : xs[i]? with
    | none => rw [q] at hd; cases hd
    | some y =>
      rw [q] at hd; cases hd
      obtain ⟨v, hv, rv⟩ := rr.get q
      refine ⟨⟨vs, v, x.sqT hq, hv⟩, ?_⟩
      rintro z H'' ⟨T, w, rfl, hT, rfl, hw⟩
      have e := hw _ (x.sqT hq)
      rw [hv] at e; cases e
      have x1 : Ext μ' H' μ' (upd H' T (.tup [.int (i : Nat), v])) := ext_new hT
      refine ⟨x1, ok.laid hT, .tup (SqT.of upd_same) (by show 2 ≤ sizeLine; decide) (.cons ?_ (.cons ((rv.subM x).mono x1) .nil))⟩
      rw [Nat.zero_add]; exact .int _
  stop := fun i μ' H' S x ok g hi => by
    rw [show ((none, numbered 0 xs) : Gd × List D).2 = numbered 0 xs from rfl, numbered_length] at hi
    exact ⟨vs, x.sqT hq, by rw [← rr.length]; exact hi⟩
section
variable {X : Cx} {W : WX} {pos : Pos} {e : Expr} {f : DE}
def cEnumA (f : DE) : DI := fun σ S => (f σ S).bind enumA
theorem i_enum {elts : List Expr} {kk : Nat} {p tpos : Pos} (hm : X.mg "enumerate" = none) (he : PE X e (tE X.kw X.mg W f)) (hg : Gl X "enumerate" := by rfl) (hs : starEach [e] X.env = [(false, eval e X.env)] := by rfl) :
    PI X (.Tuple elts kk tpos) (.Call (.Name "enumerate" p) [e] [] pos) (tI X.kw X.mg W (cEnumA f)) :=
  PI.weak (pi_enumA hg hm (pa_cons he pa_nil hs) hs) fun σ H Q hh => tG1 (k := enumA) (RA := R X.kw) hh fun x S μ H v ok rx hh => by
    cases rx with
    | @tup p vs xs hs hl rr => exact ⟨p, vs, rfl, .inr ⟨hs, hh μ H _ (Ext.refl _ _) ok (wlk_enumT hs rr)⟩⟩
    | @rol p vs xs hs hl rr =>
      exact ⟨p, vs, rfl, .inl ⟨hs.sq, hh μ H _ (Ext.refl _ _) ok (wlk_enum fun μ' H' S' x _ _ => ⟨vs, (x.sqI hs).sq, rr.subM x⟩)⟩⟩
    | @loc l p hl =>
      simp only [enumA, enumL] at hh
      cases q : S[l]? with
      | none => rw [q] at hh; exact hh.elim
      | some c =>
        cases c with
        | dct _ => (first | exact hp.elim | exact h.elim | exact hh.elim | (cases h; done) | (cases hp; done) | (cases hh; done) | (rw [e1, e2] at hp; exact hp.elim) | (rw [e1] at hp; exact hp.elim) | (rw [q] at hp; exact hp.elim) | (rw [q] at h; cases h; done) | (rw [q] at hh; exact hh.elim) | (rw [q] at h; exact h.elim) | (rw [q2] at hh; exact hh.elim) | (rw [q2] at h; exact h.elim) | (rw [q2] at hp; exact hp.elim))
        | lst xs =>
          rw [q] at hh
          obtain ⟨p', vs, e1, _, hv, _, rr⟩ := loc_at ok (R.loc hl) q
          cases e1
          exact ⟨p, vs, rfl, .inl ⟨.inl (.inl hv), hh μ H _ (Ext.refl _ _) ok (wlk_enum fun μ' H' S' x ok' g => gd_loc hl x ok' g)⟩⟩
    | _ => exact hh.elim
end
/-! str(..) -/
def oStr : OA := fun xs S => match xs with
  | [.int i] => if i.natAbs.log2 < 1920 then some (.str (toString i), S) else none
  | [.str a] => some (.str a, S)
  | _ => none
section
variable {X : Cx}
theorem d_str : CallR X (.type "str") (rA X.kw oStr) := by
  intro pins s σ H xs us Q I r hr
  obtain ⟨μ, S, ds, ok, rd, hp⟩ := hr
  unfold oStr at hp
  split at hp
  · obtain ⟨v, rfl, rx⟩ := rd.one
    cases rx
    split at hp
    · rename_i hb
      exact call_str_int pins s σ H _ us Q I r ⟨_, rfl, hb, hp.same ok (.str _)⟩
    · exact hp.elim
  · obtain ⟨v, rfl, rx⟩ := rd.one
    cases rx
    exact SkE.call_str_str pins s σ H _ us Q I r ⟨_, rfl, hp.same ok (.str _)⟩
  · exact hp.elim
end
/-! ### calls by keywords -/
section
variable {X : Cx} {CX : CXT} {k : Nat} {f : Addr} {fd : FuncData} {ps ks : List Str} {sp : Sp} {E : L2.St → XK} {x : Str} {p pos : Pos} {e : Expr} {es : List Expr} {kws : List Keyword} {t tk : TA} {g : List Value → List Value → List Value} {gV : List V → List V → List V}
theorem run_fnKS {pins : List (Addr × Obj)} {σ : L2.St} {H : Hp} {s : Shared} {Q : VK} {us ws : List Value} {vs zs : List V} (F : FnOk X.prog X.w X.K X.mg X.base CX k f fd ps sp) (hr : Room k X.A) (hb : KBinds X.K fd ps ks g gV) (hx : PassesAt CX X σ (E σ))
    (I : Inv X pins σ H s) (r : Vals vs us) (rz : Vals zs ws) (h : sp (gV vs zs) H Q (E σ)) : wpAny (model X.prog X.w) X.A (call (.ref f) us (ks.zip ws)) (EP X pins σ Q) X.xe s := by
  have r2 := hb.rel r rz
  have hl : (g us ws).length = ps.length := by rw [← r2.length]; exact F.len _ _ _ _ h
  refine wpAny_call (codeAny_mono (F.run X.A X.stack s H ⟨us, ks.zip ws⟩ (g us ws) (gV vs zs) Q (E σ) hr I.env0 (hb.to s us ws I.kIn hl) r2 h) fun r s' hq => ?_)
  cases r with
  | error e => exact hx pins H s e s' I hq
  | ok fl =>
    cases fl with
    | ret u => exact I.after hq
    | next => exact False.elim hq
    | brk => exact False.elim hq
    | cont => exact False.elim hq
theorem pe_callKS (F : FnOk X.prog X.w X.K X.mg X.base CX k f fd ps sp) (hr : Room k X.A) (hg : Gl X x) (hm : X.mg x = some (.ref f)) (hk : PySem.W.keepIn X.K (.ref f) = true) (hb : KBinds X.K fd ps ks g gV) (hx : ∀ σ, PassesAt CX X σ (E σ))
    (ha : PA X (e :: es) t) (hkw : PK X kws tk) (hall : (backToKw pos (keywordEach kws X.env)).all (·.1.isSome) = true) (hks : (backToKw pos (keywordEach kws X.env)).filterMap (·.1) = ks)
    (hdb : (x == ("__debug__" : Str)) = false) (he : starEach (e :: es) X.env = (false, eval e X.env) :: starEach es X.env)
    (hpl : ((backTo pos (starEach (e :: es) X.env)).any (·.1) || (backToKw pos (keywordEach kws X.env)).any (·.1.isNone)) = false) :
    PE X (.Call (.Name x p) (e :: es) kws pos) (fun σ H Q => t σ H fun vs H1 => tk σ H1 fun zs H2 => sp (gV vs zs) H2 Q (E σ)) := by
  refine ⟨fun pins s σ H Q I h => ?_⟩
  refine wpAny_Call_Name_kw (ld_glob I hg hm ?_ hdb)
  refine PySem.W.callWith_KW (h₀ := X.base) I.ok.mod.kin hk hall (thn (ha.run pos pins s σ H _ I h) fun us s1 ⟨vs, H1, I1, r, q⟩ => ?_) hpl he
  refine thn (hkw.run pos pins s1 σ H1 _ I1 q) fun ws s2 ⟨zs, H2, I2, rz, q2⟩ => ⟨I2.kIn, ?_⟩
  rw [hks]
  exact run_fnKS F hr hb (hx σ) I2 r rz q2
theorem pe_callKS0 (F : FnOk X.prog X.w X.K X.mg X.base CX k f fd ps sp) (hr : Room k X.A) (hg : Gl X x) (hm : X.mg x = some (.ref f)) (hk : PySem.W.keepIn X.K (.ref f) = true) (hb : KBinds X.K fd ps ks g gV) (hx : ∀ σ, PassesAt CX X σ (E σ))
    (hkw : PK X kws tk) (hall : (backToKw pos (keywordEach kws X.env)).all (·.1.isSome) = true) (hks : (backToKw pos (keywordEach kws X.env)).filterMap (·.1) = ks)
    (hdb : (x == ("__debug__" : Str)) = false)
    (hpl : ((backTo pos (starEach [] X.env)).any (·.1) || (backToKw pos (keywordEach kws X.env)).any (·.1.isNone)) = false) :
    PE X (.Call (.Name x p) [] kws pos) (fun σ H Q => tk σ H fun zs H2 => sp (gV [] zs) H2 Q (E σ)) := by
  refine ⟨fun pins s σ H Q I h => ?_⟩
  refine wpAny_Call_Name_kw (ld_glob I hg hm ?_ hdb)
  refine PySem.W.callWith_KW0 (h₀ := X.base) I.ok.mod.kin hk hall ?_ hpl
  refine thn (hkw.run pos pins s σ H _ I h) fun ws s2 ⟨zs, H2, I2, rz, q2⟩ => ⟨I2.kIn, ?_⟩
  rw [hks]
  exact run_fnKS F hr hb (hx σ) I2 .nil rz q2
end
/-- the parameters' order -/
def permO {α : Type} (d : α) (pm : List Nat) (us ws : List α) : List α := pm.map fun i => (us ++ ws).getD i d
theorem RL.getD {K : KW} {μ : List Addr} {H : Hp} {ds : List D} {vs : List V} (r : RL K μ H ds vs) (i : Nat) : R K μ H (ds.getD i .non) (vs.getD i .non) := by
  rw [List.getD_eq_getElem?_getD, List.getD_eq_getElem?_getD]
  cases q : ds[i]? with
  | none =>
    have : vs[i]? = none := by
      rw [List.getElem?_eq_none_iff] at q ⊢
      rw [← r.length]; exact q
    rw [this]; exact .non
  | some d =>
    obtain ⟨v, hv, rv⟩ := r.get q
    rw [hv]; exact rv
theorem RL.perm {K : KW} {μ : List Addr} {H : Hp} {ds es : List D} {vs ws : List V} (r : RL K μ H ds vs) (q : RL K μ H es ws) : ∀ pm : List Nat, RL K μ H (permO .non pm ds es) (permO .non pm vs ws)
  | [] => .nil
  | i :: pm => .cons ((r.append q).getD i) (RL.perm r q pm)
theorem vals_getD {vs : List V} {us : List Value} (r : Vals vs us) (i : Nat) : RelV (vs.getD i .non) (us.getD i .none) := by
  rw [List.getD_eq_getElem?_getD, List.getD_eq_getElem?_getD]
  cases q : vs[i]? with
  | none =>
    have : us[i]? = none := by
      rw [List.getElem?_eq_none_iff] at q ⊢
      rw [← r.length]; exact q
    rw [this]; rfl
  | some v =>
    obtain ⟨u, hu, ru⟩ := r.get q
    rw [hu]; exact ru
theorem vals_perm {vs zs : List V} {us ws : List Value} (r : Vals vs us) (q : Vals zs ws) : ∀ pm : List Nat, Vals (permO .non pm vs zs) (permO .none pm us ws)
  | [] => .nil
  | i :: pm => .cons (vals_getD (r.append q) i) (vals_perm r q pm)
def gOf {α : Type} (d : α) (a b : Nat) (pm : List Nat) (us ws : List α) : List α := if us.length = a ∧ ws.length = b then permO d pm us ws else []
theorem kb_of {K : PySem.W.Frag} {fd : FuncData} {ps ks : List Str} {a b : Nat} {pm : List Nat} (hn : ps ≠ []) (h : ∀ us ws : List Value, us.length = a → ws.length = b → bindArgs fd ⟨us, ks.zip ws⟩ = pure (ps.zip (permO .none pm us ws))) : KBinds K fd ps ks (gOf .none a b pm) (gOf .non a b pm) where
  to := fun s us ws _ hl => by
    unfold gOf at hl ⊢
    by_cases hc : us.length = a ∧ ws.length = b
    · rw [if_pos hc]
      exact .of_eq (h us ws hc.1 hc.2)
    · rw [if_neg hc] at hl
      exact absurd (List.length_eq_zero_iff.mp hl.symm) hn
  rel := fun {vs us zs ws} r q => by
    unfold gOf
    rw [r.length, q.length]
    by_cases hc : us.length = a ∧ ws.length = b
    · rw [if_pos hc, if_pos hc]; exact vals_perm r q pm
    · rw [if_neg hc, if_neg hc]; exact .nil
section
variable {X : Cx} {W : WX} {pos p kp : Pos} {e : Expr} {es : List Expr} {fa fk : DA} {f : DE} {F : FD} {x : Str} {k j n : Nat} {kws : List Keyword} {nm : Option Str}
theorem PK.weak {t t' : TA} (h : PK X kws t) (w : ∀ σ H Q, t' σ H Q → t σ H Q) : PK X kws t' := ⟨fun pos pins s σ H Q I q => h.run pos pins s σ H Q I (w σ H Q q)⟩
theorem k_nil : PK X [] (tA X.kw X.mg W aNil) := PK.weak pk_nil fun σ H Q hh => by
  obtain ⟨μ, σD, S, ok, en, hh⟩ := hh
  exact hh μ H [] (Ext.refl _ _) ok .nil
theorem k_cons (ha : PE X e (tE X.kw X.mg W f)) (hr : PK X kws (tA X.kw X.mg W fk)) : PK X (⟨nm, e, kp⟩ :: kws) (tA X.kw X.mg W (aCons f fk)) := PK.weak (pk_cons ha hr) fun _ _ _ => tA_cons
def cCallK (F : FD) (pm : List Nat) (fa fk : DA) : DE := fun σ S => (fa σ S).bind fun us S1 => (fk σ S1).bind fun ws S2 => F (permO .non pm us ws) S2
theorem fun_one {K : PySem.W.Frag} {x qual qual' : Str} {st st' : Stmt} {f : Addr} {fd fd' : FuncData} (h : Fun K x qual st f fd) (h' : Fun K x qual' st' f fd') : fd = fd' ∧ defArgs st = defArgs st' := by
  obtain ⟨oc, od, kV, doc, pm, an, cdv, ct, osl, rfl, lk, hcd⟩ := h.ex
  obtain ⟨oc', od', kV', doc', pm', an', cdv', ct', osl', rfl, lk', hcd'⟩ := h'.ex
  rw [lk] at lk'
  have e := Option.some.inj lk'
  simp only [Obj.mk.injEq, Data.func.injEq] at e
  exact ⟨e.2.2.1, congrArg FuncData.params e.2.2.1⟩
theorem e_callK {qual : Str} {st : Stmt} {ks ps : List Str} {a b : Nat} (pm : List Nat) (T : FnD X.prog X.w X.K X.mg X.base j x n F) (Fn : ∃ f fd, X.mg x = some (.ref f) ∧ Fun X.kw x qual st f fd) (hr : Room k X.A) (hj : j ≤ k) (tk : L2N.Takes X W) (ha : PA X (e :: es) (tA X.kw X.mg W fa)) (hkw : PK X kws (tA X.kw X.mg W fk))
    (hna : ∀ σ S ds S', fa σ S = .ok ds S' → ds.length = a) (hnb : ∀ σ S ds S', fk σ S = .ok ds S' → ds.length = b)
    (hb : ∀ (kV doc pmo : Value) (an : Option Addr) (cdv ct : Value) (us ws : List Value), us.length = a → ws.length = b → bindArgs (PySem.W.fnOf x qual (defArgs st) (defBody st) (defScope st) .none kV doc pmo an cdv ct) ⟨us, ks.zip ws⟩ = pure (ps.zip (permO .none pm us ws)))
    (hks : (backToKw pos (keywordEach kws X.env)).filterMap (·.1) = ks := by rfl) (hps : ps = (defArgs st).args.map (·.arg) := by rfl) (hpm : pm.length = n := by rfl) (hne : ps ≠ [] := by decide) (hg : Gl X x := by rfl) (hdb : (x == ("__debug__" : Str)) = false := by decide)
    (hall : (backToKw pos (keywordEach kws X.env)).all (·.1.isSome) = true := by rfl)
    (he : starEach (e :: es) X.env = (false, eval e X.env) :: starEach es X.env := by rfl)
    (hpl : ((backTo pos (starEach (e :: es) X.env)).any (·.1) || (backToKw pos (keywordEach kws X.env)).any (·.1.isNone)) = false := by rfl) : PE X (.Call (.Name x p) (e :: es) kws pos) (tE X.kw X.mg W (cCallK F pm fa fk)) := by
  obtain ⟨f, fd, ps', hm, hk, _, hl, ok, qual', st', F', eps⟩ := T.ex
  obtain ⟨f2, fd2, hm2, F2⟩ := Fn
  have ef : f = f2 := by rw [hm] at hm2; cases hm2; rfl
  subst ef
  obtain ⟨rfl, ea⟩ := fun_one F' F2
  have eps' : ps' = ps := by rw [eps, hps, ea]
  subst eps'
  obtain ⟨oc, od, kV, doc, pmo, an, cdv, ct, osl, rfl, lk, hcd⟩ := F2.ex
  have hkb : KBinds X.K _ ps' ks (gOf .none a b pm) (gOf .non a b pm) := kb_of hne (hb kV doc pmo an cdv ct)
  refine PE.weak (pe_callKS ok (hr.mono hj) hg hm hk hkb (fun σ => L2N.passAt tk σ) ha hkw hall hks hdb he hpl) fun σ H Q hh => ?_
  obtain ⟨μ, σD, S, ok0, en, hh⟩ := hh
  refine ⟨μ, σD, S, ok0, en, ?_⟩
  unfold cCallK at hh
  cases q : fa σD S with
  | no => rw [q] at hh; exact hh.elim
  | ex e S1 => rw [q] at hh; exact hh
  | ok us S1 =>
    rw [q] at hh
    simp only [Res.bind_ok] at hh
    intro μ1 H1 vs1 x1 ok1 rl1
    have hlen1 : vs1.length = a := by rw [← rl1.length]; exact hna _ _ _ _ q
    refine ⟨μ1, σD, S1, ok1, en.mono x1, ?_⟩
    replace hh := Post.mono x1 hh
    cases q2 : fk σD S1 with
    | no => rw [q2] at hh; exact hh.elim
    | ex e S2 => rw [q2] at hh; exact hh
    | ok ws S2 =>
    rw [q2] at hh
    simp only [Res.bind_ok] at hh
    intro μ2 H2 vs2 x2 ok2 rl2
    have h1 := Post.mono x2 hh
    have hlen : vs2.length = b := by rw [← rl2.length]; exact hnb _ _ _ _ q2
    unfold gOf
    rw [if_pos ⟨hlen1, hlen⟩]
    refine ⟨μ2, S2, permO .non pm us ws, ok2, (rl1.mono x2).perm rl2 pm, by unfold permO; rw [List.length_map]; exact hpm, ?_⟩
    cases q3 : F (permO .non pm us ws) S2 with
    | ok d S3 => rw [q3] at h1; exact h1
    | ex e S3 => rw [q3] at h1; exact h1
    | no => rw [q3] at h1; exact h1
theorem e_callK0 {qual : Str} {st : Stmt} {ks ps : List Str} {b : Nat} (pm : List Nat) (T : FnD X.prog X.w X.K X.mg X.base j x n F) (Fn : ∃ f fd, X.mg x = some (.ref f) ∧ Fun X.kw x qual st f fd) (hr : Room k X.A) (hj : j ≤ k) (tk : L2N.Takes X W) (hkw : PK X kws (tA X.kw X.mg W fk))
    (hnb : ∀ σ S ds S', fk σ S = .ok ds S' → ds.length = b)
    (hb : ∀ (kV doc pmo : Value) (an : Option Addr) (cdv ct : Value) (us ws : List Value), us.length = 0 → ws.length = b → bindArgs (PySem.W.fnOf x qual (defArgs st) (defBody st) (defScope st) .none kV doc pmo an cdv ct) ⟨us, ks.zip ws⟩ = pure (ps.zip (permO .none pm us ws)))
    (hks : (backToKw pos (keywordEach kws X.env)).filterMap (·.1) = ks := by rfl) (hps : ps = (defArgs st).args.map (·.arg) := by rfl) (hpm : pm.length = n := by rfl) (hne : ps ≠ [] := by decide) (hg : Gl X x := by rfl) (hdb : (x == ("__debug__" : Str)) = false := by decide)
    (hall : (backToKw pos (keywordEach kws X.env)).all (·.1.isSome) = true := by rfl)
    (hpl : ((backTo pos (starEach [] X.env)).any (·.1) || (backToKw pos (keywordEach kws X.env)).any (·.1.isNone)) = false := by rfl) : PE X (.Call (.Name x p) [] kws pos) (tE X.kw X.mg W (cCallK F pm aNil fk)) := by
  obtain ⟨f, fd, ps', hm, hk, _, hl, ok, qual', st', F', eps⟩ := T.ex
  obtain ⟨f2, fd2, hm2, F2⟩ := Fn
  have ef : f = f2 := by rw [hm] at hm2; cases hm2; rfl
  subst ef
  obtain ⟨rfl, ea⟩ := fun_one F' F2
  have eps' : ps' = ps := by rw [eps, hps, ea]
  subst eps'
  obtain ⟨oc, od, kV, doc, pmo, an, cdv, ct, osl, rfl, lk, hcd⟩ := F2.ex
  have hkb : KBinds X.K _ ps' ks (gOf .none 0 b pm) (gOf .non 0 b pm) := kb_of hne (hb kV doc pmo an cdv ct)
  refine PE.weak (pe_callKS0 ok (hr.mono hj) hg hm hk hkb (fun σ => L2N.passAt tk σ) hkw hall hks hdb hpl) fun σ H Q hh => ?_
  obtain ⟨μ, σD, S, ok0, en, hh⟩ := hh
  refine ⟨μ, σD, S, ok0, en, ?_⟩
  unfold cCallK at hh
  rw [show aNil σD S = .ok [] S from rfl] at hh
  simp only [Res.bind_ok] at hh
  have rl1 : RL X.kw μ H ([] : List D) ([] : List V) := .nil
  have hlen1 : ([] : List V).length = 0 := rfl
  cases q2 : fk σD S with
  | no => rw [q2] at hh; exact hh.elim
  | ex e S2 => rw [q2] at hh; exact hh
  | ok ws S2 =>
    rw [q2] at hh
    simp only [Res.bind_ok] at hh
    intro μ2 H2 vs2 x2 ok2 rl2
    have h1 := Post.mono x2 hh
    have hlen : vs2.length = b := by rw [← rl2.length]; exact hnb _ _ _ _ q2
    unfold gOf
    rw [if_pos ⟨hlen1, hlen⟩]
    refine ⟨μ2, S2, permO .non pm [] ws, ok2, (rl1.mono x2).perm rl2 pm, by unfold permO; rw [List.length_map]; exact hpm, ?_⟩
    cases q3 : F (permO .non pm [] ws) S2 with
    | ok d S3 => rw [q3] at h1; exact h1
    | ex e S3 => rw [q3] at h1; exact h1
    | no => rw [q3] at h1; exact h1
end
end DL

namespace DL
open PySem PySem.Spec PyProof.Rows L2
/-! ### zip of three tuples -/
def zip3V : List V → List V → List V → List (List V)
  | x :: xs, y :: ys, z :: zs => [x, y, z] :: zip3V xs ys zs
  | _, _, _ => []
theorem zip3V_len : ∀ xs ys zs : List V, (zip3V xs ys zs).length = min (min xs.length ys.length) zs.length
  | [], _, _ => by simp [zip3V]
  | _ :: _, [], _ => by simp [zip3V]
  | _ :: _, _ :: _, [] => by simp [zip3V]
  | _ :: xs, _ :: ys, _ :: zs => by
    rw [zip3V, List.length_cons, zip3V_len xs ys zs]
    simp only [List.length_cons]; omega
theorem zip3V_get : ∀ {xs ys zs : List V} {i : Nat} {x y z : V}, xs[i]? = some x → ys[i]? = some y → zs[i]? = some z → (zip3V xs ys zs).getD i [] = [x, y, z]
  | _ :: _, _ :: _, _ :: _, 0, _, _, _, h1, h2, h3 => by
    simp at h1 h2 h3
    subst h1 h2 h3
    rfl
  | _ :: xs, _ :: ys, _ :: zs, i + 1, x, y, z, h1, h2, h3 => by
    have := zip3V_get (xs := xs) (ys := ys) (zs := zs) (i := i) (by simpa using h1) (by simpa using h2) (by simpa using h3)
    rw [zip3V, List.getD_cons_succ]; exact this
  | [], _, _, _, _, _, _, h, _, _ => by simp at h
  | _ :: _, [], _, _, _, _, _, _, h, _ => by simp at h
  | _ :: _, _ :: _, [], _, _, _, _, _, _, h => by simp at h
/-- the tuples at a, b and c, the items in new triples -/
def Itz3 (K : PySem.W.Frag) (a b c : Addr) (xs ys zs : List V) : It :=
  ⟨fun i H => i < (zip3V xs ys zs).length ∧ SqT K H a xs ∧ SqT K H b ys ∧ SqT K H c zs,
    fun i H v H' => ∃ T, v = .ref T ∧ H T = none ∧ H' = upd H T (.tup ((zip3V xs ys zs).getD i [])),
    fun i H => (zip3V xs ys zs).length ≤ i ∧ SqT K H a xs ∧ SqT K H b ys ∧ SqT K H c zs⟩
theorem turn_zip3 {P : Program} {w : World} {K : PySem.W.Frag} {elts : List Expr} {kk : Nat} {tpos : Pos} {a b c z TI TO i1 i2 i3 : Addr} {xs ys zs : List V} (S : ZipSep3 z TI TO i1 i2 i3 [i1, a] [i2, b] [i3, c]) (ha : a ≠ i1) (hb : b ≠ i2) (hcn : c ≠ i3) :
    Turn P w K (.Tuple elts kk tpos) (Itz3 K a b c xs ys zs) [z, TI, TO, i1, i2, i3] z (fun i h => i ≤ (zip3V xs ys zs).length ∧ IsZip h z TI TO .none ∧ IsTupOf3 h TI (.ref i1) (.ref i2) (.ref i3) ∧ (∃ a1 a2 a3, IsTupOf3 h TO a1 a2 a3) ∧ h.IsTupleIter i1 a i ∧ h.IsTupleIter i2 b i ∧ h.IsTupleIter i3 c i) where
  mem := by simp
  obj := fun i h st d hd => by
    obtain ⟨_, hz, hTI, ⟨x, y, u, hTO⟩, ⟨o1, e1, _, d1⟩, ⟨o2, e2, _, d2⟩, ⟨o3, e3, _, d3⟩⟩ := st
    have e' : d = z ∨ d = TI ∨ d = TO ∨ d = i1 ∨ d = i2 ∨ d = i3 := by simpa using hd
    rcases e' with q | q | q | q | q | q
    · rw [q]; exact ⟨_, hz, fun v q => nomatch q⟩
    · rw [q]; exact ⟨_, hTI, fun v q => nomatch q⟩
    · rw [q]; exact ⟨_, hTO, fun v q => nomatch q⟩
    · rw [q]; exact ⟨o1, e1, fun v q => by rw [d1] at q; cases q⟩
    · rw [q]; exact ⟨o2, e2, fun v q => by rw [d2] at q; cases q⟩
    · rw [q]; exact ⟨o3, e3, fun v q => by rw [d3] at q; cases q⟩
  keep := fun i h h' st k => by
    obtain ⟨hle, hz, hTI, ⟨x, y, u, hTO⟩, h1, h2, h3⟩ := st
    exact ⟨hle, k z (by simp) _ hz, k TI (by simp) _ hTI, ⟨x, y, u, k TO (by simp) _ hTO⟩, h1.at fun o q => k i1 (by simp) o q, h2.at fun o q => k i2 (by simp) o q, h3.at fun o q => k i3 (by simp) o q⟩
  item := by
    intro X hP hw hK hc i pins s σ H E I hf st hg
    subst hP hw hK
    obtain ⟨hle, hz, hTI, hTO, h1, h2, h3⟩ := st
    obtain ⟨hlt, qa, qb, qc⟩ := hg
    obtain ⟨its1, rv1, p1, _⟩ := I.tuple qa
    obtain ⟨its2, rv2, p2, _⟩ := I.tuple qb
    obtain ⟨its3, rv3, p3, _⟩ := I.tuple qc
    have l1 := rv1.length
    have l2 := rv2.length
    have l3 := rv3.length
    rw [zip3V_len] at hlt
    refine (GoesN.zip3 (A := X.A) (elts := elts) (x1 := kk) (pos := tpos) S (Draws.tuple (A := X.A.in1) (I.ok.hd hc) i1 a ha its1.toArray) (Draws.tuple (A := X.A.in1) (I.ok.hd hc) i2 b hb its2.toArray) (Draws.tuple (A := X.A.in1) (I.ok.hd hc) i3 c hcn its3.toArray)).goes i s _ E (by simp only [List.size_toArray]; omega) ⟨hz, hTI, hTO, ⟨h1, p1⟩, ⟨h2, p2⟩, ⟨h3, p3⟩⟩ fun v h' tk hY st' hk htk => ?_
    obtain ⟨T, x, y, u, rfl, hT, e1, e2, e3, hTt⟩ := hY
    have e1' : its1[i]? = some x := by simpa using e1
    have e2' : its2[i]? = some y := by simpa using e2
    have e3' : its3[i]? = some u := by simpa using e3
    have hvx : xs[i]? = some (xs[i]'(by omega)) := List.getElem?_eq_getElem _
    obtain ⟨wx, hwx, rx⟩ := rv1.get hvx
    have qx : wx = x := by rw [hwx] at e1'; exact Option.some.inj e1'
    subst qx
    generalize xs[i]'(by omega) = vx at *
    have hvy : ys[i]? = some (ys[i]'(by omega)) := List.getElem?_eq_getElem _
    obtain ⟨wy, hwy, ry⟩ := rv2.get hvy
    have qy : wy = y := by rw [hwy] at e2'; exact Option.some.inj e2'
    subst qy
    generalize ys[i]'(by omega) = vy at *
    have hvu : zs[i]? = some (zs[i]'(by omega)) := List.getElem?_eq_getElem _
    obtain ⟨wu, hwu, ru⟩ := rv3.get hvu
    have qu : wu = u := by rw [hwu] at e3'; exact Option.some.inj e3'
    subst qu
    generalize zs[i]'(by omega) = vu at *
    have new : ObjOk X.prog X.w (upd H T (.tup [vx, vy, vu])) h' T (.tup [vx, vy, vu]) := ⟨by show 3 ≤ sizeLine; decide, [wx, wy, wu], .cons rx (.cons ry (.cons ru .nil)), hTt⟩
    have I1 : Inv X pins σ (upd H T (.tup [vx, vy, vu])) { s with heap := h', toks := tk } :=
      I.turnedNew (ch := [z, TI, TO, i1, i2, i3]) (fun d o hd q => hk d o (fun q' => hd (by simp only [List.mem_cons, List.not_mem_nil, or_false] at q' ⊢; rcases q' with h | h | h | h | h <;> simp [h])) q) hf hT new
    obtain ⟨z1, z2, z3, ⟨z4, _⟩, ⟨z5, _⟩, ⟨z6, _⟩⟩ := st'
    refine ⟨.ref T, _, I1, rfl, ⟨T, rfl, I.hok.fresh hT, by rw [zip3V_get hvx hvy hvu]⟩, ⟨by rw [zip3V_len]; omega, z1, z2, z3, z4, z5, z6⟩, fun d hd => ?_⟩
    have hdl : d < s.heap.objs.size := by
      have e' : d = z ∨ d = TI ∨ d = TO ∨ d = i1 ∨ d = i2 ∨ d = i3 := by simpa using hd
      rcases e' with q | q | q | q | q | q
      · rw [q]; exact Heap.lt_size hz
      · rw [q]; exact Heap.lt_size hTI
      · obtain ⟨_, _, _, hTO⟩ := hTO; rw [q]; exact Heap.lt_size hTO
      · rw [q]; obtain ⟨_, e, _⟩ := h1; exact Heap.lt_size e
      · rw [q]; obtain ⟨_, e, _⟩ := h2; exact Heap.lt_size e
      · rw [q]; obtain ⟨_, e, _⟩ := h3; exact Heap.lt_size e
    rw [upd_ne (Nat.ne_of_lt (Nat.lt_of_lt_of_le hdl hT))]
    exact (hf d hd).1
  done := by
    intro X hP hw hK hc i pins s σ H E I hf st hg
    subst hP hw hK
    obtain ⟨hle, hz, hTI, hTO, h1, h2, h3⟩ := st
    obtain ⟨hlt, qa, qb, qc⟩ := hg
    obtain ⟨its1, rv1, p1, _⟩ := I.tuple qa
    obtain ⟨its2, rv2, p2, _⟩ := I.tuple qb
    obtain ⟨its3, rv3, p3, _⟩ := I.tuple qc
    have l1 := rv1.length
    have l2 := rv2.length
    have l3 := rv3.length
    rw [zip3V_len] at hlt hle
    have ei : i = min (min its1.toArray.size its2.toArray.size) its3.toArray.size := by simp only [List.size_toArray]; omega
    refine (GoesN.zip3 (A := X.A) (elts := elts) (x1 := kk) (pos := tpos) S (Draws.tuple (A := X.A.in1) (I.ok.hd hc) i1 a ha its1.toArray) (Draws.tuple (A := X.A.in1) (I.ok.hd hc) i2 b hb its2.toArray) (Draws.tuple (A := X.A.in1) (I.ok.hd hc) i3 c hcn its3.toArray)).stops s _ E (ei ▸ ⟨hz, hTI, hTO, ⟨h1, p1⟩, ⟨h2, p2⟩, ⟨h3, p3⟩⟩) fun h' tk hk htk => ?_
    exact I.turnedL (ch := [z, TI, TO, i1, i2, i3]) (fun d o hd q => hk d o (fun q' => hd (by simp only [List.mem_cons, List.not_mem_nil, or_false] at q' ⊢; rcases q' with h | h | h | h | h <;> simp [h])) q) hf
  self := fun A i s Q E st h => wpAny_pyIter_zip st.2.1 h
theorem sep_of {N a b c : Nat} (h1 : a < N) (h2 : b < N) (h3 : c < N) : ZipSep3 (N + 5) (N + 3) (N + 4) N (N + 1) (N + 2) [N, a] [N + 1, b] [N + 2, c] :=
  zip_sep3 (fp1 := [a]) (fp2 := [b]) (fp3 := [c]) (by simpa using h1) (by simpa using h2) (by simpa using h3)
def iZip3 (K : PySem.W.Frag) (ta : TA) : TI := fun σ H R => ta σ H fun vs H1 => ∃ a b c xs ys zs, vs = [.ref a, .ref b, .ref c] ∧ SqT K H1 a xs ∧ SqT K H1 b ys ∧ SqT K H1 c zs ∧ R (Itz3 K a b c xs ys zs) H1
theorem pi_zip3 {X : Cx} {e e2 e3 : Expr} {ta : TA} {p pos tpos : Pos} {elts : List Expr} {kk : Nat} (hg : Gl X "zip") (hm : X.mg "zip" = none) (ha : PA X [e, e2, e3] ta)
    (hs : starEach [e, e2, e3] X.env = (false, eval e X.env) :: starEach [e2, e3] X.env := by rfl) (hpl : (backTo pos (starEach [e2, e3] X.env)).any (·.1) = false := by rfl) :
    PI X (.Tuple elts kk tpos) (.Call (.Name "zip" p) [e, e2, e3] [] pos) (iZip3 X.K ta) := by
  refine ⟨fun pins s σ H R I h => ?_⟩
  refine Call_ (ld_blt I hg hm PyProof.Rows.boot_zip (PyProof.Rows.callWith_type1 (thn (ha.run pos pins s σ H _ I h) fun us s1 ⟨vs, H1, I1, r1, q1⟩ => ?_) hs hpl))
  obtain ⟨a, b, c, xs, ys, zs, ex, hqa, hqb, hqc, q⟩ := q1
  subst ex
  cases r1 with
  | cons r rr =>
    cases rr with
    | cons r' rr =>
      cases rr with
      | cons r'' rr =>
        cases rr
        cases r
        cases r'
        cases r''
        obtain ⟨its1, rv1, p1, _⟩ := I1.tuple hqa
        obtain ⟨its2, rv2, p2, _⟩ := I1.tuple hqb
        obtain ⟨its3, rv3, p3, _⟩ := I1.tuple hqc
        have la : a < s1.heap.objs.size := by obtain ⟨o, ho, _⟩ := p1; exact Heap.lt_size ho
        have lb : b < s1.heap.objs.size := by obtain ⟨o, ho, _⟩ := p2; exact Heap.lt_size ho
        have lc : c < s1.heap.objs.size := by obtain ⟨o, ho, _⟩ := p3; exact Heap.lt_size ho
        refine zip_begins3 (begins_tuple a its1.toArray) (begins_tuple b its2.toArray) (begins_tuple c its3.toArray) p1 p2 p3 fun h' hz hTI hTO g1 g2 g3 hsz hk => wpAny_pyIter_zip hz ?_
        have I2 : Inv X pins σ H1 { s1 with heap := h' } := I1.kept (t' := s1.toks) hk
        refine ⟨s1.heap.objs.size + 5, [s1.heap.objs.size + 5, s1.heap.objs.size + 3, s1.heap.objs.size + 4, s1.heap.objs.size, s1.heap.objs.size + 1, s1.heap.objs.size + 2], _, _, H1, rfl, I2,
          turn_zip3 (sep_of la lb lc) (Nat.ne_of_lt la) (Nat.ne_of_lt (Nat.lt_succ_of_lt lb)) (Nat.ne_of_lt (Nat.lt_succ_of_lt (Nat.lt_succ_of_lt lc))),
          ⟨Nat.zero_le _, hz, hTI, ⟨_, _, _, hTO⟩, ⟨_, g1, rfl, rfl⟩, ⟨_, g2, rfl, rfl⟩, ⟨_, g3, rfl, rfl⟩⟩, fun d hd => ?_, q⟩
        have hle : s1.heap.objs.size ≤ d := by
          simp only [List.mem_cons, List.not_mem_nil, or_false] at hd
          rcases hd with h | h | h | h | h | h
          · rw [h]; exact Nat.le_add_right _ _
          · rw [h]; exact Nat.le_add_right _ _
          · rw [h]; exact Nat.le_add_right _ _
          · rw [h]; exact Nat.le_refl _
          · rw [h]; exact Nat.le_add_right _ _
          · rw [h]; exact Nat.le_add_right _ _
        exact I1.fpOk hle (I1.hok.fresh hle)
def zip3D : List D → List D → List D → List D
  | x :: xs, y :: ys, z :: zs => .tup [x, y, z] :: zip3D xs ys zs
  | _, _, _ => []
theorem zip3D_get {K : KW} {μ : List Addr} {H : Hp} : ∀ {xs ys zs : List D} {vs ws us : List V} {i : Nat} {d : D}, RL K μ H xs vs → RL K μ H ys ws → RL K μ H zs us → (zip3D xs ys zs)[i]? = some d → ∃ x y z vx vy vz, d = .tup [x, y, z] ∧ (zip3V vs ws us).getD i [] = [vx, vy, vz] ∧ i < (zip3V vs ws us).length ∧ R K μ H x vx ∧ R K μ H y vy ∧ R K μ H z vz
  | _ :: _, _ :: _, _ :: _, _, _, _, 0, d, .cons a _, .cons b _, .cons c _, h => by
    rw [zip3D] at h
    cases h
    exact ⟨_, _, _, _, _, _, rfl, rfl, by rw [zip3V]; simp, a, b, c⟩
  | _ :: _, _ :: _, _ :: _, _, _, _, i + 1, d, .cons _ a, .cons _ b, .cons _ c, h => by
    rw [zip3D, List.getElem?_cons_succ] at h
    obtain ⟨x, y, z, vx, vy, vz, e, e2, e3, r⟩ := zip3D_get a b c h
    exact ⟨x, y, z, vx, vy, vz, e, by rw [zip3V, List.getD_cons_succ]; exact e2, by rw [zip3V, List.length_cons]; omega, r⟩
  | [], _, _, _, _, _, _, _, _, _, _, h => by simp [zip3D] at h
  | _ :: _, [], _, _, _, _, _, _, _, _, _, h => by simp [zip3D] at h
  | _ :: _, _ :: _, [], _, _, _, _, _, _, _, _, h => by simp [zip3D] at h
theorem zip3D_len {K : KW} {μ : List Addr} {H : Hp} : ∀ {xs ys zs : List D} {vs ws us : List V}, RL K μ H xs vs → RL K μ H ys ws → RL K μ H zs us → (zip3D xs ys zs).length = (zip3V vs ws us).length
  | _, _, _, _, _, _, .cons _ a, .cons _ b, .cons _ c => by rw [zip3D, zip3V, List.length_cons, List.length_cons, zip3D_len a b c]
  | _, _, _, _, _, _, .nil, _, _ => by simp [zip3D, zip3V]
  | _, _, _, _, _, _, .cons _ _, .nil, _ => by simp [zip3D, zip3V]
  | _, _, _, _, _, _, .cons _ _, .cons _ _, .nil => by simp [zip3D, zip3V]
theorem wlk_zip3 {K : KW} {μ0 : List Addr} {H0 : Hp} {a b c : Addr} {vs ws us : List V} {xs ys zs : List D} (ha : SqT K H0 a vs) (hb : SqT K H0 b ws) (hc : SqT K H0 c us) (ra : RL K μ0 H0 xs vs) (rb : RL K μ0 H0 ys ws) (rc : RL K μ0 H0 zs us) : Wlk K (Itz3 K a b c vs ws us) μ0 H0 (none, zip3D xs ys zs) where
  go := fun i μ' H' S d x ok g hd => by
    obtain ⟨x', y', z', vx, vy, vz, rfl, e2, e3, r1, r2, r3⟩ := zip3D_get ra rb rc hd
    refine ⟨⟨e3, x.sqT ha, x.sqT hb, x.sqT hc⟩, ?_⟩
    rintro z H'' ⟨T, rfl, hT, rfl⟩
    rw [e2]
    have x1 : Ext μ' H' μ' (upd H' T (.tup [vx, vy, vz])) := ext_new hT
    exact ⟨x1, ok.laid hT, .tup (SqT.of upd_same) (by show 3 ≤ sizeLine; decide) (.cons ((r1.subM x).mono x1) (.cons ((r2.subM x).mono x1) (.cons ((r3.subM x).mono x1) .nil)))⟩
  stop := fun i μ' H' S x ok g hi => by
    rw [show ((none, zip3D xs ys zs) : Gd × List D).2 = zip3D xs ys zs from rfl, zip3D_len ra rb rc] at hi
    exact ⟨hi, x.sqT ha, x.sqT hb, x.sqT hc⟩
section
variable {X : Cx} {W : WX} {pos : Pos} {e e2 e3 : Expr} {f g h : DE}
def zip3R : List D → Store → Res (Gd × List D) := fun ds S => match ds with
  | [.tup xs, .tup ys, .tup zs] => .ok (none, zip3D xs ys zs) S
  | _ => .no
def cZip3 (f g h : DE) : DI := fun σ S => (aCons f (aCons g (aCons h aNil)) σ S).bind zip3R
theorem i_zip3 {elts : List Expr} {kk : Nat} {p tpos : Pos} (hm : X.mg "zip" = none) (ha : PE X e (tE X.kw X.mg W f)) (hb : PE X e2 (tE X.kw X.mg W g)) (hc : PE X e3 (tE X.kw X.mg W h)) (hg : Gl X "zip" := by rfl)
    (hs : starEach [e, e2, e3] X.env = (false, eval e X.env) :: starEach [e2, e3] X.env := by rfl) (hs2 : starEach [e2, e3] X.env = (false, eval e2 X.env) :: starEach [e3] X.env := by rfl) (hs3 : starEach [e3] X.env = (false, eval e3 X.env) :: starEach [] X.env := by rfl)
    (hpl : (backTo pos (starEach [e2, e3] X.env)).any (·.1) = false := by rfl) : PI X (.Tuple elts kk tpos) (.Call (.Name "zip" p) [e, e2, e3] [] pos) (tI X.kw X.mg W (cZip3 f g h)) :=
  PI.weak (pi_zip3 hg hm (a_cons ha (a_cons hb (a_cons hc a_nil hs3) hs2) hs) hs hpl) fun σ H Q hh => tG1 (k := zip3R) (RA := RL X.kw) hh fun x S μ H v ok rx hh => by
    unfold zip3R at hh
    split at hh
    · cases rx with
      | cons r1 rx =>
        cases rx with
        | cons r2 rx =>
          cases rx with
          | cons r3 rx =>
            cases rx
            cases r1 with
            | tup h1 l1 q1 =>
              cases r2 with
              | tup h2 l2 q2 =>
                cases r3 with
                | tup h3 l3 q3 => exact ⟨_, _, _, _, _, _, rfl, h1, h2, h3, hh μ H _ (Ext.refl _ _) ok (wlk_zip3 h1 h2 h3 q1 q2 q3)⟩
    · exact hh.elim
end
/-! ### zip of two tuples -/
def zip2D : List D → List D → List D
  | x :: xs, y :: ys => .tup [x, y] :: zip2D xs ys
  | _, _ => []
theorem zip2D_get {K : KW} {μ : List Addr} {H : Hp} : ∀ {xs ys : List D} {vs ws : List V} {i : Nat} {d : D}, RL K μ H xs vs → RL K μ H ys ws → (zip2D xs ys)[i]? = some d → ∃ x y vx vy, d = .tup [x, y] ∧ vs[i]? = some vx ∧ ws[i]? = some vy ∧ R K μ H x vx ∧ R K μ H y vy
  | _ :: _, _ :: _, _, _, 0, d, .cons a _, .cons b _, h => by
    rw [zip2D] at h
    cases h
    exact ⟨_, _, _, _, rfl, rfl, rfl, a, b⟩
  | _ :: _, _ :: _, _, _, i + 1, d, .cons _ a, .cons _ b, h => by
    rw [zip2D, List.getElem?_cons_succ] at h
    obtain ⟨x, y, vx, vy, e, e2, e3, r⟩ := zip2D_get a b h
    exact ⟨x, y, vx, vy, e, by simpa using e2, by simpa using e3, r⟩
  | [], _, _, _, _, _, _, _, h => by simp [zip2D] at h
  | _ :: _, [], _, _, _, _, _, _, h => by simp [zip2D] at h
theorem zip2D_len : ∀ {xs ys : List D}, (zip2D xs ys).length = min xs.length ys.length
  | [], _ => by simp [zip2D]
  | _ :: _, [] => by simp [zip2D]
  | _ :: xs, _ :: ys => by rw [zip2D, List.length_cons, zip2D_len]; simp only [List.length_cons]; omega
theorem wlk_zip2 {K : KW} {μ0 : List Addr} {H0 : Hp} {a b : Addr} {vs ws : List V} {xs ys : List D} (ha : SqT K H0 a vs) (hb : SqT K H0 b ws) (ra : RL K μ0 H0 xs vs) (rb : RL K μ0 H0 ys ws) : Wlk K (RZ.ItzT K a b) μ0 H0 (none, zip2D xs ys) where
  go := fun i μ' H' S d x ok g hd => by
    obtain ⟨x', y', vx, vy, rfl, e2, e3, r1, r2⟩ := zip2D_get ra rb hd
    refine ⟨⟨vs, ws, vx, vy, x.sqT ha, x.sqT hb, e2, e3⟩, ?_⟩
    rintro z H'' ⟨T, wx, wy, rfl, hT, rfl, h1, h2⟩
    have q1 := h1 _ (x.sqT ha)
    rw [e2] at q1; cases q1
    have q2 := h2 _ (x.sqT hb)
    rw [e3] at q2; cases q2
    have x1 : Ext μ' H' μ' (upd H' T (.tup [vx, vy])) := ext_new hT
    exact ⟨x1, ok.laid hT, .tup (SqT.of upd_same) (by show 2 ≤ sizeLine; decide) (.cons ((r1.subM x).mono x1) (.cons ((r2.subM x).mono x1) .nil))⟩
  stop := fun i μ' H' S x ok g hi => by
    rw [show ((none, zip2D xs ys) : Gd × List D).2 = zip2D xs ys from rfl, zip2D_len, ra.length, rb.length] at hi
    exact ⟨vs, ws, x.sqT ha, x.sqT hb, by omega⟩
section
variable {X : Cx} {W : WX} {pos : Pos} {e e2 : Expr} {f g : DE}
def zip2R : List D → Store → Res (Gd × List D) := fun ds S => match ds with
  | [.tup xs, .tup ys] => .ok (none, zip2D xs ys) S
  | _ => .no
def cZip2 (f g : DE) : DI := fun σ S => (aCons f (aCons g aNil) σ S).bind zip2R
theorem i_zip2 {elts : List Expr} {kk : Nat} {p tpos : Pos} (hm : X.mg "zip" = none) (ha : PE X e (tE X.kw X.mg W f)) (hb : PE X e2 (tE X.kw X.mg W g)) (hg : Gl X "zip" := by rfl)
    (hs : starEach [e, e2] X.env = (false, eval e X.env) :: starEach [e2] X.env := by rfl) (hs2 : starEach [e2] X.env = (false, eval e2 X.env) :: starEach [] X.env := by rfl)
    (hpl : (backTo pos (starEach [e2] X.env)).any (·.1) = false := by rfl) : PI X (.Tuple elts kk tpos) (.Call (.Name "zip" p) [e, e2] [] pos) (tI X.kw X.mg W (cZip2 f g)) :=
  PI.weak (RZ.pi_zipA hg hm (a_cons ha (a_cons hb a_nil hs2) hs) hs hpl) fun σ H Q hh => tG1 (k := zip2R) (RA := RL X.kw) hh fun x S μ H v ok rx hh => by
    unfold zip2R at hh
    split at hh
    · cases rx with
      | cons r1 rx =>
        cases rx with
        | cons r2 rx =>
          cases rx
          cases r1 with
          | tup h1 l1 q1 =>
            cases r2 with
            | tup h2 l2 q2 => exact ⟨_, _, _, _, rfl, .inr ⟨h1, h2, hh μ H _ (Ext.refl _ _) ok (wlk_zip2 h1 h2 q1 q2)⟩⟩
    · exact hh.elim
end
end DL

namespace DL
open PySem PySem.Spec PyProof.Rows L2
/-! ### xs[::-1] of a list -/
def oRev : O1 := fun x S => match listOf S x with
  | some xs => some (.loc S.length, S ++ [.lst xs.reverse])
  | none => none
section
variable {X : Cx} {W : WX} {e : Expr} {f : DE} {k : Nat} {p1 p2 p3 pos : Pos}
theorem e_revL (he : PE X e (tE X.kw X.mg W f)) : PE X (.Subscript e (.Slice none none (some (.UnaryOp .USub (.Constant (.int 1) k p1) p2)) p3) pos) (tE X.kw X.mg W (cUn oRev f)) :=
  PE.weak (pe_revL he) fun σ H Q hh => tG1 (RA := R X.kw) hh fun x S μ H v ok rx hh => by
    unfold oRev at hh
    cases q : listOf S x with
    | none => rw [q] at hh; exact hh.of.elim
    | some xs =>
      rw [q] at hh
      obtain ⟨p, vs, rfl, hs, hl, rr⟩ := listOf_ok ok rx q
      exact ⟨p, vs, rfl, hs, fun a ha => PV.lst hh.of ok (by rw [List.length_reverse]; exact hl) rr.reverse a ha⟩
/-- a, b, c = e1, e2, e3 -/
def sPar3 (i j l : Nat) (fa : DA) : DS := fun σ S => match fa σ S with
  | .ok [u, v, w] S1 => .nx (((σ.set i (some u)).set j (some v)).set l (some w)) S1
  | .ex e S1 => .ex e σ S1
  | _ => .no
end
end DL

/-! DLK: dicts whose keys are tuples. -/
namespace DL
open PySem PySem.Spec PyProof.Rows L2
mutual
theorem nk_eqv : ∀ (x y : D) (a b : NestedKey), nkO x = some a → nkO y = some b → D.eqv x y = NestedKey.beq a b
  | .non, y, _, b, h, h' => by
    cases h
    cases y with
    | tup ys =>
      simp only [nkO, Option.map_eq_some_iff] at h'
      obtain ⟨ls, _, rfl⟩ := h'
      rfl
    | rol _ => simp [nkO] at h'
    | loc _ => simp [nkO] at h'
    | non => cases h'; rfl
    | bl e => cases h'; rfl
    | int e => cases h'; rfl
    | str e => cases h'; rfl
  | .bl c, y, _, b, h, h' => by
    cases h
    cases y with
    | tup ys =>
      simp only [nkO, Option.map_eq_some_iff] at h'
      obtain ⟨ls, _, rfl⟩ := h'
      rfl
    | rol _ => simp [nkO] at h'
    | loc _ => simp [nkO] at h'
    | non => cases h'; rfl
    | bl e => cases h'; first | rfl | (cases c <;> cases e <;> rfl)
    | int e => cases h'; rfl
    | str e => cases h'; rfl
  | .int c, y, _, b, h, h' => by
    cases h
    cases y with
    | tup ys =>
      simp only [nkO, Option.map_eq_some_iff] at h'
      obtain ⟨ls, _, rfl⟩ := h'
      rfl
    | rol _ => simp [nkO] at h'
    | loc _ => simp [nkO] at h'
    | non => cases h'; rfl
    | bl e => cases h'; rfl
    | int e => cases h'; rfl
    | str e => cases h'; rfl
  | .str c, y, _, b, h, h' => by
    cases h
    cases y with
    | tup ys =>
      simp only [nkO, Option.map_eq_some_iff] at h'
      obtain ⟨ls, _, rfl⟩ := h'
      rfl
    | rol _ => simp [nkO] at h'
    | loc _ => simp [nkO] at h'
    | non => cases h'; rfl
    | bl e => cases h'; rfl
    | int e => cases h'; rfl
    | str e => cases h'; rfl
  | .tup xs, y, _, b, h, h' => by
    simp only [nkO, Option.map_eq_some_iff] at h
    obtain ⟨ks, hk, rfl⟩ := h
    cases y with
    | tup ys =>
      simp only [nkO, Option.map_eq_some_iff] at h'
      obtain ⟨ls, hl, rfl⟩ := h'
      simp only [D.eqv, NestedKey.beq]
      exact nk_eqvL xs ys ks ls hk hl
    | _ => simp [nkO] at h' <;> (try subst h') <;> simp [D.eqv, NestedKey.beq]
  | .rol _, _, _, _, h, _ => by simp [nkO] at h
  | .loc _, _, _, _, h, _ => by simp [nkO] at h
termination_by x _ _ _ => sizeOf x
theorem nk_eqvL : ∀ (xs ys : List D) (as bs : List NestedKey), nkL xs = some as → nkL ys = some bs → D.eqvL xs ys = NestedKey.beqAll as bs
  | [], [], _, _, h, h' => by cases h; cases h'; rfl
  | [], y :: ys, _, bs, h, h' => by
    cases h
    simp only [nkL] at h'
    split at h' <;> cases h'
    rfl
  | x :: xs, [], as, _, h, h' => by
    cases h'
    simp only [nkL] at h
    split at h <;> cases h
    rfl
  | x :: xs, y :: ys, as, bs, h, h' => by
    simp only [nkL] at h h'
    split at h <;> cases h
    rename_i a as e1 e2
    split at h' <;> cases h'
    rename_i b bs e3 e4
    simp only [D.eqvL, NestedKey.beqAll]
    rw [nk_eqv x y a b e1 e3, nk_eqvL xs ys as bs e2 e4]
termination_by x _ _ _ => sizeOf x
end
section
variable {X : Cx} {pins : List (Addr × Obj)} {σ : L2.St} {H : Hp} {s : Shared} {μ : List Addr}
mutual
theorem R.nested (I : Inv X pins σ H s) : ∀ {x : D} {v : V} {u : Value} {k : NestedKey}, R X.kw μ H x v → RelV v u → nkO x = some k → NestedIs s.heap k u
  | _, _, _, _, .non, rv, h => by cases h; cases rv; exact .none
  | _, _, _, _, .bl b, rv, h => by cases h; cases rv; exact .bool rfl
  | _, _, _, _, .int i, rv, h => by cases h; obtain ⟨t, rfl⟩ := rv; exact .int i t
  | _, _, _, _, .str x, rv, h => by cases h; obtain ⟨t, rfl⟩ := rv; exact .text x t
  | _, _, _, _, .tup (xs := xs) hs l rr, rv, h => by
    cases rv
    simp only [nkO] at h
    cases q : nkL xs with
    | none => rw [q] at h; cases h
    | some ks =>
      rw [q] at h; cases h
      obtain ⟨its, vv, ⟨o, ho, hc, n, hd⟩, _⟩ := I.tuple hs
      exact .tup ho hc hd (RL.nested I rr vv q)
  | _, _, _, _, .rol _ _ _, _, h => by cases h
  | _, _, _, _, .loc _, _, h => by cases h
theorem RL.nested (I : Inv X pins σ H s) : ∀ {xs : List D} {vs : List V} {us : List Value} {ks : List NestedKey}, RL X.kw μ H xs vs → Vals vs us → nkL xs = some ks → NestedAll s.heap ks us
  | _, _, _, _, .nil, .nil, h => by cases h; exact .nil
  | _, _, _, _, .cons (x := x) (xs := xs) r t, .cons rv tv, h => by
    simp only [nkL] at h
    cases q1 : nkO x with
    | none => rw [q1] at h; cases h
    | some k =>
      cases q2 : nkL xs with
      | none => rw [q1, q2] at h; cases h
      | some ks =>
        rw [q1, q2] at h; cases h
        exact .cons (R.nested I r rv q1) (RL.nested I t tv q2)
end
theorem KR.is (I : Inv X pins σ H s) : ∀ {kvs : List (D × D)} {xs : List (NestedKey × Addr × Value)}, KR X.kw μ H kvs xs → ∀ x ∈ xs, (nestedKind X.prog X.w).is s.heap x.1 x.2.1
  | _, _, .nil, _, h => by cases h
  | _, _, .cons hk hd r _ _ t, x, h => by
    rcases List.mem_cons.mp h with rfl | h
    · exact ⟨R.nested I r rfl hk, hd⟩
    · exact KR.is I t x h
theorem KR.dict (I : Inv X pins σ H s) {a : Addr} {kvs : List (D × D)} {xs : List (NestedKey × Addr × Value)} (hH : H a = some (dctO X.w a xs)) (nd : (xs.map (·.1)).Nodup) (r : KR X.kw μ H kvs xs) : s.heap.DictOfH (nestedKind X.prog X.w) a xs := by
  obtain ⟨⟨o, es, ep, h1, h2, h3, h4⟩, _⟩ := I.hok _ _ hH
  exact ⟨o, es, ep, h1, h2, h3, h4, KR.is I r, nd⟩
/-- what stands at a key -/
def findD (kvs : List (D × D)) (k : D) : Option D := match kvs with
  | [] => none
  | p :: r => if D.eqv p.1 k = true then some p.2 else findD r k
theorem KR.get {K : KW} {k : D} {nk : NestedKey} (hk : nkO k = some nk) : ∀ {kvs : List (D × D)} {xs : List (NestedKey × Addr × Value)}, KR K μ H kvs xs →
    (findD kvs k = none ∧ atKey xs nk = none) ∨ ∃ d v u b, findD kvs k = some d ∧ atKey xs nk = some (b, u) ∧ RelV v u ∧ R K μ H d v
  | _, _, .nil => .inl ⟨rfl, rfl⟩
  | _, _, .cons (ds := ds) (nk := nk') (b := b) (d := d) (v := v) (u := u) h1 _ _ r rv t => by
    by_cases e : nk' = nk
    · subst e
      refine .inr ⟨d, v, u, b, ?_, ?_, rv, r⟩
      · rw [findD, if_pos (by rw [nk_eqv _ _ _ _ h1 hk]; exact NestedKey.beq_self _)]
      · simp [atKey]
    · have e1 : ¬ D.eqv (.tup ds) k = true := by
        rw [nk_eqv _ _ _ _ h1 hk]
        exact fun z => e (NestedKey.eq_of_beq _ _ z)
      rw [findD, if_neg e1]
      have e2 : ∀ xs, atKey ((nk', b, u) :: xs) nk = atKey xs nk := fun xs => by simp [atKey, List.find?_cons, e]
      rw [e2]
      exact KR.get hk t
/-- a value is put at a key -/
def putD (kvs : List (D × D)) (k d : D) : List (D × D) := if (findD kvs k).isSome = true then kvs.map fun p => if D.eqv p.1 k = true then (p.1, d) else p else kvs ++ [(k, d)]
theorem KR.append {K : KW} : ∀ {kvs ls : List (D × D)} {xs ys : List (NestedKey × Addr × Value)}, KR K μ H kvs xs → KR K μ H ls ys → KR K μ H (kvs ++ ls) (xs ++ ys)
  | _, _, _, _, .nil, h => h
  | _, _, _, _, .cons a b c d e t, h => .cons a b c d e (KR.append t h)
theorem KR.puts {K : KW} {k d : D} {nk : NestedKey} {v : V} {u : Value} (hk : nkO k = some nk) (r : R K μ H d v) (rv : RelV v u) : ∀ {kvs : List (D × D)} {xs : List (NestedKey × Addr × Value)}, KR K μ H kvs xs →
    KR K μ H (kvs.map fun p => if D.eqv p.1 k = true then (p.1, d) else p) (xs.map (putAt nk u))
  | _, _, .nil => .nil
  | _, _, .cons (ds := ds) (nk := nk') h1 h2 h3 h4 h5 t => by
    have e0 : D.eqv (.tup ds) k = decide (nk' = nk) := by
      rw [nk_eqv _ _ _ _ h1 hk]
      by_cases e : nk' = nk
      · subst e; rw [NestedKey.beq_self]; simp
      · rw [decide_eq_false e]
        cases z : NestedKey.beq nk' nk with
        | false => rfl
        | true => exact absurd (NestedKey.eq_of_beq _ _ z) e
    rw [List.map_cons, List.map_cons]
    by_cases e : nk' = nk
    · rw [if_pos (by rw [e0]; exact decide_eq_true e)]
      rw [show putAt nk u (nk', _, _) = (nk', _, u) from if_pos e]
      exact .cons h1 h2 h3 r rv (KR.puts hk r rv t)
    · rw [if_neg (by rw [e0, decide_eq_false e]; decide)]
      rw [show putAt nk u (nk', _, _) = (nk', _, _) from if_neg e]
      exact .cons h1 h2 h3 h4 h5 (KR.puts hk r rv t)
theorem KR.put {K : KW} {ds : List D} {d : D} {nk : NestedKey} {b : Addr} {v : V} {u : Value} (hk : nkO (.tup ds) = some nk) (hd : nk.depth ≤ 8) (rk : R K μ H (.tup ds) (.ref b)) (r : R K μ H d v) (rv : RelV v u) {kvs : List (D × D)} {xs : List (NestedKey × Addr × Value)}
    (t : KR K μ H kvs xs) : KR K μ H (putD kvs (.tup ds) d) (storedH xs nk b u) := by
  rcases KR.get hk t with ⟨e1, e2⟩ | ⟨d0, v0, u0, b0, e1, e2, _⟩
  · rw [storedH_new e2, putD, e1, if_neg (by simp)]
    exact t.append (.cons hk hd rk r rv .nil)
  · rw [storedH_old e2, putD, e1, if_pos (by simp)]
    exact KR.puts hk r rv t
/-- may be a key -/
def keyD (k : D) : Bool := match k with
  | .tup ds => match nkO (.tup ds) with
    | some nk => decide (nk.depth ≤ 8)
    | none => false
  | _ => false
theorem keyD_is {k : D} (h : keyD k = true) : ∃ ds nk, k = .tup ds ∧ nkO k = some nk ∧ nk.depth ≤ 8 := by
  unfold keyD at h
  split at h
  · rename_i ds
    split at h
    · rename_i nk e
      exact ⟨ds, nk, rfl, e, of_decide_eq_true h⟩
    · cases h
  · cases h
theorem R.key (I : Inv X pins σ H s) {k : D} {v : V} {u : Value} (h : keyD k = true) (r : R X.kw μ H k v) (rv : RelV v u) : ∃ nk a, nkO k = some nk ∧ v = .ref a ∧ u = .ref a ∧ (nestedKind X.prog X.w).is s.heap nk a := by
  obtain ⟨ds, nk, rfl, e, hd⟩ := keyD_is h
  cases r with
  | tup hs hl rr =>
    cases rv
    exact ⟨nk, _, e, rfl, rfl, R.nested I (.tup hs hl rr) rfl e, hd⟩
/-- the dict at l -/
def dctAt (S : Store) (x : D) : Option (List (D × D)) := match x with
  | .loc l => match S[l]? with
    | some (.dct kvs) => some kvs
    | _ => none
  | _ => none
theorem dctAt_is {S : Store} (ok : Ok X.kw μ H S) {x : D} {v : V} {kvs : List (D × D)} (r : R X.kw μ H x v) (h : dctAt S x = some kvs) : ∃ l a, x = .loc l ∧ v = .ref a ∧ μ[l]? = some a ∧ S[l]? = some (.dct kvs) ∧
    ∃ xs, H a = some (dctO X.w a xs) ∧ (a == sysModules) = false ∧ xs.length ≤ sizeLine ∧ (xs.map (·.1)).Nodup ∧ KR X.kw μ H kvs xs := by
  unfold dctAt at h
  split at h
  · rename_i l
    cases r with
    | loc hl =>
      split at h
      · rename_i q
        cases h
        obtain ⟨a', h1, hc⟩ := ok.at q
        rw [hl] at h1; cases h1
        exact ⟨l, _, rfl, rfl, hl, q, hc⟩
      · cases h
  · cases h
def oInX : O2 := fun x y S => match dctAt S y with
  | some kvs => if keyD x = true then some (.bl (findD kvs x).isSome, S) else none
  | none => oIn x y S
def oNotInX : O2 := fun x y S => match dctAt S y with
  | some kvs => if keyD x = true then some (.bl (!(findD kvs x).isSome), S) else none
  | none => oNotIn x y S
theorem KR.some_eq {k : D} {nk : NestedKey} (hk : nkO k = some nk) {kvs : List (D × D)} {xs : List (NestedKey × Addr × Value)} {K : KW} (t : KR K μ H kvs xs) : (atKey xs nk).isSome = (findD kvs k).isSome := by
  rcases KR.get hk t with ⟨e1, e2⟩ | ⟨d, v, u, b, e1, e2, _⟩ <;> rw [e1, e2] <;> rfl
theorem d_inX (hu : X.A.units + 64 < cLine) : OpR X (compareOp .In) (r2 X.kw oInX) := by
  intro pins s σ H x y v u Q I rx ry hr
  obtain ⟨μ, S, a, b, ok, ra, rb, hp⟩ := hr
  unfold oInX at hp
  cases q : dctAt S b with
  | none =>
    rw [q] at hp
    exact d_in hu pins s σ H x y v u Q I rx ry ⟨μ, S, a, b, ok, ra, rb, hp⟩
  | some kvs =>
    rw [q] at hp
    simp only at hp
    split at hp
    · rename_i hk
      obtain ⟨l, ad, rfl, rfl, hl, hS, xs, hH, hsys, hz, nd, t⟩ := dctAt_is ok rb q
      obtain ⟨nk, ka, hn, rfl, rfl, his⟩ := ra.key I hk rx
      cases ry
      refine wpAny_in_heap (knd := nestedKind X.prog X.w) (by show X.A.units + 1 + 8 < cLine; omega) his hsys (t.dict I hH nd) ?_
      rw [KR.some_eq hn t]
      exact ⟨.bl _, H, I.tok _, rfl, hp.same ok (.bl _)⟩
    · exact hp.elim
theorem d_notinX (hu : X.A.units + 64 < cLine) : OpR X (compareOp .NotIn) (r2 X.kw oNotInX) := by
  intro pins s σ H x y v u Q I rx ry hr
  obtain ⟨μ, S, a, b, ok, ra, rb, hp⟩ := hr
  unfold oNotInX at hp
  cases q : dctAt S b with
  | none =>
    rw [q] at hp
    exact d_notin hu pins s σ H x y v u Q I rx ry ⟨μ, S, a, b, ok, ra, rb, hp⟩
  | some kvs =>
    rw [q] at hp
    simp only at hp
    split at hp
    · rename_i hk
      obtain ⟨l, ad, rfl, rfl, hl, hS, xs, hH, hsys, hz, nd, t⟩ := dctAt_is ok rb q
      obtain ⟨nk, ka, hn, rfl, rfl, his⟩ := ra.key I hk rx
      cases ry
      refine wpAny_notIn_heap (knd := nestedKind X.prog X.w) (by show X.A.units + 1 + 8 < cLine; omega) his hsys (t.dict I hH nd) ?_
      rw [KR.some_eq hn t]
      exact ⟨.bl _, H, I.tok _, rfl, hp.same ok (.bl _)⟩
    · exact hp.elim
end
end DL

/-! DLN: zip of three tuples, its triples held by ONE name. -/
namespace DL
open PySem PySem.Spec PyProof.Rows L2
/-- a zip at z: its first field none, or the number of a tuple that was given out -/
abbrev ZAt (u : Value) (f : Bool) (h : Heap) (z TI TO : Addr) : Prop := h.get? z = some { cls := .type "zip", dict := none, data := .fields #[u, .bool f, .bool false, .ref TI, .ref TO], slots := #[] }
def ZF (u : Value) : Prop := u = .none ∨ ∃ T : Nat, u = rawInt T
section
variable {prog : Program} {w : World} {A : Around} {E : Value → Shared → Prop} {s : Shared} {z TI TO i1 i2 i3 a b c : Addr} {u : Value} {f : Bool}
theorem zfree {Q : Bool → Shared → Prop} (hz : ZAt u f s.heap z TI TO) (hu : ZF u) (h1 : Q true s) (h2 : ∀ h', ZAt u true h' z TI TO → Heap.SameBut z s.heap h' → Q false { s with heap := h' }) :
    wpAny (model prog w) A (Builtin.SmallTypes.ownedTupleIsFree (.ref z)) Q E s := by
  rcases hu with rfl | ⟨T, rfl⟩
  · unfold Builtin.SmallTypes.ownedTupleIsFree
    exact wpAny_bind (wpAny_field hz rfl (x := Value.none) rfl (wpAny_pure h1))
  · cases q : s.heap.get? T with
    | some o => exact wpAny_tupleHeld_zip (T := T) hz q h2
    | none =>
      unfold Builtin.SmallTypes.ownedTupleIsFree
      refine wpAny_bind (wpAny_field (x := rawInt T) hz rfl rfl ?_)
      show wpAny _ _ (loadIfAlive ((T : Int).toNat) >>= _) _ _ _
      rw [Int.toNat_natCast]
      refine wpAny_bind ?_
      exact fun _ _ _ => by
        show (fun o s' => wpAny (model prog w) A _ _ _ s') (s.heap.get? T) s
        rw [q]
        exact wpAny_pure h1
variable {fp1 fp2 fp3 : List Addr} {n1 n2 n3 i : Nat} {P1 P2 P3 : Nat → Value → Prop} {J1 J2 J3 : Nat → Heap → Prop}
/-- what next leaves -/
def ZNew (z TI TO i1 i2 i3 : Addr) (P1 P2 P3 : Nat → Value → Prop) (J1 J2 J3 : Nat → Heap → Prop) (i : Nat) (h h' : Heap) : Prop :=
  ∃ x1 x2 x3 u f, P1 i x1 ∧ P2 i x2 ∧ P3 i x3 ∧ ZF u ∧ ZAt u f h' z TI TO ∧ (∃ b1 b2 b3, IsTupOf3 h' TO b1 b2 b3) ∧ J1 (i + 1) h' ∧ J2 (i + 1) h' ∧ J3 (i + 1) h' ∧ IsTupOf3 h' h.objs.size x1 x2 x3 ∧
    ∀ c o, c ≠ z → c ≠ TO → c ≠ i1 → c ≠ i2 → c ≠ i3 → h.get? c = some o → h'.get? c = some o
theorem zn_item {Q : Value → Shared → Prop} (S : ZipSep3 z TI TO i1 i2 i3 fp1 fp2 fp3) (D1 : Draws prog w A i1 fp1 n1 P1 J1) (D2 : Draws prog w A i2 fp2 n2 P2 J2) (D3 : Draws prog w A i3 fp3 n3 P3 J3)
    (hz : ZAt u f s.heap z TI TO) (hu : ZF u) (hTI : IsTupOf3 s.heap TI (.ref i1) (.ref i2) (.ref i3)) {a1 a2 a3 : Value} (hTO : IsTupOf3 s.heap TO a1 a2 a3) (j1 : J1 i s.heap) (j2 : J2 i s.heap) (j3 : J3 i s.heap) (l1 : i < n1) (l2 : i < n2) (l3 : i < n3)
    (hQ : ∀ h' tk, ZNew z TI TO i1 i2 i3 P1 P2 P3 J1 J2 J3 i s.heap h' → Q (.ref s.heap.objs.size) { s with heap := h', toks := tk }) :
    wpAny (model prog w) A (Builtin.«zip.__next__» ⟨[.ref z], []⟩) (fun r t => ∃ v, r = .done (.ret v) ∧ Q v t) E s := by
  obtain ⟨hp, gg, dd, t0, os⟩ := s
  show wpAny _ _ (field (.ref z) 2 >>= _) _ _ _
  refine wpAny_bind (wpAny_field (x := .bool false) hz rfl rfl ?_)
  show wpAny _ _ (field (.ref z) 3 >>= _) _ _ _
  refine wpAny_bind (wpAny_field (x := .ref TI) hz rfl rfl (wpAny_bind (wpAny_seqItems hTI rfl ?_)))
  show wpAny _ _ (Builtin.SmallTypes.ownedTupleIsFree (.ref z) >>= _) _ _ _
  refine wpAny_bind (zfree hz hu ?_ fun y0 z0 s0 => ?_)
  · simp only [if_true]
    refine wpAny_bind (wpAny_rule (wpAny_bind (wpAny_field (x := .ref TO) hz rfl rfl ?_)))
    refine wpAny_bind (wpAny_setField_rec hz (by simp) fun y0 z0 s0 => wpAny_bind ?_)
    have z0' : ZAt .ellipsis f y0 z TI TO := z0
    have s0' : Heap.SameBut z hp y0 := s0
    clear z0 s0
    simp only [List.zipIdx_cons, List.zipIdx_nil, List.forIn_cons, List.forIn_nil]
    refine wpAny_bind (wpAny_bind (wpAny_onRaise ?_))
    show wpAny _ _ (Builtin.SmallTypes.nextOf (.ref i1) >>= _) _ _ ⟨y0, gg, dd, t0, os⟩
    refine wpAny_bind (D1.item i _ _ _ l1 (D1.over j1 s0' S.zf1) fun x1 q1 u1 p1 m1 k1 => wpAny_pure ?_)
    have k1' : Heap.SameBut i1 y0 q1 := k1
    clear k1
    have o1 : IsTupOf3 q1 TO a1 a2 a3 := k1'.extBut _ _ S.Ti1 (s0'.extBut _ _ S.TOz hTO)
    refine wpAny_bind (wpAny_seqItems (s := ⟨q1, gg, dd, u1, os⟩) o1 rfl (wpAny_bind (updateSeq_IsTupOf3 (s := ⟨q1, gg, dd, u1, os⟩) o1 fun y1 r1 e1 => ?_)))
    have r1' : IsTupOf3 y1 TO x1 a2 a3 := r1
    have e1' : Heap.SameBut TO q1 y1 := e1
    clear r1 e1
    refine wpAny_bind (wpAny_letGo (wpAny_pure (wpAny_bind (wpAny_bind (wpAny_onRaise ?_)))))
    show wpAny _ _ (Builtin.SmallTypes.nextOf (.ref i2) >>= _) _ _ ⟨y1, gg, dd, u1, os⟩
    refine wpAny_bind (D2.item i _ _ _ l2 (D2.over (D2.over (D2.over j2 s0' S.zf2) k1' S.sep1_2) e1' S.Tf2) fun x2 q2 u2 p2 m2 k2 => wpAny_pure ?_)
    have k2' : Heap.SameBut i2 y1 q2 := k2
    clear k2
    have o2 : IsTupOf3 q2 TO x1 a2 a3 := k2'.extBut _ _ S.Ti2 r1'
    refine wpAny_bind (wpAny_seqItems (s := ⟨q2, gg, dd, u2, os⟩) o2 rfl (wpAny_bind (updateSeq_IsTupOf3 (s := ⟨q2, gg, dd, u2, os⟩) o2 fun y2 r2 e2 => ?_)))
    have r2' : IsTupOf3 y2 TO x1 x2 a3 := r2
    have e2' : Heap.SameBut TO q2 y2 := e2
    clear r2 e2
    refine wpAny_bind (wpAny_letGo (wpAny_pure (wpAny_bind (wpAny_bind (wpAny_onRaise ?_)))))
    show wpAny _ _ (Builtin.SmallTypes.nextOf (.ref i3) >>= _) _ _ ⟨y2, gg, dd, u2, os⟩
    refine wpAny_bind (D3.item i _ _ _ l3 (D3.over (D3.over (D3.over (D3.over (D3.over j3 s0' S.zf3) k1' S.sep1_3) e1' S.Tf3) k2' S.sep2_3) e2' S.Tf3) fun x3 q3 u3 p3 m3 k3 => wpAny_pure ?_)
    have k3' : Heap.SameBut i3 y2 q3 := k3
    clear k3
    have o3 : IsTupOf3 q3 TO x1 x2 a3 := k3'.extBut _ _ S.Ti3 r2'
    refine wpAny_bind (wpAny_seqItems (s := ⟨q3, gg, dd, u3, os⟩) o3 rfl (wpAny_bind (updateSeq_IsTupOf3 (s := ⟨q3, gg, dd, u3, os⟩) o3 fun y3 r3 e3 => ?_)))
    have r3' : IsTupOf3 y3 TO x1 x2 x3 := r3
    have e3' : Heap.SameBut TO q3 y3 := e3
    clear r3 e3
    refine wpAny_bind (wpAny_letGo (wpAny_pure (wpAny_pure (wpAny_bind (wpAny_seqItems (s := ⟨y3, gg, dd, u3, os⟩) r3' rfl (wpAny_bind (wpAny_newTuple ?_)))))))
    have sz : y3.objs.size = hp.objs.size := by rw [e3'.1, k3'.1, e2'.1, k2'.1, e1'.1, k1'.1, s0'.1]
    have zz : ZAt .ellipsis f y3 z TI TO := e3'.extBut _ _ S.TOz.symm (k3'.extBut _ _ S.zi3 (e2'.extBut _ _ S.TOz.symm (k2'.extBut _ _ S.zi2 (e1'.extBut _ _ S.TOz.symm (k1'.extBut _ _ S.zi1 z0')))))
    have kk : ∀ c o, c ≠ z → c ≠ TO → c ≠ i1 → c ≠ i2 → c ≠ i3 → hp.get? c = some o → y3.get? c = some o := fun c o g0 g1 g2 g3 g4 e =>
      e3'.extBut _ _ g1 (k3'.extBut _ _ g4 (e2'.extBut _ _ g1 (k2'.extBut _ _ g3 (e1'.extBut _ _ g1 (k1'.extBut _ _ g2 (s0'.extBut _ _ g0 e))))))
    have m1' : J1 (i + 1) y3 := D1.over (D1.over (D1.over (D1.over (D1.over m1 e1' S.Tf1) k2' S.sep2_1) e2' S.Tf1) k3' S.sep3_1) e3' S.Tf1
    have m2' : J2 (i + 1) y3 := D2.over (D2.over (D2.over m2 e2' S.Tf2) k3' S.sep3_2) e3' S.Tf2
    have m3' : J3 (i + 1) y3 := D3.over m3 e3' S.Tf3
    have zl : z < y3.objs.size := Heap.lt_size zz
    show wpAny _ _ (Builtin.SmallTypes.ownedTupleHandOut (.ref z) (.ref y3.objs.size) >>= _) _ _ ⟨y3.push { cls := .type "tuple", data := .seq #[x1, x2, x3] }, gg, dd, u3, os⟩
    refine wpAny_bind ?_
    unfold Builtin.SmallTypes.ownedTupleHandOut
    have z4 : ZAt .ellipsis f (y3.push { cls := .type "tuple", data := .seq #[x1, x2, x3] }) z TI TO := Heap.get?_push_of_some _ zz
    refine wpAny_bind (wpAny_setField_rec z4 (by simp) fun y5 z5 s5 => ?_)
    have z5' : ZAt (rawInt y3.objs.size) f y5 z TI TO := z5
    refine wpAny_setField_rec z5' (by simp) fun y6 z6 s6 => wpAny_pure ⟨_, rfl, ?_⟩
    have z6' : ZAt (rawInt y3.objs.size) false y6 z TI TO := z6
    have s5' : Heap.SameBut z (y3.push { cls := .type "tuple", data := .seq #[x1, x2, x3] }) y5 := s5
    have s6' : Heap.SameBut z y5 y6 := s6
    have up : ∀ c o, c ≠ z → y3.get? c = some o → y6.get? c = some o := fun c o g e => s6'.extBut _ _ g (s5'.extBut _ _ g (Heap.get?_push_of_some _ e))
    have tt : IsTupOf3 y6 y3.objs.size x1 x2 x3 := s6'.extBut _ _ (Nat.ne_of_gt zl) (s5'.extBut _ _ (Nat.ne_of_gt zl) (Heap.get?_push_size _ rfl))
    show Q (.ref y3.objs.size) ⟨y6, gg, dd, u3, os⟩
    rw [sz] at z6' tt ⊢
    exact hQ y6 u3 ⟨x1, x2, x3, _, _, p1, p2, p3, .inr ⟨_, rfl⟩, z6', ⟨_, _, _, up _ _ S.TOz r3'⟩, D1.frame _ _ _ m1' (fun b hb o e => up b o (fun q => S.zf1 (q ▸ hb)) e), D2.frame _ _ _ m2' (fun b hb o e => up b o (fun q => S.zf2 (q ▸ hb)) e),
      D3.frame _ _ _ m3' (fun b hb o e => up b o (fun q => S.zf3 (q ▸ hb)) e), tt, fun c o g0 g1 g2 g3 g4 e => up c o g0 (kk c o g0 g1 g2 g3 g4 e)⟩
  · simp only [Bool.false_eq_true, if_false]
    have s0' : Heap.SameBut z hp y0 := s0
    refine wpAny_bind ?_
    rw [← Array.forIn_toList]
    simp only [List.forIn_cons, List.forIn_nil]
    refine wpAny_bind (wpAny_bind (wpAny_holding ?_))
    show wpAny _ _ (Builtin.SmallTypes.nextOf (.ref i1) >>= _) _ _ ⟨y0, gg, dd, t0, os⟩
    refine wpAny_bind (D1.item i _ _ _ l1 (D1.over j1 s0' S.zf1) fun x1 q1 u1 p1 m1 k1 => wpAny_pure (wpAny_pure (wpAny_bind (wpAny_bind (wpAny_holding ?_)))))
    have k1' : Heap.SameBut i1 y0 q1 := k1
    show wpAny _ _ (Builtin.SmallTypes.nextOf (.ref i2) >>= _) _ _ ⟨q1, gg, dd, u1, os⟩
    refine wpAny_bind (D2.item i _ _ _ l2 (D2.over (D2.over j2 s0' S.zf2) k1' S.sep1_2) fun x2 q2 u2 p2 m2 k2 => wpAny_pure (wpAny_pure (wpAny_bind (wpAny_bind (wpAny_holding ?_)))))
    have k2' : Heap.SameBut i2 q1 q2 := k2
    show wpAny _ _ (Builtin.SmallTypes.nextOf (.ref i3) >>= _) _ _ ⟨q2, gg, dd, u2, os⟩
    refine wpAny_bind (D3.item i _ _ _ l3 (D3.over (D3.over (D3.over j3 s0' S.zf3) k1' S.sep1_3) k2' S.sep2_3) fun x3 q3 u3 p3 m3 k3 => wpAny_pure (wpAny_pure (wpAny_pure ?_)))
    have k3' : Heap.SameBut i3 q2 q3 := k3
    show wpAny _ _ (newTuple [x1, x2, x3] >>= _) _ _ _
    refine wpAny_bind (wpAny_newTuple (wpAny_pure ⟨_, rfl, ?_⟩))
    have sz : q3.objs.size = hp.objs.size := by rw [k3'.1, k2'.1, k1'.1, s0'.1]
    have zz : ZAt u true q3 z TI TO := k3'.extBut _ _ S.zi3 (k2'.extBut _ _ S.zi2 (k1'.extBut _ _ S.zi1 z0))
    have kk : ∀ c o, c ≠ z → c ≠ i1 → c ≠ i2 → c ≠ i3 → hp.get? c = some o → q3.get? c = some o := fun c o g0 g2 g3 g4 e => k3'.extBut _ _ g4 (k2'.extBut _ _ g3 (k1'.extBut _ _ g2 (s0'.extBut _ _ g0 e)))
    have m1' : J1 (i + 1) q3 := D1.over (D1.over m1 k2' S.sep2_1) k3' S.sep3_1
    have m2' : J2 (i + 1) q3 := D2.over m2 k3' S.sep3_2
    have up : ∀ c o, q3.get? c = some o → (q3.push { cls := .type "tuple", data := .seq #[x1, x2, x3] }).get? c = some o := fun c o e => Heap.get?_push_of_some _ e
    have tt : IsTupOf3 (q3.push { cls := .type "tuple", data := .seq #[x1, x2, x3] }) q3.objs.size x1 x2 x3 := Heap.get?_push_size _ rfl
    show Q (.ref q3.objs.size) ⟨q3.push _, gg, dd, u3, os⟩
    rw [sz] at tt ⊢
    exact hQ _ u3 ⟨x1, x2, x3, _, _, p1, p2, p3, hu, up _ _ zz, ⟨_, _, _, up _ _ (kk _ _ S.TOz S.Ti1 S.Ti2 S.Ti3 hTO)⟩, D1.frame _ _ _ m1' (fun b _ o e => up b o e), D2.frame _ _ _ m2' (fun b _ o e => up b o e),
      D3.frame _ _ _ m3 (fun b _ o e => up b o e), tt, fun c o g0 _ g2 g3 g4 e => up c o (kk c o g0 g2 g3 g4 e)⟩
theorem zn_end {Q : Fin → Shared → Prop} (S : ZipSep3 z TI TO i1 i2 i3 fp1 fp2 fp3) (D1 : Draws prog w A i1 fp1 n1 P1 J1) (D2 : Draws prog w A i2 fp2 n2 P2 J2) (D3 : Draws prog w A i3 fp3 n3 P3 J3)
    (hz : ZAt u f s.heap z TI TO) (hu : ZF u) (hTI : IsTupOf3 s.heap TI (.ref i1) (.ref i2) (.ref i3)) {a1 a2 a3 : Value} (hTO : IsTupOf3 s.heap TO a1 a2 a3) (j1 : J1 i s.heap) (j2 : J2 i s.heap) (j3 : J3 i s.heap) (l1 : i ≤ n1) (l2 : i ≤ n2) (l3 : i ≤ n3) (le : i = n1 ∨ i = n2 ∨ i = n3)
    (hE : ∀ h' tk e, (∀ c o, c ≠ z → c ≠ TO → c ≠ i1 → c ≠ i2 → c ≠ i3 → s.heap.get? c = some o → h'.get? c = some o) → (∃ o, h'.get? e = some o ∧ o.cls = .type "StopIteration") → E (.ref e) { s with heap := h', toks := tk }) :
    wpAny (model prog w) A (Builtin.«zip.__next__» ⟨[.ref z], []⟩) Q E s := by
  obtain ⟨hp, gg, dd, t0, os⟩ := s
  show wpAny _ _ (field (.ref z) 2 >>= _) _ _ _
  refine wpAny_bind (wpAny_field (x := .bool false) hz rfl rfl ?_)
  show wpAny _ _ (field (.ref z) 3 >>= _) _ _ _
  refine wpAny_bind (wpAny_field (x := .ref TI) hz rfl rfl (wpAny_bind (wpAny_seqItems hTI rfl ?_)))
  show wpAny _ _ (Builtin.SmallTypes.ownedTupleIsFree (.ref z) >>= _) _ _ _
  refine wpAny_bind (zfree hz hu ?_ fun y0 z0 s0 => ?_)
  · simp only [if_true]
    refine wpAny_bind (wpAny_rule (wpAny_bind (wpAny_field (x := .ref TO) hz rfl rfl ?_)))
    refine wpAny_bind (wpAny_setField_rec hz (by simp) fun y0 z0 s0 => wpAny_bind ?_)
    have z0' : ZAt .ellipsis f y0 z TI TO := z0
    have s0' : Heap.SameBut z hp y0 := s0
    clear z0 s0
    -- what a draw that ends leaves
    have fin : ∀ (q q' : Heap) (tk : Nat) (e : Addr) (I : Addr), (∀ c o, c ≠ z → c ≠ TO → c ≠ i1 → c ≠ i2 → c ≠ i3 → hp.get? c = some o → q.get? c = some o) → (I = i1 ∨ I = i2 ∨ I = i3) → ZAt .ellipsis f q z TI TO → z ≠ I → Heap.ExtBut I q q' → (∃ o, q'.get? e = some o ∧ o.cls = .type "StopIteration") →
        wpAny (model prog w) A (setField (.ref z) 0 .none) (fun _ s'' => E (.ref e) s'') E ⟨q', gg, dd, tk, os⟩ := fun q q' tk e I kq hI zq nI ex ⟨oe, he, hc⟩ => by
      have zq' : ZAt .ellipsis f q' z TI TO := ex _ _ nI zq
      have nez : e ≠ z := fun x => by subst x; rw [zq'] at he; cases he; simp at hc
      refine wpAny_setField_rec (s := ⟨q', gg, dd, tk, os⟩) zq' (by simp) fun q2 _ k2 => ?_
      have k2' : Heap.SameBut z q' q2 := k2
      refine hE q2 tk e (fun c o g0 g1 g2 g3 g4 x => k2'.extBut _ _ g0 (ex _ _ (by rcases hI with h | h | h <;> rw [h] <;> assumption) (kq c o g0 g1 g2 g3 g4 x))) ⟨oe, k2'.extBut _ _ nez he, hc⟩
    simp only [List.zipIdx_cons, List.zipIdx_nil, List.forIn_cons, List.forIn_nil]
    refine wpAny_bind (wpAny_bind (wpAny_onRaise ?_))
    show wpAny _ _ (Builtin.SmallTypes.nextOf (.ref i1) >>= _) _ _ ⟨y0, gg, dd, t0, os⟩
    by_cases b1 : i < n1
    · refine wpAny_bind (D1.item i _ _ _ b1 (D1.over j1 s0' S.zf1) fun x1 q1 u1 p1 m1 k1 => wpAny_pure ?_)
      have k1' : Heap.SameBut i1 y0 q1 := k1
      clear k1
      have o1 : IsTupOf3 q1 TO a1 a2 a3 := k1'.extBut _ _ S.Ti1 (s0'.extBut _ _ S.TOz hTO)
      refine wpAny_bind (wpAny_seqItems (s := ⟨q1, gg, dd, u1, os⟩) o1 rfl (wpAny_bind (updateSeq_IsTupOf3 (s := ⟨q1, gg, dd, u1, os⟩) o1 fun y1 r1 e1 => ?_)))
      have r1' : IsTupOf3 y1 TO x1 a2 a3 := r1
      have e1' : Heap.SameBut TO q1 y1 := e1
      clear r1 e1
      refine wpAny_bind (wpAny_letGo (wpAny_pure (wpAny_bind (wpAny_bind (wpAny_onRaise ?_)))))
      show wpAny _ _ (Builtin.SmallTypes.nextOf (.ref i2) >>= _) _ _ ⟨y1, gg, dd, u1, os⟩
      have st2 : J2 i y1 := D2.over (D2.over (D2.over j2 s0' S.zf2) k1' S.sep1_2) e1' S.Tf2
      have z1 : ZAt .ellipsis f y1 z TI TO := e1'.extBut _ _ S.TOz.symm (k1'.extBut _ _ S.zi1 z0')
      by_cases b2 : i < n2
      · refine wpAny_bind (D2.item i _ _ _ b2 st2 fun x2 q2 u2 p2 m2 k2 => wpAny_pure ?_)
        have k2' : Heap.SameBut i2 y1 q2 := k2
        clear k2
        have o2 : IsTupOf3 q2 TO x1 a2 a3 := k2'.extBut _ _ S.Ti2 r1'
        refine wpAny_bind (wpAny_seqItems (s := ⟨q2, gg, dd, u2, os⟩) o2 rfl (wpAny_bind (updateSeq_IsTupOf3 (s := ⟨q2, gg, dd, u2, os⟩) o2 fun y2 r2 e2 => ?_)))
        have e2' : Heap.SameBut TO q2 y2 := e2
        clear r2 e2
        refine wpAny_bind (wpAny_letGo (wpAny_pure (wpAny_bind (wpAny_bind (wpAny_onRaise ?_)))))
        show wpAny _ _ (Builtin.SmallTypes.nextOf (.ref i3) >>= _) _ _ ⟨y2, gg, dd, u2, os⟩
        have st3 : J3 i y2 := D3.over (D3.over (D3.over (D3.over (D3.over j3 s0' S.zf3) k1' S.sep1_3) e1' S.Tf3) k2' S.sep2_3) e2' S.Tf3
        refine wpAny_bind (D3.done ⟨y2, gg, dd, u2, os⟩ _ _ (by rw [← show i = n3 by omega]; exact st3) fun q e hq he => ?_)
        exact fin y2 q u2 e i3 (fun c o g0 g1 g2 g3 g4 x => e2'.extBut _ _ g1 (k2'.extBut _ _ g3 (e1'.extBut _ _ g1 (k1'.extBut _ _ g2 (s0'.extBut _ _ g0 x))))) (.inr (.inr rfl)) (e2'.extBut _ _ S.TOz.symm (k2'.extBut _ _ S.zi2 z1)) S.zi3 hq he
      · refine wpAny_bind (D2.done ⟨y1, gg, dd, u1, os⟩ _ _ (by rw [← show i = n2 by omega]; exact st2) fun q e hq he => ?_)
        exact fin y1 q u1 e i2 (fun c o g0 g1 g2 g3 g4 x => e1'.extBut _ _ g1 (k1'.extBut _ _ g2 (s0'.extBut _ _ g0 x))) (.inr (.inl rfl)) z1 S.zi2 hq he
    · refine wpAny_bind (D1.done ⟨y0, gg, dd, t0, os⟩ _ _ (by rw [← show i = n1 by omega]; exact D1.over j1 s0' S.zf1) fun q e hq he => ?_)
      exact fin y0 q t0 e i1 (fun c o g0 _ _ _ _ x => s0'.extBut _ _ g0 x) (.inl rfl) z0' S.zi1 hq he
  · simp only [Bool.false_eq_true, if_false]
    have s0' : Heap.SameBut z hp y0 := s0
    refine wpAny_bind ?_
    rw [← Array.forIn_toList]
    simp only [List.forIn_cons, List.forIn_nil]
    refine wpAny_bind (wpAny_bind (wpAny_holding ?_))
    show wpAny _ _ (Builtin.SmallTypes.nextOf (.ref i1) >>= _) _ _ ⟨y0, gg, dd, t0, os⟩
    by_cases b1 : i < n1
    · refine wpAny_bind (D1.item i _ _ _ b1 (D1.over j1 s0' S.zf1) fun x1 q1 u1 p1 m1 k1 => wpAny_pure (wpAny_pure (wpAny_bind (wpAny_bind (wpAny_holding ?_)))))
      have k1' : Heap.SameBut i1 y0 q1 := k1
      have st2 : J2 i q1 := D2.over (D2.over j2 s0' S.zf2) k1' S.sep1_2
      show wpAny _ _ (Builtin.SmallTypes.nextOf (.ref i2) >>= _) _ _ ⟨q1, gg, dd, u1, os⟩
      by_cases b2 : i < n2
      · refine wpAny_bind (D2.item i _ _ _ b2 st2 fun x2 q2 u2 p2 m2 k2 => wpAny_pure (wpAny_pure (wpAny_bind (wpAny_bind (wpAny_holding ?_)))))
        have k2' : Heap.SameBut i2 q1 q2 := k2
        show wpAny _ _ (Builtin.SmallTypes.nextOf (.ref i3) >>= _) _ _ ⟨q2, gg, dd, u2, os⟩
        refine wpAny_bind (D3.done ⟨q2, gg, dd, u2, os⟩ _ _ (by rw [← show i = n3 by omega]; exact D3.over (D3.over (D3.over j3 s0' S.zf3) k1' S.sep1_3) k2' S.sep2_3) fun q e hq he => ?_)
        exact hE q u2 e (fun c o g0 _ g2 g3 g4 x => hq _ _ g4 (k2'.extBut _ _ g3 (k1'.extBut _ _ g2 (s0'.extBut _ _ g0 x)))) he
      · refine wpAny_bind (D2.done ⟨q1, gg, dd, u1, os⟩ _ _ (by rw [← show i = n2 by omega]; exact st2) fun q e hq he => ?_)
        exact hE q u1 e (fun c o g0 _ g2 g3 _ x => hq _ _ g3 (k1'.extBut _ _ g2 (s0'.extBut _ _ g0 x))) he
    · refine wpAny_bind (D1.done ⟨y0, gg, dd, t0, os⟩ _ _ (by rw [← show i = n1 by omega]; exact D1.over j1 s0' S.zf1) fun q e hq he => ?_)
      exact hE q t0 e (fun c o g0 _ g2 _ _ x => hq _ _ g2 (s0'.extBut _ _ g0 x)) he
/-- the triples of three tuples, each held by a name -/
theorem turn_zip3n {P : Program} {w : World} {K : PySem.W.Frag} {nm : Str} {tpos : Pos} {a b c z TI TO i1 i2 i3 : Addr} {xs ys zs : List V} (S : ZipSep3 z TI TO i1 i2 i3 [i1, a] [i2, b] [i3, c]) (ha : a ≠ i1) (hb : b ≠ i2) (hcn : c ≠ i3) :
    Turn P w K (.Name nm tpos) (Itz3 K a b c xs ys zs) [z, TI, TO, i1, i2, i3] z (fun i h => i ≤ (zip3V xs ys zs).length ∧ (∃ u f, ZF u ∧ ZAt u f h z TI TO) ∧ IsTupOf3 h TI (.ref i1) (.ref i2) (.ref i3) ∧ (∃ a1 a2 a3, IsTupOf3 h TO a1 a2 a3) ∧ h.IsTupleIter i1 a i ∧ h.IsTupleIter i2 b i ∧ h.IsTupleIter i3 c i) where
  mem := by simp
  obj := fun i h st d hd => by
    obtain ⟨_, ⟨u, f, _, hz⟩, hTI, ⟨x, y, u', hTO⟩, ⟨o1, e1, _, d1⟩, ⟨o2, e2, _, d2⟩, ⟨o3, e3, _, d3⟩⟩ := st
    simp only [List.mem_cons, List.not_mem_nil, or_false] at hd
    rcases hd with rfl | rfl | rfl | rfl | rfl | rfl
    · exact ⟨_, hz, fun v q => nomatch q⟩
    · exact ⟨_, hTI, fun v q => nomatch q⟩
    · exact ⟨_, hTO, fun v q => nomatch q⟩
    · exact ⟨o1, e1, fun v q => by rw [d1] at q; cases q⟩
    · exact ⟨o2, e2, fun v q => by rw [d2] at q; cases q⟩
    · exact ⟨o3, e3, fun v q => by rw [d3] at q; cases q⟩
  keep := fun i h h' st k => by
    obtain ⟨hle, ⟨u, f, hu, hz⟩, hTI, ⟨x, y, v, hTO⟩, h1, h2, h3⟩ := st
    exact ⟨hle, ⟨u, f, hu, k z (by simp) _ hz⟩, k TI (by simp) _ hTI, ⟨x, y, v, k TO (by simp) _ hTO⟩, h1.at fun o q => k i1 (by simp) o q, h2.at fun o q => k i2 (by simp) o q, h3.at fun o q => k i3 (by simp) o q⟩
  item := by
    intro X hP hw hK hc i pins s σ H E I hf st hg
    subst hP hw hK
    obtain ⟨hle, ⟨u, f, hu, hz⟩, hTI, ⟨b1, b2, b3, hTO⟩, h1, h2, h3⟩ := st
    obtain ⟨hlt, qa, qb, qc⟩ := hg
    obtain ⟨its1, rv1, p1, _⟩ := I.tuple qa
    obtain ⟨its2, rv2, p2, _⟩ := I.tuple qb
    obtain ⟨its3, rv3, p3, _⟩ := I.tuple qc
    have l1 := rv1.length
    have l2 := rv2.length
    have l3 := rv3.length
    rw [zip3V_len] at hlt
    have hT : s.TypeIs (.ref z) "zip" := ⟨_, hz, rfl⟩
    unfold pyNext
    refine wpAny_bind (wpAny_attempt (wpAny_callSpecial?_slot (name := Str.ofString "__next__") hT F.slot_zip_next (wpAny_call_entry F.slot_zip_next hT F.entry_zip_next
      (zn_item S (Draws.tuple (prog := X.prog) (w := X.w) (A := X.A.in1) (I.ok.hd hc) i1 a ha its1.toArray) (Draws.tuple (prog := X.prog) (w := X.w) (A := X.A.in1) (I.ok.hd hc) i2 b hb its2.toArray) (Draws.tuple (prog := X.prog) (w := X.w) (A := X.A.in1) (I.ok.hd hc) i3 c hcn its3.toArray) hz hu hTI hTO ⟨h1, p1⟩ ⟨h2, p2⟩ ⟨h3, p3⟩ (by simp only [List.size_toArray]; omega) (by simp only [List.size_toArray]; omega) (by simp only [List.size_toArray]; omega)
        fun h' tk zn => wpAny_pure ⟨_, rfl, ?_⟩) (F.args_zip_next_1 _))))
    refine wpAny_pure ?_
    obtain ⟨x, y, v, u', f', e1, e2, e3, hu', hz', hTO', ⟨m1, _⟩, ⟨m2, _⟩, ⟨m3, _⟩, hTt, hk⟩ := zn
    have e1' : its1[i]? = some x := by simpa using e1
    have e2' : its2[i]? = some y := by simpa using e2
    have e3' : its3[i]? = some v := by simpa using e3
    have hvx : xs[i]? = some (xs[i]'(by omega)) := List.getElem?_eq_getElem _
    obtain ⟨wx, hwx, rx⟩ := rv1.get hvx
    have qx : wx = x := by rw [hwx] at e1'; exact Option.some.inj e1'
    subst qx
    generalize xs[i]'(by omega) = vx at *
    have hvy : ys[i]? = some (ys[i]'(by omega)) := List.getElem?_eq_getElem _
    obtain ⟨wy, hwy, ry⟩ := rv2.get hvy
    have qy : wy = y := by rw [hwy] at e2'; exact Option.some.inj e2'
    subst qy
    generalize ys[i]'(by omega) = vy at *
    have hvu : zs[i]? = some (zs[i]'(by omega)) := List.getElem?_eq_getElem _
    obtain ⟨wu, hwu, ru⟩ := rv3.get hvu
    have qu : wu = v := by rw [hwu] at e3'; exact Option.some.inj e3'
    subst qu
    generalize zs[i]'(by omega) = vu at *
    have hTs : s.heap.objs.size ≤ s.heap.objs.size := Nat.le_refl _
    have new : ObjOk X.prog X.w (upd H s.heap.objs.size (.tup [vx, vy, vu])) h' s.heap.objs.size (.tup [vx, vy, vu]) := ⟨by show 3 ≤ sizeLine; decide, [wx, wy, wu], .cons rx (.cons ry (.cons ru .nil)), ⟨_, hTt, rfl, _, rfl⟩⟩
    have I1 : Inv X pins σ (upd H s.heap.objs.size (.tup [vx, vy, vu])) { s with heap := h', toks := tk } :=
      I.turnedNew (ch := [z, TI, TO, i1, i2, i3]) (fun d o hd q => by
        simp only [List.mem_cons, List.not_mem_nil, or_false, not_or] at hd
        exact hk d o hd.1 hd.2.2.1 hd.2.2.2.1 hd.2.2.2.2.1 hd.2.2.2.2.2 q) hf hTs new
    refine ⟨.ref s.heap.objs.size, _, I1, rfl, ⟨s.heap.objs.size, rfl, I.hok.fresh hTs, by rw [zip3V_get hvx hvy hvu]⟩, ⟨by rw [zip3V_len]; omega, ⟨u', f', hu', hz'⟩, hk TI _ S.TIz S.TITO S.TIi1 S.TIi2 S.TIi3 hTI, hTO', m1, m2, m3⟩, fun d hd => ?_⟩
    have hdl : d < s.heap.objs.size := by
      simp only [List.mem_cons, List.not_mem_nil, or_false] at hd
      rcases hd with rfl | rfl | rfl | rfl | rfl | rfl
      · exact Heap.lt_size hz
      · exact Heap.lt_size hTI
      · exact Heap.lt_size hTO
      · obtain ⟨_, e, _⟩ := h1; exact Heap.lt_size e
      · obtain ⟨_, e, _⟩ := h2; exact Heap.lt_size e
      · obtain ⟨_, e, _⟩ := h3; exact Heap.lt_size e
    rw [upd_ne (Nat.ne_of_lt hdl)]
    exact (hf d hd).1
  done := by
    intro X hP hw hK hc i pins s σ H E I hf st hg
    subst hP hw hK
    obtain ⟨hle, ⟨u, f, hu, hz⟩, hTI, ⟨b1, b2, b3, hTO⟩, h1, h2, h3⟩ := st
    obtain ⟨hlt, qa, qb, qc⟩ := hg
    obtain ⟨its1, rv1, p1, _⟩ := I.tuple qa
    obtain ⟨its2, rv2, p2, _⟩ := I.tuple qb
    obtain ⟨its3, rv3, p3, _⟩ := I.tuple qc
    have l1 := rv1.length
    have l2 := rv2.length
    have l3 := rv3.length
    rw [zip3V_len] at hlt hle
    have hT : s.TypeIs (.ref z) "zip" := ⟨_, hz, rfl⟩
    unfold pyNext
    refine wpAny_bind (wpAny_attempt (wpAny_callSpecial?_slot (name := Str.ofString "__next__") hT F.slot_zip_next (wpAny_call_entry F.slot_zip_next hT F.entry_zip_next
      (zn_end S (Draws.tuple (prog := X.prog) (w := X.w) (A := X.A.in1) (I.ok.hd hc) i1 a ha its1.toArray) (Draws.tuple (prog := X.prog) (w := X.w) (A := X.A.in1) (I.ok.hd hc) i2 b hb its2.toArray) (Draws.tuple (prog := X.prog) (w := X.w) (A := X.A.in1) (I.ok.hd hc) i3 c hcn its3.toArray) hz hu hTI hTO ⟨h1, p1⟩ ⟨h2, p2⟩ ⟨h3, p3⟩ (by simp only [List.size_toArray]; omega) (by simp only [List.size_toArray]; omega) (by simp only [List.size_toArray]; omega)
        (by simp only [List.size_toArray]; omega) fun h' tk e hk he => ?_) (F.args_zip_next_1 _))))
    obtain ⟨o, ho, hcls⟩ := he
    refine wpAny_bind (wpAny_isInstance (T := "StopIteration") (b := true) ⟨o, ho, hcls⟩ isSubtype_stop (wpAny_pure ⟨rfl, ?_⟩))
    exact I.turnedL (ch := [z, TI, TO, i1, i2, i3]) (fun d o hd q => by
        simp only [List.mem_cons, List.not_mem_nil, or_false, not_or] at hd
        exact hk d o hd.1 hd.2.2.1 hd.2.2.2.1 hd.2.2.2.2.1 hd.2.2.2.2.2 q) hf
  self := fun A i s Q E st h => by
    obtain ⟨_, ⟨u, f, _, hz⟩, _⟩ := st
    have hT : s.TypeIs (.ref z) "zip" := ⟨_, hz, rfl⟩
    refine wpAny_pyIter_slot hT F.slot_zip_iter (wpAny_call_entry F.slot_zip_iter hT F.entry_zip_iter ?_ (F.args_zip_iter_1 _))
    show wpAny _ _ (ret (.ref z)) _ _ s
    exact wpAny_pure ⟨_, rfl, "zip", _, hT, F.slot_zip_next.lookup, h⟩
end
theorem pi_zip3n {X : Cx} {e e2 e3 : Expr} {ta : TA} {p pos tpos : Pos} {nm : Str} (hg : Gl X "zip") (hm : X.mg "zip" = none) (ha : PA X [e, e2, e3] ta)
    (hs : starEach [e, e2, e3] X.env = (false, eval e X.env) :: starEach [e2, e3] X.env := by rfl) (hpl : (backTo pos (starEach [e2, e3] X.env)).any (·.1) = false := by rfl) :
    PI X (.Name nm tpos) (.Call (.Name "zip" p) [e, e2, e3] [] pos) (iZip3 X.K ta) := by
  refine ⟨fun pins s σ H R I h => ?_⟩
  refine Call_ (ld_blt I hg hm PyProof.Rows.boot_zip (PyProof.Rows.callWith_type1 (thn (ha.run pos pins s σ H _ I h) fun us s1 ⟨vs, H1, I1, r1, q1⟩ => ?_) hs hpl))
  obtain ⟨a, b, c, xs, ys, zs, ex, hqa, hqb, hqc, q⟩ := q1
  subst ex
  cases r1 with
  | cons r rr =>
    cases rr with
    | cons r' rr =>
      cases rr with
      | cons r'' rr =>
        cases rr
        cases r
        cases r'
        cases r''
        obtain ⟨its1, rv1, p1, _⟩ := I1.tuple hqa
        obtain ⟨its2, rv2, p2, _⟩ := I1.tuple hqb
        obtain ⟨its3, rv3, p3, _⟩ := I1.tuple hqc
        have la : a < s1.heap.objs.size := by obtain ⟨o, ho, _⟩ := p1; exact Heap.lt_size ho
        have lb : b < s1.heap.objs.size := by obtain ⟨o, ho, _⟩ := p2; exact Heap.lt_size ho
        have lc : c < s1.heap.objs.size := by obtain ⟨o, ho, _⟩ := p3; exact Heap.lt_size ho
        refine zip_begins3 (begins_tuple a its1.toArray) (begins_tuple b its2.toArray) (begins_tuple c its3.toArray) p1 p2 p3 fun h' hz hTI hTO g1 g2 g3 hsz hk => wpAny_pyIter_zip hz ?_
        have I2 : Inv X pins σ H1 { s1 with heap := h' } := I1.kept (t' := s1.toks) hk
        refine ⟨s1.heap.objs.size + 5, [s1.heap.objs.size + 5, s1.heap.objs.size + 3, s1.heap.objs.size + 4, s1.heap.objs.size, s1.heap.objs.size + 1, s1.heap.objs.size + 2], _, _, H1, rfl, I2,
          turn_zip3n (sep_of la lb lc) (Nat.ne_of_lt la) (Nat.ne_of_lt (Nat.lt_succ_of_lt lb)) (Nat.ne_of_lt (Nat.lt_succ_of_lt (Nat.lt_succ_of_lt lc))),
          ⟨Nat.zero_le _, ⟨_, _, .inl rfl, hz⟩, hTI, ⟨_, _, _, hTO⟩, ⟨_, g1, rfl, rfl⟩, ⟨_, g2, rfl, rfl⟩, ⟨_, g3, rfl, rfl⟩⟩, fun d hd => ?_, q⟩
        have hle : s1.heap.objs.size ≤ d := by
          simp only [List.mem_cons, List.not_mem_nil, or_false] at hd
          rcases hd with h | h | h | h | h | h <;> rw [h] <;> first | exact Nat.le_refl _ | exact Nat.le_add_right _ _
        exact I1.fpOk hle (I1.hok.fresh hle)
section
variable {X : Cx} {W : WX} {pos : Pos} {e e2 e3 : Expr} {f g h : DE}
theorem i_zip3n {nm : Str} {p tpos : Pos} (hm : X.mg "zip" = none) (ha : PE X e (tE X.kw X.mg W f)) (hb : PE X e2 (tE X.kw X.mg W g)) (hc : PE X e3 (tE X.kw X.mg W h)) (hg : Gl X "zip" := by rfl)
    (hs : starEach [e, e2, e3] X.env = (false, eval e X.env) :: starEach [e2, e3] X.env := by rfl) (hs2 : starEach [e2, e3] X.env = (false, eval e2 X.env) :: starEach [e3] X.env := by rfl) (hs3 : starEach [e3] X.env = (false, eval e3 X.env) :: starEach [] X.env := by rfl)
    (hpl : (backTo pos (starEach [e2, e3] X.env)).any (·.1) = false := by rfl) : PI X (.Name nm tpos) (.Call (.Name "zip" p) [e, e2, e3] [] pos) (tI X.kw X.mg W (cZip3 f g h)) :=
  PI.weak (pi_zip3n hg hm (a_cons ha (a_cons hb (a_cons hc a_nil hs3) hs2) hs) hs hpl) fun σ H Q hh => tG1 (k := zip3R) (RA := RL X.kw) hh fun x S μ H v ok rx hh => by
    unfold zip3R at hh
    split at hh
    · cases rx with
      | cons r1 rx =>
        cases rx with
        | cons r2 rx =>
          cases rx with
          | cons r3 rx =>
            cases rx
            cases r1 with
            | tup h1 l1 q1 =>
              cases r2 with
              | tup h2 l2 q2 =>
                cases r3 with
                | tup h3 l3 q3 => exact ⟨_, _, _, _, _, _, rfl, h1, h2, h3, hh μ H _ (Ext.refl _ _) ok (wlk_zip3 h1 h2 h3 q1 q2 q3)⟩
    · exact hh.elim
end
end DL

namespace PySem.W
open PySem PySem.Calls PyProof.Rows
section
variable {prog : Program} {w : World} {A : Around} {E : Value → Shared → Prop} {s : Shared} {β : Type} {vs : List Value} {bs : List β} {enc : β → PyData} {R : Value → β → Prop}
theorem xx_collect {Q : List Value → Shared → Prop} (it : Addr) {o : Obj} {items : Array Value} {n : Nat} (ho : s.heap.get? it = some o) (hc : o.cls = .type "tuple") (hd : o.data = .seq items n)
    (hQ : Q items.toList { s with heap := (s.heap.push { cls := .type "list", data := .seq ([] : List Value).toArray }).update s.heap.objs.size (Obj.mapSeq (· ++ items)) }) (hsz : items.size ≤ sizeLine) :
    wpAny (model prog w) A (collect (.ref it)) Q E s := by
  unfold collect
  refine wpAny_bind (wpAny_runValue (codeAny_builtin F.entry_proto_collect ?_))
  rw [Around.under_plainId F.plain_proto_collect _]
  show wpAny _ A.in1 (newList [] >>= fun l => again (.builtin "list.__iadd__" ⟨[l, .ref it], []⟩)) _ _ s
  refine wpAny_bind (wpAny_newObj_type (wpAny_pure ⟨plainId_quiet F.plain_list_iadd _, codeAny_builtin F.entry_list_iadd ?_⟩))
  rw [Around.under_plainId F.plain_list_iadd _]
  show wpAny _ A.in1 (Builtin.List.listExtendWith (.ref s.heap.objs.size) (.ref it) (.ref s.heap.objs.size)) _ _ _
  have hS : (s.heap.push { cls := .type "list", data := .seq ([] : List Value).toArray }).get? s.heap.objs.size = some { cls := .type "list", data := .seq #[] 0 } := Heap.get?_push_size _ rfl
  have hS2 := Heap.get?_update_self (Obj.mapSeq (· ++ items)) hS rfl
  refine wpAny_extend_seq (A := A) (s := { s with heap := s.heap.push { cls := .type "list", data := .seq ([] : List Value).toArray } })
    (R := fun r s' => match r with
      | .ok (.ret v) => wpAny (model prog w) A (match v with
        | Value.ref a => do
          match (← load a).data with
            | Data.seq xs _ => pure xs.toList
            | _ => unsupported "internal:collect"
        | _ => unsupported "internal:collect") Q E s'
      | .ok _ => False
      | .error e => E e s') _ it _ 0 (.inr rfl) hS (Heap.get?_push_of_some _ ho) hc hd ?_ hsz
  show wpAny _ A (load s.heap.objs.size >>= _) _ _ _
  refine wpAny_bind (wpAny_load hS2 (wpAny_pure ?_))
  have e : ((#[] : Array Value) ++ items).toList = items.toList := by simp
  show Q ((#[] : Array Value) ++ items).toList _
  rw [e]
  exact hQ
theorem xx_sorted_tup {t : Addr} {Q : Value → Shared → Prop} (ht : s.heap.IsTuple t vs.toArray) (e : EachIs R vs bs) (er : EachIs (fun v b => ∃ as, Reads s.heap v (enc b) as) vs bs) (hal : AllAlike (bs.map enc)) (hk : Sortable (bs.map enc)) (hL : bs.length ≤ sizeLine)
    (hu : ∀ b, b ∈ bs → A.units + 2 + (enc b).depth < cLine)
    (h : ∀ (h' : Heap) (a : Addr) (out : List Value) (n : Nat), (∀ b o, s.heap.get? b = some o → h'.get? b = some o) → s.heap.objs.size ≤ a → h'.get? a = some (seqObj "list" out.toArray n) → EachIs R out (bs.mergeSort (dataLe false enc)) → Q (.ref a) { s with heap := h' }) :
    wpAny (model prog w) A (call (.builtin "sorted") [.ref t]) Q E s := by
  obtain ⟨o, ho, hc, n0, hd⟩ := ht
  have hvl : vs.length ≤ sizeLine := by rw [e.length]; exact hL
  refine call_function_entry_kw kind_sorted plain_sorted entry_sorted (args_sorted1 _) ?_
  unfold Builtin.«sorted»
  refine wpAny_bind (m := checkCount "sorted" 1 1 _) (wpAny_pure ?_)
  refine wpAny_bind (xx_collect t ho hc hd ?_ (by simpa using hvl))
  generalize hh1 : (s.heap.push { cls := .type "list", data := .seq ([] : List Value).toArray }).update s.heap.objs.size (Obj.mapSeq (· ++ vs.toArray)) = h1
  have hk1 : ∀ b o, s.heap.get? b = some o → h1.get? b = some o := fun b o hb => by
    rw [← hh1, Heap.get?_update_ne _ _ _ _ (Nat.ne_of_lt (Heap.lt_size hb))]
    exact Heap.get?_push_of_some _ hb
  have hle : s.heap.objs.size ≤ h1.objs.size := by
    rw [← hh1, Heap.size_update, Heap.size_push]
    exact Nat.le_succ _
  refine wpAny_bind (wpAny_newList ?_ (by simpa using hvl))
  have hl : (h1.push (seqObj "list" vs.toArray 0)).get? h1.objs.size = some (seqObj "list" vs.toArray 0) := Heap.get?_push_size _ rfl
  refine wpAny_bind (wpAny_holding (wpAny_call_entry_kw slot_list_sort ⟨_, hl, rfl⟩ entry_list_sort ?body (args_list_sort _)))
  case body =>
    have er' : EachIs (fun v b => ∃ as, Reads (sortingHeap (h1.push (seqObj "list" vs.toArray 0)) h1.objs.size vs) v (enc b) as) vs bs := er.mono fun _ _ ⟨as, r⟩ => ⟨as, PyProof.Rows.Reads.keeps (fun b o hb => sortingHeap_old (Nat.ne_of_lt (Nat.lt_of_lt_of_le (Heap.lt_size hb) hle)) (Heap.get?_push_of_some _ (hk1 b o hb))) r⟩
    show wpAny (model prog w) A.in1.in1 (Builtin.«list.sort» ⟨[.ref h1.objs.size], []⟩) _ _ { s with heap := h1.push (seqObj "list" vs.toArray 0) }
    refine list_sort_vals (s := { s with heap := h1.push (seqObj "list" vs.toArray 0) }) hl (SortsAt.data (s := { s with heap := sortingHeap (h1.push (seqObj "list" vs.toArray 0)) h1.objs.size vs }) (each_map (R := fun v d => ∃ as, Reads (sortingHeap (h1.push (seqObj "list" vs.toArray 0)) h1.objs.size vs) v d as) enc er') hal hk (bound_map hu)) hvl ?_
    refine ⟨_, rfl, wpAny_pure ⟨_, rfl, ?_⟩⟩
    obtain ⟨n, hn⟩ := sortedHeap_at (out := (sortVals (dataKind (sortingHeap (h1.push (seqObj "list" vs.toArray 0)) h1.objs.size vs) (bs.map enc)) false vs vs).toArray) hl
    refine h _ h1.objs.size _ n (fun b ob hb => ?_) hle hn (sortVals_data false e er' hal)
    have hlt := Heap.lt_size hb
    rw [sortedHeap_old (Nat.ne_of_lt (Nat.lt_of_lt_of_le hlt hle)) (by rw [size_push']; exact Nat.lt_succ_of_lt (Nat.lt_of_lt_of_le hlt hle))]
    exact Heap.get?_push_of_some _ (hk1 b ob hb)
end
end PySem.W

/-! DLO: more operations. -/
namespace DL
open PySem PySem.Spec PyProof.Rows L2
section
variable {X : Cx}
/-- sorted of a list or a tuple -/
noncomputable def oSortedX : OA := fun xs S => match xs with
  | [.tup ys] => open Classical in if okSort ys then some (.loc S.length, S ++ [.lst (sortD ys)]) else none
  | _ => oSorted xs S
theorem d_sortedX (hu : X.A.units + 64 < cLine) : CallR X (.builtin "sorted") (rA X.kw oSortedX) := by
  intro pins s σ H xs us Q I r hr
  obtain ⟨μ, S, ds, ok, rd, hp⟩ := hr
  unfold oSortedX at hp
  split at hp
  · rename_i ys
    obtain ⟨v, rfl, rx⟩ := rd.one
    split at hp
    · rename_i hk
      obtain ⟨hf, hd, hal, hso⟩ := hk
      obtain ⟨u, rfl, ru⟩ := vals1 r
      cases rx with
      | @tup p vs zs hs hl rr =>
        cases ru
        obtain ⟨its, rv, pl, _⟩ := I.tuple hs
        obtain ⟨e1, e2⟩ := each_of I rr rv hf
        refine PySem.W.xx_sorted_tup (enc := D.py) (bs := ys) pl e1 e2 (fun d h1 d' h2 => ?_) hso (by rw [rr.length]; exact hl) (fun b hb => ?_) fun h' a out n hk hle ha hout => ?_
        · obtain ⟨x, hx, rfl⟩ := List.mem_map.mp h1
          obtain ⟨y, hy, rfl⟩ := List.mem_map.mp h2
          exact hal x hx y hy
        · rw [D.depth b (fitsL_mem hf hb)]
          have := depL_mem hb
          omega
        · obtain ⟨ws, h1, h2⟩ := of_each hout
          have hfr : H a = none := I.hok.fresh hle
          have hlen : ws.length ≤ sizeLine := by
            rw [← h1.length, List.length_mergeSort, rr.length]
            exact hl
          exact ⟨.ref a, _, I.laid (t' := s.toks) hk hle (show ObjOk X.prog X.w _ _ _ (.lst ws) from ⟨hlen, out, n, h2, ha⟩), rfl, PV.lst hp ok hlen h1 _ hfr⟩
    · exact hp.elim
  · exact d_sorted hu pins s σ H _ us Q I r ⟨μ, S, _, ok, rd, hp⟩
/-- the signs of a text -/
def signsD (z : Str) : List D := z.cps.toList.map fun c => .str ⟨#[c]⟩
def oListX : OA := fun xs S => match xs with
  | [.str z] => if z.cps.size ≤ sizeLine then some (.loc S.length, S ++ [.lst (signsD z)]) else none
  | _ => oList xs S
theorem d_listX (hc : X.calm = true) : CallR X (.type "list") (rA X.kw oListX) := by
  intro pins s σ H xs us Q I r hr
  obtain ⟨μ, S, ds, ok, rd, hp⟩ := hr
  unfold oListX at hp
  split at hp
  · rename_i z
    obtain ⟨v, rfl, rx⟩ := rd.one
    obtain ⟨u, rfl, ru⟩ := vals1 r
    cases rx
    obtain ⟨t, rfl⟩ := ru
    split at hp
    · rename_i hz
      refine call_list_str (I.ok.hd hc) z t (fun h' tk acc' c' hk ha hit => ?_) hz
      have hfr : H s.heap.objs.size = none := I.hok.fresh (Nat.le_refl _)
      have key : ∀ (l : List Value) (m : List Nat), l.length = m.length → (∀ (j : Nat) v, l[j]? = some v → ∃ c t, m[j]? = some c ∧ v = Value.str ⟨#[c]⟩ t) → Vals (m.map fun c => V.str ⟨#[c]⟩) l := by
        intro l
        induction l with
        | nil =>
          intro m hl _
          cases m with
          | nil => exact .nil
          | cons _ _ => cases hl
        | cons a l ih =>
          intro m hl hh
          cases m with
          | nil => cases hl
          | cons c m =>
            obtain ⟨c', t', e1, e2⟩ := hh 0 a rfl
            cases e1
            exact .cons ⟨t', e2⟩ (ih m (by simpa using hl) fun j v hv => by simpa using hh (j + 1) v (by simpa using hv))
      have hv : Vals (z.cps.toList.map fun c => V.str ⟨#[c]⟩) acc'.toList := key _ _ (by simpa using hit.1) fun j v hv => by
        obtain ⟨c, t, h1, h2⟩ := hit.2 j v (by simpa using hv)
        exact ⟨c, t, by simpa using h1, h2⟩
      have rl : ∀ (μ : List Addr) (H : Hp) (m : List Nat), RL X.kw μ H (m.map fun c => D.str ⟨#[c]⟩) (m.map fun c => V.str ⟨#[c]⟩) := fun μ H m => by
        induction m with
        | nil => exact .nil
        | cons c m ih => exact .cons (.str _) ih
      have hlen : (z.cps.toList.map fun c => V.str ⟨#[c]⟩).length ≤ sizeLine := by simpa using hz
      exact ⟨.ref s.heap.objs.size, _, I.laid (t' := tk) hk (Nat.le_refl _) (show ObjOk X.prog X.w _ _ _ (.lst (z.cps.toList.map fun c => V.str ⟨#[c]⟩)) from ⟨hlen, acc'.toList, c', hv, by simpa using ha⟩), rfl, PV.lst hp ok hlen (rl _ _ _) _ hfr⟩
    · exact hp.elim
  · exact d_list pins s σ H _ us Q I r ⟨μ, S, _, ok, rd, hp⟩
end
end DL

namespace DL
open PySem PySem.Spec PyProof.Rows L2
/-! ### what has to hold ahead, of mirrors: the continuation stands where simp does not look -/
def Tg {α : Sort _} (_ : α) : Type := Unit
abbrev tg {α : Sort _} {a : α} : Tg a := ()
abbrev XQ := Exn → Store → Prop
def X0 : XQ := fun _ _ => False
def W {α : Type} (q : XQ × (α → Store → Prop)) (_ : Tg q) (r : Res α) : Prop := match r with
  | .ok a S => q.2 a S
  | .ex e S => q.1 e S
  | .no => False
/-- an operation's answer -/
def WO (q : D → Store → Prop) (_ : Tg q) (r : Option (D × Store)) : Prop := match r with
  | some (d, S) => q d S
  | none => False
/-- something that has to be there -/
def WM {α : Type} (q : α → Prop) (_ : Tg q) (r : Option α) : Prop := match r with
  | some d => q d
  | none => False
structure BQ where
  t : Store → Prop
  f : Store → Prop
  x : XQ
/-- a test -/
def WB (q : BQ) (_ : Tg q) (r : Res Bool) : Prop := match r with
  | .ok true S => q.t S
  | .ok false S => q.f S
  | .ex e S => q.x e S
  | .no => False
structure SQ where
  nx : Sg → Store → Prop
  rt : D → Store → Prop
  bk : Sg → Store → Prop
  ct : Sg → Store → Prop
  ex : Exn → Sg → Store → Prop
def WS (q : SQ) (_ : Tg q) (r : SR) : Prop := match r with
  | .nx σ S => q.nx σ S
  | .rt d S => q.rt d S
  | .bk σ S => q.bk σ S
  | .ct σ S => q.ct σ S
  | .ex e σ S => q.ex e σ S
  | .no => False
def qd (q : XQ × (D → Store → Prop)) : SQ := ⟨fun _ S => q.2 .non S, q.2, fun _ _ => False, fun _ _ => False, fun e _ S => q.1 e S⟩
def qn (q : SQ) (k : Sg → Store → Prop) : SQ := ⟨k, q.rt, q.bk, q.ct, q.ex⟩
def qk (q : SQ) (k : Sg → Store → Prop) : SQ := ⟨k, fun _ _ => False, fun _ _ => False, fun _ _ => False, q.ex⟩
/-- one turn -/
def lq (q : SQ) (k : Sg → Store → Prop) : SQ := ⟨k, q.rt, q.nx, k, q.ex⟩
/-- the items of what is walked -/
def WI (q : XQ × (Gd → List D → Store → Prop)) (_ : Tg q) (r : Res (Gd × List D)) : Prop := match r with
  | .ok a S => q.2 a.1 a.2 S
  | .ex e S => q.1 e S
  | .no => False
theorem W_eq {α : Type} {r : Res α} {a : α} {S : Store} (h : W (X0, fun b S' => b = a ∧ S' = S) tg r) : r = .ok a S := by
  cases r with
  | ok b S' => obtain ⟨rfl, rfl⟩ := h; rfl
  | ex e S' => exact h.elim
  | no => exact h.elim
theorem W_ex {α : Type} {r : Res α} {Q : α → Store → Prop} (h : W (X0, Q) tg r) : ∃ a S, r = .ok a S ∧ Q a S := by
  cases r with
  | ok b S' => exact ⟨b, S', rfl, h⟩
  | ex e S' => exact h.elim
  | no => exact h.elim
theorem W_mono {α : Type} {q q' : XQ × (α → Store → Prop)} {t : Tg q} {t' : Tg q'} {r : Res α} (h : W q t r) (hq : ∀ a S, q.2 a S → q'.2 a S) (hx : ∀ e S, q.1 e S → q'.1 e S) : W q' t' r := by
  cases r with
  | ok b S' => exact hq _ _ h
  | ex e S' => exact hx _ _ h
  | no => exact h.elim
theorem WS_mono {q q' : SQ} {t : Tg q} {t' : Tg q'} {r : SR} (h : WS q t r) (h1 : ∀ σ S, q.nx σ S → q'.nx σ S) (h2 : ∀ σ S, q.rt σ S → q'.rt σ S) (h3 : ∀ σ S, q.bk σ S → q'.bk σ S) (h4 : ∀ σ S, q.ct σ S → q'.ct σ S) (h5 : ∀ e σ S, q.ex e σ S → q'.ex e σ S) : WS q' t' r := by
  cases r with
  | nx σ S => exact h1 _ _ h
  | rt σ S => exact h2 _ _ h
  | bk σ S => exact h3 _ _ h
  | ct σ S => exact h4 _ _ h
  | ex e σ S => exact h5 _ _ _ h
  | no => exact h.elim
section
variable {α : Type} {x : XQ} {Q : D → Store → Prop} {QA : List D → Store → Prop} {σ : Sg} {S : Store} {f g h : DE} {t u : DT} {fa : DA} {fs gs : DS} {k : O2} {q : SQ} {b : BQ} {d : D} {i : Nat}
theorem W_ok {Q : α → Store → Prop} {a : α} {tt} : W (x, Q) tt (.ok a S) = Q a S := (rfl)
theorem W_exn {Q : α → Store → Prop} {e : Exn} {tt} : W (x, Q) tt (.ex e S) = x e S := (rfl)
theorem W_var0 {r : Sg} {tt} : W (x, Q) tt (cVar 0 (some d :: r) S) = Q d S := (rfl)
theorem W_varS {o : Option D} {r : Sg} {tt} : W (x, Q) tt (cVar (i + 1) (o :: r) S) = W (x, Q) tg (cVar i r S) := (rfl)
theorem W_K {tt} : W (x, Q) tt (cK d σ S) = Q d S := (rfl)
theorem W_bin {tt} : W (x, Q) tt (cBin k f g σ S) = W (x, fun a S1 => W (x, fun c S2 => WO Q tg (k a c S2)) tg (g σ S1)) tg (f σ S) := by
  unfold cBin
  cases f σ S with
  | ok a S1 =>
    simp only [Res.bind_ok, W]
    cases g σ S1 with
    | ok c S2 =>
      simp only [Res.bind_ok]
      cases k a c S2 <;> rfl
    | _ => rfl
  | _ => rfl
theorem W_un {k : O1} {tt} : W (x, Q) tt (cUn k f σ S) = W (x, fun a S1 => WO Q tg (k a S1)) tg (f σ S) := by
  unfold cUn
  cases f σ S with
  | ok a S1 =>
    simp only [Res.bind_ok, W]
    cases k a S1 <;> rfl
  | _ => rfl
theorem W_aNil {tt} : W (x, QA) tt (aNil σ S) = QA [] S := (rfl)
theorem W_aCons {tt} : W (x, QA) tt (aCons f fa σ S) = W (x, fun a S1 => W (x, fun c S2 => QA (a :: c) S2) tg (fa σ S1)) tg (f σ S) := by
  unfold aCons
  cases f σ S with
  | ok a S1 =>
    simp only [Res.bind_ok, W]
    cases fa σ S1 <;> rfl
  | _ => rfl
theorem W_arg {k : OA} {tt} : W (x, Q) tt (cArg k fa σ S) = W (x, fun a S1 => WO Q tg (k a S1)) tg (fa σ S) := by
  unfold cArg
  cases fa σ S with
  | ok a S1 =>
    simp only [Res.bind_ok, W]
    cases k a S1 <;> rfl
  | _ => rfl
theorem W_call {F : FD} {tt} : W (x, Q) tt (cCall F fa σ S) = W (x, fun a S1 => W (x, Q) tg (F a S1)) tg (fa σ S) := by
  unfold cCall
  cases fa σ S with
  | ok a S1 =>
    simp only [Res.bind_ok, W]
  | _ => rfl
theorem W_of {r : Option (D × Store)} {tt} : W (x, Q) tt (Res.of r) = WO Q tg r := by
  cases r <;> rfl
def tcase (q : BQ) (x : D) (S : Store) : Prop := match x with
  | .bl c => (c = true → q.t S) ∧ (c = false → q.f S)
  | _ => False
theorem WB_test {tt} : WB b tt (cTest f σ S) = W (b.x, fun a S1 => tcase b a S1) tg (f σ S) := by
  unfold cTest
  cases f σ S with
  | ok a S1 =>
    simp only [Res.bind_ok, W]
    cases a with
    | bl c => cases c <;> simp [WB, tcase]
    | _ => rfl
  | _ => rfl
theorem tc_bl {c : Bool} : tcase b (.bl c) S = ((c = true → b.t S) ∧ (c = false → b.f S)) := (rfl)
def trcase (q : BQ) (S : Store) (c : Bool) : Prop := (c = true → q.t S) ∧ (c = false → q.f S)
theorem WB_tru {tt} : WB b tt (cTru f σ S) = W (b.x, fun a S1 => WM (trcase b S1) tg (dTru a S1)) tg (f σ S) := by
  unfold cTru
  cases f σ S with
  | ok a S1 =>
    simp only [Res.bind_ok, W]
    cases dTru a S1 with
    | some c => cases c <;> simp [WB, trcase, WM, Res.of]
    | none => rfl
  | _ => rfl
theorem trc {c : Bool} : trcase b S c = ((c = true → b.t S) ∧ (c = false → b.f S)) := (rfl)
theorem WB_and {tt} : WB b tt (cAnd t u σ S) = WB ⟨fun S1 => WB b tg (u σ S1), b.f, b.x⟩ tg (t σ S) := by
  unfold cAnd
  cases t σ S with
  | ok a S1 => cases a <;> rfl
  | _ => rfl
theorem WB_or {tt} : WB b tt (cOr t u σ S) = WB ⟨b.t, fun S1 => WB b tg (u σ S1), b.x⟩ tg (t σ S) := by
  unfold cOr
  cases t σ S with
  | ok a S1 => cases a <;> rfl
  | _ => rfl
theorem WB_not {tt} : WB b tt (cNot t σ S) = WB ⟨b.f, b.t, b.x⟩ tg (t σ S) := by
  unfold cNot
  cases t σ S with
  | ok a S1 => cases a <;> rfl
  | _ => rfl
theorem W_if {tt} : W (x, Q) tt (cIf t f g σ S) = WB ⟨fun S1 => W (x, Q) tg (f σ S1), fun S1 => W (x, Q) tg (g σ S1), x⟩ tg (t σ S) := by
  unfold cIf
  cases t σ S with
  | ok a S1 => cases a <;> rfl
  | _ => rfl
theorem W_andV {tt} : W (x, Q) tt (cAndV f g σ S) = W (x, fun a S1 => WM (fun c : Bool => (c = true → W (x, Q) tg (g σ S1)) ∧ (c = false → Q a S1)) tg (dTru a S1)) tg (f σ S) := by
  unfold cAndV
  cases f σ S with
  | ok a S1 =>
    simp only [Res.bind_ok, W]
    cases dTru a S1 with
    | some c => cases c <;> simp [WM, W]
    | none => rfl
  | _ => rfl
theorem W_orV {tt} : W (x, Q) tt (cOrV f g σ S) = W (x, fun a S1 => WM (fun c : Bool => (c = true → Q a S1) ∧ (c = false → W (x, Q) tg (g σ S1))) tg (dTru a S1)) tg (f σ S) := by
  unfold cOrV
  cases f σ S with
  | ok a S1 =>
    simp only [Res.bind_ok, W]
    cases dTru a S1 with
    | some c => cases c <;> simp [WM, W]
    | none => rfl
  | _ => rfl
theorem W_notV {tt} : W (x, Q) tt (cNotV f σ S) = W (x, fun a S1 => WM (fun c : Bool => Q (.bl (!c)) S1) tg (dTru a S1)) tg (f σ S) := by
  unfold cNotV
  cases f σ S with
  | ok a S1 =>
    simp only [Res.bind_ok, W]
    cases dTru a S1 <;> rfl
  | _ => rfl
theorem WM_some {a : α} {Q : α → Prop} {tt} : WM Q tt (some a) = Q a := (rfl)
theorem WM_none {Q : α → Prop} {tt} : WM Q tt none = False := (rfl)
theorem WO_some {tt} : WO Q tt (some (d, S)) = Q d S := (rfl)
theorem tr_bl {c : Bool} : dTru (.bl c) S = some c := (rfl)
theorem tr_non : dTru .non S = some false := (rfl)
theorem tr_int {i : Int} : dTru (.int i) S = some (i != 0) := (rfl)
theorem tr_tup {xs : List D} : dTru (.tup xs) S = some (!xs.isEmpty) := (rfl)
theorem tr_rol {xs : List D} : dTru (.rol xs) S = some (!xs.isEmpty) := (rfl)
/-! statements -/
theorem WS_nx {tt} : WS q tt (.nx σ S) = q.nx σ S := (rfl)
theorem WS_rt {tt} : WS q tt (.rt d S) = q.rt d S := (rfl)
theorem WS_ct {tt} : WS q tt (.ct σ S) = q.ct σ S := (rfl)
theorem WS_bk {tt} : WS q tt (.bk σ S) = q.bk σ S := (rfl)
theorem WS_exn {e : Exn} {tt} : WS q tt (.ex e σ S) = q.ex e σ S := (rfl)
theorem WS_seq {tt} : WS q tt (sSeq fs gs σ S) = WS (qn q fun σ S => WS q tg (gs σ S)) tg (fs σ S) := by
  unfold sSeq
  cases fs σ S <;> rfl
theorem WS_nil {tt} : WS q tt (sNil σ S) = q.nx σ S := (rfl)
theorem WS_retN {tt} : WS q tt (sRetN σ S) = q.rt .non S := (rfl)
theorem WS_break {tt} : WS q tt (sBreak σ S) = q.bk σ S := (rfl)
theorem WS_cont {tt} : WS q tt (sCont σ S) = q.ct σ S := (rfl)
theorem WS_ofE {r : Res D} {k : D → Store → SR} {tt} : WS q tt (SR.ofE σ r k) = W (fun e S => q.ex e σ S, fun d S1 => WS q tg (k d S1)) tg r := by
  cases r <;> rfl
theorem WS_expr {tt} : WS q tt (sExpr f σ S) = W (fun e S => q.ex e σ S, fun _ S1 => q.nx σ S1) tg (f σ S) := by
  unfold sExpr
  cases f σ S <;> rfl
theorem WS_ret {tt} : WS q tt (sRet f σ S) = W (fun e S => q.ex e σ S, q.rt) tg (f σ S) := by
  unfold sRet
  cases f σ S <;> rfl
theorem WS_if {tt} : WS q tt (sIf t fs gs σ S) = WB ⟨fun S1 => WS q tg (fs σ S1), fun S1 => WS q tg (gs σ S1), fun e S => q.ex e σ S⟩ tg (t σ S) := by
  unfold sIf
  cases t σ S with
  | ok a S1 => cases a <;> rfl
  | _ => rfl
theorem WS_set {tt} : WS q tt (sSet i f σ S) = W (fun e S => q.ex e σ S, fun d S1 => q.nx (σ.set i (some d)) S1) tg (f σ S) := by
  unfold sSet
  cases f σ S <;> rfl
theorem WS_par {j : Nat} {tt} : WS q tt (sPar i j f g σ S) = W (fun e S => q.ex e σ S, fun d S1 => W (fun e S => q.ex e σ S, fun d' S2 => q.nx ((σ.set i (some d)).set j (some d')) S2) tg (g σ S1)) tg (f σ S) := by
  unfold sPar
  cases f σ S with
  | ok a S1 =>
    simp only [SR.ofE, W]
    cases g σ S1 <;> rfl
  | _ => rfl
theorem WS_asg {g : DG} {tt} : WS q tt (sAsg f g σ S) = W (fun e S => q.ex e σ S, fun d S1 => WS (qk q q.nx) tg (g d σ S1)) tg (f σ S) := by
  unfold sAsg
  cases f σ S with
  | ok a S1 =>
    simp only [SR.ofE, W]
    cases g a σ S1 <;> rfl
  | _ => rfl
theorem WS_gSet {tt} : WS q tt (gSet i d σ S) = q.nx (σ.set i (some d)) S := (rfl)
theorem WS_gN {tt} : WS q tt (gN [] σ S) = q.nx σ S := (rfl)
theorem WS_gC {g : DG} {gs : DGs} {r : List D} {tt} : WS q tt (gC g gs (d :: r) σ S) = WS (qk q fun σ S => WS q tg (gs r σ S)) tg (g d σ S) := by
  show WS q tt (match g d σ S with | .nx σ' S' => gs r σ' S' | .ex e σ' S' => .ex e σ' S' | _ => .no) = _
  cases g d σ S <;> rfl
theorem WS_gUn {n : Nat} {gs : DGs} {tt} : WS q tt (gUn n gs d σ S) = WM (fun xs => xs.length = n ∧ WS q tg (gs xs σ S)) tg (itemsOf S d) := by
  unfold gUn
  cases itemsOf S d with
  | none => rfl
  | some xs =>
    simp only [WM]
    by_cases hl : xs.length = n <;> simp [hl, WS]
theorem WS_gSub {fo fi : DE} {tt} : WS q tt (gSubD fo fi d σ S) = W (fun e S => q.ex e σ S, fun o S1 => W (fun e S => q.ex e σ S, fun i S2 => WM (fun S3 => q.nx σ S3) tg (oSet o i d S2)) tg (fi σ S1)) tg (fo σ S) := by
  unfold gSubD
  cases fo σ S with
  | ok o S1 =>
    simp only [SR.ofE, W]
    cases fi σ S1 with
    | ok i S2 =>
      simp only
      cases oSet o i d S2 <;> rfl
    | _ => rfl
  | _ => rfl
theorem WS_aug {k : O2} {tt} : WS q tt (sAug i k f σ S) = W (fun e S => q.ex e σ S, fun d S0 => W (fun e S => q.ex e σ S, fun y S1 => WO (fun z S2 => q.nx (σ.set i (some z)) S2) tg (k d y S1)) tg (f σ S)) tg (cVar i σ S) := by
  unfold sAug cVar
  cases σ[i]? with
  | none => rfl
  | some o =>
    cases o with
    | none => rfl
    | some d =>
      simp only [W]
      cases f σ S with
      | ok y S1 =>
        simp only [SR.ofE]
        cases k d y S1 <;> rfl
      | _ => rfl
theorem WS_qdn {Q : D → Store → Prop} {S : Store} : (qd (x, Q)).nx σ S = Q .non S := (rfl)
theorem WS_qdr {Q : D → Store → Prop} {S : Store} : (qd (x, Q)).rt d S = Q d S := (rfl)
theorem WS_qde {Q : D → Store → Prop} {S : Store} {e : Exn} : (qd (x, Q)).ex e σ S = x e S := (rfl)
theorem WS_qdb {S : Store} : (qd (x, Q)).bk σ S = False := (rfl)
theorem WS_qdc {S : Store} : (qd (x, Q)).ct σ S = False := (rfl)
variable {κ : Sg → Store → Prop}
theorem qn1 : (qn q κ).nx σ S = κ σ S := (rfl)
theorem qn2 : (qn q κ).rt = q.rt := (rfl)
theorem qn3 : (qn q κ).bk = q.bk := (rfl)
theorem qn4 : (qn q κ).ct = q.ct := (rfl)
theorem qn5 : (qn q κ).ex = q.ex := (rfl)
theorem qk1 : (qk q κ).nx σ S = κ σ S := (rfl)
theorem qk5 : (qk q κ).ex = q.ex := (rfl)
theorem lq1 : (lq q κ).nx σ S = κ σ S := (rfl)
theorem lq2 : (lq q κ).rt = q.rt := (rfl)
theorem lq3 : (lq q κ).bk = q.nx := (rfl)
theorem lq4 : (lq q κ).ct σ S = κ σ S := (rfl)
theorem lq5 : (lq q κ).ex = q.ex := (rfl)
end
end DL
namespace DL
open PySem PySem.Spec PyProof.Rows L2
theorem W_def {n : Nat} {fs : DS} {ds : List D} {S : Store} {x : XQ} {Q : D → Store → Prop} {tt : Tg (x, Q)} : W (x, Q) tt (cDef n fs ds S) = WS (qd (x, Q)) tg (fs (ds.map some ++ List.replicate (n - ds.length) none) S) := by
  unfold cDef
  cases fs (ds.map some ++ List.replicate (n - ds.length) none) S <;> rfl
end DL

namespace DL
open PySem PySem.Spec PyProof.Rows L2
/-! ### operations on values -/
section
variable {Q : D → Store → Prop} {S : Store} {i j : Int} {a b : Str} {xs ys : List D} {l m : Nat} {d e : D} {tt : Tg Q}
theorem o_add : WO Q tt (oAdd (.int i) (.int j) S) = Q (.int (i + j)) S := (rfl)
theorem o_iadd : WO Q tt (oIAdd (.int i) (.int j) S) = Q (.int (i + j)) S := (rfl)
theorem o_sub : WO Q tt (oSub (.int i) (.int j) S) = Q (.int (i - j)) S := (rfl)
theorem o_neg : WO Q tt (oNeg (.int i) S) = Q (.int (-i)) S := (rfl)
theorem WO_if {p : Prop} [Decidable p] {r : D × Store} : WO Q tt (if p then some r else none) = (p ∧ Q r.1 r.2) := by
  by_cases h : p <;> simp [h, WO]
theorem o_mul : WO Q tt (oMul (.int i) (.int j) S) = (MulOk i j ∧ Q (.int (i * j)) S) := WO_if
theorem o_mod : WO Q tt (oMod (.int i) (.int j) S) = (0 < j ∧ Q (.int (i % j)) S) := WO_if
theorem o_div : WO Q tt (oDiv (.int i) (.int j) S) = (DivOk j ∧ Q (.int (i / j)) S) := WO_if
theorem o_pow : WO Q tt (oPow (.int i) (.int j) S) = (PowOk i j ∧ Q (.int (i ^ j.toNat)) S) := WO_if
theorem o_addT : WO Q tt (oAdd (.tup xs) (.tup ys) S) = (xs.length + ys.length ≤ sizeLine ∧ Q (.tup (xs ++ ys)) S) := WO_if
theorem o_addS : WO Q tt (oAdd (.str a) (.str b) S) = (a.length + b.length ≤ sizeLine ∧ Q (.str (a ++ b)) S) := WO_if
def lstAt (S : Store) (l : Nat) : Option (List D) := match S[l]? with
  | some (.lst xs) => some xs
  | _ => none
theorem lstAt_iff : lstAt S l = some xs ↔ S[l]? = some (.lst xs) := by
  unfold lstAt
  cases q : S[l]? with
  | none => simp
  | some c => cases c <;> simp
theorem o_addL : WO Q tt (oAdd (.loc l) (.loc m) S) = WM (fun xs => WM (fun ys => xs.length + ys.length ≤ sizeLine ∧ Q (.loc S.length) (S ++ [.lst (xs ++ ys)])) tg (lstAt S m)) tg (lstAt S l) := by
  show WO Q tt (match S[l]?, S[m]? with | some (.lst xs), some (.lst ys) => catL S xs ys | _, _ => none) = _
  unfold lstAt
  cases S[l]? with
  | none => rfl
  | some c =>
    cases c with
    | dct _ => rfl
    | lst xs =>
      cases S[m]? with
      | none => rfl
      | some c =>
        cases c with
        | dct _ => rfl
        | lst ys => exact WO_if
theorem o_lt : WO Q tt (oLt (.int i) (.int j) S) = Q (.bl (decide (i < j))) S := (rfl)
theorem o_le : WO Q tt (oLe (.int i) (.int j) S) = Q (.bl (decide (i ≤ j))) S := (rfl)
theorem o_gt : WO Q tt (oGt (.int i) (.int j) S) = Q (.bl (decide (j < i))) S := (rfl)
theorem o_ge : WO Q tt (oGe (.int i) (.int j) S) = Q (.bl (decide (j ≤ i))) S := (rfl)
theorem o_eq : WO Q tt (oEq (.int i) (.int j) S) = Q (.bl (decide (i = j))) S := (rfl)
theorem o_ne : WO Q tt (oNe (.int i) (.int j) S) = Q (.bl (!decide (i = j))) S := (rfl)
theorem o_eqS : WO Q tt (oEq (.str a) (.str b) S) = Q (.bl (decide (a = b))) S := (rfl)
theorem o_neS : WO Q tt (oNe (.str a) (.str b) S) = Q (.bl (!decide (a = b))) S := (rfl)
theorem o_eqT : WO Q tt (oEq (.tup xs) d S) = (okEq (.tup xs) d ∧ Q (.bl (D.eqv (.tup xs) d)) S) := WO_if
theorem o_neT : WO Q tt (oNe (.tup xs) d S) = (okEq (.tup xs) d ∧ Q (.bl (!D.eqv (.tup xs) d)) S) := WO_if
theorem o_eqN : WO Q tt (oEq .non d S) = (okEq .non d ∧ Q (.bl (D.eqv .non d)) S) := WO_if
theorem o_neN : WO Q tt (oNe .non d S) = (okEq .non d ∧ Q (.bl (!D.eqv .non d)) S) := WO_if
theorem o_ltT : WO Q tt (oLt (.tup xs) (.tup ys) S) = (okCmp xs ys ∧ Q (.bl (D.ltL xs ys)) S) := WO_if
theorem o_leT : WO Q tt (oLe (.tup xs) (.tup ys) S) = (okCmp xs ys ∧ Q (.bl (D.leL xs ys)) S) := WO_if
def isNon : D → Bool
  | .non => true
  | _ => false
theorem o_is : WO Q tt (oIs d .non S) = Q (.bl (isNon d)) S := by cases d <;> rfl
theorem o_isnot : WO Q tt (oIsNot d .non S) = Q (.bl (!isNon d)) S := by cases d <;> rfl
theorem o_isB {b : Bool} : WO Q tt (oIs d (.bl b) S) = Q (.bl (isBl b d)) S := (rfl)
theorem o_isnotB {b : Bool} : WO Q tt (oIsNot d (.bl b) S) = Q (.bl (!isBl b d)) S := (rfl)
theorem o_inT : WO Q tt (oIn d (.tup xs) S) = (okIn d xs ∧ Q (.bl (inL d xs)) S) := WO_if
theorem o_ninT : WO Q tt (oNotIn d (.tup xs) S) = (okIn d xs ∧ Q (.bl (!inL d xs)) S) := WO_if
theorem items_tup : itemsOf S (.tup xs) = some xs := (rfl)
theorem items_rol : itemsOf S (.rol xs) = some xs := (rfl)
theorem items_loc : itemsOf S (.loc l) = lstAt S l := (rfl)
theorem o_inL : WO Q tt (oIn d (.loc l) S) = WM (fun xs => okIn d xs ∧ Q (.bl (inL d xs)) S) tg (lstAt S l) := by
  unfold oIn
  rw [items_loc]
  cases q : lstAt S l with
  | none =>
    cases d <;> rfl
  | some xs => exact WO_if
theorem o_ninL : WO Q tt (oNotIn d (.loc l) S) = WM (fun xs => okIn d xs ∧ Q (.bl (!inL d xs)) S) tg (lstAt S l) := by
  unfold oNotIn
  rw [items_loc]
  cases q : lstAt S l with
  | none =>
    cases d <;> rfl
  | some xs => exact WO_if
theorem o_ixT : WO Q tt (oIx (.tup xs) (.int i) S) = WM (fun d => Q d S) tg (atI xs i) := by
  show WO Q tt (match atI xs i with | some d => some (d, S) | none => none) = _
  cases atI xs i <;> rfl
theorem o_ixR : WO Q tt (oIx (.rol xs) (.int i) S) = WM (fun d => Q d S) tg (atI xs i) := by
  show WO Q tt (match atI xs i with | some d => some (d, S) | none => none) = _
  cases atI xs i <;> rfl
theorem o_ixL : WO Q tt (oIx (.loc l) (.int i) S) = WM (fun xs => WM (fun d => Q d S) tg (atI xs i)) tg (lstAt S l) := by
  show WO Q tt (match lstAt S l with | some xs => (match atI xs i with | some d => some (d, S) | none => none) | none => none) = _
  cases lstAt S l with
  | none => rfl
  | some xs =>
    simp only [WM]
    cases atI xs i <;> rfl
theorem o_set {q : Store → Prop} {tt : Tg q} : WM q tt (oSet (.loc l) (.int i) d S) = WM (fun xs => WM (fun j => q (S.set l (.lst (xs.set j d)))) tg (ixN xs.length i)) tg (lstAt S l) := by
  show WM q tt (match S[l]? with | some (.lst ys) => (match ixN ys.length i with | some j => some (S.set l (.lst (ys.set j d))) | none => none) | _ => none) = _
  unfold lstAt
  cases S[l]? with
  | none => rfl
  | some c =>
    cases c with
    | dct _ => rfl
    | lst xs =>
      simp only [WM]
      cases ixN xs.length i <;> rfl
theorem o_lenT : WO Q tt (oLen [.tup xs] S) = Q (.int xs.length) S := (rfl)
theorem o_lenR : WO Q tt (oLen [.rol xs] S) = Q (.int xs.length) S := (rfl)
theorem o_lenL : WO Q tt (oLen [.loc l] S) = WM (fun xs => Q (.int xs.length) S) tg (lstAt S l) := by
  show WO Q tt (match lstAt S l with | some ys => some (.int ys.length, S) | none => none) = _
  cases lstAt S l <;> rfl
theorem o_lenS : WO Q tt (oLen [.str a] S) = (a.length ≤ sizeLine ∧ Q (.int a.length) S) := WO_if
theorem o_int : WO Q tt (oInt [.int i] S) = Q (.int i) S := (rfl)
theorem o_abs : WO Q tt (oAbs [.int i] S) = Q (.int (if i < 0 then -i else i)) S := (rfl)
theorem o_max : WO Q tt (oMax [.int i, .int j] S) = Q (.int (max i j)) S := by
  show Q (.int (if j > i then j else i)) S = _
  congr 2
  split <;> omega
theorem o_min : WO Q tt (oMin [.int i, .int j] S) = Q (.int (min i j)) S := by
  show Q (.int (if j < i then j else i)) S = _
  congr 2
  split <;> omega
theorem o_tuple : WO Q tt (oTuple [d] S) = WM (fun xs => Q (.tup xs) S) tg (itemsOf S d) := by
  show WO Q tt (match itemsOf S d with | some ys => some (.tup ys, S) | none => none) = _
  cases itemsOf S d <;> rfl
theorem o_list : WO Q tt (oList [d] S) = WM (fun xs => Q (.loc S.length) (S ++ [.lst xs])) tg (itemsOf S d) := by
  show WO Q tt (match itemsOf S d with | some ys => some (.loc S.length, S ++ [.lst ys]) | none => none) = _
  cases itemsOf S d <;> rfl
theorem o_tup : WO Q tt (oTup xs S) = (xs.length ≤ sizeLine ∧ Q (.tup xs) S) := WO_if
theorem o_lst : WO Q tt (oLst xs S) = (xs.length ≤ sizeLine ∧ Q (.loc S.length) (S ++ [.lst xs])) := WO_if
theorem o_sorted : WO Q tt (oSorted [.loc l] S) = WM (fun xs => okSort xs ∧ Q (.loc S.length) (S ++ [.lst (sortD xs)])) tg (lstAt S l) := by
  classical
  unfold oSorted
  show WO Q tt (match lstAt S l with | some ys => if okSort ys then some (D.loc S.length, S ++ [.lst (sortD ys)]) else none | none => none) = _
  cases lstAt S l with
  | none => rfl
  | some xs =>
    by_cases h : okSort xs <;> simp [h, WO, WM]
theorem o_sum : WO Q tt (oSum [d] S) = WM (fun ns => Q (.int (List.sum ns)) S) tg ((listOf S d).bind intsOf) := by
  show WO Q tt (match (listOf S d).bind intsOf with | some ns => some (.int ns.sum, S) | none => none) = _
  cases (listOf S d).bind intsOf <;> rfl
theorem o_rev : WO Q tt (oRev (.loc l) S) = WM (fun xs => Q (.loc S.length) (S ++ [.lst xs.reverse])) tg (lstAt S l) := by
  show WO Q tt (match lstAt S l with | some xs => some (.loc S.length, S ++ [.lst xs.reverse]) | none => none) = _
  cases lstAt S l <;> rfl
theorem listOf_loc : listOf S (.loc l) = lstAt S l := (rfl)
theorem listOf_rol : listOf S (.rol xs) = some xs := (rfl)
/-! methods of lists -/
variable {x : XQ} {σ : Sg} {f g h : DE} {fa : DA}
theorem W_meth {isT : D → Store → Bool} {k : OM} {tt} : W (x, Q) tt (cMeth isT k f fa σ S) = W (x, fun o S1 => isT o S1 = true ∧ W (x, fun xs S2 => WO Q tg (k o xs S2)) tg (fa σ S1)) tg (f σ S) := by
  unfold cMeth
  cases f σ S with
  | ok o S1 =>
    simp only [Res.bind_ok, W]
    by_cases hi : isT o S1 = true
    · simp only [hi, if_true, true_and]
      cases fa σ S1 with
      | ok xs S2 =>
        simp only [Res.bind_ok]
        cases k o xs S2 <;> rfl
      | _ => rfl
    · simp [hi]
  | _ => rfl
theorem noDct_loc : noDct (.loc l) S = (lstAt S l).isSome := by
  show (match S[l]? with | some (.lst _) => true | _ => false) = (match S[l]? with | some (.lst xs) => some xs | _ => none).isSome
  cases S[l]? with
  | none => rfl
  | some c => cases c <;> rfl
theorem isL_loc : isL (.loc l) S = (lstAt S l).isSome := noDct_loc
theorem o_append : WO Q tt (mAppend (.loc l) [d] S) = WM (fun ys => ys.length < sizeLine ∧ Q .non (S.set l (.lst (ys ++ [d])))) tg (lstAt S l) := by
  show WO Q tt (match S[l]? with | some (.lst ys) => upL l S (ys ++ [d]) | _ => none) = _
  unfold lstAt
  cases S[l]? with
  | none => rfl
  | some c =>
    cases c with
    | dct _ => rfl
    | lst ys =>
      refine (WO_if).trans ?_
      rw [List.length_append]; rfl
theorem o_extend : WO Q tt (mExtend (.loc l) [.loc m] S) = WM (fun ys => WM (fun zs => ys.length + zs.length ≤ sizeLine ∧ Q .non (S.set l (.lst (ys ++ zs)))) tg (lstAt S m)) tg (lstAt S l) := by
  show WO Q tt (match S[l]?, S[m]? with | some (.lst ys), some (.lst zs) => upL l S (ys ++ zs) | _, _ => none) = _
  unfold lstAt
  cases S[l]? with
  | none => rfl
  | some c =>
    cases c with
    | dct _ => rfl
    | lst ys =>
      cases S[m]? with
      | none => rfl
      | some c =>
        cases c with
        | dct _ => rfl
        | lst zs =>
          refine (WO_if).trans ?_
          rw [List.length_append]; rfl
theorem o_popAt : WO Q tt (mPop (.loc l) [.int i] S) = WM (fun ys => WM (fun k => WM (fun d => Q d (S.set l (.lst (ys.eraseIdx k)))) tg (ys[k]?)) tg (ixN ys.length i)) tg (lstAt S l) := by
  show WO Q tt (match S[l]? with | some (.lst ys) => (match ixN ys.length i with | some k => (match ys[k]? with | some d => some (d, S.set l (.lst (ys.eraseIdx k))) | none => none) | none => none) | _ => none) = _
  unfold lstAt
  cases S[l]? with
  | none => rfl
  | some c =>
    cases c with
    | dct _ => rfl
    | lst ys =>
      simp only [WM]
      cases ixN ys.length i with
      | none => rfl
      | some k =>
        simp only
        cases ys[k]? <;> rfl
theorem W_cut {lo hi : DO} {tt} : W (x, Q) tt (cCut f lo hi σ S) = W (x, fun a S1 => W (x, fun l S2 => W (x, fun u S3 => WO Q tg (oCut a l u S3)) tg (hi σ S2)) tg (lo σ S1)) tg (f σ S) := by
  unfold cCut
  cases f σ S with
  | ok o S1 =>
    simp only [Res.bind_ok, W]
    cases lo σ S1 with
    | ok xs S2 =>
      simp only [Res.bind_ok]
      cases hi σ S2 with
      | ok z S3 =>
        simp only [Res.bind_ok]
        cases oCut o xs z S3 <;> rfl
      | _ => rfl
    | _ => rfl
  | _ => rfl
theorem W_noPart {QO : Option Int → Store → Prop} {tt} : W (x, QO) tt (cNoPart σ S) = QO none S := (rfl)
def intD : D → Option Int
  | .int i => some i
  | _ => none
theorem intD_int : intD (.int i) = some i := (rfl)
theorem W_part {QO : Option Int → Store → Prop} {tt} : W (x, QO) tt (cPart f σ S) = W (x, fun a S1 => WM (fun i => QO (some i) S1) tg (intD a)) tg (f σ S) := by
  unfold cPart
  cases f σ S with
  | ok o S1 =>
    simp only [Res.bind_ok, W]
    cases o <;> rfl
  | _ => rfl
theorem o_cutT {lo hi : Option Int} : WO Q tt (oCut (.tup xs) lo hi S) = Q (.tup (cutD xs lo hi)) S := (rfl)
theorem o_cutR {lo hi : Option Int} : WO Q tt (oCut (.rol xs) lo hi S) = Q (.loc S.length) (S ++ [.lst (cutD xs lo hi)]) := (rfl)
theorem o_cutL {lo hi : Option Int} : WO Q tt (oCut (.loc l) lo hi S) = WM (fun xs => Q (.loc S.length) (S ++ [.lst (cutD xs lo hi)])) tg (lstAt S l) := by
  show WO Q tt (match lstAt S l with | some xs => some (.loc S.length, S ++ [.lst (cutD xs lo hi)]) | none => none) = _
  cases lstAt S l <;> rfl
theorem W_isi {T : String} {tt} : W (x, Q) tt (cIsi T f σ S) = W (x, fun a S1 => noDct a S1 = true ∧ WM (fun b => Q (.bl b) S1) tg (kitB (tyName a) T)) tg (f σ S) := by
  unfold cIsi
  cases f σ S with
  | ok o S1 =>
    simp only [Res.bind_ok, W]
    by_cases hi : noDct o S1 = true
    · simp only [hi, if_true, true_and]
      cases kitB (tyName o) T <;> rfl
    · simp [hi]
  | _ => rfl
theorem W_ch {k k' : O2} {tt} : W (x, Q) tt (cCh k k' f g h σ S) = W (x, fun a S1 => W (x, fun b S2 => WO (fun c S3 => c = .bl true ∧ W (x, fun d S4 => WO Q tg (k' b d S4)) tg (h σ S3) ∨ c = .bl false ∧ Q (.bl false) S3) tg (k a b S2)) tg (g σ S1)) tg (f σ S) := by
  unfold cCh
  cases f σ S with
  | ok o S1 =>
    simp only [Res.bind_ok, W]
    cases g σ S1 with
    | ok xs S2 =>
      simp only [Res.bind_ok]
      cases k o xs S2 with
      | none => rfl
      | some p =>
        obtain ⟨d, S3⟩ := p
        cases d with
        | bl b =>
          cases b with
          | true =>
            simp only [WO]
            cases h σ S3 with
            | ok z S4 =>
              simp only [Res.bind_ok]
              cases k' xs z S4 <;> simp [Res.of]
            | _ => simp
          | false => simp [WO]
        | _ => simp [WO]
    | _ => rfl
  | _ => rfl
/-! places -/
variable {a b c d e u v : D} {r : List D}
theorem at0 : atI (a :: r) 0 = some a := by simp [atI, ixN]
theorem atN {k : Nat} (h : k < xs.length) : atI xs (k : Int) = some xs[k] := by
  unfold atI ixN
  have h1 : (0 : Int) ≤ (k : Int) := by omega
  have h2 : (k : Int) < xs.length := by omega
  simp [h]
theorem at1 : atI (a :: b :: r) 1 = some b := atN (k := 1) (by simp)
theorem at2 : atI (a :: b :: c :: r) 2 = some c := atN (k := 2) (by simp)
theorem at3 : atI (a :: b :: c :: d :: r) 3 = some d := atN (k := 3) (by simp)
theorem at4 : atI (a :: b :: c :: d :: e :: r) 4 = some e := atN (k := 4) (by simp)
theorem at5 : atI (a :: b :: c :: d :: e :: u :: r) 5 = some u := atN (k := 5) (by simp)
theorem atI_of {i : Int} (h : 0 ≤ i) (h2 : i < xs.length) : ∃ d, xs[i.toNat]? = some d ∧ atI xs i = some d := by
  have h3 : i.toNat < xs.length := by omega
  refine ⟨xs[i.toNat], by simp [h3], ?_⟩
  have := atN h3
  rwa [Int.toNat_of_nonneg h] at this
theorem atl1 : atI [a] (-1) = some a := (rfl)
theorem atl2 : atI [a, b] (-1) = some b := (rfl)
theorem atl3 : atI [a, b, c] (-1) = some c := (rfl)
theorem atl4 : atI [a, b, c, d] (-1) = some d := (rfl)
theorem lstAt_new {c : List D} : lstAt (S ++ [.lst c]) S.length = some c := by simp [lstAt]
theorem lstAt_app {T : Store} (h : lstAt S l = some xs) : lstAt (S ++ T) l = some xs := by
  rw [lstAt_iff] at h ⊢
  rw [List.getElem?_append_left (List.getElem?_eq_some_iff.mp h).1, h]
theorem set_new {c c' : Cell} : (S ++ [c]).set S.length c' = S ++ [c'] := by simp
theorem lstAt_set (h : lstAt S l = some xs) : lstAt (S.set l (.lst ys)) l = some ys := by
  rw [lstAt_iff] at h ⊢
  rw [List.getElem?_set_self (List.getElem?_eq_some_iff.mp h).1]
theorem lstAt_set_ne (h : l ≠ m) : lstAt (S.set l (.lst ys)) m = lstAt S m := by
  unfold lstAt
  rw [List.getElem?_set_ne h]
theorem lstAt_lt (h : lstAt S l = some xs) : l < S.length := (List.getElem?_eq_some_iff.mp (lstAt_iff.mp h)).1
end
end DL

namespace DL
open PySem PySem.Spec PyProof.Rows L2
/-! ### loops and comprehensions -/
inductive All2 {α β : Type} (P : α → β → Prop) : List α → List β → Prop
  | nil : All2 P [] []
  | cons {a : α} {b : β} {as : List α} {bs : List β} : P a b → All2 P as bs → All2 P (a :: as) (b :: bs)
theorem All2.length {α β : Type} {P : α → β → Prop} : ∀ {as : List α} {bs : List β}, All2 P as bs → as.length = bs.length
  | _, _, .nil => rfl
  | _, _, .cons _ t => by rw [List.length_cons, List.length_cons, t.length]
theorem All2.right {α β : Type} {P : α → β → Prop} {R : β → Prop} (h : ∀ a b, P a b → R b) : ∀ {as : List α} {bs : List β}, All2 P as bs → ∀ b ∈ bs, R b
  | _, _, .nil, _, hb => by simp at hb
  | _, _, .cons p t, b, hb => (List.mem_cons.mp hb).elim (fun e => e ▸ h _ _ p) (t.right h b)
section
variable {x : XQ} {Q : D → Store → Prop} {QI : Gd → List D → Store → Prop} {QL : List D → Store → Prop} {σ : Sg} {S : Store} {f g h : DE} {t u : DT} {src : DI} {fs gs b : DS} {q : SQ} {G : DG} {d : D} {ds : List D} {gd : Gd}
theorem WS_for {tt} : WS q tt (sFor src G b σ S) = WI (fun e S => q.ex e σ S, fun gd ds S1 => WS q tg (forL gd G b ds σ S1)) tg (src σ S) := by
  unfold sFor
  cases src σ S <;> rfl
def itOf (S : Store) : D → Option (Gd × List D)
  | .tup xs => some (none, xs)
  | .rol xs => some (none, xs)
  | .loc l => match S[l]? with
    | some (.lst xs) => some (some (l, xs), xs)
    | _ => none
  | _ => none
theorem it_tup {xs : List D} : itOf S (.tup xs) = some (none, xs) := (rfl)
theorem it_rol {xs : List D} : itOf S (.rol xs) = some (none, xs) := (rfl)
theorem it_loc {l : Nat} {xs : List D} (h : lstAt S l = some xs) : itOf S (.loc l) = some (some (l, xs), xs) := by
  rw [lstAt_iff] at h
  show (match S[l]? with | some (.lst xs) => some (some (l, xs), xs) | _ => none) = _
  rw [h]
theorem WI_iter {tt} : WI (x, QI) tt (cIter f σ S) = W (x, fun a S1 => WM (fun p => QI p.1 p.2 S1) tg (itOf S1 a)) tg (f σ S) := by
  unfold cIter
  cases f σ S with
  | ok o S1 =>
    simp only [Res.bind_ok, W]
    cases o with
    | loc l =>
      simp only [itOf]
      cases S1[l]? with
      | none => rfl
      | some c => cases c <;> rfl
    | _ => rfl
  | _ => rfl
theorem WI_range1 {tt} : WI (x, QI) tt (cRange1 f σ S) = W (x, fun a S1 => WM (fun j => okB j ∧ QI none (intsTo 0 j.toNat) S1) tg (intD a)) tg (f σ S) := by
  unfold cRange1
  cases f σ S with
  | ok o S1 =>
    simp only [Res.bind_ok, W]
    cases o with
    | int j => by_cases hb : okB j <;> simp [hb, WI, WM, intD]
    | _ => rfl
  | _ => rfl
theorem WI_range2 {tt} : WI (x, QI) tt (cRange2 f g σ S) = W (x, fun a S1 => W (x, fun c S2 => WM (fun i => WM (fun j => (okB i ∧ okB j) ∧ QI none (intsTo i (j - i).toNat) S2) tg (intD c)) tg (intD a)) tg (g σ S1)) tg (f σ S) := by
  unfold cRange2
  cases f σ S with
  | ok o S1 =>
    simp only [Res.bind_ok, W]
    cases g σ S1 with
    | ok c S2 =>
      simp only [Res.bind_ok]
      cases o with
      | int i =>
        cases c with
        | int j => by_cases hb : okB i ∧ okB j <;> simp [hb, WI, WM, intD]
        | _ => rfl
      | _ => cases c <;> rfl
    | _ => rfl
  | _ => rfl
theorem WI_range3 {tt} : WI (x, QI) tt (cRange3 f g h σ S) = W (x, fun a S1 => W (x, fun b S2 => W (x, fun c S3 => WM (fun i => WM (fun j => WM (fun k => okRg i j k ∧ QI none (stepsTo i k (rgN i j k)) S3) tg (intD c)) tg (intD b)) tg (intD a)) tg (h σ S2)) tg (g σ S1)) tg (f σ S) := by
  unfold cRange3
  cases f σ S with
  | ok o S1 =>
    simp only [Res.bind_ok, W]
    cases g σ S1 with
    | ok b S2 =>
      simp only [Res.bind_ok]
      cases h σ S2 with
      | ok c S3 =>
        simp only [Res.bind_ok]
        cases o with
        | int i =>
          cases b with
          | int j =>
            cases c with
            | int k => by_cases hb : okRg i j k <;> simp [hb, WI, WM, intD, rg3]
            | _ => rfl
          | _ => cases c <;> rfl
        | _ => cases b <;> cases c <;> rfl
      | _ => rfl
    | _ => rfl
  | _ => rfl
def enD (S : Store) : D → Option (Gd × List D)
  | .tup xs => some (none, numbered 0 xs)
  | .rol xs => some (none, numbered 0 xs)
  | .loc l => match S[l]? with
    | some (.lst xs) => some (some (l, xs), numbered 0 xs)
    | _ => none
  | _ => none
theorem en_tup {xs : List D} : enD S (.tup xs) = some (none, numbered 0 xs) := (rfl)
theorem en_rol {xs : List D} : enD S (.rol xs) = some (none, numbered 0 xs) := (rfl)
theorem en_loc {l : Nat} {xs : List D} (h : lstAt S l = some xs) : enD S (.loc l) = some (some (l, xs), numbered 0 xs) := by
  rw [lstAt_iff] at h
  show (match S[l]? with | some (.lst xs) => some (some (l, xs), numbered 0 xs) | _ => none) = _
  rw [h]
theorem WI_enum {tt} : WI (x, QI) tt (cEnumA f σ S) = W (x, fun a S1 => WM (fun p => QI p.1 p.2 S1) tg (enD S1 a)) tg (f σ S) := by
  unfold cEnumA
  cases f σ S with
  | ok o S1 =>
    simp only [Res.bind_ok, W]
    cases o with
    | loc l =>
      simp only [enD, enumA, enumL]
      cases S1[l]? with
      | none => rfl
      | some c => cases c <;> rfl
    | _ => rfl
  | _ => rfl
def z2 : List D → Option (List D)
  | [.tup xs, .tup ys] => some (zip2D xs ys)
  | _ => none
def z3 : List D → Option (List D)
  | [.tup xs, .tup ys, .tup zs] => some (zip3D xs ys zs)
  | _ => none
theorem WI_zip2 {tt} : WI (x, QI) tt (cZip2 f g σ S) = W (x, fun a S1 => WM (fun ds => QI none ds S1) tg (z2 a)) tg (aCons f (aCons g aNil) σ S) := by
  unfold cZip2
  cases aCons f (aCons g aNil) σ S with
  | ok o S1 =>
    simp only [Res.bind_ok, W]
    unfold zip2R z2
    split <;> simp_all [WI, WM]
  | _ => rfl
theorem WI_zip3 {tt} : WI (x, QI) tt (cZip3 f g h σ S) = W (x, fun a S1 => WM (fun ds => QI none ds S1) tg (z3 a)) tg (aCons f (aCons g (aCons h aNil)) σ S) := by
  unfold cZip3
  cases aCons f (aCons g (aCons h aNil)) σ S with
  | ok o S1 =>
    simp only [Res.bind_ok, W]
    unfold zip3R z3
    split <;> simp_all [WI, WM]
  | _ => rfl
theorem z2_t {xs ys : List D} : z2 [.tup xs, .tup ys] = some (zip2D xs ys) := (rfl)
theorem z3_t {xs ys zs : List D} : z3 [.tup xs, .tup ys, .tup zs] = some (zip3D xs ys zs) := (rfl)
/-- calls by keywords -/
theorem W_callK {F : FD} {pm : List Nat} {fa fk : DA} {tt} : W (x, Q) tt (cCallK F pm fa fk σ S) = W (x, fun us S1 => W (x, fun ws S2 => W (x, Q) tg (F (permO .non pm us ws) S2)) tg (fk σ S1)) tg (fa σ S) := by
  unfold cCallK
  cases fa σ S with
  | ok o S1 =>
    simp only [Res.bind_ok, W]
    cases fk σ S1 <;> rfl
  | _ => rfl
theorem perm_nil {us ws : List D} : permO .non [] us ws = [] := (rfl)
theorem perm_cons {i : Nat} {pm : List Nat} {us ws : List D} : permO .non (i :: pm) us ws = (us ++ ws).getD i .non :: permO .non pm us ws := (rfl)
theorem WS_f0 {tt} : WS q tt (forL none G b [] σ S) = q.nx σ S := by
  rw [forL, if_pos (show Gd.ok none S from trivial)]; rfl
/-- one turn, in its own words -/
theorem WS_turn {k : Sg → Store → SR} {tt} : WS q tt (match G d σ S with
      | .nx σ1 S1 => match b σ1 S1 with
        | .nx σ2 S2 => k σ2 S2
        | .ct σ2 S2 => k σ2 S2
        | .bk σ2 S2 => .nx σ2 S2
        | r => r
      | .ex e σ1 S1 => .ex e σ1 S1
      | _ => .no) = WS (qk q fun σ S => WS (lq q fun σ S => WS q tg (k σ S)) tg (b σ S)) tg (G d σ S) := by
  cases G d σ S with
  | nx σ1 S1 =>
    show WS q tt (match b σ1 S1 with
        | .nx σ2 S2 => k σ2 S2
        | .ct σ2 S2 => k σ2 S2
        | .bk σ2 S2 => .nx σ2 S2
        | r => r) = WS (lq q fun σ S => WS q tg (k σ S)) tg (b σ1 S1)
    cases b σ1 S1 <;> rfl
  | _ => rfl
theorem WS_f1 {tt} : WS q tt (forL none G b (d :: ds) σ S) = WS (qk q fun σ S => WS (lq q fun σ S => WS q tg (forL none G b ds σ S)) tg (b σ S)) tg (G d σ S) := by
  rw [forL, if_pos (show Gd.ok none S from trivial)]
  exact WS_turn
theorem WS_g0 {l : Nat} {xs : List D} {tt} : WS q tt (forL (some (l, xs)) G b [] σ S) = (lstAt S l = some xs ∧ q.nx σ S) := by
  rw [forL]
  by_cases hg : Gd.ok (some (l, xs)) S
  · rw [if_pos hg]
    simp [lstAt_iff, show S[l]? = some (.lst xs) from hg, WS]
  · rw [if_neg hg]
    simp [lstAt_iff, show ¬ S[l]? = some (.lst xs) from hg, WS]
theorem WS_g1 {l : Nat} {xs : List D} {tt} : WS q tt (forL (some (l, xs)) G b (d :: ds) σ S) = (lstAt S l = some xs ∧ WS (qk q fun σ S => WS (lq q fun σ S => WS q tg (forL (some (l, xs)) G b ds σ S)) tg (b σ S)) tg (G d σ S)) := by
  rw [forL]
  by_cases hg : Gd.ok (some (l, xs)) S
  · rw [if_pos hg]
    refine Eq.trans (WS_turn (k := fun σ S => forL (some (l, xs)) G b ds σ S)) ?_
    simp only [lstAt_iff, show S[l]? = some (.lst xs) from hg, true_and]
  · rw [if_neg hg]
    simp [lstAt_iff, show ¬ S[l]? = some (.lst xs) from hg, WS]
/-- a loop by what holds ahead of each turn -/
theorem WS_loop (I : List D → Sg → Store → Prop) {tt} (h0 : I ds σ S)
    (h1 : ∀ d r σ S, I (d :: r) σ S → gd.ok S ∧ WS (qk q fun σ S => WS (lq q (I r)) tg (b σ S)) tg (G d σ S))
    (h2 : ∀ σ S, I [] σ S → gd.ok S ∧ q.nx σ S) : WS q tt (forL gd G b ds σ S) := by
  induction ds generalizing σ S with
  | nil =>
    obtain ⟨g, z⟩ := h2 _ _ h0
    rw [forL, if_pos g]; exact z
  | cons d r ih =>
    obtain ⟨g, z⟩ := h1 _ _ _ _ h0
    rw [forL, if_pos g]
    refine Eq.mpr (WS_turn (k := fun σ S => forL gd G b r σ S)) ?_
    refine WS_mono (t := tg) z (fun σ1 S1 z => ?_) (fun _ _ z => z) (fun _ _ z => z) (fun _ _ z => z) (fun _ _ _ z => z)
    refine WS_mono (t := tg) (t' := tg) z (fun σ1 S1 z => ?_) (fun _ _ z => z) (fun _ _ z => z) (fun σ1 S1 z => ?_) (fun _ _ _ z => z)
    · exact ih z
    · exact ih z
theorem intsTo_succ {lo : Int} {n : Nat} : intsTo lo (n + 1) = .int lo :: intsTo (lo + 1) n := by
  unfold intsTo
  rw [List.range_succ_eq_map, List.map_cons, List.map_map]
  rw [List.cons.injEq]
  refine ⟨by simp, List.map_congr_left fun a _ => ?_⟩
  simp only [Function.comp]
  congr 1
  push_cast
  omega
/-- a loop over a range -/
theorem WS_rloop (I : Int → Sg → Store → Prop) {lo : Int} {n : Nat} {tt} (h0 : I lo σ S)
    (h1 : ∀ i σ S, lo ≤ i → i < lo + n → I i σ S → WS (qk q fun σ S => WS (lq q (I (i + 1))) tg (b σ S)) tg (G (.int i) σ S))
    (h2 : ∀ σ S, I (lo + n) σ S → q.nx σ S) : WS q tt (forL none G b (intsTo lo n) σ S) := by
  induction n generalizing lo σ S with
  | zero =>
    rw [show intsTo lo 0 = [] from rfl, WS_f0]
    exact h2 _ _ (by simpa using h0)
  | succ n ih =>
    rw [intsTo_succ, WS_f1]
    refine WS_mono (t' := tg) (h1 lo σ S (by omega) (by omega) h0) (fun σ1 S1 z => ?_) (fun _ _ z => z) (fun _ _ z => z) (fun _ _ z => z) (fun _ _ _ z => z)
    refine WS_mono (t' := tg) (t := tg) z (fun σ2 S2 z => ?_) (fun _ _ z => z) (fun _ _ z => z) (fun σ2 S2 z => ?_) (fun _ _ _ z => z)
    · exact ih z (fun i σ S a b c => h1 i σ S (by omega) (by push_cast; omega) c) fun σ S c => h2 σ S (by rw [show lo + ((n + 1 : Nat) : Int) = lo + 1 + n by push_cast; omega]; exact c)
    · exact ih z (fun i σ S a b c => h1 i σ S (by omega) (by push_cast; omega) c) fun σ S c => h2 σ S (by rw [show lo + ((n + 1 : Nat) : Int) = lo + 1 + n by push_cast; omega]; exact c)
/-- a while loop -/
theorem WS_while (I : Nat → Sg → Store → Prop) (n : Nat) {tt} (hn : n < WF) (h0 : I n σ S)
    (h1 : ∀ k σ S, I k σ S → WB ⟨fun S => ∃ k', k = k' + 1 ∧ WS (lq q (I k')) tg (b σ S), fun S => q.nx σ S, fun e S => q.ex e σ S⟩ tg (t σ S)) : WS q tt (sWhile t b σ S) := by
  unfold sWhile
  have key : ∀ (m k : Nat) (σ : Sg) (S : Store), k < m → I k σ S → WS q tg (whileN t b m σ S) := by
    intro m
    induction m with
    | zero => intro k _ _ h; omega
    | succ m ih =>
      intro k σ S hk hI
      have z := h1 k σ S hI
      rw [whileN]
      cases q1 : t σ S with
      | ok c S1 =>
        rw [q1] at z
        cases c with
        | true =>
          obtain ⟨k', rfl, z⟩ := z
          simp only [SR.ofT, if_true]
          cases q2 : b σ S1 with
          | nx σ2 S2 => rw [q2] at z; exact ih k' _ _ (by omega) z
          | ct σ2 S2 => rw [q2] at z; exact ih k' _ _ (by omega) z
          | bk σ2 S2 => rw [q2] at z; exact z
          | rt d S2 => rw [q2] at z; exact z
          | ex e σ2 S2 => rw [q2] at z; exact z
          | no => rw [q2] at z; exact z.elim
        | false => exact z
      | ex e S1 => rw [q1] at z; exact z
      | no => rw [q1] at z; exact z.elim
  exact key WF n σ S hn h0
/-! comprehensions -/
theorem W_alloc {f : DL'} {tt} : W (x, Q) tt (cAlloc f σ S) = W (x, fun xs S1 => Q (.loc S1.length) (S1 ++ [.lst xs])) tg (f σ S) := by
  unfold cAlloc
  cases f σ S <;> rfl
theorem W_ofL {f : DL'} {k : List D → Option D} {tt} : W (x, Q) tt (cOfL k f σ S) = W (x, fun xs S1 => WM (fun d => Q d S1) tg (k xs)) tg (f σ S) := by
  unfold cOfL
  cases f σ S with
  | ok xs S1 =>
    simp only [Res.bind_ok, W]
    cases k xs <;> rfl
  | _ => rfl
theorem kTup_eq {xs : List D} : kTup xs = some (.tup xs) := (rfl)
theorem kLen_eq {xs : List D} : kLen xs = some (.int xs.length) := (rfl)
theorem W_comp {p : Pat} {te : DE} {vs : List Nat} {tt} : W (x, QL) tt (lComp src p t te vs σ S) = WI (x, fun gd ds S1 => W (x, QL) tg (compL gd p t te ds [] (wipeD σ vs) S1)) tg (src σ S) := by
  unfold lComp
  cases src σ S <;> rfl
theorem wipe0 : wipeD σ [] = σ := (rfl)
theorem wipe1 {v : Nat} {vs : List Nat} : wipeD σ (v :: vs) = (wipeD σ vs).set v none := (rfl)
theorem WB_yes {bq : BQ} {tt} : WB bq tt (tYesD σ S) = bq.t S := (rfl)
theorem b_nm {i : Nat} : Pat.bind S (.nm i) d σ = some (σ.set i (some d)) := (rfl)
theorem W_c0 {p : Pat} {te : DE} {acc : List D} {tt} : W (x, QL) tt (compL none p t te [] acc σ S) = QL acc S := by
  rw [compL, if_pos (show Gd.ok none S from trivial)]; rfl
/-- a comprehension, item by item -/
theorem W_c1 {p : Pat} {te : DE} {acc : List D} {tt : Tg (X0, QL)} : W (X0, QL) tt (compL none p t te (d :: ds) acc σ S) = WM (fun σ1 => WB ⟨fun S2 => W (X0, fun y S3 => acc.length < sizeLine ∧ W (X0, QL) tg (compL none p t te ds (acc ++ [y]) σ S3)) tg (te σ1 S2), fun S2 => W (X0, QL) tg (compL none p t te ds acc σ S2), X0⟩ tg (t σ1 S)) tg (p.bind S d σ) := by
  rw [compL, if_pos (show Gd.ok none S from trivial)]
  cases p.bind S d σ with
  | none => rfl
  | some σ1 =>
    simp only [WM]
    cases t σ1 S with
    | ok c S2 =>
      cases c with
      | true =>
        simp only [WB]
        cases te σ1 S2 with
        | ok y S3 => by_cases hl : acc.length < sizeLine <;> simp [hl, W]
        | _ => rfl
      | false => rfl
    | _ => rfl
/-- a comprehension by what holds: each item made is as wanted -/
theorem W_cAll (P : D → Prop) (I : Store → Prop) {p : Pat} {te : DE} {acc : List D} {tt} (h0 : I S) (hl : acc.length + ds.length ≤ sizeLine) (hg : ∀ S, I S → gd.ok S)
    (h1 : ∀ d S, d ∈ ds → I S → WM (fun σ1 => WB ⟨fun S2 => W (X0, fun y S3 => P y ∧ I S3) tg (te σ1 S2), I, X0⟩ tg (t σ1 S)) tg (p.bind S d σ))
    (h2 : ∀ ys S, I S → (∀ y ∈ ys, P y) → ys.length ≤ ds.length → QL (acc ++ ys) S) : W (x, QL) tt (compL gd p t te ds acc σ S) := by
  induction ds generalizing acc S with
  | nil =>
    rw [compL, if_pos (hg _ h0)]
    have := h2 [] S h0 (by simp) (by simp)
    rw [List.append_nil] at this
    exact this
  | cons d r ih =>
    rw [compL, if_pos (hg _ h0)]
    have z := h1 d S (by simp) h0
    rw [List.length_cons] at hl
    cases q1 : p.bind S d σ with
    | none => rw [q1] at z; exact z.elim
    | some σ1 =>
      rw [q1] at z
      simp only [WM] at z ⊢
      cases q2 : t σ1 S with
      | ok c S2 =>
        rw [q2] at z
        cases c with
        | true =>
          simp only [WB] at z ⊢
          cases q3 : te σ1 S2 with
          | ok y S3 =>
            rw [q3] at z
            obtain ⟨z1, z2⟩ := z
            simp only
            rw [if_pos (by omega)]
            refine ih z2 (by simp; omega) (fun d S hd => h1 d S (List.mem_cons_of_mem _ hd)) fun ys S' hS hy hl' => ?_
            rw [List.append_assoc]
            exact h2 (y :: ys) S' hS (fun w hw => (List.mem_cons.mp hw).elim (fun e => e ▸ z1) (hy w)) (by simp; omega)
          | ex e S3 => rw [q3] at z; exact z.elim
          | no => rw [q3] at z; exact z.elim
        | false =>
          simp only [WB] at z ⊢
          refine ih z (by omega) (fun d S hd => h1 d S (List.mem_cons_of_mem _ hd)) fun ys S' hS hy hl' => h2 ys S' hS hy (by simp; omega)
      | ex e S2 => rw [q2] at z; exact z.elim
      | no => rw [q2] at z; exact z.elim
/-- .. without a test: item by item -/
theorem W_cMap (P : D → D → Prop) (I : Store → Prop) {p : Pat} {te : DE} {acc : List D} {tt} (h0 : I S) (hl : acc.length + ds.length ≤ sizeLine) (hg : ∀ S, I S → gd.ok S)
    (h1 : ∀ d S, d ∈ ds → I S → WM (fun σ1 => W (X0, fun y S3 => P d y ∧ I S3) tg (te σ1 S)) tg (p.bind S d σ))
    (h2 : ∀ ys S, I S → All2 P ds ys → QL (acc ++ ys) S) : W (x, QL) tt (compL gd p tYesD te ds acc σ S) := by
  induction ds generalizing acc S with
  | nil =>
    rw [compL, if_pos (hg _ h0)]
    have := h2 [] S h0 .nil
    rw [List.append_nil] at this
    exact this
  | cons d r ih =>
    rw [compL, if_pos (hg _ h0)]
    have z := h1 d S (by simp) h0
    rw [List.length_cons] at hl
    cases q1 : p.bind S d σ with
    | none => rw [q1] at z; exact z.elim
    | some σ1 =>
      rw [q1] at z
      simp only [WM, tYesD] at z ⊢
      cases q3 : te σ1 S with
      | ok y S3 =>
        rw [q3] at z
        obtain ⟨z1, z2⟩ := z
        simp only
        rw [if_pos (by omega)]
        refine ih z2 (by simp; omega) (fun d S hd => h1 d S (List.mem_cons_of_mem _ hd)) fun ys S' hS hy => ?_
        rw [List.append_assoc]
        exact h2 (y :: ys) S' hS (.cons z1 hy)
      | ex e S3 => rw [q3] at z; exact z.elim
      | no => rw [q3] at z; exact z.elim
theorem W_listRg {r : Sg → Store → Res (Int × Int)} {tt} : W (x, QL) tt (lRg r σ S) = W (x, fun p S1 => RgL p.1 p.2 ∧ QL (intsTo p.1 (p.2 - p.1).toNat) S1) tg (r σ S) := by
  unfold lRg
  cases r σ S with
  | ok p S1 =>
    simp only [Res.bind_ok, W]
    by_cases hr : RgL p.1 p.2 <;> simp [hr]
  | _ => rfl
theorem W_tupRg {r : Sg → Store → Res (Int × Int)} {tt} : W (x, Q) tt (cTupRg r σ S) = W (x, fun p S1 => RgL p.1 p.2 ∧ Q (.tup (intsTo p.1 (p.2 - p.1).toNat)) S1) tg (r σ S) := by
  unfold cTupRg
  cases r σ S with
  | ok p S1 =>
    simp only [Res.bind_ok, W]
    by_cases hr : RgL p.1 p.2 <;> simp [hr]
  | _ => rfl
theorem W_rRange1 {QP : Int × Int → Store → Prop} {tt} : W (x, QP) tt (rRange1 f σ S) = W (x, fun a S1 => WM (fun j => QP (0, j) S1) tg (intD a)) tg (f σ S) := by
  unfold rRange1
  cases f σ S with
  | ok o S1 =>
    simp only [Res.bind_ok, W]
    cases o <;> rfl
  | _ => rfl
theorem W_rRange2 {QP : Int × Int → Store → Prop} {tt} : W (x, QP) tt (rRange2 f g σ S) = W (x, fun a S1 => W (x, fun c S2 => WM (fun i => WM (fun j => QP (i, j) S2) tg (intD c)) tg (intD a)) tg (g σ S1)) tg (f σ S) := by
  unfold rRange2
  cases f σ S with
  | ok o S1 =>
    simp only [Res.bind_ok, W]
    cases g σ S1 with
    | ok c S2 =>
      simp only [Res.bind_ok]
      cases o with
      | int i => cases c <;> rfl
      | _ => cases c <;> rfl
    | _ => rfl
  | _ => rfl
end
end DL

namespace DL
open PySem PySem.Spec PyProof.Rows L2
section
variable {Q : D → Store → Prop} {S S' S'' : Store} {a b c d e u v z : D} {tt : Tg Q} {l m : Nat} {xs ys r : List D}
theorem sl {n : Nat} (h : n ≤ 1048576) : n ≤ sizeLine := by rw [sizeLine_eq]; omega
theorem o_tup0 : WO Q tt (oTup [] S) = Q (.tup []) S := by rw [o_tup]; simp
theorem o_tup1 : WO Q tt (oTup [a] S) = Q (.tup [a]) S := by rw [o_tup]; simp [sizeLine_eq]
theorem o_tup2 : WO Q tt (oTup [a, b] S) = Q (.tup [a, b]) S := by rw [o_tup]; simp [sizeLine_eq]
theorem o_tup3 : WO Q tt (oTup [a, b, c] S) = Q (.tup [a, b, c]) S := by rw [o_tup]; simp [sizeLine_eq]
theorem o_tup4 : WO Q tt (oTup [a, b, c, d] S) = Q (.tup [a, b, c, d]) S := by rw [o_tup]; simp [sizeLine_eq]
theorem o_tup5 : WO Q tt (oTup [a, b, c, d, e] S) = Q (.tup [a, b, c, d, e]) S := by rw [o_tup]; simp [sizeLine_eq]
theorem o_tup6 : WO Q tt (oTup [a, b, c, d, e, u] S) = Q (.tup [a, b, c, d, e, u]) S := by rw [o_tup]; simp [sizeLine_eq]
theorem o_lst0 : WO Q tt (oLst [] S) = Q (.loc S.length) (S ++ [.lst []]) := by rw [o_lst]; simp
theorem o_lst1 : WO Q tt (oLst [a] S) = Q (.loc S.length) (S ++ [.lst [a]]) := by rw [o_lst]; simp [sizeLine_eq]
theorem o_lst2 : WO Q tt (oLst [a, b] S) = Q (.loc S.length) (S ++ [.lst [a, b]]) := by rw [o_lst]; simp [sizeLine_eq]
theorem o_lst3 : WO Q tt (oLst [a, b, c] S) = Q (.loc S.length) (S ++ [.lst [a, b, c]]) := by rw [o_lst]; simp [sizeLine_eq]
theorem o_lst4 : WO Q tt (oLst [a, b, c, d] S) = Q (.loc S.length) (S ++ [.lst [a, b, c, d]]) := by rw [o_lst]; simp [sizeLine_eq]
theorem o_lst5 : WO Q tt (oLst [a, b, c, d, e] S) = Q (.loc S.length) (S ++ [.lst [a, b, c, d, e]]) := by rw [o_lst]; simp [sizeLine_eq]
theorem o_lst6 : WO Q tt (oLst [a, b, c, d, e, u] S) = Q (.loc S.length) (S ++ [.lst [a, b, c, d, e, u]]) := by rw [o_lst]; simp [sizeLine_eq]
theorem o_ixS {s : Str} {i : Int} : WO Q tt (oIx (.str s) (.int i) S) = (s.length ≤ sizeLine ∧ WM (fun c => Q (.str ⟨#[c]⟩) S) tg (atI s.cps.toList i)) := by
  show WO Q tt (if s.length ≤ sizeLine then (match atI s.cps.toList i with | some c => some (D.str ⟨#[c]⟩, S) | none => none) else none) = _
  by_cases h : s.length ≤ sizeLine
  · simp only [h, if_true, true_and]
    cases atI s.cps.toList i <;> rfl
  · simp [h, WO]
theorem o_str {i : Int} : WO Q tt (oStr [.int i] S) = (i.natAbs.log2 < 1920 ∧ Q (.str (toString i)) S) := WO_if
theorem o_strS {s : Str} : WO Q tt (oStr [.str s] S) = Q (.str s) S := (rfl)
theorem o_intT : WO Q tt (oInt [.bl true] S) = Q (.int 1) S := (rfl)
theorem o_intF : WO Q tt (oInt [.bl false] S) = Q (.int 0) S := (rfl)
theorem o_intB {p : Prop} [Decidable p] : WO Q tt (oInt [.bl (decide p)] S) = Q (.int (if p then 1 else 0)) S := by
  show Q (.int (if decide p = true then 1 else 0)) S = _
  by_cases h : p <;> simp [h]
/-! slices of short things -/
theorem cutN2 (h : 2 ≤ xs.length) : cutD xs none (some 2) = xs.take 2 := by
  unfold cutD HT.sIx
  simp
theorem c02 : cutD (a :: b :: r) none (some 2) = [a, b] := (cutN2 (by simp)).trans rfl
theorem ix_1_0 : ixN 1 0 = some 0 := (rfl)
theorem ix_2_0 : ixN 2 0 = some 0 := (rfl)
theorem ix_2_1 : ixN 2 1 = some 1 := (rfl)
theorem ix_3_0 : ixN 3 0 = some 0 := (rfl)
theorem ix_3_1 : ixN 3 1 = some 1 := (rfl)
theorem ix_3_2 : ixN 3 2 = some 2 := (rfl)
theorem ix_4_0 : ixN 4 0 = some 0 := (rfl)
theorem ix_4_1 : ixN 4 1 = some 1 := (rfl)
theorem ix_4_2 : ixN 4 2 = some 2 := (rfl)
theorem ix_4_3 : ixN 4 3 = some 3 := (rfl)
theorem ix_5_0 : ixN 5 0 = some 0 := (rfl)
theorem ix_5_1 : ixN 5 1 = some 1 := (rfl)
theorem ix_5_2 : ixN 5 2 = some 2 := (rfl)
theorem ix_5_3 : ixN 5 3 = some 3 := (rfl)
theorem ix_5_4 : ixN 5 4 = some 4 := (rfl)
theorem ix_6_0 : ixN 6 0 = some 0 := (rfl)
theorem ix_6_1 : ixN 6 1 = some 1 := (rfl)
theorem ix_6_2 : ixN 6 2 = some 2 := (rfl)
theorem ix_6_3 : ixN 6 3 = some 3 := (rfl)
theorem ix_6_4 : ixN 6 4 = some 4 := (rfl)
theorem ix_6_5 : ixN 6 5 = some 5 := (rfl)
theorem lstAt_setE (h : (lstAt S l).isSome = true) : lstAt (S.set l (.lst ys)) l = some ys := by
  obtain ⟨xs, e⟩ := Option.isSome_iff_exists.mp h
  exact lstAt_set e
theorem kb_bool_bool : kitB "bool" "bool" = some true := by decide +kernel
theorem kb_bool_int : kitB "bool" "int" = some true := by decide +kernel
theorem kb_bool_str : kitB "bool" "str" = some false := by decide +kernel
theorem kb_bool_tuple : kitB "bool" "tuple" = some false := by decide +kernel
theorem kb_bool_list : kitB "bool" "list" = some false := by decide +kernel
theorem kb_int_bool : kitB "int" "bool" = some false := by decide +kernel
theorem kb_int_int : kitB "int" "int" = some true := by decide +kernel
theorem kb_int_str : kitB "int" "str" = some false := by decide +kernel
theorem kb_int_tuple : kitB "int" "tuple" = some false := by decide +kernel
theorem kb_int_list : kitB "int" "list" = some false := by decide +kernel
theorem kb_str_bool : kitB "str" "bool" = some false := by decide +kernel
theorem kb_str_int : kitB "str" "int" = some false := by decide +kernel
theorem kb_str_str : kitB "str" "str" = some true := by decide +kernel
theorem kb_str_tuple : kitB "str" "tuple" = some false := by decide +kernel
theorem kb_str_list : kitB "str" "list" = some false := by decide +kernel
theorem kb_tuple_bool : kitB "tuple" "bool" = some false := by decide +kernel
theorem kb_tuple_int : kitB "tuple" "int" = some false := by decide +kernel
theorem kb_tuple_str : kitB "tuple" "str" = some false := by decide +kernel
theorem kb_tuple_tuple : kitB "tuple" "tuple" = some true := by decide +kernel
theorem kb_tuple_list : kitB "tuple" "list" = some false := by decide +kernel
theorem kb_list_bool : kitB "list" "bool" = some false := by decide +kernel
theorem kb_list_int : kitB "list" "int" = some false := by decide +kernel
theorem kb_list_str : kitB "list" "str" = some false := by decide +kernel
theorem kb_list_tuple : kitB "list" "tuple" = some false := by decide +kernel
theorem kb_list_list : kitB "list" "list" = some true := by decide +kernel
theorem kb_NoneType_bool : kitB "NoneType" "bool" = some false := by decide +kernel
theorem kb_NoneType_int : kitB "NoneType" "int" = some false := by decide +kernel
theorem kb_NoneType_str : kitB "NoneType" "str" = some false := by decide +kernel
theorem kb_NoneType_tuple : kitB "NoneType" "tuple" = some false := by decide +kernel
theorem kb_NoneType_list : kitB "NoneType" "list" = some false := by decide +kernel
theorem isN_non : isNon .non = true := (rfl)
theorem isN_bl {b : Bool} : isNon (.bl b) = false := (rfl)
theorem isN_int {b : Int} : isNon (.int b) = false := (rfl)
theorem isN_str {b : Str} : isNon (.str b) = false := (rfl)
theorem isN_tup : isNon (.tup xs) = false := (rfl)
theorem isN_rol : isNon (.rol xs) = false := (rfl)
theorem isN_loc : isNon (.loc l) = false := (rfl)
theorem ty_non : tyName .non = "NoneType" := (rfl)
theorem ty_bl {b : Bool} : tyName (.bl b) = "bool" := (rfl)
theorem ty_int {b : Int} : tyName (.int b) = "int" := (rfl)
theorem ty_str {b : Str} : tyName (.str b) = "str" := (rfl)
theorem ty_tup : tyName (.tup xs) = "tuple" := (rfl)
theorem ty_rol : tyName (.rol xs) = "list" := (rfl)
theorem ty_loc : tyName (.loc l) = "list" := (rfl)
theorem o_eqB {p q : Bool} : WO Q tt (oEq (.bl p) (.bl q) S) = Q (.bl (p == q)) S := by cases p <;> cases q <;> rfl
theorem o_neB {p q : Bool} : WO Q tt (oNe (.bl p) (.bl q) S) = Q (.bl (!(p == q))) S := by cases p <;> cases q <;> rfl
theorem isBl_bl {p q : Bool} : isBl p (.bl q) = (q == p) := (rfl)
theorem mul1 {i j : Int} (h : -18446744073709551616 < i ∧ i < 18446744073709551616) : MulOk i j := .inl (.inl h)
theorem mul2 {i j : Int} (h : -18446744073709551616 < j ∧ j < 18446744073709551616) : MulOk i j := .inl (.inr h)
theorem divS {j : Int} (h : 0 < j) (h2 : j < 1073741824) : DivOk j := .inl ⟨h, h2⟩
/-! ### the same value -/
theorem fitsL_iff : ∀ {xs : List D}, D.fitsL xs = true ↔ ∀ x ∈ xs, x.fits = true
  | [] => by simp [D.fitsL]
  | x :: xs => by simp [D.fitsL, fitsL_iff]
mutual
theorem eqv_refl : ∀ x : D, x.fits = true → D.eqv x x = true
  | .non, _ => rfl
  | .bl b, _ => by simp [D.eqv]
  | .int i, _ => by simp [D.eqv]
  | .str x, _ => by simp [D.eqv]
  | .tup xs, h => by rw [D.eqv]; exact eqvL_refl xs (by simpa [D.fits] using h)
  | .rol xs, h => by rw [D.eqv]; exact eqvL_refl xs (by simpa [D.fits] using h)
  | .loc l, h => by simp [D.fits] at h
theorem eqvL_refl : ∀ xs : List D, D.fitsL xs = true → D.eqvL xs xs = true
  | [], _ => rfl
  | x :: xs, h => by
    rw [D.fitsL, Bool.and_eq_true] at h
    rw [D.eqvL, eqv_refl x h.1, eqvL_refl xs h.2]; rfl
end
mutual
/-- no bool in it -/
def D.nb : D → Bool
  | .bl _ => false
  | .tup xs => D.nbL xs
  | .rol xs => D.nbL xs
  | _ => true
def D.nbL : List D → Bool
  | [] => true
  | x :: xs => x.nb && D.nbL xs
end
mutual
theorem eqv_eq : ∀ {x y : D}, x.nb = true → y.nb = true → D.eqv x y = true → x = y
  | .non, .non, _, _, _ => rfl
  | .int i, .int j, _, _, h => by simp [D.eqv] at h; rw [h]
  | .str i, .str j, _, _, h => by simp [D.eqv] at h; rw [h]
  | .tup xs, .tup ys, h1, h2, h => congrArg _ (eqvL_eq (by simpa [D.nb] using h1) (by simpa [D.nb] using h2) (by simpa [D.eqv] using h))
  | .rol xs, .rol ys, h1, h2, h => congrArg _ (eqvL_eq (by simpa [D.nb] using h1) (by simpa [D.nb] using h2) (by simpa [D.eqv] using h))
  | .bl _, _, h, _, _ => by simp [D.nb] at h
  | .non, .bl _, _, h, _ => by simp [D.nb] at h
  | .int _, .bl _, _, h, _ => by simp [D.nb] at h
  | .str _, .bl _, _, h, _ => by simp [D.nb] at h
  | .tup _, .bl _, _, h, _ => by simp [D.nb] at h
  | .rol _, .bl _, _, h, _ => by simp [D.nb] at h
  | .loc _, .bl _, _, h, _ => by simp [D.nb] at h
  | .loc _, .non, _, _, h => by simp [D.eqv] at h
  | .loc _, .int _, _, _, h => by simp [D.eqv] at h
  | .loc _, .str _, _, _, h => by simp [D.eqv] at h
  | .loc _, .tup _, _, _, h => by simp [D.eqv] at h
  | .loc _, .rol _, _, _, h => by simp [D.eqv] at h
  | .loc _, .loc _, _, _, h => by simp [D.eqv] at h
  | .non, .loc _, _, _, h => by simp [D.eqv] at h
  | .int _, .loc _, _, _, h => by simp [D.eqv] at h
  | .str _, .loc _, _, _, h => by simp [D.eqv] at h
  | .tup _, .loc _, _, _, h => by simp [D.eqv] at h
  | .rol _, .loc _, _, _, h => by simp [D.eqv] at h
  | .non, .int _, _, _, h => by simp [D.eqv] at h
  | .non, .str _, _, _, h => by simp [D.eqv] at h
  | .non, .tup _, _, _, h => by simp [D.eqv] at h
  | .non, .rol _, _, _, h => by simp [D.eqv] at h
  | .int _, .non, _, _, h => by simp [D.eqv] at h
  | .int _, .str _, _, _, h => by simp [D.eqv] at h
  | .int _, .tup _, _, _, h => by simp [D.eqv] at h
  | .int _, .rol _, _, _, h => by simp [D.eqv] at h
  | .str _, .non, _, _, h => by simp [D.eqv] at h
  | .str _, .int _, _, _, h => by simp [D.eqv] at h
  | .str _, .tup _, _, _, h => by simp [D.eqv] at h
  | .str _, .rol _, _, _, h => by simp [D.eqv] at h
  | .tup _, .non, _, _, h => by simp [D.eqv] at h
  | .tup _, .int _, _, _, h => by simp [D.eqv] at h
  | .tup _, .str _, _, _, h => by simp [D.eqv] at h
  | .tup _, .rol _, _, _, h => by simp [D.eqv] at h
  | .rol _, .non, _, _, h => by simp [D.eqv] at h
  | .rol _, .int _, _, _, h => by simp [D.eqv] at h
  | .rol _, .str _, _, _, h => by simp [D.eqv] at h
  | .rol _, .tup _, _, _, h => by simp [D.eqv] at h
theorem eqvL_eq : ∀ {xs ys : List D}, D.nbL xs = true → D.nbL ys = true → D.eqvL xs ys = true → xs = ys
  | [], [], _, _, _ => rfl
  | [], _ :: _, _, _, h => by simp [D.eqvL] at h
  | _ :: _, [], _, _, h => by simp [D.eqvL] at h
  | x :: xs, y :: ys, h1, h2, h => by
    rw [D.nbL, Bool.and_eq_true] at h1 h2
    rw [D.eqvL, Bool.and_eq_true] at h
    rw [eqv_eq h1.1 h2.1 h.1, eqvL_eq h1.2 h2.2 h.2]
end
mutual
/-- a value without lists, its tuples not too long -/
def D.pl : D → Prop
  | .tup xs => xs.length ≤ 1000000 ∧ D.plL xs
  | .rol _ => False
  | .loc _ => False
  | _ => True
def D.plL : List D → Prop
  | [] => True
  | x :: xs => x.pl ∧ D.plL xs
end
theorem plL_iff : ∀ {xs : List D}, D.plL xs ↔ ∀ x ∈ xs, x.pl
  | [] => by simp [D.plL]
  | x :: xs => by simp [D.plL, plL_iff]
theorem pair_perm {α : Type} {a b s t : α} (h : [a, b].Perm [s, t]) : (a = s ∧ b = t) ∨ (a = t ∧ b = s) := by
  have hm : a ∈ [s, t] := h.mem_iff.mp (by simp)
  simp only [List.mem_cons, List.not_mem_nil, or_false] at hm
  rcases hm with rfl | rfl
  · have := List.Perm.cons_inv h
    have := List.singleton_perm_singleton.mp this
    exact .inl ⟨rfl, this⟩
  · have h2 := h.trans (List.Perm.swap a s [])
    have := List.Perm.cons_inv h2
    have := List.singleton_perm_singleton.mp this
    exact .inr ⟨rfl, this⟩
section
variable {x : XQ} {QL : List D → Store → Prop} {S : Store} {ds acc : List D} {gd : Gd} {p : Pat} {te : DE} {σ : Sg}
/-- a comprehension that only reckons -/
theorem W_cPure (g : D → D) {tt} (hg : gd.ok S) (hl : acc.length + ds.length ≤ sizeLine) (h1 : ∀ d ∈ ds, WM (fun σ1 => W (X0, fun y S3 => y = g d ∧ S3 = S) tg (te σ1 S)) tg (p.bind S d σ)) (h2 : QL (acc ++ ds.map g) S) : W (x, QL) tt (compL gd p tYesD te ds acc σ S) := by
  refine W_cMap (fun d y => y = g d) (fun S' => S' = S) rfl hl (fun S' e => e ▸ hg) (fun d S' hd e => by subst e; exact h1 d hd) fun ys S' e h => ?_
  subst e
  have : ys = ds.map g := by
    clear h2 hl h1
    induction h with
    | nil => rfl
    | cons p _ ih => rw [p, ih]; rfl
  rw [this]; exact h2
end
theorem intsTo_mem {lo : Int} {n : Nat} {d : D} (h : d ∈ intsTo lo n) : ∃ i : Int, d = .int i ∧ lo ≤ i ∧ i < lo + n := by
  unfold intsTo at h
  obtain ⟨k, hk, rfl⟩ := List.mem_map.mp h
  have := List.mem_range.mp hk
  exact ⟨_, rfl, by omega, by omega⟩
theorem intsTo_len {lo : Int} {n : Nat} : (intsTo lo n).length = n := by simp [intsTo]
/-! texts -/
theorem strOk_app {a b : Str} (ha : PyData.strOk a = true) (hb : PyData.strOk b = true) : PyData.strOk (a ++ b) = true := by
  have e : (a ++ b).cps = a.cps ++ b.cps := rfl
  unfold PyData.strOk at *
  rw [e, Array.all_append, ha, hb]; rfl
theorem strOk_one {c : Nat} {a : Str} (ha : PyData.strOk a = true) (h : c ∈ a.cps.toList) : PyData.strOk ⟨#[c]⟩ = true := by
  unfold PyData.strOk at *
  rw [Array.all_eq_true'] at ha
  have := ha c (by simpa using h)
  simpa using this
theorem len_app {a b : Str} : (a ++ b).length = a.length + b.length := by
  show (a.cps ++ b.cps).size = _
  rw [Array.size_append]; rfl
theorem WM_in {α : Type} {q : α → Prop} {t : Tg q} {xs : List α} {i : Int} (h : 0 ≤ i) (h2 : i < xs.length) (hq : ∀ d ∈ xs, q d) : WM q t (atI xs i) := by
  have h3 : i.toNat < xs.length := by omega
  have : atI xs i = some xs[i.toNat] := by
    unfold atI ixN
    rw [if_pos h, if_pos h2, Option.bind_some, List.getElem?_eq_getElem h3]
  rw [this]
  exact hq _ (List.getElem_mem h3)
/-! ### the store behind the well: cells 0 and 1 are the well's -/
structure Fr (S S' : Store) : Prop where
  len : S.length ≤ S'.length
  keep : ∀ a, 2 ≤ a → a < S.length → S'[a]? = S[a]?
theorem Fr.refl (S : Store) : Fr S S := ⟨Nat.le_refl _, fun _ _ _ => rfl⟩
theorem Fr.trans (h : Fr S S') (h' : Fr S' S'') : Fr S S'' := ⟨Nat.le_trans h.len h'.len, fun a h2 hl => by rw [h'.keep a h2 (Nat.lt_of_lt_of_le hl h.len), h.keep a h2 hl]⟩
theorem Fr.app (T : Store) (h : Fr S S') : Fr S (S' ++ T) := ⟨by rw [List.length_append]; have := h.len; omega, fun a h2 hl => by
  rw [List.getElem?_append_left (Nat.lt_of_lt_of_le hl h.len), h.keep a h2 hl]⟩
theorem Fr.set {c : Cell} (h : Fr S S') (hl : S.length ≤ l) : Fr S (S'.set l c) := ⟨by rw [List.length_set]; exact h.len, fun a h2 hk => by
  rw [List.getElem?_set_ne (by omega), h.keep a h2 hk]⟩
theorem Fr.lst (h : Fr S S') (h2 : 2 ≤ l) (hl : lstAt S l = some xs) : lstAt S' l = some xs := by
  rw [lstAt_iff] at hl ⊢
  rw [h.keep l h2 (List.getElem?_eq_some_iff.mp hl).1, hl]
def WellOk (S : Store) : Prop := ∃ deep c d rows, lstAt S 1 = some [.int deep, .loc 0, .int c, .int d] ∧ lstAt S 0 = some rows ∧ rows ≠ [] ∧ ∀ z ∈ rows, ∃ i, z = .int i
theorem WellOk.len (h : WellOk S) : 2 ≤ S.length := by
  obtain ⟨_, _, _, _, h, _⟩ := h
  exact lstAt_lt h
theorem WellOk.app (T : Store) (h : WellOk S) : WellOk (S ++ T) := by
  obtain ⟨a, b, c, d, h1, h2, h3⟩ := h
  exact ⟨a, b, c, d, lstAt_app h1, lstAt_app h2, h3⟩
theorem WellOk.set (h : WellOk S) (hl : 2 ≤ l) : WellOk (S.set l (.lst xs)) := by
  obtain ⟨a, b, c, d, h1, h2, h3⟩ := h
  exact ⟨a, b, c, d, by rw [lstAt_set_ne (by omega)]; exact h1, by rw [lstAt_set_ne (by omega)]; exact h2, h3⟩
theorem lstAt_Fr_set (h : lstAt S l = some xs) (h2 : l ≠ m) : lstAt (S.set m (.lst ys)) l = some xs := by rw [lstAt_set_ne (Ne.symm h2)]; exact h
/-- a list of the store is changed, the store gets a new name -/
theorem extend_w {Q : D → Store → Prop} {tt : Tg Q} {S : Store} {l m : Nat} {ys zs : List D} (hl : lstAt S l = some ys) (hm : lstAt S m = some zs) (h : ys.length + zs.length ≤ sizeLine)
    (hq : ∀ T, T = S.set l (.lst (ys ++ zs)) → lstAt T l = some (ys ++ zs) → Q .non T) : WO Q tt (mExtend (.loc l) [.loc m] S) := by
  rw [o_extend, hl, WM_some, hm, WM_some]
  exact ⟨h, hq _ rfl (lstAt_set hl)⟩
theorem append_w {Q : D → Store → Prop} {tt : Tg Q} {S : Store} {l : Nat} {d : D} {ys : List D} (hl : lstAt S l = some ys) (h : ys.length < sizeLine)
    (hq : ∀ T, T = S.set l (.lst (ys ++ [d])) → lstAt T l = some (ys ++ [d]) → Q .non T) : WO Q tt (mAppend (.loc l) [d] S) := by
  rw [o_append, hl, WM_some]
  exact ⟨h, hq _ rfl (lstAt_set hl)⟩
theorem sorted_w {Q : D → Store → Prop} {tt : Tg Q} {S : Store} {l : Nat} {ys : List D} (hl : lstAt S l = some ys) (h : okSort ys) (hq : Q (.loc S.length) (S ++ [.lst (sortD ys)])) : WO Q tt (oSorted [.loc l] S) := by
  rw [o_sorted, hl, WM_some]
  exact ⟨h, hq⟩
theorem WM_at {q : D → Prop} {t : Tg q} {xs : List D} {i : Int} (h : 0 ≤ i) (h2 : i < xs.length) (hq : ∀ d ∈ xs, q d) : WM q t (atI xs i) := by
  obtain ⟨d, h3, h4⟩ := atI_of h h2
  rw [h4]
  exact hq d (List.mem_of_getElem? h3)
theorem WM_last {q : D → Prop} {t : Tg q} {xs : List D} (h : xs ≠ []) (hq : ∀ d ∈ xs, q d) : WM q t (atI xs (-1)) := by
  have hl : 0 < xs.length := List.length_pos_iff.mpr h
  have e : atI xs (-1) = xs[xs.length - 1]? := by
    unfold atI ixN
    rw [if_neg (by omega), if_pos (by omega), Option.bind_some]
    congr 1
    omega
  rw [e, List.getElem?_eq_getElem (by omega)]
  exact hq _ (List.getElem_mem _)
theorem bits_small {i : Int} {n : Nat} (h0 : 0 ≤ i) (h : i < 2 ^ n) (hn : 0 < n) : i.natAbs.log2 < n := by
  have h1 : i.natAbs < 2 ^ n := by
    have : ((i.natAbs : Nat) : Int) < ((2 ^ n : Nat) : Int) := by push_cast; rw [Int.natAbs_of_nonneg h0]; exact h
    exact_mod_cast this
  by_cases hz : i.natAbs = 0
  · rw [hz]; simpa using hn
  · exact (Nat.log2_lt hz).mpr h1
theorem pop_w {Q : D → Store → Prop} {tt : Tg Q} {S : Store} {l : Nat} {d : D} {ys : List D} (hl : lstAt S l = some (ys ++ [d]))
    (hq : ∀ T, T = S.set l (.lst ys) → lstAt T l = some ys → Q d T) : WO Q tt (mPop (.loc l) [] S) := by
  show WO Q tt (match S[l]? with | some (.lst ys) => (match ys[ys.length - 1]? with | some d => some (d, S.set l (.lst ys.dropLast)) | none => none) | _ => none)
  rw [lstAt_iff.mp hl]
  simp only [List.length_append, List.length_cons, List.length_nil, Nat.add_sub_cancel, Nat.zero_add, List.getElem?_concat_length, List.dropLast_concat]
  exact hq _ rfl (lstAt_set hl)
/-- the place that an int tells -/
def ixD : D → Nat
  | .int k => k.toNat
  | _ => 0
theorem intsTo_map_get {f : D → D} (xs : List D) : (intsTo 0 xs.length).map (fun d => f (xs.getD (ixD d) .non)) = xs.map f := by
  apply List.ext_getElem
  · simp [intsTo_len]
  · intro i h1 h2
    simp only [List.length_map] at h2
    simp [intsTo, ixD, List.getD_eq_getElem?_getD, h2]
mutual
def D.sz : D → Nat
  | .tup xs => 1 + D.szL xs
  | _ => 1
def D.szL : List D → Nat
  | [] => 0
  | x :: xs => x.sz + D.szL xs
end
theorem szL_app : ∀ (a b : List D), D.szL (a ++ b) = D.szL a + D.szL b
  | [], b => by simp [D.szL]
  | x :: a, b => by rw [List.cons_append, D.szL, D.szL, szL_app a b]; omega
/-- a comprehension that only reckons, with a test -/
theorem W_cFilt {x : XQ} {QL : List D → Store → Prop} {S : Store} {ds acc : List D} {gd : Gd} {p : Pat} {t : DT} {te : DE} {σ : Sg} (t' : D → Bool) (g : D → D) {tt} (hg : gd.ok S) (hl : acc.length + ds.length ≤ sizeLine)
    (h1 : ∀ d ∈ ds, WM (fun σ1 => WB ⟨fun S2 => t' d = true ∧ S2 = S ∧ W (X0, fun y S3 => y = g d ∧ S3 = S) tg (te σ1 S), fun S2 => t' d = false ∧ S2 = S, X0⟩ tg (t σ1 S)) tg (p.bind S d σ)) (h2 : QL (acc ++ (ds.filter t').map g) S) : W (x, QL) tt (compL gd p t te ds acc σ S) := by
  induction ds generalizing acc with
  | nil =>
    rw [compL, if_pos hg]
    rw [List.filter_nil, List.map_nil, List.append_nil] at h2
    exact h2
  | cons d r ih =>
    rw [compL, if_pos hg]
    have z := h1 d (by simp)
    rw [List.length_cons] at hl
    cases q1 : p.bind S d σ with
    | none => rw [q1] at z; exact z.elim
    | some σ1 =>
      rw [q1] at z
      simp only [WM] at z ⊢
      cases q2 : t σ1 S with
      | ok c S2 =>
        rw [q2] at z
        cases c with
        | true =>
          simp only [WB] at z ⊢
          obtain ⟨z0, rfl, z⟩ := z
          cases q3 : te σ1 S2 with
          | ok y S3 =>
            rw [q3] at z
            obtain ⟨rfl, rfl⟩ := z
            simp only
            rw [if_pos (by omega)]
            refine ih (by simp; omega) (fun d hd => h1 d (List.mem_cons_of_mem _ hd)) ?_
            rw [List.filter_cons_of_pos z0, List.map_cons] at h2
            rw [List.append_assoc]
            exact h2
          | ex e S3 => rw [q3] at z; exact z.elim
          | no => rw [q3] at z; exact z.elim
        | false =>
          simp only [WB] at z ⊢
          obtain ⟨z0, rfl⟩ := z
          refine ih (by omega) (fun d hd => h1 d (List.mem_cons_of_mem _ hd)) ?_
          rw [List.filter_cons_of_neg (by simp [z0])] at h2
          exact h2
      | ex e S2 => rw [q2] at z; exact z.elim
      | no => rw [q2] at z; exact z.elim
theorem ix_items {Q : D → Store → Prop} {tt : Tg Q} {S : Store} {c : D} {xs : List D} {i : Int} (h : itemsOf S c = some xs) : WO Q tt (oIx c (.int i) S) = WM (fun d => Q d S) tg (atI xs i) := by
  cases c with
  | tup ys => cases h; exact o_ixT
  | rol ys => cases h; exact o_ixR
  | loc l => rw [o_ixL, show lstAt S l = some xs from h, WM_some]
  | _ => cases h
theorem len_items {Q : D → Store → Prop} {tt : Tg Q} {S : Store} {c : D} {xs : List D} (h : itemsOf S c = some xs) : WO Q tt (oLen [c] S) = Q (.int xs.length) S := by
  cases c with
  | tup ys => cases h; exact o_lenT
  | rol ys => cases h; exact o_lenR
  | loc l => rw [o_lenL, show lstAt S l = some xs from h, WM_some]
  | _ => cases h
/-- a tuple or a list that stays, its items -/
def Cont (c : D) (gd : Gd) (xs : List D) (S : Store) : Prop := ∀ S', Fr S S' → itemsOf S' c = some xs ∧ itOf S' c = some (gd, xs) ∧ gd.ok S'
theorem Cont.tup {xs : List D} {S : Store} : Cont (.tup xs) none xs S := fun _ _ => ⟨rfl, rfl, trivial⟩
theorem Cont.loc {l : Nat} {xs : List D} {S : Store} (h2 : 2 ≤ l) (h : lstAt S l = some xs) : Cont (.loc l) (some (l, xs)) xs S := fun S' F => ⟨F.lst h2 h, it_loc (F.lst h2 h), lstAt_iff.mp (F.lst h2 h)⟩
theorem Cont.fr {c : D} {gd : Gd} {xs : List D} {S S' : Store} (h : Cont c gd xs S) (F : Fr S S') : Cont c gd xs S' := fun _ F' => h _ (F.trans F')
end
end DL

namespace DL
open PySem PySem.Spec PyProof.Rows L2
section
variable {Q : D → Store → Prop} {S : Store} {i j : Int} {a b : Str} {xs ys : List D} {l m : Nat} {d e : D} {tt : Tg Q}
theorem o_listXt : WO Q tt (oListX [.tup xs] S) = Q (.loc S.length) (S ++ [.lst xs]) := (rfl)
theorem o_listXr : WO Q tt (oListX [.rol xs] S) = Q (.loc S.length) (S ++ [.lst xs]) := (rfl)
theorem o_listXl : WO Q tt (oListX [.loc l] S) = WM (fun xs => Q (.loc S.length) (S ++ [.lst xs])) tg (lstAt S l) := o_list
theorem o_listXs : WO Q tt (oListX [.str a] S) = (a.cps.size ≤ sizeLine ∧ Q (.loc S.length) (S ++ [.lst (signsD a)])) := WO_if
theorem o_sortedXt : WO Q tt (oSortedX [.tup xs] S) = (okSort xs ∧ Q (.loc S.length) (S ++ [.lst (sortD xs)])) := by
  classical
  unfold oSortedX
  by_cases h : okSort xs <;> simp [h, WO]
theorem o_sortedXl : WO Q tt (oSortedX [.loc l] S) = WM (fun xs => okSort xs ∧ Q (.loc S.length) (S ++ [.lst (sortD xs)])) tg (lstAt S l) := o_sorted
end
theorem WS_mid (I : Sg → Store → Prop) {q : SQ} {k : Sg → Store → Prop} {r : SR} {tt : Tg (qn q k)} (h1 : WS (qn q I) tg r) (h2 : ∀ σ S, I σ S → k σ S) : WS (qn q k) tt r :=
  WS_mono h1 (fun σ S h => h2 σ S h) (fun _ _ h => h) (fun _ _ h => h) (fun _ _ h => h) fun _ _ _ h => h
theorem WB_mid (I J : Store → Prop) {q : BQ} {r : Res Bool} {tt : Tg q} (h1 : WB ⟨I, J, q.x⟩ tg r) (h2 : ∀ S, I S → q.t S) (h3 : ∀ S, J S → q.f S) : WB q tt r := by
  cases r with
  | ok b S => cases b; exact h3 _ h1; exact h2 _ h1
  | ex e S => exact h1
  | no => exact h1
theorem W_mid {α : Type} (I : α → Store → Prop) {x : XQ} {Q : α → Store → Prop} {r : Res α} {tt : Tg (x, Q)} (h1 : W (x, I) tg r) (h2 : ∀ a S, I a S → Q a S) : W (x, Q) tt r := W_mono h1 h2 fun _ _ h => h
section
variable {xs : List D}
theorem sIx_nn {n d : Nat} {k : Int} (h : 0 ≤ k) : HT.sIx n d (some k) = min k.toNat n := by
  unfold HT.sIx
  rcases Nat.lt_or_ge k.toNat n with h1 | h1 <;> simp <;> omega
theorem sIx_neg {n d : Nat} {k : Int} (h : k < 0) : HT.sIx n d (some k) = (n + k).toNat := by
  unfold HT.sIx
  show (if k < 0 then (k + (n : Int)).toNat else min k.toNat n) = _
  rw [if_pos h, Int.add_comm]
theorem cut_take {k : Int} (h : 0 ≤ k) : cutD xs none (some k) = xs.take k.toNat := by
  unfold cutD
  rw [sIx_nn h]
  show (xs.drop 0).take (min k.toNat xs.length - 0) = _
  rw [List.drop_zero, Nat.sub_zero, ← List.take_take, List.take_length]
theorem cut_drop {k : Int} (h : 0 ≤ k) : cutD xs (some k) none = xs.drop k.toNat := by
  unfold cutD
  rw [sIx_nn h]
  show (xs.drop (min k.toNat xs.length)).take (xs.length - min k.toNat xs.length) = _
  by_cases h1 : k.toNat ≤ xs.length
  · rw [Nat.min_eq_left h1, List.take_of_length_le (by rw [List.length_drop]; omega)]
  · rw [Nat.min_eq_right (by omega), List.drop_length, List.drop_eq_nil_of_le (by omega)]; simp
theorem cut_both {j k : Int} (h : 0 ≤ j) (h' : 0 ≤ k) : cutD xs (some j) (some k) = (xs.drop j.toNat).take (k.toNat - j.toNat) := by
  unfold cutD
  rw [sIx_nn h, sIx_nn h']
  by_cases h1 : j.toNat ≤ xs.length
  · rw [Nat.min_eq_left h1]
    by_cases h2 : k.toNat ≤ xs.length
    · rw [Nat.min_eq_left h2]
    · rw [Nat.min_eq_right (by omega), List.take_of_length_le (by rw [List.length_drop]; omega), List.take_of_length_le (by rw [List.length_drop]; omega)]
  · rw [show min j.toNat xs.length = xs.length by omega, List.drop_length, List.drop_eq_nil_of_le (by omega)]; simp
theorem cut_all {k : Int} (h : (xs.length : Int) ≤ k) : cutD xs none (some k) = xs := by
  rw [cut_take (by omega), List.take_of_length_le (by omega)]
theorem cut_last {k : Int} (h : k < 0) : cutD xs none (some k) = xs.take (xs.length + k).toNat := by
  unfold cutD
  rw [sIx_neg h]
  show (xs.drop 0).take ((xs.length + k).toNat - 0) = _
  rw [List.drop_zero, Nat.sub_zero]
end
theorem itOf_cell {S : Store} {l : Nat} {xs : List D} (h : S[l]? = some (.lst xs)) : itOf S (.loc l) = some (some (l, xs), xs) := it_loc (lstAt_iff.mpr h)
/-- cells from k on stand as they did; new ones may be there -/
structure Fk (k : Nat) (S S' : Store) : Prop where
  len : S.length ≤ S'.length
  keep : ∀ a, k ≤ a → a < S.length → S'[a]? = S[a]?
section
variable {k l : Nat} {S S' S'' : Store} {xs : List D} {c : Cell}
theorem Fk.refl (k : Nat) (S : Store) : Fk k S S := ⟨Nat.le_refl _, fun _ _ _ => rfl⟩
theorem Fk.trans (h : Fk k S S') (h' : Fk k S' S'') : Fk k S S'' := ⟨Nat.le_trans h.len h'.len, fun a h2 hl => by rw [h'.keep a h2 (Nat.lt_of_lt_of_le hl h.len), h.keep a h2 hl]⟩
theorem Fk.app (T : Store) (h : Fk k S S') : Fk k S (S' ++ T) := ⟨by rw [List.length_append]; have := h.len; omega, fun a h2 hl => by
  rw [List.getElem?_append_left (Nat.lt_of_lt_of_le hl h.len), h.keep a h2 hl]⟩
theorem Fk.set (h : Fk k S S') (hl : S.length ≤ l) : Fk k S (S'.set l c) := ⟨by rw [List.length_set]; exact h.len, fun a h2 hk => by
  rw [List.getElem?_set_ne (by omega), h.keep a h2 hk]⟩
theorem Fk.set1 (h : Fk k S S') (hl : l < k) : Fk k S (S'.set l c) := ⟨by rw [List.length_set]; exact h.len, fun a h2 hk => by
  rw [List.getElem?_set_ne (by omega), h.keep a h2 hk]⟩
theorem Fk.lst (h : Fk k S S') (h2 : k ≤ l) (hl : lstAt S l = some xs) : lstAt S' l = some xs := by
  rw [lstAt_iff] at hl ⊢
  rw [h.keep l h2 (List.getElem?_eq_some_iff.mp hl).1, hl]
theorem Fk.mono {k' : Nat} (h : Fk k S S') (hk : k ≤ k') : Fk k' S S' := ⟨h.len, fun a h2 hl => h.keep a (by omega) hl⟩
/-- what may be walked: a tuple, or a list that stays -/
def Ck (k : Nat) (c : D) (gd : Gd) (xs : List D) (S : Store) : Prop := ∀ S', Fk k S S' → itemsOf S' c = some xs ∧ itOf S' c = some (gd, xs) ∧ gd.ok S'
theorem Ck.tup : Ck k (.tup xs) none xs S := fun _ _ => ⟨rfl, rfl, trivial⟩
theorem Ck.loc (h2 : k ≤ l) (h : lstAt S l = some xs) : Ck k (.loc l) (some (l, xs)) xs S := fun S' F => ⟨F.lst h2 h, it_loc (F.lst h2 h), lstAt_iff.mp (F.lst h2 h)⟩
theorem Ck.fr {c : D} {gd : Gd} (h : Ck k c gd xs S) (F : Fk k S S') : Ck k c gd xs S' := fun _ F' => h _ (F.trans F')
end
theorem lstAt_h0 {xs : List D} {S : Store} : lstAt (.lst xs :: S) 0 = some xs := (rfl)
theorem lstAt_h1 {c : Cell} {xs : List D} {S : Store} : lstAt (c :: .lst xs :: S) 1 = some xs := (rfl)
theorem lstAt_h2 {c d : Cell} {xs : List D} {S : Store} : lstAt (c :: d :: .lst xs :: S) 2 = some xs := (rfl)
theorem lstAt_h3 {c d e : Cell} {xs : List D} {S : Store} : lstAt (c :: d :: e :: .lst xs :: S) 3 = some xs := (rfl)
/-! ranges that go down, new lists of what may be walked, places -/
theorem rg_down {i j : Int} (h : -1000000000 < j) (h' : i < 1000000000) (h2 : -1000000000 < i) (h3 : j < 1000000000) : okRg i j (-1) ∧ rgN i j (-1) = (i - j).toNat := by
  have e : Builtin.Range.rangeSize i j (-1) = if j < i then i - j else 0 := by
    unfold Builtin.Range.rangeSize
    rw [if_neg (by decide)]
    by_cases hl : i > j
    · rw [if_pos hl, if_pos hl]
      simp
    · rw [if_neg hl, if_neg hl]
  refine ⟨⟨by decide, by decide, ?_, by rw [e]; split <;> omega⟩, by unfold rgN; rw [e]; split <;> omega⟩
  unfold Builtin.Range.small
  rw [e]
  have fl : ∀ z : Int, -4000000000 ≤ z → z ≤ 4000000000 → Builtin.Range.rangeFitsLong z = true := fun z h1 h2 => by
    unfold Builtin.Range.rangeFitsLong
    simp only [Bool.and_eq_true, decide_eq_true_eq]
    omega
  rw [fl i (by omega) (by omega), fl j (by omega) (by omega), fl (-1) (by decide) (by decide), fl _ (by split <;> omega) (by split <;> omega), if_neg (show ¬ ((-1 : Int) > 0) by decide), fl (j + (-1 + 1)) (by omega) (by omega)]
  simp
theorem steps_succ {a k : Int} {n : Nat} : stepsTo a k (n + 1) = .int a :: stepsTo (a + k) k n := by
  unfold stepsTo
  rw [List.range_succ_eq_map, List.map_cons, List.map_map]
  rw [List.cons.injEq]
  refine ⟨by simp, List.map_congr_left fun b _ => ?_⟩
  simp only [Function.comp]
  congr 1
  push_cast
  rw [Int.add_mul]
  omega
section
variable {q : SQ} {σ : Sg} {S : Store} {G : DG} {b : DS}
/-- a loop over a range that goes down -/
theorem WS_dloop (I : Int → Sg → Store → Prop) {hi : Int} {n : Nat} {tt} (h0 : I hi σ S)
    (h1 : ∀ i σ S, i ≤ hi → hi - n < i → I i σ S → WS (qk q fun σ S => WS (lq q (I (i - 1))) tg (b σ S)) tg (G (.int i) σ S))
    (h2 : ∀ σ S, I (hi - n) σ S → q.nx σ S) : WS q tt (forL none G b (stepsTo hi (-1) n) σ S) := by
  induction n generalizing hi σ S with
  | zero =>
    rw [show stepsTo hi (-1) 0 = [] from rfl, WS_f0]
    exact h2 _ _ (by simpa using h0)
  | succ n ih =>
    rw [steps_succ, WS_f1]
    have e : ((hi + -1 : Int) - (n : Int)) = hi - ((n + 1 : Nat) : Int) := by push_cast; omega
    refine WS_mono (t' := tg) (h1 hi σ S (by omega) (by push_cast; omega) h0) (fun σ1 S1 z => ?_) (fun _ _ z => z) (fun _ _ z => z) (fun _ _ z => z) (fun _ _ _ z => z)
    refine WS_mono (t' := tg) (t := tg) z (fun σ2 S2 z => ?_) (fun _ _ z => z) (fun _ _ z => z) (fun σ2 S2 z => ?_) (fun _ _ _ z => z)
    · exact ih z (fun i σ S a b c => h1 i σ S (by omega) (by push_cast; omega) c) fun σ S c => h2 σ S (by rw [← e]; exact c)
    · exact ih z (fun i σ S a b c => h1 i σ S (by omega) (by push_cast; omega) c) fun σ S c => h2 σ S (by rw [← e]; exact c)
end
theorem o_listXi {Q : D → Store → Prop} {S : Store} {d : D} {xs : List D} {tt : Tg Q} (h : itemsOf S d = some xs) : WO Q tt (oListX [d] S) = Q (.loc S.length) (S ++ [.lst xs]) := by
  have e : oListX [d] S = oList [d] S := by
    unfold oListX
    split
    · rename_i z e; cases e; cases h
    · rfl
  rw [e, o_list, h]
  rfl
theorem ixN_of {n : Nat} {i : Int} (h : 0 ≤ i) (h2 : i < n) : ixN n i = some i.toNat := by
  unfold ixN
  rw [if_pos h, if_pos h2]
section
variable {S : Store} {σ : Sg} {xs ys : List D} {ps qs : List Pat} {d : D} {i : Nat}
theorem b_un : Pat.bind S (.un ps) (.tup xs) σ = Pat.bindL S ps xs σ := by rw [Pat.bind]; rfl
theorem b_nil : Pat.bindL S [] [] σ = some σ := by rw [Pat.bindL]
theorem b_cnm : Pat.bindL S (.nm i :: ps) (d :: xs) σ = Pat.bindL S ps xs (σ.set i (some d)) := by rw [Pat.bindL, b_nm]
theorem b_cun : Pat.bindL S (.un qs :: ps) (.tup ys :: xs) σ = (Pat.bindL S qs ys σ).bind fun σ' => Pat.bindL S ps xs σ' := by
  rw [Pat.bindL, b_un]
  cases Pat.bindL S qs ys σ <;> rfl
end
/-! ints, sorted -/
def sortI (as : List Int) : List Int := as.mergeSort fun a b => decide (a ≤ b)
theorem sortD_ints (as : List Int) : sortD (as.map D.int) = (sortI as).map D.int := by
  unfold sortD sortI
  rw [List.map_mergeSort (r := fun a b : Int => decide (a ≤ b)) (s := PySem.W.dataLe false D.py)]
  intro a _ b _
  show decide (a ≤ b) = !PySem.W.dataLt (.int b) (.int a)
  rw [PySem.W.dataLt_int, PySem.W.not_lt_int]
theorem sortI_perm (as : List Int) : (sortI as).Perm as := List.mergeSort_perm _ _
theorem sortI_sorted (as : List Int) : (sortI as).Pairwise (· ≤ ·) := by
  refine (List.pairwise_mergeSort (le := fun a b : Int => decide (a ≤ b)) (fun a b c h1 h2 => ?_) (fun a b => ?_) as).imp fun h => by simpa using h
  · simp only [decide_eq_true_eq] at *; omega
  · simp only [Bool.or_eq_true, decide_eq_true_eq]; omega
theorem okSort_ints (as : List Int) : okSort (as.map D.int) := by
  have hd : D.depL (as.map D.int) = 0 := by
    induction as with
    | nil => rfl
    | cons a r ih => rw [List.map_cons, D.depL, ih]; rfl
  refine ⟨fitsL_iff.mpr fun y hy => ?_, by rw [hd]; decide, fun a ha b hb => ?_, .inr fun d hd => ?_⟩
  · obtain ⟨z, _, rfl⟩ := List.mem_map.mp hy; rfl
  · obtain ⟨z, _, rfl⟩ := List.mem_map.mp ha
    obtain ⟨z', _, rfl⟩ := List.mem_map.mp hb
    rfl
  · obtain ⟨e, he, rfl⟩ := List.mem_map.mp hd
    obtain ⟨z, _, rfl⟩ := List.mem_map.mp he
    exact ⟨(by intro h; cases h), (by intro xs h; cases h)⟩
def midI (a b c : Int) : Int := max (min a b) (min (max a b) c)
theorem sort3 (a b c : Int) : ∃ p r, sortI [a, b, c] = [p, midI a b c, r] := by
  have hp := sortI_perm [a, b, c]
  have hs := sortI_sorted [a, b, c]
  have hl := hp.length_eq
  rcases q : sortI [a, b, c] with _ | ⟨p, _ | ⟨m, _ | ⟨r, _ | ⟨s, t⟩⟩⟩⟩ <;> rw [q] at hl hp hs <;> simp at hl
  refine ⟨p, r, ?_⟩
  have h1 : p ∈ [a, b, c] := hp.mem_iff.mp (by simp)
  have h2 : (p = a ∧ ((m = b ∧ r = c) ∨ (m = c ∧ r = b))) ∨ (p = b ∧ ((m = a ∧ r = c) ∨ (m = c ∧ r = a))) ∨ (p = c ∧ ((m = a ∧ r = b) ∨ (m = b ∧ r = a))) := by
    simp only [List.mem_cons, List.not_mem_nil, or_false] at h1
    rcases h1 with rfl | rfl | rfl
    · exact .inl ⟨rfl, pair_perm ((List.perm_cons _).mp hp)⟩
    · exact .inr (.inl ⟨rfl, pair_perm ((List.perm_cons _).mp (hp.trans (.swap ..)))⟩)
    · refine .inr (.inr ⟨rfl, pair_perm ((List.perm_cons _).mp (hp.trans ?_))⟩)
      exact (List.Perm.cons _ (.swap ..)).trans (.swap ..)
  simp only [List.mem_cons, List.not_mem_nil, or_false, List.pairwise_cons] at hs
  have h8 := hs.1 m (.inl rfl)
  have h9 := hs.2.1 r rfl
  congr 2
  unfold midI
  omega
theorem midI_comm1 (a b c : Int) : midI b a c = midI a b c := by unfold midI; omega
theorem midI_comm2 (a b c : Int) : midI a c b = midI a b c := by unfold midI; omega
/-- only new cells -/
def Ap (S S' : Store) : Prop := ∃ T, S' = S ++ T
section
variable {S S' S'' : Store} {l k : Nat} {c : Cell} {xs : List D}
theorem Ap.refl (S : Store) : Ap S S := ⟨[], by simp⟩
theorem Ap.trans (h : Ap S S') (h' : Ap S' S'') : Ap S S'' := by
  obtain ⟨T, rfl⟩ := h
  obtain ⟨U, rfl⟩ := h'
  exact ⟨T ++ U, by rw [List.append_assoc]⟩
theorem Ap.app (T : Store) (h : Ap S S') : Ap S (S' ++ T) := h.trans ⟨T, rfl⟩
theorem Ap.set (h : Ap S S') (hl : S.length ≤ l) : Ap S (S'.set l c) := by
  obtain ⟨T, rfl⟩ := h
  exact ⟨T.set (l - S.length) c, by rw [List.set_append_right _ _ hl]⟩
theorem Ap.lst (h : Ap S S') (hl : lstAt S l = some xs) : lstAt S' l = some xs := by
  obtain ⟨T, rfl⟩ := h
  exact lstAt_app hl
theorem Ap.fk (h : Ap S S') : Fk k S S' := by
  obtain ⟨T, rfl⟩ := h
  exact (Fk.refl _ _).app _
theorem Ap.len (h : Ap S S') : S.length ≤ S'.length := (h.fk (k := 0)).len
end
section
variable {S : Store} {b : Bool} {i : Int} {z : Str} {xs : List D}
theorem nd_non : noDct .non S = true := (rfl)
theorem nd_bl : noDct (.bl b) S = true := (rfl)
theorem nd_int : noDct (.int i) S = true := (rfl)
theorem nd_str : noDct (.str z) S = true := (rfl)
theorem nd_tup : noDct (.tup xs) S = true := (rfl)
theorem nd_rol : noDct (.rol xs) S = true := (rfl)
end
section
variable {x : XQ} {QL : List D → Store → Prop} {p : Pat} {te : DE} {t : DT} {acc ds xs : List D} {σ : Sg} {S : Store} {d : D} {l : Nat}
theorem W_cg0 {tt} : W (x, QL) tt (compL (some (l, xs)) p t te [] acc σ S) = (lstAt S l = some xs ∧ QL acc S) := by
  rw [compL]
  by_cases h : lstAt S l = some xs
  · rw [if_pos (show Gd.ok (some (l, xs)) S from lstAt_iff.mp h)]; simp [h, W]
  · rw [if_neg (show ¬ Gd.ok (some (l, xs)) S from fun z => h (lstAt_iff.mpr z))]; simp [h, W]
theorem W_cg1 {tt : Tg (x, QL)} : W (x, QL) tt (compL (some (l, xs)) p t te (d :: ds) acc σ S) = (lstAt S l = some xs ∧ WM (fun σ1 => WB ⟨fun S2 => W (X0, fun y S3 => acc.length < sizeLine ∧ W (x, QL) tg (compL (some (l, xs)) p t te ds (acc ++ [y]) σ S3)) tg (te σ1 S2), fun S2 => W (x, QL) tg (compL (some (l, xs)) p t te ds acc σ S2), X0⟩ tg (t σ1 S)) tg (p.bind S d σ)) := by
  rw [compL]
  by_cases h : lstAt S l = some xs
  · rw [if_pos (show Gd.ok (some (l, xs)) S from lstAt_iff.mp h)]
    simp only [h, true_and]
    cases p.bind S d σ with
    | none => rfl
    | some σ1 =>
      simp only [WM]
      cases t σ1 S with
      | ok c S2 =>
        cases c with
        | true =>
          simp only [WB]
          cases te σ1 S2 with
          | ok y S3 =>
            simp only [W]
            by_cases hl : acc.length < sizeLine <;> simp [hl]
          | _ => rfl
        | false => rfl
      | _ => rfl
  · rw [if_neg (show ¬ Gd.ok (some (l, xs)) S from fun z => h (lstAt_iff.mpr z))]; simp [h, W]
theorem W_cx1 {tt : Tg (x, QL)} : W (x, QL) tt (compL none p t te (d :: ds) acc σ S) = WM (fun σ1 => WB ⟨fun S2 => W (X0, fun y S3 => acc.length < sizeLine ∧ W (x, QL) tg (compL none p t te ds (acc ++ [y]) σ S3)) tg (te σ1 S2), fun S2 => W (x, QL) tg (compL none p t te ds acc σ S2), X0⟩ tg (t σ1 S)) tg (p.bind S d σ) := by
  rw [compL, if_pos (show Gd.ok none S from trivial)]
  cases p.bind S d σ with
  | none => rfl
  | some σ1 =>
    simp only [WM]
    cases t σ1 S with
    | ok c S2 =>
      cases c with
      | true =>
        simp only [WB]
        cases te σ1 S2 with
        | ok y S3 => by_cases hl : acc.length < sizeLine <;> simp [hl, W]
        | _ => rfl
      | false => rfl
    | _ => rfl
end
end DL

/-! DLE: own exceptions whose __init__ calls super().__init__ and keeps its arguments; raise; try. -/
namespace PySem
namespace XcI
open PySem.W PySem.Calls PyProof.Rows PySem.HandSPX
section
variable {prog : Program} {w : World} {A : Around} {E : Value → Shared → Prop} {R : Result → Shared → Prop} {s : Shared} {K : Frag} {mg mb m : Str → Option Value} {C cc cda f L x : Addr} {qual : Str} {scope : Scope} {body : List Stmt}
/-- ValueError.__init__ bound to a fresh exception, called -/
theorem call_mw {h : Heap} {g : Array GenState} {d : Drawn} {t : Nat} {os : OsState} {nm q : Str} {N : Addr} {bs bm : List Value} {hdct : Bool} {sn : List Str} {sub : List Value} {ab : Bool} {col : Option Bool} {dd : Option Addr} {k0 k1 k2 k3 k5 : Option Value} {u e t0 : Addr} {rest : List Value} {Q : Value → Shared → Prop}
    (hC : h.get? C = some (excClassObj nm q C N bs bm hdct sn sub ab col dd k0 k1 k2 k3 k5 "ValueError.__new__")) (he : h.get? e = some (excO C t0)) (hu : h.get? u = some (kxs_mw "ValueError.__init__" e)) (hrest : rest.length ≤ sizeLine)
    (hq : ∀ h' t1, (∀ b o, b ≠ e → h.get? b = some o → h'.get? b = some o) → h'.get? e = some (excO C t1) → Q .none ⟨h', g, d, t, os⟩) :
    wpAny (model prog w) A (call (.ref u) rest) Q E ⟨h, g, d, t, os⟩ := by
  refine wpAny_call (codeAny_of_tree ?_)
  show wpAny _ A.in1 (callAny (.ref u) ⟨rest, []⟩) _ _ _
  simp only [callAny]
  refine wpAny_bind (wpAny_load hu ?_)
  simp only [kxs_mw, show (Value.type "method-wrapper" == Value.type "method" || Value.type "method-wrapper" == Value.type "builtin_function_or_method" || Value.type "method-wrapper" == Value.type "method-wrapper") = true by decide, if_true]
  refine KFB.if_so (by decide) ?_
  refine wpAny_bind (ESX.check_bound F.excBase_ValueError hC he rfl ?_)
  refine wpAny_bind (wpAny_pure (wpAny_pure ?_))
  refine ⟨Code.quiet_builtin _ (by decide +kernel), codeAny_builtin F.excBase_ValueError.initEntry ?_⟩
  rw [Around.under_plainId F.excBase_ValueError.init.plain _]
  wp_walk
  refine hq _ h.objs.size (fun b o hb ho => ?_) ?_
  · rw [Heap.get?_update_other _ _ (Ne.symm hb)]
    exact Heap.get?_push_of_some _ ho
  · rw [Heap.get?_update_self _ (Heap.get?_push_of_some _ he) rfl]
    rfl
/-- what the written part says of the class at C -/
structure Cls (K : Frag) (mg : Str → Option Value) (name : Str) (C : Addr) : Prop where
  gC : mg name = some (.ref C)
  cls : ∃ nm q N bs bm sn sub ab col dd k0 k1 k2 k3 k5, K.lookup C = some (excClassObj nm q C N bs bm true sn sub ab col dd k0 k1 k2 k3 k5 "ValueError.__new__") ∧ refsVE bm = true
  sa : findIn K (.ref C) "__setattr__" = some (some (.builtin "object.__setattr__"))
  ga : findIn K (.ref C) "__getattribute__" = some (some (.builtin "BaseException.__getattribute__"))
  gg : findIn K (.ref C) "__getattr__" = some none
  kC : keepIn K (.ref C) = true
  exC : subIn K (.ref C) (.type "BaseException") = some true
  tyC : typeIn K (.ref C) = some (.type "type")
  hdC : hasDictIn K C = true
  sup : ks_superIn K C C "__init__" = some (some (.builtin "ValueError.__init__"))
  vE : subIn K (.ref C) (.type "ValueError") = some true
  mC : mroIn K C (.ref C) = some true
  ha : findIn K (.ref C) "__class__" = some (some (.builtin "object.__class__"))
  hnn : specialIn K (.builtin "object.__class__") "__get__" = some (some (.builtin "getset_descriptor.__get__"))
  ht : takesIn K (.builtin "object.__class__") = some true
  hm : mroIn K C (.type "object") = some true
  any : nsIn K cStatics "thirdparty.any" = some none
  noS : mg "super" = none
/-- super().__init__(e, ..) in an __init__ -/
theorem sup_call {name : Str} {params : Arguments} {dV kV doc pm ct oc cl ccl : Value} {an od cdd cld : Option Addr} {osl ccs csl : Array (Option Value)} {vs : Array Value} {file : Str} {tf : Tok} {e : Expr} {es : List Expr} {us : List Value} {t0 : Addr} {p0 p1 p2 pos : Pos} {ar : Arg} {Q : Value → Shared → Prop}
    (T : Cls K mg name C) (X : K.In s.heap) (G : s.heap.Ns mainGlobals mg) (B : s.heap.Ns builtinsNs mb) (hB : mb "super" = some (.type "super")) (hn : s.heap.Ns L m) (hself : m "self" = some (.ref x)) (hx : s.heap.get? x = some (excO C t0)) (hxL : x ≠ L) (hxG : x ≠ mainGlobals) (hxB : x ≠ builtinsNs)
    (hf : K.lookup f = some ⟨oc, od, .func (fnX "__init__" qual params body scope [("__class__", cc)] dV kV doc pm an (.ref cda) ct), osl⟩) (hp : (params.posonlyargs ++ params.args).head? = some ar) (har : ar.arg = "self")
    (hcode : K.lookup cda = some ⟨ccl, cdd, .fields vs, ccs⟩) (hvs : vs[2]? = some (.str file tf)) (hfile : ((prog.main.file : Str) == file) = true) (hcell : K.lookup cc = some ⟨cl, cld, .cell (some (.ref C)), csl⟩)
    (hks : scope.names.lookup ("super" : Str) = some .globalImplicit) (hkc : scope.names.lookup ("__class__" : Str) = some .free) (hka : scope.names.lookup ("self" : Str) = some .local) (hk : scope.kind = .function)
    (htop : (prog.main.scope.names.lookup ("super" : Str)).isSome = false) (hl : us.length ≤ sizeLine)
    (he : starEach (e :: es) (ksEnv qual scope L f (.ref cda) cc) = (false, eval e (ksEnv qual scope L f (.ref cda) cc)) :: starEach es (ksEnv qual scope L f (.ref cda) cc)) (hpl : (backTo pos (starEach es (ksEnv qual scope L f (.ref cda) cc))).any (·.1) = false)
    (hargs : ∀ (s' : Shared) (Q : List Value → Shared → Prop), s'.heap.Ns L m → Q us s' → wpAny (model prog w) A (spliced ((false, eval e (ksEnv qual scope L f (.ref cda) cc)) :: backTo pos (starEach es (ksEnv qual scope L f (.ref cda) cc)))) Q E s')
    {pl : Sem Bool} (hev : eval (.Call (.Attribute (.Call (.Name "super" p0) [] [] p1) "__init__" p2) (e :: es) [] pos) (ksEnv qual scope L f (.ref cda) cc) = (do
      let ov ← attributeBase (.Call (.Name "super" p0) [] [] p1) "__init__" (ksEnv qual scope L f (.ref cda) cc) (eval (.Call (.Name "super" p0) [] [] p1) (ksEnv qual scope L f (.ref cda) cc))
      standAt p2.atName
      let (f', first) ← holding [ov] (getMethod ov "__init__" pl)
      callWith pos f' first (backTo pos (starEach (e :: es) (ksEnv qual scope L f (.ref cda) cc))) []))
    (hq : ∀ h' tk t1, (∀ b o, b ≠ x → s.heap.get? b = some o → h'.get? b = some o) → h'.get? x = some (excO C t1) → Q .none { s with heap := h', toks := tk }) :
    _root_.PySem.wpAt (model prog w) A (.func body (ksEnv qual scope L f (.ref cda) cc)) (eval (.Call (.Attribute (.Call (.Name "super" p0) [] [] p1) "__init__" p2) (e :: es) [] pos) (ksEnv qual scope L f (.ref cda) cc)) Q E s := by
  obtain ⟨nm, q, N, bs, bm, sn, sub, ab, col, dd, k0, k1, k2, k3, k5, hC, hbm⟩ := T.cls
  have hcl : clsIn K C = some { name := nm, bases := bs, mro := .ref C :: bm, ns := N, qualname := q, hasDict := true, slotNames := sn, subclasses := sub, abstract := ab, collection := col, hasDel := false } := by unfold clsIn; rw [hC] <;> rfl
  obtain ⟨hh, g, d, t, os⟩ := s
  refine ks_wpAt_MethodCall ?_ hev
  refine ks_wpAt_super_base (env := ksEnv qual scope L f (.ref cda) cc) hks hkc rfl rfl (X _ _ hf) rfl hp rfl (X _ _ hcode) rfl hvs hfile htop ?_
  refine ks_loadName_global hk hks (loadGlobal_builtin (env := ksEnv qual scope L f (.ref cda) cc) G T.noS B hB ⟨rfl, ?_⟩)
  refine wpAny_loadName_free hk hkc rfl ⟨_, X _ _ hcell, rfl⟩ ?_
  rw [har]
  refine wpAny_loadName_local hk hka hn hself ?_
  refine ks_wpAny_isType_cls (X _ _ hC) rfl ⟨rfl, ?_⟩
  refine ks_wpAny_call_super (X _ _ hC) rfl hx rfl (fun c z => by cases z) (looks_mroIn X T.mC) (fun h1 hso k1' => ?_)
  have X1 : K.In h1 := X.keeps k1'
  have hm := T.sup
  unfold ks_superIn at hm
  rw [hcl] at hm
  have I1 : InstAt h1 x (excO C t0) C none := ⟨k1' _ _ hx, rfl, rfl, trivial⟩
  refine kxs_getMethod kxs_ValueError hso (looks_opaque X1 T.any) (l₀ := .ref C :: bm) (fun A Q E s k q => wpAny_bind ((looks_clsIn X1 hcl) A _ E s k (wpAny_pure q))) rfl X1 hm (I1.type.andThen (looks_subIn X1 T.vE)) (ks_ne X1 I1 hcl) rfl ?_
  have hsz : x ≠ h1.objs.size := Nat.ne_of_lt (Heap.lt_size (k1' _ _ hx))
  have k2' : ∀ b o, hh.get? b = some o → (h1.push (kxs_mw "ValueError.__init__" x)).get? b = some o := fun b o z => Heap.get?_push_of_some _ (k1' b o z)
  have hmw : (h1.push (kxs_mw "ValueError.__init__" x)).get? h1.objs.size = some (kxs_mw "ValueError.__init__" x) := Heap.get?_push_at rfl rfl
  show wpAny _ _ (callWith pos (.ref h1.objs.size) [] (backTo pos (starEach (e :: es) (ksEnv qual scope L f (.ref cda) cc))) []) _ _ _
  rw [he]
  refine kxs_callWith (i := "ValueError.__init__") (x := x) (by show (false || (backTo pos (starEach es (ksEnv qual scope L f (.ref cda) cc))).any (·.1)) = false; rw [hpl]; rfl) (evalArgs_plain ?_)
  refine hargs _ _ (hn.keeps k2') ⟨hmw, ?_⟩
  refine call_mw (X1 _ _ hC |> fun z => Heap.get?_push_of_some _ z) (k2' _ _ hx) hmw (by simpa using hl) fun h' t1 k3' hx' => ?_
  exact hq h' _ t1 (fun b o hb z => k3' b o hb (k2' b o z)) hx'
/-- what __init__ leaves of a fresh exception at x -/
structure Left (h h' : Heap) (x C dx t1 : Addr) (m : Str → Option Value) : Prop where
  keep : ∀ b o, b ≠ x → h.get? b = some o → h'.get? b = some o
  obj : h'.get? x = some { cls := .ref C, dict := some dx, data := .fields #[.ref t1, .none, .none, .none, .bool false, .none] }
  dbig : h.objs.size ≤ dx
  dne : dx ≠ x
  ns : h'.Ns1 dx m
theorem ldN {M : Model} {env : Env} {m : Str → Option Value} {x : Str} {pos : Pos} {v : Value} {Q : Value → Shared → Prop} (hn : s.heap.Ns env.locals m) (hv : m x = some v) (hk : env.scope.kind = .function) (hl : env.kindOf x = some .local) (hd : (x == ("__debug__" : Str)) = false) (h : Q v s) :
    wpAny M A (eval (.Name x pos) env) Q E s := wpAny_Name (wpAny_loadName_local hk hl hn hv h) hd
/-- the text of an __init__ -/
structure Ini (K : Frag) (P : Program) (C fI : Addr) (fs : List Str) (bodyOk : List Stmt → Prop) : Prop where
  ex : ∃ (oc : Value) (od : Option Addr) (osl : Array (Option Value)) (qual : Str) (params : Arguments) (body : List Stmt) (scope : Scope) (doc pm ct : Value) (an : Option Addr) (cc cda : Addr) (ccl : Value) (cdd : Option Addr) (vs : Array Value) (ccs : Array (Option Value)) (file : Str) (tf : Tok) (cl : Value) (cld : Option Addr) (csl : Array (Option Value)) (ar : Arg),
    K.lookup fI = some ⟨oc, od, .func (fnX "__init__" qual params body scope [("__class__", cc)] .none .none doc pm an (.ref cda) ct), osl⟩ ∧ codeIn K (.ref cda) qual = true ∧ K.lookup cda = some ⟨ccl, cdd, .fields vs, ccs⟩ ∧ vs[2]? = some (.str file tf) ∧ ((P.main.file : Str) == file) = true ∧
    K.lookup cc = some ⟨cl, cld, .cell (some (.ref C)), csl⟩ ∧ (params.posonlyargs ++ params.args).head? = some ar ∧ ar.arg = "self" ∧ bodyOk body ∧
    scope.names.lookup ("super" : Str) = some .globalImplicit ∧ scope.names.lookup ("__class__" : Str) = some .free ∧ scope.names.lookup ("self" : Str) = some .local ∧ (∀ y ∈ fs, scope.names.lookup y = some .local) ∧ scope.kind = .function ∧ scope.isCoroutine = false ∧ scope.isGenerator = false ∧ (∀ x ∈ scope.names, x.2 ≠ .cell) ∧
    (∀ (s : Shared) (us : List Value), us.length = fs.length + 1 → BindsTo s (fnX "__init__" qual params body scope [("__class__", cc)] .none .none doc pm an (.ref cda) ct) ⟨us, []⟩ (((("self" : Str)) :: fs).zip us))
def body1 (f1 : Str) (p0 p1 p2 p3 p4 p5 q1 q2 q3 q4 : Pos) : List Stmt := [.Expr (.Call (.Attribute (.Call (.Name "super" p0) [] [] p1) "__init__" p2) [.Name f1 p3] [] p4) p5, .Assign [.Attribute (.Name "self" q1) f1 q2] (.Name f1 q3) q4]
def body2 (f1 f2 : Str) (p0 p1 p2 p3 p6 p4 p5 q1 q2 q3 q4 r1 r2 r3 r4 : Pos) : List Stmt := [.Expr (.Call (.Attribute (.Call (.Name "super" p0) [] [] p1) "__init__" p2) [.Name f1 p3, .Name f2 p6] [] p4) p5, .Assign [.Attribute (.Name "self" q1) f1 q2] (.Name f1 q3) q4, .Assign [.Attribute (.Name "self" r1) f2 r2] (.Name f2 r3) r4]
def Sup (es : List Expr) (p0 p1 p2 pos : Pos) : Prop := ∃ pl : Env → Sem Bool, ∀ env, eval (.Call (.Attribute (.Call (.Name "super" p0) [] [] p1) "__init__" p2) es [] pos) env = (do
      let ov ← attributeBase (.Call (.Name "super" p0) [] [] p1) "__init__" env (eval (.Call (.Name "super" p0) [] [] p1) env)
      standAt p2.atName
      let (f', first) ← holding [ov] (getMethod ov "__init__" (pl env))
      callWith pos f' first (backTo pos (starEach es env)) [])
abbrev is1 (f1 : Str) (b : List Stmt) : Prop := ∃ p0 p1 p2 p3 p4 p5 q1 q2 q3 q4, b = body1 f1 p0 p1 p2 p3 p4 p5 q1 q2 q3 q4 ∧ Sup [.Name f1 p3] p0 p1 p2 p4
abbrev is2 (f1 f2 : Str) (b : List Stmt) : Prop := ∃ p0 p1 p2 p3 p6 p4 p5 q1 q2 q3 q4 r1 r2 r3 r4, b = body2 f1 f2 p0 p1 p2 p3 p6 p4 p5 q1 q2 q3 q4 r1 r2 r3 r4 ∧ Sup [.Name f1 p3, .Name f2 p6] p0 p1 p2 p4
theorem one_size (v : Value) : [v].length ≤ sizeLine := by
  rw [sizeLine_eq]
  exact (by decide : 1 ≤ 16777216)
theorem two_size (v u : Value) : [v, u].length ≤ sizeLine := by
  rw [sizeLine_eq]
  exact (by decide : 2 ≤ 16777216)
theorem init1 {name f1 : Str} {fI t0 : Addr} {v : Value} (T : Cls K mg name C) (hno : findIn K (.ref C) f1 = some none) (hs1 : (("self" : Str) == f1) = false) (hd1 : (f1 == ("__debug__" : Str)) = false) (I : Ini K prog C fI [f1] (is1 f1)) (htop : (prog.main.scope.names.lookup ("super" : Str)).isSome = false)
    (X : K.In s.heap) (hlim : s.heap.NoLimit) (G : s.heap.Ns mainGlobals mg) (B : s.heap.Ns builtinsNs mb) (hB : mb "super" = some (.type "super")) (hx : s.heap.get? x = some (excO C t0)) (hxG : x ≠ mainGlobals) (hxB : x ≠ builtinsNs) (hroom : A.depth < recursionLimit)
    (hxK : K.lookup x = none)
    (hq : ∀ h' tk dx t1, Left s.heap h' x C dx t1 (fun y => if y = f1 then some v else none) → R (.ok (.ret .none)) { s with heap := h', toks := tk }) :
    codeAny (model prog w) A (.call (.ref fI) ⟨[.ref x, v], []⟩) R s := by
  obtain ⟨oc, od, osl, qual, params, body, scope, doc, pm, ct, an, cc, cda, ccl, cdd, vs, ccs, file, tf, cl, cld, csl, ar, hf, hcd, hcode, hvs, hfile, hcell, hp, har, ⟨p0, p1, p2, p3, p4, p5, q1, q2, q3, q4, rfl, pl, hev⟩, hks, hkc, hka, hkf, hk, hco, hgen, hnc, hbind⟩ := I.ex
  have hkf1 := hkf f1 (List.mem_cons_self ..)
  obtain ⟨nm, q, N, bs, bm, sn, sub, ab, col, dd, k0, k1, k2, k3, k5, hC, hbm⟩ := T.cls
  have hcl : clsIn K C = some { name := nm, bases := bs, mro := .ref C :: bm, ns := N, qualname := q, hasDict := true, slotNames := sn, subclasses := sub, abstract := ab, collection := col, hasDel := false } := by unfold clsIn; rw [hC] <;> rfl
  refine ks_codeAny_call_defAt (fd := fnX "__init__" qual params (body1 f1 p0 p1 p2 p3 p4 p5 q1 q2 q3 q4) scope [("__class__", cc)] .none .none doc pm an (.ref cda) ct) (body := body1 f1 p0 p1 p2 p3 p4 p5 q1 q2 q3 q4) (binds := [(("self" : Str), .ref x), (f1, v)]) hroom (X _ _ hf) rfl hlim (codeRec_of X hcd) rfl (hbind s [.ref x, v] rfl) hnc (fun y hy => ?_) (fun h₀ hn k => ?_) hco hgen hk
  · rcases List.mem_cons.mp hy with rfl | hy
    · exact hka
    · rcases List.mem_cons.mp hy with rfl | hy
      · exact hkf1
      · cases hy
  · have hxL : x ≠ s.heap.objs.size := Nat.ne_of_lt (Heap.lt_size hx)
    have mS : (fun y => List.lookup y [(("self" : Str), Value.ref x), (f1, v)].reverse) "self" = some (.ref x) := by
      show List.lookup ("self" : Str) [(f1, v), (("self" : Str), Value.ref x)] = _
      simp [List.lookup, hs1]
    have mF : (fun y => List.lookup y [(("self" : Str), Value.ref x), (f1, v)].reverse) f1 = some v := by
      show List.lookup f1 [(f1, v), (("self" : Str), Value.ref x)] = _
      simp [List.lookup]
    have X0 : K.In h₀ := X.keeps k
    have hint : interactive (ksEnv qual scope s.heap.objs.size fI (.ref cda) cc) = false := by
      unfold interactive
      show (scope.kind == .module && _) = false
      rw [hk]; rfl
    refine ks_wpAt_execs_cons (ks_wpAt_Expr_any (env := ksEnv qual scope s.heap.objs.size fI (.ref cda) cc) (hi := hint) (sup_call (qual := qual) (scope := scope) (s := { s with heap := h₀, toks := s.toks + 2 }) T X0 (G.keeps k) (B.keeps k) hB hn mS (k _ _ hx) hxL hxG hxB hf hp har hcode hvs hfile hcell hks hkc hka hk htop (one_size v) rfl rfl (fun s' Q hn' hQ => ?_) (hev _) fun h1 tk1 t1 k1' hx1 => ?_))
    · exact spliced_cons (ldN (v := v) hn' mF hk hkf1 hd1 (spliced_nil hQ))
    · refine wpAt_of_wpAny ?_
      have X1 : K.In h1 := fun a o e => k1' a o (fun z => by rw [z, hxK] at e; cases e) (X0 a o e)
      have hn1 : h1.Ns s.heap.objs.size (fun y => List.lookup y [(("self" : Str), Value.ref x), (f1, v)].reverse) := by
        obtain ⟨o, es, ep, e1, e2⟩ := hn
        exact ⟨o, es, ep, k1' _ _ (Ne.symm hxL) e1, e2⟩
      refine wpAny_execs_cons (plainObj_wpAny_Assign_Attribute ?_)
      refine ldN (v := v) hn1 mF hk hkf1 hd1 (ldN (v := .ref x) hn1 mS hk hka (by decide) ?_)
      refine set_plain X1 (ox := excO C t1) (od := none) ⟨hx1, rfl, rfl, trivial⟩ T.sa ?_
      refine exc_osa X1 hx1 hcl (show refsVE (.ref C :: bm) = true from hbm) rfl hno (fun h₃ tk₃ dx k₃ dn dne hx₃ hn₃ => ?_)
      refine wpAny_execs_nil (hq h₃ tk₃ dx t1 ⟨fun b o hb e => k₃ b o hb (k1' b o hb (k b o e)), hx₃, ?_, dne, hn₃⟩)
      obtain ⟨o, es, ep, e1, e2⟩ := hn1
      have z : s.heap.objs.size < h1.objs.size := Heap.lt_size e1
      exact Nat.le_of_lt (Nat.lt_of_lt_of_le z dn)
theorem init2 {name f1 f2 : Str} {fI t0 : Addr} {v v2 : Value} (T : Cls K mg name C) (hno : findIn K (.ref C) f1 = some none) (hno2 : findIn K (.ref C) f2 = some none) (hs2 : (("self" : Str) == f2) = false) (hd2 : (f2 == ("__debug__" : Str)) = false) (h12 : (f1 == f2) = false) (hs1 : (("self" : Str) == f1) = false) (hd1 : (f1 == ("__debug__" : Str)) = false) (I : Ini K prog C fI [f1, f2] (is2 f1 f2)) (htop : (prog.main.scope.names.lookup ("super" : Str)).isSome = false)
    (X : K.In s.heap) (hlim : s.heap.NoLimit) (G : s.heap.Ns mainGlobals mg) (B : s.heap.Ns builtinsNs mb) (hB : mb "super" = some (.type "super")) (hx : s.heap.get? x = some (excO C t0)) (hxG : x ≠ mainGlobals) (hxB : x ≠ builtinsNs) (hroom : A.depth < recursionLimit)
    (hxK : K.lookup x = none)
    (hq : ∀ h' tk dx t1, Left s.heap h' x C dx t1 (fun y => if y = f2 then some v2 else if y = f1 then some v else none) → R (.ok (.ret .none)) { s with heap := h', toks := tk }) :
    codeAny (model prog w) A (.call (.ref fI) ⟨[.ref x, v, v2], []⟩) R s := by
  obtain ⟨oc, od, osl, qual, params, body, scope, doc, pm, ct, an, cc, cda, ccl, cdd, vs, ccs, file, tf, cl, cld, csl, ar, hf, hcd, hcode, hvs, hfile, hcell, hp, har, ⟨p0, p1, p2, p3, p6, p4, p5, q1, q2, q3, q4, r1, r2, r3, r4, rfl, pl, hev⟩, hks, hkc, hka, hkf, hk, hco, hgen, hnc, hbind⟩ := I.ex
  have hkf1 := hkf f1 (List.mem_cons_self ..)
  have hkf2 := hkf f2 (List.mem_cons_of_mem _ (List.mem_cons_self ..))
  obtain ⟨nm, q, N, bs, bm, sn, sub, ab, col, dd, k0, k1, k2, k3, k5, hC, hbm⟩ := T.cls
  have hcl : clsIn K C = some { name := nm, bases := bs, mro := .ref C :: bm, ns := N, qualname := q, hasDict := true, slotNames := sn, subclasses := sub, abstract := ab, collection := col, hasDel := false } := by unfold clsIn; rw [hC] <;> rfl
  refine ks_codeAny_call_defAt (fd := fnX "__init__" qual params (body2 f1 f2 p0 p1 p2 p3 p6 p4 p5 q1 q2 q3 q4 r1 r2 r3 r4) scope [("__class__", cc)] .none .none doc pm an (.ref cda) ct) (body := body2 f1 f2 p0 p1 p2 p3 p6 p4 p5 q1 q2 q3 q4 r1 r2 r3 r4) (binds := [(("self" : Str), .ref x), (f1, v), (f2, v2)]) hroom (X _ _ hf) rfl hlim (codeRec_of X hcd) rfl (hbind s [.ref x, v, v2] rfl) hnc (fun y hy => ?_) (fun h₀ hn k => ?_) hco hgen hk
  · rcases List.mem_cons.mp hy with rfl | hy
    · exact hka
    · rcases List.mem_cons.mp hy with rfl | hy
      · exact hkf1
      · rcases List.mem_cons.mp hy with rfl | hy
        · exact hkf2
        · cases hy
  · have hxL : x ≠ s.heap.objs.size := Nat.ne_of_lt (Heap.lt_size hx)
    have mS : (fun y => List.lookup y [(("self" : Str), Value.ref x), (f1, v), (f2, v2)].reverse) "self" = some (.ref x) := by
      show List.lookup ("self" : Str) [(f2, v2), (f1, v), (("self" : Str), Value.ref x)] = _
      simp [List.lookup, hs1, hs2]
    have mF : (fun y => List.lookup y [(("self" : Str), Value.ref x), (f1, v), (f2, v2)].reverse) f1 = some v := by
      show List.lookup f1 [(f2, v2), (f1, v), (("self" : Str), Value.ref x)] = _
      simp [List.lookup, h12]
    have mF2 : (fun y => List.lookup y [(("self" : Str), Value.ref x), (f1, v), (f2, v2)].reverse) f2 = some v2 := by
      show List.lookup f2 [(f2, v2), (f1, v), (("self" : Str), Value.ref x)] = _
      simp [List.lookup]
    have X0 : K.In h₀ := X.keeps k
    have hint : interactive (ksEnv qual scope s.heap.objs.size fI (.ref cda) cc) = false := by
      unfold interactive
      show (scope.kind == .module && _) = false
      rw [hk]; rfl
    refine ks_wpAt_execs_cons (ks_wpAt_Expr_any (env := ksEnv qual scope s.heap.objs.size fI (.ref cda) cc) (hi := hint) (sup_call (qual := qual) (scope := scope) (s := { s with heap := h₀, toks := s.toks + 3 }) T X0 (G.keeps k) (B.keeps k) hB hn mS (k _ _ hx) hxL hxG hxB hf hp har hcode hvs hfile hcell hks hkc hka hk htop (two_size v v2) rfl rfl (fun s' Q hn' hQ => ?_) (hev _) fun h1 tk1 t1 k1' hx1 => ?_))
    · exact spliced_cons (ldN (v := v) hn' mF hk hkf1 hd1 (spliced_cons (ldN (v := v2) hn' mF2 hk hkf2 hd2 (spliced_nil hQ))))
    · refine wpAt_of_wpAny ?_
      have X1 : K.In h1 := fun a o e => k1' a o (fun z => by rw [z, hxK] at e; cases e) (X0 a o e)
      have hn1 : h1.Ns s.heap.objs.size (fun y => List.lookup y [(("self" : Str), Value.ref x), (f1, v), (f2, v2)].reverse) := by
        obtain ⟨o, es, ep, e1, e2⟩ := hn
        exact ⟨o, es, ep, k1' _ _ (Ne.symm hxL) e1, e2⟩
      refine wpAny_execs_cons (plainObj_wpAny_Assign_Attribute ?_)
      refine ldN (v := v) hn1 mF hk hkf1 hd1 (ldN (v := .ref x) hn1 mS hk hka (by decide) ?_)
      refine set_plain X1 (ox := excO C t1) (od := none) ⟨hx1, rfl, rfl, trivial⟩ T.sa ?_
      refine exc_osa X1 hx1 hcl (show refsVE (.ref C :: bm) = true from hbm) rfl hno (fun h₃ tk₃ dx k₃ dn dne hx₃ hn₃ => ?_)
      have X3 : K.In h₃ := fun a o e => k₃ a o (fun z => by rw [z, hxK] at e; cases e) (X1 a o e)
      have hn3 : h₃.Ns s.heap.objs.size (fun y => List.lookup y [(("self" : Str), Value.ref x), (f1, v), (f2, v2)].reverse) := by
        obtain ⟨o, es, ep, e1, e2⟩ := hn1
        exact ⟨o, es, ep, k₃ _ _ (Ne.symm hxL) e1, e2⟩
      obtain ⟨oL, esL, epL, eL1, eL2⟩ := hn1
      have z : s.heap.objs.size < h1.objs.size := Heap.lt_size eL1
      have w1 : Within (fun y => if y = f1 then some v else none) [f1] := fun y hy => by
        by_cases c : y = f1
        · rw [c]; exact List.mem_cons_self ..
        · exact absurd (if_neg c) hy
      have hdxL : dx ≠ s.heap.objs.size := fun e => by rw [e] at dn; exact absurd (Nat.lt_of_lt_of_le z dn) (Nat.lt_irrefl _)
      obtain ⟨oD, esD, epD, hoD, hdD, _⟩ := hn₃.count w1
      refine wpAny_execs_cons (plainObj_wpAny_Assign_Attribute ?_)
      refine ldN (v := v2) hn3 mF2 hk hkf2 hd2 (ldN (v := .ref x) hn3 mS hk hka (by decide) ?_)
      refine set_plain X3 (ox := { cls := .ref C, dict := some dx, data := .fields #[.ref t1, .none, .none, .none, .bool false, .none] }) (od := some oD) ⟨hx₃, rfl, rfl, hoD⟩ T.sa ?_
      refine OEX.osa_old X3 hx₃ hn₃ w1 (by show 1 ≤ 1000; decide) hcl (show refsVE (.ref C :: bm) = true from hbm) rfl hno2 (fun h4 tk4 k4 hn4 => ?_)
      have xdx : x ≠ dx := Ne.symm dne
      refine wpAny_execs_nil (hq h4 tk4 dx t1 ⟨fun b o hb e => k4 b o (fun z2 => ?_) (k₃ b o hb (k1' b o hb (k b o e))), k4 _ _ xdx hx₃, Nat.le_of_lt (Nat.lt_of_lt_of_le z dn), dne, hn4⟩)
      have z3 := Heap.lt_size e
      rw [z2] at z3
      exact absurd (Nat.lt_of_lt_of_le (Nat.lt_trans z3 z) dn) (Nat.lt_irrefl _)
def InitRun (prog : Program) (w : World) (K : Frag) (mg : Str → Option Value) (C fI : Addr) (us : List Value) (mf : Str → Option Value) : Prop :=
  ∀ {A : Around} {R : Result → Shared → Prop} {s : Shared} {mb : Str → Option Value} {x t0 : Addr}, K.In s.heap → s.heap.NoLimit → s.heap.Ns mainGlobals mg → s.heap.Ns builtinsNs mb → mb "super" = some (.type "super") → s.heap.get? x = some (excO C t0) → x ≠ mainGlobals → x ≠ builtinsNs → A.depth < recursionLimit → K.lookup x = none →
    (∀ h' tk dx t1, Left s.heap h' x C dx t1 mf → R (.ok (.ret .none)) { s with heap := h', toks := tk }) → codeAny (model prog w) A (.call (.ref fI) ⟨.ref x :: us, []⟩) R s
/-- a made exception -/
structure Made (h h' : Heap) (e C d : Addr) (mf : Str → Option Value) : Prop where
  keep : ∀ b o, h.get? b = some o → h'.get? b = some o
  new : h.objs.size ≤ e
  obj : ∃ oe vs, h'.get? e = some oe ∧ oe.cls = .ref C ∧ oe.dict = some d ∧ oe.data = .fields vs ∧ vs[1]? = some .none ∧ vs[2]? = some .none
  dbig : h.objs.size ≤ d
  dne : d ≠ e
  ns : h'.Ns1 d mf
theorem made {name : Str} {fI : Addr} {us : List Value} {mf : Str → Option Value} (T : Cls K mg name C) (iC : findIn K (.ref C) "__init__" = some (some (.ref fI))) (tC : typeIn K (.ref fI) = some (.type "function")) (I : InitRun prog w K mg C fI us mf) (hl : us.length ≤ sizeLine)
    (X : K.In s.heap) (hlim : s.heap.NoLimit) (G : s.heap.Ns mainGlobals mg) (B : s.heap.Ns builtinsNs mb) (hB : mb "super" = some (.type "super")) (hroom : A.depth + 1 < recursionLimit)
    (hq : ∀ h' tk e d, Made s.heap h' e C d mf → R (.ok (.ret (.ref e))) { s with heap := h', toks := tk }) :
    codeAny (model prog w) A (.call (.ref C) ⟨us, []⟩) R s := by
  obtain ⟨nm, q, N, bs, bm, sn, sub, ab, col, dd, k0, k1, k2, k3, k5, hC, hbm⟩ := T.cls
  obtain ⟨hp, g, dr, tk, os⟩ := s
  have k : ∀ b o, hp.get? b = some o → ((hp.push (kdv_tup us)).push (excO C hp.objs.size)).get? b = some o := fun b o e => Heap.get?_push_of_some _ (Heap.get?_push_of_some _ e)
  have hget : ((hp.push (kdv_tup us)).push (excO C hp.objs.size)).get? (hp.objs.size + 1) = some (excO C hp.objs.size) := by heap_get
  have hnew : ∀ {b : Addr} {o : Obj}, hp.get? b = some o → hp.objs.size + 1 ≠ b := fun {b o} z q => absurd (Nat.lt_of_succ_lt (Heap.lt_size (q ▸ z))) (Nat.lt_irrefl _)
  have hnx : K.lookup (hp.objs.size + 1) = none := by
    cases e : K.lookup (hp.objs.size + 1) with
    | none => rfl
    | some o => exact absurd rfl (hnew (X _ _ e))
  have gG : hp.objs.size + 1 ≠ mainGlobals := by
    obtain ⟨o, es, ep, e1, _⟩ := G
    exact hnew e1
  have gB : hp.objs.size + 1 ≠ builtinsNs := by
    obtain ⟨o, es, ep, e1, _⟩ := B
    exact hnew e1
  refine call_own F.excBase_ValueError (fun X => refsVE_contains X bm hbm) (X _ _ hC) (looks_findIn X iC) (fun self => bind_fn X self tC) hl ?_
  refine I (s := ⟨(hp.push (kdv_tup us)).push (excO C hp.objs.size), g, dr, tk, os⟩) (X.keeps k) (hlim.keeps k) (G.keeps k) (B.keeps k) hB hget gG gB ?_ hnx fun h' tk' dx t1 ⟨k', hx, dn, dne, hns⟩ => ?_
  · show A.depth + 1 < recursionLimit
    exact hroom
  · have old : ∀ b o, hp.get? b = some o → h'.get? b = some o := fun b o e => k' b o (Nat.ne_of_lt (Nat.lt_succ_of_lt (Heap.lt_size e))) (k b o e)
    have z : hp.objs.size + 1 + 1 ≤ dx := by
      first
        | (simpa only [Heap.size_push] using dn)
        | exact dn
        | (have q := dn; rw [Heap.size_push, Heap.size_push] at q; exact q)
    exact ⟨rfl, hq h' tk' (hp.objs.size + 1) dx ⟨old, Nat.le_succ _, ⟨_, _, hx, rfl, rfl, rfl, rfl, rfl⟩, Nat.le_trans (Nat.le_trans (Nat.le_succ _) (Nat.le_succ _)) z, dne, hns⟩⟩
/-- a class of the text, its fields -/
structure XTxt (prog : Program) (w : World) (K : Frag) (mg : Str → Option Value) (name : Str) (fs : List Str) (C : Addr) : Prop where
  cls : Cls K mg name C
  noN : ∀ f ∈ fs, findIn K (.ref C) f = some none
  init : ∃ fI, findIn K (.ref C) "__init__" = some (some (.ref fI)) ∧ typeIn K (.ref fI) = some (.type "function") ∧ ∀ (us : List Value), us.length = fs.length → ∃ mf, (∀ vs, L2.Vals vs us → ∀ f, L2.RelO (List.lookup f (fs.zip vs)) (mf f)) ∧ InitRun prog w K mg C fI us mf ∧ us.length ≤ sizeLine
theorem x1 {name f1 : Str} {fI : Addr} (T : Cls K mg name C) (iC : findIn K (.ref C) "__init__" = some (some (.ref fI))) (tC : typeIn K (.ref fI) = some (.type "function")) (hno : findIn K (.ref C) f1 = some none) (I : Ini K prog C fI [f1] (is1 f1)) (htop : (prog.main.scope.names.lookup ("super" : Str)).isSome = false)
    (hs1 : (("self" : Str) == f1) = false) (hd1 : (f1 == ("__debug__" : Str)) = false) : XTxt prog w K mg name [f1] C := by
  refine ⟨T, fun f hf => ?_, fI, iC, tC, fun us hu => ?_⟩
  · rw [List.mem_singleton.mp hf]; exact hno
  · match us, hu with
    | [v], _ =>
      refine ⟨fun y => if y = f1 then some v else none, fun vs hv f => ?_, fun X hl G B hB hx xG xB hr hK hq => init1 T hno hs1 hd1 I htop X hl G B hB hx xG xB hr hK hq, one_size v⟩
      cases hv with
      | cons rv rn =>
        cases rn
        show L2.RelO (List.lookup f [(f1, _)]) _
        by_cases hw : f = f1
        · subst hw
          simp only [List.lookup, beq_self_eq_true, if_true]
          exact rv
        · have qw : (f == f1) = false := by simpa using hw
          simp only [List.lookup, qw, if_neg hw]
          trivial
theorem x2 {name f1 f2 : Str} {fI : Addr} (T : Cls K mg name C) (iC : findIn K (.ref C) "__init__" = some (some (.ref fI))) (tC : typeIn K (.ref fI) = some (.type "function")) (hno : findIn K (.ref C) f1 = some none) (hno2 : findIn K (.ref C) f2 = some none) (I : Ini K prog C fI [f1, f2] (is2 f1 f2)) (htop : (prog.main.scope.names.lookup ("super" : Str)).isSome = false)
    (hs1 : (("self" : Str) == f1) = false) (hd1 : (f1 == ("__debug__" : Str)) = false) (hs2 : (("self" : Str) == f2) = false) (hd2 : (f2 == ("__debug__" : Str)) = false) (h12 : (f1 == f2) = false) : XTxt prog w K mg name [f1, f2] C := by
  refine ⟨T, fun f hf => ?_, fI, iC, tC, fun us hu => ?_⟩
  · rcases List.mem_cons.mp hf with rfl | hf
    · exact hno
    · rw [List.mem_singleton.mp hf]; exact hno2
  · match us, hu with
    | [v, v2], _ =>
      refine ⟨fun y => if y = f2 then some v2 else if y = f1 then some v else none, fun vs hv f => ?_, fun X hl G B hB hx xG xB hr hK hq => init2 T hno hno2 hs2 hd2 h12 hs1 hd1 I htop X hl G B hB hx xG xB hr hK hq, two_size v v2⟩
      cases hv with
      | cons rv rn =>
        cases rn with
        | cons rv2 rn =>
          cases rn
          show L2.RelO (List.lookup f [(f1, _), (f2, _)]) _
          by_cases hw : f = f2
          · subst hw
            have q21 : (f == f1) = false := by
              have : f1 ≠ f := by simpa using h12
              simpa using fun z => this z.symm
            simp only [List.lookup, beq_self_eq_true, if_true, q21]
            exact rv2
          · have qw : (f == f2) = false := by simpa using hw
            by_cases hw1 : f = f1
            · subst hw1
              simp only [List.lookup, beq_self_eq_true, if_true, if_neg hw]
              exact rv
            · have qw1 : (f == f1) = false := by simpa using hw1
              simp only [List.lookup, qw, qw1, if_neg hw, if_neg hw1]
              trivial
end
end XcI
end PySem
namespace DL
open PySem PySem.Spec PyProof.Rows L2
/-- C(e, ..) -/
def tMkX (C : Addr) (fs : List Str) (ta : TA) : L2.St → Hp → XK → Prop := fun σ H Q => ta σ H fun vs H1 => vs.length = fs.length ∧ ∀ d, H1 d = none → Q (.ref C) (some d) (upd H1 d (.xd (fs.zip vs)))
section
variable {X : Cx} {C : Addr}
theorem pmk_x {e : Expr} {es : List Expr} {ta : TA} {p pos : Pos} {k : Nat} {name : Str} {fs : List Str} (T : PySem.XcI.XTxt X.prog X.w X.K X.mg name fs C) (hr : Room k X.A) (ha : PA X (e :: es) ta) (hg : Gl X name := by rfl) (hdb : (name == ("__debug__" : Str)) = false := by decide)
    (he : starEach (e :: es) X.env = (false, eval e X.env) :: starEach es X.env := by rfl) (hpl : (backTo pos (starEach es X.env)).any (·.1) = false := by rfl) :
    L2N.PMk X (.Call (.Name name p) (e :: es) [] pos) (tMkX C fs ta) := by
  intro pins s σ H Q I h
  refine wpAny_Call_Name_kw (ld_glob I hg T.cls.gC ?_ hdb)
  refine PySem.W.callWith_K (h₀ := X.base) I.ok.mod.kin T.cls.kC (thn (ha.run pos pins s σ H _ I h) fun us s1 hh => ?_) he hpl
  obtain ⟨vs, H1, I1, r1, hl, q1⟩ := hh
  refine ⟨I1.kIn, ?_⟩
  obtain ⟨fI, iC, tC, mk⟩ := T.init
  obtain ⟨mf, rel, run, hz⟩ := mk us (by rw [← hl]; exact (Paired.length r1).symm)
  show wpAny _ _ (call (.ref C) us) _ _ _
  have hlim := I1.nolimit
  obtain ⟨mb, b1, b2⟩ := I1.mod.blt
  have G := I1.mod.glob.keeps I1.bk
  have B := b1.keeps I1.bk
  obtain ⟨hp, g, dr, tk, os⟩ := s1
  refine wpAny_call (PySem.XcI.made T.cls iC tC run hz I1.kIn hlim G B ((b2 "super" (by decide)).trans (by decide +kernel)) (by have := hr.dp; omega) fun h' tk' e d M => ?_)
  show L2N.MkP X pins σ Q (.ref e) ⟨h', g, dr, tk', os⟩
  obtain ⟨oe, fv, hoe, hc, hd, hdat, h1, hctx⟩ := M.obj
  have hns := M.ns
  obtain ⟨G', g1, g2⟩ := restrict h' fun b => decide (b ≠ e)
  have gk : ∀ b, b ≠ e → G'.get? b = h'.get? b := fun b hb => g1 b (decide_eq_true hb)
  have ge : G'.get? e = none := g2 e (by simp)
  have old : ∀ b o, hp.get? b = some o → G'.get? b = some o := fun b o q => (gk b (Nat.ne_of_lt (Nat.lt_of_lt_of_le (Heap.lt_size q) M.new))).trans (M.keep b o q)
  have ob : ObjOk X.prog X.w (upd H1 d (.xd (fs.zip vs))) G' d (.xd (fs.zip vs)) :=
    ⟨_, hns.at (fun o q => (gk d M.dne).trans q), fun f => rel vs r1 f⟩
  have J : Inv X pins σ (upd H1 d (.xd (fs.zip vs))) ⟨G', g, dr, tk', os⟩ := I1.laid (t' := tk') old M.dbig ob
  refine ⟨e, oe, fv, ⟨G', g, dr, tk', os⟩, _, .ref C, some d, rfl, J, fun b o q => ?_, ge, hoe, ⟨hc, hd, fun vs e => by rw [hdat] at e; cases e; exact hctx⟩, hdat, h1, ?_, rfl, I1.bare, raises_own T.cls.exC T.cls.tyC, q1 d (I1.hok.fresh M.dbig)⟩
  · by_cases hb : b = e
    · have q' : G'.get? b = some o := q
      rw [hb, ge] at q'; cases q'
    · exact (gk b hb).symm.trans q
  · rw [upd_ne (Ne.symm M.dne)]
    exact I1.hok.fresh M.new
end
end DL

/-! DLR: raise and try over data values. -/
namespace DL
open PySem PySem.Spec PyProof.Rows L2
/-! ### raise -/
def sRaise (x : Str) (fs : List Str) (fa : DA) : DS := fun σ S => match fa σ S with
  | .ok ds S1 => if ds.length = fs.length then .ex ⟨x, fs.zip ds⟩ σ S1 else .no
  | .ex e S1 => .ex e σ S1
  | .no => .no
theorem FR.zip {K : KW} {μ : List Addr} {H : Hp} : ∀ {fs : List Str} {ds : List D} {vs : List V}, RL K μ H ds vs → FR K μ H (fs.zip ds) (fs.zip vs)
  | [], _, _, _ => by rw [List.zip_nil_left, List.zip_nil_left]; exact .nil
  | _ :: _, _, _, .nil => .nil
  | f :: fs, _, _, .cons r t => .cons r (FR.zip t)
theorem zip_sub : ∀ {fs : List Str} {ds : List D} {f : Str}, f ∈ (fs.zip ds).map (·.1) → f ∈ fs
  | [], _, f, h => by rw [List.zip_nil_left] at h; exact h
  | a :: fs, [], f, h => by cases h
  | a :: fs, d :: ds, f, h => by
    rcases List.mem_cons.mp h with e | e
    · rw [e]; exact List.mem_cons_self ..
    · exact List.mem_cons_of_mem _ (zip_sub e)
theorem exF {P : Program} {w : World} {K : PySem.W.Frag} {mg : Str → Option Value} {x : Str} {fs : List Str} {C : Addr} (T : PySem.XcI.XTxt P w K mg x fs C) (ds : List D) : ExF K C ((fs.zip ds).map (·.1)) := by
  obtain ⟨nm, q, N, bs, bm, sn, sub, ab, col, dd, k0, k1, k2, k3, k5, hC, hbm⟩ := T.cls.cls
  refine ⟨by unfold PySem.W.clsIn; rw [hC] <;> rfl, T.cls.ga, T.cls.gg, T.cls.exC, T.cls.hdC, T.cls.ha, T.cls.hnn, T.cls.ht, T.cls.hm, fun f hf => T.noN f (zip_sub hf)⟩
section
variable {X : Cx} {pq : Option Pin} {W : WX} {fa : DA}
theorem s_raise {x : Str} {fs : List Str} {e : Expr} {es : List Expr} {p pos pos2 : Pos} {k : Nat} (T : ∃ C, PySem.XcI.XTxt X.prog X.w X.K X.mg x fs C) (hr : Room k X.A) (tk : L2N.Takes X W) (ha : PA X (e :: es) (tA (X.kwp pq) X.mg W fa)) (hc : X.calm = true := by rfl) (hg : Gl X x := by rfl) (hdb : (x == ("__debug__" : Str)) = false := by decide)
    (he : starEach (e :: es) X.env = (false, eval e X.env) :: starEach es X.env := by rfl) (hpl : (backTo pos (starEach es X.env)).any (·.1) = false := by rfl) :
    PS X (.Raise (some (.Call (.Name x p) (e :: es) [] pos)) none pos2) (tS (X.kwp pq) X.mg W (sRaise x fs fa)) := by
  obtain ⟨C, T⟩ := T
  refine PS.weak (L2N.ps_raise (W := W) hc tk (pmk_x T hr ha hg hdb he hpl)) fun Dn σV H hh => ?_
  obtain ⟨μ, σ, S, ok, en, hh⟩ := hh
  refine ⟨μ, σ, S, ok, en, ?_⟩
  unfold sRaise at hh
  cases q : fa σ S with
  | no => rw [q] at hh; exact hh.elim
  | ex e S1 =>
    rw [q] at hh
    exact fun μ' H' cls dx x1 ok1 er => hh μ' H' σV cls dx x1 ok1 (en.mono x1) er
  | ok ds S1 =>
    rw [q] at hh
    simp only at hh
    split at hh
    · rename_i hl
      intro μ1 H1 vs x1 ok1 rl
      refine ⟨by rw [← rl.length]; exact hl, fun d hd => ?_⟩
      have x2 := ext_new (μ := μ1) (o := HO.xd (fs.zip vs)) hd
      exact hh μ1 _ σV (.ref C) (some d) (x1.trans x2) (ok1.laid hd) ((en.mono x1).mono x2) ⟨C, d, fs.zip vs, T.cls.gC, rfl, rfl, upd_same, ok1.notin hd, FR.zip (rl.mono x2), exF T ds⟩
    · exact hh.elim
end
/-! ### the pin is of no matter for values and cells -/
section
variable {f : PySem.W.Frag} {w : World} {p p' : Option Pin} {μ : List Addr} {H : Hp}
mutual
theorem R.rp : ∀ {d : D} {v : V}, R ⟨f, w, p⟩ μ H d v → R ⟨f, w, p'⟩ μ H d v
  | _, _, .non => .non
  | _, _, .bl b => .bl b
  | _, _, .int i => .int i
  | _, _, .str z => .str z
  | _, _, .tup h l r => .tup h l (RL.rp r)
  | _, _, .rol h l r => .rol h l (RL.rp r)
  | _, _, .loc h => .loc h
theorem RL.rp : ∀ {ds : List D} {vs : List V}, RL ⟨f, w, p⟩ μ H ds vs → RL ⟨f, w, p'⟩ μ H ds vs
  | _, _, .nil => .nil
  | _, _, .cons r t => .cons (R.rp r) (RL.rp t)
end
theorem KR.rp : ∀ {kvs : List (D × D)} {xs : List (NestedKey × Addr × Value)}, KR ⟨f, w, p⟩ μ H kvs xs → KR ⟨f, w, p'⟩ μ H kvs xs
  | _, _, .nil => .nil
  | _, _, .cons a b c d e t => .cons a b c.rp d.rp e (KR.rp t)
theorem CellR.rp {a : Addr} : ∀ {c : Cell}, CellR ⟨f, w, p⟩ μ H a c → CellR ⟨f, w, p'⟩ μ H a c
  | .lst _, ⟨vs, h, l, r⟩ => ⟨vs, h, l, r.rp⟩
  | .dct _, ⟨vs, h, l, z, n, r⟩ => ⟨vs, h, l, z, n, r.rp⟩
theorem Ok.rp {S : Store} (ok : Ok ⟨f, w, p⟩ μ H S) : Ok ⟨f, w, p'⟩ μ H S := ⟨ok.len, ok.nd, fun l a c h1 h2 => (ok.cell l a c h1 h2).rp⟩
theorem FR.rp : ∀ {xs : List (Str × D)} {vs : List (Str × V)}, FR ⟨f, w, p⟩ μ H xs vs → FR ⟨f, w, p'⟩ μ H xs vs
  | _, _, .nil => .nil
  | _, _, .cons r t => .cons r.rp (FR.rp t)
theorem EnvR.unset {σ : Sg} {σV : L2.St} (i : Nat) (e : EnvR ⟨f, w, p⟩ μ H σ σV) : EnvR ⟨f, w, none⟩ μ H (σ.set i none) (σV.set i none) := by
  refine ⟨by rw [List.length_set, List.length_set]; exact e.len, fun j d' h => ?_, fun q hq => by cases hq⟩
  by_cases hj : i = j
  · subst hj
    have hi : i < σ.length := by
      have := (List.getElem?_eq_some_iff.mp h).1
      rwa [List.length_set] at this
    rw [List.getElem?_set_self hi] at h
    cases h
  · rw [List.getElem?_set_ne hj] at h ⊢
    obtain ⟨v, h1, h2⟩ := e.get j d' h
    exact ⟨v, h1, h2.rp⟩
theorem EnvR.pinned {σ : Sg} {σV : L2.St} {q : Pin} (e : EnvR ⟨f, w, none⟩ μ H σ σV) (hd : H q.da = some (.xd q.vs)) (hm : q.da ∉ μ) (hf : FR ⟨f, w, none⟩ μ H q.e.fs q.vs) : EnvR ⟨f, w, some q⟩ μ H (σ.set q.i none) (σV.set q.i (some (.ref q.a))) := by
  refine ⟨by rw [List.length_set, List.length_set]; exact e.len, fun j d' h => ?_, fun q' hq h => ?_⟩
  · by_cases hj : q.i = j
    · subst hj
      have hi : q.i < σ.length := by
        have := (List.getElem?_eq_some_iff.mp h).1
        rwa [List.length_set] at this
      rw [List.getElem?_set_self hi] at h
      cases h
    · rw [List.getElem?_set_ne hj] at h ⊢
      obtain ⟨v, h1, h2⟩ := e.get j d' h
      exact ⟨v, h1, h2.rp⟩
  · have e1 : q = q' := Option.some.inj hq
    subst e1
    have hi : q.i < σ.length := by
      have := (List.getElem?_eq_some_iff.mp h).1
      rwa [List.length_set] at this
    exact ⟨List.getElem?_set_self (by rw [← e.len]; exact hi), hd, hm, hf.rp⟩
/-- an except clause without a name: nothing is pinned -/
theorem EnvR.rp0 {σ : Sg} {σV : L2.St} (e : EnvR ⟨f, w, p⟩ μ H σ σV) : EnvR ⟨f, w, none⟩ μ H σ σV := ⟨e.len, fun j d' h => by
  obtain ⟨v, h1, h2⟩ := e.get j d' h
  exact ⟨v, h1, h2.rp⟩, fun q hq => by cases hq⟩
end
/-! ### try -/
def unS (i : Nat) : SR → SR
  | .nx σ S => .nx (σ.set i none) S
  | .bk σ S => .bk (σ.set i none) S
  | .ct σ S => .ct (σ.set i none) S
  | .rt d S => .rt d S
  | .ex _ _ _ => .no
  | .no => .no
def noEx : SR → SR
  | .ex _ _ _ => .no
  | r => r
/-- try: f, except as i: h -/
def sTryAs (f : DS) (i : Nat) (tab : List (Str × Bool)) (h : Exn → DS) : DS := fun σ S => match f σ S with
  | .ex e σ' S' => match tab.lookup e.cls with
    | some true => unS i (h e (σ'.set i none) S')
    | some false => .ex e σ' S'
    | none => .no
  | r => r
def sTryO (f : DS) (tab : List (Str × Bool)) (h : DS) : DS := fun σ S => match f σ S with
  | .ex e σ' S' => match tab.lookup e.cls with
    | some true => noEx (h σ' S')
    | some false => .ex e σ' S'
    | none => .no
  | r => r
/-- which classes an except clause or isinstance takes -/
def TabOk (mg : Str → Option Value) (one : Value → Option Bool) (tab : List (Str × Bool)) : Prop := ∀ x b, tab.lookup x = some b → ∀ C : Addr, mg x = some (.ref C) → one (.ref C) = some b
theorem TabOk.nil {mg : Str → Option Value} {one : Value → Option Bool} : TabOk mg one [] := fun x b h => by cases h
theorem TabOk.cons {mg : Str → Option Value} {one : Value → Option Bool} {x : Str} {b : Bool} {tab : List (Str × Bool)} {C : Addr} (h1 : mg x = some (.ref C)) (h2 : one (.ref C) = some b) (h : TabOk mg one tab) : TabOk mg one ((x, b) :: tab) := fun y b' hl D hD => by
  by_cases e : y = x
  · subst e
    rw [h1] at hD
    cases hD
    simp only [List.lookup, beq_self_eq_true] at hl
    cases hl
    exact h2
  · have e' : (y == x) = false := by simpa using e
    simp only [List.lookup, e'] at hl
    exact h y b' hl D hD
/-- the exception that a suite holds -/
structure PinOk (X : Cx) (p : Pin) (oe : Obj) (i : Nat) : Prop where
  hz : Zc (.ref p.C) (some p.da) oe
  hn : PySem.PXN.CtxN oe
  hf : ∃ vs, oe.data = .fields vs
  hm : X.mg p.e.cls = some (.ref p.C)
  hi : p.i = i
  hx : ExF X.K p.C (p.e.fs.map (·.1))
section
variable {X : Cx} {W : WX} {x n : Str} {c : Value} {i : Nat} {body suite : List Stmt} {b₀ : Stmt} {np pos pos' : Pos} {f : DS} {h : Exn → DS} {h0 : DS} {tab : List (Str × Bool)}
theorem SPost.un {μ : List Addr} {H : Hp} {p : Option Pin} {i : Nat} {r : SR} {D : Ends} (hh : SPost X.kw X.mg W μ H (unS i r) D) :
    SPost ⟨X.K, X.w, p⟩ X.mg W0 μ H r { nx := fun σ' H' => D.nx (σ'.set i none) H', rt := D.rt, bk := fun σ' H' => D.bk (σ'.set i none) H', ct := fun σ' H' => D.ct (σ'.set i none) H' } := by
  cases r with
  | nx σ S => exact fun μ' H' σV' x1 ok1 en1 => hh μ' H' _ x1 ok1.rp (en1.unset i)
  | bk σ S => exact fun μ' H' σV' x1 ok1 en1 => hh μ' H' _ x1 ok1.rp (en1.unset i)
  | ct σ S => exact fun μ' H' σV' x1 ok1 en1 => hh μ' H' _ x1 ok1.rp (en1.unset i)
  | rt d S => exact fun μ' H' v x1 ok1 rv => hh μ' H' v x1 ok1.rp rv.rp
  | ex e σ S => exact hh.elim
  | no => exact hh.elim
theorem SPost.noEx {μ : List Addr} {H : Hp} {r : SR} {D : Ends} (hh : SPost X.kw X.mg W μ H (noEx r) D) : SPost X.kw X.mg W0 μ H r D := by
  cases r with
  | nx σ S => exact hh
  | bk σ S => exact hh
  | ct σ S => exact hh
  | rt d S => exact hh
  | ex e σ S => exact hh.elim
  | no => exact hh.elim
theorem s_try_as (hN : X.N.Nodup) (tk : L2N.Takes X W) (hc : Names X x c) (ht : TabOk X.mg (fun v => PySem.W.exmOne X.K v c) tab)
    (hb : ∀ (W : WX) (pn : List (Addr × Obj)) (xe : Value → Shared → Prop), L2N.Takes (X.tr pn xe) W → PassesOwn (model X.prog X.w) X.A X.env xe → PSs (X.tr pn xe) body (tS X.kw X.mg W f))
    (hsu : ∀ (p : Pin) (oe : Obj) (pn : List (Addr × Obj)), PinOk X p oe i → PSs (X.suite p.a ((p.a, oe) :: pn)) (b₀ :: suite) (tS (X.kwp (some p)) X.mg W0 (h p.e)))
    (hs : X.stack = X.env :: X.outer := by rfl) (hf : X.env.frame = some X.env.locals := by rfl) (hi : X.N[i]? = some n := by rfl) (hln : X.env.kindOf n = some .local := by rfl) :
    PS X (.Try body [.ExceptHandler (some (.Name x np)) (some n) (b₀ :: suite) pos'] [] [] pos) (tS X.kw X.mg W (sTryAs f i tab h)) := by
  refine PS.weak (L2N.ps_try_as (Wout := W) (tb := fun W => tS X.kw X.mg W f) (ts := fun a cls d Dn σV H => ∃ (p : Pin), p.a = a ∧ p.i = i ∧ cls = .ref p.C ∧ d = some p.da ∧ X.mg p.e.cls = some (.ref p.C) ∧ ExF X.K p.C (p.e.fs.map (·.1)) ∧ tS (X.kwp (some p)) X.mg W0 (h p.e) Dn σV H)
    hs hf hN hi hln hc tk hb (fun a oe cls d pn hz hfd => ⟨fun pins s σ H D I hh => ?_⟩)) fun Dn σV H hh => ?_
  · obtain ⟨p, rfl, hpi, rfl, rfl, hm, hx, hh⟩ := hh
    exact (hsu p oe pn ⟨hz.zc, hz.2.2, hfd, hm, hpi, hx⟩).run pins s σ H D I hh
  · obtain ⟨μ, σ, S, ok, en, hh⟩ := hh
    refine ⟨μ, σ, S, ok, en, ?_⟩
    unfold sTryAs at hh
    cases q : f σ S with
    | nx σ1 S1 => rw [q] at hh; exact hh
    | bk σ1 S1 => rw [q] at hh; exact hh
    | ct σ1 S1 => rw [q] at hh; exact hh
    | rt d S1 => rw [q] at hh; exact hh
    | no => rw [q] at hh; exact hh.elim
    | ex e σ1 S1 =>
      rw [q] at hh
      intro μ1 H1 σV1 cls dx x1 ok1 en1 er
      obtain ⟨C, da, vs, hm, rfl, rfl, hd, hdm, hfr, hx⟩ := id er
      simp only at hh
      cases q2 : tab.lookup e.cls with
      | none => rw [q2] at hh; exact hh.elim
      | some b =>
        rw [q2] at hh
        refine ⟨b, ht _ _ q2 C hm, fun hb1 a ha => ?_, fun hb1 => ?_⟩
        · subst hb1
          refine ⟨⟨i, a, C, da, vs, e⟩, rfl, rfl, rfl, rfl, hm, hx, μ1, σ1.set i none, S1, ok1.rp, EnvR.pinned (q := ⟨i, a, C, da, vs, e⟩) en1 hd hdm hfr, ?_⟩
          exact SPost.un (SPost.mono x1 hh)
        · subst hb1
          exact hh μ1 H1 σV1 _ _ x1 ok1 en1 er
theorem s_try_only (tk : L2N.Takes X W) (hc : Names X x c) (ht : TabOk X.mg (fun v => PySem.W.exmOne X.K v c) tab)
    (hb : ∀ (W : WX) (pn : List (Addr × Obj)) (xe : Value → Shared → Prop), L2N.Takes (X.tr pn xe) W → PassesOwn (model X.prog X.w) X.A X.env xe → PSs (X.tr pn xe) body (tS X.kw X.mg W f))
    (hsu : ∀ (a : Addr) (oe : Obj) (pn : List (Addr × Obj)), PSs (X.suite a ((a, oe) :: pn)) (b₀ :: suite) (tS X.kw X.mg W0 h0))
    (hs : X.stack = X.env :: X.outer := by rfl) (hf : X.env.frame = some X.env.locals := by rfl) :
    PS X (.Try body [.ExceptHandler (some (.Name x np)) none (b₀ :: suite) pos'] [] [] pos) (tS X.kw X.mg W (sTryO f tab h0)) := by
  refine PS.weak (L2N.ps_try_many (Wout := W) (tb := fun W => tS X.kw X.mg W f) (l := [(c, fun a cls d => tS X.kw X.mg W0 h0)]) hs hf tk hb (.cons hc (fun a oe cls d pn hz hfd => hsu a oe pn) .nil)) fun Dn σV H hh => ?_
  obtain ⟨μ, σ, S, ok, en, hh⟩ := hh
  refine ⟨μ, σ, S, ok, en, ?_⟩
  unfold sTryO at hh
  cases q : f σ S with
  | nx σ1 S1 => rw [q] at hh; exact hh
  | bk σ1 S1 => rw [q] at hh; exact hh
  | ct σ1 S1 => rw [q] at hh; exact hh
  | rt d S1 => rw [q] at hh; exact hh
  | no => rw [q] at hh; exact hh.elim
  | ex e σ1 S1 =>
    rw [q] at hh
    intro μ1 H1 σV1 cls dx x1 ok1 en1 er
    obtain ⟨C, da, vs, hm, rfl, rfl, hd, hdm, hfr, hx⟩ := id er
    simp only at hh
    cases q2 : tab.lookup e.cls with
    | none => rw [q2] at hh; exact hh.elim
    | some b =>
      rw [q2] at hh
      refine ⟨b, ht _ _ q2 C hm, fun hb1 a ha => ?_, fun hb1 => ?_⟩
      · subst hb1
        exact ⟨μ1, σ1, S1, ok1, en1, SPost.noEx (SPost.mono x1 hh)⟩
      · subst hb1
        exact hh μ1 H1 σV1 _ _ x1 ok1 en1 er
end
/-! ### in a suite: e.f, isinstance(e, C) -/
def cXf (i : Nat) (e : Exn) (f : Str) : DE := fun σ S => match σ[i]? with
  | some none => match e.fs.lookup f with
    | some d => .ok d S
    | none => .no
  | _ => .no
def cXis (i : Nat) (e : Exn) (tab : List (Str × Bool)) : DE := fun σ S => match σ[i]? with
  | some none => match tab.lookup e.cls with
    | some b => .ok (.bl b) S
    | none => .no
  | _ => .no
theorem FR.look {K : KW} {μ : List Addr} {H : Hp} {f : Str} {d : D} : ∀ {xs : List (Str × D)} {vs : List (Str × V)}, FR K μ H xs vs → xs.lookup f = some d → f ∈ xs.map (·.1) ∧ ∃ v, vs.lookup f = some v ∧ R K μ H d v
  | _, _, .nil, h => by cases h
  | _, _, .cons (n := n) (xs := xs) (vs := vs) r t, h => by
    by_cases e : f = n
    · subst e
      simp only [List.lookup, beq_self_eq_true] at h
      cases h
      exact ⟨List.mem_cons_self .., _, by simp only [List.lookup, beq_self_eq_true], r⟩
    · have e' : (f == n) = false := by simpa using e
      simp only [List.lookup, e'] at h
      obtain ⟨h1, v, h2, h3⟩ := FR.look t h
      exact ⟨List.mem_cons_of_mem _ h1, v, by simp only [List.lookup, e']; exact h2, h3⟩
section
variable {X : Cx} {p : Pin} {oe : Obj} {pn : List (Addr × Obj)} {i : Nat} {n : Str} {np pos : Pos}
theorem pinInst {s : Shared} {pins : List (Addr × Obj)} {σ : L2.St} {H : Hp} (P : PinOk X p oe i) (I : Inv (X.suite p.a ((p.a, oe) :: pn)) pins σ H s) {od : Obj} (ho : s.heap.get? p.da = some od) : PySem.W.InstAt s.heap p.a oe p.C (some od) := by
  obtain ⟨ha, _⟩ := I.pin (p.a, oe) (List.mem_append_left _ List.mem_cons_self)
  obtain ⟨vs, hd⟩ := P.hf
  exact ⟨ha, P.hz.1, by unfold PySem.W.notCls; rw [hd] <;> rfl, by rw [P.hz.2]; exact ho⟩
theorem e_xf {f : Str} (P : PinOk X p oe i) (hN : X.N[i]? = some n := by rfl) (hv : Vis X.env.scope n := by first | exact Or.inl rfl | exact Or.inr (Or.inl rfl) | exact Or.inr (Or.inr rfl)) (hd : (n == ("__debug__" : Str)) = false := by decide) (hcd : (n == ("__classdict__" : Str)) = false := by decide)
    (hb : attributeBase (.Name n np) f X.env (eval (.Name n np) X.env) = eval (.Name n np) X.env := by rfl) :
    PE (X.suite p.a ((p.a, oe) :: pn)) (.Attribute (.Name n np) f pos) (tE (X.kwp (some p)) X.mg W0 (cXf i p.e f)) := by
  refine ⟨fun pins s σ H Q I h => ?_⟩
  obtain ⟨μ, σD, S, ok, en, h⟩ := h
  unfold cXf at h
  cases q : σD[i]? with
  | none => rw [q] at h; exact h.elim
  | some o =>
    cases o with
    | some d => rw [q] at h; exact h.elim
    | none =>
      rw [q] at h
      simp only at h
      cases q2 : p.e.fs.lookup f with
      | none => rw [q2] at h; exact h.elim
      | some d =>
        rw [q2] at h
        obtain ⟨h1, h2, h3, h4⟩ := en.pin p rfl (by rw [P.hi]; exact q)
        rw [P.hi] at h1
        refine attr_of hb (thn ((pv (X := X.suite p.a ((p.a, oe) :: pn)) (pos := np) i hN hv hd hcd).run pins s σ H (fun u H1 => u = .ref p.a ∧ H1 = H) I ⟨_, h1, rfl, rfl⟩) fun u s1 hh => ?_)
        obtain ⟨x, H1, I1, rx, rfl, rfl⟩ := hh
        obtain rfl : u = Value.ref p.a := rx
        have hx : ObjOk X.prog X.w H1 s1.heap p.da (.xd p.vs) := I1.hok p.da _ h2
        obtain ⟨mA, hns, hr⟩ := hx
        obtain ⟨od, ho, hl⟩ := lookIn_ns hns
        obtain ⟨hm, v, l, rv⟩ := FR.look h4 q2
        obtain ⟨u, hu, ru⟩ := RelO.some_of (v := v) (o := mA f) (by rw [← l]; exact hr f)
        exact HandSPX.exc_get I1.kIn (pinInst P I1 ho) P.hx.ga P.hx.gg P.hx.exC (PySem.W.findObj_own P.hx.hdC (P.hx.noN f hm) rfl (by rw [hl, hu])) (handed_of ru) ⟨v, H1, I1.tok _, ru, h μ H1 v (Ext.refl _ _) ok rv⟩
theorem e_xis {t : Expr} {c : V} {cv : Value} {fp : Pos} {tab : List (Str × Bool)} (P : PinOk X p oe i) (hm : X.mg "isinstance" = none) (hc : ∀ {X' : Cx}, X'.mg = X.mg → X'.env = X.env → PE X' t (tC c)) (hcv : ∀ u, RelV c u → u = cv) (ht : TabOk X.mg (fun v => PySem.W.kitOne X.K v cv) tab)
    (hN : X.N[i]? = some n := by rfl) (hv : Vis X.env.scope n := by first | exact Or.inl rfl | exact Or.inr (Or.inl rfl) | exact Or.inr (Or.inr rfl)) (hd : (n == ("__debug__" : Str)) = false := by decide) (hcd : (n == ("__classdict__" : Str)) = false := by decide)
    (hg : Gl X "isinstance" := by rfl) (he : starEach (.Name n np :: [t]) X.env = (false, eval (.Name n np) X.env) :: starEach [t] X.env := by rfl) (he2 : starEach (t :: []) X.env = (false, eval t X.env) :: starEach [] X.env := by rfl) (hpl : (backTo pos (starEach [t] X.env)).any (·.1) = false := by rfl) :
    PE (X.suite p.a ((p.a, oe) :: pn)) (.Call (.Name "isinstance" fp) [.Name n np, t] [] pos) (tE (X.kwp (some p)) X.mg W0 (cXis i p.e tab)) := by
  have cr : CallR (X.suite p.a ((p.a, oe) :: pn)) (.builtin "isinstance") (fun xs H Q => xs = [.ref p.a, c] ∧ (∃ b, PySem.W.kitOne X.K (.ref p.C) cv = some b ∧ Q (.bl b) H) ∧ H p.da = some (.xd p.vs)) := by
    intro pins s σ H xs us Q I r h
    obtain ⟨rfl, ⟨b, e, q⟩, hda⟩ := h
    cases r with
    | cons rx rr =>
      cases rr with
      | cons rt rr =>
        cases rr
        cases rx
        have ec := hcv _ rt
        subst ec
        have hx : ObjOk X.prog X.w H s.heap p.da (.xd p.vs) := I.hok p.da _ hda
        obtain ⟨mA, hns, hr⟩ := hx
        obtain ⟨od, ho, hl⟩ := lookIn_ns hns
        exact PySem.W.kia_one (PySem.W.kitx_exc P.hx.cl P.hx.ga P.hx.gg P.hx.exC P.hx.ha P.hx.hn P.hx.ht P.hx.hm) I.kIn (pinInst P I ho) e (fun z => nomatch z) fun tk => ⟨.bl b, H, I.kept (t' := tk) fun _ _ z => z, rfl, q⟩
  refine PE.weak (pe_callB (X := X.suite p.a ((p.a, oe) :: pn)) cr hg hm (by decide +kernel) (pa_cons (pv (X := X.suite p.a ((p.a, oe) :: pn)) i hN hv hd hcd) (pa_cons (hc rfl rfl) pa_nil he2) he) (by decide) (by decide) he hpl) fun σ H Q h => ?_
  obtain ⟨μ, σD, S, ok, en, h⟩ := h
  unfold cXis at h
  cases q : σD[i]? with
  | none => rw [q] at h; exact h.elim
  | some o =>
    cases o with
    | some d => rw [q] at h; exact h.elim
    | none =>
      rw [q] at h
      simp only at h
      cases q2 : tab.lookup p.e.cls with
      | none => rw [q2] at h; exact h.elim
      | some b =>
        rw [q2] at h
        obtain ⟨h1, h2, h3, h4⟩ := en.pin p rfl (by rw [P.hi]; exact q)
        rw [P.hi] at h1
        exact ⟨_, h1, rfl, ⟨b, ht _ _ q2 _ P.hm, h μ H _ (Ext.refl _ _) ok (.bl b)⟩, h2⟩
/-- a class of the text by its name -/
theorem cl_own {C : Addr} {x : Str} {mg : Str → Option Value} {env : Env} {cpos : Pos} (hm : mg x = some (.ref C)) (hg : ∀ {X' : Cx}, X'.env = env → Gl X' x) (hd : (x == ("__debug__" : Str)) = false := by decide) : ∀ {X' : Cx}, X'.mg = mg → X'.env = env → PE X' (.Name x cpos) (tC (.ref C)) :=
  fun h1 h2 => pe_glob (hg h2) (by rw [h1]; exact hm) rfl hd
theorem cl_ty {T : String} {x : Str} {mg : Str → Option Value} {env : Env} {cpos : Pos} (hm : mg x = none) (hv : bootBuiltins x = some (.type T)) (hg : ∀ {X' : Cx}, X'.env = env → Gl X' x) (hn : x ≠ "__name__" := by decide) (hd : (x == ("__debug__" : Str)) = false := by decide) : ∀ {X' : Cx}, X'.mg = mg → X'.env = env → PE X' (.Name x cpos) (tC (.ty T)) :=
  fun h1 h2 => pe_bltn (hg h2) (by rw [h1]; exact hm) hv rfl hn hd
end
/-! ### by the classes' facts -/
/-- what the top says of a class that a clause or isinstance names -/
def XcT (K : PySem.W.Frag) (mg : Str → Option Value) (x : Str) (tab : List (Str × Bool)) : Prop := ∃ D : Addr, mg x = some (.ref D) ∧ TabOk mg (fun v => PySem.W.exmOne K v (.ref D)) tab ∧ TabOk mg (fun v => PySem.W.kitOne K v (.ref D)) tab
/-- .. of a built-in one -/
def XcB (K : PySem.W.Frag) (mg : Str → Option Value) (x : String) (tab : List (Str × Bool)) : Prop := mg x = none ∧ TabOk mg (fun v => PySem.W.kitOne K v (.type x)) tab
section
variable {X : Cx} {W : WX} {x n : Str} {i : Nat} {body suite : List Stmt} {b₀ : Stmt} {np pos pos' cpos fp : Pos} {f : DS} {h : Exn → DS} {h0 : DS} {tab : List (Str × Bool)} {p : Pin} {oe : Obj} {pn : List (Addr × Obj)}
theorem s_tryA (hN : X.N.Nodup) (tk : L2N.Takes X W) (T : XcT X.K X.mg x tab)
    (hb : ∀ (W : WX) (pn : List (Addr × Obj)) (xe : Value → Shared → Prop), L2N.Takes (X.tr pn xe) W → PassesOwn (model X.prog X.w) X.A X.env xe → PSs (X.tr pn xe) body (tS X.kw X.mg W f))
    (hsu : ∀ (p : Pin) (oe : Obj) (pn : List (Addr × Obj)), PinOk X p oe i → PSs (X.suite p.a ((p.a, oe) :: pn)) (b₀ :: suite) (tS (X.kwp (some p)) X.mg W0 (h p.e)))
    (hg : Gl X x := by rfl) (hdb : (x == ("__debug__" : Str)) = false := by decide)
    (hs : X.stack = X.env :: X.outer := by rfl) (hf : X.env.frame = some X.env.locals := by rfl) (hi : X.N[i]? = some n := by rfl) (hln : X.env.kindOf n = some .local := by rfl) :
    PS X (.Try body [.ExceptHandler (some (.Name x np)) (some n) (b₀ :: suite) pos'] [] [] pos) (tS X.kw X.mg W (sTryAs f i tab h)) := by
  obtain ⟨D, hm, h1, _⟩ := T
  exact s_try_as hN tk ⟨hg, hdb, Or.inl hm⟩ h1 hb hsu hs hf hi hln
theorem s_tryO (tk : L2N.Takes X W) (T : XcT X.K X.mg x tab)
    (hb : ∀ (W : WX) (pn : List (Addr × Obj)) (xe : Value → Shared → Prop), L2N.Takes (X.tr pn xe) W → PassesOwn (model X.prog X.w) X.A X.env xe → PSs (X.tr pn xe) body (tS X.kw X.mg W f))
    (hsu : ∀ (a : Addr) (oe : Obj) (pn : List (Addr × Obj)), PSs (X.suite a ((a, oe) :: pn)) (b₀ :: suite) (tS X.kw X.mg W0 h0))
    (hg : Gl X x := by rfl) (hdb : (x == ("__debug__" : Str)) = false := by decide) (hs : X.stack = X.env :: X.outer := by rfl) (hf : X.env.frame = some X.env.locals := by rfl) :
    PS X (.Try body [.ExceptHandler (some (.Name x np)) none (b₀ :: suite) pos'] [] [] pos) (tS X.kw X.mg W (sTryO f tab h0)) := by
  obtain ⟨D, hm, h1, _⟩ := T
  exact s_try_only tk ⟨hg, hdb, Or.inl hm⟩ h1 hb hsu hs hf
theorem e_xisT (P : PinOk X p oe i) (hm : X.mg "isinstance" = none) (T : XcT X.K X.mg x tab)
    (hN : X.N[i]? = some n := by rfl) (hgx : Gl X x := by rfl) (hdx : (x == ("__debug__" : Str)) = false := by decide) (hv : Vis X.env.scope n := by first | exact Or.inl rfl | exact Or.inr (Or.inl rfl) | exact Or.inr (Or.inr rfl)) (hd : (n == ("__debug__" : Str)) = false := by decide) (hcd : (n == ("__classdict__" : Str)) = false := by decide)
    (hg : Gl X "isinstance" := by rfl) (he : starEach (.Name n np :: [.Name x cpos]) X.env = (false, eval (.Name n np) X.env) :: starEach [.Name x cpos] X.env := by rfl) (he2 : starEach (.Name x cpos :: []) X.env = (false, eval (.Name x cpos) X.env) :: starEach [] X.env := by rfl) (hpl : (backTo pos (starEach [.Name x cpos] X.env)).any (·.1) = false := by rfl) :
    PE (X.suite p.a ((p.a, oe) :: pn)) (.Call (.Name "isinstance" fp) [.Name n np, .Name x cpos] [] pos) (tE (X.kwp (some p)) X.mg W0 (cXis i p.e tab)) := by
  obtain ⟨D, hmx, _, h2⟩ := T
  exact e_xis (c := .ref D) P hm (cl_own hmx (fun e => by show _ = _; rw [e]; exact hgx) hdx) (fun u z => z) h2 hN hv hd hcd hg he he2 hpl
theorem e_xisB {x : String} (P : PinOk X p oe i) (hm : X.mg "isinstance" = none) (T : XcB X.K X.mg x tab) (hb : bootBuiltins x = some (.type x))
    (hN : X.N[i]? = some n := by rfl) (hgx : Gl X x := by rfl) (hnx : (x : Str) ≠ "__name__" := by decide) (hdx : ((x : Str) == ("__debug__" : Str)) = false := by decide) (hv : Vis X.env.scope n := by first | exact Or.inl rfl | exact Or.inr (Or.inl rfl) | exact Or.inr (Or.inr rfl)) (hd : (n == ("__debug__" : Str)) = false := by decide) (hcd : (n == ("__classdict__" : Str)) = false := by decide)
    (hg : Gl X "isinstance" := by rfl) (he : starEach (.Name n np :: [.Name x cpos]) X.env = (false, eval (.Name n np) X.env) :: starEach [.Name x cpos] X.env := by rfl) (he2 : starEach (.Name x cpos :: []) X.env = (false, eval (.Name x cpos) X.env) :: starEach [] X.env := by rfl) (hpl : (backTo pos (starEach [.Name x cpos] X.env)).any (·.1) = false := by rfl) :
    PE (X.suite p.a ((p.a, oe) :: pn)) (.Call (.Name "isinstance" fp) [.Name n np, .Name x cpos] [] pos) (tE (X.kwp (some p)) X.mg W0 (cXis i p.e tab)) := by
  exact e_xis (c := .ty x) P hm (cl_ty T.1 hb (fun e => by show _ = _; rw [e]; exact hgx) hnx hdx) (fun u z => z) T.2 hN hv hd hcd hg he he2 hpl
end
/-! ### what has to hold ahead -/
def xcB (r : Option Bool) (A B : Prop) : Prop := match r with
  | some true => A
  | some false => B
  | none => False
theorem xc_t {A B : Prop} : xcB (some true) A B = A := (rfl)
theorem xc_f {A B : Prop} : xcB (some false) A B = B := (rfl)
def uq (q : SQ) (i : Nat) : SQ := ⟨fun σ S => q.nx (σ.set i none) S, q.rt, fun σ S => q.bk (σ.set i none) S, fun σ S => q.ct (σ.set i none) S, fun _ _ _ => False⟩
def oq (q : SQ) : SQ := ⟨q.nx, q.rt, q.bk, q.ct, fun _ _ _ => False⟩
def tq (q : SQ) (k : Exn → Sg → Store → Prop) : SQ := ⟨q.nx, q.rt, q.bk, q.ct, k⟩
def slotN (σ : Sg) (i : Nat) : Prop := σ[i]? = some none
section
variable {q : SQ} {f : DS} {h : Exn → DS} {h0 : DS} {i : Nat} {tab : List (Str × Bool)} {σ : Sg} {S : Store} {e : Exn} {x : XQ} {Q : D → Store → Prop} {fa : DA} {nm g : Str} {fs : List Str} {k : Exn → Sg → Store → Prop}
theorem uq1 : (uq q i).nx σ S = q.nx (σ.set i none) S := (rfl)
theorem uq2 {d : D} : (uq q i).rt d S = q.rt d S := (rfl)
theorem uq3 : (uq q i).bk σ S = q.bk (σ.set i none) S := (rfl)
theorem uq4 : (uq q i).ct σ S = q.ct (σ.set i none) S := (rfl)
theorem oq1 : (oq q).nx σ S = q.nx σ S := (rfl)
theorem oq2 {d : D} : (oq q).rt d S = q.rt d S := (rfl)
theorem oq3 : (oq q).bk σ S = q.bk σ S := (rfl)
theorem oq4 : (oq q).ct σ S = q.ct σ S := (rfl)
theorem tq1 : (tq q k).nx σ S = q.nx σ S := (rfl)
theorem tq2 {d : D} : (tq q k).rt d S = q.rt d S := (rfl)
theorem tq3 : (tq q k).bk σ S = q.bk σ S := (rfl)
theorem tq4 : (tq q k).ct σ S = q.ct σ S := (rfl)
theorem tq5 : (tq q k).ex e σ S = k e σ S := (rfl)
theorem WS_raise {tt} : WS q tt (sRaise nm fs fa σ S) = W (fun e S1 => q.ex e σ S1, fun ds S1 => ds.length = fs.length ∧ q.ex ⟨nm, fs.zip ds⟩ σ S1) tg (fa σ S) := by
  unfold sRaise
  cases fa σ S with
  | ok ds S1 =>
    simp only [W]
    by_cases c : ds.length = fs.length
    · simp only [c, if_true, true_and]; rfl
    · simp only [c, if_false, false_and]; rfl
  | ex e S1 => rfl
  | no => rfl
theorem WS_tryAs {tt} : WS q tt (sTryAs f i tab h σ S) = WS (tq q fun e σ' S' => xcB (tab.lookup e.cls) (WS (uq q i) tg (h e (σ'.set i none) S')) (q.ex e σ' S')) tg (f σ S) := by
  unfold sTryAs
  cases f σ S with
  | ex e σ' S' =>
    simp only [WS, tq]
    cases tab.lookup e.cls with
    | none => rfl
    | some b =>
      cases b with
      | false => rfl
      | true =>
        simp only [xcB]
        cases h e (σ'.set i none) S' <;> rfl
  | _ => rfl
theorem WS_tryO {tt} : WS q tt (sTryO f tab h0 σ S) = WS (tq q fun e σ' S' => xcB (tab.lookup e.cls) (WS (oq q) tg (h0 σ' S')) (q.ex e σ' S')) tg (f σ S) := by
  unfold sTryO
  cases f σ S with
  | ex e σ' S' =>
    simp only [WS, tq]
    cases tab.lookup e.cls with
    | none => rfl
    | some b =>
      cases b with
      | false => rfl
      | true =>
        simp only [xcB]
        cases h0 σ' S' <;> rfl
  | _ => rfl
theorem W_xis {tt} : W (x, Q) tt (cXis i e tab σ S) = (slotN σ i ∧ WM (fun b => Q (.bl b) S) tg (tab.lookup e.cls)) := by
  unfold cXis slotN
  cases hq : σ[i]? with
  | none => exact (propext ⟨fun z => z.elim, fun z => by cases z.1⟩)
  | some o =>
    cases o with
    | some d => exact (propext ⟨fun z => z.elim, fun z => by cases z.1⟩)
    | none =>
      simp only [true_and]
      cases tab.lookup e.cls <;> rfl
theorem W_xf {tt} : W (x, Q) tt (cXf i e g σ S) = (slotN σ i ∧ WM (fun d => Q d S) tg (e.fs.lookup g)) := by
  unfold cXf slotN
  cases hq : σ[i]? with
  | none => exact (propext ⟨fun z => z.elim, fun z => by cases z.1⟩)
  | some o =>
    cases o with
    | some d => exact (propext ⟨fun z => z.elim, fun z => by cases z.1⟩)
    | none =>
      simp only [true_and]
      cases e.fs.lookup g <;> rfl
theorem sl0 {r : Sg} : slotN (none :: r) 0 = True := by simp [slotN]
theorem slS {o : Option D} {r : Sg} : slotN (o :: r) (i + 1) = slotN r i := by simp [slotN]
theorem lk0 {d : D} {ds : List D} {r : List Str} : List.lookup g (List.zip (g :: r) (d :: ds)) = some d := by simp [List.zip, List.lookup]
theorem lk0' {d : D} {ds : List (Str × D)} : List.lookup g ((g, d) :: ds) = some d := by simp [List.lookup]
theorem zipc {d : D} {ds : List D} {r : List Str} : List.zip (g :: r) (d :: ds) = (g, d) :: List.zip r ds := (rfl)
theorem zip0 {ds : List D} : List.zip ([] : List Str) ds = [] := (rfl)
end
/-! ### the top's facts of a class -/
def initOf (s : Stmt) : Stmt := match s with
  | .ClassDef _ _ _ (f :: _) _ _ _ _ _ _ _ => f
  | s => s
section
open PySem.XcI PySem.HandSPX
variable {P : Program} {w : World} {K : PySem.W.Frag} {h : Heap} {mg : Str → Option Value} {x f1 f2 : Str} {st : Stmt} {C fI N cc cda : Addr} {nm q qual : Str} {bs bm : List Value} {sn : List Str} {sub : List Value} {ab : Bool} {col : Option Bool} {dd : Option Addr} {k0 k1 k2 k3 k5 : Option Value}
  {oc doc pm ct ccl cl : Value} {od an cdd cld : Option Addr} {osl ccs csl : Array (Option Value)} {vs : Array Value} {file : Str} {tf : Tok} {ar : Arg}
theorem top_cls (X : K.In h) (G : h.Ns mainGlobals mg) (a : PySem.W.nsIn K mainGlobals x = some (some (.ref C))) (l : K.lookup C = some (excClassObj nm q C N bs bm true sn sub ab col dd k0 k1 k2 k3 k5 "ValueError.__new__")) (hbm : refsVE bm = true)
    (sa : PySem.W.findIn K (.ref C) "__setattr__" = some (some (.builtin "object.__setattr__"))) (ga : PySem.W.findIn K (.ref C) "__getattribute__" = some (some (.builtin "BaseException.__getattribute__"))) (gg : PySem.W.findIn K (.ref C) "__getattr__" = some none)
    (kC : PySem.W.keepIn K (.ref C) = true) (exC : PySem.W.subIn K (.ref C) (.type "BaseException") = some true) (tyC : PySem.W.typeIn K (.ref C) = some (.type "type")) (hdC : PySem.W.hasDictIn K C = true) (sup : PySem.W.ks_superIn K C C "__init__" = some (some (.builtin "ValueError.__init__")))
    (vE : PySem.W.subIn K (.ref C) (.type "ValueError") = some true) (mC : PySem.W.mroIn K C (.ref C) = some true) (ha : PySem.W.findIn K (.ref C) "__class__" = some (some (.builtin "object.__class__"))) (hnn : PySem.W.specialIn K (.builtin "object.__class__") "__get__" = some (some (.builtin "getset_descriptor.__get__")))
    (ht : PySem.W.takesIn K (.builtin "object.__class__") = some true) (hm : PySem.W.mroIn K C (.type "object") = some true) (any : PySem.W.nsIn K PySem.cStatics "thirdparty.any" = some none) (noS : PySem.W.nsIn K mainGlobals "super" = some none) : Cls K mg x C :=
  ⟨PySem.W.mg_of X G a, ⟨_, _, _, _, _, _, _, _, _, _, _, _, _, _, _, l, hbm⟩, sa, ga, gg, kC, exC, tyC, hdC, sup, vE, mC, ha, hnn, ht, hm, any, PySem.W.mg_none_of X G noS⟩
theorem top_x1 (T : Cls K mg x C) (iC : PySem.W.findIn K (.ref C) "__init__" = some (some (.ref fI))) (tI : PySem.W.typeIn K (.ref fI) = some (.type "function")) (hno : PySem.W.findIn K (.ref C) f1 = some none)
    (lI : K.lookup fI = some ⟨oc, od, .func (PySem.W.fnX "__init__" qual (defArgs st) (defBody st) (defScope st) [("__class__", cc)] .none .none doc pm an (.ref cda) ct), osl⟩) (cI : PySem.W.codeIn K (.ref cda) qual = true) (lc : K.lookup cda = some ⟨ccl, cdd, .fields vs, ccs⟩) (hv : vs[2]? = some (.str file tf)) (hf : ((P.main.file : Str) == file) = true)
    (lcc : K.lookup cc = some ⟨cl, cld, .cell (some (.ref C)), csl⟩) (hp : ((defArgs st).posonlyargs ++ (defArgs st).args).head? = some ar) (har : ar.arg = "self") (hb : is1 f1 (defBody st))
    (hs : (defScope st).names.lookup ("super" : Str) = some .globalImplicit ∧ (defScope st).names.lookup ("__class__" : Str) = some .free ∧ (defScope st).names.lookup ("self" : Str) = some .local ∧ (∀ y ∈ [f1], (defScope st).names.lookup y = some .local) ∧ (defScope st).kind = .function ∧ (defScope st).isCoroutine = false ∧ (defScope st).isGenerator = false ∧ (∀ x ∈ (defScope st).names, x.2 ≠ .cell))
    (hbi : ∀ (s : Shared) (us : List Value), us.length = [f1].length + 1 → BindsTo s (PySem.W.fnX "__init__" qual (defArgs st) (defBody st) (defScope st) [("__class__", cc)] .none .none doc pm an (.ref cda) ct) ⟨us, []⟩ ((("self" : Str) :: [f1]).zip us))
    (htop : (P.main.scope.names.lookup ("super" : Str)).isSome = false) (hs1 : (("self" : Str) == f1) = false) (hd1 : (f1 == ("__debug__" : Str)) = false) : ∃ C, XTxt P w K mg x [f1] C :=
  ⟨C, PySem.XcI.x1 T iC tI hno ⟨_, _, _, _, _, _, _, _, _, _, _, _, _, _, _, _, _, _, _, _, _, _, _, lI, cI, lc, hv, hf, lcc, hp, har, hb, hs.1, hs.2.1, hs.2.2.1, hs.2.2.2.1, hs.2.2.2.2.1, hs.2.2.2.2.2.1, hs.2.2.2.2.2.2.1, hs.2.2.2.2.2.2.2, hbi⟩ htop hs1 hd1⟩
theorem top_x2 (T : Cls K mg x C) (iC : PySem.W.findIn K (.ref C) "__init__" = some (some (.ref fI))) (tI : PySem.W.typeIn K (.ref fI) = some (.type "function")) (hno : PySem.W.findIn K (.ref C) f1 = some none) (hno2 : PySem.W.findIn K (.ref C) f2 = some none)
    (lI : K.lookup fI = some ⟨oc, od, .func (PySem.W.fnX "__init__" qual (defArgs st) (defBody st) (defScope st) [("__class__", cc)] .none .none doc pm an (.ref cda) ct), osl⟩) (cI : PySem.W.codeIn K (.ref cda) qual = true) (lc : K.lookup cda = some ⟨ccl, cdd, .fields vs, ccs⟩) (hv : vs[2]? = some (.str file tf)) (hf : ((P.main.file : Str) == file) = true)
    (lcc : K.lookup cc = some ⟨cl, cld, .cell (some (.ref C)), csl⟩) (hp : ((defArgs st).posonlyargs ++ (defArgs st).args).head? = some ar) (har : ar.arg = "self") (hb : is2 f1 f2 (defBody st))
    (hs : (defScope st).names.lookup ("super" : Str) = some .globalImplicit ∧ (defScope st).names.lookup ("__class__" : Str) = some .free ∧ (defScope st).names.lookup ("self" : Str) = some .local ∧ (∀ y ∈ [f1, f2], (defScope st).names.lookup y = some .local) ∧ (defScope st).kind = .function ∧ (defScope st).isCoroutine = false ∧ (defScope st).isGenerator = false ∧ (∀ x ∈ (defScope st).names, x.2 ≠ .cell))
    (hbi : ∀ (s : Shared) (us : List Value), us.length = [f1, f2].length + 1 → BindsTo s (PySem.W.fnX "__init__" qual (defArgs st) (defBody st) (defScope st) [("__class__", cc)] .none .none doc pm an (.ref cda) ct) ⟨us, []⟩ ((("self" : Str) :: [f1, f2]).zip us))
    (htop : (P.main.scope.names.lookup ("super" : Str)).isSome = false) (hs1 : (("self" : Str) == f1) = false) (hd1 : (f1 == ("__debug__" : Str)) = false) (hs2 : (("self" : Str) == f2) = false) (hd2 : (f2 == ("__debug__" : Str)) = false) (h12 : (f1 == f2) = false) : ∃ C, XTxt P w K mg x [f1, f2] C :=
  ⟨C, PySem.XcI.x2 T iC tI hno hno2 ⟨_, _, _, _, _, _, _, _, _, _, _, _, _, _, _, _, _, _, _, _, _, _, _, lI, cI, lc, hv, hf, lcc, hp, har, hb, hs.1, hs.2.1, hs.2.2.1, hs.2.2.2.1, hs.2.2.2.2.1, hs.2.2.2.2.2.1, hs.2.2.2.2.2.2.1, hs.2.2.2.2.2.2.2, hbi⟩ htop hs1 hd1 hs2 hd2 h12⟩
/-- a class that a clause names: told of one raised class after the other -/
theorem top_xc {tab : List (Str × Bool)} (X : K.In h) (G : h.Ns mainGlobals mg) (a : PySem.W.nsIn K mainGlobals x = some (some (.ref C))) (t : TabOk mg (fun v => PySem.W.exmOne K v (.ref C)) tab ∧ TabOk mg (fun v => PySem.W.kitOne K v (.ref C)) tab) : XcT K mg x tab := ⟨C, PySem.W.mg_of X G a, t⟩
theorem top_tn {one1 one2 : Value → Option Bool} : TabOk mg one1 [] ∧ TabOk mg one2 [] := ⟨.nil, .nil⟩
theorem top_tc {one1 one2 : Value → Option Bool} {tab : List (Str × Bool)} {b : Bool} (X : K.In h) (G : h.Ns mainGlobals mg) (a : PySem.W.nsIn K mainGlobals x = some (some (.ref C))) (h1 : one1 (.ref C) = some b) (h2 : one2 (.ref C) = some b) (t : TabOk mg one1 tab ∧ TabOk mg one2 tab) : TabOk mg one1 ((x, b) :: tab) ∧ TabOk mg one2 ((x, b) :: tab) :=
  ⟨.cons (PySem.W.mg_of X G a) h1 t.1, .cons (PySem.W.mg_of X G a) h2 t.2⟩
end
end DL

/-! DLQ: a tuple times 1. -/
namespace DL
open PySem PySem.Spec PyProof.Rows L2
theorem tuple_mul1 (l : Addr) (items : Array Value) (n : Nat) (dd : Option Addr) (sl : Array (Option Value)) (u : Tok) :
    Meets (Builtin.«tuple.__mul__» ⟨[.ref l, .int 1 u], []⟩) (fun _ R s => s.heap.get? l = some { cls := .type "tuple", dict := dd, data := .seq items n, slots := sl } ∧ R (.ok (.ret (Value.ref l))) s) :=
  .of_wp fun prog w A R s h => by
    obtain ⟨hp, g, d, tk, os⟩ := s
    obtain ⟨hl, h⟩ := h
    have f1 := AutoSeq1.idx_int
    have c1 : (items.isEmpty || (1 : Int) == 1) = true := by simp
    wp_walk using wpAny_loadPart' hl
    repeat (first
      | (refine wpAny_ite_true (by simp) ?_; wp_walk using wpAny_loadPart' hl)
      | (refine wpAny_ite_false (by simp) ?_; wp_walk using wpAny_loadPart' hl))
    exact ⟨_, rfl, h⟩
theorem tuple_mul0 (l : Addr) (items : Array Value) (n : Nat) (dd : Option Addr) (sl : Array (Option Value)) (u : Tok) (x : Value) (xs : List Value) (hi : items.isEmpty = false) :
    Meets (Builtin.«tuple.__mul__» ⟨[.ref l, .int 0 u], []⟩) (fun _ R s => s.heap.get? l = some { cls := .type "tuple", dict := dd, data := .seq items n, slots := sl } ∧ R (.ok (.ret (Value.ref s.heap.objs.size))) { s with heap := s.heap.push { cls := Value.type "tuple", data := Data.seq #[] }, toks := s.toks }) :=
  .of_wp fun prog w A R s h => by
    obtain ⟨hp, g, d, tk, os⟩ := s
    obtain ⟨hl, h⟩ := h
    have f1 := AutoSeq1.idx_int
    wp_walk using wpAny_loadPart' hl
    repeat (first
      | (refine wpAny_ite_false (by simp [hi]) ?_; wp_walk using wpAny_loadPart' hl)
      | (refine wpAny_ite_true (by simp) ?_; wp_walk using wpAny_loadPart' hl))
    exact ⟨_, rfl, h⟩
section
variable {X : Cx} {pq : Option Pin}
theorem op_rep0 : OpR X (binaryOp .Mult) (fun x y H Q => ∃ l xs, x = .ref l ∧ y = .int 0 ∧ SqT X.K H l xs ∧ xs ≠ [] ∧ ∀ p, H p = none → Q (.ref p) (upd H p (.tup []))) := by
  intro pins s σ H x y v u Q I rx ry h
  obtain ⟨l, xs, rfl, rfl, hT, hne, q⟩ := h
  cases rx
  obtain ⟨t, rfl⟩ := ry
  obtain ⟨its, r, ⟨⟨cls, dd, data, sl⟩, ho, hc, n, hd⟩, hs⟩ := I.tuple hT
  simp only at hc hd
  subst hc hd
  have hi : its.toArray.isEmpty = false := by
    cases its with
    | nil => cases r; exact absurd rfl hne
    | cons a b => rfl
  refine wpAny_binaryOp_repeat_ref (T := "tuple") (U := "int") (by decide) ⟨_, ho, rfl⟩ (fun s' => typeIs_int s' 0 t) noFill_tuple_mul F.fills_int_mul F.slot_int_rmul repeat_tuple F.slot_int_index.lookup
    (call_meets F.slot_int_rmul (typeIs_int s 0 t) F.entry_int_rmul (F.args_int_rmul_2 _ _) (int_rmul_tuple 0 t l its.toArray n dd sl)
      ⟨ho, rfl, ⟨_, ho, rfl⟩, call_meets F.slot_tuple_mul ⟨_, ho, rfl⟩ F.entry_tuple_mul (F.args_tuple_mul_2 _ _) (tuple_mul0 l its.toArray n dd sl t (.ref l) [] hi) ⟨ho, ?_⟩⟩)
  refine ⟨.ref s.heap.objs.size, _, I.laid (t' := s.toks) (o := .tup []) (fun b ob q => Heap.get?_push_of_some _ q) (Nat.le_refl _) ?_, rfl, q _ (I.hok.fresh (Nat.le_refl _))⟩
  exact ⟨by decide, [], .nil, IsTup.new _ _⟩
theorem op_rep1 : OpR X (binaryOp .Mult) (fun x y H Q => ∃ l xs, x = .ref l ∧ y = .int 1 ∧ SqT X.K H l xs ∧ Q (.ref l) H) := by
  intro pins s σ H x y v u Q I rx ry h
  obtain ⟨l, xs, rfl, rfl, hT, q⟩ := h
  cases rx
  obtain ⟨t, rfl⟩ := ry
  obtain ⟨its, r, ⟨⟨cls, dd, data, sl⟩, ho, hc, n, hd⟩, hs⟩ := I.tuple hT
  simp only at hc hd
  subst hc hd
  refine wpAny_binaryOp_repeat_ref (T := "tuple") (U := "int") (by decide) ⟨_, ho, rfl⟩ (fun s' => typeIs_int s' 1 t) noFill_tuple_mul F.fills_int_mul F.slot_int_rmul repeat_tuple F.slot_int_index.lookup
    (call_meets F.slot_int_rmul (typeIs_int s 1 t) F.entry_int_rmul (F.args_int_rmul_2 _ _) (int_rmul_tuple 1 t l its.toArray n dd sl)
      ⟨ho, rfl, ⟨_, ho, rfl⟩, call_meets F.slot_tuple_mul ⟨_, ho, rfl⟩ F.entry_tuple_mul (F.args_tuple_mul_2 _ _) (tuple_mul1 l its.toArray n dd sl t) ⟨ho, ?_⟩⟩)
  exact ⟨.ref l, H, I, rfl, q⟩
def oMulX : O2 := fun x y S => match x, y with
  | .tup xs, .int k => if k = 1 then some (.tup xs, S) else if xs ≠ [] ∧ k = 0 then some (.tup [], S) else if xs ≠ [] ∧ 2 ≤ k ∧ k ≤ 1000 ∧ xs.length ≤ 1000 then some (.tup (List.replicate k.toNat xs).flatten, S) else none
  | _, _ => oMul x y S
theorem d_mulX : OpR X (binaryOp .Mult) (r2 (X.kwp pq) oMulX) := by
  intro pins s σ H x y v u Q I rx ry hr
  obtain ⟨μ, S, a, b, ok, ra, rb, hp⟩ := hr
  unfold oMulX at hp
  split at hp
  · rename_i xs k
    cases rb
    cases ra with
    | @tup _ vs _ hT l rl =>
      by_cases e : k = 1
      · subst e
        rw [if_pos rfl] at hp
        exact op_rep1 pins s σ H _ _ v u Q I rx ry ⟨_, _, rfl, rfl, hT, hp.same ok (.tup hT l rl)⟩
      · rw [if_neg e] at hp
        have hne : xs ≠ [] → vs ≠ [] := fun h e => h (by subst e; cases rl; rfl)
        by_cases h0 : xs ≠ [] ∧ k = 0
        · rw [if_pos h0] at hp
          obtain ⟨h1, rfl⟩ := h0
          exact op_rep0 pins s σ H _ _ v u Q I rx ry ⟨_, _, rfl, rfl, hT, hne h1, hp.tup ok (by decide) .nil⟩
        · rw [if_neg h0] at hp
          by_cases h2 : xs ≠ [] ∧ 2 ≤ k ∧ k ≤ 1000 ∧ xs.length ≤ 1000
          · rw [if_pos h2] at hp
            obtain ⟨h1, h3, h4, h5⟩ := h2
            rw [rl.length] at h5
            refine op_repT pins s σ H _ _ v u Q I rx ry ⟨_, _, _, rfl, rfl, hT, hne h1, h3, h4, h5, hp.tup ok ?_ (rl.rep _)⟩
            rw [List.length_flatten, List.map_replicate, List.sum_replicate_nat, sizeLine_eq]
            have := Nat.mul_le_mul (show k.toNat ≤ 1000 by omega) h5
            omega
          · rw [if_neg h2] at hp
            exact hp.elim
  · exact d_mul (pq := pq) pins s σ H x y v u Q I rx ry ⟨μ, S, a, b, ok, ra, rb, hp⟩
theorem o_mul1 {Q : D → Store → Prop} {tt : Tg Q} {xs : List D} {S : Store} : WO Q tt (oMulX (.tup xs) (.int 1) S) = Q (.tup xs) S := (rfl)
theorem o_mulT {Q : D → Store → Prop} {tt : Tg Q} {xs : List D} {S : Store} {k : Int} (h0 : xs ≠ []) (h1 : 0 ≤ k) (h2 : k ≤ 1000) (h3 : xs.length ≤ 1000) : WO Q tt (oMulX (.tup xs) (.int k) S) = Q (.tup (List.replicate k.toNat xs).flatten) S := by
  show WO Q tt (if k = 1 then _ else _) = _
  by_cases e : k = 1
  · subst e; simp [WO]
  · rw [if_neg e]
    by_cases e0 : k = 0
    · subst e0; rw [if_pos ⟨h0, rfl⟩]; simp [WO]
    · rw [if_neg (fun z => e0 z.2), if_pos ⟨h0, by omega, h2, h3⟩]; rfl
end
end DL

/-! DLG: max and min of two tuples; the place of an item in a tuple; a tuple times a number. -/
namespace PySem
open PySem.W
section
variable {prog : Program} {w : World} {A : Around} {E : Value → Shared → Prop} {s : Shared}
theorem gx_two {a b : Value} {Q : Value → Shared → Prop}
    (head : wpAny (model prog w) A.in1 (pyIter (.ref s.heap.objs.size)) (fun it s₂ => ∃ I fp wr G n P St H bt, it = .ref I ∧ WalksS prog w A.in1 I fp wr G n P St ∧ St 0 s₂ ∧ (∀ b ∈ fp, b < s₂.heap.objs.size) ∧ 0 < n ∧
      (∀ b o, H.get? b = some o → b ∉ wr) ∧ (∀ b o, H.get? b = some o → s₂.heap.get? b = some o) ∧ CmpIn prog w A.in1 .Gt H P bt ∧ ∀ v s', P (argBest bt (n - 1)) v → Moved wr G s₂ s' → Q v s') E
      { s with heap := s.heap.push { cls := .type "tuple", data := .seq #[a, b] } }) :
    wpAny (model prog w) A (call (.builtin "max") [a, b]) Q E s := by
  have hname : (toString "max" ++ toString ".loop" : String) = "max.loop" := by decide
  refine call_function_tree F.kind_max F.plain_max F.entry_max (F.args_max2 _ _) ?_
  show wpAny _ A.in1 (Builtin.Builtins.bindParams "max" ["key", "default"] 0 ⟨[], []⟩ >>= _) _ _ s
  refine wpAny_bind (wpAny_of_eq (show Builtin.Builtins.bindParams "max" ["key", "default"] 0 ⟨[], []⟩ = pure [none, none] from rfl) ?_)
  show wpAny _ A.in1 (newTuple [a, b] >>= _) _ _ s
  refine wpAny_bind (wpAny_newObj_type ?_)
  refine wpAny_bind (wpAny_mono head (fun it s₂ h₂ => ?_) fun _ _ e => e)
  obtain ⟨I, fp, wr, G, n, P, St, H, bt, rfl, W, hst, hfp, hn, hw, hkeep, hcmp, hQ⟩ := h₂
  refine wpAny_bind (wpAny_newObj_type ?_)
  have hSf : s₂.heap.objs.size ∉ fp := fun hm => Nat.lt_irrefl _ (hfp _ hm)
  rw [hname]
  refine wpAny_pure ⟨plainId_quiet F.plain_max_loop _, codeAny_max_loop_firstH W H hw bt hcmp s₂.heap.objs.size hSf (fresh_in hkeep) _ hn (fun b o e => Heap.get?_push_of_some _ (hkeep b o e)) (W.frame 0 s₂ _ s₂.toks hst (Nat.le_refl _) fun b _ o e => Heap.get?_push_of_some _ e) (Heap.get?_push_size _ rfl) fun v s' hP hm => ?_⟩
  exact hQ v s' hP (Moved.drop_new (tk := s₂.toks) hm (Nat.le_refl _))
theorem gn_two {a b : Value} {Q : Value → Shared → Prop}
    (head : wpAny (model prog w) A.in1 (pyIter (.ref s.heap.objs.size)) (fun it s₂ => ∃ I fp wr G n P St H bt, it = .ref I ∧ WalksS prog w A.in1 I fp wr G n P St ∧ St 0 s₂ ∧ (∀ b ∈ fp, b < s₂.heap.objs.size) ∧ 0 < n ∧
      (∀ b o, H.get? b = some o → b ∉ wr) ∧ (∀ b o, H.get? b = some o → s₂.heap.get? b = some o) ∧ CmpIn prog w A.in1 .Lt H P bt ∧ ∀ v s', P (argBest bt (n - 1)) v → Moved wr G s₂ s' → Q v s') E
      { s with heap := s.heap.push { cls := .type "tuple", data := .seq #[a, b] } }) :
    wpAny (model prog w) A (call (.builtin "min") [a, b]) Q E s := by
  have hname : (toString "min" ++ toString ".loop" : String) = "min.loop" := by decide
  refine call_function_tree F.kind_min F.plain_min F.entry_min (F.args_min2 _ _) ?_
  show wpAny _ A.in1 (Builtin.Builtins.bindParams "min" ["key", "default"] 0 ⟨[], []⟩ >>= _) _ _ s
  refine wpAny_bind (wpAny_of_eq (show Builtin.Builtins.bindParams "min" ["key", "default"] 0 ⟨[], []⟩ = pure [none, none] from rfl) ?_)
  show wpAny _ A.in1 (newTuple [a, b] >>= _) _ _ s
  refine wpAny_bind (wpAny_newObj_type ?_)
  refine wpAny_bind (wpAny_mono head (fun it s₂ h₂ => ?_) fun _ _ e => e)
  obtain ⟨I, fp, wr, G, n, P, St, H, bt, rfl, W, hst, hfp, hn, hw, hkeep, hcmp, hQ⟩ := h₂
  refine wpAny_bind (wpAny_newObj_type ?_)
  have hSf : s₂.heap.objs.size ∉ fp := fun hm => Nat.lt_irrefl _ (hfp _ hm)
  rw [hname]
  refine wpAny_pure ⟨plainId_quiet F.plain_min_loop _, codeAny_min_loop_firstH W H hw bt hcmp s₂.heap.objs.size hSf (fresh_in hkeep) _ hn (fun b o e => Heap.get?_push_of_some _ (hkeep b o e)) (W.frame 0 s₂ _ s₂.toks hst (Nat.le_refl _) fun b _ o e => Heap.get?_push_of_some _ e) (Heap.get?_push_size _ rfl) fun v s' hP hm => ?_⟩
  exact hQ v s' hP (Moved.drop_new (tk := s₂.toks) hm (Nat.le_refl _))
theorem max2_data {a b : Value} {x y : PyData} {as bs : List Addr} {Q : Value → Shared → Prop} (hh : A.handled = none) (ra : Reads s.heap a x as) (rb : Reads s.heap b y bs) (ha : AlikeAll [x, y]) (hu : A.units + 1 + PyData.depthAll [x, y] < cLine)
    (h : ∀ h' tk, (∀ b o, s.heap.get? b = some o → h'.get? b = some o) → Q (if dataLt x y = true then b else a) { s with heap := h', toks := tk }) : wpAny (model prog w) A (call (.builtin "max") [a, b]) Q E s := by
  have k : ∀ c o, s.heap.get? c = some o → (s.heap.push { cls := .type "tuple", data := .seq #[a, b] }).get? c = some o := fun c o e => Heap.get?_push_of_some _ e
  have hT : (s.heap.push { cls := .type "tuple", data := .seq #[a, b] }).IsTuple s.heap.objs.size #[a, b] := ⟨_, Heap.get?_push_size _ rfl, rfl, 0, rfl⟩
  refine gx_two (iter_tupleW (A := A.in1) (s := { s with heap := s.heap.push { cls := .type "tuple", data := .seq #[a, b] } }) hh hT fun s₂ e W st hfp hw hk => ?_)
  refine ⟨_, _, _, _, _, _, _, s.heap.push { cls := .type "tuple", data := .seq #[a, b] }, _, rfl, W, st, hfp, by show 0 < 2; decide, hw, hk, cmpIn_gt (A := A.in1) (s := { s with heap := s.heap.push { cls := .type "tuple", data := .seq #[a, b] } }) (vs := #[a, b]) (xs := [x, y]) (.cons (reads_keeps k ra) (.cons (reads_keeps k rb) .nil)) ha (by show A.units + 1 + _ < _; exact hu), fun v s' hP m => ?_⟩
  obtain ⟨h', tk, rfl, hk'⟩ := moved_old e rfl m
  have hv : v = if dataLt x y = true then b else a := by
    have e1 : (#[a, b] : Array Value).size - 1 = 1 := rfl
    rw [e1] at hP
    have e2 : argBest (fun i j => dataLt (List.getD [x, y] j PyData.none) (List.getD [x, y] i PyData.none)) 1 = if dataLt x y = true then 1 else 0 := rfl
    rw [e2] at hP
    by_cases c : dataLt x y = true
    · rw [if_pos c] at hP ⊢
      exact (Option.some.inj hP).symm
    · rw [if_neg c] at hP ⊢
      exact (Option.some.inj hP).symm
  rw [hv]
  exact h h' tk fun c o z => hk' c o (k c o z)
theorem min2_data {a b : Value} {x y : PyData} {as bs : List Addr} {Q : Value → Shared → Prop} (hh : A.handled = none) (ra : Reads s.heap a x as) (rb : Reads s.heap b y bs) (ha : AlikeAll [x, y]) (hu : A.units + 1 + PyData.depthAll [x, y] < cLine)
    (h : ∀ h' tk, (∀ b o, s.heap.get? b = some o → h'.get? b = some o) → Q (if dataLt y x = true then b else a) { s with heap := h', toks := tk }) : wpAny (model prog w) A (call (.builtin "min") [a, b]) Q E s := by
  have k : ∀ c o, s.heap.get? c = some o → (s.heap.push { cls := .type "tuple", data := .seq #[a, b] }).get? c = some o := fun c o e => Heap.get?_push_of_some _ e
  have hT : (s.heap.push { cls := .type "tuple", data := .seq #[a, b] }).IsTuple s.heap.objs.size #[a, b] := ⟨_, Heap.get?_push_size _ rfl, rfl, 0, rfl⟩
  refine gn_two (iter_tupleW (A := A.in1) (s := { s with heap := s.heap.push { cls := .type "tuple", data := .seq #[a, b] } }) hh hT fun s₂ e W st hfp hw hk => ?_)
  refine ⟨_, _, _, _, _, _, _, s.heap.push { cls := .type "tuple", data := .seq #[a, b] }, _, rfl, W, st, hfp, by show 0 < 2; decide, hw, hk, cmpIn_lt (A := A.in1) (s := { s with heap := s.heap.push { cls := .type "tuple", data := .seq #[a, b] } }) (vs := #[a, b]) (xs := [x, y]) (.cons (reads_keeps k ra) (.cons (reads_keeps k rb) .nil)) ha (by show A.units + 1 + _ < _; exact hu), fun v s' hP m => ?_⟩
  obtain ⟨h', tk, rfl, hk'⟩ := moved_old e rfl m
  have hv : v = if dataLt y x = true then b else a := by
    have e1 : (#[a, b] : Array Value).size - 1 = 1 := rfl
    rw [e1] at hP
    have e2 : argBest (fun i j => dataLt (List.getD [x, y] i PyData.none) (List.getD [x, y] j PyData.none)) 1 = if dataLt y x = true then 1 else 0 := rfl
    rw [e2] at hP
    by_cases c : dataLt y x = true
    · rw [if_pos c] at hP ⊢
      exact (Option.some.inj hP).symm
    · rw [if_neg c] at hP ⊢
      exact (Option.some.inj hP).symm
  rw [hv]
  exact h h' tk fun c o z => hk' c o (k c o z)
end
end PySem
namespace DL
open PySem PySem.Spec PyProof.Rows L2
/-- what may be compared -/
def okMM (x y : D) : Prop := x.fits = true ∧ y.fits = true ∧ x.dep ≤ 60 ∧ y.dep ≤ 60 ∧ PySem.W.AlikeAll [x.py, y.py]
open Classical in
noncomputable def oMaxX : OA := fun xs S => match xs with
  | [.tup a, .tup b] => if okMM (.tup a) (.tup b) then some (if PySem.W.dataLt (D.py (.tup a)) (D.py (.tup b)) = true then .tup b else .tup a, S) else none
  | _ => oMax xs S
open Classical in
noncomputable def oMinX : OA := fun xs S => match xs with
  | [.tup a, .tup b] => if okMM (.tup a) (.tup b) then some (if PySem.W.dataLt (D.py (.tup b)) (D.py (.tup a)) = true then .tup b else .tup a, S) else none
  | _ => oMin xs S
section
variable {X : Cx} {pq : Option Pin}
theorem dep2 {x y : D} (hx : x.fits = true) (hy : y.fits = true) (h1 : x.dep ≤ 60) (h2 : y.dep ≤ 60) : PyData.depthAll [x.py, y.py] ≤ 60 := by
  have e1 := D.depth x hx
  have e2 := D.depth y hy
  have : PyData.depthAll [x.py, y.py] = max x.py.depth (max y.py.depth 0) := by simp [PyData.depthAll]
  rw [this, e1, e2]
  omega
theorem d_maxX (hu : X.A.units + 64 < cLine) (hc : X.calm = true) : CallR X (.builtin "max") (rA (X.kwp pq) oMaxX) := by
  intro pins s σ H xs us Q I r hr
  obtain ⟨μ, S, ds, ok, rd, hp⟩ := hr
  unfold oMaxX at hp
  split at hp
  · rename_i a b
    split at hp
    · rename_i ho
      obtain ⟨f1, f2, d1, d2, al⟩ := ho
      obtain ⟨v, u, rfl, rx, ry⟩ := rd.two
      obtain ⟨v', u', rfl, rv, ru⟩ := vals2 r
      obtain ⟨as, r1⟩ := rx.reads I f1 rv
      obtain ⟨bs, r2⟩ := ry.reads I f2 ru
      have hd := dep2 f1 f2 d1 d2
      refine max2_data (I.ok.hd hc) r1 r2 al (by omega) fun h' tk k => ?_
      by_cases c : PySem.W.dataLt (D.py (.tup a)) (D.py (.tup b)) = true
      · rw [if_pos c] at hp ⊢
        exact ⟨u, H, I.kept k, ru, hp.same ok ry⟩
      · rw [if_neg c] at hp ⊢
        exact ⟨v, H, I.kept k, rv, hp.same ok rx⟩
    · exact hp.elim
  · exact d_max (pq := pq) hc pins s σ H xs us Q I r ⟨μ, S, ds, ok, rd, hp⟩
theorem d_minX (hu : X.A.units + 64 < cLine) (hc : X.calm = true) : CallR X (.builtin "min") (rA (X.kwp pq) oMinX) := by
  intro pins s σ H xs us Q I r hr
  obtain ⟨μ, S, ds, ok, rd, hp⟩ := hr
  unfold oMinX at hp
  split at hp
  · rename_i a b
    split at hp
    · rename_i ho
      obtain ⟨f1, f2, d1, d2, al⟩ := ho
      obtain ⟨v, u, rfl, rx, ry⟩ := rd.two
      obtain ⟨v', u', rfl, rv, ru⟩ := vals2 r
      obtain ⟨as, r1⟩ := rx.reads I f1 rv
      obtain ⟨bs, r2⟩ := ry.reads I f2 ru
      have hd := dep2 f1 f2 d1 d2
      refine min2_data (I.ok.hd hc) r1 r2 al (by omega) fun h' tk k => ?_
      by_cases c : PySem.W.dataLt (D.py (.tup b)) (D.py (.tup a)) = true
      · rw [if_pos c] at hp ⊢
        exact ⟨u, H, I.kept k, ru, hp.same ok ry⟩
      · rw [if_neg c] at hp ⊢
        exact ⟨v, H, I.kept k, rv, hp.same ok rx⟩
    · exact hp.elim
  · exact d_min (pq := pq) hc pins s σ H xs us Q I r ⟨μ, S, ds, ok, rd, hp⟩
variable {Q : D → Store → Prop} {tt : Tg Q} {S : Store} {a b : List D} {i j : Int}
theorem o_maxX : WO Q tt (oMaxX [.int i, .int j] S) = Q (.int (if j > i then j else i)) S := (rfl)
theorem o_minX : WO Q tt (oMinX [.int i, .int j] S) = Q (.int (if j < i then j else i)) S := (rfl)
theorem maxT_w (ho : okMM (.tup a) (.tup b)) (h1 : Q (.tup a) S) (h2 : Q (.tup b) S) : WO Q tt (oMaxX [.tup a, .tup b] S) := by
  unfold oMaxX
  simp only [if_pos ho]
  show Q (if _ then _ else _) S
  split
  · exact h2
  · exact h1
theorem minT_w (ho : okMM (.tup a) (.tup b)) (h1 : Q (.tup a) S) (h2 : Q (.tup b) S) : WO Q tt (oMinX [.tup a, .tup b] S) := by
  unfold oMinX
  simp only [if_pos ho]
  show Q (if _ then _ else _) S
  split
  · exact h2
  · exact h1
end
end DL

namespace PySem
open Sem (wp)
open Builtin Builtin.Str
open AutoSeq1 (wpAny_loadPart')
theorem xx_extend_tup (l : Addr) (items : Array Value) (n : Nat) (b : Addr) (items2 : Array Value) (n2 : Nat) (dct : Option Addr) (sl : Array (Option Value)) (hs0 : ¬(!items.isEmpty && Builtin.List.listTooLong (items.size + items2.size)) = true) (hs1 : items.size ≤ sizeLine) (hs2 : items.size + items2.size ≤ sizeLine + 1) :
    Meets (Builtin.«list.extend» ⟨[.ref l, .ref b], []⟩) (fun _ R s => s.heap.get? l = some { cls := .type "list", dict := none, data := .seq items n, slots := #[] } ∧ s.heap.get? b = some { cls := .type "tuple", dict := dct, data := .seq items2 n2, slots := sl } ∧ R (.ok (.ret Value.none)) { s with heap := s.heap.update l (Obj.mapSeq fun x => x ++ items2), toks := s.toks }) :=
  .of_wp fun prog w A R s h => by
    obtain ⟨hp, g, d, tk, os⟩ := s; obtain ⟨hl, hb, h⟩ := h
    have hz' : (items ++ items2).size ≤ sizeLine + 1 := by rw [Array.size_append]; exact hs2
    wp_walk using (wpAny_updateSeq hl rfl (hz := hs1) (_hz' := hz')), wpAny_loadPart' hl, wpAny_loadPart' hb; exact ⟨_, rfl, h⟩
end PySem
namespace DL
open PySem PySem.Spec PyProof.Rows L2
section
variable {X : Cx} {pq : Option Pin}
def rExtendT (K : PySem.W.Frag) : V → List V → Hp → VK → Prop := fun x vs H Q => ∃ l b xs zs, x = .ref l ∧ vs = [.ref b] ∧ H l = some (.lst xs) ∧ SqT K H b zs ∧ xs.length + zs.length ≤ sizeLine ∧ Q .non (upd H l (.lst (xs ++ zs)))
theorem mt_extendT : MtM X "list.extend" (rExtendT X.K) := by
  intro pins s σ H x vs v us Q I rx rv h
  obtain ⟨l, b, xs, zs, rfl, rfl, hH, hB, hz, q⟩ := h
  cases rx
  obtain ⟨u, rfl, ru⟩ := rv.one
  cases ru
  obtain ⟨z, its, n, r, hl, e⟩ := I.lstM hH
  obtain ⟨its2, r2, ⟨⟨c, dct, dt, sl⟩, e2, hc, n2, hd⟩, z2⟩ := I.tuple hB
  replace hc : c = .type "tuple" := hc
  replace hd : dt = .seq its2.toArray n2 := hd
  subst hc hd
  have hl2 := r2.length
  have hsz : its.toArray.size + its2.toArray.size ≤ sizeLine := by rw [List.size_toArray, List.size_toArray]; omega
  have hlong : ¬ (!its.toArray.isEmpty && Builtin.List.listTooLong (its.toArray.size + its2.toArray.size)) = true := by
    rw [notLongL hsz, Bool.and_false]
    exact Bool.false_ne_true
  refine call_meets PySem.F.slot_list_extend ⟨_, e, rfl⟩ PySem.F.entry_list_extend (PySem.F.args_list_extend_2 _ _)
    (xx_extend_tup l its.toArray n b its2.toArray n2 dct sl hlong (by rw [List.size_toArray]; omega) (by omega)) ⟨e, e2, ?_⟩
  refine ⟨.non, _, I.lset (its' := its ++ its2) hH e (by simp) (r.append r2) ?_, rfl, q⟩
  rw [List.length_append]
  omega
def mExtendX : OM := fun x xs S => match x, xs with
  | .loc l, [.tup zs] => match S[l]? with
    | some (.lst ys) => upL l S (ys ++ zs)
    | _ => none
  | x, xs => mExtend x xs S
theorem d_extendX : MtR X "list.extend" (rM (X.kwp pq) mExtendX) := by
  intro pins s σ H x xs v us Q I rx rs hr
  obtain ⟨μ, S, d, ds, ok, rd, rds, hp⟩ := hr
  unfold mExtendX at hp
  split at hp
  · split at hp
    · rename_i l zs ys q1
      obtain ⟨p, vs, rfl, hl, hv, hz, rr⟩ := loc_at ok rd q1
      obtain ⟨w, rfl, rw'⟩ := rds.one
      cases rw' with
      | tup ht hz2 rr2 =>
        obtain ⟨hz', hq⟩ := upL_ok ok hl (rr.append rr2) hp
        rw [List.length_append] at hz'
        exact mt_extendT pins s σ H _ _ v us Q I rx rs ⟨p, _, vs, _, rfl, rfl, hv, ht, hz', hq⟩
    · exact hp.elim
  · exact d_extend (pq := pq) pins s σ H x xs v us Q I rx rs ⟨μ, S, d, ds, ok, rd, rds, hp⟩
theorem e_extendX {o e : Expr} {es : List Expr} {pos : Pos} {f : DE} {fa : DA} {W : WX} (ho : PE X o (tE (X.kwp pq) X.mg W f)) (ha : PA X (e :: es) (tA (X.kwp pq) X.mg W fa)) {apos : Pos} (hbase : attributeBase o "extend" X.env (eval o X.env) = eval o X.env := by rfl)
    (hfew : ((backTo pos (starEach (e :: es) X.env)).all (fun x => !x.1) && (backToKw pos (keywordEach [] X.env)).all (fun x => x.1.isSome) && decide ((e :: es).length + ([] : List Keyword).length + (if ([] : List Keyword).isEmpty then 0 else 1) < 30)) = true := by rfl)
    (hline : (apos.endLine == pos.line) = true := by rfl) (hs : starEach (e :: es) X.env = (false, eval e X.env) :: starEach es X.env := by rfl) (hplain : (backTo pos (starEach es X.env)).any (·.1) = false := by rfl) :
    PE X (.Call (.Attribute o "extend" apos) (e :: es) [] pos) (tE (X.kwp pq) X.mg W (cMeth isL mExtendX f fa)) :=
  PE.weak (pe_bm PySem.F.plainAttrs_list PySem.F.slot_list_extend PySem.F.type_list_extend (d_extendX (pq := pq)) ho ha hbase hfew hline hs hplain) fun _ _ _ => tE_meth tyL
variable {Q : D → Store → Prop} {tt : Tg Q} {S : Store} {l m : Nat} {zs : List D}
theorem o_extendT : WO Q tt (mExtendX (.loc l) [.tup zs] S) = WM (fun ys => ys.length + zs.length ≤ sizeLine ∧ Q .non (S.set l (.lst (ys ++ zs)))) tg (lstAt S l) := by
  show WO Q tt (match S[l]? with | some (.lst ys) => upL l S (ys ++ zs) | _ => none) = _
  unfold lstAt
  cases S[l]? with
  | none => rfl
  | some c =>
    cases c with
    | dct _ => rfl
    | lst ys =>
      refine (WO_if).trans ?_
      rw [List.length_append]; rfl
theorem o_extendL : WO Q tt (mExtendX (.loc l) [.loc m] S) = WM (fun ys => WM (fun zs => ys.length + zs.length ≤ sizeLine ∧ Q .non (S.set l (.lst (ys ++ zs)))) tg (lstAt S m)) tg (lstAt S l) := o_extend
theorem extendX_w {ys zs : List D} (hl : lstAt S l = some ys) (hm : lstAt S m = some zs) (h : ys.length + zs.length ≤ sizeLine)
    (hq : ∀ T, T = S.set l (.lst (ys ++ zs)) → lstAt T l = some (ys ++ zs) → Q .non T) : WO Q tt (mExtendX (.loc l) [.loc m] S) := extend_w hl hm h hq
theorem extendT_w {ys zs : List D} (hl : lstAt S l = some ys) (h : ys.length + zs.length ≤ sizeLine)
    (hq : ∀ T, T = S.set l (.lst (ys ++ zs)) → lstAt T l = some (ys ++ zs) → Q .non T) : WO Q tt (mExtendX (.loc l) [.tup zs] S) := by
  rw [o_extendT, hl, WM_some]
  exact ⟨h, hq _ rfl (lstAt_set hl)⟩
end
end DL

namespace DL
open PySem PySem.Spec PyProof.Rows L2
/-! shifts and masks of ints -/
def oShl : O2 := fun x y S => match x, y with
  | .int i, .int j => if PowOk i j then some (.int (i * 2 ^ j.toNat), S) else none
  | _, _ => none
def oBand : O2 := fun x y S => match x, y with
  | .int i, .int j => if True then some (.int (Builtin.bitAnd i j), S) else none
  | _, _ => none
section
variable {X : Cx} {pq : Option Pin}
theorem d_shl : OpR X (binaryOp .LShift) (r2 (X.kwp pq) oShl) := o2_int (C := PowOk) (gd := fun i j => .int (i * 2 ^ j.toNat)) op_shl (fun _ _ _ _ => .int _) fun x y S r h => two_ints (k := oShl) (gd := fun i j => .int (i * 2 ^ j.toNat)) (C := PowOk) h
theorem d_band : OpR X (binaryOp .BitAnd) (r2 (X.kwp pq) oBand) := o2_int (C := fun _ _ => True) (gv := fun i j => .int (Builtin.bitAnd i j)) (gd := fun i j => .int (Builtin.bitAnd i j)) (opI fun _ _ _ _ _ _ _ _ q => and_int q) (fun _ _ _ _ => .int _) fun x y S r h => two_ints (k := oBand) (gd := fun i j => .int (Builtin.bitAnd i j)) (C := fun _ _ => True) h
variable {Q : D → Store → Prop} {tt : Tg Q} {S : Store} {i j : Int}
theorem o_shl : WO Q tt (oShl (.int i) (.int j) S) = (PowOk i j ∧ Q (.int (i * 2 ^ j.toNat)) S) := WO_if
theorem o_band : WO Q tt (oBand (.int i) (.int j) S) = Q (.int (Builtin.bitAnd i j)) S := (rfl)
end
end DL

/-! DLJ: {} and d[k] = v for dicts whose keys are tuples; l.index(x). -/
namespace DL
open PySem PySem.Spec PyProof.Rows L2
section
variable {K : KW} {μ : List Addr} {H : Hp} {S : Store}
theorem Ok.addC (ok : Ok K μ H S) {p : Addr} {o : HO} {c : Cell} (h : H p = none) (hc : CellR K (μ ++ [p]) (upd H p o) p c) : Ok K (μ ++ [p]) (upd H p o) (S ++ [c]) := by
  have x : Ext μ H (μ ++ [p]) (upd H p o) := ext_add h
  refine ⟨by rw [List.length_append, List.length_append, ok.len]; rfl, ?_, fun i a c' h1 h2 => ?_⟩
  · rw [List.nodup_append]
    refine ⟨ok.nd, by simp, fun a ha b hb e => ?_⟩
    rw [List.mem_singleton.mp hb] at e
    rw [e] at ha
    exact ok.notin h ha
  · by_cases hi : i < μ.length
    · rw [List.getElem?_append_left hi] at h1
      rw [List.getElem?_append_left (by rw [← ok.len]; exact hi)] at h2
      exact (ok.cell i a c' h1 h2).mono x fun o e => by rw [upd_ne (ne_of_none e h)]; exact e
    · rw [List.getElem?_append_right (by omega)] at h1
      rw [List.getElem?_append_right (by rw [← ok.len]; omega)] at h2
      have e0 : i - μ.length = 0 := by
        have := (List.getElem?_eq_some_iff.mp h1).1
        simp at this
        omega
      have e1 : i - S.length = 0 := by rw [← ok.len]; exact e0
      rw [e0] at h1
      rw [e1] at h2
      simp at h1 h2
      subst h1 h2
      exact hc
theorem Ok.setX (ok : Ok K μ H S) {i : Nat} {a : Addr} {o : HO} (h : μ[i]? = some a) : Ext μ H μ (upd H a o) := by
  have hm := List.mem_of_getElem? h
  obtain ⟨ws, hw, hq⟩ := ok.lst hm
  exact ext_set hm fun o e => by
    rw [hw] at e; cases e
    rcases hq with ⟨_, rfl⟩ | ⟨_, rfl⟩ <;> exact fun z => z
theorem Ok.setC (ok : Ok K μ H S) {i : Nat} {a : Addr} {o : HO} {c' : Cell} (h : μ[i]? = some a) (hc : CellR K μ (upd H a o) a c') : Ok K μ (upd H a o) (S.set i c') := by
  have x : Ext μ H μ (upd H a o) := ok.setX h
  refine ⟨by rw [List.length_set]; exact ok.len, ok.nd, fun j b c h1 h2 => ?_⟩
  by_cases hj : i = j
  · subst hj
    rw [h] at h1; cases h1
    have hi : i < S.length := by rw [← ok.len]; exact (List.getElem?_eq_some_iff.mp h).1
    rw [List.getElem?_set_self hi] at h2
    cases h2
    exact hc
  · rw [List.getElem?_set_ne hj] at h2
    have hb : b ≠ a := fun e => hj (by
      subst e
      obtain ⟨l1, e1⟩ := List.getElem?_eq_some_iff.mp h
      obtain ⟨l2, e2⟩ := List.getElem?_eq_some_iff.mp h1
      exact (List.getElem_inj ok.nd).mp (e1.trans e2.symm))
    exact (ok.cell j b c h1 h2).mono x fun o e => by rw [upd_ne hb]; exact e
theorem KR.length {μ : List Addr} {H : Hp} : ∀ {kvs : List (D × D)} {xs : List (NestedKey × Addr × Value)}, KR K μ H kvs xs → kvs.length = xs.length
  | _, _, .nil => rfl
  | _, _, .cons _ _ _ _ _ t => by rw [List.length_cons, List.length_cons, KR.length t]
end
section
variable {X : Cx} {W : WX} {pos : Pos}
/-- {} -/
def cDct0 : DE := fun _ S => .ok (.loc S.length) (S ++ [.dct []])
theorem dct_obj {P : Program} {w : World} {H : Hp} {h : Heap} {a : Addr} {xs : List (NestedKey × Addr × Value)} {o : Obj} {es : Array DictEntry} {ep : Nat} (h1 : h.get? a = some o) (h2 : o.ExactDict) (h3 : o.data = .dict es ep) (h4 : es.toList = xs.map (entW w)) : ObjOk P w H h a (dctO w a xs) :=
  ⟨⟨o, es, ep, h1, h2, h3, h4⟩, ⟨o, h1⟩, fun g1 g2 ⟨o, es, ep, e, r⟩ hk => ⟨o, es, ep, hk _ e, r⟩⟩
theorem e_dct0 : PE X (.Dict [] [] pos) (tE X.kw X.mg W cDct0) := ⟨fun pins s σ H Q I hh => by
  obtain ⟨μ, σD, S, ok, en, h⟩ := hh
  have hn : H s.heap.objs.size = none := I.hok.fresh (Nat.le_refl _)
  have hb : (s.heap.objs.size == sysModules) = false := beq_eq_false_iff_ne.mpr (Ne.symm (Nat.ne_of_lt I.big))
  refine wpAny_Dict_empty ⟨.ref s.heap.objs.size, _, I.laid (a := s.heap.objs.size) (o := dctO X.w s.heap.objs.size []) (t' := s.toks) (fun _ _ q => Heap.get?_push_of_some _ q) (Nat.le_refl _) (dct_obj (Heap.get?_push_size _ rfl) ⟨rfl, rfl, rfl⟩ rfl rfl), rfl, ?_⟩
  exact h _ _ _ (ext_add hn) (ok.addC hn ⟨[], upd_same, hb, Nat.zero_le _, List.nodup_nil, .nil⟩) (.loc (by rw [← ok.len, List.getElem?_append_right (Nat.le_refl _)]; simp))⟩
/-- o[i] = d, o a list or a dict -/
def oSetX (o i d : D) (S : Store) : Option Store := match dctAt S o with
  | some kvs => match o with
    | .loc l => if keyD i = true ∧ kvs.length < sizeLine then some (S.set l (.dct (putD kvs i d))) else none
    | _ => none
  | none => oSet o i d S
def rSetX (K : KW) : V → V → V → Hp → (Hp → Prop) → Prop := fun vo vi v H Q => ∃ μ S o i d, Ok K μ H S ∧ R K μ H o vo ∧ R K μ H i vi ∧ R K μ H d v ∧ match oSetX o i d S with
  | some S' => ∀ μ' H', Ext μ H μ' H' → Ok K μ' H' S' → Q H'
  | none => False
theorem d_setX (hu : X.A.units + 64 < cLine) : PSet X (rSetX X.kw) := by
  intro pins s σ H vo vi v ov iv u Q I r1 r2 r3 hr
  obtain ⟨μ, S, o, i, d, ok, ro, ri, rd, hh⟩ := hr
  unfold oSetX at hh
  cases q : dctAt S o with
  | none =>
    rw [q] at hh
    exact d_set pins s σ H vo vi v ov iv u Q I r1 r2 r3 ⟨μ, S, o, i, d, ok, ro, ri, rd, hh⟩
  | some kvs =>
    rw [q] at hh
    obtain ⟨l, ad, rfl, rfl, hl, hS, xs, hH, hsys, hz, nd, t⟩ := dctAt_is ok ro q
    simp only at hh
    by_cases hk : keyD i = true ∧ kvs.length < sizeLine
    · rw [if_pos hk] at hh
      simp only at hh
      obtain ⟨ds, nk0, rfl, hn0, hd0⟩ := keyD_is hk.1
      obtain ⟨nk, ka, hn, rfl, rfl, his⟩ := ri.key I hk.1 r2
      rw [hn0] at hn; cases hn
      cases r1
      refine wpAny_setItem_heap (knd := nestedKind X.prog X.w) (by show X.A.units + 1 + 8 < cLine; omega) his (t.dict I hH nd) (fun h' dd' hs => ?_) (hsz := hz)
      have t' := t.put hn0 hd0 ri rd r3
      have hx : Ext μ H μ (upd H ad (dctO X.w ad (storedH xs nk0 ka u))) := ok.setX hl
      obtain ⟨ob, es, ep, h1, h2, h3, h4, _, h5⟩ := dd'
      have hlen : (storedH xs nk0 ka u).length ≤ sizeLine := by
        have e1 := storedH_length xs nk0 ka u
        have e2 := t.length
        have e3 := hk.2
        omega
      refine ⟨_, d_write (ob := dctO X.w ad (storedH xs nk0 ka u)) I (by rw [hH]; exact True.intro) hs ⟨ob, h1⟩ (dct_obj h1 h2 h3 h4), hh μ _ hx (ok.setC hl ⟨_, upd_same, hsys, hlen, h5, ?_⟩)⟩
      exact t'.subM hx.sub
    · rw [if_neg hk] at hh
      exact hh.elim
def gSubX (fo fi : DE) : DG := fun d σ S => SR.ofE σ (fo σ S) fun o S1 => SR.ofE σ (fi σ S1) fun i S2 => match oSetX o i d S2 with
  | some S3 => .nx σ S3
  | none => .no
theorem g_subX (hu : X.A.units + 64 < cLine) {o i : Expr} {fo fi : DE} (ho : PE X o (tE X.kw X.mg W fo)) (hi : PE X i (tE X.kw X.mg W fi)) (ha : ∀ v, assign (.Subscript o i pos) X.env v = (do
      let ov ← holding [v] (eval o X.env)
      let iv ← holding [v, ov] (eval i X.env)
      standAt pos
      holding [v, ov, iv] (setItem ov iv v)
      release [v, ov, iv] []) := by intro _; rfl) : PG X (.Subscript o i pos) (tGt X.kw X.mg W (gSubX fo fi)) :=
  PG.weak (pg_sub ho hi (d_setX hu) ha) fun v σ H Q hh => by
    obtain ⟨μ, σD, S, d, ok, en, r, hh⟩ := hh
    simp only [gSubX] at hh
    refine ⟨μ, σD, S, ok, en, ?_⟩
    cases q : fo σD S with
    | no => rw [q] at hh; exact hh.elim
    | ex e S1 =>
      rw [q] at hh
      exact fun μ' H' cls dx x ok' => hh μ' H' σ cls dx x ok' (en.mono x)
    | ok o1 S1 =>
      rw [q] at hh
      simp only [SR.ofE] at hh
      refine fun μ1 H1 vo x1 ok1 ro => ⟨μ1, σD, S1, ok1, en.mono x1, ?_⟩
      cases q2 : fi σD S1 with
      | no => rw [q2] at hh; exact hh.elim
      | ex e S2 =>
        rw [q2] at hh
        exact fun μ' H' cls dx x ok' => hh μ' H' σ cls dx (x1.trans x) ok' (en.mono (x1.trans x))
      | ok i1 S2 =>
        rw [q2] at hh
        simp only at hh
        refine fun μ2 H2 vi x2 ok2 ri => ⟨μ2, S2, o1, i1, d, ok2, ro.mono x2, ri, r.mono (x1.trans x2), ?_⟩
        cases q3 : oSetX o1 i1 d S2 with
        | none => rw [q3] at hh; exact hh.elim
        | some S3 =>
          rw [q3] at hh
          exact fun μ3 H3 x3 ok3 => hh μ3 H3 σ ((x1.trans x2).trans x3) ok3 (en.mono ((x1.trans x2).trans x3))

/-! ### l.index(x) -/
def idxD (ys : List D) (d : D) : Option Nat := ys.findIdx? fun z => D.eqv z d
def mIndex : OM := fun x xs S => match x, xs with
  | .loc l, [d] => match S[l]? with
    | some (.lst ys) => if okIn d ys then match idxD ys d with
      | some j => some (.int (j : Nat), S)
      | none => none
      else none
    | _ => none
  | _, _ => none
theorem pys_get : ∀ (ys : List D) (j : Nat), (D.pys ys)[j]? = ys[j]?.map D.py
  | [], j => by simp [D.pys]
  | y :: ys, 0 => by simp [D.pys]
  | y :: ys, j + 1 => by rw [D.pys, List.getElem?_cons_succ, List.getElem?_cons_succ, pys_get ys j]
theorem d_index (hu : X.A.units + 64 < cLine) : MtR X "list.index" (rM X.kw mIndex) := by
  intro pins s σ H x xs v us Q I rx rs hr
  obtain ⟨μ, S, d, ds, ok, rd, rds, hp⟩ := hr
  unfold mIndex at hp
  split at hp
  · split at hp
    · rename_i y c0 ys q
      split at hp
      · rename_i hc
        split at hp
        · rename_i j hj
          obtain ⟨p, vs, rfl, hl, hv, hz, rr⟩ := loc_at ok rd q
          obtain ⟨w, rfl, rw'⟩ := rds.one
          obtain ⟨fx, fl, hdp⟩ := hc
          cases rs with
          | cons ry rt =>
          rename_i uy ut
          cases rt
          obtain ⟨as, r1⟩ := rw'.reads I fx ry
          cases rx
          obtain ⟨its, rv, pl, _⟩ := I.list (.inl (.inl hv))
          obtain ⟨bs, r2⟩ := Dp.readsAll I _ _ _ (rr.dp fl) rv
          obtain ⟨⟨cls, dd, data, sls⟩, n, ho, hcl, hdn, hdt⟩ := pl
          simp only at hcl hdt
          subst hcl hdt
          have hmap := SeqAt.readsAll_map _ _ _ (D.canLayL ys fl) r2
          have hln : its.length = ys.length := by
            have e1 := rv.length
            have e2 := rr.length
            omega
          unfold idxD at hj
          obtain ⟨hjl, hj1, hj2⟩ := List.findIdx?_eq_some_iff_getElem.mp hj
          have at_ : ∀ (m : Nat) (hm : m < its.toArray.size) (hm' : m < ys.length), PyData.eqv (SeqAt.readOf s.heap its.toArray[m]) y.py = D.eqv ys[m] y := by
            intro m hm hm'
            have hml : m < its.length := by simpa using hm
            have e0 : (its.map (SeqAt.readOf s.heap))[m]? = (D.pys ys)[m]? := by rw [hmap]
            rw [List.getElem?_map, List.getElem?_eq_getElem hml, pys_get, List.getElem?_eq_getElem hm'] at e0
            have e1 : SeqAt.readOf s.heap its[m] = (ys[m]).py := Option.some.inj e0
            rw [show its.toArray[m] = its[m] by simp, e1]
            exact D.eqv_py _ _ (fitsL_iff.mp fl _ (List.getElem_mem _)) fx
          have hj0 : j < its.toArray.size := by simp; omega
          have hsl := sizeLine_eq
          have e3 := rr.length
          refine call_meets PySem.F.slot_list_index ⟨_, ho, rfl⟩ PySem.F.entry_list_index (PySem.F.args_list_index_2 _ _)
            (SeqAt.list_indexAt p its.toArray n dd sls uy (fun u => PyData.eqv (SeqAt.readOf s.heap u) y.py) j hj0 (by omega) ?_ ?_) ⟨ho, SeqAt.items_eqAt r2 r1 (D.canLayL ys fl) (D.canLay y fx) (by rw [D.depthL ys fl, D.depth y fx]; omega), ?_⟩
          · show PyData.eqv (SeqAt.readOf s.heap its.toArray[j]) y.py = true
            rw [at_ j hj0 hjl]
            exact hj1
          · intro m hm hmj
            show PyData.eqv (SeqAt.readOf s.heap its.toArray[m]) y.py = false
            rw [at_ m hm (by omega)]
            have := hj2 m hmj
            simpa using this
          · exact ⟨.int (j : Nat), H, I.tok _, ⟨_, rfl⟩, hp.same ok (.int _)⟩
        · exact hp.elim
      · exact hp.elim
    · exact hp.elim
  · exact hp.elim
theorem e_index (hu : X.A.units + 64 < cLine) {o e : Expr} {es : List Expr} {f : DE} {fa : DA} (ho : PE X o (tE X.kw X.mg W f)) (ha : PA X (e :: es) (tA X.kw X.mg W fa)) {apos : Pos} (hbase : attributeBase o "index" X.env (eval o X.env) = eval o X.env := by rfl)
    (hfew : ((backTo pos (starEach (e :: es) X.env)).all (fun x => !x.1) && (backToKw pos (keywordEach [] X.env)).all (fun x => x.1.isSome) && decide ((e :: es).length + ([] : List Keyword).length + (if ([] : List Keyword).isEmpty then 0 else 1) < 30)) = true := by rfl)
    (hline : (apos.endLine == pos.line) = true := by rfl) (hs : starEach (e :: es) X.env = (false, eval e X.env) :: starEach es X.env := by rfl) (hplain : (backTo pos (starEach es X.env)).any (·.1) = false := by rfl) :
    PE X (.Call (.Attribute o "index" apos) (e :: es) [] pos) (tE X.kw X.mg W (cMeth isL mIndex f fa)) :=
  PE.weak (pe_bm PySem.F.plainAttrs_list PySem.F.slot_list_index PySem.F.type_list_index (d_index hu) ho ha hbase hfew hline hs hplain) fun _ _ _ => tE_meth tyL
end
/-! ### weakest preconditions -/
section
variable {S S' : Store} {l m : Nat} {xs ys : List D} {kvs : List (D × D)}
theorem W_dct0 {x : XQ} {Q : D → Store → Prop} {tt : Tg (x, Q)} {σ : Sg} : W (x, Q) tt (cDct0 σ S) = Q (.loc S.length) (S ++ [.dct []]) := (rfl)
theorem dct_new : dctAt (S ++ [.dct kvs]) (.loc S.length) = some kvs := by simp [dctAt]
theorem dct_app {T : Store} (h : dctAt S (.loc l) = some kvs) : dctAt (S ++ T) (.loc l) = some kvs := by
  unfold dctAt at h ⊢
  simp only at h ⊢
  cases q : S[l]? with
  | none => rw [q] at h; cases h
  | some c =>
    rw [List.getElem?_append_left (List.getElem?_eq_some_iff.mp q).1, q]
    rw [q] at h
    exact h
theorem dct_iff : dctAt S (.loc l) = some kvs ↔ S[l]? = some (.dct kvs) := by
  unfold dctAt
  simp only
  cases q : S[l]? with
  | none => simp
  | some c => cases c <;> simp
theorem dct_lt (h : dctAt S (.loc l) = some kvs) : l < S.length := (List.getElem?_eq_some_iff.mp (dct_iff.mp h)).1
theorem dct_set {kvs' : List (D × D)} (h : dctAt S (.loc l) = some kvs) : dctAt (S.set l (.dct kvs')) (.loc l) = some kvs' := dct_iff.mpr (List.getElem?_set_self (dct_lt h))
theorem dct_set_ne {c : Cell} (h : m ≠ l) : dctAt (S.set m c) (.loc l) = dctAt S (.loc l) := by
  unfold dctAt
  simp only
  rw [List.getElem?_set_ne h]
theorem lst_set_ne {c : Cell} (h : m ≠ l) : lstAt (S.set m c) l = lstAt S l := by
  unfold lstAt
  rw [List.getElem?_set_ne h]
theorem dct_lst (h : lstAt S l = some xs) : dctAt S (.loc l) = none := by
  have := lstAt_iff.mp h
  unfold dctAt
  simp only [this]
theorem o_setXl {i d : D} {k : Int} {q : Store → Prop} {tt : Tg q} : WM q tt (oSetX (.loc l) (.int k) d S) = WM (fun xs => WM (fun j => q (S.set l (.lst (xs.set j d)))) tg (ixN xs.length k)) tg (lstAt S l) := by
  unfold oSetX
  cases q : dctAt S (.loc l) with
  | none => exact o_set
  | some kvs =>
    have h := dct_iff.mp q
    have h2 : lstAt S l = none := by unfold lstAt; rw [h]
    rw [h2]
    simp [keyD, WM]
theorem o_setXd {ds : List D} {d : D} {q : Store → Prop} {tt : Tg q} : WM q tt (oSetX (.loc l) (.tup ds) d S) = WM (fun kvs => keyD (.tup ds) = true ∧ kvs.length < sizeLine ∧ q (S.set l (.dct (putD kvs (.tup ds) d)))) tg (dctAt S (.loc l)) := by
  unfold oSetX
  cases h : dctAt S (.loc l) with
  | none => rfl
  | some kvs =>
    simp only [WM]
    by_cases hk : keyD (.tup ds) = true ∧ kvs.length < sizeLine
    · rw [if_pos hk]
      exact propext ⟨fun z => ⟨hk.1, hk.2, z⟩, fun z => z.2.2⟩
    · rw [if_neg hk]
      exact propext ⟨fun z => z.elim, fun z => hk ⟨z.1, z.2.1⟩⟩
theorem o_ninD {x : D} {Q : D → Store → Prop} {tt : Tg Q} (h : dctAt S (.loc l) = some kvs) : WO Q tt (oNotInX x (.loc l) S) = (keyD x = true ∧ Q (.bl (!(findD kvs x).isSome)) S) := by
  unfold oNotInX
  rw [h]
  exact WO_if
theorem o_inD {x : D} {Q : D → Store → Prop} {tt : Tg Q} (h : dctAt S (.loc l) = some kvs) : WO Q tt (oInX x (.loc l) S) = (keyD x = true ∧ Q (.bl ((findD kvs x).isSome)) S) := by
  unfold oInX
  rw [h]
  exact WO_if
theorem WS_gSubX {fo fi : DE} {d : D} {σ : Sg} {q : SQ} {tt : Tg q} : WS q tt (gSubX fo fi d σ S) = W (fun e S' => q.ex e σ S', fun o S1 => W (fun e S' => q.ex e σ S', fun i S2 => WM (fun S3 => q.nx σ S3) tg (oSetX o i d S2)) tg (fi σ S1)) tg (fo σ S) := by
  unfold gSubX
  cases fo σ S with
  | no => rfl
  | ex e S1 => rfl
  | ok o S1 =>
    simp only [SR.ofE, W]
    cases fi σ S1 with
    | no => rfl
    | ex e S1 => rfl
    | ok i S2 =>
      simp only
      cases oSetX o i d S2 with
      | none => rfl
      | some S3 => rfl
theorem o_indexW {d : D} {Q : D → Store → Prop} {tt : Tg Q} : WO Q tt (mIndex (.loc l) [d] S) = WM (fun ys => okIn d ys ∧ WM (fun j => Q (.int (j : Nat)) S) tg (idxD ys d)) tg (lstAt S l) := by
  unfold mIndex lstAt
  cases q : S[l]? with
  | none => simp only [q]; rfl
  | some c =>
    cases c with
    | dct kvs => simp only [q]; rfl
    | lst ys =>
      simp only [q, WM]
      by_cases h : okIn d ys
      · rw [if_pos h]
        cases idxD ys d with
        | none => exact propext ⟨fun z => z.elim, fun z => z.2⟩
        | some j => exact propext ⟨fun z => ⟨h, z⟩, fun z => z.2⟩
      · rw [if_neg h]
        exact propext ⟨fun z => z.elim, fun z => h z.1⟩
def oBool : OA := fun xs S => match xs with
  | [.int i] => some (.bl (i != 0), S)
  | [.bl b] => some (.bl b, S)
  | _ => none
theorem d_bool {X : Cx} {pq : Option Pin} : CallR X (.type "bool") (rA (X.kwp pq) oBool) := by
  intro pins s σ H xs us Q I r hr
  obtain ⟨μ, S, ds, ok, rd, hp⟩ := hr
  unfold oBool at hp
  split at hp
  · obtain ⟨v, rfl, rx⟩ := rd.one
    cases rx
    exact call_bool1 pins s σ H _ us Q I r (.inl ⟨_, rfl, hp.same ok (.bl _)⟩)
  · obtain ⟨v, rfl, rx⟩ := rd.one
    cases rx
    exact call_bool1 pins s σ H _ us Q I r (.inr ⟨_, rfl, hp.same ok (.bl _)⟩)
  · exact hp.elim
theorem o_boolI {i : Int} {Q : D → Store → Prop} {tt : Tg Q} : WO Q tt (oBool [.int i] S) = Q (.bl (i != 0)) S := (rfl)
/-- > of tuples of ints -/
def allI : List D → Bool
  | [] => true
  | .int _ :: r => allI r
  | _ => false
theorem allI_get : ∀ {xs : List D} {j : Nat} {x : D}, allI xs = true → xs[j]? = some x → ∃ i, x = .int i
  | [], _, _, _, e => by simp at e
  | .int a :: xs, 0, x, h, e => by simp at e; exact ⟨a, e.symm⟩
  | .int a :: xs, j + 1, x, h, e => allI_get (xs := xs) (j := j) h (by simpa using e)
  | .non :: _, _, _, h, _ => by cases h
  | .bl _ :: _, _, _, h, _ => by cases h
  | .str _ :: _, _, _, h, _ => by cases h
  | .tup _ :: _, _, _, h, _ => by cases h
  | .rol _ :: _, _, _, h, _ => by cases h
  | .loc _ :: _, _, _, h, _ => by cases h
theorem allI_fits : ∀ {xs : List D}, allI xs = true → D.fitsL xs = true ∧ D.depL xs = 0
  | [], _ => ⟨rfl, rfl⟩
  | .int a :: xs, h => by
    obtain ⟨h1, h2⟩ := allI_fits (xs := xs) h
    exact ⟨by rw [D.fitsL, h1]; rfl, by rw [D.depL, h2]; rfl⟩
  | .non :: _, h => by cases h
  | .bl _ :: _, h => by cases h
  | .str _ :: _, h => by cases h
  | .tup _ :: _, h => by cases h
  | .rol _ :: _, h => by cases h
  | .loc _ :: _, h => by cases h
def gtL (xs ys : List D) : Bool := lexO (fun a b => D.lt b a) (fun a b => decide (a > b)) xs ys
def oGtX : O2 := fun x y S => match x, y with
  | .int i, .int j => some (.bl (decide (j < i)), S)
  | .tup xs, .tup ys => if allI xs = true ∧ allI ys = true then some (.bl (gtL xs ys), S) else none
  | _, _ => none
theorem d_gtX {X : Cx} {pq : Option Pin} (hu : X.A.units + 64 < cLine) : OpR X (compareOp .Gt) (r2 (X.kwp pq) oGtX) := by
  intro pins s σ H x y v u Q I rx ry hr
  obtain ⟨μ, S, a, b, ok, ra, rb, hp⟩ := hr
  unfold oGtX at hp
  split at hp
  · cases ra
    cases rb
    exact op_gt pins s σ H _ _ v u Q I rx ry ⟨_, _, rfl, rfl, hp.same ok (.bl _)⟩
  · rename_i xs ys
    split at hp
    · rename_i hc
      obtain ⟨i1, i2⟩ := hc
      obtain ⟨f1, d1⟩ := allI_fits i1
      obtain ⟨f2, d2⟩ := allI_fits i2
      obtain ⟨as, r1⟩ := ra.reads I (by simpa [D.fits] using f1) rx
      obtain ⟨bs, r2⟩ := rb.reads I (by simpa [D.fits] using f2) ry
      have hu2 : X.A.in1.units + min (D.depL xs) (D.depL ys) < cLine := by
        have : X.A.in1.units = X.A.units + 1 := rfl
        omega
      rw [D.py] at r1 r2
      cases r1 with
      | @tuple a o vs n _ as₁ h1 h2 h3 h4 =>
        cases r2 with
        | @tuple b o' ws n' _ bs₁ k1 k2 k3 k4 =>
          have z := tupRc (A := X.A) (s := s) (a := a) (b := b) (f := fun a b => D.lt b a) (z := fun a b => decide (a > b)) (by intro a b; simp) (fun e r he hr => Ob.RcOp.tuples_gt ⟨_, h1, h2, _, h3⟩ ⟨_, k1, k2, _, k3⟩ (by omega) he hr) h4 k4 f1 f2 hu2 (fun j x y u w as bs e1 e2 q1 q2 ne => by
            obtain ⟨i, rfl⟩ := allI_get i1 e1
            obtain ⟨j', rfl⟩ := allI_get i2 e2
            rw [D.py] at q1 q2
            cases q1
            cases q2
            show Ob.RcOp .Gt _ _ _ _ (D.lt (.int j') (.int i))
            rw [D.lt]
            exact Ob.RcOp.gt_int _ _ _ _)
          exact z X.prog X.w X.xe (EP X pins σ Q) ⟨.bl _, H, I, rfl, hp.same ok (.bl _)⟩
    · exact hp.elim
  · exact hp.elim
theorem o_gtX {i j : Int} {Q : D → Store → Prop} {tt : Tg Q} : WO Q tt (oGtX (.int i) (.int j) S) = Q (.bl (decide (j < i))) S := (rfl)
theorem o_gtXT {xs ys : List D} {Q : D → Store → Prop} {tt : Tg Q} : WO Q tt (oGtX (.tup xs) (.tup ys) S) = ((allI xs = true ∧ allI ys = true) ∧ Q (.bl (gtL xs ys)) S) := WO_if
/-! d[k] -/
def oIxX : O2 := fun x y S => match dctAt S x with
  | some kvs => if keyD y = true then match findD kvs y with
    | some d => some (d, S)
    | none => none
    else none
  | none => oIx x y S
theorem d_ixX {X : Cx} (hu : X.A.units + 64 < cLine) : IxR X (r2 X.kw oIxX) := by
  intro value slice pins s σ H x y v u Q I rx ry hr hsub
  obtain ⟨μ, S, a, b, ok, ra, rb, hp⟩ := hr
  unfold oIxX at hp
  cases q : dctAt S a with
  | none =>
    rw [q] at hp
    exact d_ix value slice pins s σ H x y v u Q I rx ry ⟨μ, S, a, b, ok, ra, rb, hp⟩ hsub
  | some kvs =>
    rw [q] at hp
    simp only at hp
    split at hp
    · rename_i hk
      obtain ⟨l, ad, rfl, rfl, hl, hS, xs, hH, hsys, hz, nd, t⟩ := dctAt_is ok ra q
      obtain ⟨nk, ka, hn, rfl, rfl, his⟩ := rb.key I hk ry
      cases rx
      rcases KR.get hn t with ⟨e1, e2⟩ | ⟨d, v, w, b', e1, e2, rv, rr⟩
      · rw [e1] at hp
        exact hp.elim
      · rw [e1] at hp
        have D' := t.dict I hH nd
        exact subscriptTail_builtinR (x := w) D'.typeIs slot_dict_getitem.lookup
          (wpAny_getItem_heap (knd := nestedKind X.prog X.w) (by show X.A.units + 1 + 8 < cLine; omega) his D' e2 ⟨rfl, ⟨v, H, I.tok _, rv, hp.same ok rr⟩⟩) hsub
    · exact hp.elim
theorem e_ixX {X : Cx} {W : WX} {pos : Pos} {a b : Expr} {f g : DE} (hu : X.A.units + 64 < cLine) (ha : PE X a (tE X.kw X.mg W f)) (hb : PE X b (tE X.kw X.mg W g)) (hs : PlainIx b := by exact fun _ _ => rfl) : PE X (.Subscript a b pos) (tE X.kw X.mg W (cBin oIxX f g)) := PE.weak (pe_ix (d_ixX hu) ha hb hs) fun _ _ _ => tE_bin
theorem o_ixD {l : Nat} {kvs : List (D × D)} {k : D} {S : Store} {Q : D → Store → Prop} {tt : Tg Q} (h : dctAt S (.loc l) = some kvs) : WO Q tt (oIxX (.loc l) k S) = (keyD k = true ∧ WM (fun d => Q d S) tg (findD kvs k)) := by
  unfold oIxX
  rw [h]
  simp only
  by_cases hk : keyD k = true
  · rw [if_pos hk]
    cases findD kvs k with
    | none => exact propext ⟨fun z => z.elim, fun z => z.2⟩
    | some d => exact propext ⟨fun z => ⟨hk, z⟩, fun z => z.2⟩
  · rw [if_neg hk]
    exact propext ⟨fun z => z.elim, fun z => hk z.1⟩
end
end DL

namespace DL
open PySem PySem.Spec PyProof.Rows L2 HT
section
variable {prog : Program} {w : World} {A : Around} {E : Value → Shared → Prop} {s : Shared}
theorem rv_adjust (n : Nat) : Builtin.Slice.sliceAdjust none none (-1) (n : Int) = ((n : Int) - 1, -1) := by
  unfold Builtin.Slice.sliceAdjust
  simp
theorem rv_places (n : Nat) : Builtin.Slice.slicePlaces ((n : Int) - 1) (-1) (-1) = n := by
  unfold Builtin.Slice.slicePlaces
  simp
  try omega
theorem rv_applied {sl : Addr} {vl vu vs : Value} {n : Nat} {Q : Int × Int × Nat → Shared → Prop} (hs : s.heap.IsSliceOf sl vl vu vs) (pl : IsPart vl none) (pu : IsPart vu none) (ps : IsPart vs (some (-1)))
    (h : Q ((n : Int) - 1, -1, n) s) : wpAny (model prog w) A (Builtin.Slice.sliceApplied (.ref sl) (pure (n : Int))) Q E s := by
  obtain ⟨os, hos, hcs, hds⟩ := id hs
  unfold Builtin.Slice.sliceApplied Builtin.Slice.sliceFields
  refine wpAny_bind (wpAny_bind (wpAny_field hos hds (x := vl) rfl (wpAny_bind (wpAny_field hos hds (x := vu) rfl (wpAny_bind (wpAny_field hos hds (x := vs) rfl (wpAny_pure ?_)))))))
  refine wpAny_bind (slicePart_ ps ?_)
  show wpAny _ _ (if ((-1 : Int) == 0) = true then _ else _) _ _ s
  rw [if_neg (by decide)]
  refine wpAny_bind (slicePart_ pl (wpAny_bind (slicePart_ pu (wpAny_bind (wpAny_pure ?_)))))
  show wpAny _ _ (match Builtin.Slice.sliceAdjust none none (-1) (n : Int) with | (lo, hi) => pure (lo, (-1 : Int), Builtin.Slice.slicePlaces lo hi (-1))) _ _ s
  rw [rv_adjust n]
  show wpAny _ _ (pure ((n : Int) - 1, (-1 : Int), Builtin.Slice.slicePlaces ((n : Int) - 1) (-1) (-1))) _ _ s
  rw [rv_places]
  exact wpAny_pure h
theorem fm_congr {α β : Type} {f g : α → Option β} : ∀ {l : List α}, (∀ m ∈ l, f m = g m) → l.filterMap f = l.filterMap g
  | [], _ => rfl
  | a :: l, h => by
    rw [List.filterMap_cons, List.filterMap_cons, h a (by simp), fm_congr fun m hm => h m (by simp [hm])]
theorem rv_pick (xs : Array Value) : ((List.range xs.size).filterMap fun (m : Nat) => xs[((xs.size : Int) - 1 + (m : Int) * (-1)).toNat]?).toArray = xs.toList.reverse.toArray := by
  have e : ((List.range xs.size).filterMap fun (m : Nat) => xs[((xs.size : Int) - 1 + (m : Int) * (-1)).toNat]?) = ((List.range xs.size).map fun k => xs.size - 1 - k).filterMap (xs[·]?) := by
    rw [List.filterMap_map]
    refine fm_congr fun m hm => ?_
    have := List.mem_range.mp hm
    show xs[((xs.size : Int) - 1 + (m : Int) * (-1)).toNat]? = xs[xs.size - 1 - m]?
    rw [show ((xs.size : Int) - 1 + (m : Int) * (-1)).toNat = xs.size - 1 - m by omega]
  rw [e, PySem.W.krv_range, List.filterMap_reverse, PySem.W.krv_all]
theorem rv_tuple {t sl : Addr} {items : Array Value} {vl vu vs : Value} {Q : Value → Shared → Prop} (ht : IsTup s.heap t items) (hs : s.heap.IsSliceOf sl vl vu vs) (pl : IsPart vl none) (pu : IsPart vu none) (ps : IsPart vs (some (-1)))
    (h : Q (.ref s.heap.objs.size) { s with heap := s.heap.push { cls := .type "tuple", data := .seq items.toList.reverse.toArray } })
    (hsz : items.size ≤ sizeLine) : wpAny (model prog w) A (getItem (.ref t) (.ref sl)) Q E s := by
  have htake : sizeOk (.seq items.toList.reverse.toArray) := by
    show items.toList.reverse.toArray.size ≤ sizeLine
    rw [List.size_toArray, List.length_reverse, Array.length_toList]
    omega
  obtain ⟨os, hos, hcs, hds⟩ := id hs
  have hTs : s.TypeIs (.ref sl) "slice" := ⟨os, hos, hcs⟩
  unfold getItem
  try with_reducible refine wpAny_holding ?_
  first | refine wpAny_bind (wpAny_pure ?_) | skip
  refine wpAny_bind (wpAny_sequenceKey ht.typeIs (by decide) ?_)
  refine wpAny_bind (wpAny_callSpecial?_slot (name := Str.ofString "__getitem__") ht.typeIs PyProof.Rows.slot_tuple_getitem
    (wpAny_call_entry PyProof.Rows.slot_tuple_getitem ht.typeIs entry_tuple_getitem ?_ (args_tuple_getitem _ _)))
  show wpAny _ _ (Builtin.Tuple.tupleItemsOf (.ref t) >>= _) _ _ s
  refine wpAny_bind (tupleItemsOf_ ht ?_)
  refine wpAny_bind (wpAny_typeOf hTs ?_)
  rw [if_pos (by decide)]
  refine wpAny_bind (rv_applied hs pl pu ps ?_)
  have hno : ¬ ((((items.size : Int) - 1) == 0 && (-1 : Int) == 1 && items.size == items.size) = true) := by
    intro q
    rw [Bool.and_eq_true, Bool.and_eq_true] at q
    exact absurd (eq_of_beq q.1.2) (by decide)
  show wpAny _ _ (if (((items.size : Int) - 1) == 0 && (-1 : Int) == 1 && items.size == items.size) = true then _ else _) _ _ s
  rw [if_neg hno, rv_pick]
  first
    | exact wpAny_bind (m := Builtin.Tuple.tupleExact _) (wpAny_newObj_type (wpAny_pure ⟨_, rfl, wpAny_pure h⟩) htake)
    | exact wpAny_bind (m := Builtin.Tuple.tupleExact _) (wpAny_newObj_type (wpAny_bind (wpAny_pure (wpAny_pure ⟨_, rfl, wpAny_pure h⟩))) htake)
    | exact wpAny_bind (wpAny_bind (m := Builtin.Tuple.tupleExact _) (wpAny_newObj_type (wpAny_pure (wpAny_pure ⟨_, rfl, wpAny_pure h⟩)) htake))
    | exact wpAny_bind (wpAny_bind (m := Builtin.Tuple.tupleExact _) (wpAny_newObj_type (wpAny_pure ⟨_, rfl, wpAny_pure h⟩) htake))
end
def tRevA (K : PySem.W.Frag) (te : TE) : TE := fun σ H Q => te σ H fun x H1 => ∃ a xs, x = .ref a ∧ ((SqL K H1 a xs ∧ ∀ p, H1 p = none → Q (.ref p) (upd H1 p (.lst xs.reverse))) ∨ (SqT K H1 a xs ∧ ∀ p, H1 p = none → Q (.ref p) (upd H1 p (.tup xs.reverse))))
section
variable {X : Cx}
theorem pe_revA {e : Expr} {te : TE} {k : Nat} {p1 p2 p3 pos : Pos} (he : PE X e te) : PE X (.Subscript e (.Slice none none (some (.UnaryOp .USub (.Constant (.int 1) k p1) p2)) p3) pos) (tRevA X.K te) := by
  refine ⟨fun pins s σ H Q I h => ?_⟩
  refine Subscript_ (thn (he.run pins s σ H _ I h) fun v s1 ⟨x, H1, I1, r1, q1⟩ => ?_)
  obtain ⟨a, xs, ex, hq⟩ := q1
  subst ex
  cases r1
  have hst : PO X (some (.UnaryOp .USub (.Constant (.int 1) k p1) p2)) (tPart (tUn (rU fun i => .int (-i)) (tC (.int 1)))) := po_some (pe_un un_neg pe_int)
  refine wpAny_Slice (thn (po_none.run pins s1 σ H1 (fun o H2 => o = none ∧ H2 = H1) I1 ⟨rfl, rfl⟩) fun vl s2 ⟨l, H2, I2, pl, el, e2⟩ => ?_)
  subst el e2
  refine thn (po_none.run pins s2 σ H2 (fun o H3 => o = none ∧ H3 = H2) I2 ⟨rfl, rfl⟩) fun vu s3 ⟨u, H3, I3, pu, eu, e3⟩ => ?_
  subst eu e3
  refine thn (hst.run pins s3 σ H3 (fun o H4 => o = some (-1) ∧ H4 = H3) I3 ⟨1, rfl, -1, rfl, rfl, rfl⟩) fun vs s4 ⟨o, H4, I4, ps, eo, e4⟩ => ?_
  subst eo e4
  have I5 : Inv X pins σ H4 { s4 with heap := s4.heap.push { cls := .type "slice", data := .fields #[vl, vu, vs] } } := I4.kept (t' := s4.toks) fun b ob q => Heap.get?_push_of_some _ q
  rcases hq with ⟨hx, q⟩ | ⟨hx, q⟩
  · obtain ⟨its, r, ht, hz⟩ := I5.list hx
    have hlen := r.length
    show wpAny (model X.prog X.w) X.A (subscriptTail e (.Slice none none (some (.UnaryOp .USub (.Constant (.int 1) k p1) p2)) p3) (.ref a) (.ref s4.heap.objs.size)) (EP X pins σ Q) X.xe { s4 with heap := s4.heap.push { cls := .type "slice", data := .fields #[vl, vu, vs] } }
    refine tail_any (ops := [.ref a, .ref s4.heap.objs.size]) ht.isList.typeIs (PySem.slot_list_getitem.lookup) ?_ (by with_unfolding_all rfl)
    refine wpAny_getItem_list_slice ht.isList (Heap.IsSliceOf.new _ vl vu vs) pl pu ps (by decide) ?_ (by rw [List.size_toArray]; omega)
    rw [PySem.W.krv_pick]
    refine ⟨.ref _, _, I5.laid (t' := s4.toks) (o := .lst xs.reverse) (fun b ob q => Heap.get?_push_of_some _ q) (Nat.le_refl _) ?_, rfl, q _ (I5.hok.fresh (Nat.le_refl _))⟩
    exact ⟨by rw [List.length_reverse]; exact hz, _, 0, r.reverse, Heap.get?_push_size _ rfl⟩
  · obtain ⟨its, r, ht, hz⟩ := I5.tuple hx
    have hlen := r.length
    show wpAny (model X.prog X.w) X.A (subscriptTail e (.Slice none none (some (.UnaryOp .USub (.Constant (.int 1) k p1) p2)) p3) (.ref a) (.ref s4.heap.objs.size)) (EP X pins σ Q) X.xe { s4 with heap := s4.heap.push { cls := .type "slice", data := .fields #[vl, vu, vs] } }
    refine tail_any (ops := [.ref a, .ref s4.heap.objs.size]) ht.typeIs (PyProof.Rows.slot_tuple_getitem.lookup) ?_ (by with_unfolding_all rfl)
    refine rv_tuple ht (Heap.IsSliceOf.new _ vl vu vs) pl pu ps ?_ (by rw [List.size_toArray]; omega)
    refine ⟨.ref _, _, I5.laid (t' := s4.toks) (o := .tup xs.reverse) (fun b ob q => Heap.get?_push_of_some _ q) (Nat.le_refl _) ?_, rfl, q _ (I5.hok.fresh (Nat.le_refl _))⟩
    exact ⟨by rw [List.length_reverse]; exact hz, its.reverse, r.reverse, by rw [show its.toArray.toList.reverse.toArray = its.reverse.toArray by simp]; exact IsTup.new _ _⟩
def oRevX : O1 := fun x S => match x with
  | .tup xs => some (.tup xs.reverse, S)
  | _ => oRev x S
variable {W : WX} {e : Expr} {f : DE} {k : Nat} {p1 p2 p3 pos : Pos}
theorem e_revX (he : PE X e (tE X.kw X.mg W f)) : PE X (.Subscript e (.Slice none none (some (.UnaryOp .USub (.Constant (.int 1) k p1) p2)) p3) pos) (tE X.kw X.mg W (cUn oRevX f)) :=
  PE.weak (pe_revA he) fun σ H Q hh => tG1 (RA := R X.kw) hh fun x S μ H v ok rx hh => by
    unfold oRevX at hh
    split at hh
    · rename_i xs
      cases rx with
      | @tup a vs zs hs hl rr =>
        exact ⟨a, vs, rfl, .inr ⟨hs, fun p hp => hh.of.tup ok (by rw [List.length_reverse]; exact hl) rr.reverse p hp⟩⟩
    · unfold oRev at hh
      cases q : listOf S x with
      | none => rw [q] at hh; exact hh.of.elim
      | some xs =>
        rw [q] at hh
        obtain ⟨p, vs, rfl, hs, hl, rr⟩ := listOf_ok ok rx q
        exact ⟨p, vs, rfl, .inl ⟨hs, fun a ha => PV.lst hh.of ok (by rw [List.length_reverse]; exact hl) rr.reverse a ha⟩⟩
theorem o_revXT {xs : List D} {S : Store} {Q : D → Store → Prop} {tt : Tg Q} : WO Q tt (oRevX (.tup xs) S) = Q (.tup xs.reverse) S := (rfl)
end
end DL

/-! DLB: try with several clauses, each with a name. -/
namespace L2N
open PySem PySem.Spec PyProof.Rows L2
def unE (D : Ends) (i : Nat) : Ends := { nx := fun z h => D.nx (z.set i none) h, rt := D.rt, bk := fun z h => D.bk (z.set i none) h, ct := fun z h => D.ct (z.set i none) h }
/-- the clauses of a try, all with names -/
inductive HdA (X : Cx) : List ExceptHandler → List (Value × (Addr → Value → Option Addr → TS)) → Prop
  | nil : HdA X [] []
  | cons {x n : Str} {i : Nat} {c : Value} {ts : Addr → Value → Option Addr → TS} {b₀ : Stmt} {suite : List Stmt} {np pq : Pos} {hds : List ExceptHandler} {l : List (Value × (Addr → Value → Option Addr → TS))}
      (hc : Names X x c) (hi : X.N[i]? = some n) (hln : X.env.kindOf n = some .local)
      (hsu : ∀ (a : Addr) (oe : Obj) (cls : Value) (d : Option Addr) (pn : List (Addr × Obj)), Zn cls d oe → (∃ vs, oe.data = .fields vs) → PSs (X.suite a ((a, oe) :: pn)) (b₀ :: suite) (ts a cls d)) (r : HdA X hds l) :
      HdA X (.ExceptHandler (some (.Name x np)) (some n) (b₀ :: suite) pq :: hds) ((c, fun a cls d D z h => ts a cls d (unE D i) (z.set i (some (.ref a))) h) :: l)
section
variable {X : Cx} {body : List Stmt} {k₀ : ExceptHandler} {hds : List ExceptHandler} {l : List (Value × (Addr → Value → Option Addr → TS))} {pos : Pos} {tb : WX → TS} {Wo : WX}
theorem ps_try_all (hN : X.N.Nodup) (hs : X.stack = X.env :: X.outer) (hf : X.env.frame = some X.env.locals) (tk : Takes X Wo)
    (hb : ∀ (W : WX) (pn : List (Addr × Obj)) (xe : Value → Shared → Prop), Takes (X.tr pn xe) W → PassesOwn (model X.prog X.w) X.A X.env xe → PSs (X.tr pn xe) body (tb W))
    (hh : HdA X (k₀ :: hds) l) : PS X (.Try body (k₀ :: hds) [] [] pos) (fun D z h => tb (wMany X.K Wo D l) D z h) := by
  refine ⟨fun pins s σ H D I ht => ?_⟩
  have ok := I.ok
  have frs' : X.A.frames = some (X.env :: X.outer) := by rw [ok.frames, hs]
  refine wpAny_Try_except ?_
  refine wpAny_mono ((hb (wMany X.K Wo D l) (X.pn ++ pins) (fun e t₁ => wpAny (model X.prog X.w) X.A (noteFrame e X.env) (fun _ t₂ => wpAny (model X.prog X.w) X.A (setFlight e none) (fun _ t₃ =>
    wpAny (model X.prog X.w) X.A (handleBy e X.env (k₀ :: hds)) (SP X pins D) X.xe t₃) X.xe t₂) X.xe t₁) (fun u s' xx => ?_) PassesOwn.looking).run [] s σ H D (I.toTry _) ht) (fun f s1 hsp => ?_) (fun _ _ z => z)
  · obtain ⟨a, B, sI, pins', σ', H', cls, d, rfl, J', nb, up, sky, na, os, ag, w⟩ := xx
    have J : Inv X pins σ' H' sI := J'.ofTry ok
    have sky2 : Sky B (X.env :: X.outer) a (Zn cls d) X.env.locals s'.heap := by rw [← hs]; exact sky
    show wpAny (model X.prog X.w) X.A (noteFrame (.ref a) X.env) _ _ _
    refine Sky.land Zn.steady frs' hf sky2 fun h3 fl3 up3 => ?_
    have J3 : Inv X pins σ' H' { s' with heap := h3 } := J.landed nb fl3.1 (up.trans up3) os ag
    obtain ⟨oe3, vs3, he3, hz3, hd3⟩ := fl3.there
    have away : ∀ {g : Heap} {o : Obj} {vs : Array Value}, g.FunFrames B (X.env :: X.outer) → g.get? a = some o → o.data = .fields vs → a ∉ frs (X.env :: X.outer) := fun {g o vs} ff e dd hm => by
      obtain ⟨_, o', e', hnf⟩ := ff.mem hm
      rw [e] at e'; cases e'
      exact hnf _ dd
    have nfr := away fl3.2.2.1 he3 hd3
    have nL : a ≠ X.env.locals := fun z => nfr (List.mem_filterMap.mpr ⟨X.env, List.mem_cons_self, by rw [hf, z]⟩)
    have nF : a ∉ X.fs := fun hm => by
      obtain ⟨e, he, q⟩ := List.mem_filterMap.mp hm
      exact nfr (List.mem_filterMap.mpr ⟨e, List.mem_cons_of_mem _ he, q⟩)
    have S3 := J3.suite he3 hd3 na nL nF
    have go : ∀ {hs2 : List ExceptHandler} {l2 : List (Value × (Addr → Value → Option Addr → TS))}, HdA X hs2 l2 → wMany X.K Wo D l2 cls d σ' H' →
        wpAny (model X.prog X.w) X.A (handleBy (.ref a) X.env hs2) (SP X pins D) X.xe { s' with heap := h3 } := by
      intro hs2 l2 hk
      induction hk with
      | nil =>
        intro w
        refine wpAny_handleBy_nil ?_
        obtain ⟨k1, k2, k3, oe, vs, T, oT, ts', he, hz, hd, h1, hr⟩ := id fl3
        unfold PySem.passOn
        refine wpAny_bind (wpAny_field he hd h1 ?_)
        rw [if_neg (show ¬ ((Value.ref T == Value.none) = true) from by simp)]
        have fin : wpAny (model X.prog X.w) X.A (setFlight (.ref a) X.env.frame) (fun _ t4 => wpAny (model X.prog X.w) X.A (throw (.ref a) : Sem Flow) (SP X pins D) X.xe t4) X.xe { s' with heap := h3 } := by
          rw [hf]
          refine HandSPX.setFlight_upZ fl3 fun h4 hh4 up4 => wpAny_throw (tk _ _ ?_)
          exact ⟨a, B, sI, pins, σ', H', cls, d, rfl, J, nb, (up.trans up3).trans up4, .inr (.inr (by rw [hs]; exact hh4)), na, os, ag, w⟩
        first
          | exact wpAny_bind (wpAny_pure (wpAny_bind fin))
          | exact wpAny_bind fin
      | @cons x n i c ts b₀ suite np pq hds2 l3 hc hi hln hsu r ih =>
        intro w
        obtain ⟨b, hb1, hyes, hno⟩ := w
        have hloc : Loc X.env.scope n := .inl hln
        refine wpAny_handleBy_cons (codeAny_handlers_test ?_) (by intro q; cases q)
        have LT : PySem.W.Looks (model X.prog X.w) h3 (typeOf (.ref a)) cls := fun A Q E s k q => wpAny_typeOf_ref (k _ _ he3) (by rw [hz3.1]; exact q)
        have LM := PySem.W.exm_one (M := model X.prog X.w) (J3.kIn) LT hb1
        have test : ∀ {Q : Value → Shared → Prop} {E : Value → Shared → Prop}, Q c { s' with heap := h3 } → wpAny (model X.prog X.w) (X.A.mark (some (.ref a))) (eval (.Name x np) X.env) Q E { s' with heap := h3 } := fun {Q E} q => by
          obtain ⟨hg, hdbg, hm | ⟨hm, hv, hnn⟩⟩ := hc
          · exact ld_glob (X := X.suite a ((a, oe3) :: (X.pn ++ pins))) S3 hg hm q hdbg
          · exact ld_blt (X := X.suite a ((a, oe3) :: (X.pn ++ pins))) S3 hg hm hv q hnn hdbg
        refine test (LM.here ?_)
        cases b with
        | true =>
          refine codeAny_handlers_suite_as ?_
          refine HandSPX.lands_againZ fl3 fun h4 fl4 up4 => ?_
          have J4 : Inv X pins σ' H' { s' with heap := h4 } := J.landed nb fl4.1 ((up.trans up3).trans up4) os ag
          obtain ⟨oe4, vs4, he4, hz4, hd4⟩ := fl4.there
          have S4 := J4.suite he4 hd4 na nL nF
          refine store_ok (X := X.suite a ((a, oe4) :: (X.pn ++ pins))) (v := .ref a) S4 hN hi hloc rfl (fun s5 S5 => ?_) (.inr hln)
          refine wpAny_mono ((hsu a oe4 cls d (X.pn ++ pins) hz4 ⟨_, hd4⟩).run [] s5 _ H' _ S5 (hyes rfl a na)) (fun f s6 hsp => ?_) (fun _ _ z => False.elim z)
          have end_ : ∀ {σ6 : St} {H6 : Hp} {Q : Shared → Prop}, Inv (X.suite a ((a, oe4) :: (X.pn ++ pins))) [] σ6 H6 s6 → (∀ s7, Inv X pins (σ6.set i none) H6 s7 → Q s7) →
              wpAny (model X.prog X.w) X.A (do bindName X.env n .none; unbindBehindTheSuite X.env n pq) (fun _ s7 => Q s7) X.xe s6 := fun {σ6 H6 Q} S6 hq => gone_ok (S6.unsuite ok) hN hi hln hq
          cases f with
          | next =>
            obtain ⟨σ6, H6, S6, q6⟩ := hsp
            exact end_ S6 fun s7 J7 => ⟨_, _, J7, q6⟩
          | brk =>
            obtain ⟨σ6, H6, S6, q6⟩ := hsp
            exact end_ S6 fun s7 J7 => ⟨_, _, J7, q6⟩
          | cont =>
            obtain ⟨σ6, H6, S6, q6⟩ := hsp
            exact end_ S6 fun s7 J7 => ⟨_, _, J7, q6⟩
          | ret u =>
            obtain ⟨v6, σ6, H6, S6, r6, q6⟩ := hsp
            exact end_ S6 fun s7 J7 => ⟨_, _, _, J7, r6, q6⟩
        | false =>
          show wpAny _ X.A (handleBy (.ref a) X.env hds2) _ _ _
          exact ih (hno rfl)
    exact go hh w
  · cases f with
    | next =>
      obtain ⟨σ', H', J', q⟩ := hsp
      exact wpAny_execs_nil ⟨σ', H', J'.ofTry ok, q⟩
    | brk =>
      obtain ⟨σ', H', J', q⟩ := hsp
      exact ⟨σ', H', J'.ofTry ok, q⟩
    | cont =>
      obtain ⟨σ', H', J', q⟩ := hsp
      exact ⟨σ', H', J'.ofTry ok, q⟩
    | ret u =>
      obtain ⟨v, σ', H', J', r, q⟩ := hsp
      exact ⟨v, σ', H', J'.ofTry ok, r, q⟩
end
end L2N
namespace DL
open PySem PySem.Spec PyProof.Rows L2
abbrev Cls3 := Nat × List (Str × Bool) × (Exn → DS)
/-- the clauses, one after the other -/
def clM : List Cls3 → Exn → DS
  | [], e => fun σ S => .ex e σ S
  | c :: r, e => fun σ S => match c.2.1.lookup e.cls with
    | some true => unS c.1 (c.2.2 e (σ.set c.1 none) S)
    | some false => clM r e σ S
    | none => .no
def sTryM (f : DS) (cs : List Cls3) : DS := fun σ S => match f σ S with
  | .ex e σ' S' => clM cs e σ' S'
  | r => r
inductive ClA (X : Cx) : List ExceptHandler → List Cls3 → Prop
  | nil : ClA X [] []
  | cons {x n : Str} {i : Nat} {tab : List (Str × Bool)} {h : Exn → DS} {b₀ : Stmt} {suite : List Stmt} {np pq : Pos} {hds : List ExceptHandler} {cs : List Cls3} (T : XcT X.K X.mg x tab)
      (hsu : ∀ (p : Pin) (oe : Obj) (pn : List (Addr × Obj)), PinOk X p oe i → PSs (X.suite p.a ((p.a, oe) :: pn)) (b₀ :: suite) (tS (X.kwp (some p)) X.mg W0 (h p.e))) (r : ClA X hds cs)
      (hg : Gl X x) (hdb : (x == ("__debug__" : Str)) = false) (hi : X.N[i]? = some n) (hln : X.env.kindOf n = some .local) :
      ClA X (.ExceptHandler (some (.Name x np)) (some n) (b₀ :: suite) pq :: hds) ((i, tab, h) :: cs)
section
variable {X : Cx} {W : WX} {x n : Str} {i : Nat} {body suite : List Stmt} {b₀ : Stmt} {np pos pq : Pos} {f : DS} {h : Exn → DS} {tab : List (Str × Bool)} {hds : List ExceptHandler} {k₀ : ExceptHandler} {cs : List Cls3}
theorem cl_one (T : XcT X.K X.mg x tab) (hsu : ∀ (p : Pin) (oe : Obj) (pn : List (Addr × Obj)), PinOk X p oe i → PSs (X.suite p.a ((p.a, oe) :: pn)) (b₀ :: suite) (tS (X.kwp (some p)) X.mg W0 (h p.e))) (r : ClA X hds cs)
      (hg : Gl X x := by rfl) (hdb : (x == ("__debug__" : Str)) = false := by decide) (hi : X.N[i]? = some n := by rfl) (hln : X.env.kindOf n = some .local := by rfl) :
      ClA X (.ExceptHandler (some (.Name x np)) (some n) (b₀ :: suite) pq :: hds) ((i, tab, h) :: cs) := .cons T hsu r hg hdb hi hln
theorem cl_ok (k : ClA X hds cs) : ∃ l, L2N.HdA X hds l ∧ ∀ (D : Ends) (e : Exn) (C da : Addr) (vs : List (Str × V)) (μ : List Addr) (H : Hp) (σ : Sg) (S : Store) (σV : L2.St), X.mg e.cls = some (.ref C) → H da = some (.xd vs) → da ∉ μ → FR X.kw μ H e.fs vs → ExF X.K C (e.fs.map (·.1)) →
    Ok X.kw μ H S → EnvR X.kw μ H σ σV → SPost X.kw X.mg W μ H (clM cs e σ S) D → wMany X.K W D l (.ref C) (some da) σV H := by
  induction k with
  | nil => exact ⟨[], .nil, fun D e C da vs μ H σ S σV hm hd hdm hfr hx ok en hh => hh μ H σV (.ref C) (some da) (Ext.refl _ _) ok en ⟨C, da, vs, hm, rfl, rfl, hd, hdm, hfr, hx⟩⟩
  | @cons x n i tab h b₀ suite np pq hds cs T hsu r hg hdb hi hln ih =>
    obtain ⟨l, hl, go⟩ := ih
    obtain ⟨D0, hm0, h1, _⟩ := T
    refine ⟨_, .cons (c := .ref D0) (ts := fun a cls d Dn σV H => ∃ (p : Pin), p.a = a ∧ p.i = i ∧ cls = .ref p.C ∧ d = some p.da ∧ X.mg p.e.cls = some (.ref p.C) ∧ ExF X.K p.C (p.e.fs.map (·.1)) ∧ tS (X.kwp (some p)) X.mg W0 (h p.e) Dn σV H)
      ⟨hg, hdb, Or.inl hm0⟩ hi hln (fun a oe cls d pn hz hfd => ⟨fun pins s σ H D I hh => ?_⟩) hl, fun D e C da vs μ H σ S σV hm hd hdm hfr hx ok en hh => ?_⟩
    · obtain ⟨p, rfl, hpi, rfl, rfl, hm, hx, hh⟩ := hh
      exact (hsu p oe pn ⟨hz.zc, hz.2.2, hfd, hm, hpi, hx⟩).run pins s σ H D I hh
    · unfold clM at hh
      simp only at hh
      cases q2 : tab.lookup e.cls with
      | none => rw [q2] at hh; exact hh.elim
      | some b =>
        rw [q2] at hh
        refine ⟨b, h1 _ _ q2 C hm, fun hb1 a ha => ?_, fun hb1 => ?_⟩
        · subst hb1
          exact ⟨⟨i, a, C, da, vs, e⟩, rfl, rfl, rfl, rfl, hm, hx, μ, σ.set i none, S, ok.rp, EnvR.pinned (q := ⟨i, a, C, da, vs, e⟩) en hd hdm hfr, SPost.un hh⟩
        · subst hb1
          exact go D e C da vs μ H σ S σV hm hd hdm hfr hx ok en hh
theorem s_tryM (hN : X.N.Nodup) (tk : L2N.Takes X W)
    (hb : ∀ (W : WX) (pn : List (Addr × Obj)) (xe : Value → Shared → Prop), L2N.Takes (X.tr pn xe) W → PassesOwn (model X.prog X.w) X.A X.env xe → PSs (X.tr pn xe) body (tS X.kw X.mg W f))
    (k : ClA X (k₀ :: hds) cs) (hs : X.stack = X.env :: X.outer := by rfl) (hf : X.env.frame = some X.env.locals := by rfl) :
    PS X (.Try body (k₀ :: hds) [] [] pos) (tS X.kw X.mg W (sTryM f cs)) := by
  obtain ⟨l, hl, go⟩ := cl_ok (W := W) k
  refine PS.weak (L2N.ps_try_all (Wo := W) (tb := fun W => tS X.kw X.mg W f) hN hs hf tk hb hl) fun Dn σV H hh => ?_
  obtain ⟨μ, σ, S, ok, en, hh⟩ := hh
  refine ⟨μ, σ, S, ok, en, ?_⟩
  unfold sTryM at hh
  cases q : f σ S with
  | nx σ1 S1 => rw [q] at hh; exact hh
  | bk σ1 S1 => rw [q] at hh; exact hh
  | ct σ1 S1 => rw [q] at hh; exact hh
  | rt d S1 => rw [q] at hh; exact hh
  | no => rw [q] at hh; exact hh.elim
  | ex e σ1 S1 =>
    rw [q] at hh
    intro μ1 H1 σV1 cls dx x1 ok1 en1 er
    obtain ⟨C, da, vs, hm, rfl, rfl, hd, hdm, hfr, hx⟩ := er
    exact go Dn e C da vs μ1 H1 σ1 S1 σV1 hm hd hdm hfr hx ok1 en1 (SPost.mono x1 hh)
end
/-- what has to hold ahead -/
def clq (q : SQ) : List Cls3 → Exn → Sg → Store → Prop
  | [], e, σ, S => q.ex e σ S
  | c :: r, e, σ, S => xcB (c.2.1.lookup e.cls) (WS (uq q c.1) tg (c.2.2 e (σ.set c.1 none) S)) (clq q r e σ S)
theorem clq0 {q : SQ} {e : Exn} {σ : Sg} {S : Store} : clq q [] e σ S = q.ex e σ S := (rfl)
theorem clqS {q : SQ} {e : Exn} {σ : Sg} {S : Store} {i : Nat} {tab : List (Str × Bool)} {h : Exn → DS} {r : List Cls3} : clq q ((i, tab, h) :: r) e σ S = xcB (tab.lookup e.cls) (WS (uq q i) tg (h e (σ.set i none) S)) (clq q r e σ S) := (rfl)
theorem WS_cl {q : SQ} {e : Exn} {σ : Sg} {S : Store} {cs : List Cls3} {tt} : WS q tt (clM cs e σ S) = clq q cs e σ S := by
  induction cs with
  | nil => rfl
  | cons c r ih =>
    unfold clM clq
    cases c.2.1.lookup e.cls with
    | none => rfl
    | some b =>
      cases b with
      | false => exact ih
      | true =>
        simp only [xcB]
        cases c.2.2 e (σ.set c.1 none) S <;> rfl
theorem WS_tryM {q : SQ} {f : DS} {cs : List Cls3} {σ : Sg} {S : Store} {tt} : WS q tt (sTryM f cs σ S) = WS (tq q fun e σ' S' => clq q cs e σ' S') tg (f σ S) := by
  unfold sTryM
  cases f σ S with
  | ex e σ' S' => exact WS_cl
  | _ => rfl
end DL

/-! DLM: texts: walked, numbered, repeated; their methods; `*=`. -/
namespace DL
open PySem PySem.Spec PyProof.Rows L2
/-! ### text * int -/
def strRep (x : Str) (n : Nat) : Str := ⟨(List.replicate n x.cps).foldl (· ++ ·) #[]⟩
theorem strRep_one (x : Str) : strRep x 1 = x := by
  unfold strRep
  simp
theorem foldl_empty : ∀ n : Nat, (List.replicate n (#[] : Array Nat)).foldl (· ++ ·) #[] = #[]
  | 0 => rfl
  | n + 1 => by rw [List.replicate_succ, List.foldl_cons, Array.append_empty, foldl_empty n]
theorem strRep_nil {x : Str} (h : x.length = 0) (n : Nat) : strRep x n = x := by
  unfold strRep
  have e : x.cps = #[] := Array.eq_empty_of_size_eq_zero h
  have e2 : x = ⟨#[]⟩ := by cases x; simp at e; rw [e]
  rw [e2]
  rw [foldl_empty n]
theorem foldl_size (c : Array Nat) : ∀ (n : Nat) (a : Array Nat), ((List.replicate n c).foldl (· ++ ·) a).size = a.size + n * c.size
  | 0, a => by simp
  | n + 1, a => by
    rw [List.replicate_succ, List.foldl_cons, foldl_size c n, Array.size_append, Nat.succ_mul]
    omega
theorem strRep_len (x : Str) (n : Nat) : (strRep x n).length = n * x.length := by
  show (strRep x n).cps.size = n * x.cps.size
  unfold strRep
  rw [foldl_size]
  simp
theorem strRep_zero (x : Str) : strRep x 0 = Str.empty := rfl
def oMulY : O2 := fun x y S => match x, y with
  | .str a, .int k => if 0 ≤ k ∧ k ≤ 1000 ∧ a.length ≤ 1000 then some (.str (strRep a k.toNat), S) else none
  | _, _ => oMulX x y S
section
variable {X : Cx} {pq : Option Pin}
theorem d_mulY : OpR X (binaryOp .Mult) (r2 (X.kwp pq) oMulY) := by
  intro pins s σ H x y v u Q I rx ry hr
  obtain ⟨μ, S, a, b, ok, ra, rb, hp⟩ := hr
  unfold oMulY at hp
  split at hp
  · rename_i z k
    split at hp
    · rename_i hk
      obtain ⟨h0, h1, h2⟩ := hk
      cases ra
      cases rb
      obtain ⟨t, rfl⟩ := rx
      obtain ⟨t', rfl⟩ := ry
      have hq : ∀ (u : Tok) (tk : Nat), EP X pins σ Q (.str (strRep z k.toNat) u) { s with toks := tk } := fun u tk => ⟨.str _, H, I.tok _, ⟨u, rfl⟩, hp.same ok (.str _)⟩
      refine PySem.P.mul_str ?_ (fun hn _ hx => ?_) (fun hn _ => ?_) ?_
      · have e1 : ¬ k < -(2 ^ 63 : Int) := by omega
        have e2 : ¬ k ≥ 2 ^ 63 := by omega
        rw [decide_eq_false e1, decide_eq_false e2]; rfl
      · have e1 : (2 ^ 63 - 1 : Int) / k ≥ (2 ^ 63 - 1) / 1000 := by
          apply Int.le_ediv_of_mul_le (by omega)
          have : ((2 ^ 63 - 1 : Int) / 1000) * k ≤ ((2 ^ 63 - 1) / 1000) * 1000 := Int.mul_le_mul_of_nonneg_left h1 (by decide)
          have e3 : ((2 ^ 63 - 1 : Int) / 1000) * 1000 ≤ 2 ^ 63 - 1 := by decide
          omega
        have e2 : ((2 ^ 63 - 1 : Int) / 1000) ≥ 1000 := by decide
        have e3 : (z.length : Int) ≤ 1000 := by omega
        omega
      · unfold Builtin.Str.tooLong
        have e1 : k.toNat ≤ 1000 := by omega
        have e2 : z.length * k.toNat ≤ 1000 * 1000 := Nat.mul_le_mul h2 e1
        have e3 := sizeLine_eq
        simp
        omega
      · by_cases c1 : k < 1
        · rw [if_pos c1]
          have e0 : k.toNat = 0 := by omega
          rw [e0] at hq
          exact ⟨by decide, hq _ _⟩
        · rw [if_neg c1]
          by_cases c2 : (k == 1 || z.length == 0) = true
          · rw [if_pos c2]
            have e : strRep z k.toNat = z := by
              rw [Bool.or_eq_true] at c2
              rcases c2 with c | c
              · have : k = 1 := by simpa using c
                subst this
                exact strRep_one z
              · exact strRep_nil (by simpa using c) _
            rw [e] at hq
            exact hq t s.toks
          · rw [if_neg c2]
            refine ⟨?_, hq _ _⟩
            show (strRep z k.toNat).length ≤ sizeLine
            rw [strRep_len]
            have e1 : k.toNat ≤ 1000 := by omega
            have e2 : k.toNat * z.length ≤ 1000 * 1000 := Nat.mul_le_mul e1 h2
            have e3 := sizeLine_eq
            omega
    · exact hp.elim
  · exact d_mulX (pq := pq) pins s σ H x y v u Q I rx ry ⟨μ, S, a, b, ok, ra, rb, hp⟩
/-! ### texts walked, numbered -/
def chars (x : Str) : List D := x.cps.toList.map fun c => D.str ⟨#[c]⟩
theorem chars_len (x : Str) : (chars x).length = x.length := by unfold chars; rw [List.length_map, Array.length_toList]; rfl
theorem chars_get {x : Str} {i : Nat} {d : D} (h : (chars x)[i]? = some d) : ∃ c, x.cps[i]? = some c ∧ d = .str ⟨#[c]⟩ := by
  unfold chars at h
  rw [List.getElem?_map, Array.getElem?_toList] at h
  cases q : x.cps[i]? with
  | none => rw [q] at h; cases h
  | some c => rw [q] at h; cases h; exact ⟨c, rfl, rfl⟩
section
variable {K : KW} {mg : Str → Option Value} {W : WX} {tg e : Expr} {f : DE} {pos : Pos}
theorem wlk_str {μ : List Addr} {H : Hp} {x : Str} : Wlk K (Its x) μ H (none, chars x) where
  go := fun i μ' H' S d x1 ok _ hd => by
    obtain ⟨c, hc, rfl⟩ := chars_get hd
    refine ⟨(Array.getElem?_eq_some_iff.mp hc).1, fun y H'' hy => ?_⟩
    obtain ⟨rfl, c', hc', rfl⟩ := hy
    rw [hc] at hc'; cases hc'
    exact ⟨Ext.refl _ _, ok, .str _⟩
  stop := fun i μ' H' S x1 ok _ hi => by
    have hi' : (chars x).length ≤ i := hi
    rw [chars_len] at hi'
    exact hi'
/-- a text, a list, a tuple -/
def cIterX (f : DE) : DI := fun σ S => (f σ S).bind fun x S1 => match x with
  | .tup xs => .ok (none, xs) S1
  | .rol xs => .ok (none, xs) S1
  | .str z => .ok (none, chars z) S1
  | .loc l => match S1[l]? with
    | some (.lst xs) => .ok (some (l, xs), xs) S1
    | _ => .no
  | _ => .no
theorem i_seqX (he : PE X e (tE X.kw X.mg W f)) : PI X tg e (tI X.kw X.mg W (cIterX f)) := by
  refine PI.weak (PI.or (i_seq he) (pi_str he)) fun σ H Q hh => ?_
  obtain ⟨μ, σD, S, ok, en, hh⟩ := hh
  cases q : f σD S with
  | no => unfold cIterX at hh; rw [q] at hh; exact hh.elim
  | ex e S1 =>
    refine .inl ⟨μ, σD, S, ok, en, ?_⟩
    unfold cIterX at hh
    unfold cIter
    rw [q] at hh ⊢
    exact hh
  | ok x S1 =>
    by_cases c : ∃ z, x = .str z
    · obtain ⟨z, rfl⟩ := c
      refine .inr ⟨μ, σD, S, ok, en, ?_⟩
      unfold cIterX at hh
      rw [q] at hh ⊢
      simp only [Res.bind_ok] at hh
      intro μ' H' v x1 ok1 r
      cases r
      exact ⟨z, rfl, hh μ' H' _ x1 ok1 wlk_str⟩
    · refine .inl ⟨μ, σD, S, ok, en, ?_⟩
      unfold cIterX at hh
      unfold cIter
      rw [q] at hh ⊢
      cases x with
      | str z => exact absurd ⟨z, rfl⟩ c
      | _ => exact hh
/-- enumerate of a text -/
def IteS (x : Str) : It := ⟨fun i _ => i < x.cps.size, fun i H v H' => ∃ T c, v = .ref T ∧ H T = none ∧ H' = upd H T (.tup [.int (i : Nat), .str ⟨#[c]⟩]) ∧ x.cps[i]? = some c, fun i _ => x.cps.size ≤ i⟩
theorem turn_enumS {P : Program} {w : World} {K : PySem.W.Frag} {elts : List Expr} {kk : Nat} {tpos : Pos} (x : Str) (t : Tok) (e it : Addr) :
    Turn P w K (.Tuple elts kk tpos) (IteS x) [e, it] e (fun i h => (∃ old, IsEnum h e it ((i : Nat) : Int) old) ∧ h.IsStrIter it (strIterType x) x t i ∧ e ≠ it ∧ i ≤ x.cps.size) where
  mem := by simp
  obj := fun i h st b hb => by
    obtain ⟨⟨old, he⟩, ⟨o, ho, hc, hd⟩, _⟩ := st
    have e' : b = e ∨ b = it := by simpa using hb
    rcases e' with z | z
    · rw [z]; exact ⟨_, he, fun v q => nomatch q⟩
    · rw [z]; exact ⟨o, ho, fun v q => by rw [hd] at q; cases q⟩
  keep := fun i h h' st k => let ⟨⟨old, he⟩, ⟨o, ho, r⟩, hne⟩ := st; ⟨⟨old, k e (by simp) _ he⟩, ⟨o, k it (by simp) o ho, r⟩, hne⟩
  item := by
    intro X hP hw hK hc i pins s σ H E I hf st hg
    subst hP hw hK
    obtain ⟨⟨old, he⟩, hit, hne, hle⟩ := st
    have hel : e < s.heap.objs.size := Heap.lt_size he
    have hil : it < s.heap.objs.size := by obtain ⟨_, q, _⟩ := hit; exact Heap.lt_size q
    refine wpAny_pyNext_enum_itemD (Draws.text (A := X.A.in1) (I.ok.hd hc) it x t) he hit hg hne (by simp [hne]) fun x' h' tk hxP ho hst' hT hsz hk => ?_
    obtain ⟨c, u, hcx, rfl⟩ := hxP
    refine ⟨_, rfl, wpAny_letOwnedTupleGo_enum (s := { s with heap := h', toks := tk + 1 }) ho fun h'' he' sb => ?_⟩
    have hT2 : h''.get? s.heap.objs.size = some { cls := .type "tuple", data := .seq #[.int i tk, .str ⟨#[c]⟩ u] } := (sb.2 _ (Nat.ne_of_gt hel)).trans hT
    have new : ObjOk X.prog X.w (upd H s.heap.objs.size (.tup [.int (i : Nat), .str ⟨#[c]⟩])) h'' s.heap.objs.size (.tup [.int (i : Nat), .str ⟨#[c]⟩]) :=
      ⟨by show 2 ≤ sizeLine; decide, [.int i tk, .str ⟨#[c]⟩ u], .cons ⟨_, rfl⟩ (.cons ⟨_, rfl⟩ .nil), ⟨_, hT2, rfl, _, rfl⟩⟩
    have I1 : Inv X pins σ (upd H s.heap.objs.size (.tup [.int (i : Nat), .str ⟨#[c]⟩])) { s with heap := h'', toks := tk + 1 } :=
      I.turnedNew (ch := [e, it]) (fun b ob hb q => (sb.2 b (fun z => hb (by simp [z]))).trans (hk b ob (fun z => hb (by simp [z])) (fun z => hb (by simp [z])) q)) hf (Nat.le_refl _) new
    refine ⟨.ref s.heap.objs.size, _, I1, rfl, ⟨_, c, rfl, I.hok.fresh (Nat.le_refl _), rfl, hcx⟩, ⟨⟨.str ⟨#[c]⟩ u, ?_⟩, ?_, hne, hg⟩, fun b hb => ?_⟩
    · have e1 : ((i + 1 : Nat) : Int) = (i : Int) + 1 := by omega
      rw [e1]; exact he'
    · obtain ⟨o, q, r⟩ := hst'
      exact ⟨o, (sb.2 it (Ne.symm hne)).trans q, r⟩
    · have hb' : b < s.heap.objs.size := by
        have e' : b = e ∨ b = it := by simpa using hb
        rcases e' with z | z
        · rw [z]; exact hel
        · rw [z]; exact hil
      rw [upd_ne (Nat.ne_of_lt hb')]
      exact (hf b hb).1
  done := by
    intro X hP hw hK hc i pins s σ H E I hf st hg
    subst hP hw hK
    obtain ⟨⟨old, he⟩, hit, hne, hle⟩ := st
    obtain ⟨f0, f1, f2, f3, f4, f5⟩ := hf it (by simp)
    have c : i = x.cps.size := Nat.le_antisymm hle hg
    subst c
    exact wpAny_pyNext_enum_endD (Draws.text (A := X.A.in1) (I.ok.hd hc) it x t) he hit fun h' eb => ⟨rfl, I.turned (t' := s.toks) (fun b o hb q => eb b o hb q) f0 f1 f3 f4 f5⟩
  self := fun A i s Q E st h => let ⟨⟨_, he⟩, _⟩ := st; wpAny_pyIter_enum he h
theorem wlk_enumS {μ : List Addr} {H : Hp} {x : Str} : Wlk K (IteS x) μ H (none, numbered 0 (chars x)) where
  go := fun i μ' H' S d x1 ok _ hd => by
    rw [numbered_get] at hd
    cases q : (chars x)[i]? with
    | none => rw [q] at hd; cases hd
    | some y =>
      rw [q] at hd; cases hd
      obtain ⟨c, hc, rfl⟩ := chars_get q
      refine ⟨(Array.getElem?_eq_some_iff.mp hc).1, ?_⟩
      rintro z H'' ⟨T, c', rfl, hT, rfl, hc'⟩
      rw [hc] at hc'; cases hc'
      have x2 : Ext μ' H' μ' (upd H' T (.tup [.int (i : Nat), .str ⟨#[c]⟩])) := ext_new hT
      refine ⟨x2, ok.laid hT, .tup (SqT.of upd_same) (by show 2 ≤ sizeLine; decide) (.cons ?_ (.cons (.str _) .nil))⟩
      rw [Nat.zero_add]; exact .int _
  stop := fun i μ' H' S x1 ok g hi => by
    rw [show ((none, numbered 0 (chars x)) : Gd × List D).2 = numbered 0 (chars x) from rfl, numbered_length, chars_len] at hi
    exact hi
def iEnumS (ta : TA) : TI := fun σ H R => ta σ H fun vs H1 => ∃ x, vs = [.str x] ∧ R (IteS x) H1
theorem pi_enumS {X : Cx} {e : Expr} {ta : TA} {p pos tpos : Pos} {elts : List Expr} {kk : Nat} (hg : Gl X "enumerate") (hm : X.mg "enumerate" = none) (ha : PA X [e] ta) (hs : starEach [e] X.env = [(false, eval e X.env)] := by rfl) :
    PI X (.Tuple elts kk tpos) (.Call (.Name "enumerate" p) [e] [] pos) (iEnumS ta) := by
  refine ⟨fun pins s σ H R I h => ?_⟩
  refine Call_ (ld_blt I hg hm boot_enumerate (PyProof.Rows.callWith_type1 (thn (ha.run pos pins s σ H _ I h) fun us s1 ⟨vs, H1, I1, r1, q1⟩ => ?_) hs rfl))
  obtain ⟨x, ex, q1⟩ := q1
  subst ex
  cases r1 with
  | cons r rr =>
    cases rr
    obtain ⟨t, rfl⟩ := r
    have fr : ∀ b ∈ [s1.heap.objs.size + 1, s1.heap.objs.size], FpOk X pins H1 b := fun b hb => by
      have e' : b = s1.heap.objs.size + 1 ∨ b = s1.heap.objs.size := by simpa using hb
      have hle : s1.heap.objs.size ≤ b := by
        rcases e' with z | z
        · rw [z]; exact Nat.le_add_right _ _
        · rw [z]; exact Nat.le_refl _
      exact I1.fpOk hle (I1.hok.fresh hle)
    refine call_enumerate_str fun h' he hit hsz hk => wpAny_pyIter_enum he ?_
    have I2 : Inv X pins σ H1 { s1 with heap := h' } := I1.kept (t' := s1.toks) hk
    exact ⟨s1.heap.objs.size + 1, [s1.heap.objs.size + 1, s1.heap.objs.size], _, _, H1, rfl, I2, turn_enumS x t (s1.heap.objs.size + 1) s1.heap.objs.size, ⟨⟨.none, he⟩, hit, Nat.succ_ne_self _, Nat.zero_le _⟩, fr, q1⟩
/-- enumerate of a text, of a tuple, of a list -/
def enumX (x : D) (S : Store) : Res (Gd × List D) := match x with
  | .str z => .ok (none, numbered 0 (chars z)) S
  | x => enumA x S
def cEnumX (f : DE) : DI := fun σ S => (f σ S).bind enumX
theorem i_enumX {elts : List Expr} {kk : Nat} {p tpos : Pos} (hm : X.mg "enumerate" = none) (he : PE X e (tE X.kw X.mg W f)) (hg : Gl X "enumerate" := by rfl) (hs : starEach [e] X.env = [(false, eval e X.env)] := by rfl) :
    PI X (.Tuple elts kk tpos) (.Call (.Name "enumerate" p) [e] [] pos) (tI X.kw X.mg W (cEnumX f)) := by
  refine PI.weak (PI.or (i_enum hm he hg hs) (pi_enumS hg hm (pa_cons he pa_nil hs) hs)) fun σ H Q hh => ?_
  obtain ⟨μ, σD, S, ok, en, hh⟩ := hh
  cases q : f σD S with
  | no => unfold cEnumX at hh; rw [q] at hh; exact hh.elim
  | ex e S1 =>
    refine .inl ⟨μ, σD, S, ok, en, ?_⟩
    unfold cEnumX at hh
    unfold cEnumA
    rw [q] at hh ⊢
    exact hh
  | ok x S1 =>
    by_cases c : ∃ z, x = .str z
    · obtain ⟨z, rfl⟩ := c
      refine .inr ⟨μ, σD, S, ok, en, ?_⟩
      unfold cEnumX at hh
      rw [q] at hh ⊢
      intro μ' H' v x1 ok1 r
      cases r
      exact ⟨z, rfl, hh μ' H' _ x1 ok1 wlk_enumS⟩
    · refine .inl ⟨μ, σD, S, ok, en, ?_⟩
      unfold cEnumX at hh
      unfold cEnumA
      rw [q] at hh ⊢
      cases x with
      | str z => exact absurd ⟨z, rfl⟩ c
      | _ => exact hh
end
end
/-! ### methods of texts -/
def isSt : D → Store → Bool
  | .str _, _ => true
  | _, _ => false
theorem tySt {K : KW} {H : Hp} {μ : List Addr} {S : Store} (ok : Ok K μ H S) {x : D} {v : V} (r : R K μ H x v) (h : isSt x S = true) : tyV K "str" v H := by
  cases r with
  | str z => rfl
  | _ => cases h
def mUpper : OM := fun x xs S => match x, xs with
  | .str a, [] => if a.length ≤ 5592405 then some (.str (Txt.upper a), S) else none
  | _, _ => none
def mStarts : OM := fun x xs S => match x, xs with
  | .str a, [.str b] => some (.bl (Txt.startswith a b), S)
  | _, _ => none
def mCount : OM := fun x xs S => match x, xs with
  | .str a, [.str b] => some (.int (Txt.count a b), S)
  | _, _ => none
def mSplit : OM := fun x xs S => match x, xs with
  | .str a, [.str b] => if (b.length == 0) = false ∧ a.length + 2 ≤ sizeLine then some (.loc S.length, S ++ [.lst ((Txt.split a b).map D.str)]) else none
  | _, _ => none
def strsOf : List D → Option (List Str)
  | [] => some []
  | .str x :: r => (strsOf r).map fun ys => x :: ys
  | _ :: _ => none
theorem strsOf_eq : ∀ {xs : List D} {ys : List Str}, strsOf xs = some ys → xs = ys.map D.str
  | [], ys, h => by cases h; rfl
  | x :: r, ys, h => by
    cases x with
    | str z =>
      simp only [strsOf] at h
      cases q : strsOf r with
      | none => rw [q] at h; cases h
      | some zs => rw [q] at h; cases h; rw [strsOf_eq q]; rfl
    | _ => simp [strsOf] at h
theorem strsOf_map : ∀ ys : List Str, strsOf (ys.map D.str) = some ys
  | [] => rfl
  | y :: ys => by rw [List.map_cons, strsOf, strsOf_map ys]; rfl
theorem RL.strsV {K : KW} {μ : List Addr} {H : Hp} : ∀ {ys : List Str} {vs : List V}, RL K μ H (ys.map D.str) vs → vs = ys.map V.str
  | [], _, .nil => rfl
  | y :: r, _, .cons h t => by cases h; rw [RL.strsV t]; rfl
theorem RL.strs {K : KW} {μ : List Addr} {H : Hp} : ∀ ys : List Str, RL K μ H (ys.map D.str) (ys.map V.str)
  | [] => .nil
  | y :: r => .cons (.str y) (RL.strs r)
def mJoin : OM := fun x xs S => match x, xs with
  | .str a, [d] => match itemsOf S d with
    | some zs => match strsOf zs with
      | some ys => if (ys.map (·.length)).sum + ys.length * a.length ≤ 16777216 then some (.str (Txt.join a ys), S) else none
      | none => none
    | none => none
  | _, _ => none
section
variable {X : Cx} {pq : Option Pin}
theorem d_upper : MtR X "str.upper" (rM (X.kwp pq) mUpper) := by
  intro pins s σ H x xs v us Q I rx rs hr
  obtain ⟨μ, S, d, ds, ok, rd, rds, hp⟩ := hr
  unfold mUpper at hp
  split at hp
  · split at hp
    · rename_i hl
      cases rd
      cases rds
      exact mt_upper pins s σ H _ _ v us Q I rx rs ⟨_, rfl, rfl, hl, hp.same ok (.str _)⟩
    · exact hp.elim
  · exact hp.elim
theorem d_starts : MtR X "str.startswith" (rM (X.kwp pq) mStarts) := by
  intro pins s σ H x xs v us Q I rx rs hr
  obtain ⟨μ, S, d, ds, ok, rd, rds, hp⟩ := hr
  unfold mStarts at hp
  split at hp
  · cases rd
    obtain ⟨w, rfl, rw'⟩ := rds.one
    cases rw'
    exact mt_startswith pins s σ H _ _ v us Q I rx rs ⟨_, _, rfl, rfl, hp.same ok (.bl _)⟩
  · exact hp.elim
theorem d_count : MtR X "str.count" (rM (X.kwp pq) mCount) := by
  intro pins s σ H x xs v us Q I rx rs hr
  obtain ⟨μ, S, d, ds, ok, rd, rds, hp⟩ := hr
  unfold mCount at hp
  split at hp
  · cases rd
    obtain ⟨w, rfl, rw'⟩ := rds.one
    cases rw'
    exact mt_count pins s σ H _ _ v us Q I rx rs ⟨_, _, rfl, rfl, hp.same ok (.int _)⟩
  · exact hp.elim
theorem d_split : MtR X "str.split" (rM (X.kwp pq) mSplit) := by
  intro pins s σ H x xs v us Q I rx rs hr
  obtain ⟨μ, S, d, ds, ok, rd, rds, hp⟩ := hr
  unfold mSplit at hp
  split at hp
  · split at hp
    · rename_i a b hl
      cases rd
      obtain ⟨w, rfl, rw'⟩ := rds.one
      cases rw'
      refine mt_split pins s σ H _ _ v us Q I rx rs ⟨a, b, rfl, rfl, hl.1, hl.2, ?_⟩
      exact hp.lst ok (by rw [List.length_map]; exact Nat.le_trans (PyProof.Rows.split_le a b) (by omega)) (RL.strs _)
    · exact hp.elim
  · exact hp.elim
theorem d_join : MtR X "str.join" (rM (X.kwp pq) mJoin) := by
  intro pins s σ H x xs v us Q I rx rs hr
  obtain ⟨μ, S, d, ds, ok, rd, rds, hp⟩ := hr
  unfold mJoin at hp
  split at hp
  · rename_i a e
    cases q : itemsOf S e with
    | none => rw [q] at hp; exact hp.elim
    | some zs =>
      rw [q] at hp
      simp only at hp
      cases q2 : strsOf zs with
      | none => rw [q2] at hp; exact hp.elim
      | some ys =>
        rw [q2] at hp
        simp only at hp
        split at hp
        · rename_i hl
          cases rd
          obtain ⟨w, rfl, rw'⟩ := rds.one
          obtain ⟨p, vs, rfl, hs, hl2, rr⟩ := itemsOf_ok ok rw' q
          have e1 := strsOf_eq q2
          subst e1
          have e2 := rr.strsV
          subst e2
          exact mt_join pins s σ H _ _ v us Q I rx rs ⟨a, p, ys, rfl, rfl, hs, hl, hp.same ok (.str _)⟩
        · exact hp.elim
  · exact hp.elim
variable {o e : Expr} {es : List Expr} {pos : Pos} {f : DE} {fa : DA} {W : WX}
theorem e_upper (ho : PE X o (tE (X.kwp pq) X.mg W f)) {apos : Pos} (hbase : attributeBase o "upper" X.env (eval o X.env) = eval o X.env := by rfl) (hline : (apos.endLine == pos.line) = true := by rfl) :
    PE X (.Call (.Attribute o "upper" apos) [] [] pos) (tE (X.kwp pq) X.mg W (cMeth isSt mUpper f aNil)) :=
  PE.weak (pe_bm0 PySem.F.plainAttrs_str PySem.F.slot_str_upper PySem.F.type_str_upper (d_upper (pq := pq)) ho hbase hline) fun _ _ _ => tE_meth0 tySt
theorem e_starts (ho : PE X o (tE (X.kwp pq) X.mg W f)) (ha : PA X (e :: es) (tA (X.kwp pq) X.mg W fa)) {apos : Pos} (hbase : attributeBase o "startswith" X.env (eval o X.env) = eval o X.env := by rfl)
    (hfew : ((backTo pos (starEach (e :: es) X.env)).all (fun x => !x.1) && (backToKw pos (keywordEach [] X.env)).all (fun x => x.1.isSome) && decide ((e :: es).length + ([] : List Keyword).length + (if ([] : List Keyword).isEmpty then 0 else 1) < 30)) = true := by rfl)
    (hline : (apos.endLine == pos.line) = true := by rfl) (hs : starEach (e :: es) X.env = (false, eval e X.env) :: starEach es X.env := by rfl) (hplain : (backTo pos (starEach es X.env)).any (·.1) = false := by rfl) :
    PE X (.Call (.Attribute o "startswith" apos) (e :: es) [] pos) (tE (X.kwp pq) X.mg W (cMeth isSt mStarts f fa)) :=
  PE.weak (pe_bm PySem.F.plainAttrs_str PySem.F.slot_str_startswith PySem.F.type_str_startswith (d_starts (pq := pq)) ho ha hbase hfew hline hs hplain) fun _ _ _ => tE_meth tySt
theorem e_count (ho : PE X o (tE (X.kwp pq) X.mg W f)) (ha : PA X (e :: es) (tA (X.kwp pq) X.mg W fa)) {apos : Pos} (hbase : attributeBase o "count" X.env (eval o X.env) = eval o X.env := by rfl)
    (hfew : ((backTo pos (starEach (e :: es) X.env)).all (fun x => !x.1) && (backToKw pos (keywordEach [] X.env)).all (fun x => x.1.isSome) && decide ((e :: es).length + ([] : List Keyword).length + (if ([] : List Keyword).isEmpty then 0 else 1) < 30)) = true := by rfl)
    (hline : (apos.endLine == pos.line) = true := by rfl) (hs : starEach (e :: es) X.env = (false, eval e X.env) :: starEach es X.env := by rfl) (hplain : (backTo pos (starEach es X.env)).any (·.1) = false := by rfl) :
    PE X (.Call (.Attribute o "count" apos) (e :: es) [] pos) (tE (X.kwp pq) X.mg W (cMeth isSt mCount f fa)) :=
  PE.weak (pe_bm PySem.F.plainAttrs_str PySem.F.slot_str_count PySem.F.type_str_count (d_count (pq := pq)) ho ha hbase hfew hline hs hplain) fun _ _ _ => tE_meth tySt
theorem e_split (ho : PE X o (tE (X.kwp pq) X.mg W f)) (ha : PA X (e :: es) (tA (X.kwp pq) X.mg W fa)) {apos : Pos} (hbase : attributeBase o "split" X.env (eval o X.env) = eval o X.env := by rfl)
    (hfew : ((backTo pos (starEach (e :: es) X.env)).all (fun x => !x.1) && (backToKw pos (keywordEach [] X.env)).all (fun x => x.1.isSome) && decide ((e :: es).length + ([] : List Keyword).length + (if ([] : List Keyword).isEmpty then 0 else 1) < 30)) = true := by rfl)
    (hline : (apos.endLine == pos.line) = true := by rfl) (hs : starEach (e :: es) X.env = (false, eval e X.env) :: starEach es X.env := by rfl) (hplain : (backTo pos (starEach es X.env)).any (·.1) = false := by rfl) :
    PE X (.Call (.Attribute o "split" apos) (e :: es) [] pos) (tE (X.kwp pq) X.mg W (cMeth isSt mSplit f fa)) :=
  PE.weak (pe_bm PySem.F.plainAttrs_str PySem.F.slot_str_split PySem.F.type_str_split (d_split (pq := pq)) ho ha hbase hfew hline hs hplain) fun _ _ _ => tE_meth tySt
theorem e_join (ho : PE X o (tE (X.kwp pq) X.mg W f)) (ha : PA X (e :: es) (tA (X.kwp pq) X.mg W fa)) {apos : Pos} (hbase : attributeBase o "join" X.env (eval o X.env) = eval o X.env := by rfl)
    (hfew : ((backTo pos (starEach (e :: es) X.env)).all (fun x => !x.1) && (backToKw pos (keywordEach [] X.env)).all (fun x => x.1.isSome) && decide ((e :: es).length + ([] : List Keyword).length + (if ([] : List Keyword).isEmpty then 0 else 1) < 30)) = true := by rfl)
    (hline : (apos.endLine == pos.line) = true := by rfl) (hs : starEach (e :: es) X.env = (false, eval e X.env) :: starEach es X.env := by rfl) (hplain : (backTo pos (starEach es X.env)).any (·.1) = false := by rfl) :
    PE X (.Call (.Attribute o "join" apos) (e :: es) [] pos) (tE (X.kwp pq) X.mg W (cMeth isSt mJoin f fa)) :=
  PE.weak (pe_bm PySem.F.plainAttrs_str PySem.F.slot_str_join PySem.F.type_str_join (d_join (pq := pq)) ho ha hbase hfew hline hs hplain) fun _ _ _ => tE_meth tySt
/-! *= of ints -/
instance (i j : Int) : Decidable (CMul i j) := by unfold CMul; infer_instance
def oIMul : O2 := fun x y S => match x, y with
  | .int i, .int j => if CMul i j then some (.int (i * j), S) else none
  | _, _ => none
theorem d_imul : OpR X (inplaceOp .Mult) (r2 (X.kwp pq) oIMul) := o2_int (C := CMul) (gd := fun i j => .int (i * j)) iop_mul (fun _ _ _ _ => .int _) fun x y S r h => two_ints (k := oIMul) (gd := fun i j => .int (i * j)) (C := CMul) h
end
/-! ### weakest preconditions -/
section
variable {x : XQ} {Q : D → Store → Prop} {tt : Tg Q} {S : Store} {a b : Str} {i j : Int} {ys : List Str}
theorem o_upper : WO Q tt (mUpper (.str a) [] S) = (a.length ≤ 5592405 ∧ Q (.str (Txt.upper a)) S) := by
  unfold mUpper
  by_cases c : a.length ≤ 5592405
  · simp only [c, if_true, true_and]; rfl
  · simp only [c, if_false, false_and]; rfl
theorem o_starts : WO Q tt (mStarts (.str a) [.str b] S) = Q (.bl (Txt.startswith a b)) S := (rfl)
theorem o_count : WO Q tt (mCount (.str a) [.str b] S) = Q (.int (Txt.count a b)) S := (rfl)
theorem o_split : WO Q tt (mSplit (.str a) [.str b] S) = (((b.length == 0) = false ∧ a.length + 2 ≤ sizeLine) ∧ Q (.loc S.length) (S ++ [.lst ((Txt.split a b).map D.str)])) := by
  show WO Q tt (if (b.length == 0) = false ∧ a.length + 2 ≤ sizeLine then some (D.loc S.length, S ++ [Cell.lst ((Txt.split a b).map D.str)]) else none) = _
  by_cases c : (b.length == 0) = false ∧ a.length + 2 ≤ sizeLine
  · rw [if_pos c]; simp only [c, true_and]; rfl
  · rw [if_neg c]
    exact propext ⟨fun z => z.elim, fun z => absurd z.1 c⟩
theorem o_imul : WO Q tt (oIMul (.int i) (.int j) S) = (CMul i j ∧ Q (.int (i * j)) S) := by
  unfold oIMul
  by_cases c : CMul i j
  · simp only [c, if_true, true_and]; rfl
  · simp only [c, if_false, false_and]; rfl
theorem o_mulS : WO Q tt (oMulY (.str a) (.int i) S) = ((0 ≤ i ∧ i ≤ 1000 ∧ a.length ≤ 1000) ∧ Q (.str (strRep a i.toNat)) S) := by
  show WO Q tt (if _ then _ else _) = _
  by_cases c : 0 ≤ i ∧ i ≤ 1000 ∧ a.length ≤ 1000
  · rw [if_pos c]; simp only [c, true_and, and_self]; rfl
  · rw [if_neg c]
    exact propext ⟨fun z => z.elim, fun z => absurd z.1 c⟩
theorem o_mulI : WO Q tt (oMulY (.int i) (.int j) S) = WO Q tt (oMul (.int i) (.int j) S) := (rfl)
theorem o_mulL {l : Nat} : WO Q tt (oMulY (.loc l) (.int j) S) = WO Q tt (oMul (.loc l) (.int j) S) := (rfl)
theorem o_mulTu {xs : List D} : WO Q tt (oMulY (.tup xs) (.int j) S) = WO Q tt (oMulX (.tup xs) (.int j) S) := (rfl)
end
end DL

/-! DLY2: what has to hold ahead, of texts. -/
namespace DL
open PySem PySem.Spec PyProof.Rows L2
section
variable {x : XQ} {QI : Gd → List D → Store → Prop} {Q : D → Store → Prop} {tt0 : Tg Q} {S : Store} {σ : Sg} {f : DE} {a b z : Str} {i j : Int}
def itX (S : Store) : D → Option (Gd × List D)
  | .str z => some (none, chars z)
  | d => itOf S d
theorem itX_str : itX S (.str z) = some (none, chars z) := (rfl)
theorem itX_tup {xs : List D} : itX S (.tup xs) = some (none, xs) := (rfl)
theorem WI_iterX {tt} : WI (x, QI) tt (cIterX f σ S) = W (x, fun a S1 => WM (fun p => QI p.1 p.2 S1) tg (itX S1 a)) tg (f σ S) := by
  unfold cIterX
  cases f σ S with
  | ok o S1 =>
    simp only [Res.bind_ok, W]
    cases o with
    | loc l =>
      simp only [itX, itOf]
      cases S1[l]? with
      | none => rfl
      | some c => cases c <;> rfl
    | _ => rfl
  | _ => rfl
def enX (S : Store) : D → Option (Gd × List D)
  | .str z => some (none, numbered 0 (chars z))
  | d => enD S d
theorem enX_str : enX S (.str z) = some (none, numbered 0 (chars z)) := (rfl)
theorem enX_tup {xs : List D} : enX S (.tup xs) = some (none, numbered 0 xs) := (rfl)
theorem WI_enumX {tt} : WI (x, QI) tt (cEnumX f σ S) = W (x, fun a S1 => WM (fun p => QI p.1 p.2 S1) tg (enX S1 a)) tg (f σ S) := by
  have h : cEnumX f σ S = (f σ S).bind enumX := rfl
  rw [h]
  cases f σ S with
  | ok o S1 =>
    simp only [Res.bind_ok, W]
    by_cases c : ∃ z, o = .str z
    · obtain ⟨z, rfl⟩ := c
      rfl
    · have e1 : enumX o S1 = enumA o S1 := by
        cases o with
        | str z => exact absurd ⟨z, rfl⟩ c
        | _ => rfl
      have e2 : enX S1 o = enD S1 o := by
        cases o with
        | str z => exact absurd ⟨z, rfl⟩ c
        | _ => rfl
      rw [e1, e2]
      exact WI_enum (x := x) (QI := QI) (σ := σ) (S := S1) (f := cK o) (tt := tg)
  | _ => rfl
theorem isSt_str : isSt (.str z) S = true := (rfl)
/-- a text within a text -/
def inS (a b : Str) : Bool := !(Builtin.Str.occurrences b a 0 b.length 1).isEmpty
theorem inS_one {c : Nat} : inS ⟨#[c]⟩ b = decide (c ∈ b.cps.toList) := StrLaws.found_one b c
theorem o_inS : WO Q tt0 (oIn (.str a) (.str b) S) = Q (.bl (inS a b)) S := (rfl)
theorem o_ninS : WO Q tt0 (oNotIn (.str a) (.str b) S) = Q (.bl (!inS a b)) S := (rfl)
theorem o_cutS {lo hi : Option Int} : WO Q tt0 (oCut (.str z) lo hi S) = (z.length ≤ sizeLine ∧ Q (.str (cutS z lo hi)) S) := by
  show WO Q tt0 (if _ then _ else _) = _
  by_cases c : z.length ≤ sizeLine
  · rw [if_pos c]; simp only [c, true_and]; rfl
  · rw [if_neg c]; simp only [c, false_and]; rfl
theorem cutS_cps {lo hi : Option Int} : (cutS z lo hi).cps.toList = (z.cps.toList.drop (HT.sIx z.length 0 lo)).take (HT.sIx z.length z.length hi - HT.sIx z.length 0 lo) := by
  unfold cutS
  simp
theorem cutS_len {lo hi : Option Int} : (cutS z lo hi).length ≤ z.length := by
  show (cutS z lo hi).cps.size ≤ z.cps.size
  rw [← Array.length_toList, cutS_cps, List.length_take, List.length_drop, Array.length_toList]
  omega
theorem str_ext {a b : Str} (h : a.cps.toList = b.cps.toList) : a = b := by
  cases a; cases b
  simp at h
  subst h
  rfl
end
end DL

/-! DLD: int(text); defs called within an except suite. -/
namespace DL
open PySem PySem.Spec PyProof.Rows L2
def oIntX : OA := fun xs S => match xs with
  | [.str a] => match PySem.intText? a with
    | some n => if a.length ≤ 640 then some (.int n, S) else none
    | none => none
  | xs => oInt xs S
section
variable {X : Cx} {pq : Option Pin}
theorem d_intX : CallR X (.type "int") (rA (X.kwp pq) oIntX) := by
  intro pins s σ H xs us Q I r hr
  obtain ⟨μ, S, ds, ok, rd, hp⟩ := hr
  unfold oIntX at hp
  split at hp
  · rename_i a
    cases q : PySem.intText? a with
    | none => rw [q] at hp; exact hp.elim
    | some n =>
      rw [q] at hp
      simp only at hp
      split at hp
      · rename_i hl
        obtain ⟨v, rfl, rx⟩ := rd.one
        cases rx
        exact call_int_str pins s σ H _ us Q I r ⟨a, n, rfl, q, hl, hp.same ok (.int _)⟩
      · exact hp.elim
  · exact d_int (pq := pq) pins s σ H xs us Q I r ⟨μ, S, ds, ok, rd, hp⟩
variable {Q : D → Store → Prop} {tt : Tg Q} {S : Store} {a : Str} {i : Int} {n : Int}
theorem o_intXi : WO Q tt (oIntX [.int i] S) = Q (.int i) S := (rfl)
theorem o_intXt : WO Q tt (oIntX [.bl true] S) = Q (.int 1) S := (rfl)
theorem o_intXf : WO Q tt (oIntX [.bl false] S) = Q (.int 0) S := (rfl)
theorem o_intXb {p : Prop} [Decidable p] : WO Q tt (oIntX [.bl (decide p)] S) = Q (.int (if p then 1 else 0)) S := by
  by_cases h : p
  · simp only [h, decide_true, if_true]; rfl
  · simp only [h, decide_false, if_false]; rfl
theorem intX_w (h : PySem.intText? a = some n) (hl : a.length ≤ 640) (hq : Q (.int n) S) : WO Q tt (oIntX [.str a] S) := by
  have e : oIntX [.str a] S = some (.int n, S) := by
    show (match PySem.intText? a with
    | some n => if a.length ≤ 640 then some (D.int n, S) else none
    | none => none) = _
    rw [h]
    simp only
    rw [if_pos hl]
  rw [e]
  exact hq
end
/-! ### defs called within an except suite -/
abbrev RoomH := L2H.RoomH
theorem _root_.L2H.RoomH.units {k : Nat} {A : Around} (r : L2H.RoomH k A) : A.units + 64 < cLine := by have := r.un; omega
structure FnDH (P : Program) (w : World) (K : PySem.W.Frag) (mg : Str → Option Value) (base : Heap) (lv : Nat) (x : Str) (n : Nat) (F : FD) : Prop where
  ex : ∃ f fd ps, mg x = some (.ref f) ∧ PySem.W.keepIn K (.ref f) = true ∧ Binds K fd ps [] ∧ ps.length = n ∧ L2H.FnH P w K mg base (L2N.CX P w) lv f fd ps (spD ⟨K, w, none⟩ mg n F)
theorem FnDH.zero {P : Program} {w : World} {K : PySem.W.Frag} {mg : Str → Option Value} {base : Heap} {x : Str} {n : Nat} {st : Stmt} {N ps : List Str} {k : Nat} (Fn : ∃ f fd, mg x = some (.ref f) ∧ Fun K x x st f fd) (S : FnScope N ps (defScope st)) (hps : ps.length = n)
    (hb : ∀ (kV doc pm : Value) (an : Option Addr) (cdv ct : Value) (us : List Value), us.length = ps.length → bindArgs (PySem.W.fnOf x x (defArgs st) (defBody st) (defScope st) .none kV doc pm an cdv ct) ⟨us, []⟩ = pure (ps.zip us)) : FnDH P w K mg base k x n (fun _ _ => .no) := by
  obtain ⟨f, fd, hm, F⟩ := Fn
  refine ⟨f, fd, ps, hm, F.kp, F.binds hb, hps, ⟨fun vs H Q E h => ?_, fun A outer s H args us vs Q E p hr hot hpin e0 hb r h => ?_⟩⟩
  · obtain ⟨μ, S0, ds, ok, rl, hl, hh⟩ := h
    exact hh.elim
  · obtain ⟨μ, S0, ds, ok, rl, hl, hh⟩ := h
    exact hh.elim
section
variable {X : Cx} {W : WX} {pos p : Pos} {e : Expr} {es : List Expr} {fa : DA} {F : FD} {x : Str} {k j n : Nat}
/-- a call, whatever is pinned -/
theorem tE_callP {K : KW} {mg : Str → Option Value} {E : L2.St → XK} (hE : ∀ cls dx σ H, W cls dx σ H → E σ cls dx H) (hn : ∀ σ S ds S', fa σ S = .ok ds S' → ds.length = n) {σ : L2.St} {H : Hp} {Q : VK}
    (hh : tE K mg W (cCall F fa) σ H Q) : tCallS (spD ⟨K.f, K.w, none⟩ mg n F) E (tA K mg W fa) σ H Q := by
  obtain ⟨μ, σD, S, ok0, en, hh⟩ := hh
  refine ⟨μ, σD, S, ok0, en, ?_⟩
  unfold cCall at hh
  cases q : fa σD S with
  | no => rw [q] at hh; exact hh.elim
  | ex e S1 => rw [q] at hh; exact hh
  | ok ds S1 =>
    rw [q] at hh
    simp only [Res.bind_ok] at hh
    intro μ1 H1 vs x1 ok1 rl
    refine ⟨μ1, S1, ds, ok1.rp, rl.rp, hn _ _ _ _ q, ?_⟩
    have h1 := Post.mono x1 hh
    cases q2 : F ds S1 with
    | ok d S2 =>
      rw [q2] at h1
      exact fun μ' H' b x2 ok2 r2 => h1 μ' H' b x2 ok2.rp r2.rp
    | ex e S2 =>
      rw [q2] at h1
      intro μ' H' cls dx x2 ok2 er
      obtain ⟨C, da, vs', hm, hc, hd, hda, hdm, hfr, hx⟩ := er
      exact hE _ _ _ _ (h1 μ' H' cls dx x2 ok2.rp ⟨C, da, vs', hm, hc, hd, hda, hdm, hfr.rp, hx⟩)
    | no => rw [q2] at h1; exact h1
theorem e_callH (T : FnDH X.prog X.w X.K X.mg X.base j x n F) (hr : RoomH k X.A) (hc : L2H.HotC X) (hj : j ≤ k) (tk : L2N.Takes X W) (ha : PA X (e :: es) (tA X.kw X.mg W fa)) (hn : ∀ σ S ds S', fa σ S = .ok ds S' → ds.length = n) (hg : Gl X x := by rfl) (hdb : (x == ("__debug__" : Str)) = false := by decide)
    (he : starEach (e :: es) X.env = (false, eval e X.env) :: starEach es X.env := by rfl) (hpl : (backTo pos (starEach es X.env)).any (·.1) = false := by rfl) : PE X (.Call (.Name x p) (e :: es) [] pos) (tE X.kw X.mg W (cCall F fa)) := by
  obtain ⟨f, fd, ps, hm, hk, hb, hl, ok⟩ := T.ex
  exact PE.weak (L2H.pe_callH (E := fun σ => WE W σ) ok (hr.mono hj) hc hg hm hk hb (fun σ => L2N.passAt tk σ) ha hdb he hpl) fun σ H Q hh => tE_callP (fun _ _ _ _ h => h) hn hh
/-- .. within the suite itself -/
theorem hot_of {i : Nat} {q : Pin} {oe : Obj} {pn : List (Addr × Obj)} (P : PinOk X q oe i) : L2H.HotC (X.suite q.a ((q.a, oe) :: pn)) := by
  obtain ⟨vs, hd⟩ := P.hf
  exact ⟨(q.a, oe), ⟨rfl, vs, hd, P.hn vs hd⟩, List.mem_cons_self⟩
theorem e_callT {i : Nat} {q : Pin} {oe : Obj} {pn : List (Addr × Obj)} (P : PinOk X q oe i) (T : FnDH X.prog X.w X.K X.mg X.base j x n F) (hr : Room k X.A) (hj : j ≤ k) (ha : PA (X.suite q.a ((q.a, oe) :: pn)) (e :: es) (tA (X.kwp (some q)) X.mg W0 fa)) (hn : ∀ σ S ds S', fa σ S = .ok ds S' → ds.length = n) (hg : Gl X x := by rfl) (hdb : (x == ("__debug__" : Str)) = false := by decide)
    (he : starEach (e :: es) X.env = (false, eval e X.env) :: starEach es X.env := by rfl) (hpl : (backTo pos (starEach es X.env)).any (·.1) = false := by rfl) : PE (X.suite q.a ((q.a, oe) :: pn)) (.Call (.Name x p) (e :: es) [] pos) (tE (X.kwp (some q)) X.mg W0 (cCall F fa)) := by
  obtain ⟨f, fd, ps, hm, hk, hb, hl, ok⟩ := T.ex
  exact PE.weak (L2H.pe_callH (X := X.suite q.a ((q.a, oe) :: pn)) (E := fun σ => WE W0 σ) ok ⟨((L2H.roomH_of hr).mono hj).dp, ((L2H.roomH_of hr).mono hj).un⟩ (hot_of P) hg hm hk hb (fun σ => L2N.passAt takes0' σ) ha hdb he hpl) fun σ H Q hh => tE_callP (fun _ _ _ _ h => h) hn hh
end
section
variable {P : Program} {w : World} {mg : Str → Option Value} {base : Heap}
/-- THE RULE for such a def -/
theorem d_defH {K : PySem.W.Frag} {x qual : Str} {st : Stmt} {N ps : List Str} {k n m : Nat} {body : DS} (Fn : ∃ f fd, mg x = some (.ref f) ∧ Fun K x qual st f fd) (S : FnScope N ps (defScope st)) (hN : N.length = m) (hps : ps.length = n)
    (hb : ∀ (kV doc pm : Value) (an : Option Addr) (cdv ct : Value) (us : List Value), us.length = ps.length → bindArgs (PySem.W.fnOf x qual (defArgs st) (defBody st) (defScope st) .none kV doc pm an cdv ct) ⟨us, []⟩ = pure (ps.zip us))
    (hbody : ∀ (f : Addr) (cdv : Value) (A : Around) (outer : List Env) (s : Shared) (H : Hp) (E : XK) (p : Addr × Obj), RoomH k (A.deeper (envOfC qual (defScope st) s.heap.objs.size f cdv)) → L2H.HotC (L2H.cxH (L2N.CX P w) P w K mg base N qual (defScope st) f cdv A outer s H E p) →
      L2N.Takes (L2H.cxH (L2N.CX P w) P w K mg base N qual (defScope st) f cdv A outer s H E p) (fun cls d _ H => E cls d H) → PassesOwn (model P w) (A.deeper (envOfC qual (defScope st) s.heap.objs.size f cdv)) (envOfC qual (defScope st) s.heap.objs.size f cdv) (L2H.cxH (L2N.CX P w) P w K mg base N qual (defScope st) f cdv A outer s H E p).xe →
      PSs (L2H.cxH (L2N.CX P w) P w K mg base N qual (defScope st) f cdv A outer s H E p) (defBody st) (tS ⟨K, w, none⟩ mg (fun cls d _ H => E cls d H) body)) : FnDH P w K mg base (k + 1) x n (cDef m body) := by
  obtain ⟨f, fd, hm, F⟩ := Fn
  have F' := F
  obtain ⟨oc, od, kV, doc, pm, an, cdv, ct, osl, rfl, lk, hcd⟩ := F.ex
  refine ⟨f, _, ps, hm, F'.kp, F'.binds hb, hps, L2H.fn_ofH lk hcd S (fun vs H Q E h => ?_) fun A outer s H vs Q E p hot hr h => ?_⟩
  · obtain ⟨μ, S0, ds, ok, rl, hl, _⟩ := h
    rw [← rl.length, hl, hps]
  · obtain ⟨μ, S0, ds, ok, rl, hl, hh⟩ := h
    refine ⟨_, hbody f cdv A outer s H E p hr ⟨p, hot, List.mem_cons_self⟩ (L2N.takes_of rfl rfl rfl rfl) (passes_of rfl), μ, _, S0, ok, envStart rfl rl N m hN, ?_⟩
    unfold cDef at hh
    cases q : body (ds.map some ++ List.replicate (m - ds.length) none) S0 with
    | nx σ S1 =>
      rw [q] at hh
      exact fun μ' H' σV' x1 ok1 en1 => hh μ' H' .non x1 ok1 .non
    | rt d S1 =>
      rw [q] at hh
      exact hh
    | ex e σ S1 =>
      rw [q] at hh
      exact fun μ' H' σV' cls dx x1 ok1 en1 => hh μ' H' cls dx x1 ok1
    | bk σ S1 => rw [q] at hh; exact hh.elim
    | ct σ S1 => rw [q] at hh; exact hh.elim
    | no => rw [q] at hh; exact hh.elim
end
/-! ### for over range, there -/
section
variable {X : Cx} {W : WX} {tg iter a : Expr} {f : DE} {body : List Stmt} {b : DS} {g : DG} {src : DI} {pos : Pos}
theorem PIH.weak {X : Cx} {tg e : Expr} {t t' : TI} (h : L2H.PIH X tg e t) (w : ∀ σ H Q, t' σ H Q → t σ H Q) : L2H.PIH X tg e t' := ⟨fun pins s σ H R I q => h.run pins s σ H R I (w σ H R q)⟩
theorem i_range1H {p : Pos} (hm : X.mg "range" = none) (ha : PE X a (tE X.kw X.mg W f)) (hg : Gl X "range" := by rfl) (hs : starEach [a] X.env = [(false, eval a X.env)] := by rfl) : L2H.PIH X tg (.Call (.Name "range" p) [a] [] pos) (tI X.kw X.mg W (cRange1 f)) :=
  PIH.weak (L2H.pi_range1H hg hm (pa_cons ha pa_nil hs) hs) fun σ H Q hh => by
  unfold cRange1 at hh
  exact tG1 (RA := R X.kw) hh fun x S μ H v ok rx hh => by
    cases rx with
    | int j =>
      simp only at hh
      split at hh
      · rename_i hb
        exact ⟨j, rfl, hb.1, hb.2, hh μ H _ (Ext.refl _ _) ok wlk_range⟩
      · exact hh.elim
    | _ => exact hh.elim
theorem tS_for {K : KW} {mg : Str → Option Value} {Dn : Ends} {σ : L2.St} {H : Hp} (hh : tS K mg W (sFor src g b) Dn σ H) : tFor (tI K mg W src) (tGt K mg W g) (tS K mg W b) Dn σ H := by
  obtain ⟨μ, σD, S, ok, en, hh⟩ := hh
  refine ⟨μ, σD, S, ok, en, ?_⟩
  simp only [sFor] at hh
  cases q : src σD S with
  | no => rw [q] at hh; exact hh.elim
  | ex e S1 =>
    rw [q] at hh
    exact fun μ' H' cls dx x ok' => hh μ' H' σ cls dx x ok' (en.mono x)
  | ok p S1 =>
    rw [q] at hh
    obtain ⟨gd, ds⟩ := p
    simp only [SR.ofI] at hh
    intro μ1 H1 J x1 ok1 wk
    refine ⟨fun i m σ2 H2 => m = ds.length - i ∧ i ≤ ds.length ∧ ∃ μ2 σD2 S2, Ext μ1 H1 μ2 H2 ∧ Ok K μ2 H2 S2 ∧ EnvR K μ2 H2 σD2 σ2 ∧ SPost K mg W μ2 H2 (forL gd g b (ds.drop i) σD2 S2) Dn,
      ⟨ds.length, rfl, Nat.zero_le _, μ1, σD, S1, Ext.refl _ _, ok1, en.mono x1, SPost.mono x1 hh⟩, ?_⟩
    rintro i m σ2 H2 ⟨rfl, hi, μ2, σD2, S2, x2, ok2, en2, h2⟩
    by_cases hlt : i < ds.length
    · rw [List.drop_eq_getElem_cons hlt, forL] at h2
      by_cases hgd : gd.ok S2
      · rw [if_pos hgd] at h2
        obtain ⟨go, yl⟩ := wk.go i μ2 H2 S2 ds[i] x2.sub ok2 hgd (List.getElem?_eq_getElem hlt)
        refine .inr ⟨go, fun σ3 H3 => ∃ μ3 σD3 S3, Ext μ1 H1 μ3 H3 ∧ Ok K μ3 H3 S3 ∧ EnvR K μ3 H3 σD3 σ3 ∧ SPost K mg W μ3 H3 (forL gd g b (ds.drop (i + 1)) σD3 S3) Dn,
          fun σ3 H3 h3 => ⟨ds.length - (i + 1), by omega, rfl, hlt, h3⟩, fun x H' hy => ?_⟩
        obtain ⟨xe, oke, re⟩ := yl x H' hy
        refine ⟨μ2, σD2, S2, ds[i], oke, en2.mono xe, re, ?_⟩
        cases q2 : g ds[i] σD2 S2 with
        | nx σD3 S3 =>
          rw [q2] at h2
          simp only at h2
          intro μ3 H3 σ3 x3 ok3 en3
          refine ⟨μ3, σD3, S3, ok3, en3, ?_⟩
          have x23 : Ext μ2 H2 μ3 H3 := xe.trans x3
          have h3 := SPost.mono x23 h2
          cases q3 : b σD3 S3 with
          | nx σ4 S4 =>
            rw [q3] at h3
            exact fun μ4 H4 σ5 x4 ok4 en4 => ⟨μ4, σ4, S4, x2.trans (x23.trans x4), ok4, en4, SPost.mono x4 h3⟩
          | ct σ4 S4 =>
            rw [q3] at h3
            exact fun μ4 H4 σ5 x4 ok4 en4 => ⟨μ4, σ4, S4, x2.trans (x23.trans x4), ok4, en4, SPost.mono x4 h3⟩
          | bk σ4 S4 =>
            rw [q3] at h3
            exact h3
          | rt d S4 =>
            rw [q3] at h3
            exact h3
          | ex e σ4 S4 =>
            rw [q3] at h3
            exact h3
          | no => rw [q3] at h3; exact h3.elim
        | ex e σD3 S3 =>
          rw [q2] at h2
          exact fun μ3 H3 σ3 c d x3 => h2 μ3 H3 σ3 c d (xe.trans x3)
        | _ => rw [q2] at h2; exact h2.elim
      · rw [if_neg hgd] at h2
        exact h2.elim
    · have e : i = ds.length := by omega
      subst e
      rw [List.drop_length, forL] at h2
      by_cases hgd : gd.ok S2
      · rw [if_pos hgd] at h2
        exact .inl ⟨wk.stop _ μ2 H2 S2 x2.sub ok2 hgd (Nat.le_refl _), h2 μ2 H2 σ2 (Ext.refl _ _) ok2 en2⟩
      · rw [if_neg hgd] at h2
        exact h2.elim
theorem s_forH (hp : PassesOwn (model X.prog X.w) X.A X.env X.xe) (hc : L2H.HotC X) (hi : L2H.PIH X tg iter (tI X.kw X.mg W src)) (hg : PG X tg (tGt X.kw X.mg W g)) (hb : PSs X body (tS X.kw X.mg W b))
    (hs : ∀ x, foldedSetIterable iter X.env x = pure x := by intro _; rfl) : PS X (.For tg iter body [] pos) (tS X.kw X.mg W (sFor src g b)) :=
  PS.weak (L2H.ps_forH hp hc hi hg hb hs) fun Dn σ H hh => tS_for hh
end
/-! ### a, b, c = x, y, z -/
section
variable {X : Cx} {pq : Option Pin} {i j l : Nat} {x y z : Str} {a b c : Expr} {fa : DA} {px py pz pt pos : Pos} {kt k2 pt2}
theorem s_par3 {W : WX} (hN : X.N.Nodup) (hij : i ≠ j) (hil : i ≠ l) (hjl : j ≠ l) (ha : PA X [a, b, c] (tA (X.kwp pq) X.mg W fa)) (hc : X.calm = true := by rfl) (hi : X.N[i]? = some x := by rfl) (hj : X.N[j]? = some y := by rfl) (hl : X.N[l]? = some z := by rfl)
    (hx : X.env.scope.names.lookup x = some .local := by rfl) (hy : X.env.scope.names.lookup y = some .local := by rfl) (hz : X.env.scope.names.lookup z = some .local := by rfl)
    (hw : swappedStores [.Tuple [.Name x px, .Name y py, .Name z pz] kt pt] (.Tuple [a, b, c] k2 pt2) X.env = pure (some [x, y, z]) := by rfl)
    (hs : swapsWithSole [.Tuple [.Name x px, .Name y py, .Name z pz] kt pt] (.Tuple [a, b, c] k2 pt2) pos.line X.env = pure false := by rfl) :
    PS X (.Assign [.Tuple [.Name x px, .Name y py, .Name z pz] kt pt] (.Tuple [a, b, c] k2 pt2) pos) (tS (X.kwp pq) X.mg W (sPar3 i j l fa)) :=
  PS.weak (ps_par3 hc hN hi hj hl hij hil hjl hx hy hz ha hw hs) fun D σ H hh => by
  obtain ⟨μ, σD, S, ok, en, hh⟩ := hh
  unfold sPar3 at hh
  refine ⟨μ, σD, S, ok, en, ?_⟩
  cases q : fa σD S with
  | no => rw [q] at hh; exact hh.elim
  | ex e S1 =>
    rw [q] at hh
    exact fun μ' H' cls dx x1 ok' => hh μ' H' σ cls dx x1 ok' (en.mono x1)
  | ok ds S1 =>
    rw [q] at hh
    match ds, hh with
    | [d1, d2, d3], hh =>
      intro μ1 H1 vs x1 ok1 rl
      cases rl with
      | cons r1 rl =>
        cases rl with
        | cons r2 rl =>
          cases rl with
          | cons r3 rl =>
            cases rl
            exact ⟨_, _, _, rfl, hh μ1 H1 _ x1 ok1 ((((en.mono x1).set i r1).set j r2).set l r3)⟩
    | [], hh => exact hh.elim
    | [_], hh => exact hh.elim
    | [_, _], hh => exact hh.elim
    | _ :: _ :: _ :: _ :: _, hh => exact hh.elim
def par3 (q : SQ) (σ : Sg) (i j l : Nat) (ds : List D) (S : Store) : Prop := match ds with
  | [x, y, z] => q.nx (((σ.set i (some x)).set j (some y)).set l (some z)) S
  | _ => False
theorem par3_e {q : SQ} {σ : Sg} {S : Store} {d1 d2 d3 : D} : par3 q σ i j l [d1, d2, d3] S = q.nx (((σ.set i (some d1)).set j (some d2)).set l (some d3)) S := (rfl)
theorem WS_par3 {q : SQ} {σ : Sg} {S : Store} {tt} : WS q tt (sPar3 i j l fa σ S) = W (fun e S => q.ex e σ S, fun ds S1 => par3 q σ i j l ds S1) tg (fa σ S) := by
  unfold sPar3
  cases fa σ S with
  | no => rfl
  | ex e S1 => rfl
  | ok ds S1 =>
    match ds with
    | [_, _, _] => rfl
    | [] => rfl
    | [_] => rfl
    | [_, _] => rfl
    | _ :: _ :: _ :: _ :: _ => rfl
end
end DL

/-! DLC: dicts of the module, written once: int keys, texts; read as NAME[e]. -/
namespace DL
open PySem PySem.Spec PyProof.Rows L2
inductive TabIs : List DictEntry → List (Int × Str) → Prop where
  | nil : TabIs [] []
  | cons {i : Int} {t u : Tok} {z : Str} {r : List DictEntry} {tab : List (Int × Str)} : TabIs r tab → TabIs ({ hash := hashInt i, key := .int i t, val := .str z u } :: r) ((i, z) :: tab)
theorem TabIs.one {i h : Int} {t u : Tok} {z : Str} {r : List DictEntry} {tab : List (Int × Str)} (e : h = hashInt i) (x : TabIs r tab) : TabIs ({ hash := h, key := .int i t, val := .str z u } :: r) ((i, z) :: tab) := by
  subst e
  exact .cons x
theorem TabIs.keys : ∀ {l : List DictEntry} {tab : List (Int × Str)}, TabIs l tab → ∀ e ∈ l, ∃ i t, e.key = .int i t ∧ e.hash = hashInt i
  | _, _, .cons _, _, .head _ => ⟨_, _, rfl, rfl⟩
  | _, _, .cons r, _, .tail _ m => r.keys _ m
theorem TabIs.find : ∀ {l : List DictEntry} {tab : List (Int × Str)} {i : Int} {z : Str}, TabIs l tab → tab.lookup i = some z → ∃ u, (l.find? fun e => Value.isInt i e.key).map (·.val) = some (.str z u)
  | _, _, i, z, .nil, h => by cases h
  | _, _, i, z, .cons (i := j) (t := t) (u := u) (z := y) r, h => by
    rw [List.lookup_cons] at h
    by_cases e : i = j
    · subst e
      simp only [beq_self_eq_true] at h
      cases h
      exact ⟨u, by simp [List.find?_cons, Value.isInt]⟩
    · have e1 : (i == j) = false := by simpa using e
      rw [e1] at h
      obtain ⟨u', q⟩ := r.find h
      refine ⟨u', ?_⟩
      rw [List.find?_cons]
      have : Value.isInt i (Value.int j t) = false := by simp [Value.isInt]; exact fun q => e q.symm
      simp only [this]
      exact q
/-- what the top says of such a dict -/
def KTab (K : PySem.W.Frag) (mg : Str → Option Value) (g : Str) (tab : List (Int × Str)) : Prop := ∃ (a : Addr) (es : Array DictEntry) (n : Nat), mg g = some (.ref a) ∧ K.lookup a = some ⟨.type "dict", none, .dict es n, #[]⟩ ∧ TabIs es.toList tab
def oTab (tab : List (Int × Str)) : O1 := fun x S => match x with
  | .int i => match tab.lookup i with
    | some z => some (.str z, S)
    | none => none
  | _ => none
section
variable {X : Cx} {pq : Option Pin}
theorem d_tab {a : Addr} {es : Array DictEntry} {n : Nat} {tab : List (Int × Str)} (hl : X.K.lookup a = some ⟨.type "dict", none, .dict es n, #[]⟩) (ht : TabIs es.toList tab) : IxR X (fun x y H Q => x = .ref a ∧ r1 (X.kwp pq) (oTab tab) y H Q) := by
  intro value slice pins s σ H x y v u Q I rx ry ⟨ex, μ, S, d, ok, rd, hp⟩ hsub
  subst ex
  obtain rfl : v = Value.ref a := rx
  unfold oTab at hp
  cases d with
  | int i =>
    simp only at hp
    cases q : tab.lookup i with
    | none => rw [q] at hp; exact hp.elim
    | some z =>
      rw [q] at hp
      have hm : s.heap.MapOf (intKind X.prog X.w) a (fun k => findBy Value.isInt es k) := ⟨_, es, n, I.kIn _ _ hl, ⟨rfl, rfl, rfl⟩, rfl, fun e he => by
        obtain ⟨i, t, e1, e2⟩ := ht.keys e (Array.mem_toList_iff.mpr he)
        exact ⟨i, by rw [e1]; exact intKind_is X.prog X.w i t, e2⟩, fun _ => rfl⟩
      obtain ⟨w', hw⟩ := ht.find q
      have hf : findBy Value.isInt es i = some (.str z w') := by
        obtain ⟨l⟩ := es
        unfold findBy
        rw [List.find?_toArray]
        exact hw
      cases rd
      obtain ⟨t, rfl⟩ := ry
      refine subscriptTail_builtinR hm.typeIs slot_dict_getitem.lookup (x := .str z w') (wpAny_getItem_of (intKind_is X.prog X.w i t) hm hf ⟨rfl, ⟨.str z, H, I.tok _, ⟨_, rfl⟩, hp.same ok (.str _)⟩⟩) hsub
  | _ => exact hp.elim
theorem e_tab {W : WX} {g : Str} {tab : List (Int × Str)} {p1 pos : Pos} {e : Expr} {f : DE} (hk : KTab X.K X.mg g tab) (he : PE X e (tE (X.kwp pq) X.mg W f)) (hg : Gl X g := by rfl) (hs : PlainIx e := by exact fun _ _ => rfl) (hd : (g == ("__debug__" : Str)) = false := by decide) : PE X (.Subscript (.Name g p1) e pos) (tE (X.kwp pq) X.mg W (cUn (oTab tab) f)) := by
  obtain ⟨a, es, n, hm, hl, ht⟩ := hk
  refine PE.weak (pe_ix (d_tab (pq := pq) hl ht) (pe_glob (v := .ref a) hg hm rfl hd) he hs) fun σ H Q h => ?_
  have := tE_un h
  show tE (X.kwp pq) X.mg W f σ H fun y H2 => (V.ref a = V.ref a ∧ r1 (X.kwp pq) (oTab tab) y H2 Q)
  have e : (fun (y : V) (H2 : Hp) => (V.ref a = V.ref a ∧ r1 (X.kwp pq) (oTab tab) y H2 Q)) = fun y H2 => r1 (X.kwp pq) (oTab tab) y H2 Q := by
    funext y H2
    simp
  rw [e]
  exact this
theorem top_tab {K : PySem.W.Frag} {h : Heap} {mg : Str → Option Value} (X : K.In h) (G : h.Ns mainGlobals mg) {g : Str} {a : Addr} {es : Array DictEntry} {n : Nat} {tab : List (Int × Str)} (ha : PySem.W.nsIn K mainGlobals g = some (some (.ref a))) (hl : K.lookup a = some ⟨.type "dict", none, .dict es n, #[]⟩) (ht : TabIs es.toList tab) : KTab K mg g tab :=
  ⟨a, es, n, PySem.W.mg_of X G ha, hl, ht⟩
end
section
variable {S : Store}
theorem o_tab {tab : List (Int × Str)} {i : Int} {z : Str} {Q : D → Store → Prop} {tt : Tg Q} (h : tab.lookup i = some z) : WO Q tt (oTab tab (.int i) S) = Q (.str z) S := by
  have e : oTab tab (.int i) S = some (.str z, S) := by
    show (match tab.lookup i with
      | some z => some (D.str z, S)
      | none => none) = _
    rw [h]
  rw [e]
  rfl
end
end DL

namespace LW
open PySem PySem.Spec PyProof.Rows L2 DL
def tab_BadSaying : List (Str × Bool) := [("BadSaying", true), ("BadText", false)]
theorem tb_BadSaying_BadSaying : List.lookup ("BadSaying" : Str) tab_BadSaying = some true := by rfl
theorem tb_BadSaying_BadText : List.lookup ("BadText" : Str) tab_BadSaying = some false := by rfl
def tab_BadText : List (Str × Bool) := [("BadSaying", false), ("BadText", true)]
theorem tb_BadText_BadSaying : List.lookup ("BadSaying" : Str) tab_BadText = some false := by rfl
theorem tb_BadText_BadText : List.lookup ("BadText" : Str) tab_BadText = some true := by rfl
def tab_DataError : List (Str × Bool) := [("BadSaying", true), ("BadText", false)]
theorem tb_DataError_BadSaying : List.lookup ("BadSaying" : Str) tab_DataError = some true := by rfl
theorem tb_DataError_BadText : List.lookup ("BadText" : Str) tab_DataError = some false := by rfl
def tab_SheetError : List (Str × Bool) := [("BadSaying", true), ("BadText", true)]
theorem tb_SheetError_BadSaying : List.lookup ("BadSaying" : Str) tab_SheetError = some true := by rfl
theorem tb_SheetError_BadText : List.lookup ("BadText" : Str) tab_SheetError = some true := by rfl
def tab_TextError : List (Str × Bool) := [("BadSaying", false), ("BadText", true)]
theorem tb_TextError_BadSaying : List.lookup ("BadSaying" : Str) tab_TextError = some false := by rfl
theorem tb_TextError_BadText : List.lookup ("BadText" : Str) tab_TextError = some true := by rfl
noncomputable def b_is_integer : DS := (sRet (cAndV (cIsi "int" (cVar 0)) (cNotV (cIsi "bool" (cVar 0)))))
@[irreducible] noncomputable def m_is_integer : FD := cDef 1 b_is_integer
theorem wm_is_integer {x : XQ} {Q : D → Store → Prop} {tt : Tg (x, Q)} {S : Store} {a0 : D} : W (x, Q) tt (m_is_integer [a0] S) = WS (qd (x, Q)) tg (b_is_integer [some a0] S) := by unfold m_is_integer; exact W_def
noncomputable def b_tuple_of : DS := (sRet (cAndV (cIsi "tuple" (cVar 0)) (cBin oEq (cArg oLen (aCons (cVar 0) aNil)) (cVar 1))))
@[irreducible] noncomputable def m_tuple_of : FD := cDef 2 b_tuple_of
theorem wm_tuple_of {x : XQ} {Q : D → Store → Prop} {tt : Tg (x, Q)} {S : Store} {a0 a1 : D} : W (x, Q) tt (m_tuple_of [a0, a1] S) = WS (qd (x, Q)) tg (b_tuple_of [some a0, some a1] S) := by unfold m_tuple_of; exact W_def
noncomputable def b_written_integer : DS := (sSeq (sSet 1 (cIf (cTru (cMeth isSt mStarts (cVar 0) (aCons (cK (.str "-")) aNil))) (cCut (cVar 0) (cPart (cK (.int (1)))) cNoPart) (cVar 0)))
    (sSeq (sIf (cOr (cTest (cBin oEq (cVar 1) (cK (.str "")))) (cTest (cBin oGtX (cArg oLen (aCons (cVar 0) aNil)) (cK (.int (14)))))) (sRet (cK .non)) sNil)
    (sSeq (sFor (cIterX (cVar 1)) (gSet 2) (sIf (cTest (cBin oNotIn (cVar 2) (cK (.str "0123456789")))) (sRet (cK .non)) sNil))
    (sSeq (sIf (cAnd (cTest (cBin oEq (cBin oIx (cVar 1) (cK (.int (0)))) (cK (.str "0")))) (cTest (cBin oNe (cVar 0) (cK (.str "0"))))) (sRet (cK .non)) sNil)
    (sRet (cArg oIntX (aCons (cVar 0) aNil)))))))
@[irreducible] noncomputable def m_written_integer : FD := cDef 3 b_written_integer
theorem wm_written_integer {x : XQ} {Q : D → Store → Prop} {tt : Tg (x, Q)} {S : Store} {a0 : D} : W (x, Q) tt (m_written_integer [a0] S) = WS (qd (x, Q)) tg (b_written_integer [some a0, none, none] S) := by unfold m_written_integer; exact W_def
noncomputable def b_fits_field : DS := (sSeq (sAsg (cVar 1) (gUn 3 (gC (gSet 2) (gC (gSet 3) (gC (gSet 4) gN)))))
    (sSeq (sAsg (cBin oIx (cVar 0) (cVar 2)) (gUn 3 (gC (gSet 5) (gC (gSet 6) (gC (gSet 7) gN)))))
    (sSeq (sIf (cTest (cBin oEq (cVar 3) (cK (.int (1))))) (sRet (cCh oLt oLe (cVar 6) (cVar 4) (cVar 7))) sNil)
    (sRet (cCh oLe oLt (cVar 6) (cVar 4) (cVar 7))))))
@[irreducible] noncomputable def m_fits_field : FD := cDef 8 b_fits_field
theorem wm_fits_field {x : XQ} {Q : D → Store → Prop} {tt : Tg (x, Q)} {S : Store} {a0 a1 : D} : W (x, Q) tt (m_fits_field [a0, a1] S) = WS (qd (x, Q)) tg (b_fits_field [some a0, some a1, none, none, none, none, none, none] S) := by unfold m_fits_field; exact W_def
noncomputable def b_saying_text : DS := (sRet (cBin oAdd (cBin oAdd (cBin oIx (cBin oIx (cVar 0) (cBin oIx (cVar 1) (cK (.int (0))))) (cK (.int (0)))) (cUn (oTab [(1, ">="), (-1, "<=")]) (cBin oIx (cVar 1) (cK (.int (1)))))) (cArg oStr (aCons (cBin oIx (cVar 1) (cK (.int (2)))) aNil))))
@[irreducible] noncomputable def m_saying_text : FD := cDef 2 b_saying_text
theorem wm_saying_text {x : XQ} {Q : D → Store → Prop} {tt : Tg (x, Q)} {S : Store} {a0 a1 : D} : W (x, Q) tt (m_saying_text [a0, a1] S) = WS (qd (x, Q)) tg (b_saying_text [some a0, some a1] S) := by unfold m_saying_text; exact W_def
noncomputable def b_way_in : DS := (sSeq (sSet 1 (cMeth isSt mCount (cVar 0) (aCons (cUn (oTab [(1, ">="), (-1, "<=")]) (cK (.int (1)))) aNil)))
    (sSeq (sSet 2 (cMeth isSt mCount (cVar 0) (aCons (cUn (oTab [(1, ">="), (-1, "<=")]) (cUn oNeg (cK (.int (1))))) aNil)))
    (sSeq (sIf (cTest (cBin oNe (cBin oAdd (cVar 1) (cVar 2)) (cK (.int (1))))) (sRet (cK .non)) sNil)
    (sRet (cIf (cTest (cBin oEq (cVar 1) (cK (.int (1))))) (cK (.int (1))) (cUn oNeg (cK (.int (1)))))))))
@[irreducible] noncomputable def m_way_in : FD := cDef 3 b_way_in
theorem wm_way_in {x : XQ} {Q : D → Store → Prop} {tt : Tg (x, Q)} {S : Store} {a0 : D} : W (x, Q) tt (m_way_in [a0] S) = WS (qd (x, Q)) tg (b_way_in [some a0, none, none] S) := by unfold m_way_in; exact W_def
noncomputable def b__law_well : DS := (sSeq (sSet 1 (cK (.int (0))))
    (sSeq (sSet 2 (cArg oLst (aCons (cK (.int (9109))) aNil)))
    (sSeq (sFor (cRange1 (cArg oMinX (aCons (cArg oLen (aCons (cVar 0) aNil)) (aCons (cK (.int (61))) aNil)))) (gSet 3) (sSeq (sSet 4 (cBin oMod (cArg oIntX (aCons (cBin oIx (cVar 0) (cVar 3)) aNil)) (cBin oPow (cK (.int (10))) (cK (.int (62))))))
    (sSeq (sIf (cTest (cBin oGe (cVar 4) (cBin oPow (cK (.int (10))) (cK (.int (16)))))) (sSeq (sSet 1 (cBin oAdd (cBin oMulY (cVar 1) (cBin oPow (cK (.int (10))) (cK (.int (62))))) (cVar 4)))
    (sSet 1 (cBin oMod (cArg oIntX (aCons (cVar 1) aNil)) (cBin oMulY (cBin oMulY (cBin oPow (cK (.int (10))) (cK (.int (62)))) (cBin oPow (cK (.int (10))) (cK (.int (62))))) (cBin oPow (cK (.int (10))) (cK (.int (62)))))))) sNil)
    (sExpr (cMeth isL mAppend (cVar 2) (aCons (cBin oMod (cArg oIntX (aCons (cBin oAdd (cBin oAdd (cBin oAdd (cBin oMulY (cBin oIx (cVar 2) (cUn oNeg (cK (.int (1))))) (cK (.int (2887)))) (cBin oMod (cVar 4) (cK (.int (998989))))) (cBin oDiv (cVar 4) (cK (.int (998989))))) (cVar 3)) aNil)) (cK (.int (1000000009)))) aNil))))))
    (sRet (cArg oLst (aCons (cVar 1) (aCons (cVar 2) (aCons (cK (.int (0))) (aCons (cK (.int (9109))) aNil)))))))))
@[irreducible] noncomputable def m__law_well : FD := cDef 5 b__law_well
theorem wm__law_well {x : XQ} {Q : D → Store → Prop} {tt : Tg (x, Q)} {S : Store} {a0 : D} : W (x, Q) tt (m__law_well [a0] S) = WS (qd (x, Q)) tg (b__law_well [some a0, none, none, none, none] S) := by unfold m__law_well; exact W_def
noncomputable def b__law_dip : DS := (sSeq (sIf (cTest (cBin oLt (cVar 1) (cK (.int (2))))) (sRet (cK (.int (0)))) sNil)
    (sSeq (sIf (cTest (cBin oGtX (cBin oIx (cVar 0) (cK (.int (0)))) (cK (.int (0))))) (sSeq (sSet 4 (cBin oMod (cArg oIntX (aCons (cBin oIx (cVar 0) (cK (.int (0)))) aNil)) (cVar 1)))
    (sSeq (sAsg (cBin oDiv (cBin oIx (cVar 0) (cK (.int (0)))) (cVar 1)) (gSubD (cVar 0) (cK (.int (0)))))
    (sRet (cVar 4)))) sNil)
    (sSeq (sSet 2 (cBin oIx (cVar 0) (cK (.int (1)))))
    (sSeq (sAsg (cBin oAdd (cBin oIx (cVar 0) (cK (.int (2)))) (cK (.int (1)))) (gSubD (cVar 0) (cK (.int (2)))))
    (sSeq (sSet 3 (cBin oIx (cVar 2) (cBin oMod (cArg oIntX (aCons (cBin oMulY (cBin oIx (cVar 0) (cK (.int (2)))) (cK (.int (31)))) aNil)) (cArg oLen (aCons (cVar 2) aNil)))))
    (sSeq (sAsg (cBin oMod (cArg oIntX (aCons (cBin oAdd (cBin oAdd (cBin oMulY (cBin oIx (cVar 0) (cK (.int (3)))) (cK (.int (59281)))) (cVar 3)) (cBin oIx (cVar 0) (cK (.int (2))))) aNil)) (cK (.int (1000000007)))) (gSubD (cVar 0) (cK (.int (3)))))
    (sRet (cBin oMod (cArg oIntX (aCons (cBin oAdd (cBin oDiv (cBin oIx (cVar 0) (cK (.int (3)))) (cK (.int (7)))) (cVar 3)) aNil)) (cVar 1)))))))))
@[irreducible] noncomputable def m__law_dip : FD := cDef 5 b__law_dip
theorem wm__law_dip {x : XQ} {Q : D → Store → Prop} {tt : Tg (x, Q)} {S : Store} {a0 a1 : D} : W (x, Q) tt (m__law_dip [a0, a1] S) = WS (qd (x, Q)) tg (b__law_dip [some a0, some a1, none, none, none] S) := by unfold m__law_dip; exact W_def
noncomputable def b__law_is_integer : DS := (sRet (cAndV (cIsi "int" (cVar 0)) (cNotV (cIsi "bool" (cVar 0)))))
@[irreducible] noncomputable def m__law_is_integer : FD := cDef 1 b__law_is_integer
theorem wm__law_is_integer {x : XQ} {Q : D → Store → Prop} {tt : Tg (x, Q)} {S : Store} {a0 : D} : W (x, Q) tt (m__law_is_integer [a0] S) = WS (qd (x, Q)) tg (b__law_is_integer [some a0] S) := by unfold m__law_is_integer; exact W_def
noncomputable def b__law_answers : DS := (sSeq (sIf (cTest (cBin oEq (cVar 1) (cK (.int (1))))) (sRet (cAlloc (lRg (rRange2 (cBin oAdd (cBin oIx (cVar 0) (cK (.int (1)))) (cK (.int (1)))) (cBin oAdd (cBin oIx (cVar 0) (cK (.int (2)))) (cK (.int (1)))))))) sNil)
    (sRet (cAlloc (lRg (rRange2 (cBin oIx (cVar 0) (cK (.int (1)))) (cBin oIx (cVar 0) (cK (.int (2)))))))))
@[irreducible] noncomputable def m__law_answers : FD := cDef 2 b__law_answers
theorem wm__law_answers {x : XQ} {Q : D → Store → Prop} {tt : Tg (x, Q)} {S : Store} {a0 a1 : D} : W (x, Q) tt (m__law_answers [a0, a1] S) = WS (qd (x, Q)) tg (b__law_answers [some a0, some a1] S) := by unfold m__law_answers; exact W_def
noncomputable def b__law_written : DS := (sSeq (sSet 1 (cVar 0))
    (sSeq (sIf (cTest (cBin oEq (cCut (cVar 0) cNoPart (cPart (cK (.int (1))))) (cK (.str "-")))) (sSet 1 (cCut (cVar 0) (cPart (cK (.int (1)))) cNoPart)) sNil)
    (sSeq (sIf (cOr (cTest (cBin oGtX (cArg oLen (aCons (cVar 0) aNil)) (cK (.int (14))))) (cTest (cBin oEq (cArg oLen (aCons (cVar 1) aNil)) (cK (.int (0)))))) (sRet (cK .non)) sNil)
    (sSeq (sFor (cIterX (cVar 1)) (gSet 2) (sIf (cTest (cBin oNotIn (cVar 2) (cK (.str "0123456789")))) (sRet (cK .non)) sNil))
    (sSeq (sIf (cAnd (cTest (cBin oEq (cBin oIx (cVar 1) (cK (.int (0)))) (cK (.str "0")))) (cOr (cTest (cBin oGtX (cArg oLen (aCons (cVar 1) aNil)) (cK (.int (1))))) (cTest (cBin oGtX (cArg oLen (aCons (cVar 0) aNil)) (cK (.int (1))))))) (sRet (cK .non)) sNil)
    (sRet (cArg oIntX (aCons (cVar 0) aNil))))))))
@[irreducible] noncomputable def m__law_written : FD := cDef 3 b__law_written
theorem wm__law_written {x : XQ} {Q : D → Store → Prop} {tt : Tg (x, Q)} {S : Store} {a0 : D} : W (x, Q) tt (m__law_written [a0] S) = WS (qd (x, Q)) tg (b__law_written [some a0, none, none] S) := by unfold m__law_written; exact W_def
noncomputable def b__law_found : DS := (sRet (cAlloc (lComp (cRange1 (cArg oLen (aCons (cVar 0) aNil))) (.nm 2) (cTest (cBin oEq (cCut (cVar 0) (cPart (cVar 2)) (cPart (cBin oAdd (cVar 2) (cK (.int (2)))))) (cVar 1))) (cVar 2) [2])))
@[irreducible] noncomputable def m__law_found : FD := cDef 3 b__law_found
theorem wm__law_found {x : XQ} {Q : D → Store → Prop} {tt : Tg (x, Q)} {S : Store} {a0 a1 : D} : W (x, Q) tt (m__law_found [a0, a1] S) = WS (qd (x, Q)) tg (b__law_found [some a0, some a1, none] S) := by unfold m__law_found; exact W_def
noncomputable def b__law_things : DS := (sSeq (sAsg (cVar 2) (gUn 3 (gC (gSet 6) (gC (gSet 7) (gC (gSet 8) gN)))))
    (sSeq (sSet 3 (cBin oIx (cVar 1) (cVar 6)))
    (sSeq (sSet 4 (cArg oLen (aCons (cVar 1) aNil)))
    (sSeq (sSet 5 (cArg oLst (aCons (cVar 2) (aCons (cArg oListX (aCons (cVar 2) aNil)) (aCons (cArg oTup (aCons (cVar 6) (aCons (cVar 7) aNil))) (aCons (cBin oAdd (cVar 2) (cArg oTup (aCons (cK (.int (0))) aNil))) (aCons (cArg oTup (aCons (cVar 6) (aCons (cVar 7) (aCons (cK (.bl true)) aNil)))) (aCons (cArg oTup (aCons (cVar 6) (aCons (cK (.bl true)) (aCons (cVar 8) aNil)))) (aCons (cArg oTup (aCons (cBin oEq (cVar 6) (cK (.int (1)))) (aCons (cVar 7) (aCons (cVar 8) aNil)))) (aCons (cK .non) (aCons (cK (.str "")) (aCons (cK (.int (1))) (aCons (cArg oTup aNil) aNil)))))))))))))
    (sSeq (sSet 5 (cBin oAdd (cVar 5) (cArg oLst (aCons (cArg oTup (aCons (cVar 6) (aCons (cVar 7) (aCons (cBin oIx (cVar 3) (cK (.int (1)))) aNil)))) (aCons (cArg oTup (aCons (cVar 6) (aCons (cVar 7) (aCons (cBin oIx (cVar 3) (cK (.int (2)))) aNil)))) (aCons (cArg oTup (aCons (cVar 6) (aCons (cVar 7) (aCons (cBin oSub (cBin oIx (cVar 3) (cK (.int (1)))) (cK (.int (1)))) aNil)))) (aCons (cArg oTup (aCons (cVar 6) (aCons (cVar 7) (aCons (cBin oAdd (cBin oIx (cVar 3) (cK (.int (2)))) (cK (.int (1)))) aNil)))) (aCons (cArg oTup (aCons (cVar 6) (aCons (cVar 7) (aCons (cBin oPow (cK (.int (10))) (cK (.int (60)))) aNil)))) aNil))))))))
    (sSeq (sSet 5 (cBin oAdd (cVar 5) (cArg oLst (aCons (cArg oTup (aCons (cVar 4) (aCons (cVar 7) (aCons (cVar 8) aNil)))) (aCons (cArg oTup (aCons (cUn oNeg (cK (.int (1)))) (aCons (cVar 7) (aCons (cVar 8) aNil)))) (aCons (cArg oTup (aCons (cBin oSub (cVar 6) (cVar 4)) (aCons (cVar 7) (aCons (cVar 8) aNil)))) (aCons (cArg oTup (aCons (cVar 6) (aCons (cK (.int (0))) (aCons (cVar 8) aNil)))) (aCons (cArg oTup (aCons (cVar 6) (aCons (cK (.int (2))) (aCons (cVar 8) aNil)))) (aCons (cArg oTup (aCons (cVar 6) (aCons (cUn oNeg (cK (.int (2)))) (aCons (cVar 8) aNil)))) aNil)))))))))
    (sSeq (sSet 5 (cBin oAdd (cVar 5) (cArg oLst (aCons (cArg oTup (aCons (cVar 4) (aCons (cK (.int (0))) (aCons (cBin oAdd (cBin oIx (cVar 3) (cK (.int (2)))) (cK (.int (9)))) aNil)))) (aCons (cArg oTup (aCons (cVar 6) (aCons (cK (.int (0))) (aCons (cBin oAdd (cBin oIx (cVar 3) (cK (.int (2)))) (cK (.int (9)))) aNil)))) (aCons (cArg oTup (aCons (cVar 4) (aCons (cK (.str "1")) (aCons (cVar 8) aNil)))) (aCons (cArg oTup (aCons (cArg oStr (aCons (cVar 6) aNil)) (aCons (cK (.int (0))) (aCons (cK (.int (0))) aNil)))) (aCons (cArg oTup (aCons (cVar 6) (aCons (cVar 7) (aCons (cK .non) aNil)))) (aCons (cArg oTup (aCons (cArg oTup (aCons (cVar 6) aNil)) (aCons (cVar 7) (aCons (cVar 8) aNil)))) aNil)))))))))
    (sSeq (sSet 5 (cBin oAdd (cVar 5) (cArg oLst (aCons (cArg oTup (aCons (cVar 6) (aCons (cUn oNeg (cVar 7)) (aCons (cVar 8) aNil)))) (aCons (cArg oTup (aCons (cVar 6) (aCons (cBin oPow (cK (.int (10))) (cK (.int (60)))) (aCons (cVar 8) aNil)))) (aCons (cArg oTup (aCons (cBin oMulY (cBin oPow (cK (.int (10))) (cK (.int (60)))) (cBin oPow (cK (.int (10))) (cK (.int (28))))) (aCons (cVar 7) (aCons (cVar 8) aNil)))) (aCons (cArg oTup (aCons (cVar 6) (aCons (cVar 7) (aCons (cArg oStr (aCons (cVar 8) aNil)) aNil)))) (aCons (cArg oLst (aCons (cVar 2) aNil)) aNil))))))))
    (sRet (cVar 5))))))))))
@[irreducible] noncomputable def m__law_things : FD := cDef 9 b__law_things
theorem wm__law_things {x : XQ} {Q : D → Store → Prop} {tt : Tg (x, Q)} {S : Store} {a0 a1 a2 : D} : W (x, Q) tt (m__law_things [a0, a1, a2] S) = WS (qd (x, Q)) tg (b__law_things [some a0, some a1, some a2, none, none, none, none, none, none] S) := by unfold m__law_things; exact W_def
noncomputable def b_saying_fault : DS := (sSeq (sIf (cOr (cNot (cTru (cCall m_tuple_of (aCons (cVar 1) (aCons (cK (.int (3))) aNil))))) (cNot (cTru (cOfL kAll (lComp (cIter (cVar 1)) (.nm 2) tYesD (cCall m_is_integer (aCons (cVar 2) aNil)) [2]))))) (sRet (cK (.str "shape"))) sNil)
    (sSeq (sIf (cNot (cTest (cCh oLe oLt (cK (.int (0))) (cBin oIx (cVar 1) (cK (.int (0)))) (cArg oLen (aCons (cVar 0) aNil))))) (sRet (cK (.str "field"))) sNil)
    (sSeq (sIf (cTest (cBin oNotIn (cBin oIx (cVar 1) (cK (.int (1)))) (cArg oTup (aCons (cK (.int (1))) (aCons (cUn oNeg (cK (.int (1)))) aNil))))) (sRet (cK (.str "way"))) sNil)
    (sSeq (sIf (cNot (cTru (cCall m_fits_field (aCons (cVar 0) (aCons (cVar 1) aNil))))) (sRet (cK (.str "answer"))) sNil)
    (sRet (cK .non))))))
@[irreducible] noncomputable def m_saying_fault : FD := cDef 3 b_saying_fault
theorem wm_saying_fault {x : XQ} {Q : D → Store → Prop} {tt : Tg (x, Q)} {S : Store} {a0 a1 : D} : W (x, Q) tt (m_saying_fault [a0, a1] S) = WS (qd (x, Q)) tg (b_saying_fault [some a0, some a1, none] S) := by unfold m_saying_fault; exact W_def
noncomputable def b_saying_from : DS := (sSeq (sSet 2 (cCall m_way_in (aCons (cVar 1) aNil)))
    (sSeq (sIf (cTest (cBin oIs (cVar 2) (cK .non))) (sRet (cArg oTup (aCons (cK .non) (aCons (cK (.str "sign")) aNil)))) sNil)
    (sSeq (sAsg (cMeth isSt mSplit (cVar 1) (aCons (cUn (oTab [(1, ">="), (-1, "<=")]) (cVar 2)) aNil)) (gUn 2 (gC (gSet 6) (gC (gSet 7) gN))))
    (sSeq (sSet 3 (cAlloc (lComp (cIter (cVar 0)) (.nm 8) tYesD (cBin oIx (cVar 8) (cK (.int (0)))) [8])))
    (sSeq (sIf (cTest (cBin oNotIn (cVar 6) (cVar 3))) (sRet (cArg oTup (aCons (cK .non) (aCons (cK (.str "field")) aNil)))) sNil)
    (sSeq (sSet 4 (cCall m_written_integer (aCons (cVar 7) aNil)))
    (sSeq (sIf (cTest (cBin oIs (cVar 4) (cK .non))) (sRet (cArg oTup (aCons (cK .non) (aCons (cK (.str "number")) aNil)))) sNil)
    (sSeq (sSet 5 (cArg oTup (aCons (cMeth isL mIndex (cVar 3) (aCons (cVar 6) aNil)) (aCons (cVar 2) (aCons (cVar 4) aNil)))))
    (sSeq (sIf (cNot (cTru (cCall m_fits_field (aCons (cVar 0) (aCons (cVar 5) aNil))))) (sRet (cArg oTup (aCons (cK .non) (aCons (cK (.str "answer")) aNil)))) sNil)
    (sRet (cArg oTup (aCons (cVar 5) (aCons (cK .non) aNil)))))))))))))
@[irreducible] noncomputable def m_saying_from : FD := cDef 9 b_saying_from
theorem wm_saying_from {x : XQ} {Q : D → Store → Prop} {tt : Tg (x, Q)} {S : Store} {a0 a1 : D} : W (x, Q) tt (m_saying_from [a0, a1] S) = WS (qd (x, Q)) tg (b_saying_from [some a0, some a1, none, none, none, none, none, none, none] S) := by unfold m_saying_from; exact W_def
noncomputable def b__law_turned : DS := (sSeq (sSet 2 (cAlloc (lRg (rRange1 (cVar 1)))))
    (sSeq (sSet 3 (cArg oLst aNil))
    (sSeq (sFor (cRange1 (cVar 1)) (gSet 4) (sExpr (cMeth isL mAppend (cVar 3) (aCons (cMeth isL mPop (cVar 2) (aCons (cCall m__law_dip (aCons (cVar 0) (aCons (cArg oLen (aCons (cVar 2) aNil)) aNil))) aNil)) aNil))))
    (sRet (cVar 3)))))
@[irreducible] noncomputable def m__law_turned : FD := cDef 5 b__law_turned
theorem wm__law_turned {x : XQ} {Q : D → Store → Prop} {tt : Tg (x, Q)} {S : Store} {a0 a1 : D} : W (x, Q) tt (m__law_turned [a0, a1] S) = WS (qd (x, Q)) tg (b__law_turned [some a0, some a1, none, none, none] S) := by unfold m__law_turned; exact W_def
noncomputable def b__law_name : DS := (sSeq (sFor (cRange1 (cBin oAdd (cArg oLen (aCons (cVar 1) aNil)) (cK (.int (1))))) (gSet 2) (sSeq (sSet 3 (cBin oIx (cK (.str "qxjzkvwy")) (cCall m__law_dip (aCons (cVar 0) (aCons (cK (.int (8))) aNil)))))
    (sSeq (sFor (cRange1 (cCall m__law_dip (aCons (cVar 0) (aCons (cK (.int (8))) aNil)))) (gSet 4) (sSet 3 (cBin oAdd (cVar 3) (cBin oIx (cK (.str "0q9x1j8z2k7")) (cCall m__law_dip (aCons (cVar 0) (aCons (cK (.int (11))) aNil)))))))
    (sIf (cTest (cBin oNotIn (cVar 3) (cVar 1))) (sRet (cVar 3)) sNil))))
    (sSeq (sFor (cRange1 (cBin oAdd (cArg oLen (aCons (cVar 1) aNil)) (cK (.int (1))))) (gSet 2) (sIf (cTest (cBin oNotIn (cBin oAdd (cK (.str "q")) (cArg oStr (aCons (cVar 2) aNil))) (cVar 1))) (sRet (cBin oAdd (cK (.str "q")) (cArg oStr (aCons (cVar 2) aNil)))) sNil))
    (sRet (cK (.str "q")))))
@[irreducible] noncomputable def m__law_name : FD := cDef 5 b__law_name
theorem wm__law_name {x : XQ} {Q : D → Store → Prop} {tt : Tg (x, Q)} {S : Store} {a0 a1 : D} : W (x, Q) tt (m__law_name [a0, a1] S) = WS (qd (x, Q)) tg (b__law_name [some a0, some a1, none, none, none] S) := by unfold m__law_name; exact W_def
noncomputable def b__law_word : DS := (sSeq (sIf (cOr (cNot (cTru (cIsi "tuple" (cVar 1)))) (cTest (cBin oNe (cArg oLen (aCons (cVar 1) aNil)) (cK (.int (3)))))) (sRet (cK (.str "shape"))) sNil)
    (sSeq (sFor (cIter (cVar 1)) (gSet 2) (sIf (cNot (cTru (cCall m__law_is_integer (aCons (cVar 2) aNil)))) (sRet (cK (.str "shape"))) sNil))
    (sSeq (sIf (cOr (cTest (cBin oLt (cBin oIx (cVar 1) (cK (.int (0)))) (cK (.int (0))))) (cTest (cBin oGe (cBin oIx (cVar 1) (cK (.int (0)))) (cArg oLen (aCons (cVar 0) aNil))))) (sRet (cK (.str "field"))) sNil)
    (sSeq (sIf (cAnd (cTest (cBin oNe (cBin oIx (cVar 1) (cK (.int (1)))) (cK (.int (1))))) (cTest (cBin oNe (cBin oIx (cVar 1) (cK (.int (1)))) (cUn oNeg (cK (.int (1))))))) (sRet (cK (.str "way"))) sNil)
    (sSeq (sSet 3 (cBin oIx (cVar 0) (cBin oIx (cVar 1) (cK (.int (0))))))
    (sSeq (sIf (cOr (cTest (cBin oLt (cBin oIx (cVar 1) (cK (.int (2)))) (cBin oAdd (cBin oIx (cVar 3) (cK (.int (1)))) (cArg oIntX (aCons (cBin oEq (cBin oIx (cVar 1) (cK (.int (1)))) (cK (.int (1)))) aNil))))) (cTest (cBin oGtX (cBin oIx (cVar 1) (cK (.int (2)))) (cBin oSub (cBin oIx (cVar 3) (cK (.int (2)))) (cArg oIntX (aCons (cBin oEq (cBin oIx (cVar 1) (cK (.int (1)))) (cUn oNeg (cK (.int (1))))) aNil)))))) (sRet (cK (.str "answer"))) sNil)
    (sRet (cK (.str "")))))))))
@[irreducible] noncomputable def m__law_word : FD := cDef 4 b__law_word
theorem wm__law_word {x : XQ} {Q : D → Store → Prop} {tt : Tg (x, Q)} {S : Store} {a0 a1 : D} : W (x, Q) tt (m__law_word [a0, a1] S) = WS (qd (x, Q)) tg (b__law_word [some a0, some a1, none, none] S) := by unfold m__law_word; exact W_def
noncomputable def b__law_texts : DS := (sSeq (sSet 3 (cBin oIx (cBin oIx (cVar 1) (cBin oIx (cVar 2) (cK (.int (0))))) (cK (.int (0)))))
    (sSeq (sSet 4 (cBin oIx (cArg oLst (aCons (cK (.str "<=")) (aCons (cK (.str "")) (aCons (cK (.str ">=")) aNil)))) (cBin oAdd (cBin oIx (cVar 2) (cK (.int (1)))) (cK (.int (1))))))
    (sSeq (sSet 5 (cArg oStr (aCons (cBin oIx (cVar 2) (cK (.int (2)))) aNil)))
    (sSeq (sSet 6 (cBin oAdd (cBin oAdd (cVar 3) (cVar 4)) (cVar 5)))
    (sSeq (sSet 7 (cArg oLst (aCons (cBin oAdd (cVar 3) (cK (.str " "))) (aCons (cBin oAdd (cK (.str " ")) (cVar 3)) (aCons (cMeth isSt mUpper (cVar 3) aNil) (aCons (cCut (cVar 3) cNoPart (cPart (cUn oNeg (cK (.int (1)))))) (aCons (cBin oAdd (cVar 3) (cK (.str "a"))) (aCons (cK (.str "")) (aCons (cK (.str "9a")) (aCons (cBin oAdd (cVar 3) (cK (.str ">"))) (aCons (cBin oAdd (cVar 3) (cK (.str "="))) (aCons (cBin oAdd (cK (.str ">=")) (cVar 3)) (aCons (cBin oAdd (cVar 3) (cK (.str "<="))) (aCons (cBin oAdd (cVar 3) (cK (.str "<"))) (aCons (cK (.str "_")) aNil)))))))))))))))
    (sSeq (sSet 8 (cArg oLst (aCons (cK (.str ">")) (aCons (cK (.str "<")) (aCons (cK (.str "=")) (aCons (cK (.str "==")) (aCons (cK (.str ">=>=")) (aCons (cK (.str "<=<=")) (aCons (cK (.str ">=<=")) (aCons (cK (.str "=>")) (aCons (cK (.str "=<")) (aCons (cK (.str " >=")) (aCons (cK (.str ">= ")) (aCons (cK (.str "> =")) (aCons (cK (.str "")) (aCons (cK (.str "<>=")) (aCons (cK (.str ">==")) (aCons (cK (.str ">=<")) (aCons (cK (.str "<=>")) (aCons (cK (.str ">>=")) (aCons (cK (.str "<==")) aNil)))))))))))))))))))))
    (sSeq (sSet 9 (cArg oLst (aCons (cBin oAdd (cK (.str " ")) (cVar 5)) (aCons (cBin oAdd (cVar 5) (cK (.str " "))) (aCons (cBin oAdd (cK (.str "0")) (cVar 5)) (aCons (cBin oAdd (cK (.str "+")) (cVar 5)) (aCons (cK (.str "-0")) (aCons (cK (.str "--1")) (aCons (cK (.str "")) (aCons (cK (.str "-")) (aCons (cBin oMulY (cK (.str "1")) (cK (.int (14)))) (aCons (cBin oMulY (cK (.str "1")) (cK (.int (15)))) (aCons (cBin oAdd (cK (.str "-")) (cBin oMulY (cK (.str "1")) (cK (.int (13))))) (aCons (cBin oAdd (cK (.str "-")) (cBin oMulY (cK (.str "1")) (cK (.int (14))))) (aCons (cK (.str "1.")) (aCons (cK (.str "1_0")) aNil))))))))))))))))
    (sSeq (sSet 9 (cBin oAdd (cVar 9) (cArg oLst (aCons (cArg oStr (aCons (cBin oIx (cBin oIx (cVar 1) (cBin oIx (cVar 2) (cK (.int (0))))) (cK (.int (1)))) aNil)) (aCons (cArg oStr (aCons (cBin oIx (cBin oIx (cVar 1) (cBin oIx (cVar 2) (cK (.int (0))))) (cK (.int (2)))) aNil)) (aCons (cArg oStr (aCons (cBin oAdd (cBin oIx (cBin oIx (cVar 1) (cBin oIx (cVar 2) (cK (.int (0))))) (cK (.int (2)))) (cK (.int (1)))) aNil)) (aCons (cK (.str "0")) (aCons (cK (.str "00")) (aCons (cK (.str "1e1")) (aCons (cBin oAdd (cVar 5) (cK (.str "="))) (aCons (cBin oAdd (cVar 5) (cK (.str ">="))) (aCons (cK (.str "a")) aNil))))))))))))
    (sSeq (sSet 10 (cArg oLst (aCons (cVar 6) (aCons (cK (.str "")) (aCons (cK (.str " ")) (aCons (cK (.str ">=")) (aCons (cBin oAdd (cK (.str "#")) (cVar 6)) (aCons (cBin oAdd (cVar 6) (cVar 6)) aNil))))))))
    (sSeq (sFor (cRange1 (cK (.int (12)))) (gSet 11) (sSeq (sSet 12 (cArg oLst (aCons (cVar 3) (aCons (cVar 4) (aCons (cVar 5) aNil)))))
    (sSeq (sSet 13 (cCall m__law_dip (aCons (cVar 0) (aCons (cK (.int (3))) aNil))))
    (sSeq (sSet 14 (cBin oIx (cArg oLst (aCons (cVar 7) (aCons (cVar 8) (aCons (cVar 9) aNil)))) (cVar 13)))
    (sSeq (sAsg (cBin oIx (cVar 14) (cCall m__law_dip (aCons (cVar 0) (aCons (cArg oLen (aCons (cVar 14) aNil)) aNil)))) (gSubD (cVar 12) (cVar 13)))
    (sSeq (sIf (cTest (cBin oGtX (cVar 11) (cK (.int (8))))) (sSeq (sSet 13 (cCall m__law_dip (aCons (cVar 0) (aCons (cK (.int (3))) aNil))))
    (sSeq (sSet 14 (cBin oIx (cArg oLst (aCons (cVar 7) (aCons (cVar 8) (aCons (cVar 9) aNil)))) (cVar 13)))
    (sAsg (cBin oIx (cVar 14) (cCall m__law_dip (aCons (cVar 0) (aCons (cArg oLen (aCons (cVar 14) aNil)) aNil)))) (gSubD (cVar 12) (cVar 13))))) sNil)
    (sExpr (cMeth isL mAppend (cVar 10) (aCons (cBin oAdd (cBin oAdd (cBin oIx (cVar 12) (cK (.int (0)))) (cBin oIx (cVar 12) (cK (.int (1))))) (cBin oIx (cVar 12) (cK (.int (2))))) aNil)))))))))
    (sRet (cVar 10))))))))))))
@[irreducible] noncomputable def m__law_texts : FD := cDef 15 b__law_texts
theorem wm__law_texts {x : XQ} {Q : D → Store → Prop} {tt : Tg (x, Q)} {S : Store} {a0 a1 a2 : D} : W (x, Q) tt (m__law_texts [a0, a1, a2] S) = WS (qd (x, Q)) tg (b__law_texts [some a0, some a1, some a2, none, none, none, none, none, none, none, none, none, none, none, none] S) := by unfold m__law_texts; exact W_def
noncomputable def b_check_saying : DS := (sSeq (sSet 2 (cCall m_saying_fault (aCons (cVar 0) (aCons (cVar 1) aNil))))
    (sSeq (sIf (cTest (cBin oIsNot (cVar 2) (cK .non))) (sRaise "BadSaying" ["word"] (aCons (cVar 2) aNil)) sNil)
    (sRet (cBin oIx (cVar 1) (cK (.int (0)))))))
@[irreducible] noncomputable def m_check_saying : FD := cDef 3 b_check_saying
theorem wm_check_saying {x : XQ} {Q : D → Store → Prop} {tt : Tg (x, Q)} {S : Store} {a0 a1 : D} : W (x, Q) tt (m_check_saying [a0, a1] S) = WS (qd (x, Q)) tg (b_check_saying [some a0, some a1, none] S) := by unfold m_check_saying; exact W_def
noncomputable def b_read_saying : DS := (sSeq (sAsg (cCall m_saying_from (aCons (cVar 0) (aCons (cVar 1) aNil))) (gUn 2 (gC (gSet 2) (gC (gSet 3) gN))))
    (sSeq (sIf (cTest (cBin oIsNot (cVar 3) (cK .non))) (sRaise "BadText" ["line", "word"] (aCons (cK (.int (1))) (aCons (cVar 3) aNil))) sNil)
    (sRet (cVar 2))))
@[irreducible] noncomputable def m_read_saying : FD := cDef 4 b_read_saying
theorem wm_read_saying {x : XQ} {Q : D → Store → Prop} {tt : Tg (x, Q)} {S : Store} {a0 a1 : D} : W (x, Q) tt (m_read_saying [a0, a1] S) = WS (qd (x, Q)) tg (b_read_saying [some a0, some a1, none, none] S) := by unfold m_read_saying; exact W_def
noncomputable def b__law_read_due : DS := (sSeq (sSet 2 (cCall m__law_found (aCons (cVar 1) (aCons (cK (.str ">=")) aNil))))
    (sSeq (sSet 3 (cCall m__law_found (aCons (cVar 1) (aCons (cK (.str "<=")) aNil))))
    (sSeq (sIf (cTest (cBin oNe (cBin oAdd (cArg oLen (aCons (cVar 2) aNil)) (cArg oLen (aCons (cVar 3) aNil))) (cK (.int (1))))) (sRet (cK (.str "sign"))) sNil)
    (sSeq (sSet 4 (cBin oIx (cBin oAdd (cVar 2) (cVar 3)) (cK (.int (0)))))
    (sSeq (sSet 5 (cAlloc (lComp (cIter (cVar 0)) (.nm 8) tYesD (cBin oIx (cVar 8) (cK (.int (0)))) [8])))
    (sSeq (sIf (cTest (cBin oNotIn (cCut (cVar 1) cNoPart (cPart (cVar 4))) (cVar 5))) (sRet (cK (.str "field"))) sNil)
    (sSeq (sSet 6 (cCall m__law_written (aCons (cCut (cVar 1) (cPart (cBin oAdd (cVar 4) (cK (.int (2))))) cNoPart) aNil)))
    (sSeq (sIf (cTest (cBin oIs (cVar 6) (cK .non))) (sRet (cK (.str "number"))) sNil)
    (sSeq (sSet 7 (cArg oTup (aCons (cMeth isL mIndex (cVar 5) (aCons (cCut (cVar 1) cNoPart (cPart (cVar 4))) aNil)) (aCons (cBin oSub (cArg oLen (aCons (cVar 2) aNil)) (cArg oLen (aCons (cVar 3) aNil))) (aCons (cVar 6) aNil)))))
    (sSeq (sIf (cTest (cBin oNe (cCall m__law_word (aCons (cVar 0) (aCons (cVar 7) aNil))) (cK (.str "")))) (sRet (cK (.str "answer"))) sNil)
    (sRet (cVar 7))))))))))))
@[irreducible] noncomputable def m__law_read_due : FD := cDef 9 b__law_read_due
theorem wm__law_read_due {x : XQ} {Q : D → Store → Prop} {tt : Tg (x, Q)} {S : Store} {a0 a1 : D} : W (x, Q) tt (m__law_read_due [a0, a1] S) = WS (qd (x, Q)) tg (b__law_read_due [some a0, some a1, none, none, none, none, none, none, none] S) := by unfold m__law_read_due; exact W_def
noncomputable def b__law_near : DS := (sSeq (sSet 1 (cCut (cCall m__law_name (aCons (cVar 0) (aCons (cArg oLst aNil) aNil))) cNoPart (cPart (cK (.int (6))))))
    (sSeq (sSet 2 (cArg oLst aNil))
    (sSeq (sFor (cIter (cArg oTup (aCons (cBin oAdd (cVar 1) (cK (.str "a"))) (aCons (cVar 1) (aCons (cBin oAdd (cVar 1) (cK (.str "ab"))) (aCons (cBin oAdd (cK (.str "a")) (cVar 1)) (aCons (cCut (cVar 1) cNoPart (cPart (cK (.int (1))))) (aCons (cBin oMulY (cK (.str "q")) (cK (.int (8)))) (aCons (cK (.str "z")) aNil))))))))) (gSet 3) (sIf (cAnd (cTest (cBin oNotIn (cVar 3) (cAlloc (lComp (cIter (cVar 2)) (.nm 7) tYesD (cBin oIx (cVar 7) (cK (.int (0)))) [7])))) (cTest (cBin oLt (cArg oLen (aCons (cVar 3) aNil)) (cK (.int (9)))))) (sSeq (sSet 5 (cBin oIx (cArg oLst (aCons (cK (.int (0))) (aCons (cBin oAdd (cUn oNeg (cK (.int (2)))) (cCall m__law_dip (aCons (cVar 0) (aCons (cK (.int (4))) aNil)))) (aCons (cBin oSub (cBin oPow (cK (.int (10))) (cK (.int (6)))) (cK (.int (19)))) (aCons (cUn oNeg (cBin oPow (cK (.int (10))) (cK (.int (6))))) aNil))))) (cCall m__law_dip (aCons (cVar 0) (aCons (cK (.int (4))) aNil)))))
    (sExpr (cMeth isL mAppend (cVar 2) (aCons (cArg oTup (aCons (cVar 3) (aCons (cVar 5) (aCons (cBin oAdd (cVar 5) (cCall m__law_dip (aCons (cVar 0) (aCons (cK (.int (20))) aNil)))) aNil)))) aNil)))) sNil))
    (sSeq (sSet 4 (cCall m__law_turned (aCons (cVar 0) (aCons (cArg oLen (aCons (cVar 2) aNil)) aNil))))
    (sRet (cArg oTuple (aCons (cCut (cAlloc (lComp (cIter (cVar 4)) (.nm 6) tYesD (cBin oIx (cVar 2) (cVar 6)) [6])) cNoPart (cPart (cBin oAdd (cK (.int (1))) (cCall m__law_dip (aCons (cVar 0) (aCons (cArg oLen (aCons (cVar 2) aNil)) aNil)))))) aNil)))))))
@[irreducible] noncomputable def m__law_near : FD := cDef 8 b__law_near
theorem wm__law_near {x : XQ} {Q : D → Store → Prop} {tt : Tg (x, Q)} {S : Store} {a0 : D} : W (x, Q) tt (m__law_near [a0] S) = WS (qd (x, Q)) tg (b__law_near [some a0, none, none, none, none, none, none, none] S) := by unfold m__law_near; exact W_def
noncomputable def br__law_same (self : FD) : DS := (sSeq (sIf (cTest (cBin oIs (cVar 1) (cK .non))) (sRet (cBin oIs (cVar 0) (cK .non))) sNil)
    (sSeq (sIf (cTru (cIsi "bool" (cVar 1))) (sRet (cAndV (cIsi "bool" (cVar 0)) (cBin oEq (cVar 0) (cVar 1)))) sNil)
    (sSeq (sIf (cTru (cIsi "int" (cVar 1))) (sRet (cAndV (cIsi "int" (cVar 0)) (cAndV (cNotV (cIsi "bool" (cVar 0))) (cBin oEq (cVar 0) (cVar 1))))) sNil)
    (sSeq (sIf (cTru (cIsi "str" (cVar 1))) (sRet (cAndV (cIsi "str" (cVar 0)) (cBin oEq (cVar 0) (cVar 1)))) sNil)
    (sSeq (sIf (cOr (cNot (cTru (cIsi "tuple" (cVar 0)))) (cTest (cBin oNe (cArg oLen (aCons (cVar 0) aNil)) (cArg oLen (aCons (cVar 1) aNil))))) (sRet (cK (.bl false))) sNil)
    (sSeq (sFor (cRange1 (cArg oLen (aCons (cVar 1) aNil))) (gSet 2) (sIf (cNot (cTru (cCall self (aCons (cBin oIx (cVar 0) (cVar 2)) (aCons (cBin oIx (cVar 1) (cVar 2)) aNil))))) (sRet (cK (.bl false))) sNil))
    (sRet (cK (.bl true)))))))))
noncomputable def mr__law_same : Nat → FD
  | 0 => fun _ _ => .no
  | k + 1 => cDef 3 (br__law_same (mr__law_same k))
@[irreducible] noncomputable def m__law_same : FD := mr__law_same 70
theorem mx__law_same : m__law_same = mr__law_same 70 := by unfold m__law_same; rfl
theorem wm__law_same {k : Nat} {x : XQ} {Q : D → Store → Prop} {tt : Tg (x, Q)} {S : Store} {a0 a1 : D} : W (x, Q) tt (mr__law_same (k + 1) [a0, a1] S) = WS (qd (x, Q)) tg (br__law_same (mr__law_same k) [some a0, some a1, none] S) := W_def
noncomputable def b__law_checked : DS := (sSeq (sSet 2 (cCall m__law_word (aCons (cVar 0) (aCons (cVar 1) aNil))))
    (sSeq (sTryAs (sSet 4 (cCall m_check_saying (aCons (cVar 0) (aCons (cVar 1) aNil)))) 3 tab_BadSaying fun ex0 => (sRet (cAndV (cBin oNe (cVar 2) (cK (.str ""))) (cAndV (cCall m__law_same (aCons (cXf 3 ex0 "word") (aCons (cVar 2) aNil))) (cAndV (cXis 3 ex0 tab_DataError) (cXis 3 ex0 tab_SheetError))))))
    (sRet (cAndV (cBin oEq (cVar 2) (cK (.str ""))) (cCall m__law_same (aCons (cVar 4) (aCons (cBin oIx (cVar 1) (cK (.int (0)))) aNil)))))))
@[irreducible] noncomputable def m__law_checked : FD := cDef 5 b__law_checked
theorem wm__law_checked {x : XQ} {Q : D → Store → Prop} {tt : Tg (x, Q)} {S : Store} {a0 a1 : D} : W (x, Q) tt (m__law_checked [a0, a1] S) = WS (qd (x, Q)) tg (b__law_checked [some a0, some a1, none, none, none] S) := by unfold m__law_checked; exact W_def
noncomputable def b__law_read : DS := (sSeq (sSet 2 (cCall m__law_read_due (aCons (cVar 0) (aCons (cVar 1) aNil))))
    (sSeq (sTryAs (sSet 4 (cCall m_read_saying (aCons (cVar 0) (aCons (cVar 1) aNil)))) 3 tab_BadText fun ex0 => (sRet (cAndV (cCall m__law_same (aCons (cArg oTup (aCons (cXf 3 ex0 "line") (aCons (cXf 3 ex0 "word") aNil))) (aCons (cArg oTup (aCons (cK (.int (1))) (aCons (cVar 2) aNil))) aNil))) (cAndV (cXis 3 ex0 tab_TextError) (cXis 3 ex0 tab_SheetError)))))
    (sRet (cCall m__law_same (aCons (cVar 4) (aCons (cVar 2) aNil))))))
@[irreducible] noncomputable def m__law_read : FD := cDef 5 b__law_read
theorem wm__law_read {x : XQ} {Q : D → Store → Prop} {tt : Tg (x, Q)} {S : Store} {a0 a1 : D} : W (x, Q) tt (m__law_read [a0, a1] S) = WS (qd (x, Q)) tg (b__law_read [some a0, some a1, none, none, none] S) := by unfold m__law_read; exact W_def
noncomputable def b_law : DS := (sSeq (sSet 1 (cCall m__law_well (aCons (cVar 0) aNil)))
    (sSeq (sSet 2 (cBin oAdd (cCall m__law_near (aCons (cVar 1) aNil)) (cArg oTup (aCons (cArg oTup (aCons (cK (.str "mid")) (aCons (cUn oNeg (cK (.int (2)))) (aCons (cBin oAdd (cK (.int (3))) (cCall m__law_dip (aCons (cVar 1) (aCons (cK (.int (9))) aNil)))) aNil)))) aNil))))
    (sSeq (sSet 3 (cAlloc (lComp (cRange1 (cArg oLen (aCons (cVar 2) aNil))) (.nm 5) (cTest (cBin oGtX (cBin oIx (cBin oIx (cVar 2) (cVar 5)) (cK (.int (2)))) (cBin oIx (cBin oIx (cVar 2) (cVar 5)) (cK (.int (1)))))) (cVar 5) [5])))
    (sSeq (sFor (cRange1 (cK (.int (4)))) (gSet 4) (sSeq (sSet 5 (cBin oIx (cVar 3) (cCall m__law_dip (aCons (cVar 1) (aCons (cArg oLen (aCons (cVar 3) aNil)) aNil)))))
    (sSeq (sSet 6 (cBin oSub (cK (.int (1))) (cBin oMulY (cK (.int (2))) (cCall m__law_dip (aCons (cVar 1) (aCons (cK (.int (2))) aNil))))))
    (sSeq (sSet 7 (cCall m__law_answers (aCons (cBin oIx (cVar 2) (cVar 5)) (aCons (cVar 6) aNil))))
    (sSeq (sSet 8 (cArg oTup (aCons (cVar 5) (aCons (cVar 6) (aCons (cBin oIx (cVar 7) (cCall m__law_dip (aCons (cVar 1) (aCons (cArg oLen (aCons (cVar 7) aNil)) aNil)))) aNil)))))
    (sSeq (sSet 9 (cBin oAdd (cBin oAdd (cBin oIx (cBin oIx (cVar 2) (cVar 5)) (cK (.int (0)))) (cBin oIx (cArg oLst (aCons (cK (.str "<=")) (aCons (cK (.str "")) (aCons (cK (.str ">=")) aNil)))) (cBin oAdd (cVar 6) (cK (.int (1)))))) (cArg oStr (aCons (cBin oIx (cVar 8) (cK (.int (2)))) aNil))))
    (sSeq (sIf (cOr (cNot (cTru (cCall m__law_same (aCons (cCall m_saying_text (aCons (cVar 2) (aCons (cVar 8) aNil))) (aCons (cVar 9) aNil))))) (cNot (cTru (cCall m__law_same (aCons (cCall m_read_saying (aCons (cVar 2) (aCons (cVar 9) aNil))) (aCons (cVar 8) aNil)))))) (sRet (cK (.bl false))) sNil)
    (sSeq (sFor (cIter (cCall m__law_things (aCons (cVar 1) (aCons (cVar 2) (aCons (cVar 8) aNil))))) (gSet 10) (sIf (cNot (cTru (cCall m__law_checked (aCons (cVar 2) (aCons (cVar 10) aNil))))) (sRet (cK (.bl false))) sNil))
    (sFor (cIter (cCall m__law_texts (aCons (cVar 1) (aCons (cVar 2) (aCons (cVar 8) aNil))))) (gSet 9) (sIf (cNot (cTru (cCall m__law_read (aCons (cVar 2) (aCons (cVar 9) aNil))))) (sRet (cK (.bl false))) sNil))))))))))
    (sRet (cK (.bl true)))))))
@[irreducible] noncomputable def m_law : FD := cDef 11 b_law
theorem wm_law {x : XQ} {Q : D → Store → Prop} {tt : Tg (x, Q)} {S : Store} {a0 : D} : W (x, Q) tt (m_law [a0] S) = WS (qd (x, Q)) tg (b_law [some a0, none, none, none, none, none, none, none, none, none, none] S) := by unfold m_law; exact W_def
end LW

namespace LW
open PySem PySem.Spec PyProof.Rows L2 DL
def Zbi := @WS_seq
def Zbs := @WS_asg
def Zgg := @WS_f1
def Zhu := @Option.isSome_some
def Zhz := @List.getD_cons_zero
def Zia := @List.getD_cons_succ
def Zic := @beq_self_eq_true
def Zkf := @lstAt_setE
def Zkg := @Option.map_some
def Zki := @ne_eq
def Znb := @Option.bind_some
def Znh := @List.set_cons_zero
def Zni := @List.set_cons_succ
def Znj := @List.length_cons
def Znk := @List.length_nil
def Znl := @List.nil_append
def Znm := @List.cons_append
def Znn := @List.append_nil
def Zno := @List.isEmpty_cons
def Znp := @List.isEmpty_nil
def Znv := @forall_const
def Zny := @implies_true
def Zof := @if_true
def Zog := @if_false
def Zok := @eq_self
def ZP := (And.intro (And.intro (And.intro (And.intro (And.intro (And.intro (And.intro @W_ok @W_exn) (And.intro @W_var0 (And.intro @W_varS @W_bin))) (And.intro (And.intro @W_un (And.intro @W_aNil @W_aCons)) (And.intro @W_arg (And.intro @W_call @W_of)))) (And.intro (And.intro (And.intro @WB_test (And.intro @tc_bl @WB_tru)) (And.intro @WB_and (And.intro @WB_or @WB_not))) (And.intro (And.intro @W_if (And.intro @W_andV @W_orV)) (And.intro @W_notV (And.intro @WM_some @WM_none))))) (And.intro (And.intro (And.intro (And.intro @WO_some (And.intro @tr_bl @tr_non)) (And.intro @tr_int (And.intro @tr_tup @tr_rol))) (And.intro (And.intro @WS_nx (And.intro @WS_rt @WS_ct)) (And.intro @WS_bk (And.intro @WS_exn @WS_nil)))) (And.intro (And.intro (And.intro @WS_retN (And.intro @WS_break @WS_cont)) (And.intro @WS_expr (And.intro @WS_ret @WS_if))) (And.intro (And.intro @WS_set (And.intro @WS_par @WS_gSet)) (And.intro @WS_gN (And.intro @WS_gC @WS_gUn)))))) (And.intro (And.intro (And.intro (And.intro (And.intro @WS_gSub (And.intro @WS_aug @o_add)) (And.intro @o_iadd (And.intro @o_sub @o_neg))) (And.intro (And.intro @o_mul (And.intro @o_mod @o_div)) (And.intro @o_pow (And.intro @o_shl @o_band)))) (And.intro (And.intro (And.intro @o_addT (And.intro @o_addS @o_addL)) (And.intro @o_lt (And.intro @o_le @o_gt))) (And.intro (And.intro @o_gtX (And.intro @o_gtXT @o_ge)) (And.intro @o_eq (And.intro @o_ne @o_eqS))))) (And.intro (And.intro (And.intro (And.intro @o_neS (And.intro @o_eqB @o_neB)) (And.intro @o_eqT (And.intro @o_neT @o_eqN))) (And.intro (And.intro @o_neN (And.intro @o_ltT @o_leT)) (And.intro @o_is (And.intro @o_isnot @o_isB)))) (And.intro (And.intro (And.intro @o_isnotB (And.intro @o_inT @o_ninT)) (And.intro @o_inL (And.intro @o_ninL @o_ixT))) (And.intro (And.intro @o_ixR (And.intro @o_ixL @o_rev)) (And.intro @o_revXT (And.intro @o_ixS @o_str))))))) (And.intro (And.intro (And.intro (And.intro (And.intro (And.intro @o_strS (And.intro @o_set @o_lenT)) (And.intro @o_lenR (And.intro @o_lenL @o_lenS))) (And.intro (And.intro @o_int (And.intro @o_intT @o_intF)) (And.intro @o_abs (And.intro @o_max @o_min)))) (And.intro (And.intro (And.intro @o_maxX (And.intro @o_minX @o_tuple)) (And.intro @o_listXt (And.intro @o_listXr @o_listXl))) (And.intro (And.intro @o_listXs (And.intro @o_sortedXt @o_tup0)) (And.intro @o_tup1 (And.intro @o_tup2 @o_tup3))))) (And.intro (And.intro (And.intro (And.intro @o_tup4 (And.intro @o_tup5 @o_tup6)) (And.intro @o_lst0 (And.intro @o_lst1 @o_lst2))) (And.intro (And.intro @o_lst3 (And.intro @o_lst4 @o_lst5)) (And.intro @o_lst6 (And.intro @o_sum @W_meth)))) (And.intro (And.intro (And.intro @o_append (And.intro @o_extend @o_extendT)) (And.intro @o_extendL (And.intro @o_popAt @W_cut))) (And.intro (And.intro @W_noPart (And.intro @W_part @o_cutT)) (And.intro @o_cutR (And.intro @o_cutL @W_isi)))))) (And.intro (And.intro (And.intro (And.intro (And.intro @W_ch (And.intro @o_mul1 @WS_raise)) (And.intro @WS_tryAs (And.intro @WS_tryO @W_xis))) (And.intro (And.intro @W_xf (And.intro @WS_for @WI_iter)) (And.intro @WI_range1 (And.intro @WI_range2 @WI_range3)))) (And.intro (And.intro (And.intro @WI_enum (And.intro @WI_zip2 @WI_zip3)) (And.intro @W_callK (And.intro @WS_f0 @W_alloc))) (And.intro (And.intro @W_ofL (And.intro @W_comp @WB_yes)) (And.intro @W_c0 (And.intro @W_cx1 @W_cg0))))) (And.intro (And.intro (And.intro (And.intro @W_cg1 (And.intro @W_listRg @W_tupRg)) (And.intro @W_rRange1 (And.intro @W_rRange2 @WI_iterX))) (And.intro (And.intro @WI_enumX (And.intro @o_upper @o_starts)) (And.intro @o_count (And.intro @o_split @o_imul)))) (And.intro (And.intro (And.intro @o_mulS (And.intro @o_mulI @o_mulL)) (And.intro @o_mulTu (And.intro @o_inS @o_ninS))) (And.intro (And.intro @o_cutS (And.intro @WS_tryM @o_intXi)) (And.intro @o_intXt (And.intro @o_intXf @WS_par3))))))))
def ZQ := (And.intro (And.intro (And.intro (And.intro (And.intro (And.intro (And.intro @par3_e @isSt_str) (And.intro @clq0 @clqS)) (And.intro (And.intro @itX_str @itX_tup) (And.intro @enX_str (And.intro @enX_tup @z2_t)))) (And.intro (And.intro (And.intro @z3_t @perm_nil) (And.intro @perm_cons (And.intro @o_intB @decide_true))) (And.intro (And.intro @decide_false @isBl_bl) (And.intro @isN_non (And.intro @isN_bl @isN_int))))) (And.intro (And.intro (And.intro (And.intro @isN_str @isN_tup) (And.intro @isN_rol (And.intro @isN_loc @Nat.max_self))) (And.intro (And.intro @Nat.min_self @Nat.max_zero) (And.intro @Nat.zero_max (And.intro @Nat.min_zero @Nat.zero_min)))) (And.intro (And.intro (And.intro @ty_non @ty_bl) (And.intro @ty_int (And.intro @ty_str @ty_tup))) (And.intro (And.intro @ty_rol @ty_loc) (And.intro @kb_bool_bool (And.intro @kb_bool_int @kb_bool_str)))))) (And.intro (And.intro (And.intro (And.intro (And.intro @kb_bool_tuple @kb_bool_list) (And.intro @kb_int_bool (And.intro @kb_int_int @kb_int_str))) (And.intro (And.intro @kb_int_tuple @kb_int_list) (And.intro @kb_str_bool (And.intro @kb_str_int @kb_str_str)))) (And.intro (And.intro (And.intro @kb_str_tuple @kb_str_list) (And.intro @kb_tuple_bool (And.intro @kb_tuple_int @kb_tuple_str))) (And.intro (And.intro @kb_tuple_tuple @kb_tuple_list) (And.intro @kb_list_bool (And.intro @kb_list_int @kb_list_str))))) (And.intro (And.intro (And.intro (And.intro @kb_list_tuple @kb_list_list) (And.intro @kb_NoneType_bool (And.intro @kb_NoneType_int @kb_NoneType_str))) (And.intro (And.intro @kb_NoneType_tuple @kb_NoneType_list) (And.intro @Nat.zero_add (And.intro @lstAt_set_ne @Nat.one_ne_zero)))) (And.intro (And.intro (And.intro @Nat.zero_ne_one @ix_1_0) (And.intro @ix_2_0 (And.intro @ix_2_1 @ix_3_0))) (And.intro (And.intro @ix_3_1 @ix_3_2) (And.intro @ix_4_0 (And.intro @ix_4_1 @ix_4_2))))))) (And.intro (And.intro (And.intro (And.intro (And.intro (And.intro @ix_4_3 @ix_5_0) (And.intro @ix_5_1 (And.intro @ix_5_2 @ix_5_3))) (And.intro (And.intro @ix_5_4 @ix_6_0) (And.intro @ix_6_1 (And.intro @ix_6_2 @ix_6_3)))) (And.intro (And.intro (And.intro @ix_6_4 @ix_6_5) (And.intro @Bool.and_true (And.intro @Bool.true_and @Bool.and_self))) (And.intro (And.intro @Bool.and_false @Bool.false_and) (And.intro @Bool.and_eq_true (And.intro @Bool.and_eq_false_imp @and_self))))) (And.intro (And.intro (And.intro (And.intro @WS_qdn @WS_qdr) (And.intro @WS_qde (And.intro @WS_qdb @WS_qdc))) (And.intro (And.intro @intD_int @items_tup) (And.intro @items_rol (And.intro @items_loc @listOf_loc)))) (And.intro (And.intro (And.intro @listOf_rol @isL_loc) (And.intro @nd_non (And.intro @nd_bl @nd_int))) (And.intro (And.intro @nd_str @nd_tup) (And.intro @nd_rol (And.intro @noDct_loc @atl1)))))) (And.intro (And.intro (And.intro (And.intro (And.intro @atl2 @atl3) (And.intro @atl4 (And.intro @lstAt_new @lstAt_h0))) (And.intro (And.intro @lstAt_h1 @lstAt_h2) (And.intro @lstAt_h3 (And.intro @it_tup @it_rol)))) (And.intro (And.intro (And.intro @kTup_eq @kLen_eq) (And.intro @wipe0 (And.intro @wipe1 @b_nm))) (And.intro (And.intro @b_un @b_nil) (And.intro @b_cnm (And.intro @b_cun @xc_t))))) (And.intro (And.intro (And.intro (And.intro @xc_f @lk0') (And.intro @zipc (And.intro @zip0 @true_and))) (And.intro (And.intro @and_true @false_and) (And.intro @and_false (And.intro @true_implies @not_true_eq_false)))) (And.intro (And.intro (And.intro @not_false_eq_true @decide_eq_true_eq) (And.intro @decide_eq_false_iff_not (And.intro @Bool.not_eq_true' @Bool.not_eq_false'))) (And.intro (And.intro @Bool.not_true @Bool.not_false) (And.intro @Bool.false_eq_true (And.intro @Bool.true_eq_false @false_implies))))))))
end LW
namespace LW
open PySem PySem.Spec PyProof.Rows L2 DL
section
variable {x : XQ} {Q : D → Store → Prop} {tt : Tg (x, Q)} {S : Store} {many : Int}
/-- a dip: some number below many -/
theorem dip_w (hW : WellOk S) (hm : many < 1073741824) (h : ∀ v S', 0 ≤ v → (v < many ∨ v = 0) → WellOk S' → Fr S S' → Q (.int v) S') : W (x, Q) tt (m__law_dip [.loc 1, .int many] S) := by
  obtain ⟨deep, c, d, rows, h1, h0, hne, hz⟩ := hW
  have hl : 0 < rows.length := List.length_pos_iff.mpr hne
  simp only [↓reduceIte,↓ZP,↓W_K,↓trc,↓Zbi,↓Zbs,↓Zgg,ZQ,Zhu,Zhz,Zia,Zic,okEq,okCmp,okIn,D.fits,D.fitsL,D.dep,D.depL,D.eqv,D.eqvL,D.alike,D.alikeL,Nat.reduceAdd,Nat.reduceSub,c02,Zkf,Zkg,Zki,Nat.reduceEqDiff,Nat.reduceLeDiff,Int.reduceAdd,Int.reduceSub,Int.reduceMul,Int.reduceNeg,Int.reducePow,Int.reduceLT,Int.reduceLE,Int.reduceEq,Int.reduceToNat,qn1,qn2,qn3,qn4,qn5,qk1,qk5,lq1,lq2,lq3,lq4,lq5,at0,at1,at2,at3,at4,at5,Znb,uq1,uq2,uq3,uq4,oq1,oq2,oq3,oq4,tq1,tq2,tq3,tq4,tq5,sl0,slS,lk0,Znh,Zni,Znj,Znk,Znl,Znm,Znn,Zno,Znp,Znv,Zny,Zof,Zog,reduceCtorEq,Zok, wm__law_dip, b__law_dip, h1, h0]
  refine ⟨fun h2 => ?_, fun h2 => ?_⟩
  · exact h 0 S (by omega) (.inr rfl) ⟨deep, c, d, rows, h1, h0, hne, hz⟩ (Fr.refl _)
  · refine ⟨fun h3 => ?_, fun h3 => ?_⟩
    · exact ⟨by omega, divS (by omega) hm, h _ _ (Int.emod_nonneg _ (by omega)) (.inl (Int.emod_lt_of_pos _ (by omega))) ⟨_, _, _, rows, by rw [lstAt_setE (by rw [h1]; rfl)], by rw [lstAt_set_ne (by decide)]; exact h0, hne, hz⟩ ⟨by simp, fun a h2 _ => by rw [List.getElem?_set_ne (by omega)]⟩⟩
    · refine ⟨mul2 (by omega), by omega, WM_at (Int.emod_nonneg _ (by omega)) (Int.emod_lt_of_pos _ (by omega)) fun z hzm => ?_⟩
      obtain ⟨i, rfl⟩ := hz z hzm
      simp only [↓reduceIte,↓ZP,↓W_K,↓trc,↓Zbi,↓Zbs,↓Zgg,ZQ,Zhu,Zhz,Zia,Zic,okEq,okCmp,okIn,D.fits,D.fitsL,D.dep,D.depL,D.eqv,D.eqvL,D.alike,D.alikeL,Nat.reduceAdd,Nat.reduceSub,c02,Zkf,Zkg,Zki,Nat.reduceEqDiff,Nat.reduceLeDiff,Int.reduceAdd,Int.reduceSub,Int.reduceMul,Int.reduceNeg,Int.reducePow,Int.reduceLT,Int.reduceLE,Int.reduceEq,Int.reduceToNat,qn1,qn2,qn3,qn4,qn5,qk1,qk5,lq1,lq2,lq3,lq4,lq5,at0,at1,at2,at3,at4,at5,Znb,uq1,uq2,uq3,uq4,oq1,oq2,oq3,oq4,tq1,tq2,tq3,tq4,tq5,sl0,slS,lk0,Znh,Zni,Znj,Znk,Znl,Znm,Znn,Zno,Znp,Znv,Zny,Zof,Zog,reduceCtorEq,Zok, h1, h0]
      exact ⟨mul2 (by omega), divS (by omega) (by omega), by omega, h _ _ (Int.emod_nonneg _ (by omega)) (.inl (Int.emod_lt_of_pos _ (by omega))) ⟨_, _, _, rows, by rw [lstAt_setE (by rw [lstAt_setE (by rw [h1]; rfl)]; rfl)], by rw [lstAt_set_ne (by decide), lstAt_set_ne (by decide)]; exact h0, hne, hz⟩ ⟨by simp, fun a h2 _ => by rw [List.getElem?_set_ne (by omega), List.getElem?_set_ne (by omega)]⟩⟩
/-- the well of a script -/
theorem well_w (ns : List Int) (hl : ns.length ≤ 63) (h : ∀ S', WellOk S' → S'.length = 2 → Q (.loc 1) S') : W (x, Q) tt (m__law_well [.rol (ns.map D.int)] []) := by
  simp only [↓reduceIte,↓ZP,↓W_K,↓trc,↓Zbi,↓Zbs,↓Zgg,ZQ,Zhu,Zhz,Zia,Zic,okEq,okCmp,okIn,D.fits,D.fitsL,D.dep,D.depL,D.eqv,D.eqvL,D.alike,D.alikeL,Nat.reduceAdd,Nat.reduceSub,c02,Zkf,Zkg,Zki,Nat.reduceEqDiff,Nat.reduceLeDiff,Int.reduceAdd,Int.reduceSub,Int.reduceMul,Int.reduceNeg,Int.reducePow,Int.reduceLT,Int.reduceLE,Int.reduceEq,Int.reduceToNat,qn1,qn2,qn3,qn4,qn5,qk1,qk5,lq1,lq2,lq3,lq4,lq5,at0,at1,at2,at3,at4,at5,Znb,uq1,uq2,uq3,uq4,oq1,oq2,oq3,oq4,tq1,tq2,tq3,tq4,tq5,sl0,slS,lk0,Znh,Zni,Znj,Znk,Znl,Znm,Znn,Zno,Znp,Znv,Zny,Zof,Zog,reduceCtorEq,Zok, wm__law_well, b__law_well]
  refine ⟨by simp only [okB]; omega, ?_⟩
  refine WS_rloop (fun i σ S => ∃ deep rows p c, σ = [some (.rol (ns.map D.int)), some (.int deep), some (.loc 0), p, c] ∧ 0 ≤ deep ∧ deep < 10 ^ 186 ∧ S = [.lst rows] ∧ rows ≠ [] ∧ (∀ z ∈ rows, ∃ i, z = .int i) ∧ (rows.length : Int) = i + 1) ⟨0, [.int _], none, none, rfl, by decide, by decide, rfl, by simp, by simp, by simp⟩ ?_ ?_
  · rintro i σ S hi0 hi1 ⟨deep, rows, p, c, rfl, hd0, hd1, rfl, hne, hz, hln⟩
    have hlr : lstAt [.lst rows] 0 = some rows := rfl
    simp only [↓reduceIte,↓ZP,↓W_K,↓trc,↓Zbi,↓Zbs,↓Zgg,ZQ,Zhu,Zhz,Zia,Zic,okEq,okCmp,okIn,D.fits,D.fitsL,D.dep,D.depL,D.eqv,D.eqvL,D.alike,D.alikeL,Nat.reduceAdd,Nat.reduceSub,c02,Zkf,Zkg,Zki,Nat.reduceEqDiff,Nat.reduceLeDiff,Int.reduceAdd,Int.reduceSub,Int.reduceMul,Int.reduceNeg,Int.reducePow,Int.reduceLT,Int.reduceLE,Int.reduceEq,Int.reduceToNat,qn1,qn2,qn3,qn4,qn5,qk1,qk5,lq1,lq2,lq3,lq4,lq5,at0,at1,at2,at3,at4,at5,Znb,uq1,uq2,uq3,uq4,oq1,oq2,oq3,oq4,tq1,tq2,tq3,tq4,tq5,sl0,slS,lk0,Znh,Zni,Znj,Znk,Znl,Znm,Znn,Zno,Znp,Znv,Zny,Zof,Zog,reduceCtorEq,Zok, hlr]
    refine WM_at hi0 (by simp only [List.length_map] at hi1 ⊢; omega) fun z hzm => ?_
    obtain ⟨n, hn, rfl⟩ := List.mem_map.mp hzm
    simp only [↓reduceIte,↓ZP,↓W_K,↓trc,↓Zbi,↓Zbs,↓Zgg,ZQ,Zhu,Zhz,Zia,Zic,okEq,okCmp,okIn,D.fits,D.fitsL,D.dep,D.depL,D.eqv,D.eqvL,D.alike,D.alikeL,Nat.reduceAdd,Nat.reduceSub,c02,Zkf,Zkg,Zki,Nat.reduceEqDiff,Nat.reduceLeDiff,Int.reduceAdd,Int.reduceSub,Int.reduceMul,Int.reduceNeg,Int.reducePow,Int.reduceLT,Int.reduceLE,Int.reduceEq,Int.reduceToNat,qn1,qn2,qn3,qn4,qn5,qk1,qk5,lq1,lq2,lq3,lq4,lq5,at0,at1,at2,at3,at4,at5,Znb,uq1,uq2,uq3,uq4,oq1,oq2,oq3,oq4,tq1,tq2,tq3,tq4,tq5,sl0,slS,lk0,Znh,Zni,Znj,Znk,Znl,Znm,Znn,Zno,Znp,Znv,Zny,Zof,Zog,reduceCtorEq,Zok, hlr]
    have hcell := Int.emod_nonneg n (show (10 : Int) ^ Int.toNat 62 ≠ 0 by decide)
    have hcell2 := Int.emod_lt_of_pos n (show (0 : Int) < (10 : Int) ^ Int.toNat 62 by decide)
    have pw : ∀ n : Int, 0 ≤ n → n ≤ 1000 → PowOk 10 n := fun n h1 h2 => ⟨h1, by omega, by decide⟩
    have hrl : rows.length < sizeLine := by
      rw [List.length_map] at hi1
      rw [sizeLine_eq]; omega
    have hzz : ∀ (r : List D) (k : Int), (∀ z ∈ r, ∃ i, z = D.int i) → ∀ z ∈ r ++ [D.int k], ∃ i, z = D.int i := fun r k h z hm => by
      rcases List.mem_append.mp hm with q | q
      · exact h z q
      · exact ⟨k, List.mem_singleton.mp q⟩
    refine ⟨pw _ (by decide) (by decide), pw _ (by decide) (by decide), fun hbig => ⟨pw _ (by decide) (by decide), .inr ?_, pw _ (by decide) (by decide), pw _ (by decide) (by decide), by decide, pw _ (by decide) (by decide), by decide, ?_⟩, fun hsm => ?_⟩
    · have := bits_small (n := 618) hd0 (by omega) (by omega)
      show _ + _ < _
      have e : Nat.log2 (Int.natAbs 100000000000000000000000000000000000000000000000000000000000000) = 205 := by decide
      rw [e]; omega
    · refine WM_last hne fun z hz1 => ?_
      obtain ⟨k, rfl⟩ := hz z hz1
      simp only [↓reduceIte,↓ZP,↓W_K,↓trc,↓Zbi,↓Zbs,↓Zgg,ZQ,Zhu,Zhz,Zia,Zic,okEq,okCmp,okIn,D.fits,D.fitsL,D.dep,D.depL,D.eqv,D.eqvL,D.alike,D.alikeL,Nat.reduceAdd,Nat.reduceSub,c02,Zkf,Zkg,Zki,Nat.reduceEqDiff,Nat.reduceLeDiff,Int.reduceAdd,Int.reduceSub,Int.reduceMul,Int.reduceNeg,Int.reducePow,Int.reduceLT,Int.reduceLE,Int.reduceEq,Int.reduceToNat,qn1,qn2,qn3,qn4,qn5,qk1,qk5,lq1,lq2,lq3,lq4,lq5,at0,at1,at2,at3,at4,at5,Znb,uq1,uq2,uq3,uq4,oq1,oq2,oq3,oq4,tq1,tq2,tq3,tq4,tq5,sl0,slS,lk0,Znh,Zni,Znj,Znk,Znl,Znm,Znn,Zno,Znp,Znv,Zny,Zof,Zog,reduceCtorEq,Zok, hlr]
      exact ⟨mul2 (by omega), divS (by omega) (by omega), hrl, _, _, _, _, rfl, Int.emod_nonneg _ (by omega), Int.emod_lt_of_pos _ (by omega), rfl, by simp, hzz _ _ hz, by simp; omega⟩
    · refine WM_last hne fun z hz1 => ?_
      obtain ⟨k, rfl⟩ := hz z hz1
      simp only [↓reduceIte,↓ZP,↓W_K,↓trc,↓Zbi,↓Zbs,↓Zgg,ZQ,Zhu,Zhz,Zia,Zic,okEq,okCmp,okIn,D.fits,D.fitsL,D.dep,D.depL,D.eqv,D.eqvL,D.alike,D.alikeL,Nat.reduceAdd,Nat.reduceSub,c02,Zkf,Zkg,Zki,Nat.reduceEqDiff,Nat.reduceLeDiff,Int.reduceAdd,Int.reduceSub,Int.reduceMul,Int.reduceNeg,Int.reducePow,Int.reduceLT,Int.reduceLE,Int.reduceEq,Int.reduceToNat,qn1,qn2,qn3,qn4,qn5,qk1,qk5,lq1,lq2,lq3,lq4,lq5,at0,at1,at2,at3,at4,at5,Znb,uq1,uq2,uq3,uq4,oq1,oq2,oq3,oq4,tq1,tq2,tq3,tq4,tq5,sl0,slS,lk0,Znh,Zni,Znj,Znk,Znl,Znm,Znn,Zno,Znp,Znv,Zny,Zof,Zog,reduceCtorEq,Zok, hlr]
      exact ⟨mul2 (by omega), divS (by omega) (by omega), hrl, _, _, _, _, rfl, hd0, hd1, rfl, by simp, hzz _ _ hz, by simp; omega⟩
  · rintro σ S ⟨deep, rows, p, c, rfl, hd0, hd1, rfl, hne, hz, hln⟩
    simp only [↓reduceIte,↓ZP,↓W_K,↓trc,↓Zbi,↓Zbs,↓Zgg,ZQ,Zhu,Zhz,Zia,Zic,okEq,okCmp,okIn,D.fits,D.fitsL,D.dep,D.depL,D.eqv,D.eqvL,D.alike,D.alikeL,Nat.reduceAdd,Nat.reduceSub,c02,Zkf,Zkg,Zki,Nat.reduceEqDiff,Nat.reduceLeDiff,Int.reduceAdd,Int.reduceSub,Int.reduceMul,Int.reduceNeg,Int.reducePow,Int.reduceLT,Int.reduceLE,Int.reduceEq,Int.reduceToNat,qn1,qn2,qn3,qn4,qn5,qk1,qk5,lq1,lq2,lq3,lq4,lq5,at0,at1,at2,at3,at4,at5,Znb,uq1,uq2,uq3,uq4,oq1,oq2,oq3,oq4,tq1,tq2,tq3,tq4,tq5,sl0,slS,lk0,Znh,Zni,Znj,Znk,Znl,Znm,Znn,Zno,Znp,Znv,Zny,Zof,Zog,reduceCtorEq,Zok]
    exact h _ ⟨_, _, _, rows, rfl, rfl, hne, hz⟩ rfl
end
end LW

namespace LW
open PySem PySem.Spec PyProof.Rows L2 DL
section
variable {x : XQ} {Q : D → Store → Prop} {tt : Tg (x, Q)} {S : Store}
/-- a thing is the same as itself -/
theorem same_r : ∀ (k : Nat) (d : D) (S : Store) (Q : D → Store → Prop) (tt : Tg (x, Q)), d.dep < k → d.pl → Q (.bl true) S → W (x, Q) tt (mr__law_same k [d, d] S) := by
  intro k
  induction k with
  | zero => intro d S Q tt h; omega
  | succ k ih =>
    intro d S Q tt hk hp hq
    cases d with
    | non => simp only [↓reduceIte,↓ZP,↓W_K,↓trc,↓Zbi,↓Zbs,↓Zgg,ZQ,Zhu,Zhz,Zia,Zic,okEq,okCmp,okIn,D.fits,D.fitsL,D.dep,D.depL,D.eqv,D.eqvL,D.alike,D.alikeL,Nat.reduceAdd,Nat.reduceSub,c02,Zkf,Zkg,Zki,Nat.reduceEqDiff,Nat.reduceLeDiff,Int.reduceAdd,Int.reduceSub,Int.reduceMul,Int.reduceNeg,Int.reducePow,Int.reduceLT,Int.reduceLE,Int.reduceEq,Int.reduceToNat,qn1,qn2,qn3,qn4,qn5,qk1,qk5,lq1,lq2,lq3,lq4,lq5,at0,at1,at2,at3,at4,at5,Znb,uq1,uq2,uq3,uq4,oq1,oq2,oq3,oq4,tq1,tq2,tq3,tq4,tq5,sl0,slS,lk0,Znh,Zni,Znj,Znk,Znl,Znm,Znn,Zno,Znp,Znv,Zny,Zof,Zog,reduceCtorEq,Zok, wm__law_same, br__law_same]; exact hq
    | bl b => cases b <;> (simp only [↓reduceIte,↓ZP,↓W_K,↓trc,↓Zbi,↓Zbs,↓Zgg,ZQ,Zhu,Zhz,Zia,Zic,okEq,okCmp,okIn,D.fits,D.fitsL,D.dep,D.depL,D.eqv,D.eqvL,D.alike,D.alikeL,Nat.reduceAdd,Nat.reduceSub,c02,Zkf,Zkg,Zki,Nat.reduceEqDiff,Nat.reduceLeDiff,Int.reduceAdd,Int.reduceSub,Int.reduceMul,Int.reduceNeg,Int.reducePow,Int.reduceLT,Int.reduceLE,Int.reduceEq,Int.reduceToNat,qn1,qn2,qn3,qn4,qn5,qk1,qk5,lq1,lq2,lq3,lq4,lq5,at0,at1,at2,at3,at4,at5,Znb,uq1,uq2,uq3,uq4,oq1,oq2,oq3,oq4,tq1,tq2,tq3,tq4,tq5,sl0,slS,lk0,Znh,Zni,Znj,Znk,Znl,Znm,Znn,Zno,Znp,Znv,Zny,Zof,Zog,reduceCtorEq,Zok, wm__law_same, br__law_same]; exact hq)
    | int b => simp only [↓reduceIte,↓ZP,↓W_K,↓trc,↓Zbi,↓Zbs,↓Zgg,ZQ,Zhu,Zhz,Zia,Zic,okEq,okCmp,okIn,D.fits,D.fitsL,D.dep,D.depL,D.eqv,D.eqvL,D.alike,D.alikeL,Nat.reduceAdd,Nat.reduceSub,c02,Zkf,Zkg,Zki,Nat.reduceEqDiff,Nat.reduceLeDiff,Int.reduceAdd,Int.reduceSub,Int.reduceMul,Int.reduceNeg,Int.reducePow,Int.reduceLT,Int.reduceLE,Int.reduceEq,Int.reduceToNat,qn1,qn2,qn3,qn4,qn5,qk1,qk5,lq1,lq2,lq3,lq4,lq5,at0,at1,at2,at3,at4,at5,Znb,uq1,uq2,uq3,uq4,oq1,oq2,oq3,oq4,tq1,tq2,tq3,tq4,tq5,sl0,slS,lk0,Znh,Zni,Znj,Znk,Znl,Znm,Znn,Zno,Znp,Znv,Zny,Zof,Zog,reduceCtorEq,Zok, wm__law_same, br__law_same]; exact hq
    | str b => simp only [↓reduceIte,↓ZP,↓W_K,↓trc,↓Zbi,↓Zbs,↓Zgg,ZQ,Zhu,Zhz,Zia,Zic,okEq,okCmp,okIn,D.fits,D.fitsL,D.dep,D.depL,D.eqv,D.eqvL,D.alike,D.alikeL,Nat.reduceAdd,Nat.reduceSub,c02,Zkf,Zkg,Zki,Nat.reduceEqDiff,Nat.reduceLeDiff,Int.reduceAdd,Int.reduceSub,Int.reduceMul,Int.reduceNeg,Int.reducePow,Int.reduceLT,Int.reduceLE,Int.reduceEq,Int.reduceToNat,qn1,qn2,qn3,qn4,qn5,qk1,qk5,lq1,lq2,lq3,lq4,lq5,at0,at1,at2,at3,at4,at5,Znb,uq1,uq2,uq3,uq4,oq1,oq2,oq3,oq4,tq1,tq2,tq3,tq4,tq5,sl0,slS,lk0,Znh,Zni,Znj,Znk,Znl,Znm,Znn,Zno,Znp,Znv,Zny,Zof,Zog,reduceCtorEq,Zok, wm__law_same, br__law_same]; exact hq
    | tup xs =>
      have hk' : D.depL xs < k := by simpa [D.dep] using hk
      rw [D.pl] at hp
      have hl := hp.1
      have hpl := plL_iff.mp hp.2
      simp only [↓reduceIte,↓ZP,↓W_K,↓trc,↓Zbi,↓Zbs,↓Zgg,ZQ,Zhu,Zhz,Zia,Zic,okEq,okCmp,okIn,D.fits,D.fitsL,D.dep,D.depL,D.eqv,D.eqvL,D.alike,D.alikeL,Nat.reduceAdd,Nat.reduceSub,c02,Zkf,Zkg,Zki,Nat.reduceEqDiff,Nat.reduceLeDiff,Int.reduceAdd,Int.reduceSub,Int.reduceMul,Int.reduceNeg,Int.reducePow,Int.reduceLT,Int.reduceLE,Int.reduceEq,Int.reduceToNat,qn1,qn2,qn3,qn4,qn5,qk1,qk5,lq1,lq2,lq3,lq4,lq5,at0,at1,at2,at3,at4,at5,Znb,uq1,uq2,uq3,uq4,oq1,oq2,oq3,oq4,tq1,tq2,tq3,tq4,tq5,sl0,slS,lk0,Znh,Zni,Znj,Znk,Znl,Znm,Znn,Zno,Znp,Znv,Zny,Zof,Zog,reduceCtorEq,Zok, wm__law_same, br__law_same]
      refine ⟨by simp only [okB]; omega, ?_⟩
      refine WS_rloop (fun i σ S' => S' = S ∧ ∃ p, σ = [some (D.tup xs), some (D.tup xs), p]) ⟨rfl, _, rfl⟩ ?_ ?_
      · rintro i σ S' h0 h1 ⟨rfl, p, rfl⟩
        obtain ⟨d, e1, e2⟩ := atI_of (xs := xs) h0 (by omega)
        simp only [↓reduceIte,↓ZP,↓W_K,↓trc,↓Zbi,↓Zbs,↓Zgg,ZQ,Zhu,Zhz,Zia,Zic,okEq,okCmp,okIn,D.fits,D.fitsL,D.dep,D.depL,D.eqv,D.eqvL,D.alike,D.alikeL,Nat.reduceAdd,Nat.reduceSub,c02,Zkf,Zkg,Zki,Nat.reduceEqDiff,Nat.reduceLeDiff,Int.reduceAdd,Int.reduceSub,Int.reduceMul,Int.reduceNeg,Int.reducePow,Int.reduceLT,Int.reduceLE,Int.reduceEq,Int.reduceToNat,qn1,qn2,qn3,qn4,qn5,qk1,qk5,lq1,lq2,lq3,lq4,lq5,at0,at1,at2,at3,at4,at5,Znb,uq1,uq2,uq3,uq4,oq1,oq2,oq3,oq4,tq1,tq2,tq3,tq4,tq5,sl0,slS,lk0,Znh,Zni,Znj,Znk,Znl,Znm,Znn,Zno,Znp,Znv,Zny,Zof,Zog,reduceCtorEq,Zok, e2]
        have hm := List.mem_of_getElem? e1
        refine ih _ _ _ _ (Nat.lt_of_le_of_lt (depL_mem hm) hk') (hpl d hm) ?_
        simp only [↓reduceIte,↓ZP,↓W_K,↓trc,↓Zbi,↓Zbs,↓Zgg,ZQ,Zhu,Zhz,Zia,Zic,okEq,okCmp,okIn,D.fits,D.fitsL,D.dep,D.depL,D.eqv,D.eqvL,D.alike,D.alikeL,Nat.reduceAdd,Nat.reduceSub,c02,Zkf,Zkg,Zki,Nat.reduceEqDiff,Nat.reduceLeDiff,Int.reduceAdd,Int.reduceSub,Int.reduceMul,Int.reduceNeg,Int.reducePow,Int.reduceLT,Int.reduceLE,Int.reduceEq,Int.reduceToNat,qn1,qn2,qn3,qn4,qn5,qk1,qk5,lq1,lq2,lq3,lq4,lq5,at0,at1,at2,at3,at4,at5,Znb,uq1,uq2,uq3,uq4,oq1,oq2,oq3,oq4,tq1,tq2,tq3,tq4,tq5,sl0,slS,lk0,Znh,Zni,Znj,Znk,Znl,Znm,Znn,Zno,Znp,Znv,Zny,Zof,Zog,reduceCtorEq,Zok]
        exact ⟨_, rfl⟩
      · rintro σ S' ⟨rfl, p, rfl⟩
        simp only [↓reduceIte,↓ZP,↓W_K,↓trc,↓Zbi,↓Zbs,↓Zgg,ZQ,Zhu,Zhz,Zia,Zic,okEq,okCmp,okIn,D.fits,D.fitsL,D.dep,D.depL,D.eqv,D.eqvL,D.alike,D.alikeL,Nat.reduceAdd,Nat.reduceSub,c02,Zkf,Zkg,Zki,Nat.reduceEqDiff,Nat.reduceLeDiff,Int.reduceAdd,Int.reduceSub,Int.reduceMul,Int.reduceNeg,Int.reducePow,Int.reduceLT,Int.reduceLE,Int.reduceEq,Int.reduceToNat,qn1,qn2,qn3,qn4,qn5,qk1,qk5,lq1,lq2,lq3,lq4,lq5,at0,at1,at2,at3,at4,at5,Znb,uq1,uq2,uq3,uq4,oq1,oq2,oq3,oq4,tq1,tq2,tq3,tq4,tq5,sl0,slS,lk0,Znh,Zni,Znj,Znk,Znl,Znm,Znn,Zno,Znp,Znv,Zny,Zof,Zog,reduceCtorEq,Zok]
        exact hq
    | rol b => rw [D.pl] at hp; exact hp.elim
    | loc b => rw [D.pl] at hp; exact hp.elim
theorem same_t {d : D} (h1 : d.dep < 70) (h2 : d.pl) (h : Q (.bl true) S) : W (x, Q) tt (m__law_same [d, d] S) := by
  rw [mx__law_same]
  exact same_r 70 d S Q tt h1 h2 h
theorem same_b {b : Bool} (h : Q (.bl true) S) : W (x, Q) tt (m__law_same [.bl b, .bl b] S) := same_t (by simp only [D.dep]; decide) (by simp only [D.pl]) h
theorem same_n (h : Q (.bl true) S) : W (x, Q) tt (m__law_same [.non, .non] S) := same_t (by simp only [D.dep]; decide) (by simp only [D.pl]) h
end
end LW

namespace LW
open PySem PySem.Spec PyProof.Rows L2 DL
section
variable {x : XQ} {Q : D → Store → Prop} {tt : Tg (x, Q)} {S : Store}
def NmOk (n : Str) : Prop := PyData.strOk n = true
theorem ofS_ok (s : String) : PyData.strOk (Str.ofString s) = true := by
  unfold PyData.strOk
  rw [Str.ofString_eq_toList, Array.all_eq_true']
  intro c hc
  simp only [List.mem_toArray, List.mem_map] at hc
  obtain ⟨k, _, rfl⟩ := hc
  have := k.valid
  simp only [decide_eq_true_eq]
  rcases this with h | h
  · have : k.toNat < 0xd800 := h
    omega
  · exact h.2
theorem okIn_names {n : Str} {ns : List Str} (h : NmOk n) (hn : ∀ n ∈ ns, NmOk n) : okIn (.str n) (ns.map D.str) := by
  have hd : D.depL (ns.map D.str) = 0 := by
    clear hn
    induction ns with
    | nil => rfl
    | cons a r ih => rw [List.map_cons, D.depL, ih]; rfl
  refine ⟨h, fitsL_iff.mpr fun y hy => ?_, by rw [hd]; simp⟩
  obtain ⟨z, hz, rfl⟩ := List.mem_map.mp hy
  exact hn z hz
theorem inL_names {n : Str} {ns : List Str} : inL (.str n) (ns.map D.str) = decide (n ∈ ns) := by
  unfold inL
  rw [List.any_map]
  induction ns with
  | nil => rfl
  | cons a r ih =>
    rw [List.any_cons, ih]
    simp only [Function.comp, D.eqv, List.mem_cons]
    by_cases e : a = n
    · subst e; simp
    · simp [e, Ne.symm e]
/-! names, by value -/
def letS : Str := "abcdefghijklmnopqrstuvwxyz"
def figS : Str := "0123456789"
def okC (k c : Nat) : Bool := decide (c ∈ letS.cps.toList) || (k != 0 && decide (c ∈ figS.cps.toList))
/-- the first sign that may not stand there -/
def scanN : Nat → List Nat → Option Nat
  | _, [] => none
  | k, c :: r => if okC k c = true then scanN (k + 1) r else some k
def nmV : D → Option Int
  | .str z => if 1 ≤ z.length ∧ z.length ≤ 8 then (scanN 0 z.cps.toList).map fun n : Nat => (n : Int) else some (-1)
  | _ => some (-1)
def lenS : D → Int
  | .str z => z.length
  | _ => 0
theorem atG0 {α : Type} {c : α} {r : List α} : atI (c :: r) 0 = some c := by simp [atI, ixN]
/-! things of any kind -/
mutual
def wf (S : Store) : D → Prop
  | .loc l => 2 ≤ l ∧ ∃ xs, lstAt S l = some xs
  | .tup xs => wfL S xs
  | .str z => z.length ≤ sizeLine
  | _ => True
def wfL (S : Store) : List D → Prop
  | [] => True
  | x :: xs => wf S x ∧ wfL S xs
end
theorem wfL_iff {S : Store} : ∀ {xs : List D}, wfL S xs ↔ ∀ y ∈ xs, wf S y
  | [] => by simp [wfL]
  | x :: xs => by rw [wfL, wfL_iff (xs := xs)]; simp
mutual
theorem wf_fr {S S' : Store} (F : DL.Fr S S') : ∀ d, wf S d → wf S' d
  | .loc l, h => by
    rw [wf] at h ⊢
    obtain ⟨h3, xs, hx⟩ := h
    exact ⟨h3, xs, F.lst h3 hx⟩
  | .tup xs, h => by
    rw [wf] at h ⊢
    exact wfL_fr F xs h
  | .str z, h => by rw [wf] at h ⊢; exact h
  | .non, _ => by rw [wf] <;> simp
  | .bl _, _ => by rw [wf] <;> simp
  | .int _, _ => by rw [wf] <;> simp
  | .rol _, _ => by rw [wf] <;> simp
theorem wfL_fr {S S' : Store} (F : DL.Fr S S') : ∀ xs, wfL S xs → wfL S' xs
  | [], _ => by rw [wfL]; trivial
  | x :: xs, h => by
    rw [wfL] at h ⊢
    exact ⟨wf_fr F x h.1, wfL_fr F xs h.2⟩
end
theorem wf.nd {y : D} (h : wf S y) : noDct y S = true := by
  cases y with
  | loc l =>
    rw [wf] at h
    obtain ⟨h2, xs, hx⟩ := h
    rw [noDct_loc, hx]; rfl
  | _ => rfl
theorem wf.tup {xs : List D} (h : wf S (.tup xs)) : ∀ y ∈ xs, wf S y := by
  rw [wf] at h
  exact wfL_iff.mp h
theorem wf.str {z : Str} (h : wf S (.str z)) : z.length ≤ sizeLine := by
  rw [wf] at h; exact h
theorem chars_eq {z : Str} : chars z = z.cps.toList.map fun c => D.str ⟨#[c]⟩ := rfl
theorem atG {α : Type} {pre post : List α} {c : α} {i : Int} (h : (pre.length : Int) = i) : atI (pre ++ c :: post) i = some c := by
  subst h
  have e : ixN (pre ++ c :: post).length (pre.length : Int) = some pre.length := by
    unfold ixN
    rw [if_pos (by simp), if_pos (by rw [List.length_append, List.length_cons]; omega)]
    simp
  unfold atI
  rw [e]
  simp
/-- a name of a right one -/
theorem nm_str {d : D} (h : nmV d = none) : ∃ z, d = .str z ∧ (1 ≤ z.length ∧ z.length ≤ 8) ∧ scanN 0 z.cps.toList = none := by
  cases d with
  | str z =>
    by_cases hl : 1 ≤ z.length ∧ z.length ≤ 8
    · have hn : nmV (.str z) = (scanN 0 z.cps.toList).map fun n : Nat => (n : Int) := by show (if _ then _ else _) = _; rw [if_pos hl]
      rw [hn] at h
      exact ⟨z, rfl, hl, by simpa using h⟩
    · have hn : nmV (.str z) = some (-1) := by show (if _ then _ else _) = _; rw [if_neg hl]
      rw [hn] at h; cases h
  | _ => cases h
theorem scan_all : ∀ {r : List Nat} {k : Nat}, scanN k r = none → ∀ c ∈ r, c < 128
  | [], _, _, c, hc => by cases hc
  | a :: r, k, h, c, hc => by
    rw [scanN] at h
    split at h
    · rename_i ho
      rcases List.mem_cons.mp hc with e | hm
      · subst e
        unfold okC at ho
        have hl : ∀ c ∈ letS.cps.toList, c < 128 := by decide +kernel
        have hf : ∀ c ∈ figS.cps.toList, c < 128 := by decide +kernel
        simp only [Bool.or_eq_true, Bool.and_eq_true, decide_eq_true_eq] at ho
        rcases ho with ho | ho
        · exact hl _ ho
        · exact hf _ ho.2
      · exact scan_all h c hm
    · cases h
theorem nm_ok {z : Str} (h : nmV (.str z) = none) : NmOk z := by
  obtain ⟨z', e, _, hs⟩ := nm_str h
  cases e
  unfold NmOk PyData.strOk
  rw [Array.all_eq_true']
  intro c hc
  have := scan_all hs c (by simpa using hc)
  simp only [decide_eq_true_eq]
  omega
/-- a drawn name -/
structure Nm (n : Str) : Prop where
  ok : nmV (.str n) = none
theorem Nm.st {n : Str} (h : Nm n) : NmOk n := nm_ok h.ok
theorem Nm.len {n : Str} (h : Nm n) : 1 ≤ n.length ∧ n.length ≤ 8 := by
  obtain ⟨z, e, hl, _⟩ := nm_str h.ok
  cases e
  exact hl
theorem nm_of {z : Str} (h1 : 1 ≤ z.length) (h2 : z.length ≤ 8) (h : scanN 0 z.cps.toList = none) : Nm z := ⟨by
  show (if _ then _ else _) = _
  rw [if_pos ⟨h1, h2⟩, h]; rfl⟩
theorem cps_app {a b : Str} : (a ++ b).cps.toList = a.cps.toList ++ b.cps.toList := by
  show (a.cps ++ b.cps).toList = _
  rw [Array.toList_append]
end
end LW

namespace LW
open PySem PySem.Spec PyProof.Rows L2 DL
section
variable {x : XQ} {Q : D → Store → Prop} {tt : Tg (x, Q)} {S : Store}
/-! numbers, by value -/
abbrev cl (w : Str) : List Nat := w.cps.toList
theorem cl_len (w : Str) : (cl w).length = w.length := Array.length_toList
def isDig (c : Nat) : Bool := decide (c ∈ figS.cps.toList)
theorem fig_eq : figS.cps.toList = [48, 49, 50, 51, 52, 53, 54, 55, 56, 57] := by decide +kernel
theorem isDig_iff {c : Nat} : isDig c = true ↔ 48 ≤ c ∧ c ≤ 57 := by
  unfold isDig
  rw [fig_eq, decide_eq_true_eq]
  simp only [List.mem_cons, List.not_mem_nil, or_false]
  omega
def neg (w : Str) : Bool := decide ((cl w).head? = some 45)
def bl (w : Str) : List Nat := if neg w = true then (cl w).tail else cl w
def okN (w : Str) : Bool := decide (bl w ≠ []) && decide (w.length ≤ 14) && (bl w).all isDig && !(decide ((bl w).head? = some 48) && decide (w ≠ "0"))
def numV (w : Str) : Option Int := if okN w = true then PySem.intText? w else none
theorem head_starts {z : Str} {c : Nat} : Txt.startswith z ⟨#[c]⟩ = decide ((cl z).head? = some c) := by
  unfold Txt.startswith
  have e1 : (⟨#[c]⟩ : Str).length = 1 := rfl
  rw [Bool.eq_iff_iff, Bool.and_eq_true, decide_eq_true_eq, decide_eq_true_eq]
  constructor
  · rintro ⟨_, h⟩
    have := (StrLaws.subAt_one z c 0).mp ⟨by assumption, h⟩
    rw [List.head?_eq_getElem?]; exact this
  · intro h
    rw [List.head?_eq_getElem?] at h
    exact (StrLaws.subAt_one z c 0).mpr h
theorem body_cut {w : Str} : cl (cutS w (some 1) none) = (cl w).tail := by
  unfold cl
  rw [cutS_cps]
  have e : HT.sIx w.length 0 (some 1) = min 1 w.length := sIx_nn (by decide)
  have e2 : HT.sIx w.length w.length none = w.length := rfl
  rw [e, e2]
  have hl := cl_len w
  unfold cl at hl
  cases q : w.cps.toList with
  | nil => simp
  | cons c r =>
    rw [q, List.length_cons] at hl
    have : min 1 w.length = 1 := by omega
    rw [this, List.drop_one, List.tail_cons]
    exact List.take_of_length_le (by omega)
theorem num_some {w : Str} (h : okN w = true) : ∃ n, PySem.intText? w = some n ∧ w.length ≤ 640 := by
  unfold okN at h
  simp only [Bool.and_eq_true, decide_eq_true_eq] at h
  obtain ⟨⟨⟨h1, h2⟩, h3⟩, _⟩ := h
  have h3' : ∀ c ∈ bl w, 48 ≤ c ∧ c ≤ 57 := fun c hc => isDig_iff.mp (List.all_eq_true.mp h3 c hc)
  unfold bl neg at h1 h3'
  by_cases hn : (cl w).head? = some 45
  · rw [if_pos (by simpa using hn)] at h1 h3'
    cases q : cl w with
    | nil => rw [q] at h1; exact absurd rfl h1
    | cons c r =>
      rw [q] at hn h1 h3'
      have : c = 45 := by simpa using hn
      subst this
      exact ⟨_, PySem.intText_neg q h3' h1 (by omega), by omega⟩
  · rw [if_neg (by simpa using hn)] at h1 h3'
    exact ⟨_, PySem.intText_digits h3' h1 (by omega), by omega⟩
def numD (w : Str) : D := match numV w with
  | none => .non
  | some n => .int n
theorem empty_iff {z : Str} : z = "" ↔ cl z = [] := by
  constructor
  · rintro rfl; rfl
  · intro h; exact str_ext (h.trans rfl)
theorem nonempty_len {z : Str} : (z.length : Int) > 0 ↔ cl z ≠ [] := by
  have := cl_len z
  constructor
  · intro h e; rw [e] at this; simp at this; omega
  · intro h
    have : 0 < (cl z).length := List.length_pos_iff.mpr h
    omega
theorem written_w {w : Str} (hz : w.length ≤ sizeLine) (h : Q (numD w) S) : W (x, Q) tt (m_written_integer [.str w] S) := by
  have hcl := cl_len w
  rw [wm_written_integer]
  unfold b_written_integer
  rw [WS_seq]
  refine WS_mid (fun σ S' => S' = S ∧ ∃ bd : Str, σ = [some (.str w), some (.str bd), none] ∧ cl bd = bl w ∧ bd.length ≤ w.length) ?_ ?_
  · simp only [↓reduceIte,↓ZP,↓W_K,↓trc,↓Zbi,↓Zbs,↓Zgg,ZQ,Zhu,Zhz,Zia,Zic,okEq,okCmp,okIn,D.fits,D.fitsL,D.dep,D.depL,D.eqv,D.eqvL,D.alike,D.alikeL,Nat.reduceAdd,Nat.reduceSub,c02,Zkf,Zkg,Zki,Nat.reduceEqDiff,Nat.reduceLeDiff,Int.reduceAdd,Int.reduceSub,Int.reduceMul,Int.reduceNeg,Int.reducePow,Int.reduceLT,Int.reduceLE,Int.reduceEq,Int.reduceToNat,qn1,qn2,qn3,qn4,qn5,qk1,qk5,lq1,lq2,lq3,lq4,lq5,at0,at1,at2,at3,at4,at5,Znb,uq1,uq2,uq3,uq4,oq1,oq2,oq3,oq4,tq1,tq2,tq3,tq4,tq5,sl0,slS,lk0,Znh,Zni,Znj,Znk,Znl,Znm,Znn,Zno,Znp,Znv,Zny,Zof,Zog,reduceCtorEq,Zok]
    rw [show (Str.ofString "-") = (⟨#[45]⟩ : Str) by decide, head_starts]
    refine ⟨fun hn => ?_, fun hn => ?_⟩
    · have e : cl (cutS w (some 1) none) = bl w := by
        rw [body_cut]; unfold bl neg; rw [if_pos hn]
      exact ⟨hz, _, rfl, e, cutS_len⟩
    · have e : cl w = bl w := by unfold bl neg; rw [if_neg (by rw [hn]; simp)]
      exact ⟨_, rfl, e, Nat.le_refl _⟩
  · rintro σ S ⟨rfl, bd, rfl, hb, hbl⟩
    have hbz : bd.length ≤ sizeLine := by omega
    have bad : okN w = false → Q .non S := fun e => by
      unfold numD numV at h
      rw [e] at h
      exact h
    simp only [↓reduceIte,↓ZP,↓W_K,↓trc,↓Zbi,↓Zbs,↓Zgg,ZQ,Zhu,Zhz,Zia,Zic,okEq,okCmp,okIn,D.fits,D.fitsL,D.dep,D.depL,D.eqv,D.eqvL,D.alike,D.alikeL,Nat.reduceAdd,Nat.reduceSub,c02,Zkf,Zkg,Zki,Nat.reduceEqDiff,Nat.reduceLeDiff,Int.reduceAdd,Int.reduceSub,Int.reduceMul,Int.reduceNeg,Int.reducePow,Int.reduceLT,Int.reduceLE,Int.reduceEq,Int.reduceToNat,qn1,qn2,qn3,qn4,qn5,qk1,qk5,lq1,lq2,lq3,lq4,lq5,at0,at1,at2,at3,at4,at5,Znb,uq1,uq2,uq3,uq4,oq1,oq2,oq3,oq4,tq1,tq2,tq3,tq4,tq5,sl0,slS,lk0,Znh,Zni,Znj,Znk,Znl,Znm,Znn,Zno,Znp,Znv,Zny,Zof,Zog,reduceCtorEq,Zok, hz, chars_eq]
    refine ⟨fun e => bad ?_, fun e1 => ⟨fun e => bad ?_, fun e2 => ?_⟩⟩
    · rw [empty_iff.mp e] at hb
      unfold okN
      rw [← hb]; simp
    · unfold okN
      have : ¬ w.length ≤ 14 := by omega
      simp [this]
    · refine WS_loop (fun ds σ S' => S' = S ∧ ∃ (pre post : List Nat) (p : Option D), cl bd = pre ++ post ∧ ds = post.map (fun c => D.str ⟨#[c]⟩) ∧ σ = [some (.str w), some (.str bd), p] ∧ pre.all isDig = true) ⟨rfl, [], cl bd, _, rfl, rfl, rfl, rfl⟩ ?_ ?_
      · rintro d ds σ S1 ⟨rfl, pre, post, p, hbp, hds, rfl, hpre⟩
        refine ⟨trivial, ?_⟩
        cases post with
        | nil => cases hds
        | cons c post =>
          rw [List.map_cons] at hds
          obtain ⟨rfl, rfl⟩ := List.cons.inj hds
          simp only [↓reduceIte,↓ZP,↓W_K,↓trc,↓Zbi,↓Zbs,↓Zgg,ZQ,Zhu,Zhz,Zia,Zic,okEq,okCmp,okIn,D.fits,D.fitsL,D.dep,D.depL,D.eqv,D.eqvL,D.alike,D.alikeL,Nat.reduceAdd,Nat.reduceSub,c02,Zkf,Zkg,Zki,Nat.reduceEqDiff,Nat.reduceLeDiff,Int.reduceAdd,Int.reduceSub,Int.reduceMul,Int.reduceNeg,Int.reducePow,Int.reduceLT,Int.reduceLE,Int.reduceEq,Int.reduceToNat,qn1,qn2,qn3,qn4,qn5,qk1,qk5,lq1,lq2,lq3,lq4,lq5,at0,at1,at2,at3,at4,at5,Znb,uq1,uq2,uq3,uq4,oq1,oq2,oq3,oq4,tq1,tq2,tq3,tq4,tq5,sl0,slS,lk0,Znh,Zni,Znj,Znk,Znl,Znm,Znn,Zno,Znp,Znv,Zny,Zof,Zog,reduceCtorEq,Zok, inS_one]
          refine ⟨fun g => bad ?_, fun g => ⟨pre ++ [c], post, _, by rw [hbp]; simp, rfl, rfl, ?_⟩⟩
          · unfold okN
            have : (bl w).all isDig = false := by
              rw [← hb, hbp, List.all_append, List.all_cons]
              have : isDig c = false := by simpa [isDig, figS] using g
              rw [this]; simp
            rw [this]; simp
          · rw [List.all_append, hpre]
            simp [isDig, figS]
            simpa using g
      · rintro σ S1 ⟨rfl, pre, post, p, hbp, hds, rfl, hpre⟩
        refine ⟨trivial, ?_⟩
        have : post = [] := by
          cases post with
          | nil => rfl
          | cons c post => cases hds
        subst this
        rw [List.append_nil] at hbp
        subst hbp
        obtain ⟨c0, r0, hc⟩ : ∃ c r, cl bd = c :: r := by
          cases q : cl bd with
          | nil => exact absurd (empty_iff.mpr q) e1
          | cons c r => exact ⟨c, r, rfl⟩
        have hat : atI bd.cps.toList 0 = some c0 := by
          have : bd.cps.toList = c0 :: r0 := hc
          rw [this]; exact atG0
        have e0 : (Str.ofString "0") = (⟨#[48]⟩ : Str) := by decide
        have key : ∀ c : Nat, (⟨#[c]⟩ : Str) = (Str.ofString "0") ↔ c = 48 := fun c => by
          rw [e0]
          constructor
          · intro h; injection h with h; simpa using h
          · rintro rfl; rfl
        have hd : decide ((bl w).head? = some 48) = decide (c0 = 48) := by rw [← hb, hc]; simp
        have fine : ¬ (c0 = 48 ∧ w ≠ (Str.ofString "0")) → okN w = true := fun g => by
          unfold okN
          have h1 : bl w ≠ [] := by rw [← hb, hc]; simp
          have h2 : w.length ≤ 14 := by omega
          have h3 : (bl w).all isDig = true := by rw [← hb]; exact hpre
          rw [h3, hd]
          simp only [h1, h2, ne_eq, not_false_eq_true, decide_true, Bool.and_self, Bool.true_and, Bool.not_eq_true', Bool.and_eq_false_imp, decide_eq_true_eq, decide_eq_false_iff_not, Decidable.not_not]
          intro g0
          exact Decidable.byContradiction fun g1 => g ⟨g0, g1⟩
        have ok : okN w = true → WO Q tg (oIntX [.str w] S1) := fun e => by
          obtain ⟨n, hn, hl⟩ := num_some e
          refine intX_w hn hl ?_
          unfold numD numV at h
          rw [e, if_pos rfl, hn] at h
          exact h
        simp only [↓reduceIte,↓ZP,↓W_K,↓trc,↓Zbi,↓Zbs,↓Zgg,ZQ,Zhu,Zhz,Zia,Zic,okEq,okCmp,okIn,D.fits,D.fitsL,D.dep,D.depL,D.eqv,D.eqvL,D.alike,D.alikeL,Nat.reduceAdd,Nat.reduceSub,c02,Zkf,Zkg,Zki,Nat.reduceEqDiff,Nat.reduceLeDiff,Int.reduceAdd,Int.reduceSub,Int.reduceMul,Int.reduceNeg,Int.reducePow,Int.reduceLT,Int.reduceLE,Int.reduceEq,Int.reduceToNat,qn1,qn2,qn3,qn4,qn5,qk1,qk5,lq1,lq2,lq3,lq4,lq5,at0,at1,at2,at3,at4,at5,Znb,uq1,uq2,uq3,uq4,oq1,oq2,oq3,oq4,tq1,tq2,tq3,tq4,tq5,sl0,slS,lk0,Znh,Zni,Znj,Znk,Znl,Znm,Znn,Zno,Znp,Znv,Zny,Zof,Zog,reduceCtorEq,Zok, hbz, hat, key]
        refine ⟨fun g => ⟨fun g2 => bad ?_, fun g2 => ok (fine fun z => z.2 g2)⟩, fun g => ok (fine fun z => g z.1)⟩
        unfold okN
        rw [hd]
        simp [g, g2]
end
end LW

namespace LW
open PySem PySem.Spec PyProof.Rows L2 DL
section
variable {x : XQ} {Q : D → Store → Prop} {tt : Tg (x, Q)} {S : Store}
theorem head_cut {z : Str} {c : Nat} : cutS z none (some 1) = (⟨#[c]⟩ : Str) ↔ (cl z).head? = some c := by
  have e : cl (cutS z none (some 1)) = (cl z).take 1 := by
    unfold cl
    rw [cutS_cps]
    have e1 : HT.sIx z.length z.length (some 1) = min 1 z.length := sIx_nn (by decide)
    have e2 : HT.sIx z.length 0 none = 0 := rfl
    rw [e1, e2, List.drop_zero, Nat.sub_zero]
    have hl := cl_len z
    unfold cl at hl
    cases q : z.cps.toList with
    | nil => simp
    | cons c r =>
      rw [q, List.length_cons] at hl
      have : min 1 z.length = 1 := by omega
      rw [this]
  constructor
  · intro h
    rw [h] at e
    cases q : cl z with
    | nil => rw [q] at e; simp [cl] at e
    | cons d r =>
      rw [q] at e
      simp [cl] at e
      rw [e]; rfl
  · intro h
    refine str_ext ?_
    show cl _ = _
    rw [e]
    cases q : cl z with
    | nil => rw [q] at h; cases h
    | cons d r =>
      rw [q] at h
      have : d = c := by simpa using h
      subst this
      simp
theorem scan_S : ∀ {r : List Nat} {k : Nat}, scanN (k + 1) r = none ↔ ∀ c ∈ r, okC 1 c = true
  | [], k => by simp [scanN]
  | a :: r, k => by
    rw [scanN]
    have e : okC (k + 1) a = okC 1 a := rfl
    rw [e]
    by_cases h : okC 1 a = true
    · rw [if_pos h, scan_S]
      simp [h]
    · rw [if_neg h]
      simp [h]
theorem nm_iff {w : Str} : (nmV (.str w)).isNone = true ↔ (1 ≤ w.length ∧ w.length ≤ 8) ∧ (∃ c r, cl w = c :: r ∧ c ∈ letS.cps.toList) ∧ ∀ c ∈ cl w, c ∈ letS.cps.toList ∨ c ∈ figS.cps.toList := by
  have hl := cl_len w
  constructor
  · intro h
    obtain ⟨z, e, hz, hs⟩ := nm_str (Option.isNone_iff_eq_none.mp h)
    cases e
    refine ⟨hz, ?_⟩
    cases q : cl w with
    | nil => rw [q] at hl; simp at hl; omega
    | cons c r =>
      have q' : w.cps.toList = c :: r := q
      rw [q', scanN] at hs
      by_cases h0 : okC 0 c = true
      · rw [if_pos h0] at hs
        have h0' : c ∈ letS.cps.toList := by simpa [okC] using h0
        refine ⟨⟨c, r, rfl, h0'⟩, fun d hd => ?_⟩
        rcases List.mem_cons.mp hd with rfl | hd
        · exact .inl h0'
        · have := scan_S.mp hs d hd
          simpa [okC] using this
      · rw [if_neg h0] at hs; cases hs
  · rintro ⟨hz, ⟨c, r, q, hc⟩, ha⟩
    have q' : w.cps.toList = c :: r := q
    rw [Option.isNone_iff_eq_none]
    refine (nm_of hz.1 hz.2 ?_).ok
    rw [q', scanN, if_pos (by simp [okC, hc])]
    refine scan_S.mpr fun d hd => ?_
    have := ha d (by rw [q]; exact List.mem_cons_of_mem _ hd)
    simpa [okC] using this
theorem lwritten_w {w : Str} (hz : w.length ≤ sizeLine) (h : Q (numD w) S) : W (x, Q) tt (m__law_written [.str w] S) := by
  have hcl := cl_len w
  have e45 : (Str.ofString "-") = (⟨#[45]⟩ : Str) := by decide
  have e48 : (Str.ofString "0") = (⟨#[48]⟩ : Str) := by decide
  rw [wm__law_written]
  unfold b__law_written
  rw [WS_seq]
  simp only [↓reduceIte,↓ZP,↓W_K,↓trc,↓Zbs,↓Zgg,ZQ,Zhu,Zhz,Zia,Zic,okEq,okCmp,okIn,D.fits,D.fitsL,D.dep,D.depL,D.eqv,D.eqvL,D.alike,D.alikeL,Nat.reduceAdd,Nat.reduceSub,c02,Zkf,Zkg,Zki,Nat.reduceEqDiff,Nat.reduceLeDiff,Int.reduceAdd,Int.reduceSub,Int.reduceMul,Int.reduceNeg,Int.reducePow,Int.reduceLT,Int.reduceLE,Int.reduceEq,Int.reduceToNat,qn1,qn2,qn3,qn4,qn5,qk1,qk5,lq1,lq2,lq3,lq4,lq5,at0,at1,at2,at3,at4,at5,Znb,uq1,uq2,uq3,uq4,oq1,oq2,oq3,oq4,tq1,tq2,tq3,tq4,tq5,sl0,slS,lk0,Znh,Zni,Znj,Znk,Znl,Znm,Znn,Zno,Znp,Znv,Zny,Zof,Zog,reduceCtorEq,Zok]
  rw [WS_seq]
  refine WS_mid (fun σ S' => S' = S ∧ ∃ bd : Str, σ = [some (.str w), some (.str bd), none] ∧ cl bd = bl w ∧ bd.length ≤ w.length ∧ (neg w = true → bd.length < w.length) ∧ (neg w = false → bd = w)) ?_ ?_
  · simp only [↓reduceIte,↓ZP,↓W_K,↓trc,↓Zbi,↓Zbs,↓Zgg,ZQ,Zhu,Zhz,Zia,Zic,okEq,okCmp,okIn,D.fits,D.fitsL,D.dep,D.depL,D.eqv,D.eqvL,D.alike,D.alikeL,Nat.reduceAdd,Nat.reduceSub,c02,Zkf,Zkg,Zki,Nat.reduceEqDiff,Nat.reduceLeDiff,Int.reduceAdd,Int.reduceSub,Int.reduceMul,Int.reduceNeg,Int.reducePow,Int.reduceLT,Int.reduceLE,Int.reduceEq,Int.reduceToNat,qn1,qn2,qn3,qn4,qn5,qk1,qk5,lq1,lq2,lq3,lq4,lq5,at0,at1,at2,at3,at4,at5,Znb,uq1,uq2,uq3,uq4,oq1,oq2,oq3,oq4,tq1,tq2,tq3,tq4,tq5,sl0,slS,lk0,Znh,Zni,Znj,Znk,Znl,Znm,Znn,Zno,Znp,Znv,Zny,Zof,Zog,reduceCtorEq,Zok]
    rw [e45, head_cut]
    refine ⟨hz, fun hn => ?_, fun hn => ?_⟩
    · have hn' : neg w = true := by unfold neg; simpa using hn
      have e : cl (cutS w (some 1) none) = bl w := by
        rw [body_cut]; unfold bl; rw [if_pos hn']
      refine ⟨hz, _, rfl, e, cutS_len, fun _ => ?_, fun z => by rw [hn'] at z; cases z⟩
      rw [← cl_len, ← cl_len, body_cut]
      cases q : cl w with
      | nil => rw [q] at hn; cases hn
      | cons c r => simp
    · have hn' : neg w = false := by unfold neg; simpa using hn
      have e : cl w = bl w := by unfold bl; rw [if_neg (by rw [hn']; simp)]
      exact ⟨_, rfl, e, Nat.le_refl _, (fun z => by rw [hn'] at z; cases z), fun _ => rfl⟩
  · rintro σ S ⟨rfl, bd, rfl, hb, hbl, hng, hnn⟩
    have hbz : bd.length ≤ sizeLine := by omega
    have hbc := cl_len bd
    have bad : okN w = false → Q .non S := fun e => by
      unfold numD numV at h
      rw [e] at h
      exact h
    simp only [↓reduceIte,↓ZP,↓W_K,↓trc,↓Zbi,↓Zbs,↓Zgg,ZQ,Zhu,Zhz,Zia,Zic,okEq,okCmp,okIn,D.fits,D.fitsL,D.dep,D.depL,D.eqv,D.eqvL,D.alike,D.alikeL,Nat.reduceAdd,Nat.reduceSub,c02,Zkf,Zkg,Zki,Nat.reduceEqDiff,Nat.reduceLeDiff,Int.reduceAdd,Int.reduceSub,Int.reduceMul,Int.reduceNeg,Int.reducePow,Int.reduceLT,Int.reduceLE,Int.reduceEq,Int.reduceToNat,qn1,qn2,qn3,qn4,qn5,qk1,qk5,lq1,lq2,lq3,lq4,lq5,at0,at1,at2,at3,at4,at5,Znb,uq1,uq2,uq3,uq4,oq1,oq2,oq3,oq4,tq1,tq2,tq3,tq4,tq5,sl0,slS,lk0,Znh,Zni,Znj,Znk,Znl,Znm,Znn,Zno,Znp,Znv,Zny,Zof,Zog,reduceCtorEq,Zok, hz, chars_eq]
    refine ⟨fun e => bad ?_, fun e2 => ⟨hbz, fun e => bad ?_, fun e1 => ?_⟩⟩
    · unfold okN
      have : ¬ w.length ≤ 14 := by omega
      simp [this]
    · have : cl bd = [] := List.length_eq_zero_iff.mp (by omega)
      unfold okN
      rw [← hb, this]; simp
    · refine WS_loop (fun ds σ S' => S' = S ∧ ∃ (pre post : List Nat) (p : Option D), cl bd = pre ++ post ∧ ds = post.map (fun c => D.str ⟨#[c]⟩) ∧ σ = [some (.str w), some (.str bd), p] ∧ pre.all isDig = true) ⟨rfl, [], cl bd, _, rfl, rfl, rfl, rfl⟩ ?_ ?_
      · rintro d ds σ S1 ⟨rfl, pre, post, p, hbp, hds, rfl, hpre⟩
        refine ⟨trivial, ?_⟩
        cases post with
        | nil => cases hds
        | cons c post =>
          rw [List.map_cons] at hds
          obtain ⟨rfl, rfl⟩ := List.cons.inj hds
          simp only [↓reduceIte,↓ZP,↓W_K,↓trc,↓Zbi,↓Zbs,↓Zgg,ZQ,Zhu,Zhz,Zia,Zic,okEq,okCmp,okIn,D.fits,D.fitsL,D.dep,D.depL,D.eqv,D.eqvL,D.alike,D.alikeL,Nat.reduceAdd,Nat.reduceSub,c02,Zkf,Zkg,Zki,Nat.reduceEqDiff,Nat.reduceLeDiff,Int.reduceAdd,Int.reduceSub,Int.reduceMul,Int.reduceNeg,Int.reducePow,Int.reduceLT,Int.reduceLE,Int.reduceEq,Int.reduceToNat,qn1,qn2,qn3,qn4,qn5,qk1,qk5,lq1,lq2,lq3,lq4,lq5,at0,at1,at2,at3,at4,at5,Znb,uq1,uq2,uq3,uq4,oq1,oq2,oq3,oq4,tq1,tq2,tq3,tq4,tq5,sl0,slS,lk0,Znh,Zni,Znj,Znk,Znl,Znm,Znn,Zno,Znp,Znv,Zny,Zof,Zog,reduceCtorEq,Zok, inS_one]
          refine ⟨fun g => bad ?_, fun g => ⟨pre ++ [c], post, _, by rw [hbp]; simp, rfl, rfl, ?_⟩⟩
          · unfold okN
            have : (bl w).all isDig = false := by
              rw [← hb, hbp, List.all_append, List.all_cons]
              have : isDig c = false := by simpa [isDig, figS] using g
              rw [this]; simp
            rw [this]; simp
          · rw [List.all_append, hpre]
            simp [isDig, figS]
            simpa using g
      · rintro σ S1 ⟨rfl, pre, post, p, hbp, hds, rfl, hpre⟩
        refine ⟨trivial, ?_⟩
        have : post = [] := by
          cases post with
          | nil => rfl
          | cons c post => cases hds
        subst this
        rw [List.append_nil] at hbp
        subst hbp
        obtain ⟨c0, r0, hc⟩ : ∃ c r, cl bd = c :: r := by
          cases q : cl bd with
          | nil => rw [q] at hbc; simp at hbc; omega
          | cons c r => exact ⟨c, r, rfl⟩
        have hat : atI bd.cps.toList 0 = some c0 := by
          have : bd.cps.toList = c0 :: r0 := hc
          rw [this]; exact atG0
        have key : ∀ c : Nat, (⟨#[c]⟩ : Str) = (Str.ofString "0") ↔ c = 48 := fun c => by
          rw [e48]
          constructor
          · intro h; injection h with h; simpa using h
          · rintro rfl; rfl
        have hd : decide ((bl w).head? = some 48) = decide (c0 = 48) := by rw [← hb, hc]; simp
        -- a first figure 0: the word is 0 itself just when nothing else stands there
        have w0 : c0 = 48 → (w = (Str.ofString "0") ↔ ¬ (1 < bd.length ∨ 1 < w.length)) := fun h48 => by
          constructor
          · rintro rfl
            have : (Str.ofString "0").length = 1 := by decide
            omega
          · intro g
            cases hn : neg w with
            | true => have := hng hn; omega
            | false =>
              have hbw := hnn hn
              subst hbw
              refine str_ext ?_
              show cl bd = _
              have : r0 = [] := List.length_eq_zero_iff.mp (by rw [hc, List.length_cons] at hbc; omega)
              rw [hc, this, h48, e48]
        have fine : ¬ (c0 = 48 ∧ (1 < bd.length ∨ 1 < w.length)) → okN w = true := fun g => by
          unfold okN
          have h1 : bl w ≠ [] := by rw [← hb, hc]; simp
          have h2 : w.length ≤ 14 := by omega
          have h3 : (bl w).all isDig = true := by rw [← hb]; exact hpre
          rw [h3, hd]
          simp only [h1, h2, ne_eq, not_false_eq_true, decide_true, Bool.and_self, Bool.true_and, Bool.not_eq_true', Bool.and_eq_false_imp, decide_eq_true_eq, decide_eq_false_iff_not, Decidable.not_not]
          intro g0
          exact (w0 g0).mpr fun z => g ⟨g0, z⟩
        have badf : c0 = 48 → (1 < bd.length ∨ 1 < w.length) → okN w = false := fun g0 g => by
          unfold okN
          rw [hd]
          have : w ≠ (Str.ofString "0") := fun z => ((w0 g0).mp z) g
          simp [g0, this]
        have ok : okN w = true → WO Q tg (oIntX [.str w] S1) := fun e => by
          obtain ⟨n, hn, hl⟩ := num_some e
          refine intX_w hn hl ?_
          unfold numD numV at h
          rw [e, if_pos rfl, hn] at h
          exact h
        simp only [↓reduceIte,↓ZP,↓W_K,↓trc,↓Zbi,↓Zbs,↓Zgg,ZQ,Zhu,Zhz,Zia,Zic,okEq,okCmp,okIn,D.fits,D.fitsL,D.dep,D.depL,D.eqv,D.eqvL,D.alike,D.alikeL,Nat.reduceAdd,Nat.reduceSub,c02,Zkf,Zkg,Zki,Nat.reduceEqDiff,Nat.reduceLeDiff,Int.reduceAdd,Int.reduceSub,Int.reduceMul,Int.reduceNeg,Int.reducePow,Int.reduceLT,Int.reduceLE,Int.reduceEq,Int.reduceToNat,qn1,qn2,qn3,qn4,qn5,qk1,qk5,lq1,lq2,lq3,lq4,lq5,at0,at1,at2,at3,at4,at5,Znb,uq1,uq2,uq3,uq4,oq1,oq2,oq3,oq4,tq1,tq2,tq3,tq4,tq5,sl0,slS,lk0,Znh,Zni,Znj,Znk,Znl,Znm,Znn,Zno,Znp,Znv,Zny,Zof,Zog,reduceCtorEq,Zok, hbz, hat, key]
        refine ⟨fun g => ⟨fun g2 => bad (badf g (.inl (by omega))), fun g2 => ⟨hz, fun g3 => bad (badf g (.inr (by omega))), fun g3 => ok (fine fun z => by rcases z.2 with t | t <;> omega)⟩⟩, fun g => ok (fine fun z => g z.1)⟩
end
end LW

namespace LW
open PySem PySem.Spec PyProof.Rows L2 DL
section
variable {x : XQ} {Q : D → Store → Prop} {tt : Tg (x, Q)} {S S' : Store}
def nat (n : Nat) : D := .int n
theorem erase_map {α β : Type} {f : α → β} : ∀ {l : List α} {k : Nat}, (l.map f).eraseIdx k = (l.eraseIdx k).map f
  | [], _ => by simp
  | a :: l, 0 => rfl
  | a :: l, k + 1 => by rw [List.map_cons, List.eraseIdx_cons_succ, List.eraseIdx_cons_succ, List.map_cons, erase_map]
theorem erase_perm {α : Type} : ∀ {l : List α} {k : Nat} (h : k < l.length), (l[k] :: l.eraseIdx k).Perm l
  | a :: l, 0, _ => by simp
  | a :: l, k + 1, h => by
    rw [List.eraseIdx_cons_succ, List.getElem_cons_succ]
    exact (List.Perm.swap a _ _).trans ((erase_perm (Nat.lt_of_succ_lt_succ h)).cons a)
theorem turned_w {m : Int} (hW : WellOk S) (m0 : 0 ≤ m) (m1 : m ≤ 1000) (h : ∀ l (js : List Nat) S', 2 ≤ l → lstAt S' l = some (js.map nat) → js.Perm (List.range m.toNat) → WellOk S' → Fr S S' → Q (.loc l) S') : W (x, Q) tt (m__law_turned [.loc 1, .int m] S) := by
  have h2 := hW.len
  rw [wm__law_turned]
  unfold b__law_turned
  rw [WS_seq]
  simp only [↓reduceIte,↓ZP,↓W_K,↓trc,↓Zbs,↓Zgg,ZQ,Zhu,Zhz,Zia,Zic,okEq,okCmp,okIn,D.fits,D.fitsL,D.dep,D.depL,D.eqv,D.eqvL,D.alike,D.alikeL,Nat.reduceAdd,Nat.reduceSub,c02,Zkf,Zkg,Zki,Nat.reduceEqDiff,Nat.reduceLeDiff,Int.reduceAdd,Int.reduceSub,Int.reduceMul,Int.reduceNeg,Int.reducePow,Int.reduceLT,Int.reduceLE,Int.reduceEq,Int.reduceToNat,qn1,qn2,qn3,qn4,qn5,qk1,qk5,lq1,lq2,lq3,lq4,lq5,at0,at1,at2,at3,at4,at5,Znb,uq1,uq2,uq3,uq4,oq1,oq2,oq3,oq4,tq1,tq2,tq3,tq4,tq5,sl0,slS,lk0,Znh,Zni,Znj,Znk,Znl,Znm,Znn,Zno,Znp,Znv,Zny,Zof,Zog,reduceCtorEq,Zok]
  refine ⟨by unfold RgL okB; omega, ?_⟩
  have e0 : intsTo 0 (m - 0).toNat = (List.range m.toNat).map nat := by
    rw [Int.sub_zero]
    unfold intsTo
    refine List.map_congr_left fun i _ => ?_
    show D.int _ = D.int _
    rw [Int.zero_add]
  rw [e0]
  simp only [↓reduceIte,↓ZP,↓W_K,↓trc,↓Zbi,↓Zbs,↓Zgg,ZQ,Zhu,Zhz,Zia,Zic,okEq,okCmp,okIn,D.fits,D.fitsL,D.dep,D.depL,D.eqv,D.eqvL,D.alike,D.alikeL,Nat.reduceAdd,Nat.reduceSub,c02,Zkf,Zkg,Zki,Nat.reduceEqDiff,Nat.reduceLeDiff,Int.reduceAdd,Int.reduceSub,Int.reduceMul,Int.reduceNeg,Int.reducePow,Int.reduceLT,Int.reduceLE,Int.reduceEq,Int.reduceToNat,qn1,qn2,qn3,qn4,qn5,qk1,qk5,lq1,lq2,lq3,lq4,lq5,at0,at1,at2,at3,at4,at5,Znb,uq1,uq2,uq3,uq4,oq1,oq2,oq3,oq4,tq1,tq2,tq3,tq4,tq5,sl0,slS,lk0,Znh,Zni,Znj,Znk,Znl,Znm,Znn,Zno,Znp,Znv,Zny,Zof,Zog,reduceCtorEq,Zok]
  refine ⟨by constructor <;> omega, ?_⟩
  have eS : (S ++ [Cell.lst ((List.range m.toNat).map nat)]).length = S.length + 1 := by simp
  rw [eS]
  refine WS_rloop (fun i σ S' => WellOk S' ∧ Fr S S' ∧ ∃ (ls ts : List Nat) (p : Option D), σ = [some (.loc 1), some (.int m), some (.loc S.length), some (.loc (S.length + 1)), p] ∧ lstAt S' S.length = some (ls.map nat) ∧ lstAt S' (S.length + 1) = some (ts.map nat) ∧ (ts ++ ls).Perm (List.range m.toNat) ∧ (ts.length : Int) = i)
    ⟨(hW.app _).app _, ((Fr.refl S).app _).app _, _, [], _, rfl, lstAt_app lstAt_new, by rw [← eS]; exact lstAt_new, List.Perm.refl _, rfl⟩ ?_ ?_
  · rintro i σ S1 i0 i1 ⟨hW1, F1, ls, ts, p, rfl, hA, hB, hp, ht⟩
    have hlen : ((ls.map nat).length : Int) = ls.length := by rw [List.length_map]
    have hpl := hp.length_eq
    rw [List.length_append, List.length_range] at hpl
    simp only [↓reduceIte,↓ZP,↓W_K,↓trc,↓Zbi,↓Zbs,↓Zgg,ZQ,Zhu,Zhz,Zia,Zic,okEq,okCmp,okIn,D.fits,D.fitsL,D.dep,D.depL,D.eqv,D.eqvL,D.alike,D.alikeL,Nat.reduceAdd,Nat.reduceSub,c02,Zkf,Zkg,Zki,Nat.reduceEqDiff,Nat.reduceLeDiff,Int.reduceAdd,Int.reduceSub,Int.reduceMul,Int.reduceNeg,Int.reducePow,Int.reduceLT,Int.reduceLE,Int.reduceEq,Int.reduceToNat,qn1,qn2,qn3,qn4,qn5,qk1,qk5,lq1,lq2,lq3,lq4,lq5,at0,at1,at2,at3,at4,at5,Znb,uq1,uq2,uq3,uq4,oq1,oq2,oq3,oq4,tq1,tq2,tq3,tq4,tq5,sl0,slS,lk0,Znh,Zni,Znj,Znk,Znl,Znm,Znn,Zno,Znp,Znv,Zny,Zof,Zog,reduceCtorEq,Zok, hA, hlen]
    refine ⟨by rw [hB]; rfl, ?_⟩
    refine dip_w hW1 (by omega) fun v S2 v0 v1 hW2 F2 => ?_
    have hA2 := F2.lst h2 hA
    have hB2 := F2.lst (by omega) hB
    have hv : v.toNat < ls.length := by omega
    have hix : ixN (ls.map nat).length v = some v.toNat := by
      unfold ixN
      rw [if_pos v0, if_pos (by rw [List.length_map]; omega)]
    have hgt : (ls.map nat)[v.toNat]? = some (nat ls[v.toNat]) := by rw [List.getElem?_map, List.getElem?_eq_getElem hv]; rfl
    simp only [↓reduceIte,↓ZP,↓W_K,↓trc,↓Zbi,↓Zbs,↓Zgg,ZQ,Zhu,Zhz,Zia,Zic,okEq,okCmp,okIn,D.fits,D.fitsL,D.dep,D.depL,D.eqv,D.eqvL,D.alike,D.alikeL,Nat.reduceAdd,Nat.reduceSub,c02,Zkg,Zki,Nat.reduceEqDiff,Nat.reduceLeDiff,Int.reduceAdd,Int.reduceSub,Int.reduceMul,Int.reduceNeg,Int.reducePow,Int.reduceLT,Int.reduceLE,Int.reduceEq,Int.reduceToNat,qn1,qn2,qn3,qn4,qn5,qk1,qk5,lq1,lq2,lq3,lq4,lq5,at0,at1,at2,at3,at4,at5,Znb,uq1,uq2,uq3,uq4,oq1,oq2,oq3,oq4,tq1,tq2,tq3,tq4,tq5,sl0,slS,lk0,Znh,Zni,Znj,Znk,Znl,Znm,Znn,Zno,Znp,Znv,Zny,Zof,Zog,reduceCtorEq,Zok, hA2, hix, hgt]
    have hB3 : lstAt (S2.set S.length (.lst ((ls.map nat).eraseIdx v.toNat))) (S.length + 1) = some (ts.map nat) := by rw [lstAt_set_ne (by omega)]; exact hB2
    have hA3 : lstAt (S2.set S.length (.lst ((ls.map nat).eraseIdx v.toNat))) S.length = some ((ls.map nat).eraseIdx v.toNat) := lstAt_setE (by rw [hA2]; rfl)
    simp only [↓reduceIte,↓ZP,↓W_K,↓trc,↓Zbi,↓Zbs,↓Zgg,ZQ,Zhu,Zhz,Zia,Zic,okEq,okCmp,okIn,D.fits,D.fitsL,D.dep,D.depL,D.eqv,D.eqvL,D.alike,D.alikeL,Nat.reduceAdd,Nat.reduceSub,c02,Zkg,Zki,Nat.reduceEqDiff,Nat.reduceLeDiff,Int.reduceAdd,Int.reduceSub,Int.reduceMul,Int.reduceNeg,Int.reducePow,Int.reduceLT,Int.reduceLE,Int.reduceEq,Int.reduceToNat,qn1,qn2,qn3,qn4,qn5,qk1,qk5,lq1,lq2,lq3,lq4,lq5,at0,at1,at2,at3,at4,at5,Znb,uq1,uq2,uq3,uq4,oq1,oq2,oq3,oq4,tq1,tq2,tq3,tq4,tq5,sl0,slS,lk0,Znh,Zni,Znj,Znk,Znl,Znm,Znn,Zno,Znp,Znv,Zny,Zof,Zog,reduceCtorEq,Zok, hB3]
    refine ⟨by rw [List.length_map, sizeLine_eq]; omega, (hW2.set h2).set (by omega), ((F1.trans F2).set (Nat.le_refl _)).set (by omega), ls.eraseIdx v.toNat, ts ++ [ls[v.toNat]], _, rfl, ?_, ?_, ?_, by simp; omega⟩
    · rw [lstAt_set_ne (by omega), hA3, erase_map]
    · rw [lstAt_setE (by rw [hB3]; rfl), List.map_append]; rfl
    · rw [List.append_assoc]
      exact ((erase_perm hv).append_left ts).trans hp
  · rintro σ S1 ⟨hW1, F1, ls, ts, p, rfl, hA, hB, hp, ht⟩
    have hpl := hp.length_eq
    rw [List.length_append, List.length_range] at hpl
    have : ls = [] := List.length_eq_zero_iff.mp (by omega)
    subst this
    rw [List.append_nil] at hp
    simp only [↓reduceIte,↓ZP,↓W_K,↓trc,↓Zbi,↓Zbs,↓Zgg,ZQ,Zhu,Zhz,Zia,Zic,okEq,okCmp,okIn,D.fits,D.fitsL,D.dep,D.depL,D.eqv,D.eqvL,D.alike,D.alikeL,Nat.reduceAdd,Nat.reduceSub,c02,Zkf,Zkg,Zki,Nat.reduceEqDiff,Nat.reduceLeDiff,Int.reduceAdd,Int.reduceSub,Int.reduceMul,Int.reduceNeg,Int.reducePow,Int.reduceLT,Int.reduceLE,Int.reduceEq,Int.reduceToNat,qn1,qn2,qn3,qn4,qn5,qk1,qk5,lq1,lq2,lq3,lq4,lq5,at0,at1,at2,at3,at4,at5,Znb,uq1,uq2,uq3,uq4,oq1,oq2,oq3,oq4,tq1,tq2,tq3,tq4,tq5,sl0,slS,lk0,Znh,Zni,Znj,Znk,Znl,Znm,Znn,Zno,Znp,Znv,Zny,Zof,Zog,reduceCtorEq,Zok]
    exact h _ ts _ (by omega) hB hp hW1 F1
end
end LW

namespace LW
open PySem PySem.Spec PyProof.Rows L2 DL
section
variable {x : XQ} {Q : D → Store → Prop} {tt : Tg (x, Q)} {S S' : Store}
theorem qx : ∀ c ∈ (Str.ofString "qxjzkvwy").cps.toList, okC 0 c = true := by decide +kernel
theorem q0 : ∀ c ∈ (Str.ofString "0q9x1j8z2k7").cps.toList, okC 1 c = true := by decide +kernel
theorem okC_S {k c : Nat} (h : okC 1 c = true) : okC (k + 1) c = true := h
theorem scan_app : ∀ {a b : List Nat} {k : Nat}, scanN k a = none → (∀ c ∈ b, okC (k + a.length) c = true) → b.length ≤ 1 → scanN k (a ++ b) = none
  | [], [], k, _, _, _ => rfl
  | [], [c], k, _, h, _ => by
    rw [List.nil_append, scanN, if_pos (by simpa using h c (by simp))]; rfl
  | [], _ :: _ :: _, k, _, _, hl => by simp at hl
  | a :: r, b, k, h, hb, hl => by
    rw [scanN] at h
    split at h
    · rename_i ho
      rw [List.cons_append, scanN, if_pos ho]
      exact scan_app h (fun c hc => by
        have := hb c hc
        rw [List.length_cons] at this
        rw [show k + 1 + r.length = k + (r.length + 1) by omega]
        exact this) hl
    · cases h

def NmH (n : Str) : Prop := Nm n ∧ (cl n).head? ≠ some 109
theorem qx_m : ∀ c ∈ (Str.ofString "qxjzkvwy").cps.toList, c ≠ 109 := by decide +kernel
theorem at_mem {α : Type} {xs : List α} {i : Int} {d : α} (h : atI xs i = some d) : d ∈ xs := by
  unfold atI at h
  cases q : ixN xs.length i with
  | none => rw [q] at h; cases h
  | some j =>
    rw [q] at h
    exact List.mem_of_getElem? h
/-- a name when none stands before -/
theorem name0_w {l : Nat} (hW : WellOk S) (h2 : 2 ≤ l) (hl : lstAt S l = some []) (h : ∀ n S', NmH n → WellOk S' → Fr S S' → Q (.str n) S') : W (x, Q) tt (m__law_name [.loc 1, .loc l] S) := by
  simp only [↓reduceIte,↓ZP,↓W_K,↓trc,↓Zbi,↓Zbs,↓Zgg,ZQ,Zhu,Zhz,Zia,Zic,okEq,okCmp,okIn,D.fits,D.fitsL,D.dep,D.depL,D.eqv,D.eqvL,D.alike,D.alikeL,Nat.reduceAdd,Nat.reduceSub,c02,Zkf,Zkg,Zki,Nat.reduceEqDiff,Nat.reduceLeDiff,Int.reduceAdd,Int.reduceSub,Int.reduceMul,Int.reduceNeg,Int.reducePow,Int.reduceLT,Int.reduceLE,Int.reduceEq,Int.reduceToNat,qn1,qn2,qn3,qn4,qn5,qk1,qk5,lq1,lq2,lq3,lq4,lq5,at0,at1,at2,at3,at4,at5,Znb,uq1,uq2,uq3,uq4,oq1,oq2,oq3,oq4,tq1,tq2,tq3,tq4,tq5,sl0,slS,lk0,Znh,Zni,Znj,Znk,Znl,Znm,Znn,Zno,Znp,Znv,Zny,Zof,Zog,reduceCtorEq,Zok, wm__law_name, b__law_name, hl]
  refine ⟨by decide, ?_⟩
  refine WS_rloop (fun i σ S' => i = 0 ∧ S' = S ∧ ∃ p q r, σ = [some (.loc 1), some (.loc l), p, q, r]) ⟨rfl, rfl, _, _, _, rfl⟩ ?_ ?_
  · rintro i σ S1 i0 i1 ⟨rfl, rfl, p, q, r, rfl⟩
    simp only [↓reduceIte,↓ZP,↓W_K,↓trc,↓Zbi,↓Zbs,↓Zgg,ZQ,Zhu,Zhz,Zia,Zic,okEq,okCmp,okIn,D.fits,D.fitsL,D.dep,D.depL,D.eqv,D.eqvL,D.alike,D.alikeL,Nat.reduceAdd,Nat.reduceSub,c02,Zkf,Zkg,Zki,Nat.reduceEqDiff,Nat.reduceLeDiff,Int.reduceAdd,Int.reduceSub,Int.reduceMul,Int.reduceNeg,Int.reducePow,Int.reduceLT,Int.reduceLE,Int.reduceEq,Int.reduceToNat,qn1,qn2,qn3,qn4,qn5,qk1,qk5,lq1,lq2,lq3,lq4,lq5,at0,at1,at2,at3,at4,at5,Znb,uq1,uq2,uq3,uq4,oq1,oq2,oq3,oq4,tq1,tq2,tq3,tq4,tq5,sl0,slS,lk0,Znh,Zni,Znj,Znk,Znl,Znm,Znn,Zno,Znp,Znv,Zny,Zof,Zog,reduceCtorEq,Zok]
    refine dip_w hW (by omega) fun v S2 v0 v1 hW2 F2 => ?_
    simp only [↓reduceIte,↓ZP,↓W_K,↓trc,↓Zbi,↓Zbs,↓Zgg,ZQ,Zhu,Zhz,Zia,Zic,okEq,okCmp,okIn,D.fits,D.fitsL,D.dep,D.depL,D.eqv,D.eqvL,D.alike,D.alikeL,Nat.reduceAdd,Nat.reduceSub,c02,Zkf,Zkg,Zki,Nat.reduceEqDiff,Nat.reduceLeDiff,Int.reduceAdd,Int.reduceSub,Int.reduceMul,Int.reduceNeg,Int.reducePow,Int.reduceLT,Int.reduceLE,Int.reduceEq,Int.reduceToNat,qn1,qn2,qn3,qn4,qn5,qk1,qk5,lq1,lq2,lq3,lq4,lq5,at0,at1,at2,at3,at4,at5,Znb,uq1,uq2,uq3,uq4,oq1,oq2,oq3,oq4,tq1,tq2,tq3,tq4,tq5,sl0,slS,lk0,Znh,Zni,Znj,Znk,Znl,Znm,Znn,Zno,Znp,Znv,Zny,Zof,Zog,reduceCtorEq,Zok]
    refine ⟨sl (by decide), ?_⟩
    refine WM_in v0 (by have : (Str.ofString "qxjzkvwy").cps.toList.length = 8 := by decide
                        omega) fun c hc => ?_
    simp only [↓reduceIte,↓ZP,↓W_K,↓trc,↓Zbi,↓Zbs,↓Zgg,ZQ,Zhu,Zhz,Zia,Zic,okEq,okCmp,okIn,D.fits,D.fitsL,D.dep,D.depL,D.eqv,D.eqvL,D.alike,D.alikeL,Nat.reduceAdd,Nat.reduceSub,c02,Zkf,Zkg,Zki,Nat.reduceEqDiff,Nat.reduceLeDiff,Int.reduceAdd,Int.reduceSub,Int.reduceMul,Int.reduceNeg,Int.reducePow,Int.reduceLT,Int.reduceLE,Int.reduceEq,Int.reduceToNat,qn1,qn2,qn3,qn4,qn5,qk1,qk5,lq1,lq2,lq3,lq4,lq5,at0,at1,at2,at3,at4,at5,Znb,uq1,uq2,uq3,uq4,oq1,oq2,oq3,oq4,tq1,tq2,tq3,tq4,tq5,sl0,slS,lk0,Znh,Zni,Znj,Znk,Znl,Znm,Znn,Zno,Znp,Znv,Zny,Zof,Zog,reduceCtorEq,Zok]
    refine dip_w hW2 (by omega) fun k S3 k0 k1 hW3 F3 => ?_
    simp only [↓reduceIte,↓ZP,↓W_K,↓trc,↓Zbi,↓Zbs,↓Zgg,ZQ,Zhu,Zhz,Zia,Zic,okEq,okCmp,okIn,D.fits,D.fitsL,D.dep,D.depL,D.eqv,D.eqvL,D.alike,D.alikeL,Nat.reduceAdd,Nat.reduceSub,c02,Zkf,Zkg,Zki,Nat.reduceEqDiff,Nat.reduceLeDiff,Int.reduceAdd,Int.reduceSub,Int.reduceMul,Int.reduceNeg,Int.reducePow,Int.reduceLT,Int.reduceLE,Int.reduceEq,Int.reduceToNat,qn1,qn2,qn3,qn4,qn5,qk1,qk5,lq1,lq2,lq3,lq4,lq5,at0,at1,at2,at3,at4,at5,Znb,uq1,uq2,uq3,uq4,oq1,oq2,oq3,oq4,tq1,tq2,tq3,tq4,tq5,sl0,slS,lk0,Znh,Zni,Znj,Znk,Znl,Znm,Znn,Zno,Znp,Znv,Zny,Zof,Zog,reduceCtorEq,Zok]
    refine ⟨by constructor <;> omega, ?_⟩
    refine WS_rloop (fun i σ S' => WellOk S' ∧ Fr S1 S' ∧ ∃ p n r, σ = [some (.loc 1), some (.loc l), p, some (.str n), r] ∧ scanN 0 n.cps.toList = none ∧ (n.length : Int) = 1 + i ∧ ∃ t, cl n = c :: t) ⟨hW3, F2.trans F3, _, _, _, rfl, by simp [scanN, qx c hc], rfl, [], rfl⟩ ?_ ?_
    · rintro j σ S4 j0 j1 ⟨hW4, F4, p, n, r, rfl, hn1, hnl, t, ht⟩
      simp only [↓reduceIte,↓ZP,↓W_K,↓trc,↓Zbi,↓Zbs,↓Zgg,ZQ,Zhu,Zhz,Zia,Zic,okEq,okCmp,okIn,D.fits,D.fitsL,D.dep,D.depL,D.eqv,D.eqvL,D.alike,D.alikeL,Nat.reduceAdd,Nat.reduceSub,c02,Zkf,Zkg,Zki,Nat.reduceEqDiff,Nat.reduceLeDiff,Int.reduceAdd,Int.reduceSub,Int.reduceMul,Int.reduceNeg,Int.reducePow,Int.reduceLT,Int.reduceLE,Int.reduceEq,Int.reduceToNat,qn1,qn2,qn3,qn4,qn5,qk1,qk5,lq1,lq2,lq3,lq4,lq5,at0,at1,at2,at3,at4,at5,Znb,uq1,uq2,uq3,uq4,oq1,oq2,oq3,oq4,tq1,tq2,tq3,tq4,tq5,sl0,slS,lk0,Znh,Zni,Znj,Znk,Znl,Znm,Znn,Zno,Znp,Znv,Zny,Zof,Zog,reduceCtorEq,Zok]
      refine dip_w hW4 (by omega) fun v S5 v0 v1 hW5 F5 => ?_
      simp only [↓reduceIte,↓ZP,↓W_K,↓trc,↓Zbi,↓Zbs,↓Zgg,ZQ,Zhu,Zhz,Zia,Zic,okEq,okCmp,okIn,D.fits,D.fitsL,D.dep,D.depL,D.eqv,D.eqvL,D.alike,D.alikeL,Nat.reduceAdd,Nat.reduceSub,c02,Zkf,Zkg,Zki,Nat.reduceEqDiff,Nat.reduceLeDiff,Int.reduceAdd,Int.reduceSub,Int.reduceMul,Int.reduceNeg,Int.reducePow,Int.reduceLT,Int.reduceLE,Int.reduceEq,Int.reduceToNat,qn1,qn2,qn3,qn4,qn5,qk1,qk5,lq1,lq2,lq3,lq4,lq5,at0,at1,at2,at3,at4,at5,Znb,uq1,uq2,uq3,uq4,oq1,oq2,oq3,oq4,tq1,tq2,tq3,tq4,tq5,sl0,slS,lk0,Znh,Zni,Znj,Znk,Znl,Znm,Znn,Zno,Znp,Znv,Zny,Zof,Zog,reduceCtorEq,Zok]
      refine ⟨sl (by decide), ?_⟩
      refine WM_in v0 (by have : (Str.ofString "0q9x1j8z2k7").cps.toList.length = 11 := by decide
                          omega) fun c' hc' => ?_
      simp only [↓reduceIte,↓ZP,↓W_K,↓trc,↓Zbi,↓Zbs,↓Zgg,ZQ,Zhu,Zhz,Zia,Zic,okEq,okCmp,okIn,D.fits,D.fitsL,D.dep,D.depL,D.eqv,D.eqvL,D.alike,D.alikeL,Nat.reduceAdd,Nat.reduceSub,c02,Zkf,Zkg,Zki,Nat.reduceEqDiff,Nat.reduceLeDiff,Int.reduceAdd,Int.reduceSub,Int.reduceMul,Int.reduceNeg,Int.reducePow,Int.reduceLT,Int.reduceLE,Int.reduceEq,Int.reduceToNat,qn1,qn2,qn3,qn4,qn5,qk1,qk5,lq1,lq2,lq3,lq4,lq5,at0,at1,at2,at3,at4,at5,Znb,uq1,uq2,uq3,uq4,oq1,oq2,oq3,oq4,tq1,tq2,tq3,tq4,tq5,sl0,slS,lk0,Znh,Zni,Znj,Znk,Znl,Znm,Znn,Zno,Znp,Znv,Zny,Zof,Zog,reduceCtorEq,Zok]
      have e1 : (⟨#[c']⟩ : Str).length = 1 := rfl
      refine ⟨by rw [e1, sizeLine_eq]; omega, hW5, F4.trans F5, _, _, _, rfl, ?_, by rw [len_app, e1]; omega, t ++ [c'], by show (n ++ (⟨#[c']⟩ : Str)).cps.toList = _; rw [cps_app, show n.cps.toList = c :: t from ht]; rfl⟩
      rw [cps_app]
      refine scan_app hn1 (fun d hd => ?_) (by simp)
      have : d = c' := by simpa using hd
      subst this
      have hlz : n.cps.toList.length = n.length := Array.length_toList
      rw [hlz, Nat.zero_add, show n.length = (n.length - 1) + 1 by omega]
      exact okC_S (q0 _ hc')
    · rintro σ S4 ⟨hW4, F4, p, n, r, rfl, hn1, hnl, t, ht⟩
      have hl4 := F4.lst h2 hl
      have hnm : Nm n := nm_of (by omega) (by omega) hn1
      have hok := okIn_names (n := n) (ns := []) hnm.st (by simp)
      simp only [↓reduceIte,↓ZP,↓W_K,↓trc,↓Zbi,↓Zbs,↓Zgg,ZQ,Zhu,Zhz,Zia,Zic,okEq,okCmp,okIn,D.fits,D.fitsL,D.dep,D.depL,D.eqv,D.eqvL,D.alike,D.alikeL,Nat.reduceAdd,Nat.reduceSub,c02,Zkf,Zkg,Zki,Nat.reduceEqDiff,Nat.reduceLeDiff,Int.reduceAdd,Int.reduceSub,Int.reduceMul,Int.reduceNeg,Int.reducePow,Int.reduceLT,Int.reduceLE,Int.reduceEq,Int.reduceToNat,qn1,qn2,qn3,qn4,qn5,qk1,qk5,lq1,lq2,lq3,lq4,lq5,at0,at1,at2,at3,at4,at5,Znb,uq1,uq2,uq3,uq4,oq1,oq2,oq3,oq4,tq1,tq2,tq3,tq4,tq5,sl0,slS,lk0,Znh,Zni,Znj,Znk,Znl,Znm,Znn,Zno,Znp,Znv,Zny,Zof,Zog,reduceCtorEq,Zok, hl4]
      refine ⟨hnm.st, fun _ => h n _ ⟨hnm, ?_⟩ hW4 F4, fun z => by cases z⟩
      rw [ht]
      have := qx_m c hc
      simpa using this
  · rintro σ S1 ⟨h1, _⟩
    exact absurd h1 (by decide)
structure Fld where
  n : Str
  lo : Int
  hi : Int
def Fld.d (f : Fld) : D := .tup [.str f.n, .int f.lo, .int f.hi]
def FD (fs : List Fld) : D := .tup (fs.map Fld.d)
theorem fd_eq (g : Fld) : g.d = .tup [.str g.n, .int g.lo, .int g.hi] := rfl
theorem ixFD {fs : List Fld} {i : Int} {Q : D → Store → Prop} {tt : Tg Q} : WO Q tt (oIx (FD fs) (.int i) S) = WM (fun d => Q d S) tg (atI (fs.map Fld.d) i) := o_ixT
theorem lenFD {fs : List Fld} {Q : D → Store → Prop} {tt : Tg Q} : WO Q tt (oLen [FD fs] S) = Q (.int fs.length) S := o_lenT.trans (by rw [List.length_map])
/-- a field of at most twenty answers -/
structure Fld.ok (f : Fld) : Prop where
  nm : Nm f.n
  le : f.lo ≤ f.hi
  wide : f.hi ≤ f.lo + 19
  low : -1000000 ≤ f.lo
  high : f.hi ≤ 1000000
structure FsOk (fs : List Fld) : Prop where
  ok : ∀ f ∈ fs, f.ok
  nd : (fs.map (·.n)).Nodup
def nmD : D → D
  | .tup (n :: _) => n
  | _ => .non
theorem nmD_map {fs : List Fld} : (fs.map Fld.d).map nmD = (fs.map (·.n)).map D.str := by
  rw [List.map_map, List.map_map]; rfl
theorem lstAt_mono {l : Nat} {xs : List D} (h : lstAt S l = some xs) (F : Fk 0 S S') : lstAt S' l = some xs := F.lst (Nat.zero_le _) h
theorem nmH_of {z : Str} (h1 : 1 ≤ z.length) (h2 : z.length ≤ 8) (h : scanN 0 (cl z) = none) (hh : (cl z).head? ≠ some 109) : NmH z := ⟨nm_of h1 h2 h, hh⟩
/-- names from a stem -/
theorem scan_all2 : ∀ {r : List Nat} {k : Nat}, (∀ c ∈ r, okC (k + 1) c = true) → scanN (k + 1) r = none
  | [], _, _ => rfl
  | c :: r, k, h => by
    rw [scanN, if_pos (h c (by simp))]
    exact scan_all2 fun d hd => h d (List.mem_cons_of_mem _ hd)
theorem scan_okC : ∀ {r : List Nat} {k : Nat}, scanN k r = none → ∀ c ∈ r, okC 1 c = true
  | [], _, _, _, hc => by cases hc
  | a :: r, k, h, c, hc => by
    rw [scanN] at h
    split at h
    · rename_i ho
      rcases List.mem_cons.mp hc with e | hm
      · subst e
        unfold okC at ho ⊢
        simp only [Bool.or_eq_true, Bool.and_eq_true] at ho ⊢
        rcases ho with ho | ho
        · exact .inl ho
        · exact .inr ⟨by decide, ho.2⟩
      · exact scan_okC h c hm
    · cases h
theorem scan_head {c : Nat} {r : List Nat} (h0 : okC 0 c = true) (h : ∀ d ∈ r, okC 1 d = true) : scanN 0 (c :: r) = none := by
  rw [scanN, if_pos h0]
  exact scan_all2 h
end
end LW

namespace LW
open PySem PySem.Spec PyProof.Rows L2 DL
section
variable {x : XQ} {Q : D → Store → Prop} {tt : Tg (x, Q)} {S S' : Store}
theorem cl_cutTo {w : Str} {k : Int} (h : 0 ≤ k) : cl (cutS w none (some k)) = (cl w).take k.toNat := by
  unfold cl
  rw [cutS_cps]
  have e : HT.sIx w.length w.length (some k) = min k.toNat w.length := sIx_nn h
  have e2 : HT.sIx w.length 0 none = 0 := rfl
  rw [e, e2, List.drop_zero, Nat.sub_zero]
  have hl := cl_len w
  unfold cl at hl
  rw [List.take_eq_take_iff, hl]
  omega
structure StOk (st : Str) (c : Nat) (t : List Nat) : Prop where
  e : cl st = c :: t
  h0 : okC 0 c = true
  hm : c ≠ 109
  ht : ∀ d ∈ t, okC 1 d = true
  few : t.length ≤ 5
theorem nmH_cl {z : Str} {c : Nat} {t : List Nat} (e : cl z = c :: t) (h0 : okC 0 c = true) (hm : c ≠ 109) (ht : ∀ d ∈ t, okC 1 d = true) (hl : t.length ≤ 7) : NmH z := by
  have hz := cl_len z
  rw [e, List.length_cons] at hz
  refine nmH_of (by omega) (by omega) ?_ ?_
  · rw [e]; exact scan_head h0 ht
  · rw [e]; simpa using hm
theorem ok01 {c : Nat} (h : okC 0 c = true) : okC 1 c = true := by
  unfold okC at h ⊢
  simp only [Bool.or_eq_true, Bool.and_eq_true] at h ⊢
  rcases h with h | h
  · exact .inl h
  · exact .inr ⟨by decide, h.2⟩
theorem stem_of {n : Str} (h : NmH n) : ∃ c t, StOk (cutS n none (some 6)) c t := by
  obtain ⟨z, e, hl, hs⟩ := nm_str h.1.ok
  cases e
  have hcl := cl_len n
  have hh := h.2
  cases q : cl n with
  | nil => rw [q] at hcl; simp at hcl; omega
  | cons c t =>
    have q' : n.cps.toList = c :: t := q
    have hs' := hs
    rw [q'] at hs'
    rw [q] at hh
    have h0 : okC 0 c = true := by
      rw [scanN] at hs'
      split at hs'
      · assumption
      · cases hs'
    have hall := scan_okC hs'
    refine ⟨c, t.take 5, ⟨by rw [cl_cutTo (by decide), q]; rfl, h0, by simpa using hh, fun d hd => hall d (List.mem_cons_of_mem _ (List.mem_of_mem_take hd)), by rw [List.length_take]; omega⟩⟩
theorem pw6 : PowOk 10 6 := ⟨by decide, by decide, by decide⟩
theorem near_w (hW : WellOk S) (h : ∀ (fs : List Fld) S', 1 ≤ fs.length → fs.length ≤ 7 → FsOk fs → (∀ f ∈ fs, NmH f.n) → WellOk S' → Fr S S' → Q (FD fs) S') : W (x, Q) tt (m__law_near [.loc 1] S) := by
  have hS2 := hW.len
  have la : (Str.ofString "a").length = 1 := by decide
  have lab : (Str.ofString "ab").length = 2 := by decide
  have ca : cl (Str.ofString "a") = [97] := by decide
  have cab : cl (Str.ofString "ab") = [97, 98] := by decide
  rw [wm__law_near]
  unfold b__law_near
  rw [WS_seq]
  simp only [↓reduceIte,↓ZP,↓W_K,↓trc,↓Zbs,↓Zgg,ZQ,Zhu,Zhz,Zia,Zic,okEq,okCmp,okIn,D.fits,D.fitsL,D.dep,D.depL,D.eqv,D.eqvL,D.alike,D.alikeL,Nat.reduceAdd,Nat.reduceSub,c02,Zkf,Zkg,Zki,Nat.reduceEqDiff,Nat.reduceLeDiff,Int.reduceAdd,Int.reduceSub,Int.reduceMul,Int.reduceNeg,Int.reducePow,Int.reduceLT,Int.reduceLE,Int.reduceEq,Int.reduceToNat,qn1,qn2,qn3,qn4,qn5,qk1,qk5,lq1,lq2,lq3,lq4,lq5,at0,at1,at2,at3,at4,at5,Znb,uq1,uq2,uq3,uq4,oq1,oq2,oq3,oq4,tq1,tq2,tq3,tq4,tq5,sl0,slS,lk0,Znh,Zni,Znj,Znk,Znl,Znm,Znn,Zno,Znp,Znv,Zny,Zof,Zog,reduceCtorEq,Zok]
  refine name0_w (hW.app _) hS2 lstAt_new fun n S1 hn hW1 F1 => ?_
  have F01 := ((Fr.refl S).app [Cell.lst []]).trans F1
  have hnl := hn.1.len
  simp only [↓reduceIte,↓ZP,↓W_K,↓trc,↓Zbs,↓Zgg,ZQ,Zhu,Zhz,Zia,Zic,okEq,okCmp,okIn,D.fits,D.fitsL,D.dep,D.depL,D.eqv,D.eqvL,D.alike,D.alikeL,Nat.reduceAdd,Nat.reduceSub,c02,Zkf,Zkg,Zki,Nat.reduceEqDiff,Nat.reduceLeDiff,Int.reduceAdd,Int.reduceSub,Int.reduceMul,Int.reduceNeg,Int.reducePow,Int.reduceLT,Int.reduceLE,Int.reduceEq,Int.reduceToNat,qn1,qn2,qn3,qn4,qn5,qk1,qk5,lq1,lq2,lq3,lq4,lq5,at0,at1,at2,at3,at4,at5,Znb,uq1,uq2,uq3,uq4,oq1,oq2,oq3,oq4,tq1,tq2,tq3,tq4,tq5,sl0,slS,lk0,Znh,Zni,Znj,Znk,Znl,Znm,Znn,Zno,Znp,Znv,Zny,Zof,Zog,reduceCtorEq,Zok]
  refine ⟨by rw [sizeLine_eq]; omega, ?_⟩
  obtain ⟨c, t, hst⟩ := stem_of hn
  generalize cutS n none (some 6) = st at hst ⊢
  have hsl : st.length ≤ 6 := by rw [← cl_len, hst.e, List.length_cons]; have := hst.few; omega
  rw [WS_seq]
  simp only [↓reduceIte,↓ZP,↓W_K,↓trc,↓Zbs,↓Zgg,ZQ,Zhu,Zhz,Zia,Zic,okEq,okCmp,okIn,D.fits,D.fitsL,D.dep,D.depL,D.eqv,D.eqvL,D.alike,D.alikeL,Nat.reduceAdd,Nat.reduceSub,c02,Zkf,Zkg,Zki,Nat.reduceEqDiff,Nat.reduceLeDiff,Int.reduceAdd,Int.reduceSub,Int.reduceMul,Int.reduceNeg,Int.reducePow,Int.reduceLT,Int.reduceLE,Int.reduceEq,Int.reduceToNat,qn1,qn2,qn3,qn4,qn5,qk1,qk5,lq1,lq2,lq3,lq4,lq5,at0,at1,at2,at3,at4,at5,Znb,uq1,uq2,uq3,uq4,oq1,oq2,oq3,oq4,tq1,tq2,tq3,tq4,tq5,sl0,slS,lk0,Znh,Zni,Znj,Znk,Znl,Znm,Znn,Zno,Znp,Znv,Zny,Zof,Zog,reduceCtorEq,Zok]
  rw [WS_seq]
  simp only [↓reduceIte,↓ZP,↓W_K,↓trc,↓Zbs,ZQ,Zhu,Zhz,Zia,Zic,okEq,okCmp,okIn,D.fits,D.fitsL,D.dep,D.depL,D.eqv,D.eqvL,D.alike,D.alikeL,Nat.reduceAdd,Nat.reduceSub,c02,Zkf,Zkg,Zki,Nat.reduceEqDiff,Nat.reduceLeDiff,Int.reduceAdd,Int.reduceSub,Int.reduceMul,Int.reduceNeg,Int.reducePow,Int.reduceLT,Int.reduceLE,Int.reduceEq,Int.reduceToNat,qn1,qn2,qn3,qn4,qn5,qk1,qk5,lq1,lq2,lq3,lq4,lq5,at0,at1,at2,at3,at4,at5,Znb,uq1,uq2,uq3,uq4,oq1,oq2,oq3,oq4,tq1,tq2,tq3,tq4,tq5,sl0,slS,lk0,Znh,Zni,Znj,Znk,Znl,Znm,Znn,Zno,Znp,Znv,Zny,Zof,Zog,reduceCtorEq,Zok, it_tup]
  refine ⟨by rw [la, sizeLine_eq]; omega, by rw [lab, sizeLine_eq]; omega, by rw [la, sizeLine_eq]; omega, by rw [sizeLine_eq]; omega, by decide, ?_⟩
  obtain ⟨nms, hnms, hnl7, hna⟩ : ∃ nms, nms = [D.str (st ++ Str.ofString "a"), D.str st, D.str (st ++ Str.ofString "ab"), D.str (Str.ofString "a" ++ st), D.str (cutS st none (some 1)), D.str (strRep (Str.ofString "q") 8), D.str (Str.ofString "z")] ∧ nms.length = 7 ∧ ∀ y ∈ nms, ∃ z : Str, y = D.str z ∧ NmH z := by
    refine ⟨_, rfl, rfl, fun y hy => ?_⟩
    have hfew := hst.few
    have o97 : okC 1 97 = true := by decide +kernel
    have o98 : okC 1 98 = true := by decide +kernel
    simp only [List.mem_cons, List.not_mem_nil, or_false] at hy
    rcases hy with rfl | rfl | rfl | rfl | rfl | rfl | rfl
    · refine ⟨_, rfl, nmH_cl (c := c) (t := t ++ [97]) (by show cl _ = _; unfold cl; rw [cps_app]; show cl st ++ cl _ = _; rw [hst.e, ca]; rfl) hst.h0 hst.hm (fun d hd => ?_) (by simp; omega)⟩
      rcases List.mem_append.mp hd with hd | hd
      · exact hst.ht d hd
      · rw [List.mem_singleton.mp hd]; exact o97
    · exact ⟨_, rfl, nmH_cl hst.e hst.h0 hst.hm hst.ht (by omega)⟩
    · refine ⟨_, rfl, nmH_cl (c := c) (t := t ++ [97, 98]) (by show cl _ = _; unfold cl; rw [cps_app]; show cl st ++ cl _ = _; rw [hst.e, cab]; rfl) hst.h0 hst.hm (fun d hd => ?_) (by simp; omega)⟩
      rcases List.mem_append.mp hd with hd | hd
      · exact hst.ht d hd
      · simp only [List.mem_cons, List.not_mem_nil, or_false] at hd
        rcases hd with rfl | rfl
        · exact o97
        · exact o98
    · refine ⟨_, rfl, nmH_cl (c := 97) (t := c :: t) (by show cl _ = _; unfold cl; rw [cps_app]; show cl _ ++ cl st = _; rw [hst.e, ca]; rfl) (by decide +kernel) (by decide) (fun d hd => ?_) (by simp; omega)⟩
      rcases List.mem_cons.mp hd with rfl | hd
      · exact ok01 hst.h0
      · exact hst.ht d hd
    · exact ⟨_, rfl, nmH_cl (c := c) (t := []) (by rw [cl_cutTo (by decide), hst.e]; rfl) hst.h0 hst.hm (by simp) (by simp)⟩
    · exact ⟨_, rfl, nmH_of (by decide +kernel) (by decide +kernel) (by decide +kernel) (by decide +kernel)⟩
    · exact ⟨_, rfl, nmH_of (by decide +kernel) (by decide +kernel) (by decide +kernel) (by decide +kernel)⟩
  rw [← hnms]
  clear hnms
  simp only [↓reduceIte,↓ZP,↓W_K,↓trc,↓Zbs,ZQ,Zhu,Zhz,Zia,Zic,okEq,okCmp,okIn,D.fits,D.fitsL,D.dep,D.depL,D.eqv,D.eqvL,D.alike,D.alikeL,Nat.reduceAdd,Nat.reduceSub,c02,Zkf,Zkg,Zki,Nat.reduceEqDiff,Nat.reduceLeDiff,Int.reduceAdd,Int.reduceSub,Int.reduceMul,Int.reduceNeg,Int.reducePow,Int.reduceLT,Int.reduceLE,Int.reduceEq,Int.reduceToNat,qn1,qn2,qn3,qn4,qn5,qk1,qk5,lq1,lq2,lq3,lq4,lq5,at0,at1,at2,at3,at4,at5,Znb,uq1,uq2,uq3,uq4,oq1,oq2,oq3,oq4,tq1,tq2,tq3,tq4,tq5,sl0,slS,lk0,Znh,Zni,Znj,Znk,Znl,Znm,Znn,Zno,Znp,Znv,Zny,Zof,Zog,reduceCtorEq,Zok, o_tup, it_tup, hnl7]
  refine ⟨by rw [sizeLine_eq]; decide, ?_⟩
  have hS1 := hW1.len
  have hl1 := F01.len
  refine WS_loop (fun ds σ S' => WellOk S' ∧ Fr S S' ∧ (∀ y ∈ ds, y ∈ nms) ∧ ∃ (fs : List Fld) (p q : Option D), σ = [some (.loc 1), some (.str st), some (.loc S1.length), p, none, q, none, none] ∧ lstAt S' S1.length = some (fs.map Fld.d) ∧ FsOk fs ∧ (∀ f ∈ fs, NmH f.n) ∧ fs.length + ds.length ≤ 7 ∧ (1 ≤ fs.length ∨ ds ≠ []))
    ⟨hW1.app _, F01.app _, fun _ h => h, [], _, _, rfl, lstAt_new, ⟨by simp, by simp⟩, by simp, by show 0 + nms.length ≤ 7; omega, .inr (fun e => by rw [e] at hnl7; cases hnl7)⟩ ?_ ?_
  · rintro d ds σ S2 ⟨hW2, F2, hds, fs, p, q, rfl, hB, hok, hnh, hlen, hne⟩
    refine ⟨trivial, ?_⟩
    obtain ⟨z, rfl, hz⟩ := hna d (hds d (by simp))
    rw [List.length_cons] at hlen
    have hnn : ∀ z ∈ fs.map (·.n), NmOk z := fun z hz => by
      obtain ⟨f, hf, rfl⟩ := List.mem_map.mp hz
      exact (hok.ok f hf).nm.st
    have hzl := hz.1.len
    simp only [↓reduceIte,↓ZP,↓W_K,↓trc,↓Zbi,↓Zbs,↓Zgg,ZQ,Zhu,Zhz,Zia,Zic,okEq,okCmp,okIn,D.fits,D.fitsL,D.dep,D.depL,D.eqv,D.eqvL,D.alike,D.alikeL,Nat.reduceAdd,Nat.reduceSub,c02,Zkf,Zkg,Zki,Nat.reduceEqDiff,Nat.reduceLeDiff,Int.reduceAdd,Int.reduceSub,Int.reduceMul,Int.reduceNeg,Int.reducePow,Int.reduceLT,Int.reduceLE,Int.reduceEq,Int.reduceToNat,qn1,qn2,qn3,qn4,qn5,qk1,qk5,lq1,lq2,lq3,lq4,lq5,at0,at1,at2,at3,at4,at5,Znb,uq1,uq2,uq3,uq4,oq1,oq2,oq3,oq4,tq1,tq2,tq3,tq4,tq5,sl0,slS,lk0,Znh,Zni,Znj,Znk,Znl,Znm,Znn,Zno,Znp,Znv,Zny,Zof,Zog,reduceCtorEq,Zok, it_loc hB]
    refine W_cPure nmD (lstAt_iff.mp hB) (by rw [List.length_map, sizeLine_eq]; simp; omega) (fun d hd => ?_) ?_
    · obtain ⟨f, hf, rfl⟩ := List.mem_map.mp hd
      simp only [↓reduceIte,↓ZP,↓W_K,↓trc,↓Zbi,↓Zbs,↓Zgg,ZQ,Zhu,Zhz,Zia,Zic,okEq,okCmp,okIn,D.fits,D.fitsL,D.dep,D.depL,D.eqv,D.eqvL,D.alike,D.alikeL,Nat.reduceAdd,Nat.reduceSub,c02,Zkf,Zkg,Zki,Nat.reduceEqDiff,Nat.reduceLeDiff,Int.reduceAdd,Int.reduceSub,Int.reduceMul,Int.reduceNeg,Int.reducePow,Int.reduceLT,Int.reduceLE,Int.reduceEq,Int.reduceToNat,qn1,qn2,qn3,qn4,qn5,qk1,qk5,lq1,lq2,lq3,lq4,lq5,at0,at1,at2,at3,at4,at5,Znb,uq1,uq2,uq3,uq4,oq1,oq2,oq3,oq4,tq1,tq2,tq3,tq4,tq5,sl0,slS,lk0,Znh,Zni,Znj,Znk,Znl,Znm,Znn,Zno,Znp,Znv,Zny,Zof,Zog,reduceCtorEq,Zok, fd_eq, nmD]
    rw [List.nil_append, nmD_map]
    simp only [↓reduceIte,↓ZP,↓W_K,↓trc,↓Zbi,↓Zbs,↓Zgg,ZQ,Zhu,Zhz,Zia,Zic,okEq,okCmp,okIn,D.fits,D.fitsL,D.dep,D.depL,D.eqv,D.eqvL,D.alike,D.alikeL,Nat.reduceAdd,Nat.reduceSub,c02,Zkf,Zkg,Zki,Nat.reduceEqDiff,Nat.reduceLeDiff,Int.reduceAdd,Int.reduceSub,Int.reduceMul,Int.reduceNeg,Int.reducePow,Int.reduceLT,Int.reduceLE,Int.reduceEq,Int.reduceToNat,qn1,qn2,qn3,qn4,qn5,qk1,qk5,lq1,lq2,lq3,lq4,lq5,at0,at1,at2,at3,at4,at5,Znb,uq1,uq2,uq3,uq4,oq1,oq2,oq3,oq4,tq1,tq2,tq3,tq4,tq5,sl0,slS,lk0,Znh,Zni,Znj,Znk,Znl,Znm,Znn,Zno,Znp,Znv,Zny,Zof,Zog,reduceCtorEq,Zok]
    refine ⟨⟨hz.1.st, (okIn_names hz.1.st hnn).2.1⟩, fun g => ?_, fun g => ?_⟩
    · rw [inL_names, decide_eq_false_iff_not] at g
      refine ⟨by rw [sizeLine_eq]; omega, fun g2 => ?_, fun g2 => absurd (show (z.length : Int) < 9 by omega) g2⟩
      refine dip_w (hW2.app _) (by omega) fun v1 S3 a0 a1 hW3 F3 => ?_
      have F23 := ((Fr.refl S2).app [Cell.lst ((fs.map (·.n)).map D.str)]).trans F3
      simp only [↓reduceIte,↓ZP,↓W_K,↓trc,↓Zbi,↓Zbs,↓Zgg,ZQ,Zhu,Zhz,Zia,Zic,okEq,okCmp,okIn,D.fits,D.fitsL,D.dep,D.depL,D.eqv,D.eqvL,D.alike,D.alikeL,Nat.reduceAdd,Nat.reduceSub,c02,Zkf,Zkg,Zki,Nat.reduceEqDiff,Nat.reduceLeDiff,Int.reduceAdd,Int.reduceSub,Int.reduceMul,Int.reduceNeg,Int.reducePow,Int.reduceLT,Int.reduceLE,Int.reduceEq,Int.reduceToNat,qn1,qn2,qn3,qn4,qn5,qk1,qk5,lq1,lq2,lq3,lq4,lq5,at0,at1,at2,at3,at4,at5,Znb,uq1,uq2,uq3,uq4,oq1,oq2,oq3,oq4,tq1,tq2,tq3,tq4,tq5,sl0,slS,lk0,Znh,Zni,Znj,Znk,Znl,Znm,Znn,Zno,Znp,Znv,Zny,Zof,Zog,reduceCtorEq,Zok, pw6]
      refine dip_w (hW3.app _) (by omega) fun v2 S4 b0 b1 hW4 F4 => ?_
      have F34 := ((Fr.refl S3).app _).trans F4
      have hS3 := hW3.len
      simp only [↓reduceIte,↓ZP,↓W_K,↓trc,↓Zbi,↓Zbs,↓Zgg,ZQ,Zhu,Zhz,Zia,Zic,okEq,okCmp,okIn,D.fits,D.fitsL,D.dep,D.depL,D.eqv,D.eqvL,D.alike,D.alikeL,Nat.reduceAdd,Nat.reduceSub,c02,Zkf,Zkg,Zki,Nat.reduceEqDiff,Nat.reduceLeDiff,Int.reduceAdd,Int.reduceSub,Int.reduceMul,Int.reduceNeg,Int.reducePow,Int.reduceLT,Int.reduceLE,Int.reduceEq,Int.reduceToNat,qn1,qn2,qn3,qn4,qn5,qk1,qk5,lq1,lq2,lq3,lq4,lq5,at0,at1,at2,at3,at4,at5,Znb,uq1,uq2,uq3,uq4,oq1,oq2,oq3,oq4,tq1,tq2,tq3,tq4,tq5,sl0,slS,lk0,Znh,Zni,Znj,Znk,Znl,Znm,Znn,Zno,Znp,Znv,Zny,Zof,Zog,reduceCtorEq,Zok, F4.lst hS3 lstAt_new]
      refine WM_at b0 (by simp; omega) fun y hy => ?_
      obtain ⟨lo, rfl, lo1, lo2⟩ : ∃ lo : Int, y = .int lo ∧ -1000000 ≤ lo ∧ lo + 19 ≤ 1000000 := by
        simp only [List.mem_cons, List.not_mem_nil, or_false] at hy
        rcases hy with rfl | rfl | rfl | rfl <;> exact ⟨_, rfl, by omega, by omega⟩
      have F24 := F23.trans F34
      have hB4 := F24.lst (by omega) hB
      simp only [↓reduceIte,↓ZP,↓W_K,↓trc,↓Zbi,↓Zbs,↓Zgg,ZQ,Zhu,Zhz,Zia,Zic,okEq,okCmp,okIn,D.fits,D.fitsL,D.dep,D.depL,D.eqv,D.eqvL,D.alike,D.alikeL,Nat.reduceAdd,Nat.reduceSub,c02,Zkg,Zki,Nat.reduceEqDiff,Nat.reduceLeDiff,Int.reduceAdd,Int.reduceSub,Int.reduceMul,Int.reduceNeg,Int.reducePow,Int.reduceLT,Int.reduceLE,Int.reduceEq,Int.reduceToNat,qn1,qn2,qn3,qn4,qn5,qk1,qk5,lq1,lq2,lq3,lq4,lq5,at0,at1,at2,at3,at4,at5,Znb,uq1,uq2,uq3,uq4,oq1,oq2,oq3,oq4,tq1,tq2,tq3,tq4,tq5,sl0,slS,lk0,Znh,Zni,Znj,Znk,Znl,Znm,Znn,Zno,Znp,Znv,Zny,Zof,Zog,reduceCtorEq,Zok]
      refine ⟨by rw [hB4]; rfl, ?_⟩
      refine dip_w hW4 (by omega) fun v3 S5 c0 c1 hW5 F5 => ?_
      have hB5 := F5.lst (by omega) hB4
      simp only [↓reduceIte,↓ZP,↓W_K,↓trc,↓Zbi,↓Zbs,↓Zgg,ZQ,Zhu,Zhz,Zia,Zic,okEq,okCmp,okIn,D.fits,D.fitsL,D.dep,D.depL,D.eqv,D.eqvL,D.alike,D.alikeL,Nat.reduceAdd,Nat.reduceSub,c02,Zkg,Zki,Nat.reduceEqDiff,Nat.reduceLeDiff,Int.reduceAdd,Int.reduceSub,Int.reduceMul,Int.reduceNeg,Int.reducePow,Int.reduceLT,Int.reduceLE,Int.reduceEq,Int.reduceToNat,qn1,qn2,qn3,qn4,qn5,qk1,qk5,lq1,lq2,lq3,lq4,lq5,at0,at1,at2,at3,at4,at5,Znb,uq1,uq2,uq3,uq4,oq1,oq2,oq3,oq4,tq1,tq2,tq3,tq4,tq5,sl0,slS,lk0,Znh,Zni,Znj,Znk,Znl,Znm,Znn,Zno,Znp,Znv,Zny,Zof,Zog,reduceCtorEq,Zok, hB5]
      refine ⟨by rw [List.length_map, sizeLine_eq]; omega, hW5.set (by omega), ((F2.trans F24).trans F5).set hl1, fun y hy => hds y (List.mem_cons_of_mem _ hy), fs ++ [⟨z, lo, lo + v3⟩], _, _, rfl, ?_, ⟨fun f hf => ?_, ?_⟩, fun f hf => ?_, by simp; omega, .inl (by simp)⟩
      · rw [lstAt_setE (by rw [hB5]; rfl), List.map_append]; rfl
      · rcases List.mem_append.mp hf with hf | hf
        · exact hok.ok f hf
        · rw [List.mem_singleton.mp hf]
          exact ⟨hz.1, by simp only; omega, by simp only; omega, lo1, by simp only; omega⟩
      · rw [List.map_append, List.nodup_append]
        refine ⟨hok.nd, by simp, fun a ha b hb e => ?_⟩
        have : b = z := by simpa using hb
        rw [e, this] at ha
        exact g ha
      · rcases List.mem_append.mp hf with hf | hf
        · exact hnh f hf
        · rw [List.mem_singleton.mp hf]; exact hz
    · rw [inL_names, decide_eq_true_eq] at g
      refine ⟨hW2.app _, F2.app _, fun y hy => hds y (List.mem_cons_of_mem _ hy), fs, _, _, rfl, lstAt_app hB, hok, hnh, by omega, .inl ?_⟩
      cases fs with
      | nil => cases g
      | cons f fs => simp
  · rintro σ S2 ⟨hW2, F2, hds, fs, p, q, rfl, hB, hok, hnh, hlen, hne⟩
    refine ⟨trivial, ?_⟩
    have hf1 : 1 ≤ fs.length := by
      rcases hne with h | h
      · exact h
      · exact absurd rfl h
    have hfl : ((fs.map Fld.d).length : Int) = fs.length := by rw [List.length_map]
    simp only [List.length_nil] at hlen
    simp only [↓reduceIte,↓ZP,↓W_K,↓trc,↓Zbi,↓Zbs,↓Zgg,ZQ,Zhu,Zhz,Zia,Zic,okEq,okCmp,okIn,D.fits,D.fitsL,D.dep,D.depL,D.eqv,D.eqvL,D.alike,D.alikeL,Nat.reduceAdd,Nat.reduceSub,c02,Zkf,Zkg,Zki,Nat.reduceEqDiff,Nat.reduceLeDiff,Int.reduceAdd,Int.reduceSub,Int.reduceMul,Int.reduceNeg,Int.reducePow,Int.reduceLT,Int.reduceLE,Int.reduceEq,Int.reduceToNat,qn1,qn2,qn3,qn4,qn5,qk1,qk5,lq1,lq2,lq3,lq4,lq5,at0,at1,at2,at3,at4,at5,Znb,uq1,uq2,uq3,uq4,oq1,oq2,oq3,oq4,tq1,tq2,tq3,tq4,tq5,sl0,slS,lk0,Znh,Zni,Znj,Znk,Znl,Znm,Znn,Zno,Znp,Znv,Zny,Zof,Zog,reduceCtorEq,Zok, hB, hfl]
    refine turned_w hW2 (by omega) (by omega) fun l js S3 hl2 hL hp hW3 F3 => ?_
    have hB3 := F3.lst (by omega) hB
    have hpl := hp.length_eq
    rw [List.length_range] at hpl
    have hjl : ∀ j ∈ js, j < fs.length := fun j hj => by
      have := List.mem_range.mp (hp.mem_iff.mp hj)
      omega
    simp only [↓reduceIte,↓ZP,↓W_K,↓trc,↓Zbi,↓Zbs,↓Zgg,ZQ,Zhu,Zhz,Zia,Zic,okEq,okCmp,okIn,D.fits,D.fitsL,D.dep,D.depL,D.eqv,D.eqvL,D.alike,D.alikeL,Nat.reduceAdd,Nat.reduceSub,c02,Zkf,Zkg,Zki,Nat.reduceEqDiff,Nat.reduceLeDiff,Int.reduceAdd,Int.reduceSub,Int.reduceMul,Int.reduceNeg,Int.reducePow,Int.reduceLT,Int.reduceLE,Int.reduceEq,Int.reduceToNat,qn1,qn2,qn3,qn4,qn5,qk1,qk5,lq1,lq2,lq3,lq4,lq5,at0,at1,at2,at3,at4,at5,Znb,uq1,uq2,uq3,uq4,oq1,oq2,oq3,oq4,tq1,tq2,tq3,tq4,tq5,sl0,slS,lk0,Znh,Zni,Znj,Znk,Znl,Znm,Znn,Zno,Znp,Znv,Zny,Zof,Zog,reduceCtorEq,Zok, it_loc hL]
    refine W_cPure (fun d => (fs.map Fld.d).getD (ixD d) .non) (lstAt_iff.mp hL) (by rw [List.length_map, sizeLine_eq]; simp; omega) (fun d hd => ?_) ?_
    · obtain ⟨j, hj, rfl⟩ := List.mem_map.mp hd
      have := hjl j hj
      obtain ⟨y, y1, y2⟩ := atI_of (xs := fs.map Fld.d) (i := (j : Int)) (by omega) (by rw [List.length_map]; omega)
      have e3 : (fs.map Fld.d).getD (ixD (nat j)) .non = y := by
        rw [List.getD_eq_getElem?_getD]
        show ((fs.map Fld.d)[(j : Int).toNat]?).getD _ = y
        rw [y1]; rfl
      simp only [↓reduceIte,↓ZP,↓W_K,↓trc,↓Zbi,↓Zbs,↓Zgg,ZQ,Zhu,Zhz,Zia,Zic,okEq,okCmp,okIn,D.fits,D.fitsL,D.dep,D.depL,D.eqv,D.eqvL,D.alike,D.alikeL,Nat.reduceAdd,Nat.reduceSub,c02,Zkf,Zkg,Zki,Nat.reduceEqDiff,Nat.reduceLeDiff,Int.reduceAdd,Int.reduceSub,Int.reduceMul,Int.reduceNeg,Int.reducePow,Int.reduceLT,Int.reduceLE,Int.reduceEq,Int.reduceToNat,qn1,qn2,qn3,qn4,qn5,qk1,qk5,lq1,lq2,lq3,lq4,lq5,at0,at1,at2,at3,at4,at5,Znb,uq1,uq2,uq3,uq4,oq1,oq2,oq3,oq4,tq1,tq2,tq3,tq4,tq5,sl0,slS,lk0,Znh,Zni,Znj,Znk,Znl,Znm,Znn,Zno,Znp,Znv,Zny,Zof,Zog,reduceCtorEq,Zok, nat, hB3, y2]
      exact e3.symm
    rw [List.nil_append]
    obtain ⟨gs, hgs, hgp⟩ : ∃ gs : List Fld, (js.map nat).map (fun d => (fs.map Fld.d).getD (ixD d) .non) = gs.map Fld.d ∧ gs.Perm fs := by
      refine ⟨js.map fun j => fs.getD j ⟨"", 0, 0⟩, ?_, ?_⟩
      · rw [List.map_map, List.map_map]
        refine List.map_congr_left fun j hj => ?_
        have := hjl j hj
        show (fs.map Fld.d).getD (j : Int).toNat .non = (fs.getD j ⟨"", 0, 0⟩).d
        rw [Int.toNat_natCast, List.getD_eq_getElem?_getD, List.getD_eq_getElem?_getD, List.getElem?_map, List.getElem?_eq_getElem this]
        rfl
      · have e : (List.range fs.length).map (fun j => fs.getD j ⟨"", 0, 0⟩) = fs := by
          apply List.ext_getElem
          · simp
          · intro i h1 h2
            simp [List.getD_eq_getElem?_getD, h2]
        have := hp.map fun j => fs.getD j ⟨"", 0, 0⟩
        rw [Int.toNat_natCast, e] at this
        exact this
    rw [hgs]
    have hB4 := lstAt_app (T := [Cell.lst (gs.map Fld.d)]) hB3
    simp only [↓reduceIte,↓ZP,↓W_K,↓trc,↓Zbi,↓Zbs,↓Zgg,ZQ,Zhu,Zhz,Zia,Zic,okEq,okCmp,okIn,D.fits,D.fitsL,D.dep,D.depL,D.eqv,D.eqvL,D.alike,D.alikeL,Nat.reduceAdd,Nat.reduceSub,c02,Zkf,Zkg,Zki,Nat.reduceEqDiff,Nat.reduceLeDiff,Int.reduceAdd,Int.reduceSub,Int.reduceMul,Int.reduceNeg,Int.reducePow,Int.reduceLT,Int.reduceLE,Int.reduceEq,Int.reduceToNat,qn1,qn2,qn3,qn4,qn5,qk1,qk5,lq1,lq2,lq3,lq4,lq5,at0,at1,at2,at3,at4,at5,Znb,uq1,uq2,uq3,uq4,oq1,oq2,oq3,oq4,tq1,tq2,tq3,tq4,tq5,sl0,slS,lk0,Znh,Zni,Znj,Znk,Znl,Znm,Znn,Zno,Znp,Znv,Zny,Zof,Zog,reduceCtorEq,Zok, hB4, hfl]
    refine dip_w (hW3.app _) (by omega) fun k S4 k0 k1 hW4 F4 => ?_
    have hS3 := hW3.len
    have hG4 := F4.lst hS3 lstAt_new
    have ecut : DL.cutD (gs.map Fld.d) none (some (1 + k)) = (gs.take (1 + k).toNat).map Fld.d := by rw [cut_take (by omega), List.map_take]
    simp only [↓reduceIte,↓ZP,↓W_K,↓trc,↓Zbi,↓Zbs,↓Zgg,ZQ,Zhu,Zhz,Zia,Zic,okEq,okCmp,okIn,D.fits,D.fitsL,D.dep,D.depL,D.eqv,D.eqvL,D.alike,D.alikeL,Nat.reduceAdd,Nat.reduceSub,c02,Zkf,Zkg,Zki,Nat.reduceEqDiff,Nat.reduceLeDiff,Int.reduceAdd,Int.reduceSub,Int.reduceMul,Int.reduceNeg,Int.reducePow,Int.reduceLT,Int.reduceLE,Int.reduceEq,Int.reduceToNat,qn1,qn2,qn3,qn4,qn5,qk1,qk5,lq1,lq2,lq3,lq4,lq5,at0,at1,at2,at3,at4,at5,Znb,uq1,uq2,uq3,uq4,oq1,oq2,oq3,oq4,tq1,tq2,tq3,tq4,tq5,sl0,slS,lk0,Znh,Zni,Znj,Znk,Znl,Znm,Znn,Zno,Znp,Znv,Zny,Zof,Zog,reduceCtorEq,Zok, hG4, ecut]
    have hgl := hgp.length_eq
    refine h (gs.take (1 + k).toNat) _ (by rw [List.length_take]; omega) (by rw [List.length_take]; omega) ⟨fun f hf => hok.ok f (hgp.mem_iff.mp (List.mem_of_mem_take hf)), ?_⟩ (fun f hf => hnh f (hgp.mem_iff.mp (List.mem_of_mem_take hf))) (hW4.app _) ?_
    · rw [List.map_take]
      exact ((hgp.map (·.n)).nodup_iff.mpr hok.nd).sublist (List.take_sublist _ _)
    · exact ((F2.trans F3).trans (((Fr.refl S3).app _).trans F4)).app _
end
end LW

namespace LW
open PySem PySem.Spec PyProof.Rows L2 DL
section
variable {x : XQ} {Q : D → Store → Prop} {tt : Tg (x, Q)} {S S' : Store}
def fitV (f : Fld) (w n : Int) : Bool := if w = 1 then decide (f.lo < n ∧ n ≤ f.hi) else decide (f.lo ≤ n ∧ n < f.hi)
def fd0 : Fld := ⟨"", 0, 0⟩
def swI (fs : List Fld) (i w n : Int) : Str := if 0 ≤ i ∧ i < fs.length then (if w = 1 ∨ w = -1 then (if fitV (fs.getD i.toNat fd0) w n = true then "" else "answer") else "way") else "field"
def isI : D → Bool
  | .int _ => true
  | _ => false
def sw3 (fs : List Fld) : D → D → D → Str
  | .int i, .int w, .int n => swI fs i w n
  | _, _, _ => "shape"
def swL (fs : List Fld) : List D → Str
  | [a, b, c] => sw3 fs a b c
  | _ => "shape"
def swV (fs : List Fld) : D → Str
  | .tup xs => swL fs xs
  | _ => "shape"
theorem fit_at {fs : List Fld} {i : Int} (h : 0 ≤ i) (h2 : i < fs.length) : atI (fs.map Fld.d) i = some (fs.getD i.toNat fd0).d := by
  have h3 : i.toNat < fs.length := by omega
  obtain ⟨y, y1, y2⟩ := atI_of (xs := fs.map Fld.d) h (by rw [List.length_map]; exact h2)
  rw [y2, ← y1, List.getElem?_map, List.getD_eq_getElem?_getD, List.getElem?_eq_getElem h3]; rfl
theorem fits_w {fs : List Fld} {i w n : Int} (h0 : 0 ≤ i) (h1 : i < fs.length) (h : Q (.bl (fitV (fs.getD i.toNat fd0) w n)) S) : W (x, Q) tt (m_fits_field [FD fs, .tup [.int i, .int w, .int n]] S) := by
  have hat := fit_at h0 h1
  generalize fs.getD i.toNat fd0 = f at h hat
  simp only [↓reduceIte,↓ZP,↓W_K,↓trc,↓Zbi,↓Zbs,↓Zgg,ZQ,Zhu,Zhz,Zia,Zic,okEq,okCmp,okIn,D.fits,D.fitsL,D.dep,D.depL,D.eqv,D.eqvL,D.alike,D.alikeL,Nat.reduceAdd,Nat.reduceSub,c02,Zkf,Zkg,Zki,Nat.reduceEqDiff,Nat.reduceLeDiff,Int.reduceAdd,Int.reduceSub,Int.reduceMul,Int.reduceNeg,Int.reducePow,Int.reduceLT,Int.reduceLE,Int.reduceEq,Int.reduceToNat,qn1,qn2,qn3,qn4,qn5,qk1,qk5,lq1,lq2,lq3,lq4,lq5,at0,at1,at2,at3,at4,at5,Znb,uq1,uq2,uq3,uq4,oq1,oq2,oq3,oq4,tq1,tq2,tq3,tq4,tq5,sl0,slS,lk0,Znh,Zni,Znj,Znk,Znl,Znm,Znn,Zno,Znp,Znv,Zny,Zof,Zog,reduceCtorEq,Zok, wm_fits_field, b_fits_field, ixFD, hat, fd_eq]
  unfold fitV at h
  refine ⟨fun g => ?_, fun g => ?_⟩
  · rw [if_pos g] at h
    by_cases c : f.lo < n
    · have e : decide (f.lo < n ∧ n ≤ f.hi) = decide (n ≤ f.hi) := by simp [c]
      rw [e] at h
      exact .inl ⟨by simp [c], h⟩
    · have e : decide (f.lo < n ∧ n ≤ f.hi) = false := by simp [c]
      rw [e] at h
      exact .inr ⟨by simp [c], h⟩
  · rw [if_neg g] at h
    by_cases c : f.lo ≤ n
    · have e : decide (f.lo ≤ n ∧ n < f.hi) = decide (n < f.hi) := by simp [c]
      rw [e] at h
      exact .inl ⟨by simp [c], h⟩
    · have e : decide (f.lo ≤ n ∧ n < f.hi) = false := by simp [c]
      rw [e] at h
      exact .inr ⟨by simp [c], h⟩
theorem isInt_w {d : D} (hw : wf S d) (h : Q (.bl (isI d)) S) : W (x, Q) tt (m_is_integer [d] S) := by
  have hd := hw.nd
  cases d <;> (simp only [↓reduceIte,↓ZP,↓W_K,↓trc,↓Zbi,↓Zbs,↓Zgg,ZQ,Zhu,Zhz,Zia,Zic,okEq,okCmp,okIn,D.fits,D.fitsL,D.dep,D.depL,D.eqv,D.eqvL,D.alike,D.alikeL,Nat.reduceAdd,Nat.reduceSub,c02,Zkf,Zkg,Zki,Nat.reduceEqDiff,Nat.reduceLeDiff,Int.reduceAdd,Int.reduceSub,Int.reduceMul,Int.reduceNeg,Int.reducePow,Int.reduceLT,Int.reduceLE,Int.reduceEq,Int.reduceToNat,qn1,qn2,qn3,qn4,qn5,qk1,qk5,lq1,lq2,lq3,lq4,lq5,at0,at1,at2,at3,at4,at5,Znb,uq1,uq2,uq3,uq4,oq1,oq2,oq3,oq4,tq1,tq2,tq3,tq4,tq5,sl0,slS,lk0,Znh,Zni,Znj,Znk,Znl,Znm,Znn,Zno,Znp,Znv,Zny,Zof,Zog,reduceCtorEq,Zok, wm_is_integer, b_is_integer, hd]; exact h)
theorem lisInt_w {d : D} (hw : wf S d) (h : Q (.bl (isI d)) S) : W (x, Q) tt (m__law_is_integer [d] S) := by
  have hd := hw.nd
  cases d <;> (simp only [↓reduceIte,↓ZP,↓W_K,↓trc,↓Zbi,↓Zbs,↓Zgg,ZQ,Zhu,Zhz,Zia,Zic,okEq,okCmp,okIn,D.fits,D.fitsL,D.dep,D.depL,D.eqv,D.eqvL,D.alike,D.alikeL,Nat.reduceAdd,Nat.reduceSub,c02,Zkf,Zkg,Zki,Nat.reduceEqDiff,Nat.reduceLeDiff,Int.reduceAdd,Int.reduceSub,Int.reduceMul,Int.reduceNeg,Int.reducePow,Int.reduceLT,Int.reduceLE,Int.reduceEq,Int.reduceToNat,qn1,qn2,qn3,qn4,qn5,qk1,qk5,lq1,lq2,lq3,lq4,lq5,at0,at1,at2,at3,at4,at5,Znb,uq1,uq2,uq3,uq4,oq1,oq2,oq3,oq4,tq1,tq2,tq3,tq4,tq5,sl0,slS,lk0,Znh,Zni,Znj,Znk,Znl,Znm,Znn,Zno,Znp,Znv,Zny,Zof,Zog,reduceCtorEq,Zok, wm__law_is_integer, b__law_is_integer, hd]; exact h)
theorem kAll_bl : ∀ {bs : List Bool}, kAll (bs.map D.bl) = some (.bl (bs.all id))
  | [] => rfl
  | b :: bs => by
    have := kAll_bl (bs := bs)
    unfold kAll at this ⊢
    have e : bolsOf (bs.map D.bl) = some bs := by
      clear this
      induction bs with
      | nil => rfl
      | cons c cs ih => rw [List.map_cons, bolsOf, ih]; rfl
    rw [List.map_cons, bolsOf, e]; rfl
/-! the sayings of the fields -/
def Fit (f : Fld) (w c : Int) : Prop := (w = -1 ∧ f.lo ≤ c ∧ c < f.hi) ∨ (w = 1 ∧ f.lo < c ∧ c ≤ f.hi)
instance {f : Fld} {w c : Int} : Decidable (Fit f w c) := by unfold Fit; infer_instance
def VS (fs : List Fld) (a w c : Int) : Prop := 0 ≤ a ∧ ∃ f, fs[a.toNat]? = some f ∧ Fit f w c
def sayF (k : Int) (f : Fld) : List D := (intsTo f.lo (f.hi - f.lo).toNat).map (fun d => D.tup [.int k, .int (-1), d]) ++ (intsTo (f.lo + 1) (f.hi + 1 - (f.lo + 1)).toNat).map (fun d => D.tup [.int k, .int 1, d])
def sayL (k : Nat) : List Fld → List D
  | [] => []
  | f :: r => sayF k f ++ sayL (k + 1) r
def faultD (w : Str) : D := if w = "" then .non else .str w
theorem swV_shape {fs : List Fld} {xs : List D} (h : ¬ (xs.length = 3 ∧ xs.all isI = true)) : swV fs (.tup xs) = "shape" := by
  match xs, h with
  | [], _ => rfl
  | [_], _ => rfl
  | [_, _], _ => rfl
  | _ :: _ :: _ :: _ :: _, _ => rfl
  | [a, b, c], h =>
    cases a with
    | int i =>
      cases b with
      | int j =>
        cases c with
        | int k => exact absurd ⟨rfl, rfl⟩ h
        | _ => rfl
      | _ => cases c <;> rfl
    | _ => cases b <;> (try cases c) <;> rfl
theorem three_int {xs : List D} (h : xs.length = 3) (h2 : xs.all isI = true) : ∃ i w n : Int, xs = [.int i, .int w, .int n] := by
  match xs, h with
  | [a, b, c], _ =>
    simp only [List.all_cons, List.all_nil, Bool.and_true, Bool.and_eq_true] at h2
    obtain ⟨ha, hb, hc⟩ := h2
    cases a <;> cases ha
    cases b <;> cases hb
    cases c <;> cases hc
    exact ⟨_, _, _, rfl⟩
theorem inL_way {w : Int} : inL (.int w) [.int 1, .int (-1)] = decide (w = 1 ∨ w = -1) := by
  unfold inL
  simp only [List.any_cons, List.any_nil, D.eqv, Bool.or_false]
  by_cases c1 : w = 1
  · subst c1; rfl
  · by_cases c2 : w = -1
    · subst c2; rfl
    · have e1 : ¬ (1 : Int) = w := fun e => c1 e.symm
      have e2 : ¬ (-1 : Int) = w := fun e => c2 e.symm
      simp [c1, c2, e1, e2]
theorem fault_w {fs : List Fld} {d : D} (hw : wf S d) (h : Q (faultD (swV fs d)) S) : W (x, Q) tt (m_saying_fault [FD fs, d] S) := by
  have hd := hw.nd
  have sh : swV fs d = "shape" → Q (.str "shape") S := fun e => by
    rw [e] at h
    exact h
  cases d with
  | tup xs =>
    have hwx := hw.tup
    simp only [↓reduceIte,↓ZP,↓W_K,↓trc,↓Zbi,↓Zbs,↓Zgg,ZQ,Zhu,Zhz,Zia,Zic,okEq,okCmp,okIn,D.fits,D.fitsL,D.dep,D.depL,D.eqv,D.eqvL,D.alike,D.alikeL,Nat.reduceAdd,Nat.reduceSub,c02,Zkf,Zkg,Zki,Nat.reduceEqDiff,Nat.reduceLeDiff,Int.reduceAdd,Int.reduceSub,Int.reduceMul,Int.reduceNeg,Int.reducePow,Int.reduceLT,Int.reduceLE,Int.reduceEq,Int.reduceToNat,qn1,qn2,qn3,qn4,qn5,qk1,qk5,lq1,lq2,lq3,lq4,lq5,at0,at1,at2,at3,at4,at5,Znb,uq1,uq2,uq3,uq4,oq1,oq2,oq3,oq4,tq1,tq2,tq3,tq4,tq5,sl0,slS,lk0,Znh,Zni,Znj,Znk,Znl,Znm,Znn,Zno,Znp,Znv,Zny,Zof,Zog,reduceCtorEq,Zok, wm_saying_fault, b_saying_fault, wm_tuple_of, b_tuple_of, hd]
    refine ⟨fun g => ?_, fun g => ?_⟩
    · refine W_cPure (fun d => .bl (isI d)) trivial (by rw [sizeLine_eq]; simp; omega) (fun d hd => ?_) ?_
      · simp only [↓reduceIte,↓ZP,↓W_K,↓trc,↓Zbi,↓Zbs,↓Zgg,ZQ,Zhu,Zhz,Zia,Zic,okEq,okCmp,okIn,D.fits,D.fitsL,D.dep,D.depL,D.eqv,D.eqvL,D.alike,D.alikeL,Nat.reduceAdd,Nat.reduceSub,c02,Zkf,Zkg,Zki,Nat.reduceEqDiff,Nat.reduceLeDiff,Int.reduceAdd,Int.reduceSub,Int.reduceMul,Int.reduceNeg,Int.reducePow,Int.reduceLT,Int.reduceLE,Int.reduceEq,Int.reduceToNat,qn1,qn2,qn3,qn4,qn5,qk1,qk5,lq1,lq2,lq3,lq4,lq5,at0,at1,at2,at3,at4,at5,Znb,uq1,uq2,uq3,uq4,oq1,oq2,oq3,oq4,tq1,tq2,tq3,tq4,tq5,sl0,slS,lk0,Znh,Zni,Znj,Znk,Znl,Znm,Znn,Zno,Znp,Znv,Zny,Zof,Zog,reduceCtorEq,Zok]
        exact isInt_w (hwx d hd) ⟨rfl, rfl⟩
      rw [List.nil_append, show (xs.map fun d => D.bl (isI d)) = (xs.map isI).map D.bl by rw [List.map_map]; rfl]
      have eall : (xs.map isI).all id = xs.all isI := by rw [List.all_map]; rfl
      simp only [↓reduceIte,↓ZP,↓W_K,↓trc,↓Zbi,↓Zbs,↓Zgg,ZQ,Zhu,Zhz,Zia,Zic,okEq,okCmp,okIn,D.fits,D.fitsL,D.dep,D.depL,D.eqv,D.eqvL,D.alike,D.alikeL,Nat.reduceAdd,Nat.reduceSub,c02,Zkf,Zkg,Zki,Nat.reduceEqDiff,Nat.reduceLeDiff,Int.reduceAdd,Int.reduceSub,Int.reduceMul,Int.reduceNeg,Int.reducePow,Int.reduceLT,Int.reduceLE,Int.reduceEq,Int.reduceToNat,qn1,qn2,qn3,qn4,qn5,qk1,qk5,lq1,lq2,lq3,lq4,lq5,at0,at1,at2,at3,at4,at5,Znb,uq1,uq2,uq3,uq4,oq1,oq2,oq3,oq4,tq1,tq2,tq3,tq4,tq5,sl0,slS,lk0,Znh,Zni,Znj,Znk,Znl,Znm,Znn,Zno,Znp,Znv,Zny,Zof,Zog,reduceCtorEq,Zok, kAll_bl, eall]
      cases q : xs.all isI with
      | false =>
        simp only [↓reduceIte,↓ZP,↓W_K,↓trc,↓Zbi,↓Zbs,↓Zgg,ZQ,Zhu,Zhz,Zia,Zic,okEq,okCmp,okIn,D.fits,D.fitsL,D.dep,D.depL,D.eqv,D.eqvL,D.alike,D.alikeL,Nat.reduceAdd,Nat.reduceSub,c02,Zkf,Zkg,Zki,Nat.reduceEqDiff,Nat.reduceLeDiff,Int.reduceAdd,Int.reduceSub,Int.reduceMul,Int.reduceNeg,Int.reducePow,Int.reduceLT,Int.reduceLE,Int.reduceEq,Int.reduceToNat,qn1,qn2,qn3,qn4,qn5,qk1,qk5,lq1,lq2,lq3,lq4,lq5,at0,at1,at2,at3,at4,at5,Znb,uq1,uq2,uq3,uq4,oq1,oq2,oq3,oq4,tq1,tq2,tq3,tq4,tq5,sl0,slS,lk0,Znh,Zni,Znj,Znk,Znl,Znm,Znn,Zno,Znp,Znv,Zny,Zof,Zog,reduceCtorEq,Zok]
        exact sh (swV_shape fun z => by rw [q] at z; cases z.2)
      | true =>
        obtain ⟨i, w, n, rfl⟩ := three_int (by omega) q
        have ev : swV fs (.tup [.int i, .int w, .int n]) = swI fs i w n := rfl
        rw [ev] at h
        unfold swI at h
        have f1 : faultD "field" = .str "field" := if_neg (by decide)
        have f2 : faultD "way" = .str "way" := if_neg (by decide)
        have f3 : faultD "answer" = .str "answer" := if_neg (by decide)
        have f0 : faultD "" = .non := if_pos rfl
        simp only [↓reduceIte,↓ZP,↓W_K,↓trc,↓Zbi,↓Zbs,↓Zgg,ZQ,Zhu,Zhz,Zia,Zic,okEq,okCmp,okIn,D.fits,D.fitsL,D.dep,D.depL,D.eqv,D.eqvL,D.alike,D.alikeL,Nat.reduceAdd,Nat.reduceSub,c02,Zkf,Zkg,Zki,Nat.reduceEqDiff,Nat.reduceLeDiff,Int.reduceAdd,Int.reduceSub,Int.reduceMul,Int.reduceNeg,Int.reducePow,Int.reduceLT,Int.reduceLE,Int.reduceEq,Int.reduceToNat,qn1,qn2,qn3,qn4,qn5,qk1,qk5,lq1,lq2,lq3,lq4,lq5,at0,at1,at2,at3,at4,at5,Znb,uq1,uq2,uq3,uq4,oq1,oq2,oq3,oq4,tq1,tq2,tq3,tq4,tq5,sl0,slS,lk0,Znh,Zni,Znj,Znk,Znl,Znm,Znn,Zno,Znp,Znv,Zny,Zof,Zog,reduceCtorEq,Zok, lenFD]
        by_cases c0 : 0 ≤ i
        · refine .inl ⟨by simp [c0], fun c1 => ?_, fun c1 => ?_⟩
          · rw [if_pos ⟨c0, c1⟩] at h
            refine ⟨fun g => ?_, fun g => ?_⟩
            · rw [inL_way, decide_eq_false_iff_not] at g
              rw [if_neg g, f2] at h; exact h
            · rw [inL_way, decide_eq_true_eq] at g
              rw [if_pos g] at h
              refine fits_w c0 c1 ?_
              cases qf : fitV (fs.getD i.toNat fd0) w n with
              | false =>
                rw [if_neg (by rw [qf]; simp), f3] at h
                simp only [↓reduceIte,↓ZP,↓W_K,↓trc,↓Zbi,↓Zbs,↓Zgg,ZQ,Zhu,Zhz,Zia,Zic,okEq,okCmp,okIn,D.fits,D.fitsL,D.dep,D.depL,D.eqv,D.eqvL,D.alike,D.alikeL,Nat.reduceAdd,Nat.reduceSub,c02,Zkf,Zkg,Zki,Nat.reduceEqDiff,Nat.reduceLeDiff,Int.reduceAdd,Int.reduceSub,Int.reduceMul,Int.reduceNeg,Int.reducePow,Int.reduceLT,Int.reduceLE,Int.reduceEq,Int.reduceToNat,qn1,qn2,qn3,qn4,qn5,qk1,qk5,lq1,lq2,lq3,lq4,lq5,at0,at1,at2,at3,at4,at5,Znb,uq1,uq2,uq3,uq4,oq1,oq2,oq3,oq4,tq1,tq2,tq3,tq4,tq5,sl0,slS,lk0,Znh,Zni,Znj,Znk,Znl,Znm,Znn,Zno,Znp,Znv,Zny,Zof,Zog,reduceCtorEq,Zok]
                exact h
              | true =>
                rw [if_pos qf, f0] at h
                simp only [↓reduceIte,↓ZP,↓W_K,↓trc,↓Zbi,↓Zbs,↓Zgg,ZQ,Zhu,Zhz,Zia,Zic,okEq,okCmp,okIn,D.fits,D.fitsL,D.dep,D.depL,D.eqv,D.eqvL,D.alike,D.alikeL,Nat.reduceAdd,Nat.reduceSub,c02,Zkf,Zkg,Zki,Nat.reduceEqDiff,Nat.reduceLeDiff,Int.reduceAdd,Int.reduceSub,Int.reduceMul,Int.reduceNeg,Int.reducePow,Int.reduceLT,Int.reduceLE,Int.reduceEq,Int.reduceToNat,qn1,qn2,qn3,qn4,qn5,qk1,qk5,lq1,lq2,lq3,lq4,lq5,at0,at1,at2,at3,at4,at5,Znb,uq1,uq2,uq3,uq4,oq1,oq2,oq3,oq4,tq1,tq2,tq3,tq4,tq5,sl0,slS,lk0,Znh,Zni,Znj,Znk,Znl,Znm,Znn,Zno,Znp,Znv,Zny,Zof,Zog,reduceCtorEq,Zok]
                exact h
          · rw [if_neg fun z => c1 z.2, f1] at h; exact h
        · refine .inr ⟨by simp [c0], ?_⟩
          rw [if_neg fun z => c0 z.1, f1] at h; exact h
    · exact sh (swV_shape fun z => by have := z.1; omega)
  | _ =>
    simp only [↓reduceIte,↓ZP,↓W_K,↓trc,↓Zbi,↓Zbs,↓Zgg,ZQ,Zhu,Zhz,Zia,Zic,okEq,okCmp,okIn,D.fits,D.fitsL,D.dep,D.depL,D.eqv,D.eqvL,D.alike,D.alikeL,Nat.reduceAdd,Nat.reduceSub,c02,Zkf,Zkg,Zki,Nat.reduceEqDiff,Nat.reduceLeDiff,Int.reduceAdd,Int.reduceSub,Int.reduceMul,Int.reduceNeg,Int.reducePow,Int.reduceLT,Int.reduceLE,Int.reduceEq,Int.reduceToNat,qn1,qn2,qn3,qn4,qn5,qk1,qk5,lq1,lq2,lq3,lq4,lq5,at0,at1,at2,at3,at4,at5,Znb,uq1,uq2,uq3,uq4,oq1,oq2,oq3,oq4,tq1,tq2,tq3,tq4,tq5,sl0,slS,lk0,Znh,Zni,Znj,Znk,Znl,Znm,Znn,Zno,Znp,Znv,Zny,Zof,Zog,reduceCtorEq,Zok, wm_saying_fault, b_saying_fault, wm_tuple_of, b_tuple_of, hd]
    exact sh rfl
theorem word_w {fs : List Fld} {d : D} (hw : wf S d) (h : Q (.str (swV fs d)) S) : W (x, Q) tt (m__law_word [FD fs, d] S) := by
  have hd := hw.nd
  have sh : swV fs d = "shape" → Q (.str "shape") S := fun e => by
    rw [e] at h
    exact h
  cases d with
  | tup xs =>
    have hwx := hw.tup
    simp only [↓reduceIte,↓ZP,↓W_K,↓trc,↓Zbi,↓Zbs,↓Zgg,ZQ,Zhu,Zhz,Zia,Zic,okEq,okCmp,okIn,D.fits,D.fitsL,D.dep,D.depL,D.eqv,D.eqvL,D.alike,D.alikeL,Nat.reduceAdd,Nat.reduceSub,c02,Zkf,Zkg,Zki,Nat.reduceEqDiff,Nat.reduceLeDiff,Int.reduceAdd,Int.reduceSub,Int.reduceMul,Int.reduceNeg,Int.reducePow,Int.reduceLT,Int.reduceLE,Int.reduceEq,Int.reduceToNat,qn1,qn2,qn3,qn4,qn5,qk1,qk5,lq1,lq2,lq3,lq4,lq5,at0,at1,at2,at3,at4,at5,Znb,uq1,uq2,uq3,uq4,oq1,oq2,oq3,oq4,tq1,tq2,tq3,tq4,tq5,sl0,slS,lk0,Znh,Zni,Znj,Znk,Znl,Znm,Znn,Zno,Znp,Znv,Zny,Zof,Zog,reduceCtorEq,Zok, wm__law_word, b__law_word, hd]
    refine ⟨fun g => sh (swV_shape fun z => by have := z.1; omega), fun g => ?_⟩
    refine WS_loop (fun ds σ S' => S' = S ∧ ∃ (pre : List D) (p : Option D), xs = pre ++ ds ∧ σ = [some (FD fs), some (.tup xs), p, none] ∧ pre.all isI = true) ⟨rfl, [], _, rfl, rfl, rfl⟩ ?_ ?_
    · rintro d ds σ S1 ⟨rfl, pre, p, hx, rfl, hp⟩
      refine ⟨trivial, ?_⟩
      simp only [↓reduceIte,↓ZP,↓W_K,↓trc,↓Zbi,↓Zbs,↓Zgg,ZQ,Zhu,Zhz,Zia,Zic,okEq,okCmp,okIn,D.fits,D.fitsL,D.dep,D.depL,D.eqv,D.eqvL,D.alike,D.alikeL,Nat.reduceAdd,Nat.reduceSub,c02,Zkf,Zkg,Zki,Nat.reduceEqDiff,Nat.reduceLeDiff,Int.reduceAdd,Int.reduceSub,Int.reduceMul,Int.reduceNeg,Int.reducePow,Int.reduceLT,Int.reduceLE,Int.reduceEq,Int.reduceToNat,qn1,qn2,qn3,qn4,qn5,qk1,qk5,lq1,lq2,lq3,lq4,lq5,at0,at1,at2,at3,at4,at5,Znb,uq1,uq2,uq3,uq4,oq1,oq2,oq3,oq4,tq1,tq2,tq3,tq4,tq5,sl0,slS,lk0,Znh,Zni,Znj,Znk,Znl,Znm,Znn,Zno,Znp,Znv,Zny,Zof,Zog,reduceCtorEq,Zok]
      refine lisInt_w (hwx d (by rw [hx]; simp)) ?_
      cases q : isI d with
      | false =>
        simp only [↓reduceIte,↓ZP,↓W_K,↓trc,↓Zbi,↓Zbs,↓Zgg,ZQ,Zhu,Zhz,Zia,Zic,okEq,okCmp,okIn,D.fits,D.fitsL,D.dep,D.depL,D.eqv,D.eqvL,D.alike,D.alikeL,Nat.reduceAdd,Nat.reduceSub,c02,Zkf,Zkg,Zki,Nat.reduceEqDiff,Nat.reduceLeDiff,Int.reduceAdd,Int.reduceSub,Int.reduceMul,Int.reduceNeg,Int.reducePow,Int.reduceLT,Int.reduceLE,Int.reduceEq,Int.reduceToNat,qn1,qn2,qn3,qn4,qn5,qk1,qk5,lq1,lq2,lq3,lq4,lq5,at0,at1,at2,at3,at4,at5,Znb,uq1,uq2,uq3,uq4,oq1,oq2,oq3,oq4,tq1,tq2,tq3,tq4,tq5,sl0,slS,lk0,Znh,Zni,Znj,Znk,Znl,Znm,Znn,Zno,Znp,Znv,Zny,Zof,Zog,reduceCtorEq,Zok]
        refine sh (swV_shape fun z => ?_)
        have := List.all_eq_true.mp z.2 d (by rw [hx]; simp)
        rw [q] at this; cases this
      | true =>
        simp only [↓reduceIte,↓ZP,↓W_K,↓trc,↓Zbi,↓Zbs,↓Zgg,ZQ,Zhu,Zhz,Zia,Zic,okEq,okCmp,okIn,D.fits,D.fitsL,D.dep,D.depL,D.eqv,D.eqvL,D.alike,D.alikeL,Nat.reduceAdd,Nat.reduceSub,c02,Zkf,Zkg,Zki,Nat.reduceEqDiff,Nat.reduceLeDiff,Int.reduceAdd,Int.reduceSub,Int.reduceMul,Int.reduceNeg,Int.reducePow,Int.reduceLT,Int.reduceLE,Int.reduceEq,Int.reduceToNat,qn1,qn2,qn3,qn4,qn5,qk1,qk5,lq1,lq2,lq3,lq4,lq5,at0,at1,at2,at3,at4,at5,Znb,uq1,uq2,uq3,uq4,oq1,oq2,oq3,oq4,tq1,tq2,tq3,tq4,tq5,sl0,slS,lk0,Znh,Zni,Znj,Znk,Znl,Znm,Znn,Zno,Znp,Znv,Zny,Zof,Zog,reduceCtorEq,Zok]
        exact ⟨pre ++ [d], _, by rw [hx]; simp, rfl, by rw [List.all_append, hp]; simp [q]⟩
    · rintro σ S1 ⟨rfl, pre, p, hx, rfl, hp⟩
      refine ⟨trivial, ?_⟩
      rw [List.append_nil] at hx
      subst hx
      obtain ⟨i, w, n, rfl⟩ := three_int (by omega) hp
      have ev : swV fs (.tup [.int i, .int w, .int n]) = swI fs i w n := rfl
      rw [ev] at h
      unfold swI at h
      simp only [↓reduceIte,↓ZP,↓W_K,↓trc,↓Zbi,↓Zbs,↓Zgg,ZQ,Zhu,Zhz,Zia,Zic,okEq,okCmp,okIn,D.fits,D.fitsL,D.dep,D.depL,D.eqv,D.eqvL,D.alike,D.alikeL,Nat.reduceAdd,Nat.reduceSub,c02,Zkf,Zkg,Zki,Nat.reduceEqDiff,Nat.reduceLeDiff,Int.reduceAdd,Int.reduceSub,Int.reduceMul,Int.reduceNeg,Int.reducePow,Int.reduceLT,Int.reduceLE,Int.reduceEq,Int.reduceToNat,qn1,qn2,qn3,qn4,qn5,qk1,qk5,lq1,lq2,lq3,lq4,lq5,at0,at1,at2,at3,at4,at5,Znb,uq1,uq2,uq3,uq4,oq1,oq2,oq3,oq4,tq1,tq2,tq3,tq4,tq5,sl0,slS,lk0,Znh,Zni,Znj,Znk,Znl,Znm,Znn,Zno,Znp,Znv,Zny,Zof,Zog,reduceCtorEq,Zok, lenFD]
      refine ⟨fun g => ?_, fun g => ⟨fun g2 => ?_, fun g2 => ?_⟩⟩
      · rw [if_neg fun z => by omega] at h; exact h
      · rw [if_neg fun z => by omega] at h; exact h
      · rw [if_pos ⟨by omega, by omega⟩] at h
        have hat := fit_at (fs := fs) (i := i) (by omega) (by omega)
        generalize fs.getD i.toNat fd0 = f at h hat
        refine ⟨fun c1 => ⟨fun c2 => ?_, fun c2 => ?_⟩, fun c1 => ?_⟩
        · rw [if_neg fun z => by rcases z with z | z; exact c1 z; exact c2 z] at h; exact h
        · subst c2
          rw [if_pos (.inr rfl)] at h
          unfold fitV at h
          rw [if_neg (show ¬ ((-1 : Int) = 1) by decide)] at h
          simp only [↓reduceIte,↓ZP,↓W_K,↓trc,↓Zbi,↓Zbs,↓Zgg,ZQ,Zhu,Zhz,Zia,Zic,okEq,okCmp,okIn,D.fits,D.fitsL,D.dep,D.depL,D.eqv,D.eqvL,D.alike,D.alikeL,Nat.reduceAdd,Nat.reduceSub,c02,Zkf,Zkg,Zki,Nat.reduceEqDiff,Nat.reduceLeDiff,Int.reduceAdd,Int.reduceSub,Int.reduceMul,Int.reduceNeg,Int.reducePow,Int.reduceLT,Int.reduceLE,Int.reduceEq,Int.reduceToNat,qn1,qn2,qn3,qn4,qn5,qk1,qk5,lq1,lq2,lq3,lq4,lq5,at0,at1,at2,at3,at4,at5,Znb,uq1,uq2,uq3,uq4,oq1,oq2,oq3,oq4,tq1,tq2,tq3,tq4,tq5,sl0,slS,lk0,Znh,Zni,Znj,Znk,Znl,Znm,Znn,Zno,Znp,Znv,Zny,Zof,Zog,reduceCtorEq,Zok, ixFD, hat, fd_eq, o_intXb]
          refine ⟨fun g3 => ?_, fun g3 => ⟨fun g4 => ?_, fun g4 => ?_⟩⟩
          · rw [if_neg (by simp only [decide_eq_true_eq]; omega)] at h; exact h
          · rw [if_neg (by simp only [decide_eq_true_eq]; omega)] at h; exact h
          · rw [if_pos (by simp only [decide_eq_true_eq]; omega)] at h; exact h
        · subst c1
          rw [if_pos (.inl rfl)] at h
          unfold fitV at h
          rw [if_pos (show (1 : Int) = 1 from rfl)] at h
          simp only [↓reduceIte,↓ZP,↓W_K,↓trc,↓Zbi,↓Zbs,↓Zgg,ZQ,Zhu,Zhz,Zia,Zic,okEq,okCmp,okIn,D.fits,D.fitsL,D.dep,D.depL,D.eqv,D.eqvL,D.alike,D.alikeL,Nat.reduceAdd,Nat.reduceSub,c02,Zkf,Zkg,Zki,Nat.reduceEqDiff,Nat.reduceLeDiff,Int.reduceAdd,Int.reduceSub,Int.reduceMul,Int.reduceNeg,Int.reducePow,Int.reduceLT,Int.reduceLE,Int.reduceEq,Int.reduceToNat,qn1,qn2,qn3,qn4,qn5,qk1,qk5,lq1,lq2,lq3,lq4,lq5,at0,at1,at2,at3,at4,at5,Znb,uq1,uq2,uq3,uq4,oq1,oq2,oq3,oq4,tq1,tq2,tq3,tq4,tq5,sl0,slS,lk0,Znh,Zni,Znj,Znk,Znl,Znm,Znn,Zno,Znp,Znv,Zny,Zof,Zog,reduceCtorEq,Zok, ixFD, hat, fd_eq, o_intXb]
          refine ⟨fun g3 => ?_, fun g3 => ⟨fun g4 => ?_, fun g4 => ?_⟩⟩
          · rw [if_neg (by simp only [decide_eq_true_eq]; omega)] at h; exact h
          · rw [if_neg (by simp only [decide_eq_true_eq]; omega)] at h; exact h
          · rw [if_pos (by simp only [decide_eq_true_eq]; omega)] at h; exact h
  | _ =>
    simp only [↓reduceIte,↓ZP,↓W_K,↓trc,↓Zbi,↓Zbs,↓Zgg,ZQ,Zhu,Zhz,Zia,Zic,okEq,okCmp,okIn,D.fits,D.fitsL,D.dep,D.depL,D.eqv,D.eqvL,D.alike,D.alikeL,Nat.reduceAdd,Nat.reduceSub,c02,Zkf,Zkg,Zki,Nat.reduceEqDiff,Nat.reduceLeDiff,Int.reduceAdd,Int.reduceSub,Int.reduceMul,Int.reduceNeg,Int.reducePow,Int.reduceLT,Int.reduceLE,Int.reduceEq,Int.reduceToNat,qn1,qn2,qn3,qn4,qn5,qk1,qk5,lq1,lq2,lq3,lq4,lq5,at0,at1,at2,at3,at4,at5,Znb,uq1,uq2,uq3,uq4,oq1,oq2,oq3,oq4,tq1,tq2,tq3,tq4,tq5,sl0,slS,lk0,Znh,Zni,Znj,Znk,Znl,Znm,Znn,Zno,Znp,Znv,Zny,Zof,Zog,reduceCtorEq,Zok, wm__law_word, b__law_word, hd]
    exact sh rfl
theorem lkW {d : D} : List.lookup (Str.ofString "word") [(Str.ofString "word", d)] = some d := by rfl
theorem str1 {z : Str} : (D.str z).dep < 70 ∧ (D.str z).pl := ⟨by rw [D.dep] <;> simp, by rw [D.pl] <;> simp⟩
theorem int1 {z : Int} : (D.int z).dep < 70 ∧ (D.int z).pl := ⟨by rw [D.dep] <;> simp, by rw [D.pl] <;> simp⟩
theorem swV_ok {fs : List Fld} {d : D} (h : swV fs d = "") : ∃ i w n : Int, d = .tup [.int i, .int w, .int n] := by
  cases d with
  | tup xs =>
    by_cases c : xs.length = 3 ∧ xs.all isI = true
    · obtain ⟨i, w, n, rfl⟩ := three_int c.1 c.2
      exact ⟨i, w, n, rfl⟩
    · rw [swV_shape c] at h
      exact absurd h (by decide)
  | _ => exact absurd h (show (Str.ofString "shape") ≠ "" by decide)
theorem checked_w {fs : List Fld} {d : D} (hw : wf S d) (h : Q (.bl true) S) : W (x, Q) tt (m__law_checked [FD fs, d] S) := by
  simp only [↓reduceIte,↓ZP,↓W_K,↓trc,↓Zbi,↓Zbs,↓Zgg,ZQ,Zhu,Zhz,Zia,Zic,okEq,okCmp,okIn,D.fits,D.fitsL,D.dep,D.depL,D.eqv,D.eqvL,D.alike,D.alikeL,Nat.reduceAdd,Nat.reduceSub,c02,Zkf,Zkg,Zki,Nat.reduceEqDiff,Nat.reduceLeDiff,Int.reduceAdd,Int.reduceSub,Int.reduceMul,Int.reduceNeg,Int.reducePow,Int.reduceLT,Int.reduceLE,Int.reduceEq,Int.reduceToNat,qn1,qn2,qn3,qn4,qn5,qk1,qk5,lq1,lq2,lq3,lq4,lq5,at0,at1,at2,at3,at4,at5,Znb,uq1,uq2,uq3,uq4,oq1,oq2,oq3,oq4,tq1,tq2,tq3,tq4,tq5,sl0,slS,lk0,Znh,Zni,Znj,Znk,Znl,Znm,Znn,Zno,Znp,Znv,Zny,Zof,Zog,reduceCtorEq,Zok, wm__law_checked, b__law_checked]
  refine word_w hw ?_
  simp only [↓reduceIte,↓ZP,↓W_K,↓trc,↓Zbi,↓Zbs,↓Zgg,ZQ,Zhu,Zhz,Zia,Zic,okEq,okCmp,okIn,D.fits,D.fitsL,D.dep,D.depL,D.eqv,D.eqvL,D.alike,D.alikeL,Nat.reduceAdd,Nat.reduceSub,c02,Zkf,Zkg,Zki,Nat.reduceEqDiff,Nat.reduceLeDiff,Int.reduceAdd,Int.reduceSub,Int.reduceMul,Int.reduceNeg,Int.reducePow,Int.reduceLT,Int.reduceLE,Int.reduceEq,Int.reduceToNat,qn1,qn2,qn3,qn4,qn5,qk1,qk5,lq1,lq2,lq3,lq4,lq5,at0,at1,at2,at3,at4,at5,Znb,uq1,uq2,uq3,uq4,oq1,oq2,oq3,oq4,tq1,tq2,tq3,tq4,tq5,sl0,slS,lk0,Znh,Zni,Znj,Znk,Znl,Znm,Znn,Zno,Znp,Znv,Zny,Zof,Zog,reduceCtorEq,Zok, wm_check_saying, b_check_saying]
  refine fault_w hw ?_
  by_cases e : swV fs d = ""
  · have f0 : faultD (swV fs d) = .non := if_pos e
    obtain ⟨i, w, n, rfl⟩ := swV_ok e
    rw [f0, e]
    simp only [↓reduceIte,↓ZP,↓W_K,↓trc,↓Zbi,↓Zbs,↓Zgg,ZQ,Zhu,Zhz,Zia,Zic,okEq,okCmp,okIn,D.fits,D.fitsL,D.dep,D.depL,D.eqv,D.eqvL,D.alike,D.alikeL,Nat.reduceAdd,Nat.reduceSub,c02,Zkf,Zkg,Zki,Nat.reduceEqDiff,Nat.reduceLeDiff,Int.reduceAdd,Int.reduceSub,Int.reduceMul,Int.reduceNeg,Int.reducePow,Int.reduceLT,Int.reduceLE,Int.reduceEq,Int.reduceToNat,qn1,qn2,qn3,qn4,qn5,qk1,qk5,lq1,lq2,lq3,lq4,lq5,at0,at1,at2,at3,at4,at5,Znb,uq1,uq2,uq3,uq4,oq1,oq2,oq3,oq4,tq1,tq2,tq3,tq4,tq5,sl0,slS,lk0,Znh,Zni,Znj,Znk,Znl,Znm,Znn,Zno,Znp,Znv,Zny,Zof,Zog,reduceCtorEq,Zok]
    refine same_t int1.1 int1.2 ?_
    simp only [↓reduceIte,↓ZP,↓W_K,↓trc,↓Zbi,↓Zbs,↓Zgg,ZQ,Zhu,Zhz,Zia,Zic,okEq,okCmp,okIn,D.fits,D.fitsL,D.dep,D.depL,D.eqv,D.eqvL,D.alike,D.alikeL,Nat.reduceAdd,Nat.reduceSub,c02,Zkf,Zkg,Zki,Nat.reduceEqDiff,Nat.reduceLeDiff,Int.reduceAdd,Int.reduceSub,Int.reduceMul,Int.reduceNeg,Int.reducePow,Int.reduceLT,Int.reduceLE,Int.reduceEq,Int.reduceToNat,qn1,qn2,qn3,qn4,qn5,qk1,qk5,lq1,lq2,lq3,lq4,lq5,at0,at1,at2,at3,at4,at5,Znb,uq1,uq2,uq3,uq4,oq1,oq2,oq3,oq4,tq1,tq2,tq3,tq4,tq5,sl0,slS,lk0,Znh,Zni,Znj,Znk,Znl,Znm,Znn,Zno,Znp,Znv,Zny,Zof,Zog,reduceCtorEq,Zok]
    exact h
  · have f1 : faultD (swV fs d) = .str (swV fs d) := if_neg e
    rw [f1]
    simp only [↓reduceIte,↓ZP,↓W_K,↓trc,↓Zbi,↓Zbs,↓Zgg,ZQ,Zhu,Zhz,Zia,Zic,okEq,okCmp,okIn,D.fits,D.fitsL,D.dep,D.depL,D.eqv,D.eqvL,D.alike,D.alikeL,Nat.reduceAdd,Nat.reduceSub,c02,Zkf,Zkg,Zki,Nat.reduceEqDiff,Nat.reduceLeDiff,Int.reduceAdd,Int.reduceSub,Int.reduceMul,Int.reduceNeg,Int.reducePow,Int.reduceLT,Int.reduceLE,Int.reduceEq,Int.reduceToNat,qn1,qn2,qn3,qn4,qn5,qk1,qk5,lq1,lq2,lq3,lq4,lq5,at0,at1,at2,at3,at4,at5,Znb,uq1,uq2,uq3,uq4,oq1,oq2,oq3,oq4,tq1,tq2,tq3,tq4,tq5,sl0,slS,lk0,Znh,Zni,Znj,Znk,Znl,Znm,Znn,Zno,Znp,Znv,Zny,Zof,Zog,reduceCtorEq,Zok, e, tb_BadSaying_BadSaying, tb_DataError_BadSaying, tb_SheetError_BadSaying, lkW]
    refine same_t str1.1 str1.2 ?_
    simp only [↓reduceIte,↓ZP,↓W_K,↓trc,↓Zbi,↓Zbs,↓Zgg,ZQ,Zhu,Zhz,Zia,Zic,okEq,okCmp,okIn,D.fits,D.fitsL,D.dep,D.depL,D.eqv,D.eqvL,D.alike,D.alikeL,Nat.reduceAdd,Nat.reduceSub,c02,Zkf,Zkg,Zki,Nat.reduceEqDiff,Nat.reduceLeDiff,Int.reduceAdd,Int.reduceSub,Int.reduceMul,Int.reduceNeg,Int.reducePow,Int.reduceLT,Int.reduceLE,Int.reduceEq,Int.reduceToNat,qn1,qn2,qn3,qn4,qn5,qk1,qk5,lq1,lq2,lq3,lq4,lq5,at0,at1,at2,at3,at4,at5,Znb,uq1,uq2,uq3,uq4,oq1,oq2,oq3,oq4,tq1,tq2,tq3,tq4,tq5,sl0,slS,lk0,Znh,Zni,Znj,Znk,Znl,Znm,Znn,Zno,Znp,Znv,Zny,Zof,Zog,reduceCtorEq,Zok, tb_BadSaying_BadSaying, tb_DataError_BadSaying, tb_SheetError_BadSaying, lkW]
    exact h
end
end LW

namespace LW
open PySem PySem.Spec PyProof.Rows L2 DL
section
variable {x : XQ} {Q : D → Store → Prop} {tt : Tg (x, Q)} {S S' : Store}
/-! where two signs stand, one behind the other -/
def posF (a b : Nat) : Nat → List Nat → List Nat
  | _, [] => []
  | k, x :: r => if x = a ∧ r.head? = some b then k :: posF a b (k + 1) r else posF a b (k + 1) r
abbrev spl2 (a b : Nat) (acc l : List Nat) : List (List Nat) := _root_.TL.spl [a, b] 0 acc l
theorem pre2 {a b x : Nat} {r : List Nat} : _root_.TL.pre [a, b] (x :: r) = decide (x = a ∧ r.head? = some b) := by
  unfold _root_.TL.pre
  rw [Bool.eq_iff_iff, beq_iff_eq, decide_eq_true_eq]
  cases r with
  | nil => simp
  | cons y r => simp
theorem spl2_nil {a b : Nat} {acc : List Nat} : spl2 a b acc [] = [acc] := _root_.TL.spl_nil _ _ _
theorem spl2_hit {a b : Nat} {acc r : List Nat} : spl2 a b acc (a :: b :: r) = acc :: spl2 a b [] r := by
  have h := _root_.TL.spl_hit (S := [a, b]) (acc := acc) (c := a) (r := b :: r) (by rw [pre2]; simp)
  refine h.trans ?_
  rfl
theorem spl2_miss {a b x : Nat} {acc r : List Nat} (h : ¬ (x = a ∧ r.head? = some b)) : spl2 a b acc (x :: r) = spl2 a b (acc ++ [x]) r := _root_.TL.spl_miss (by rw [pre2]; simpa using h)
theorem posF_hit {a b k : Nat} {r : List Nat} (hab : b ≠ a) : posF a b k (a :: b :: r) = k :: posF a b (k + 2) r := by
  rw [posF, if_pos ⟨rfl, rfl⟩, posF, if_neg fun z => hab z.1]
theorem posF_miss {a b k x : Nat} {r : List Nat} (h : ¬ (x = a ∧ r.head? = some b)) : posF a b k (x :: r) = posF a b (k + 1) r := by rw [posF, if_neg h]
theorem spl2_len {a b : Nat} (hab : b ≠ a) : ∀ (n : Nat) (l acc : List Nat) (k : Nat), l.length ≤ n → (spl2 a b acc l).length = 1 + (posF a b k l).length
  | _, [], acc, k, _ => by rw [spl2_nil]; rfl
  | 0, _ :: _, _, _, h => by simp at h
  | n + 1, x :: r, acc, k, h => by
    by_cases c : x = a ∧ r.head? = some b
    · obtain ⟨rfl, hr⟩ := c
      cases r with
      | nil => cases hr
      | cons y r =>
        have : y = b := by simpa using hr
        subst this
        rw [spl2_hit, posF_hit hab, List.length_cons, List.length_cons, spl2_len hab n r [] (k + 2) (by simp at h; omega)]
        omega
    · rw [spl2_miss c, posF_miss c, spl2_len hab n r _ (k + 1) (by simp at h; omega)]
theorem spl2_none {a b : Nat} : ∀ (l acc : List Nat) (k : Nat), posF a b k l = [] → spl2 a b acc l = [acc ++ l]
  | [], acc, k, _ => by rw [spl2_nil, List.append_nil]
  | x :: r, acc, k, h => by
    by_cases c : x = a ∧ r.head? = some b
    · rw [posF, if_pos c] at h; cases h
    · rw [posF_miss c] at h
      rw [spl2_miss c, spl2_none r _ _ h, List.append_assoc]; rfl
theorem posF_ge {a b : Nat} : ∀ (l : List Nat) (k p : Nat), p ∈ posF a b k l → k ≤ p ∧ p + 1 < k + l.length
  | [], _, _, h => by cases h
  | x :: r, k, p, h => by
    rw [posF] at h
    split at h
    · rename_i c
      rcases List.mem_cons.mp h with rfl | h
      · cases r with
        | nil => cases c.2
        | cons y r => simp
      · have := posF_ge r _ _ h
        rw [List.length_cons]; omega
    · have := posF_ge r _ _ h
      rw [List.length_cons]; omega
theorem spl2_one {a b : Nat} (hab : b ≠ a) : ∀ (l acc : List Nat) (k p : Nat), posF a b k l = [p] → spl2 a b acc l = [acc ++ l.take (p - k), l.drop (p - k + 2)]
  | [], _, _, _, h => by cases h
  | x :: r, acc, k, p, h => by
    by_cases c : x = a ∧ r.head? = some b
    · obtain ⟨rfl, hr⟩ := c
      cases r with
      | nil => cases hr
      | cons y r =>
        have : y = b := by simpa using hr
        subst this
        rw [posF_hit hab] at h
        obtain ⟨rfl, h2⟩ := List.cons.inj h
        rw [spl2_hit, spl2_none r [] _ h2]
        simp
    · rw [posF_miss c] at h
      have hge := posF_ge r _ p (by rw [h]; simp)
      rw [spl2_miss c, spl2_one hab r _ _ _ h, List.append_assoc]
      have e : p - k = (p - (k + 1)) + 1 := by omega
      rw [e, List.take_succ_cons, show p - (k + 1) + 1 + 2 = (p - (k + 1) + 2) + 1 by omega, List.drop_succ_cons]
      rfl
theorem count_split {t y : Str} (hy : 1 ≤ y.length) (hk : y.cps.all (· < 256) = true) : Txt.count t y = ((Txt.split t y).length : Int) - 1 := by
  unfold Txt.count Txt.split
  split
  · rename_i h1
    have hlt : t.length < y.length := by
      have h1' : (decide (t.length < y.length) || decide (Builtin.Str.strKind t < Builtin.Str.strKind y)) = true := h1
      rcases Bool.or_eq_true _ _ |>.mp h1' with h | h
      · exact of_decide_eq_true h
      · exact absurd (of_decide_eq_true h) (_root_.TL.kind_ok hk)
    obtain ⟨f, g, hn⟩ := StrLaws.occ_tight t y hy
    cases ho : Builtin.Str.occurrences t y 0 t.length (t.length + 1) with
    | nil => rfl
    | cons c r =>
      rw [ho] at g
      have hc : c + y.length ≤ t.length := g.2.1.1
      omega
  · split
    · rename_i h2
      rw [List.isEmpty_iff.mp h2]; rfl
    · rw [PyProof.Rows.len_partsBetween]
      push_cast
      omega
end
end LW

namespace LW
open PySem PySem.Spec PyProof.Rows L2 DL
section
variable {x : XQ} {Q : D → Store → Prop} {tt : Tg (x, Q)} {S S' : Store}
abbrev ups (t : Str) : List Nat := posF 62 61 0 (cl t)
abbrev dns (t : Str) : List Nat := posF 60 61 0 (cl t)
theorem cl_up : cl (Str.ofString ">=") = [62, 61] := by decide
theorem cl_dn : cl (Str.ofString "<=") = [60, 61] := by decide
theorem split_up (t : Str) : (Txt.split t (Str.ofString ">=")).map cl = spl2 62 61 [] (cl t) := by
  have := _root_.TL.split_spl t (Str.ofString ">=") (by rw [show _root_.TL.tl (Str.ofString ">=") = [62, 61] from cl_up]; simp) (_root_.TL.kind_ok (by decide +kernel))
  rw [show _root_.TL.tl (Str.ofString ">=") = [62, 61] from cl_up] at this
  exact this
theorem split_dn (t : Str) : (Txt.split t (Str.ofString "<=")).map cl = spl2 60 61 [] (cl t) := by
  have := _root_.TL.split_spl t (Str.ofString "<=") (by rw [show _root_.TL.tl (Str.ofString "<=") = [60, 61] from cl_dn]; simp) (_root_.TL.kind_ok (by decide +kernel))
  rw [show _root_.TL.tl (Str.ofString "<=") = [60, 61] from cl_dn] at this
  exact this
theorem count_up (t : Str) : Txt.count t (Str.ofString ">=") = ((ups t).length : Int) := by
  rw [count_split (by decide) (by decide +kernel)]
  have h := congrArg List.length (split_up t)
  rw [List.length_map, spl2_len (by decide) _ _ _ 0 (Nat.le_refl _)] at h
  have e : (ups t).length = (posF 62 61 0 (cl t)).length := rfl
  rw [h, e]; push_cast; omega
theorem count_dn (t : Str) : Txt.count t (Str.ofString "<=") = ((dns t).length : Int) := by
  rw [count_split (by decide) (by decide +kernel)]
  have h := congrArg List.length (split_dn t)
  rw [List.length_map, spl2_len (by decide) _ _ _ 0 (Nat.le_refl _)] at h
  have e : (dns t).length = (posF 60 61 0 (cl t)).length := rfl
  rw [h, e]; push_cast; omega
abbrev tabS : List (Int × Str) := [((1), ">="), ((-1), "<=")]
theorem o_tabU {Q : D → Store → Prop} {tt : Tg Q} : WO Q tt (oTab [((1), ">="), ((-1), "<=")] (.int 1) S) = Q (.str ">=") S := o_tab rfl
theorem o_tabD {Q : D → Store → Prop} {tt : Tg Q} : WO Q tt (oTab [((1), ">="), ((-1), "<=")] (.int (-1)) S) = Q (.str "<=") S := o_tab rfl
def wayV (t : Str) : D := if (ups t).length + (dns t).length = 1 then (if (ups t).length = 1 then .int 1 else .int (-1)) else .non
theorem way_w {t : Str} (h : Q (wayV t) S) : W (x, Q) tt (m_way_in [.str t] S) := by
  unfold wayV at h
  simp only [↓reduceIte,↓ZP,↓W_K,↓trc,↓Zbi,↓Zbs,↓Zgg,ZQ,Zhu,Zhz,Zia,Zic,okEq,okCmp,okIn,D.fits,D.fitsL,D.dep,D.depL,D.eqv,D.eqvL,D.alike,D.alikeL,Nat.reduceAdd,Nat.reduceSub,c02,Zkf,Zkg,Zki,Nat.reduceEqDiff,Nat.reduceLeDiff,Int.reduceAdd,Int.reduceSub,Int.reduceMul,Int.reduceNeg,Int.reducePow,Int.reduceLT,Int.reduceLE,Int.reduceEq,Int.reduceToNat,qn1,qn2,qn3,qn4,qn5,qk1,qk5,lq1,lq2,lq3,lq4,lq5,at0,at1,at2,at3,at4,at5,Znb,uq1,uq2,uq3,uq4,oq1,oq2,oq3,oq4,tq1,tq2,tq3,tq4,tq5,sl0,slS,lk0,Znh,Zni,Znj,Znk,Znl,Znm,Znn,Zno,Znp,Znv,Zny,Zof,Zog,reduceCtorEq,Zok, wm_way_in, b_way_in, o_tabU, o_tabD, count_up, count_dn]
  refine ⟨fun g => ?_, fun g => ⟨fun g2 => ?_, fun g2 => ?_⟩⟩
  · rw [if_neg (by omega)] at h; exact h
  · rw [if_pos (by omega), if_pos (by omega)] at h; exact h
  · rw [if_pos (by omega), if_neg (by omega)] at h; exact h
/-- of the places those where the sign stands -/
def atS (t s : Str) : D → Bool
  | .int i => decide (cutS t (some i) (some (i + 2)) = s)
  | _ => false
theorem cl_cut2 {t : Str} {k : Nat} : cl (cutS t (some (k : Int)) (some ((k : Int) + 2))) = ((cl t).drop k).take 2 := by
  unfold cl
  rw [cutS_cps]
  have e1 : HT.sIx t.length t.length (some ((k : Int) + 2)) = min (k + 2) t.length := by
    have := sIx_nn (n := t.length) (d := t.length) (k := (k : Int) + 2) (by omega)
    rw [this]; congr 1
  have e2 : HT.sIx t.length 0 (some (k : Int)) = min k t.length := by
    have := sIx_nn (n := t.length) (d := 0) (k := (k : Int)) (by omega)
    rw [this]; congr 1
  rw [e1, e2]
  have hl := cl_len t
  unfold cl at hl
  by_cases c : k ≤ t.length
  · rw [Nat.min_eq_left c]
    rw [List.take_eq_take_iff, List.length_drop, hl]
    omega
  · have e3 : (t.cps.toList.drop k) = [] := List.drop_eq_nil_of_le (by omega)
    rw [e3, List.drop_eq_nil_of_le (by omega)]
    simp
theorem found_filter {t s : Str} {a b : Nat} (hs : cl s = [a, b]) : ∀ (suf pre : List Nat), cl t = pre ++ suf → ((List.range' pre.length suf.length).map nat).filter (atS t s) = (posF a b pre.length suf).map nat
  | [], pre, _ => by simp [posF]
  | c :: suf, pre, h => by
    have ih := found_filter hs suf (pre ++ [c]) (by rw [h]; simp)
    rw [List.length_append, List.length_cons, List.length_nil, Nat.zero_add] at ih
    rw [List.length_cons, List.range'_succ, List.map_cons, List.filter_cons, ih, posF]
    have key : atS t s (nat pre.length) = decide (c = a ∧ suf.head? = some b) := by
      show decide (cutS t (some ((pre.length : Nat) : Int)) (some (((pre.length : Nat) : Int) + 2)) = s) = _
      rw [Bool.eq_iff_iff, decide_eq_true_eq, decide_eq_true_eq]
      have e : cl (cutS t (some ((pre.length : Nat) : Int)) (some (((pre.length : Nat) : Int) + 2))) = (c :: suf).take 2 := by rw [cl_cut2, h, List.drop_left]
      constructor
      · intro q
        rw [q, hs] at e
        cases suf with
        | nil => simp at e
        | cons d r => simp at e; simp [e]
      · rintro ⟨rfl, q⟩
        refine str_ext ?_
        show cl _ = cl _
        rw [e, hs]
        cases suf with
        | nil => cases q
        | cons d r =>
          have : d = b := by simpa using q
          subst this; rfl
    rw [key]
    by_cases q : c = a ∧ suf.head? = some b
    · rw [if_pos q, decide_eq_true q, if_pos rfl]; rfl
    · rw [if_neg q, decide_eq_false q, if_neg (by simp)]
theorem found_w {t s : Str} {a b : Nat} (hs : cl s = [a, b]) (hz2 : t.length ≤ 1000000) (h : Q (.loc S.length) (S ++ [.lst ((posF a b 0 (cl t)).map nat)])) : W (x, Q) tt (m__law_found [.str t, .str s] S) := by
  have hz : t.length ≤ sizeLine := by rw [sizeLine_eq]; omega
  simp only [↓reduceIte,↓ZP,↓W_K,↓trc,↓Zbi,↓Zbs,↓Zgg,ZQ,Zhu,Zhz,Zia,Zic,okEq,okCmp,okIn,D.fits,D.fitsL,D.dep,D.depL,D.eqv,D.eqvL,D.alike,D.alikeL,Nat.reduceAdd,Nat.reduceSub,c02,Zkf,Zkg,Zki,Nat.reduceEqDiff,Nat.reduceLeDiff,Int.reduceAdd,Int.reduceSub,Int.reduceMul,Int.reduceNeg,Int.reducePow,Int.reduceLT,Int.reduceLE,Int.reduceEq,Int.reduceToNat,qn1,qn2,qn3,qn4,qn5,qk1,qk5,lq1,lq2,lq3,lq4,lq5,at0,at1,at2,at3,at4,at5,Znb,uq1,uq2,uq3,uq4,oq1,oq2,oq3,oq4,tq1,tq2,tq3,tq4,tq5,sl0,slS,lk0,Znh,Zni,Znj,Znk,Znl,Znm,Znn,Zno,Znp,Znv,Zny,Zof,Zog,reduceCtorEq,Zok, wm__law_found, b__law_found]
  refine ⟨hz, by simp only [okB]; omega, ?_⟩
  have e0 : intsTo 0 (t.length : Int).toNat = (List.range' 0 (cl t).length).map nat := by
    rw [Int.toNat_natCast, cl_len, ← List.range_eq_range']
    unfold intsTo
    refine List.map_congr_left fun i _ => ?_
    show D.int _ = D.int _
    rw [Int.zero_add]
  have hf := found_filter hs (cl t) [] rfl
  refine W_cFilt (atS t s) id trivial (by rw [intsTo_len, sizeLine_eq]; simp; omega) (fun d hd => ?_) ?_
  · obtain ⟨i, rfl, i0, i1⟩ := intsTo_mem hd
    simp only [↓reduceIte,↓ZP,↓W_K,↓trc,↓Zbi,↓Zbs,↓Zgg,ZQ,Zhu,Zhz,Zia,Zic,okEq,okCmp,okIn,D.fits,D.fitsL,D.dep,D.depL,D.eqv,D.eqvL,D.alike,D.alikeL,Nat.reduceAdd,Nat.reduceSub,c02,Zkf,Zkg,Zki,Nat.reduceEqDiff,Nat.reduceLeDiff,Int.reduceAdd,Int.reduceSub,Int.reduceMul,Int.reduceNeg,Int.reducePow,Int.reduceLT,Int.reduceLE,Int.reduceEq,Int.reduceToNat,qn1,qn2,qn3,qn4,qn5,qk1,qk5,lq1,lq2,lq3,lq4,lq5,at0,at1,at2,at3,at4,at5,Znb,uq1,uq2,uq3,uq4,oq1,oq2,oq3,oq4,tq1,tq2,tq3,tq4,tq5,sl0,slS,lk0,Znh,Zni,Znj,Znk,Znl,Znm,Znn,Zno,Znp,Znv,Zny,Zof,Zog,reduceCtorEq,Zok, atS, id, hz]
    by_cases c : cutS t (some i) (some (i + 2)) = s <;> simp [c]
  rw [List.nil_append, List.map_id, e0]
  rw [List.length_nil] at hf
  rw [hf]
  simp only [↓reduceIte,↓ZP,↓W_K,↓trc,↓Zbi,↓Zbs,↓Zgg,ZQ,Zhu,Zhz,Zia,Zic,okEq,okCmp,okIn,D.fits,D.fitsL,D.dep,D.depL,D.eqv,D.eqvL,D.alike,D.alikeL,Nat.reduceAdd,Nat.reduceSub,c02,Zkf,Zkg,Zki,Nat.reduceEqDiff,Nat.reduceLeDiff,Int.reduceAdd,Int.reduceSub,Int.reduceMul,Int.reduceNeg,Int.reducePow,Int.reduceLT,Int.reduceLE,Int.reduceEq,Int.reduceToNat,qn1,qn2,qn3,qn4,qn5,qk1,qk5,lq1,lq2,lq3,lq4,lq5,at0,at1,at2,at3,at4,at5,Znb,uq1,uq2,uq3,uq4,oq1,oq2,oq3,oq4,tq1,tq2,tq3,tq4,tq5,sl0,slS,lk0,Znh,Zni,Znj,Znk,Znl,Znm,Znn,Zno,Znp,Znv,Zny,Zof,Zog,reduceCtorEq,Zok]
  exact h
end
end LW

namespace LW
open PySem PySem.Spec PyProof.Rows L2 DL
section
variable {x : XQ} {Q : D → Store → Prop} {tt : Tg (x, Q)} {S S' : Store}
def nameS (t : Str) (p : Nat) : Str := ⟨((cl t).take p).toArray⟩
def fgS (t : Str) (p : Nat) : Str := ⟨((cl t).drop (p + 2)).toArray⟩
theorem cl_name {t : Str} {p : Nat} : cl (nameS t p) = (cl t).take p := rfl
theorem cl_fig {t : Str} {p : Nat} : cl (fgS t p) = (cl t).drop (p + 2) := rfl
theorem cl_cutFrom {w : Str} {k : Int} (h : 0 ≤ k) : cl (cutS w (some k) none) = (cl w).drop k.toNat := by
  unfold cl
  rw [cutS_cps]
  have e : HT.sIx w.length 0 (some k) = min k.toNat w.length := sIx_nn h
  have e2 : HT.sIx w.length w.length none = w.length := rfl
  rw [e, e2]
  have hl := cl_len w
  unfold cl at hl
  by_cases c : k.toNat ≤ w.length
  · rw [Nat.min_eq_left c]
    exact List.take_of_length_le (by rw [List.length_drop, hl]; exact Nat.le_refl _)
  · rw [List.drop_eq_nil_of_le (by omega), List.drop_eq_nil_of_le (by omega)]
    simp
theorem cut_name {t : Str} {p : Nat} : cutS t none (some (p : Int)) = nameS t p := str_ext (by
  show cl _ = cl _
  rw [cl_cutTo (by omega), cl_name, Int.toNat_natCast])
theorem cut_fig {t : Str} {p : Nat} : cutS t (some ((p : Int) + 2)) none = fgS t p := str_ext (by
  show cl _ = cl _
  rw [cl_cutFrom (by omega), cl_fig]
  congr 1)
theorem split_one_up {t : Str} {p : Nat} (h : ups t = [p]) : Txt.split t (Str.ofString ">=") = [nameS t p, fgS t p] := _root_.TL.map_tl_inj (by
  refine (split_up t).trans ?_
  rw [spl2_one (by decide) _ _ 0 p h]
  rfl)
theorem split_one_dn {t : Str} {p : Nat} (h : dns t = [p]) : Txt.split t (Str.ofString "<=") = [nameS t p, fgS t p] := _root_.TL.map_tl_inj (by
  refine (split_dn t).trans ?_
  rw [spl2_one (by decide) _ _ 0 p h]
  rfl)
def ixV (fs : List Fld) (z : Str) : Nat := (idxD ((fs.map (·.n)).map D.str) (.str z)).getD 0
/-- the reading of a saying: the saying, or what is wrong -/
def rd3 (fs : List Fld) (z : Str) (w : Int) (n : Int) : (Int × Int × Int) ⊕ Str := if swI fs (ixV fs z) w n = "" then .inl ((ixV fs z : Int), w, n) else .inr "answer"
def rd2 (fs : List Fld) (t : Str) (p : Nat) (w : Int) : (Int × Int × Int) ⊕ Str := if nameS t p ∈ fs.map (·.n) then (match numV (fgS t p) with
    | some n => rd3 fs (nameS t p) w n
    | none => .inr "number") else .inr "field"
def rdV (fs : List Fld) (t : Str) : (Int × Int × Int) ⊕ Str := match ups t, dns t with
  | [p], [] => rd2 fs t p 1
  | [], [p] => rd2 fs t p (-1)
  | _, _ => .inr "sign"
def sayD (s : Int × Int × Int) : D := .tup [.int s.1, .int s.2.1, .int s.2.2]
def dueD : (Int × Int × Int) ⊕ Str → D
  | .inl s => sayD s
  | .inr e => .str e
def fromD : (Int × Int × Int) ⊕ Str → D
  | .inl s => .tup [sayD s, .non]
  | .inr e => .tup [.non, .str e]
def exT (e : Str) : Exn := ⟨"BadText", [("line", .int 1), ("word", .str e)]⟩
theorem eqv_str {a b : Str} : D.eqv (.str a) (.str b) = decide (a = b) := by
  simp only [D.eqv]
theorem idx_cons {n z : Str} {ns : List Str} : idxD ((n :: ns).map D.str) (.str z) = if n = z then some 0 else (idxD (ns.map D.str) (.str z)).map (· + 1) := by
  unfold idxD
  rw [List.map_cons, List.findIdx?_cons, eqv_str]
  by_cases h : n = z
  · rw [if_pos h, decide_eq_true h]; rfl
  · rw [if_neg h, decide_eq_false h]; rfl
theorem idx_some {z : Str} : ∀ {ns : List Str}, z ∈ ns → ∃ j, idxD (ns.map D.str) (.str z) = some j ∧ j < ns.length ∧ ns[j]? = some z
  | n :: ns, h => by
    rw [idx_cons]
    by_cases c : n = z
    · rw [if_pos c]
      exact ⟨0, rfl, by simp, by simp [c]⟩
    · rw [if_neg c]
      have : z ∈ ns := by
        rcases List.mem_cons.mp h with e | h
        · exact absurd e.symm c
        · exact h
      obtain ⟨j, h1, h2, h3⟩ := idx_some this
      exact ⟨j + 1, by rw [h1]; rfl, by simp; omega, by simpa using h3⟩
theorem ixV_of {fs : List Fld} {z : Str} (h : z ∈ fs.map (·.n)) : idxD ((fs.map (·.n)).map D.str) (.str z) = some (ixV fs z) ∧ ixV fs z < fs.length ∧ (fs.map (·.n))[ixV fs z]? = some z := by
  obtain ⟨j, h1, h2, h3⟩ := idx_some h
  have e : ixV fs z = j := by unfold ixV; rw [h1]; rfl
  rw [e]
  exact ⟨h1, by rw [List.length_map] at h2; exact h2, h3⟩
theorem swI_fit {fs : List Fld} {i : Nat} {w n : Int} (h : i < fs.length) (hw : w = 1 ∨ w = -1) : (swI fs i w n = "") ↔ fitV (fs.getD i fd0) w n = true := by
  unfold swI
  rw [if_pos ⟨by omega, by omega⟩, if_pos hw, Int.toNat_natCast]
  constructor
  · intro g
    by_cases c : fitV (fs.getD i fd0) w n = true
    · exact c
    · rw [if_neg c] at g
      exact absurd g (by decide)
  · intro g
    rw [if_pos g]
/-- the rest of the reading, when the sign is told -/
theorem strOk_iff {z : Str} : PyData.strOk z = true ↔ ∀ c ∈ cl z, c < 1114112 := by
  unfold PyData.strOk
  rw [Array.all_eq_true']
  constructor
  · intro h c hc
    have := h c (by simpa using hc)
    simp only [decide_eq_true_eq] at this
    omega
  · intro h c hc
    have := h c (by simpa using hc)
    simp only [decide_eq_true_eq]
    omega
theorem strOk_sub {z t : Str} (h : PyData.strOk t = true) (hs : ∀ c ∈ cl z, c ∈ cl t) : PyData.strOk z = true := strOk_iff.mpr fun c hc => strOk_iff.mp h c (hs c hc)
theorem name_ok {t : Str} {p : Nat} (h : PyData.strOk t = true) : PyData.strOk (nameS t p) = true := strOk_sub h fun c hc => List.mem_of_mem_take hc
theorem fg_len {t : Str} {p : Nat} : (fgS t p).length ≤ t.length := by
  rw [← cl_len, ← cl_len, cl_fig, List.length_drop]; omega
theorem from_w {fs : List Fld} {t : Str} (ht : t.length ≤ 1000) (hfs : ∀ f ∈ fs, Nm f.n) (hl : fs.length ≤ 100) (hok : PyData.strOk t = true) (h : ∀ S', Fk 0 S S' → Q (fromD (rdV fs t)) S') : W (x, Q) tt (m_saying_from [FD fs, .str t] S) := by
  have hz : t.length + 2 ≤ sizeLine := by rw [sizeLine_eq]; omega
  have eu : ((Str.ofString ">=").length == 0) = false := by decide
  have ed : ((Str.ofString "<=").length == 0) = false := by decide
  have main : ∀ (p : Nat) (w : Int) (sg : Str), (w = 1 ∨ w = -1) → oTab tabS (.int w) S = some (.str sg, S) → (sg.length == 0) = false → Txt.split t sg = [nameS t p, fgS t p] → wayV t = .int w → rdV fs t = rd2 fs t p w → W (x, Q) tt (m_saying_from [FD fs, .str t] S) := by
    intro p w sg hw htab hsl hsp hway hrd
    rw [hrd] at h
    have hT : ∀ {Q : D → Store → Prop} {tt : Tg Q}, WO Q tt (oTab [((1), ">="), ((-1), "<=")] (.int w) S) = Q (.str sg) S := by
      intro Q tt
      rw [htab]; rfl
    simp only [↓reduceIte,↓ZP,↓W_K,↓trc,↓Zbi,↓Zbs,↓Zgg,ZQ,Zhu,Zhz,Zia,Zic,okEq,okCmp,okIn,D.fits,D.fitsL,D.dep,D.depL,D.eqv,D.eqvL,D.alike,D.alikeL,Nat.reduceAdd,Nat.reduceSub,c02,Zkf,Zkg,Zki,Nat.reduceEqDiff,Nat.reduceLeDiff,Int.reduceAdd,Int.reduceSub,Int.reduceMul,Int.reduceNeg,Int.reducePow,Int.reduceLT,Int.reduceLE,Int.reduceEq,Int.reduceToNat,qn1,qn2,qn3,qn4,qn5,qk1,qk5,lq1,lq2,lq3,lq4,lq5,at0,at1,at2,at3,at4,at5,Znb,uq1,uq2,uq3,uq4,oq1,oq2,oq3,oq4,tq1,tq2,tq3,tq4,tq5,sl0,slS,lk0,Znh,Zni,Znj,Znk,Znl,Znm,Znn,Zno,Znp,Znv,Zny,Zof,Zog,reduceCtorEq,Zok, wm_saying_from, b_saying_from]
    refine way_w ?_
    rw [hway]
    simp only [↓reduceIte,↓ZP,↓W_K,↓trc,↓Zbi,↓Zbs,↓Zgg,ZQ,Zhu,Zhz,Zia,Zic,okEq,okCmp,okIn,D.fits,D.fitsL,D.dep,D.depL,D.eqv,D.eqvL,D.alike,D.alikeL,Nat.reduceAdd,Nat.reduceSub,c02,Zkf,Zkg,Zki,Nat.reduceEqDiff,Nat.reduceLeDiff,Int.reduceAdd,Int.reduceSub,Int.reduceMul,Int.reduceNeg,Int.reducePow,Int.reduceLT,Int.reduceLE,Int.reduceEq,Int.reduceToNat,qn1,qn2,qn3,qn4,qn5,qk1,qk5,lq1,lq2,lq3,lq4,lq5,at0,at1,at2,at3,at4,at5,Znb,uq1,uq2,uq3,uq4,oq1,oq2,oq3,oq4,tq1,tq2,tq3,tq4,tq5,sl0,slS,lk0,Znh,Zni,Znj,Znk,Znl,Znm,Znn,Zno,Znp,Znv,Zny,Zof,Zog,reduceCtorEq,Zok, hT, hsl, hsp]
    refine ⟨hz, by simp, ?_⟩
    have hnn : ∀ z ∈ fs.map (·.n), NmOk z := fun z hz => by
      obtain ⟨f, hf, rfl⟩ := List.mem_map.mp hz
      exact (hfs f hf).st
    have hno : NmOk (nameS t p) := name_ok hok
    have hfl := fg_len (t := t) (p := p)
    have F1 := (Fk.refl 0 S).app [Cell.lst [D.str (nameS t p), D.str (fgS t p)]]
    simp only [↓reduceIte,↓ZP,↓W_K,↓trc,↓Zbi,↓Zbs,↓Zgg,ZQ,Zhu,Zhz,Zia,Zic,okEq,okCmp,okIn,D.fits,D.fitsL,D.dep,D.depL,D.eqv,D.eqvL,D.alike,D.alikeL,Nat.reduceAdd,Nat.reduceSub,c02,Zkf,Zkg,Zki,Nat.reduceEqDiff,Nat.reduceLeDiff,Int.reduceAdd,Int.reduceSub,Int.reduceMul,Int.reduceNeg,Int.reducePow,Int.reduceLT,Int.reduceLE,Int.reduceEq,Int.reduceToNat,qn1,qn2,qn3,qn4,qn5,qk1,qk5,lq1,lq2,lq3,lq4,lq5,at0,at1,at2,at3,at4,at5,Znb,uq1,uq2,uq3,uq4,oq1,oq2,oq3,oq4,tq1,tq2,tq3,tq4,tq5,sl0,slS,lk0,Znh,Zni,Znj,Znk,Znl,Znm,Znn,Zno,Znp,Znv,Zny,Zof,Zog,reduceCtorEq,Zok, List.map_cons, List.map_nil]
    unfold FD
    simp only [↓reduceIte,↓ZP,↓W_K,↓trc,↓Zbi,↓Zbs,↓Zgg,ZQ,Zhu,Zhz,Zia,Zic,okEq,okCmp,okIn,D.fits,D.fitsL,D.dep,D.depL,D.eqv,D.eqvL,D.alike,D.alikeL,Nat.reduceAdd,Nat.reduceSub,c02,Zkf,Zkg,Zki,Nat.reduceEqDiff,Nat.reduceLeDiff,Int.reduceAdd,Int.reduceSub,Int.reduceMul,Int.reduceNeg,Int.reducePow,Int.reduceLT,Int.reduceLE,Int.reduceEq,Int.reduceToNat,qn1,qn2,qn3,qn4,qn5,qk1,qk5,lq1,lq2,lq3,lq4,lq5,at0,at1,at2,at3,at4,at5,Znb,uq1,uq2,uq3,uq4,oq1,oq2,oq3,oq4,tq1,tq2,tq3,tq4,tq5,sl0,slS,lk0,Znh,Zni,Znj,Znk,Znl,Znm,Znn,Zno,Znp,Znv,Zny,Zof,Zog,reduceCtorEq,Zok, it_tup]
    refine W_cPure nmD trivial (by rw [List.length_map, sizeLine_eq]; simp; omega) (fun d hd => ?_) ?_
    · obtain ⟨f, hf, rfl⟩ := List.mem_map.mp hd
      simp only [↓reduceIte,↓ZP,↓W_K,↓trc,↓Zbi,↓Zbs,↓Zgg,ZQ,Zhu,Zhz,Zia,Zic,okEq,okCmp,okIn,D.fits,D.fitsL,D.dep,D.depL,D.eqv,D.eqvL,D.alike,D.alikeL,Nat.reduceAdd,Nat.reduceSub,c02,Zkf,Zkg,Zki,Nat.reduceEqDiff,Nat.reduceLeDiff,Int.reduceAdd,Int.reduceSub,Int.reduceMul,Int.reduceNeg,Int.reducePow,Int.reduceLT,Int.reduceLE,Int.reduceEq,Int.reduceToNat,qn1,qn2,qn3,qn4,qn5,qk1,qk5,lq1,lq2,lq3,lq4,lq5,at0,at1,at2,at3,at4,at5,Znb,uq1,uq2,uq3,uq4,oq1,oq2,oq3,oq4,tq1,tq2,tq3,tq4,tq5,sl0,slS,lk0,Znh,Zni,Znj,Znk,Znl,Znm,Znn,Zno,Znp,Znv,Zny,Zof,Zog,reduceCtorEq,Zok, fd_eq, nmD]
    rw [List.nil_append, nmD_map]
    have F2 := F1.app [Cell.lst ((fs.map (·.n)).map D.str)]
    have hN : lstAt ((S ++ [Cell.lst [D.str (nameS t p), D.str (fgS t p)]]) ++ [Cell.lst ((fs.map (·.n)).map D.str)]) (S ++ [Cell.lst [D.str (nameS t p), D.str (fgS t p)]]).length = some ((fs.map (·.n)).map D.str) := lstAt_new
    unfold rd2 at h
    simp only [↓reduceIte,↓ZP,↓W_K,↓trc,↓Zbi,↓Zbs,↓Zgg,ZQ,Zhu,Zhz,Zia,Zic,okEq,okCmp,okIn,D.fits,D.fitsL,D.dep,D.depL,D.eqv,D.eqvL,D.alike,D.alikeL,Nat.reduceAdd,Nat.reduceSub,c02,Zkf,Zkg,Zki,Nat.reduceEqDiff,Nat.reduceLeDiff,Int.reduceAdd,Int.reduceSub,Int.reduceMul,Int.reduceNeg,Int.reducePow,Int.reduceLT,Int.reduceLE,Int.reduceEq,Int.reduceToNat,qn1,qn2,qn3,qn4,qn5,qk1,qk5,lq1,lq2,lq3,lq4,lq5,at0,at1,at2,at3,at4,at5,Znb,uq1,uq2,uq3,uq4,oq1,oq2,oq3,oq4,tq1,tq2,tq3,tq4,tq5,sl0,slS,lk0,Znh,Zni,Znj,Znk,Znl,Znm,Znn,Zno,Znp,Znv,Zny,Zof,Zog,reduceCtorEq,Zok]
    refine ⟨⟨hno, (okIn_names hno hnn).2.1⟩, fun g => ?_, fun g => ?_⟩
    · rw [inL_names, decide_eq_false_iff_not] at g
      rw [if_neg g] at h
      exact h _ F2
    · rw [inL_names, decide_eq_true_eq] at g
      rw [if_pos g] at h
      obtain ⟨j1, j2, j3⟩ := ixV_of g
      refine written_w (by rw [sizeLine_eq]; omega) ?_
      unfold numD
      cases q : numV (fgS t p) with
      | none =>
        rw [q] at h
        simp only [↓reduceIte,↓ZP,↓W_K,↓trc,↓Zbi,↓Zbs,↓Zgg,ZQ,Zhu,Zhz,Zia,Zic,okEq,okCmp,okIn,D.fits,D.fitsL,D.dep,D.depL,D.eqv,D.eqvL,D.alike,D.alikeL,Nat.reduceAdd,Nat.reduceSub,c02,Zkf,Zkg,Zki,Nat.reduceEqDiff,Nat.reduceLeDiff,Int.reduceAdd,Int.reduceSub,Int.reduceMul,Int.reduceNeg,Int.reducePow,Int.reduceLT,Int.reduceLE,Int.reduceEq,Int.reduceToNat,qn1,qn2,qn3,qn4,qn5,qk1,qk5,lq1,lq2,lq3,lq4,lq5,at0,at1,at2,at3,at4,at5,Znb,uq1,uq2,uq3,uq4,oq1,oq2,oq3,oq4,tq1,tq2,tq3,tq4,tq5,sl0,slS,lk0,Znh,Zni,Znj,Znk,Znl,Znm,Znn,Zno,Znp,Znv,Zny,Zof,Zog,reduceCtorEq,Zok]
        exact h _ F2
      | some n =>
        rw [q] at h
        simp only at h
        unfold rd3 at h
        simp only [↓reduceIte,↓ZP,↓W_K,↓trc,↓Zbi,↓Zbs,↓Zgg,ZQ,Zhu,Zhz,Zia,Zic,okEq,okCmp,okIn,D.fits,D.fitsL,D.dep,D.depL,D.eqv,D.eqvL,D.alike,D.alikeL,Nat.reduceAdd,Nat.reduceSub,c02,Zkf,Zkg,Zki,Nat.reduceEqDiff,Nat.reduceLeDiff,Int.reduceAdd,Int.reduceSub,Int.reduceMul,Int.reduceNeg,Int.reducePow,Int.reduceLT,Int.reduceLE,Int.reduceEq,Int.reduceToNat,qn1,qn2,qn3,qn4,qn5,qk1,qk5,lq1,lq2,lq3,lq4,lq5,at0,at1,at2,at3,at4,at5,Znb,uq1,uq2,uq3,uq4,oq1,oq2,oq3,oq4,tq1,tq2,tq3,tq4,tq5,sl0,slS,lk0,Znh,Zni,Znj,Znk,Znl,Znm,Znn,Zno,Znp,Znv,Zny,Zof,Zog,reduceCtorEq,Zok, hN, o_indexW, j1]
        refine ⟨⟨hno, (okIn_names hno hnn).2.1⟩, ?_⟩
        refine fits_w (fs := fs) (by omega) (by omega) ?_
        rw [Int.toNat_natCast]
        have hiff := swI_fit (n := n) j2 hw
        cases qf : fitV (fs.getD (ixV fs (nameS t p)) fd0) w n with
        | false =>
          rw [if_neg (fun z => by rw [hiff.mp z] at qf; cases qf)] at h
          simp only [↓reduceIte,↓ZP,↓W_K,↓trc,↓Zbi,↓Zbs,↓Zgg,ZQ,Zhu,Zhz,Zia,Zic,okEq,okCmp,okIn,D.fits,D.fitsL,D.dep,D.depL,D.eqv,D.eqvL,D.alike,D.alikeL,Nat.reduceAdd,Nat.reduceSub,c02,Zkf,Zkg,Zki,Nat.reduceEqDiff,Nat.reduceLeDiff,Int.reduceAdd,Int.reduceSub,Int.reduceMul,Int.reduceNeg,Int.reducePow,Int.reduceLT,Int.reduceLE,Int.reduceEq,Int.reduceToNat,qn1,qn2,qn3,qn4,qn5,qk1,qk5,lq1,lq2,lq3,lq4,lq5,at0,at1,at2,at3,at4,at5,Znb,uq1,uq2,uq3,uq4,oq1,oq2,oq3,oq4,tq1,tq2,tq3,tq4,tq5,sl0,slS,lk0,Znh,Zni,Znj,Znk,Znl,Znm,Znn,Zno,Znp,Znv,Zny,Zof,Zog,reduceCtorEq,Zok]
          exact h _ F2
        | true =>
          rw [if_pos (hiff.mpr qf)] at h
          simp only [↓reduceIte,↓ZP,↓W_K,↓trc,↓Zbi,↓Zbs,↓Zgg,ZQ,Zhu,Zhz,Zia,Zic,okEq,okCmp,okIn,D.fits,D.fitsL,D.dep,D.depL,D.eqv,D.eqvL,D.alike,D.alikeL,Nat.reduceAdd,Nat.reduceSub,c02,Zkf,Zkg,Zki,Nat.reduceEqDiff,Nat.reduceLeDiff,Int.reduceAdd,Int.reduceSub,Int.reduceMul,Int.reduceNeg,Int.reducePow,Int.reduceLT,Int.reduceLE,Int.reduceEq,Int.reduceToNat,qn1,qn2,qn3,qn4,qn5,qk1,qk5,lq1,lq2,lq3,lq4,lq5,at0,at1,at2,at3,at4,at5,Znb,uq1,uq2,uq3,uq4,oq1,oq2,oq3,oq4,tq1,tq2,tq3,tq4,tq5,sl0,slS,lk0,Znh,Zni,Znj,Znk,Znl,Znm,Znn,Zno,Znp,Znv,Zny,Zof,Zog,reduceCtorEq,Zok]
          exact h _ F2
  have none : wayV t = .non → rdV fs t = .inr "sign" → W (x, Q) tt (m_saying_from [FD fs, .str t] S) := by
    intro hway hrd
    rw [hrd] at h
    simp only [↓reduceIte,↓ZP,↓W_K,↓trc,↓Zbi,↓Zbs,↓Zgg,ZQ,Zhu,Zhz,Zia,Zic,okEq,okCmp,okIn,D.fits,D.fitsL,D.dep,D.depL,D.eqv,D.eqvL,D.alike,D.alikeL,Nat.reduceAdd,Nat.reduceSub,c02,Zkf,Zkg,Zki,Nat.reduceEqDiff,Nat.reduceLeDiff,Int.reduceAdd,Int.reduceSub,Int.reduceMul,Int.reduceNeg,Int.reducePow,Int.reduceLT,Int.reduceLE,Int.reduceEq,Int.reduceToNat,qn1,qn2,qn3,qn4,qn5,qk1,qk5,lq1,lq2,lq3,lq4,lq5,at0,at1,at2,at3,at4,at5,Znb,uq1,uq2,uq3,uq4,oq1,oq2,oq3,oq4,tq1,tq2,tq3,tq4,tq5,sl0,slS,lk0,Znh,Zni,Znj,Znk,Znl,Znm,Znn,Zno,Znp,Znv,Zny,Zof,Zog,reduceCtorEq,Zok, wm_saying_from, b_saying_from]
    refine way_w ?_
    rw [hway]
    simp only [↓reduceIte,↓ZP,↓W_K,↓trc,↓Zbi,↓Zbs,↓Zgg,ZQ,Zhu,Zhz,Zia,Zic,okEq,okCmp,okIn,D.fits,D.fitsL,D.dep,D.depL,D.eqv,D.eqvL,D.alike,D.alikeL,Nat.reduceAdd,Nat.reduceSub,c02,Zkf,Zkg,Zki,Nat.reduceEqDiff,Nat.reduceLeDiff,Int.reduceAdd,Int.reduceSub,Int.reduceMul,Int.reduceNeg,Int.reducePow,Int.reduceLT,Int.reduceLE,Int.reduceEq,Int.reduceToNat,qn1,qn2,qn3,qn4,qn5,qk1,qk5,lq1,lq2,lq3,lq4,lq5,at0,at1,at2,at3,at4,at5,Znb,uq1,uq2,uq3,uq4,oq1,oq2,oq3,oq4,tq1,tq2,tq3,tq4,tq5,sl0,slS,lk0,Znh,Zni,Znj,Znk,Znl,Znm,Znn,Zno,Znp,Znv,Zny,Zof,Zog,reduceCtorEq,Zok]
    exact h _ (Fk.refl _ _)
  cases qu : ups t with
  | nil =>
    cases qd : dns t with
    | nil => exact none (by unfold wayV; rw [qu, qd]; rfl) (by unfold rdV; rw [qu, qd])
    | cons p r =>
      cases r with
      | nil => exact main p (-1) "<=" (.inr rfl) rfl ed (split_one_dn qd) (by unfold wayV; rw [qu, qd]; rfl) (by unfold rdV; rw [qu, qd])
      | cons p2 r => exact none (by unfold wayV; rw [qu, qd, if_neg (by simp)]) (by unfold rdV; rw [qu, qd])
  | cons p r =>
    cases r with
    | nil =>
      cases qd : dns t with
      | nil => exact main p 1 ">=" (.inl rfl) rfl eu (split_one_up qu) (by unfold wayV; rw [qu, qd]; rfl) (by unfold rdV; rw [qu, qd])
      | cons p2 r => exact none (by unfold wayV; rw [qu, qd, if_neg (by simp)]) (by unfold rdV; rw [qu, qd])
    | cons p2 r => exact none (by unfold wayV; rw [qu, if_neg (by simp; omega)]) (by unfold rdV; rw [qu])
end
end LW

namespace LW
open PySem PySem.Spec PyProof.Rows L2 DL
section
variable {x : XQ} {Q : D → Store → Prop} {tt : Tg (x, Q)} {S S' : Store}
theorem read_w {fs : List Fld} {t : Str} (ht : t.length ≤ 1000) (hfs : ∀ f ∈ fs, Nm f.n) (hl : fs.length ≤ 100) (hok : PyData.strOk t = true) (h1 : ∀ s, rdV fs t = .inl s → ∀ S', Fk 0 S S' → Q (sayD s) S') (h2 : ∀ e, rdV fs t = .inr e → ∀ S', Fk 0 S S' → x (exT e) S') : W (x, Q) tt (m_read_saying [FD fs, .str t] S) := by
  simp only [↓reduceIte,↓ZP,↓W_K,↓trc,↓Zbi,↓Zbs,↓Zgg,ZQ,Zhu,Zhz,Zia,Zic,okEq,okCmp,okIn,D.fits,D.fitsL,D.dep,D.depL,D.eqv,D.eqvL,D.alike,D.alikeL,Nat.reduceAdd,Nat.reduceSub,c02,Zkf,Zkg,Zki,Nat.reduceEqDiff,Nat.reduceLeDiff,Int.reduceAdd,Int.reduceSub,Int.reduceMul,Int.reduceNeg,Int.reducePow,Int.reduceLT,Int.reduceLE,Int.reduceEq,Int.reduceToNat,qn1,qn2,qn3,qn4,qn5,qk1,qk5,lq1,lq2,lq3,lq4,lq5,at0,at1,at2,at3,at4,at5,Znb,uq1,uq2,uq3,uq4,oq1,oq2,oq3,oq4,tq1,tq2,tq3,tq4,tq5,sl0,slS,lk0,Znh,Zni,Znj,Znk,Znl,Znm,Znn,Zno,Znp,Znv,Zny,Zof,Zog,reduceCtorEq,Zok, wm_read_saying, b_read_saying]
  refine from_w ht hfs hl hok fun S1 F1 => ?_
  cases q : rdV fs t with
  | inl s =>
    simp only [fromD]
    simp only [↓reduceIte,↓ZP,↓W_K,↓trc,↓Zbi,↓Zbs,↓Zgg,ZQ,Zhu,Zhz,Zia,Zic,okEq,okCmp,okIn,D.fits,D.fitsL,D.dep,D.depL,D.eqv,D.eqvL,D.alike,D.alikeL,Nat.reduceAdd,Nat.reduceSub,c02,Zkf,Zkg,Zki,Nat.reduceEqDiff,Nat.reduceLeDiff,Int.reduceAdd,Int.reduceSub,Int.reduceMul,Int.reduceNeg,Int.reducePow,Int.reduceLT,Int.reduceLE,Int.reduceEq,Int.reduceToNat,qn1,qn2,qn3,qn4,qn5,qk1,qk5,lq1,lq2,lq3,lq4,lq5,at0,at1,at2,at3,at4,at5,Znb,uq1,uq2,uq3,uq4,oq1,oq2,oq3,oq4,tq1,tq2,tq3,tq4,tq5,sl0,slS,lk0,Znh,Zni,Znj,Znk,Znl,Znm,Znn,Zno,Znp,Znv,Zny,Zof,Zog,reduceCtorEq,Zok]
    exact h1 s q _ F1
  | inr e =>
    simp only [fromD]
    simp only [↓reduceIte,↓ZP,↓W_K,↓trc,↓Zbi,↓Zbs,↓Zgg,ZQ,Zhu,Zhz,Zia,Zic,okEq,okCmp,okIn,D.fits,D.fitsL,D.dep,D.depL,D.eqv,D.eqvL,D.alike,D.alikeL,Nat.reduceAdd,Nat.reduceSub,c02,Zkf,Zkg,Zki,Nat.reduceEqDiff,Nat.reduceLeDiff,Int.reduceAdd,Int.reduceSub,Int.reduceMul,Int.reduceNeg,Int.reducePow,Int.reduceLT,Int.reduceLE,Int.reduceEq,Int.reduceToNat,qn1,qn2,qn3,qn4,qn5,qk1,qk5,lq1,lq2,lq3,lq4,lq5,at0,at1,at2,at3,at4,at5,Znb,uq1,uq2,uq3,uq4,oq1,oq2,oq3,oq4,tq1,tq2,tq3,tq4,tq5,sl0,slS,lk0,Znh,Zni,Znj,Znk,Znl,Znm,Znn,Zno,Znp,Znv,Zny,Zof,Zog,reduceCtorEq,Zok]
    exact h2 e q _ F1
theorem rdV_sign {fs : List Fld} {t : Str} (h : ¬ ((ups t).length + (dns t).length = 1)) : rdV fs t = .inr "sign" := by
  unfold rdV
  split
  · rename_i p h1 h2
    rw [h1, h2] at h
    exact absurd rfl h
  · rename_i p h1 h2
    rw [h1, h2] at h
    exact absurd rfl h
  · rfl
theorem rdV_one {fs : List Fld} {t : Str} (h : (ups t).length + (dns t).length = 1) : ∃ (p : Nat) (w : Int), (w = 1 ∨ w = -1) ∧ (ups t).map nat ++ (dns t).map nat = [nat p] ∧ ((ups t).length : Int) - (dns t).length = w ∧ rdV fs t = rd2 fs t p w := by
  cases qu : ups t with
  | nil =>
    cases qd : dns t with
    | nil => rw [qu, qd] at h; cases h
    | cons p r =>
      cases r with
      | nil => exact ⟨p, -1, .inr rfl, rfl, rfl, by unfold rdV; rw [qu, qd]⟩
      | cons p2 r => rw [qu, qd] at h; simp at h
  | cons p r =>
    cases r with
    | nil =>
      cases qd : dns t with
      | nil => exact ⟨p, 1, .inl rfl, rfl, rfl, by unfold rdV; rw [qu, qd]⟩
      | cons p2 r => rw [qu, qd] at h; simp at h
    | cons p2 r => rw [qu] at h; simp at h; omega
theorem due_w {fs : List Fld} {t : Str} (ht : t.length ≤ 1000) (hfs : ∀ f ∈ fs, Nm f.n) (hl : fs.length ≤ 100) (hok : PyData.strOk t = true) (h : ∀ S', Fk 0 S S' → Q (dueD (rdV fs t)) S') : W (x, Q) tt (m__law_read_due [FD fs, .str t] S) := by
  have hz : t.length ≤ sizeLine := by rw [sizeLine_eq]; omega
  have hlu : (((ups t).map nat).length : Int) = (ups t).length := by rw [List.length_map]
  have hld : (((dns t).map nat).length : Int) = (dns t).length := by rw [List.length_map]
  rw [wm__law_read_due]
  unfold b__law_read_due
  rw [WS_seq]
  simp only [↓reduceIte,↓ZP,↓W_K,↓trc,↓Zbs,↓Zgg,ZQ,Zhu,Zhz,Zia,Zic,okEq,okCmp,okIn,D.fits,D.fitsL,D.dep,D.depL,D.eqv,D.eqvL,D.alike,D.alikeL,Nat.reduceAdd,Nat.reduceSub,c02,Zkf,Zkg,Zki,Nat.reduceEqDiff,Nat.reduceLeDiff,Int.reduceAdd,Int.reduceSub,Int.reduceMul,Int.reduceNeg,Int.reducePow,Int.reduceLT,Int.reduceLE,Int.reduceEq,Int.reduceToNat,qn1,qn2,qn3,qn4,qn5,qk1,qk5,lq1,lq2,lq3,lq4,lq5,at0,at1,at2,at3,at4,at5,Znb,uq1,uq2,uq3,uq4,oq1,oq2,oq3,oq4,tq1,tq2,tq3,tq4,tq5,sl0,slS,lk0,Znh,Zni,Znj,Znk,Znl,Znm,Znn,Zno,Znp,Znv,Zny,Zof,Zog,reduceCtorEq,Zok]
  refine found_w cl_up (by omega) ?_
  simp only [↓reduceIte,↓ZP,↓W_K,↓trc,↓Zbs,↓Zgg,ZQ,Zhu,Zhz,Zia,Zic,okEq,okCmp,okIn,D.fits,D.fitsL,D.dep,D.depL,D.eqv,D.eqvL,D.alike,D.alikeL,Nat.reduceAdd,Nat.reduceSub,c02,Zkf,Zkg,Zki,Nat.reduceEqDiff,Nat.reduceLeDiff,Int.reduceAdd,Int.reduceSub,Int.reduceMul,Int.reduceNeg,Int.reducePow,Int.reduceLT,Int.reduceLE,Int.reduceEq,Int.reduceToNat,qn1,qn2,qn3,qn4,qn5,qk1,qk5,lq1,lq2,lq3,lq4,lq5,at0,at1,at2,at3,at4,at5,Znb,uq1,uq2,uq3,uq4,oq1,oq2,oq3,oq4,tq1,tq2,tq3,tq4,tq5,sl0,slS,lk0,Znh,Zni,Znj,Znk,Znl,Znm,Znn,Zno,Znp,Znv,Zny,Zof,Zog,reduceCtorEq,Zok]
  rw [WS_seq]
  simp only [↓reduceIte,↓ZP,↓W_K,↓trc,↓Zbs,↓Zgg,ZQ,Zhu,Zhz,Zia,Zic,okEq,okCmp,okIn,D.fits,D.fitsL,D.dep,D.depL,D.eqv,D.eqvL,D.alike,D.alikeL,Nat.reduceAdd,Nat.reduceSub,c02,Zkf,Zkg,Zki,Nat.reduceEqDiff,Nat.reduceLeDiff,Int.reduceAdd,Int.reduceSub,Int.reduceMul,Int.reduceNeg,Int.reducePow,Int.reduceLT,Int.reduceLE,Int.reduceEq,Int.reduceToNat,qn1,qn2,qn3,qn4,qn5,qk1,qk5,lq1,lq2,lq3,lq4,lq5,at0,at1,at2,at3,at4,at5,Znb,uq1,uq2,uq3,uq4,oq1,oq2,oq3,oq4,tq1,tq2,tq3,tq4,tq5,sl0,slS,lk0,Znh,Zni,Znj,Znk,Znl,Znm,Znn,Zno,Znp,Znv,Zny,Zof,Zog,reduceCtorEq,Zok]
  refine found_w cl_dn (by omega) ?_
  have F1 := ((Fk.refl 0 S).app [Cell.lst ((ups t).map nat)]).app [Cell.lst ((dns t).map nat)]
  have hU : lstAt ((S ++ [Cell.lst ((ups t).map nat)]) ++ [Cell.lst ((dns t).map nat)]) S.length = some ((ups t).map nat) := lstAt_app lstAt_new
  have hD : lstAt ((S ++ [Cell.lst ((ups t).map nat)]) ++ [Cell.lst ((dns t).map nat)]) (S ++ [Cell.lst ((ups t).map nat)]).length = some ((dns t).map nat) := lstAt_new
  generalize (S ++ [Cell.lst ((ups t).map nat)]) ++ [Cell.lst ((dns t).map nat)] = S1 at F1 hU hD ⊢
  generalize S.length = A at hU ⊢
  generalize (S ++ [Cell.lst ((ups t).map nat)]).length = B at hD ⊢
  simp only [↓reduceIte,↓ZP,↓W_K,↓trc,↓Zbs,↓Zgg,ZQ,Zhu,Zhz,Zia,Zic,okEq,okCmp,okIn,D.fits,D.fitsL,D.dep,D.depL,D.eqv,D.eqvL,D.alike,D.alikeL,Nat.reduceAdd,Nat.reduceSub,c02,Zkf,Zkg,Zki,Nat.reduceEqDiff,Nat.reduceLeDiff,Int.reduceAdd,Int.reduceSub,Int.reduceMul,Int.reduceNeg,Int.reducePow,Int.reduceLT,Int.reduceLE,Int.reduceEq,Int.reduceToNat,qn1,qn2,qn3,qn4,qn5,qk1,qk5,lq1,lq2,lq3,lq4,lq5,at0,at1,at2,at3,at4,at5,Znb,uq1,uq2,uq3,uq4,oq1,oq2,oq3,oq4,tq1,tq2,tq3,tq4,tq5,sl0,slS,lk0,Znh,Zni,Znj,Znk,Znl,Znm,Znn,Zno,Znp,Znv,Zny,Zof,Zog,reduceCtorEq,Zok]
  rw [WS_seq]
  simp only [↓reduceIte,↓ZP,↓W_K,↓trc,↓Zbs,↓Zgg,ZQ,Zhu,Zhz,Zia,Zic,okEq,okCmp,okIn,D.fits,D.fitsL,D.dep,D.depL,D.eqv,D.eqvL,D.alike,D.alikeL,Nat.reduceAdd,Nat.reduceSub,c02,Zkf,Zkg,Zki,Nat.reduceEqDiff,Nat.reduceLeDiff,Int.reduceAdd,Int.reduceSub,Int.reduceMul,Int.reduceNeg,Int.reducePow,Int.reduceLT,Int.reduceLE,Int.reduceEq,Int.reduceToNat,qn1,qn2,qn3,qn4,qn5,qk1,qk5,lq1,lq2,lq3,lq4,lq5,at0,at1,at2,at3,at4,at5,Znb,uq1,uq2,uq3,uq4,oq1,oq2,oq3,oq4,tq1,tq2,tq3,tq4,tq5,sl0,slS,lk0,Znh,Zni,Znj,Znk,Znl,Znm,Znn,Zno,Znp,Znv,Zny,Zof,Zog,reduceCtorEq,Zok, hU, hD, hlu, hld]
  refine ⟨fun g => ?_, fun g => ?_⟩
  · have := h S1 F1
    rw [rdV_sign (by omega)] at this
    exact this
  · obtain ⟨p, w, hw, hcat, hdif, hrd⟩ := rdV_one (fs := fs) (t := t) (by omega)
    rw [hrd] at h
    rw [WS_seq]
    simp only [↓reduceIte,↓ZP,↓W_K,↓trc,↓Zbs,↓Zgg,ZQ,Zhu,Zhz,Zia,Zic,okEq,okCmp,okIn,D.fits,D.fitsL,D.dep,D.depL,D.eqv,D.eqvL,D.alike,D.alikeL,Nat.reduceAdd,Nat.reduceSub,c02,Zkf,Zkg,Zki,Nat.reduceEqDiff,Nat.reduceLeDiff,Int.reduceAdd,Int.reduceSub,Int.reduceMul,Int.reduceNeg,Int.reducePow,Int.reduceLT,Int.reduceLE,Int.reduceEq,Int.reduceToNat,qn1,qn2,qn3,qn4,qn5,qk1,qk5,lq1,lq2,lq3,lq4,lq5,at0,at1,at2,at3,at4,at5,Znb,uq1,uq2,uq3,uq4,oq1,oq2,oq3,oq4,tq1,tq2,tq3,tq4,tq5,sl0,slS,lk0,Znh,Zni,Znj,Znk,Znl,Znm,Znn,Zno,Znp,Znv,Zny,Zof,Zog,reduceCtorEq,Zok, hU, hD]
    rw [hcat]
    refine ⟨by rw [sizeLine_eq]; simp; omega, ?_⟩
    have hat : atI [nat p] 0 = some (.int p) := by rfl
    simp only [↓reduceIte,↓ZP,↓W_K,↓trc,↓Zbs,↓Zgg,ZQ,Zhu,Zhz,Zia,Zic,okEq,okCmp,okIn,D.fits,D.fitsL,D.dep,D.depL,D.eqv,D.eqvL,D.alike,D.alikeL,Nat.reduceAdd,Nat.reduceSub,c02,Zkf,Zkg,Zki,Nat.reduceEqDiff,Nat.reduceLeDiff,Int.reduceAdd,Int.reduceSub,Int.reduceMul,Int.reduceNeg,Int.reducePow,Int.reduceLT,Int.reduceLE,Int.reduceEq,Int.reduceToNat,qn1,qn2,qn3,qn4,qn5,qk1,qk5,lq1,lq2,lq3,lq4,lq5,at0,at1,at2,at3,at4,at5,Znb,uq1,uq2,uq3,uq4,oq1,oq2,oq3,oq4,tq1,tq2,tq3,tq4,tq5,sl0,slS,lk0,Znh,Zni,Znj,Znk,Znl,Znm,Znn,Zno,Znp,Znv,Zny,Zof,Zog,reduceCtorEq,Zok, lstAt_new, hat]
    have F2 := F1.app [Cell.lst [nat p]]
    have hU2 := lstAt_app (T := [Cell.lst [nat p]]) hU
    have hD2 := lstAt_app (T := [Cell.lst [nat p]]) hD
    generalize S1 ++ [Cell.lst [nat p]] = S2 at F2 hU2 hD2 ⊢
    rw [WS_seq]
    simp only [↓reduceIte,↓ZP,↓W_K,↓trc,↓Zbs,↓Zgg,ZQ,Zhu,Zhz,Zia,Zic,okEq,okCmp,okIn,D.fits,D.fitsL,D.dep,D.depL,D.eqv,D.eqvL,D.alike,D.alikeL,Nat.reduceAdd,Nat.reduceSub,c02,Zkf,Zkg,Zki,Nat.reduceEqDiff,Nat.reduceLeDiff,Int.reduceAdd,Int.reduceSub,Int.reduceMul,Int.reduceNeg,Int.reducePow,Int.reduceLT,Int.reduceLE,Int.reduceEq,Int.reduceToNat,qn1,qn2,qn3,qn4,qn5,qk1,qk5,lq1,lq2,lq3,lq4,lq5,at0,at1,at2,at3,at4,at5,Znb,uq1,uq2,uq3,uq4,oq1,oq2,oq3,oq4,tq1,tq2,tq3,tq4,tq5,sl0,slS,lk0,Znh,Zni,Znj,Znk,Znl,Znm,Znn,Zno,Znp,Znv,Zny,Zof,Zog,reduceCtorEq,Zok, FD, it_tup]
    refine W_cPure nmD trivial (by rw [List.length_map, sizeLine_eq]; simp; omega) (fun d hd => ?_) ?_
    · obtain ⟨f, hf, rfl⟩ := List.mem_map.mp hd
      simp only [↓reduceIte,↓ZP,↓W_K,↓trc,↓Zbi,↓Zbs,↓Zgg,ZQ,Zhu,Zhz,Zia,Zic,okEq,okCmp,okIn,D.fits,D.fitsL,D.dep,D.depL,D.eqv,D.eqvL,D.alike,D.alikeL,Nat.reduceAdd,Nat.reduceSub,c02,Zkf,Zkg,Zki,Nat.reduceEqDiff,Nat.reduceLeDiff,Int.reduceAdd,Int.reduceSub,Int.reduceMul,Int.reduceNeg,Int.reducePow,Int.reduceLT,Int.reduceLE,Int.reduceEq,Int.reduceToNat,qn1,qn2,qn3,qn4,qn5,qk1,qk5,lq1,lq2,lq3,lq4,lq5,at0,at1,at2,at3,at4,at5,Znb,uq1,uq2,uq3,uq4,oq1,oq2,oq3,oq4,tq1,tq2,tq3,tq4,tq5,sl0,slS,lk0,Znh,Zni,Znj,Znk,Znl,Znm,Znn,Zno,Znp,Znv,Zny,Zof,Zog,reduceCtorEq,Zok, fd_eq, nmD]
    rw [List.nil_append, nmD_map]
    have hnn : ∀ z ∈ fs.map (·.n), NmOk z := fun z hz => by
      obtain ⟨f, hf, rfl⟩ := List.mem_map.mp hz
      exact (hfs f hf).st
    have hno : NmOk (nameS t p) := name_ok hok
    have hfl := fg_len (t := t) (p := p)
    have F3 := F2.app [Cell.lst ((fs.map (·.n)).map D.str)]
    have hU3 := lstAt_app (T := [Cell.lst ((fs.map (·.n)).map D.str)]) hU2
    have hD3 := lstAt_app (T := [Cell.lst ((fs.map (·.n)).map D.str)]) hD2
    have hN : lstAt (S2 ++ [Cell.lst ((fs.map (·.n)).map D.str)]) S2.length = some ((fs.map (·.n)).map D.str) := lstAt_new
    generalize S2 ++ [Cell.lst ((fs.map (·.n)).map D.str)] = S3 at F3 hU3 hD3 hN ⊢
    generalize S2.length = N at hN ⊢
    unfold rd2 at h
    simp only [↓reduceIte,↓ZP,↓W_K,↓trc,↓Zbi,↓Zbs,↓Zgg,ZQ,Zhu,Zhz,Zia,Zic,okEq,okCmp,okIn,D.fits,D.fitsL,D.dep,D.depL,D.eqv,D.eqvL,D.alike,D.alikeL,Nat.reduceAdd,Nat.reduceSub,c02,Zkf,Zkg,Zki,Nat.reduceEqDiff,Nat.reduceLeDiff,Int.reduceAdd,Int.reduceSub,Int.reduceMul,Int.reduceNeg,Int.reducePow,Int.reduceLT,Int.reduceLE,Int.reduceEq,Int.reduceToNat,qn1,qn2,qn3,qn4,qn5,qk1,qk5,lq1,lq2,lq3,lq4,lq5,at0,at1,at2,at3,at4,at5,Znb,uq1,uq2,uq3,uq4,oq1,oq2,oq3,oq4,tq1,tq2,tq3,tq4,tq5,sl0,slS,lk0,Znh,Zni,Znj,Znk,Znl,Znm,Znn,Zno,Znp,Znv,Zny,Zof,Zog,reduceCtorEq,Zok, hN, hz, cut_name, cut_fig]
    refine ⟨⟨hno, (okIn_names hno hnn).2.1⟩, fun g2 => ?_, fun g2 => ?_⟩
    · rw [inL_names, decide_eq_false_iff_not] at g2
      rw [if_neg g2] at h
      exact h _ F3
    · rw [inL_names, decide_eq_true_eq] at g2
      rw [if_pos g2] at h
      obtain ⟨j1, j2, j3⟩ := ixV_of g2
      refine lwritten_w (by rw [sizeLine_eq]; omega) ?_
      unfold numD
      cases q : numV (fgS t p) with
      | none =>
        rw [q] at h
        simp only [↓reduceIte,↓ZP,↓W_K,↓trc,↓Zbi,↓Zbs,↓Zgg,ZQ,Zhu,Zhz,Zia,Zic,okEq,okCmp,okIn,D.fits,D.fitsL,D.dep,D.depL,D.eqv,D.eqvL,D.alike,D.alikeL,Nat.reduceAdd,Nat.reduceSub,c02,Zkf,Zkg,Zki,Nat.reduceEqDiff,Nat.reduceLeDiff,Int.reduceAdd,Int.reduceSub,Int.reduceMul,Int.reduceNeg,Int.reducePow,Int.reduceLT,Int.reduceLE,Int.reduceEq,Int.reduceToNat,qn1,qn2,qn3,qn4,qn5,qk1,qk5,lq1,lq2,lq3,lq4,lq5,at0,at1,at2,at3,at4,at5,Znb,uq1,uq2,uq3,uq4,oq1,oq2,oq3,oq4,tq1,tq2,tq3,tq4,tq5,sl0,slS,lk0,Znh,Zni,Znj,Znk,Znl,Znm,Znn,Zno,Znp,Znv,Zny,Zof,Zog,reduceCtorEq,Zok]
        exact h _ F3
      | some n =>
        rw [q] at h
        simp only at h
        unfold rd3 at h
        simp only [↓reduceIte,↓ZP,↓W_K,↓trc,↓Zbi,↓Zbs,↓Zgg,ZQ,Zhu,Zhz,Zia,Zic,okEq,okCmp,okIn,D.fits,D.fitsL,D.dep,D.depL,D.eqv,D.eqvL,D.alike,D.alikeL,Nat.reduceAdd,Nat.reduceSub,c02,Zkf,Zkg,Zki,Nat.reduceEqDiff,Nat.reduceLeDiff,Int.reduceAdd,Int.reduceSub,Int.reduceMul,Int.reduceNeg,Int.reducePow,Int.reduceLT,Int.reduceLE,Int.reduceEq,Int.reduceToNat,qn1,qn2,qn3,qn4,qn5,qk1,qk5,lq1,lq2,lq3,lq4,lq5,at0,at1,at2,at3,at4,at5,Znb,uq1,uq2,uq3,uq4,oq1,oq2,oq3,oq4,tq1,tq2,tq3,tq4,tq5,sl0,slS,lk0,Znh,Zni,Znj,Znk,Znl,Znm,Znn,Zno,Znp,Znv,Zny,Zof,Zog,reduceCtorEq,Zok, hN, hU3, hD3, hlu, hld, hz, cut_name, o_indexW, j1, hdif]
        refine ⟨⟨hno, (okIn_names hno hnn).2.1⟩, ?_⟩
        refine word_w (fs := fs) (by simp [wf, wfL]) ?_
        have ev : swV fs (.tup [.int (ixV fs (nameS t p) : Nat), .int w, .int n]) = swI fs (ixV fs (nameS t p) : Nat) w n := rfl
        rw [ev]
        by_cases c : swI fs (ixV fs (nameS t p) : Nat) w n = ""
        · rw [if_pos c] at h
          simp only [↓reduceIte,↓ZP,↓W_K,↓trc,↓Zbi,↓Zbs,↓Zgg,ZQ,Zhu,Zhz,Zia,Zic,okEq,okCmp,okIn,D.fits,D.fitsL,D.dep,D.depL,D.eqv,D.eqvL,D.alike,D.alikeL,Nat.reduceAdd,Nat.reduceSub,c02,Zkf,Zkg,Zki,Nat.reduceEqDiff,Nat.reduceLeDiff,Int.reduceAdd,Int.reduceSub,Int.reduceMul,Int.reduceNeg,Int.reducePow,Int.reduceLT,Int.reduceLE,Int.reduceEq,Int.reduceToNat,qn1,qn2,qn3,qn4,qn5,qk1,qk5,lq1,lq2,lq3,lq4,lq5,at0,at1,at2,at3,at4,at5,Znb,uq1,uq2,uq3,uq4,oq1,oq2,oq3,oq4,tq1,tq2,tq3,tq4,tq5,sl0,slS,lk0,Znh,Zni,Znj,Znk,Znl,Znm,Znn,Zno,Znp,Znv,Zny,Zof,Zog,reduceCtorEq,Zok, c]
          exact h _ F3
        · rw [if_neg c] at h
          simp only [↓reduceIte,↓ZP,↓W_K,↓trc,↓Zbi,↓Zbs,↓Zgg,ZQ,Zhu,Zhz,Zia,Zic,okEq,okCmp,okIn,D.fits,D.fitsL,D.dep,D.depL,D.eqv,D.eqvL,D.alike,D.alikeL,Nat.reduceAdd,Nat.reduceSub,c02,Zkf,Zkg,Zki,Nat.reduceEqDiff,Nat.reduceLeDiff,Int.reduceAdd,Int.reduceSub,Int.reduceMul,Int.reduceNeg,Int.reducePow,Int.reduceLT,Int.reduceLE,Int.reduceEq,Int.reduceToNat,qn1,qn2,qn3,qn4,qn5,qk1,qk5,lq1,lq2,lq3,lq4,lq5,at0,at1,at2,at3,at4,at5,Znb,uq1,uq2,uq3,uq4,oq1,oq2,oq3,oq4,tq1,tq2,tq3,tq4,tq5,sl0,slS,lk0,Znh,Zni,Znj,Znk,Znl,Znm,Znn,Zno,Znp,Znv,Zny,Zof,Zog,reduceCtorEq,Zok, c]
          exact h _ F3
theorem lkT1 {d v : D} : List.lookup (Str.ofString "line") [(Str.ofString "line", d), (Str.ofString "word", v)] = some d := by rfl
theorem lkT2 {d v : D} : List.lookup (Str.ofString "word") [(Str.ofString "line", d), (Str.ofString "word", v)] = some v := by rfl
theorem lread_w {fs : List Fld} {t : Str} (ht : t.length ≤ 1000) (hfs : ∀ f ∈ fs, Nm f.n) (hl : fs.length ≤ 100) (hok : PyData.strOk t = true) (h : ∀ S', Fk 0 S S' → Q (.bl true) S') : W (x, Q) tt (m__law_read [FD fs, .str t] S) := by
  simp only [↓reduceIte,↓ZP,↓W_K,↓trc,↓Zbi,↓Zbs,↓Zgg,ZQ,Zhu,Zhz,Zia,Zic,okEq,okCmp,okIn,D.fits,D.fitsL,D.dep,D.depL,D.eqv,D.eqvL,D.alike,D.alikeL,Nat.reduceAdd,Nat.reduceSub,c02,Zkf,Zkg,Zki,Nat.reduceEqDiff,Nat.reduceLeDiff,Int.reduceAdd,Int.reduceSub,Int.reduceMul,Int.reduceNeg,Int.reducePow,Int.reduceLT,Int.reduceLE,Int.reduceEq,Int.reduceToNat,qn1,qn2,qn3,qn4,qn5,qk1,qk5,lq1,lq2,lq3,lq4,lq5,at0,at1,at2,at3,at4,at5,Znb,uq1,uq2,uq3,uq4,oq1,oq2,oq3,oq4,tq1,tq2,tq3,tq4,tq5,sl0,slS,lk0,Znh,Zni,Znj,Znk,Znl,Znm,Znn,Zno,Znp,Znv,Zny,Zof,Zog,reduceCtorEq,Zok, wm__law_read, b__law_read]
  refine due_w ht hfs hl hok fun S1 F1 => ?_
  simp only [↓reduceIte,↓ZP,↓W_K,↓trc,↓Zbi,↓Zbs,↓Zgg,ZQ,Zhu,Zhz,Zia,Zic,okEq,okCmp,okIn,D.fits,D.fitsL,D.dep,D.depL,D.eqv,D.eqvL,D.alike,D.alikeL,Nat.reduceAdd,Nat.reduceSub,c02,Zkf,Zkg,Zki,Nat.reduceEqDiff,Nat.reduceLeDiff,Int.reduceAdd,Int.reduceSub,Int.reduceMul,Int.reduceNeg,Int.reducePow,Int.reduceLT,Int.reduceLE,Int.reduceEq,Int.reduceToNat,qn1,qn2,qn3,qn4,qn5,qk1,qk5,lq1,lq2,lq3,lq4,lq5,at0,at1,at2,at3,at4,at5,Znb,uq1,uq2,uq3,uq4,oq1,oq2,oq3,oq4,tq1,tq2,tq3,tq4,tq5,sl0,slS,lk0,Znh,Zni,Znj,Znk,Znl,Znm,Znn,Zno,Znp,Znv,Zny,Zof,Zog,reduceCtorEq,Zok]
  refine read_w ht hfs hl hok (fun s e S2 F2 => ?_) (fun e' e S2 F2 => ?_)
  · rw [e]
    simp only [dueD]
    simp only [↓reduceIte,↓ZP,↓W_K,↓trc,↓Zbi,↓Zbs,↓Zgg,ZQ,Zhu,Zhz,Zia,Zic,okEq,okCmp,okIn,D.fits,D.fitsL,D.dep,D.depL,D.eqv,D.eqvL,D.alike,D.alikeL,Nat.reduceAdd,Nat.reduceSub,c02,Zkf,Zkg,Zki,Nat.reduceEqDiff,Nat.reduceLeDiff,Int.reduceAdd,Int.reduceSub,Int.reduceMul,Int.reduceNeg,Int.reducePow,Int.reduceLT,Int.reduceLE,Int.reduceEq,Int.reduceToNat,qn1,qn2,qn3,qn4,qn5,qk1,qk5,lq1,lq2,lq3,lq4,lq5,at0,at1,at2,at3,at4,at5,Znb,uq1,uq2,uq3,uq4,oq1,oq2,oq3,oq4,tq1,tq2,tq3,tq4,tq5,sl0,slS,lk0,Znh,Zni,Znj,Znk,Znl,Znm,Znn,Zno,Znp,Znv,Zny,Zof,Zog,reduceCtorEq,Zok]
    refine same_t (d := sayD s) (by simp [sayD, D.dep, D.depL]) (by simp [sayD, D.pl, D.plL]) ?_
    exact h _ (F1.trans F2)
  · rw [e]
    simp only [dueD]
    unfold exT
    simp only [↓reduceIte,↓ZP,↓W_K,↓trc,↓Zbi,↓Zbs,↓Zgg,ZQ,Zhu,Zhz,Zia,Zic,okEq,okCmp,okIn,D.fits,D.fitsL,D.dep,D.depL,D.eqv,D.eqvL,D.alike,D.alikeL,Nat.reduceAdd,Nat.reduceSub,c02,Zkf,Zkg,Zki,Nat.reduceEqDiff,Nat.reduceLeDiff,Int.reduceAdd,Int.reduceSub,Int.reduceMul,Int.reduceNeg,Int.reducePow,Int.reduceLT,Int.reduceLE,Int.reduceEq,Int.reduceToNat,qn1,qn2,qn3,qn4,qn5,qk1,qk5,lq1,lq2,lq3,lq4,lq5,at0,at1,at2,at3,at4,at5,Znb,uq1,uq2,uq3,uq4,oq1,oq2,oq3,oq4,tq1,tq2,tq3,tq4,tq5,sl0,slS,lk0,Znh,Zni,Znj,Znk,Znl,Znm,Znn,Zno,Znp,Znv,Zny,Zof,Zog,reduceCtorEq,Zok, tb_SheetError_BadText, tb_BadText_BadText, tb_TextError_BadText, lkT1, lkT2]
    refine same_t (d := .tup [.int 1, .str e']) (by simp [D.dep, D.depL]) (by simp [D.pl, D.plL]) ?_
    simp only [↓reduceIte,↓ZP,↓W_K,↓trc,↓Zbi,↓Zbs,↓Zgg,ZQ,Zhu,Zhz,Zia,Zic,okEq,okCmp,okIn,D.fits,D.fitsL,D.dep,D.depL,D.eqv,D.eqvL,D.alike,D.alikeL,Nat.reduceAdd,Nat.reduceSub,c02,Zkf,Zkg,Zki,Nat.reduceEqDiff,Nat.reduceLeDiff,Int.reduceAdd,Int.reduceSub,Int.reduceMul,Int.reduceNeg,Int.reducePow,Int.reduceLT,Int.reduceLE,Int.reduceEq,Int.reduceToNat,qn1,qn2,qn3,qn4,qn5,qk1,qk5,lq1,lq2,lq3,lq4,lq5,at0,at1,at2,at3,at4,at5,Znb,uq1,uq2,uq3,uq4,oq1,oq2,oq3,oq4,tq1,tq2,tq3,tq4,tq5,sl0,slS,lk0,Znh,Zni,Znj,Znk,Znl,Znm,Znn,Zno,Znp,Znv,Zny,Zof,Zog,reduceCtorEq,Zok, tb_SheetError_BadText, tb_BadText_BadText, tb_TextError_BadText, lkT1, lkT2]
    exact h _ (F1.trans F2)
end
end LW

namespace LW
open PySem PySem.Spec PyProof.Rows L2 DL
section
variable {x : XQ} {Q : D → Store → Prop} {tt : Tg (x, Q)} {S S' : Store}
abbrev numL (n : Nat) : List Nat := _root_.TL.numL n
def strI (i : Int) : Str := Str.ofString (toString i)
theorem numL_head {n : Nat} : (numL n).head? = some 48 → n = 0 := by
  induction n using Nat.strongRecOn with
  | _ n ih =>
    intro h
    by_cases h10 : n < 10
    · have e : numL n = [48 + n] := _root_.TL.numL_lt h10
      rw [e] at h
      have : 48 + n = 48 := by simpa using h
      omega
    · have e : numL n = numL (n / 10) ++ [48 + n % 10] := _root_.TL.numL_step (by omega)
      rw [e] at h
      have hne : numL (n / 10) ≠ [] := _root_.TL.numL_ne _
      have h2 : (numL (n / 10)).head? = some 48 := by
        cases q : numL (n / 10) with
        | nil => exact absurd q hne
        | cons c r => rw [q] at h; simpa using h
      have := ih (n / 10) (by omega) h2
      omega
theorem numL_dig {n c : Nat} (h : c ∈ numL n) : 48 ≤ c ∧ c ≤ 57 := _root_.TL.numL_digits n c h
theorem strI_pos (n : Nat) : cl (strI (n : Int)) = numL n := _root_.TL.tl_num n
theorem strI_neg (m : Nat) : cl (strI (Int.negSucc m)) = 45 :: numL (m + 1) := by
  have e : strI (Int.negSucc m) = Str.ofString ("-" ++ toString (((m + 1 : Nat)) : Int)) := rfl
  rw [e]
  show _root_.TL.tl _ = _
  rw [_root_.TL.tl_ofString, String.toList_append, List.map_append]
  rw [← _root_.TL.tl_ofString (toString (((m + 1 : Nat)) : Int)), _root_.TL.tl_num]
  rfl
/-- what a written number is -/
theorem strI_ok {i : Int} (h : -10000000 < i) (h2 : i < 10000000) : numV (strI i) = some i ∧ (strI i).length ≤ 9 ∧ (∀ c ∈ cl (strI i), c = 45 ∨ (48 ≤ c ∧ c ≤ 57)) ∧ cl (strI i) ≠ [] := by
  have hl := cl_len (strI i)
  cases i with
  | ofNat n =>
    have e : cl (strI (Int.ofNat n)) = numL n := strI_pos n
    have hn7 : n < 10 ^ 8 := by have : (n : Int) < 10000000 := h2; omega
    have hlen : (numL n).length ≤ 8 := _root_.TL.numL_len (by decide) hn7
    have hne : numL n ≠ [] := _root_.TL.numL_ne n
    have hdig : ∀ c ∈ numL n, 48 ≤ c ∧ c ≤ 57 := fun c hc => numL_dig hc
    have hhead : (cl (strI (Int.ofNat n))).head? ≠ some 45 := by
      rw [e]
      cases q : numL n with
      | nil => exact absurd q hne
      | cons c r =>
        have := hdig c (by rw [q]; simp)
        intro z
        have : c = 45 := by simpa using z
        omega
    have hb : bl (strI (Int.ofNat n)) = numL n := by
      unfold bl neg
      rw [if_neg (by simpa using hhead), e]
    rw [e] at hl
    refine ⟨?_, by omega, fun c hc => .inr (hdig c (e ▸ hc)), by rw [e]; exact hne⟩
    unfold numV
    rw [if_pos]
    · exact _root_.TL.int_num (by have : (_root_.TL.numL n).length ≤ 8 := hlen; omega)
    · unfold okN
      rw [hb]
      have h3 : (numL n).all isDig = true := List.all_eq_true.mpr fun c hc => isDig_iff.mpr (hdig c hc)
      have h4 : (strI (Int.ofNat n)).length ≤ 14 := by omega
      rw [h3]
      simp only [hne, h4, ne_eq, not_false_eq_true, decide_true, Bool.and_self, Bool.true_and, Bool.not_eq_true', Bool.and_eq_false_imp, decide_eq_true_eq, decide_eq_false_iff_not, Decidable.not_not]
      intro g
      have := numL_head g
      subst this
      rfl
  | negSucc m =>
    have e : cl (strI (Int.negSucc m)) = 45 :: numL (m + 1) := strI_neg m
    have hn7 : m + 1 < 10 ^ 8 := by omega
    have hlen : (numL (m + 1)).length ≤ 8 := _root_.TL.numL_len (by decide) hn7
    have hne : numL (m + 1) ≠ [] := _root_.TL.numL_ne _
    have hdig : ∀ c ∈ numL (m + 1), 48 ≤ c ∧ c ≤ 57 := fun c hc => numL_dig hc
    have hb : bl (strI (Int.negSucc m)) = numL (m + 1) := by
      unfold bl neg
      rw [e]; rfl
    rw [e, List.length_cons] at hl
    refine ⟨?_, by omega, fun c hc => ?_, by rw [e]; simp⟩
    · unfold numV
      rw [if_pos]
      · have := PySem.intText_neg (x := strI (Int.negSucc m)) e hdig hne (by omega)
        rw [this]
        have hv : NumText.digitsVal (numL (m + 1)) = m + 1 := _root_.TL.numL_val _
        rw [hv]
        congr 1
      · unfold okN
        rw [hb]
        have h3 : (numL (m + 1)).all isDig = true := List.all_eq_true.mpr fun c hc => isDig_iff.mpr (hdig c hc)
        have h4 : (strI (Int.negSucc m)).length ≤ 14 := by omega
        rw [h3]
        simp only [hne, h4, ne_eq, not_false_eq_true, decide_true, Bool.and_self, Bool.true_and, Bool.not_eq_true', Bool.and_eq_false_imp, decide_eq_true_eq, decide_eq_false_iff_not, Decidable.not_not]
        intro g
        have := numL_head g
        omega
    · rw [e] at hc
      rcases List.mem_cons.mp hc with rfl | hc
      · exact .inl rfl
      · exact .inr (hdig c hc)
def up1 (c : Nat) : Nat := if 97 ≤ c ∧ c ≤ 122 then c - 32 else c
theorem upper_cl : ∀ (l : List Nat), (∀ c ∈ l, c < 128) → cl (Txt.upper ⟨l.toArray⟩) = l.map up1
  | [], _ => by rfl
  | c :: l, h => by
    have e : (⟨(c :: l).toArray⟩ : Str) = (⟨#[c]⟩ : Str) ++ ⟨l.toArray⟩ := str_ext (by rw [cps_app]; simp)
    rw [e, PySem.W.KOpn.upper_app]
    unfold cl
    rw [cps_app, PySem.W.KOpn.upper_one (h c (by simp))]
    have ih := upper_cl l fun d hd => h d (List.mem_cons_of_mem _ hd)
    unfold cl at ih
    rw [ih]
    rfl
theorem upper_name {z : Str} (h : ∀ c ∈ cl z, c < 128) : (Txt.upper z).length = z.length ∧ PyData.strOk (Txt.upper z) = true := by
  have e : z = (⟨(cl z).toArray⟩ : Str) := str_ext (by simp)
  have hc := upper_cl (cl z) h
  rw [← e] at hc
  refine ⟨by rw [← cl_len, hc, List.length_map, cl_len], strOk_iff.mpr fun c hcm => ?_⟩
  rw [hc] at hcm
  obtain ⟨d, hd, rfl⟩ := List.mem_map.mp hcm
  have := h d hd
  unfold up1
  split <;> omega
theorem nm_ascii {z : Str} (h : Nm z) : ∀ c ∈ cl z, c < 128 := by
  obtain ⟨w, e, _, hs⟩ := nm_str h.ok
  cases e
  exact scan_all hs
theorem ok_app {a b : Str} (ha : PyData.strOk a = true) (hb : PyData.strOk b = true) : PyData.strOk (a ++ b) = true := strOk_iff.mpr fun c hc => by
  have : c ∈ cl a ++ cl b := by rw [← show cl (a ++ b) = cl a ++ cl b from cps_app]; exact hc
  rcases List.mem_append.mp this with h | h
  · exact strOk_iff.mp ha c h
  · exact strOk_iff.mp hb c h
theorem ok_cut {z : Str} {a b : Option Int} (h : PyData.strOk z = true) : PyData.strOk (cutS z a b) = true := strOk_sub h fun c hc => by
  unfold cl at hc
  rw [cutS_cps] at hc
  exact List.mem_of_mem_drop (List.mem_of_mem_take hc)
theorem strI_st {i : Int} (h : -10000000 < i) (h2 : i < 10000000) : PyData.strOk (strI i) = true := strOk_iff.mpr fun c hc => by
  have := (strI_ok h h2).2.2.1 c hc
  omega
theorem str_bits {i : Int} (h : -10000000 < i) (h2 : i < 10000000) : i.natAbs.log2 < 1920 := by
  have h3 : i.natAbs < 2 ^ 1920 := Nat.lt_of_lt_of_le (show i.natAbs < 2 ^ 24 by omega) (Nat.pow_le_pow_right (by decide) (by decide))
  rcases Nat.eq_zero_or_pos i.natAbs with e | e
  · rw [e]; decide
  · exact (Nat.log2_lt (by omega)).mpr h3
/-! the read-back -/
theorem posF_free {a b : Nat} : ∀ (l r : List Nat) (k : Nat), (∀ c ∈ l, c ≠ a) → posF a b k (l ++ r) = posF a b (k + l.length) r
  | [], r, k, _ => rfl
  | c :: l, r, k, h => by
    rw [List.cons_append, posF_miss fun z => h c (by simp) z.1, posF_free l r (k + 1) fun d hd => h d (List.mem_cons_of_mem _ hd), List.length_cons]
    congr 1
    omega
theorem posF_nil {a b : Nat} (l : List Nat) (k : Nat) (h : ∀ c ∈ l, c ≠ a) : posF a b k l = [] := by
  have := posF_free (a := a) (b := b) l [] k h
  rw [List.append_nil] at this
  rw [this]; rfl
theorem nm_signs {z : Str} (h : Nm z) : ∀ c ∈ cl z, c ≠ 60 ∧ c ≠ 61 ∧ c ≠ 62 := by
  have := (nm_iff (w := z)).mp (by rw [h.ok]; rfl)
  intro c hc
  have hl : ∀ c ∈ letS.cps.toList, c ≠ 60 ∧ c ≠ 61 ∧ c ≠ 62 := by decide +kernel
  have hf : ∀ c ∈ figS.cps.toList, c ≠ 60 ∧ c ≠ 61 ∧ c ≠ 62 := by decide +kernel
  rcases this.2.2 c hc with h | h
  · exact hl c h
  · exact hf c h
theorem num_signs {i : Int} (h : -10000000 < i) (h2 : i < 10000000) : ∀ c ∈ cl (strI i), c ≠ 60 ∧ c ≠ 61 ∧ c ≠ 62 := fun c hc => by
  have := (strI_ok h h2).2.2.1 c hc
  omega
theorem idx_nodup {z : Str} : ∀ {ns : List Str} {i : Nat}, ns.Nodup → ns[i]? = some z → idxD (ns.map D.str) (.str z) = some i
  | n :: ns, 0, _, h => by
    have : n = z := by simpa using h
    rw [idx_cons, if_pos this]
  | n :: ns, i + 1, hn, h => by
    obtain ⟨h1, h2⟩ := List.nodup_cons.mp hn
    have hz : ns[i]? = some z := by simpa using h
    have : n ≠ z := fun e => h1 (e ▸ List.mem_of_getElem? hz)
    rw [idx_cons, if_neg this, idx_nodup h2 hz]; rfl
theorem rd_back {fs : List Fld} {i : Nat} {f : Fld} {w n : Int} {sg : Str} (hfs : FsOk fs) (hi : fs[i]? = some f) (hw : w = 1 ∧ sg = Str.ofString ">=" ∨ w = -1 ∧ sg = Str.ofString "<=") (hn : -10000000 < n) (hn2 : n < 10000000) (hfit : fitV f w n = true) : rdV fs (f.n ++ sg ++ strI n) = .inl ((i : Int), w, n) := by
  have hil : i < fs.length := (List.getElem?_eq_some_iff.mp hi).1
  have hfo := hfs.ok f (List.mem_of_getElem? hi)
  have hs := nm_signs hfo.nm
  have hu := num_signs hn hn2
  have hcl : ∀ {a b : Nat}, cl sg = [a, b] → cl (f.n ++ sg ++ strI n) = cl f.n ++ a :: b :: cl (strI n) := fun h => by
    show (f.n ++ sg ++ strI n).cps.toList = _
    rw [cps_app, cps_app]
    show cl f.n ++ cl sg ++ cl (strI n) = _
    rw [h]; simp
  have hname : ∀ {a b : Nat}, cl sg = [a, b] → nameS (f.n ++ sg ++ strI n) (cl f.n).length = f.n ∧ fgS (f.n ++ sg ++ strI n) (cl f.n).length = strI n := fun h => by
    refine ⟨str_ext ?_, str_ext ?_⟩
    · show cl _ = cl _
      rw [cl_name, hcl h, List.take_left]
    · show cl _ = cl _
      rw [cl_fig, hcl h, ← List.drop_drop, List.drop_left]; rfl
  have hmem : f.n ∈ fs.map (·.n) := List.mem_map.mpr ⟨f, List.mem_of_getElem? hi, rfl⟩
  have hix : ixV fs f.n = i := by
    unfold ixV
    rw [idx_nodup hfs.nd (by rw [List.getElem?_map, hi]; rfl)]; rfl
  have hsw : w = 1 ∨ w = -1 := hw.elim (fun h => .inl h.1) (fun h => .inr h.1)
  have fin : ∀ {a b : Nat}, cl sg = [a, b] → rd2 fs (f.n ++ sg ++ strI n) (cl f.n).length w = .inl ((i : Int), w, n) := fun h => by
    obtain ⟨e1, e2⟩ := hname h
    unfold rd2
    rw [e1, if_pos hmem, e2, (strI_ok hn hn2).1]
    simp only
    unfold rd3
    rw [hix, if_pos ((swI_fit hil hsw).mpr (by rw [List.getD_eq_getElem?_getD, hi]; exact hfit))]
  rcases hw with ⟨rfl, rfl⟩ | ⟨rfl, rfl⟩
  · have e1 : ups (f.n ++ Str.ofString ">=" ++ strI n) = [(cl f.n).length] := by
      show posF 62 61 0 (cl _) = _
      rw [hcl cl_up, posF_free _ _ _ fun c hc => (hs c hc).2.2, posF_hit (by decide), posF_nil _ _ fun c hc => (hu c hc).2.2, Nat.zero_add]
    have e2 : dns (f.n ++ Str.ofString ">=" ++ strI n) = [] := by
      show posF 60 61 0 (cl _) = _
      rw [hcl cl_up]
      refine posF_nil _ _ fun c hc => ?_
      simp only [List.mem_append, List.mem_cons] at hc
      rcases hc with hc | rfl | rfl | hc
      · exact (hs c hc).1
      · decide
      · decide
      · exact (hu c hc).1
    unfold rdV
    rw [e1, e2]
    exact fin cl_up
  · have e1 : dns (f.n ++ Str.ofString "<=" ++ strI n) = [(cl f.n).length] := by
      show posF 60 61 0 (cl _) = _
      rw [hcl cl_dn, posF_free _ _ _ fun c hc => (hs c hc).1, posF_hit (by decide), posF_nil _ _ fun c hc => (hu c hc).1, Nat.zero_add]
    have e2 : ups (f.n ++ Str.ofString "<=" ++ strI n) = [] := by
      show posF 62 61 0 (cl _) = _
      rw [hcl cl_dn]
      refine posF_nil _ _ fun c hc => ?_
      simp only [List.mem_append, List.mem_cons] at hc
      rcases hc with hc | rfl | rfl | hc
      · exact (hs c hc).2.2
      · decide
      · decide
      · exact (hu c hc).2.2
    unfold rdV
    rw [e1, e2]
    exact fin cl_dn
/-- a text to be read -/
def Tx (y : D) : Prop := ∃ z : Str, y = D.str z ∧ z.length ≤ 1000 ∧ PyData.strOk z = true
end
end LW

namespace LW
open PySem PySem.Spec PyProof.Rows L2 DL
section
variable {x : XQ} {Q : D → Store → Prop} {tt : Tg (x, Q)} {S S' : Store}
theorem well_fk (h : WellOk S) (F : Fk 0 S S') : WellOk S' := by
  obtain ⟨a, b, c, d, h1, h2, h3⟩ := h
  exact ⟨a, b, c, d, lstAt_mono h1 F, lstAt_mono h2 F, h3⟩
theorem fr_of (F : Fk 0 S S') : Fr S S' := ⟨F.len, fun a _ hl => F.keep a (Nat.zero_le _) hl⟩
theorem pw60 : PowOk 10 60 := ⟨by decide, by decide, by decide⟩
theorem pw28 : PowOk 10 28 := ⟨by decide, by decide, by decide⟩
theorem wfI {i : Int} : wf S (.int i) := by rw [wf] <;> simp
theorem absL {S0 T : Store} {L : List D} {P : Nat → Store → Prop} (hT : 2 ≤ T.length) (F : Fk 0 S0 T) (hw : ∀ y ∈ L, wf (T ++ [.lst L]) y) (h : ∀ l S' ds, 2 ≤ l → lstAt S' l = some ds → (∀ y ∈ ds, wf S' y) → ds.length = L.length → Fk 0 S0 S' → 2 ≤ S'.length → P l S') : P T.length (T ++ [.lst L]) :=
  h _ _ L hT lstAt_new hw rfl (F.app _) (by rw [List.length_append]; omega)
theorem wf_app {T : Store} {R : Store} {y : D} (h : wf T y) : wf (T ++ R) y := wf_fr ((Fr.refl T).app R) y h
theorem things_w {fs : List Fld} {i w n : Int} {f : Fld} (hS : 2 ≤ S.length) (hi : 0 ≤ i) (hi2 : i < 100) (hat : atI (fs.map Fld.d) i = some f.d) (hf : f.ok) (hn : -10000000 < n) (hn2 : n < 10000000) (h : ∀ l ds S', 2 ≤ l → lstAt S' l = some ds → (∀ y ∈ ds, wf S' y) → Fk 0 S S' → Q (.loc l) S') : W (x, Q) tt (m__law_things [.loc 1, FD fs, .tup [.int i, .int w, .int n]] S) := by
  have b1 := (strI_ok (i := i) (by omega) (by omega)).2.1
  have b2 := (strI_ok hn hn2).2.1
  have s1 := str_bits (i := i) (by omega) (by omega)
  have s2 := str_bits hn hn2
  unfold strI at b1 b2
  have b1r : (Str.ofString i.repr).length ≤ 9 := b1
  have b2r : (Str.ofString n.repr).length ≤ 9 := b2
  rw [wm__law_things]
  unfold b__law_things
  rw [WS_seq]
  simp only [↓reduceIte,↓ZP,↓W_K,↓trc,↓Zbs,↓Zgg,ZQ,Zhu,Zhz,Zia,Zic,okEq,okCmp,okIn,D.fits,D.fitsL,D.dep,D.depL,D.eqv,D.eqvL,D.alike,D.alikeL,Nat.reduceAdd,Nat.reduceSub,c02,Zkf,Zkg,Zki,Nat.reduceEqDiff,Nat.reduceLeDiff,Int.reduceAdd,Int.reduceSub,Int.reduceMul,Int.reduceNeg,Int.reducePow,Int.reduceLT,Int.reduceLE,Int.reduceEq,Int.reduceToNat,qn1,qn2,qn3,qn4,qn5,qk1,qk5,lq1,lq2,lq3,lq4,lq5,at0,at1,at2,at3,at4,at5,Znb,uq1,uq2,uq3,uq4,oq1,oq2,oq3,oq4,tq1,tq2,tq3,tq4,tq5,sl0,slS,lk0,Znh,Zni,Znj,Znk,Znl,Znm,Znn,Zno,Znp,Znv,Zny,Zof,Zog,reduceCtorEq,Zok]
  rw [WS_seq]
  simp only [↓reduceIte,↓ZP,↓W_K,↓trc,↓Zbs,↓Zgg,ZQ,Zhu,Zhz,Zia,Zic,okEq,okCmp,okIn,D.fits,D.fitsL,D.dep,D.depL,D.eqv,D.eqvL,D.alike,D.alikeL,Nat.reduceAdd,Nat.reduceSub,c02,Zkf,Zkg,Zki,Nat.reduceEqDiff,Nat.reduceLeDiff,Int.reduceAdd,Int.reduceSub,Int.reduceMul,Int.reduceNeg,Int.reducePow,Int.reduceLT,Int.reduceLE,Int.reduceEq,Int.reduceToNat,qn1,qn2,qn3,qn4,qn5,qk1,qk5,lq1,lq2,lq3,lq4,lq5,at0,at1,at2,at3,at4,at5,Znb,uq1,uq2,uq3,uq4,oq1,oq2,oq3,oq4,tq1,tq2,tq3,tq4,tq5,sl0,slS,lk0,Znh,Zni,Znj,Znk,Znl,Znm,Znn,Zno,Znp,Znv,Zny,Zof,Zog,reduceCtorEq,Zok, ixFD, hat, fd_eq]
  rw [WS_seq]
  simp only [↓reduceIte,↓ZP,↓W_K,↓trc,↓Zbs,↓Zgg,ZQ,Zhu,Zhz,Zia,Zic,okEq,okCmp,okIn,D.fits,D.fitsL,D.dep,D.depL,D.eqv,D.eqvL,D.alike,D.alikeL,Nat.reduceAdd,Nat.reduceSub,c02,Zkf,Zkg,Zki,Nat.reduceEqDiff,Nat.reduceLeDiff,Int.reduceAdd,Int.reduceSub,Int.reduceMul,Int.reduceNeg,Int.reducePow,Int.reduceLT,Int.reduceLE,Int.reduceEq,Int.reduceToNat,qn1,qn2,qn3,qn4,qn5,qk1,qk5,lq1,lq2,lq3,lq4,lq5,at0,at1,at2,at3,at4,at5,Znb,uq1,uq2,uq3,uq4,oq1,oq2,oq3,oq4,tq1,tq2,tq3,tq4,tq5,sl0,slS,lk0,Znh,Zni,Znj,Znk,Znl,Znm,Znn,Zno,Znp,Znv,Zny,Zof,Zog,reduceCtorEq,Zok, lenFD]
  rw [WS_seq]
  simp only [↓reduceIte,↓ZP,↓W_K,↓trc,↓Zbs,↓Zgg,ZQ,Zhu,Zhz,Zia,Zic,okEq,okCmp,okIn,D.fits,D.fitsL,D.dep,D.depL,D.eqv,D.eqvL,D.alike,D.alikeL,Nat.reduceAdd,Nat.reduceSub,c02,Zkf,Zkg,Zki,Nat.reduceEqDiff,Nat.reduceLeDiff,Int.reduceAdd,Int.reduceSub,Int.reduceMul,Int.reduceNeg,Int.reducePow,Int.reduceLT,Int.reduceLE,Int.reduceEq,Int.reduceToNat,qn1,qn2,qn3,qn4,qn5,qk1,qk5,lq1,lq2,lq3,lq4,lq5,at0,at1,at2,at3,at4,at5,Znb,uq1,uq2,uq3,uq4,oq1,oq2,oq3,oq4,tq1,tq2,tq3,tq4,tq5,sl0,slS,lk0,Znh,Zni,Znj,Znk,Znl,Znm,Znn,Zno,Znp,Znv,Zny,Zof,Zog,reduceCtorEq,Zok, o_lst]
  refine ⟨by rw [sizeLine_eq]; decide, by rw [sizeLine_eq]; decide, ?_⟩
  refine absL (S0 := S) (P := fun l S' => WS (qd (x, Q)) tg ((_ : DS) [some (.loc 1), some (FD fs), some (.tup [.int i, .int w, .int n]), some f.d, some (.int fs.length), some (.loc l), some (.int i), some (.int w), some (.int n)] S')) (by rw [List.length_append]; omega) ((Fk.refl 0 S).app _) (fun y hy => ?_) fun l0 T0 us0 hl0 hU0 hw0 hus0 F0 hT0 => ?_
  · simp only [List.mem_cons, List.not_mem_nil, or_false] at hy
    rcases hy with rfl | rfl | rfl | rfl | rfl | rfl | rfl | rfl | rfl | rfl | rfl
    case inr.inl => rw [wf]; exact ⟨hS, _, lstAt_app lstAt_new⟩
    all_goals simp [wf, wfL, sizeLine_eq]
    all_goals decide
  simp only [List.length_cons, List.length_nil] at hus0
  rw [WS_seq]
  simp only [↓reduceIte,↓ZP,↓W_K,↓trc,↓Zbs,↓Zgg,ZQ,Zhu,Zhz,Zia,Zic,okEq,okCmp,okIn,D.fits,D.fitsL,D.dep,D.depL,D.eqv,D.eqvL,D.alike,D.alikeL,Nat.reduceAdd,Nat.reduceSub,c02,Zkf,Zkg,Zki,Nat.reduceEqDiff,Nat.reduceLeDiff,Int.reduceAdd,Int.reduceSub,Int.reduceMul,Int.reduceNeg,Int.reducePow,Int.reduceLT,Int.reduceLE,Int.reduceEq,Int.reduceToNat,qn1,qn2,qn3,qn4,qn5,qk1,qk5,lq1,lq2,lq3,lq4,lq5,at0,at1,at2,at3,at4,at5,Znb,uq1,uq2,uq3,uq4,oq1,oq2,oq3,oq4,tq1,tq2,tq3,tq4,tq5,sl0,slS,lk0,Znh,Zni,Znj,Znk,Znl,Znm,Znn,Zno,Znp,Znv,Zny,Zof,Zog,reduceCtorEq,Zok, o_lst, fd_eq, pw60, pw28, lstAt_app hU0, lstAt_app (lstAt_app hU0), lstAt_new]
  refine ⟨by rw [sizeLine_eq]; omega, ?_⟩
  refine absL (S0 := S) (P := fun l S' => WS (qd (x, Q)) tg ((_ : DS) [some (.loc 1), some (FD fs), some (.tup [.int i, .int w, .int n]), some (.tup [.str f.n, .int f.lo, .int f.hi]), some (.int fs.length), some (.loc l), some (.int i), some (.int w), some (.int n)] S')) (by rw [List.length_append]; omega) (F0.app _) (fun y hy => ?_) fun l1 T1 us1 hl1 hU1 hw1 hus1 F1 hT1 => ?_
  · rcases List.mem_append.mp hy with hy | hy
    · exact wf_app (wf_app (hw0 y hy))
    · simp only [List.mem_cons, List.not_mem_nil, or_false] at hy
      rcases hy with rfl | rfl | rfl | rfl | rfl
      all_goals simp [wf, wfL, sizeLine_eq]
      all_goals first | omega | decide
  rw [List.length_append] at hus1
  simp only [List.length_cons, List.length_nil] at hus1
  clear hU0 hw0 F0 hT0
  rw [WS_seq]
  simp only [↓reduceIte,↓ZP,↓W_K,↓trc,↓Zbs,↓Zgg,ZQ,Zhu,Zhz,Zia,Zic,okEq,okCmp,okIn,D.fits,D.fitsL,D.dep,D.depL,D.eqv,D.eqvL,D.alike,D.alikeL,Nat.reduceAdd,Nat.reduceSub,c02,Zkf,Zkg,Zki,Nat.reduceEqDiff,Nat.reduceLeDiff,Int.reduceAdd,Int.reduceSub,Int.reduceMul,Int.reduceNeg,Int.reducePow,Int.reduceLT,Int.reduceLE,Int.reduceEq,Int.reduceToNat,qn1,qn2,qn3,qn4,qn5,qk1,qk5,lq1,lq2,lq3,lq4,lq5,at0,at1,at2,at3,at4,at5,Znb,uq1,uq2,uq3,uq4,oq1,oq2,oq3,oq4,tq1,tq2,tq3,tq4,tq5,sl0,slS,lk0,Znh,Zni,Znj,Znk,Znl,Znm,Znn,Zno,Znp,Znv,Zny,Zof,Zog,reduceCtorEq,Zok, o_lst, fd_eq, pw60, pw28, lstAt_app hU1, lstAt_app (lstAt_app hU1), lstAt_new]
  refine ⟨by rw [sizeLine_eq]; omega, ?_⟩
  refine absL (S0 := S) (P := fun l S' => WS (qd (x, Q)) tg ((_ : DS) [some (.loc 1), some (FD fs), some (.tup [.int i, .int w, .int n]), some (.tup [.str f.n, .int f.lo, .int f.hi]), some (.int fs.length), some (.loc l), some (.int i), some (.int w), some (.int n)] S')) (by rw [List.length_append]; omega) (F1.app _) (fun y hy => ?_) fun l2 T2 us2 hl2 hU2 hw2 hus2 F2 hT2 => ?_
  · rcases List.mem_append.mp hy with hy | hy
    · exact wf_app (wf_app (hw1 y hy))
    · simp only [List.mem_cons, List.not_mem_nil, or_false] at hy
      rcases hy with rfl | rfl | rfl | rfl | rfl | rfl
      all_goals simp [wf, wfL, sizeLine_eq]
      all_goals first | omega | decide
  rw [List.length_append] at hus2
  simp only [List.length_cons, List.length_nil] at hus2
  clear hU1 hw1 F1 hT1
  rw [WS_seq]
  simp only [↓reduceIte,↓ZP,↓W_K,↓trc,↓Zbs,↓Zgg,ZQ,Zhu,Zhz,Zia,Zic,okEq,okCmp,okIn,D.fits,D.fitsL,D.dep,D.depL,D.eqv,D.eqvL,D.alike,D.alikeL,Nat.reduceAdd,Nat.reduceSub,c02,Zkf,Zkg,Zki,Nat.reduceEqDiff,Nat.reduceLeDiff,Int.reduceAdd,Int.reduceSub,Int.reduceMul,Int.reduceNeg,Int.reducePow,Int.reduceLT,Int.reduceLE,Int.reduceEq,Int.reduceToNat,qn1,qn2,qn3,qn4,qn5,qk1,qk5,lq1,lq2,lq3,lq4,lq5,at0,at1,at2,at3,at4,at5,Znb,uq1,uq2,uq3,uq4,oq1,oq2,oq3,oq4,tq1,tq2,tq3,tq4,tq5,sl0,slS,lk0,Znh,Zni,Znj,Znk,Znl,Znm,Znn,Zno,Znp,Znv,Zny,Zof,Zog,reduceCtorEq,Zok, o_lst, fd_eq, pw60, pw28, lstAt_app hU2, lstAt_app (lstAt_app hU2), lstAt_new]
  refine ⟨s1, by rw [sizeLine_eq]; omega, ?_⟩
  refine absL (S0 := S) (P := fun l S' => WS (qd (x, Q)) tg ((_ : DS) [some (.loc 1), some (FD fs), some (.tup [.int i, .int w, .int n]), some (.tup [.str f.n, .int f.lo, .int f.hi]), some (.int fs.length), some (.loc l), some (.int i), some (.int w), some (.int n)] S')) (by rw [List.length_append]; omega) (F2.app _) (fun y hy => ?_) fun l3 T3 us3 hl3 hU3 hw3 hus3 F3 hT3 => ?_
  · rcases List.mem_append.mp hy with hy | hy
    · exact wf_app (wf_app (hw2 y hy))
    · simp only [List.mem_cons, List.not_mem_nil, or_false] at hy
      rcases hy with rfl | rfl | rfl | rfl | rfl | rfl
      all_goals simp [wf, wfL, sizeLine_eq]
      all_goals first | omega | decide
  rw [List.length_append] at hus3
  simp only [List.length_cons, List.length_nil] at hus3
  clear hU2 hw2 F2 hT2
  rw [WS_seq]
  simp only [↓reduceIte,↓ZP,↓W_K,↓trc,↓Zbs,↓Zgg,ZQ,Zhu,Zhz,Zia,Zic,okEq,okCmp,okIn,D.fits,D.fitsL,D.dep,D.depL,D.eqv,D.eqvL,D.alike,D.alikeL,Nat.reduceAdd,Nat.reduceSub,c02,Zkf,Zkg,Zki,Nat.reduceEqDiff,Nat.reduceLeDiff,Int.reduceAdd,Int.reduceSub,Int.reduceMul,Int.reduceNeg,Int.reducePow,Int.reduceLT,Int.reduceLE,Int.reduceEq,Int.reduceToNat,qn1,qn2,qn3,qn4,qn5,qk1,qk5,lq1,lq2,lq3,lq4,lq5,at0,at1,at2,at3,at4,at5,Znb,uq1,uq2,uq3,uq4,oq1,oq2,oq3,oq4,tq1,tq2,tq3,tq4,tq5,sl0,slS,lk0,Znh,Zni,Znj,Znk,Znl,Znm,Znn,Zno,Znp,Znv,Zny,Zof,Zog,reduceCtorEq,Zok, o_lst, fd_eq, pw60, pw28, lstAt_app hU3, lstAt_app (lstAt_app hU3), lstAt_new]
  refine ⟨by decide +kernel, s2, by rw [sizeLine_eq]; omega, ?_⟩
  have F4 := (F3.app [Cell.lst [D.tup [.int i, .int w, .int n]]])
  refine absL (S0 := S) (P := fun l S' => Q (.loc l) S') (by rw [List.length_append, List.length_append]; omega) (F4.app _) (fun y hy => ?_) fun l4 T4 us4 hl4 hU4 hw4 hus4 F4 hT4 => h l4 us4 T4 hl4 hU4 hw4 F4
  rcases List.mem_append.mp hy with hy | hy
  · exact wf_app (wf_app (wf_app (hw3 y hy)))
  · simp only [List.mem_cons, List.not_mem_nil, or_false] at hy
    rcases hy with rfl | rfl | rfl | rfl | rfl
    case inr.inr.inr.inr => rw [wf]; exact ⟨hT3, _, lstAt_app (lstAt_app lstAt_new)⟩
    all_goals simp [wf, wfL, sizeLine_eq]
    all_goals first | omega | decide
theorem answers_w {f : Fld} {w : Int} (hf : f.ok) (hlt : f.lo < f.hi) (hw : w = 1 ∨ w = -1) (h : ∀ as, as ≠ [] → as.length ≤ 19 → (∀ y ∈ as, ∃ n : Int, y = .int n ∧ fitV f w n = true ∧ f.lo ≤ n ∧ n ≤ f.hi) → Q (.loc S.length) (S ++ [.lst as])) : W (x, Q) tt (m__law_answers [f.d, .int w] S) := by
  have h1 := hf.wide
  have h2 := hf.low
  have h3 := hf.high
  simp only [↓reduceIte,↓ZP,↓W_K,↓trc,↓Zbi,↓Zbs,↓Zgg,ZQ,Zhu,Zhz,Zia,Zic,okEq,okCmp,okIn,D.fits,D.fitsL,D.dep,D.depL,D.eqv,D.eqvL,D.alike,D.alikeL,Nat.reduceAdd,Nat.reduceSub,c02,Zkf,Zkg,Zki,Nat.reduceEqDiff,Nat.reduceLeDiff,Int.reduceAdd,Int.reduceSub,Int.reduceMul,Int.reduceNeg,Int.reducePow,Int.reduceLT,Int.reduceLE,Int.reduceEq,Int.reduceToNat,qn1,qn2,qn3,qn4,qn5,qk1,qk5,lq1,lq2,lq3,lq4,lq5,at0,at1,at2,at3,at4,at5,Znb,uq1,uq2,uq3,uq4,oq1,oq2,oq3,oq4,tq1,tq2,tq3,tq4,tq5,sl0,slS,lk0,Znh,Zni,Znj,Znk,Znl,Znm,Znn,Zno,Znp,Znv,Zny,Zof,Zog,reduceCtorEq,Zok, wm__law_answers, b__law_answers, fd_eq]
  refine ⟨fun g => ⟨by unfold RgL okB; omega, h _ (fun e => ?_) (by rw [intsTo_len]; omega) fun y hy => ?_⟩, fun g => ⟨by unfold RgL okB; omega, h _ (fun e => ?_) (by rw [intsTo_len]; omega) fun y hy => ?_⟩⟩
  · have := congrArg List.length e
    rw [intsTo_len] at this
    simp at this
    omega
  · obtain ⟨n, rfl, n0, n1⟩ := intsTo_mem hy
    refine ⟨n, rfl, ?_, by omega, by omega⟩
    unfold fitV
    rw [if_pos g, decide_eq_true_eq]
    omega
  · have := congrArg List.length e
    rw [intsTo_len] at this
    simp at this
    omega
  · obtain ⟨n, rfl, n0, n1⟩ := intsTo_mem hy
    refine ⟨n, rfl, ?_, by omega, by omega⟩
    unfold fitV
    rw [if_neg g, decide_eq_true_eq]
    omega
theorem text_w {fs : List Fld} {i w n : Int} {f : Fld} {sg : Str} (hat : atI (fs.map Fld.d) i = some f.d) (hw : w = 1 ∧ sg = Str.ofString ">=" ∨ w = -1 ∧ sg = Str.ofString "<=") (hf : f.ok) (hn : -10000000 < n) (hn2 : n < 10000000) (h : Q (.str (f.n ++ sg ++ strI n)) S) : W (x, Q) tt (m_saying_text [FD fs, .tup [.int i, .int w, .int n]] S) := by
  have s2 := str_bits hn hn2
  have b2 := (strI_ok hn hn2).2.1
  have hnl := hf.nm.len.2
  unfold strI at b2 h
  have g1 : (Str.ofString ">=").length = 2 := by decide
  have g2 : (Str.ofString "<=").length = 2 := by decide
  rcases hw with ⟨rfl, rfl⟩ | ⟨rfl, rfl⟩
  · simp only [↓reduceIte,↓ZP,↓W_K,↓trc,↓Zbi,↓Zbs,↓Zgg,ZQ,Zhu,Zhz,Zia,Zic,okEq,okCmp,okIn,D.fits,D.fitsL,D.dep,D.depL,D.eqv,D.eqvL,D.alike,D.alikeL,Nat.reduceAdd,Nat.reduceSub,c02,Zkf,Zkg,Zki,Nat.reduceEqDiff,Nat.reduceLeDiff,Int.reduceAdd,Int.reduceSub,Int.reduceMul,Int.reduceNeg,Int.reducePow,Int.reduceLT,Int.reduceLE,Int.reduceEq,Int.reduceToNat,qn1,qn2,qn3,qn4,qn5,qk1,qk5,lq1,lq2,lq3,lq4,lq5,at0,at1,at2,at3,at4,at5,Znb,uq1,uq2,uq3,uq4,oq1,oq2,oq3,oq4,tq1,tq2,tq3,tq4,tq5,sl0,slS,lk0,Znh,Zni,Znj,Znk,Znl,Znm,Znn,Zno,Znp,Znv,Zny,Zof,Zog,reduceCtorEq,Zok, wm_saying_text, b_saying_text, ixFD, hat, fd_eq, o_tabU]
    exact ⟨by rw [g1, sizeLine_eq]; omega, s2, by rw [len_app, g1, sizeLine_eq]; omega, h⟩
  · simp only [↓reduceIte,↓ZP,↓W_K,↓trc,↓Zbi,↓Zbs,↓Zgg,ZQ,Zhu,Zhz,Zia,Zic,okEq,okCmp,okIn,D.fits,D.fitsL,D.dep,D.depL,D.eqv,D.eqvL,D.alike,D.alikeL,Nat.reduceAdd,Nat.reduceSub,c02,Zkf,Zkg,Zki,Nat.reduceEqDiff,Nat.reduceLeDiff,Int.reduceAdd,Int.reduceSub,Int.reduceMul,Int.reduceNeg,Int.reducePow,Int.reduceLT,Int.reduceLE,Int.reduceEq,Int.reduceToNat,qn1,qn2,qn3,qn4,qn5,qk1,qk5,lq1,lq2,lq3,lq4,lq5,at0,at1,at2,at3,at4,at5,Znb,uq1,uq2,uq3,uq4,oq1,oq2,oq3,oq4,tq1,tq2,tq3,tq4,tq5,sl0,slS,lk0,Znh,Zni,Znj,Znk,Znl,Znm,Znn,Zno,Znp,Znv,Zny,Zof,Zog,reduceCtorEq,Zok, wm_saying_text, b_saying_text, ixFD, hat, fd_eq, o_tabD]
    exact ⟨by rw [g2, sizeLine_eq]; omega, s2, by rw [len_app, g2, sizeLine_eq]; omega, h⟩
end
end LW

namespace LW
open PySem PySem.Spec PyProof.Rows L2 DL
section
variable {x : XQ} {Q : D → Store → Prop} {tt : Tg (x, Q)} {S S' : Store}
/-- a short text of right signs -/
def Tn (k : Nat) (y : D) : Prop := ∃ z : Str, y = D.str z ∧ z.length ≤ k ∧ PyData.strOk z = true
theorem Tn.mono {k m : Nat} {y : D} (h : Tn k y) (hm : k ≤ m) : Tn m y := by
  obtain ⟨z, e, hz, ho⟩ := h
  exact ⟨z, e, by omega, ho⟩
theorem tn_lit (s : String) {k : Nat} (h : (Str.ofString s).length ≤ k) : Tn k (D.str (Str.ofString s)) := ⟨_, rfl, h, ofS_ok s⟩
theorem tn_app {a b : Str} {k m : Nat} (ha : Tn k (D.str a)) (hb : Tn m (D.str b)) {n : Nat} (hn : k + m ≤ n) : Tn n (D.str (a ++ b)) := by
  obtain ⟨a', e, ha1, ha2⟩ := ha
  obtain ⟨b', e', hb1, hb2⟩ := hb
  cases e
  cases e'
  exact ⟨_, rfl, by rw [len_app]; omega, ok_app ha2 hb2⟩
theorem tn_cut {a : Str} {k : Nat} {lo hi : Option Int} (ha : Tn k (D.str a)) : Tn k (D.str (cutS a lo hi)) := by
  obtain ⟨a', e, ha1, ha2⟩ := ha
  cases e
  exact ⟨_, rfl, Nat.le_trans cutS_len ha1, ok_cut ha2⟩
theorem tn_len {a : Str} {k : Nat} (ha : Tn k (D.str a)) : a.length ≤ k ∧ PyData.strOk a = true := by
  obtain ⟨a', e, ha1, ha2⟩ := ha
  cases e
  exact ⟨ha1, ha2⟩
theorem absP {Pr : D → Prop} {S0 T : Store} {L : List D} {P : Nat → Store → Prop} (hT : 2 ≤ T.length) (F : Fk 0 S0 T) (hw : ∀ y ∈ L, Pr y) (hne : L ≠ []) (h : ∀ l S' ds, 2 ≤ l → lstAt S' l = some ds → (∀ y ∈ ds, Pr y) → ds ≠ [] → ds.length = L.length → Fk 0 T S' → Fk 0 S0 S' → 2 ≤ S'.length → T.length ≤ l → P l S') : P T.length (T ++ [.lst L]) :=
  h _ _ L hT lstAt_new hw hne rfl ((Fk.refl 0 T).app _) (F.app _) (by rw [List.length_append]; omega) (Nat.le_refl _)
theorem ixN_in2 {n : Nat} {j : Int} (h : 0 ≤ j) (h2 : j < n) : ixN n j = some j.toNat := by
  unfold ixN
  rw [if_pos h, if_pos h2]
theorem repl_w {q : SQ} {tq : Tg q} {a1 a2 a3 a4 a5 a6 a7 a8 a9 a10 a11 : Option D} {P O : Nat} {s : Int} {us ps : List D} {Sb : Store} (hW : WellOk S) (F : Fr Sb S) (hb : Sb.length ≤ P) (hP2 : 2 ≤ P) (hO2 : 2 ≤ O) (hO : lstAt S O = some us) (hne : us ≠ []) (hus : ∀ y ∈ us, Tn 20 y) (hul : us.length ≤ 1000) (hP : lstAt S P = some ps) (hps : ∀ y ∈ ps, Tn 20 y) (hpl : ps.length = 3) (s0 : 0 ≤ s) (s1 : s < 3) (h : ∀ ps' S', WellOk S' → Fr Sb S' → lstAt S' P = some ps' → (∀ y ∈ ps', Tn 20 y) → ps'.length = 3 → q.nx [some (.loc 1), a1, a2, a3, a4, a5, a6, a7, a8, a9, a10, a11, some (.loc P), some (.int s), some (.loc O)] S') : WS q tq ((sAsg (cBin oIx (cVar 14) (cCall m__law_dip (aCons (cVar 0) (aCons (cArg oLen (aCons (cVar 14) aNil)) aNil)))) (gSubD (cVar 12) (cVar 13))) [some (.loc 1), a1, a2, a3, a4, a5, a6, a7, a8, a9, a10, a11, some (.loc P), some (.int s), some (.loc O)] S) := by
  have hlen : 0 < us.length := List.length_pos_iff.mpr hne
  simp only [↓reduceIte,↓ZP,↓W_K,↓trc,↓Zbi,↓Zbs,↓Zgg,ZQ,Zhu,Zhz,Zia,Zic,okEq,okCmp,okIn,D.fits,D.fitsL,D.dep,D.depL,D.eqv,D.eqvL,D.alike,D.alikeL,Nat.reduceAdd,Nat.reduceSub,c02,Zkf,Zkg,Zki,Nat.reduceEqDiff,Nat.reduceLeDiff,Int.reduceAdd,Int.reduceSub,Int.reduceMul,Int.reduceNeg,Int.reducePow,Int.reduceLT,Int.reduceLE,Int.reduceEq,Int.reduceToNat,qn1,qn2,qn3,qn4,qn5,qk1,qk5,lq1,lq2,lq3,lq4,lq5,at0,at1,at2,at3,at4,at5,Znb,uq1,uq2,uq3,uq4,oq1,oq2,oq3,oq4,tq1,tq2,tq3,tq4,tq5,sl0,slS,lk0,Znh,Zni,Znj,Znk,Znl,Znm,Znn,Zno,Znp,Znv,Zny,Zof,Zog,reduceCtorEq,Zok, hO]
  refine dip_w hW (by omega) fun v S1 v0 v1 hW1 F1 => ?_
  simp only [↓reduceIte,↓ZP,↓W_K,↓trc,↓Zbi,↓Zbs,↓Zgg,ZQ,Zhu,Zhz,Zia,Zic,okEq,okCmp,okIn,D.fits,D.fitsL,D.dep,D.depL,D.eqv,D.eqvL,D.alike,D.alikeL,Nat.reduceAdd,Nat.reduceSub,c02,Zkf,Zkg,Zki,Nat.reduceEqDiff,Nat.reduceLeDiff,Int.reduceAdd,Int.reduceSub,Int.reduceMul,Int.reduceNeg,Int.reducePow,Int.reduceLT,Int.reduceLE,Int.reduceEq,Int.reduceToNat,qn1,qn2,qn3,qn4,qn5,qk1,qk5,lq1,lq2,lq3,lq4,lq5,at0,at1,at2,at3,at4,at5,Znb,uq1,uq2,uq3,uq4,oq1,oq2,oq3,oq4,tq1,tq2,tq3,tq4,tq5,sl0,slS,lk0,Znh,Zni,Znj,Znk,Znl,Znm,Znn,Zno,Znp,Znv,Zny,Zof,Zog,reduceCtorEq,Zok, F1.lst hO2 hO]
  refine WM_at v0 (by omega) fun y hy => ?_
  have hP1 := F1.lst hP2 hP
  simp only [↓reduceIte,↓ZP,↓W_K,↓trc,↓Zbi,↓Zbs,↓Zgg,ZQ,Zhu,Zhz,Zia,Zic,okEq,okCmp,okIn,D.fits,D.fitsL,D.dep,D.depL,D.eqv,D.eqvL,D.alike,D.alikeL,Nat.reduceAdd,Nat.reduceSub,c02,Zkg,Zki,Nat.reduceEqDiff,Nat.reduceLeDiff,Int.reduceAdd,Int.reduceSub,Int.reduceMul,Int.reduceNeg,Int.reducePow,Int.reduceLT,Int.reduceLE,Int.reduceEq,Int.reduceToNat,qn1,qn2,qn3,qn4,qn5,qk1,qk5,lq1,lq2,lq3,lq4,lq5,at0,at1,at2,at3,at4,at5,Znb,uq1,uq2,uq3,uq4,oq1,oq2,oq3,oq4,tq1,tq2,tq3,tq4,tq5,sl0,slS,lk0,Znh,Zni,Znj,Znk,Znl,Znm,Znn,Zno,Znp,Znv,Zny,Zof,Zog,reduceCtorEq,Zok, hP1]
  rw [ixN_in2 s0 (by omega), WM_some]
  simp only [↓reduceIte,↓ZP,↓W_K,↓trc,↓Zbi,↓Zbs,↓Zgg,ZQ,Zhu,Zhz,Zia,Zic,okEq,okCmp,okIn,D.fits,D.fitsL,D.dep,D.depL,D.eqv,D.eqvL,D.alike,D.alikeL,Nat.reduceAdd,Nat.reduceSub,c02,Zkg,Zki,Nat.reduceEqDiff,Nat.reduceLeDiff,Int.reduceAdd,Int.reduceSub,Int.reduceMul,Int.reduceNeg,Int.reducePow,Int.reduceLT,Int.reduceLE,Int.reduceEq,Int.reduceToNat,qn1,qn2,qn3,qn4,qn5,qk1,qk5,lq1,lq2,lq3,lq4,lq5,at0,at1,at2,at3,at4,at5,Znb,uq1,uq2,uq3,uq4,oq1,oq2,oq3,oq4,tq1,tq2,tq3,tq4,tq5,sl0,slS,lk0,Znh,Zni,Znj,Znk,Znl,Znm,Znn,Zno,Znp,Znv,Zny,Zof,Zog,reduceCtorEq,Zok]
  refine h _ _ (hW1.set hP2) ((F.trans F1).set hb) (lstAt_setE (by rw [hP1]; rfl)) (fun y' hy' => ?_) (by rw [List.length_set]; exact hpl)
  rcases List.mem_or_eq_of_mem_set hy' with hy' | rfl
  · exact hps y' hy'
  · exact hus _ hy
theorem sz2 {a b : Nat} (ha : a ≤ 1000) (hb : b ≤ 1000) : a + b ≤ sizeLine := by rw [sizeLine_eq]; omega
theorem texts_w {fs : List Fld} {i w n : Int} {f : Fld} {sg : Str} (hW : WellOk S) (hat : atI (fs.map Fld.d) i = some f.d) (hw : w = 1 ∧ sg = Str.ofString ">=" ∨ w = -1 ∧ sg = Str.ofString "<=") (hf : f.ok) (hn : -10000000 < n) (hn2 : n < 10000000) (h : ∀ l ds S', 2 ≤ l → lstAt S' l = some ds → (∀ y ∈ ds, Tn 100 y) → WellOk S' → Fr S S' → Q (.loc l) S') : W (x, Q) tt (m__law_texts [.loc 1, FD fs, .tup [.int i, .int w, .int n]] S) := by
  have hS := hW.len
  have s2 := str_bits hn hn2
  have hnl := hf.nm.len.2
  have lo1 := hf.low
  have le1 := hf.le
  have wd1 := hf.wide
  have hi1 := hf.high
  have tnm : Tn 8 (D.str f.n) := ⟨_, rfl, hnl, hf.nm.st⟩
  have tnu : Tn 9 (D.str (Str.ofString (toString n))) := ⟨_, rfl, (strI_ok hn hn2).2.1, strI_st hn hn2⟩
  have tlo : Tn 9 (D.str (Str.ofString (toString f.lo))) := ⟨_, rfl, (strI_ok (i := f.lo) (by omega) (by omega)).2.1, strI_st (by omega) (by omega)⟩
  have thi : Tn 9 (D.str (Str.ofString (toString f.hi))) := ⟨_, rfl, (strI_ok (i := f.hi) (by omega) (by omega)).2.1, strI_st (by omega) (by omega)⟩
  have th1 : Tn 9 (D.str (Str.ofString (toString (f.hi + 1)))) := ⟨_, rfl, (strI_ok (i := f.hi + 1) (by omega) (by omega)).2.1, strI_st (by omega) (by omega)⟩
  have slo := str_bits (i := f.lo) (by omega) (by omega)
  have shi := str_bits (i := f.hi) (by omega) (by omega)
  have sh1 := str_bits (i := f.hi + 1) (by omega) (by omega)
  have tsg : Tn 2 (D.str sg) := by
    rcases hw with ⟨_, rfl⟩ | ⟨_, rfl⟩
    · exact tn_lit _ (by decide)
    · exact tn_lit _ (by decide)
  have tup : Tn 8 (D.str (Txt.upper f.n)) := by
    obtain ⟨u1, u2⟩ := upper_name (nm_ascii hf.nm)
    exact ⟨_, rfl, by omega, u2⟩
  have hsg : atI [D.str (Str.ofString "<="), D.str (Str.ofString ""), D.str (Str.ofString ">=")] (w + 1) = some (.str sg) := by
    rcases hw with ⟨rfl, rfl⟩ | ⟨rfl, rfl⟩ <;> rfl
  have zsg := (tn_len tsg).1
  have znu := (tn_len tnu).1
  rw [wm__law_texts]
  unfold b__law_texts
  rw [WS_seq]
  simp only [↓reduceIte,↓ZP,↓W_K,↓trc,↓Zbs,↓Zgg,ZQ,Zhu,Zhz,Zia,Zic,okEq,okCmp,okIn,D.fits,D.fitsL,D.dep,D.depL,D.eqv,D.eqvL,D.alike,D.alikeL,Nat.reduceAdd,Nat.reduceSub,c02,Zkf,Zkg,Zki,Nat.reduceEqDiff,Nat.reduceLeDiff,Int.reduceAdd,Int.reduceSub,Int.reduceMul,Int.reduceNeg,Int.reducePow,Int.reduceLT,Int.reduceLE,Int.reduceEq,Int.reduceToNat,qn1,qn2,qn3,qn4,qn5,qk1,qk5,lq1,lq2,lq3,lq4,lq5,at0,at1,at2,at3,at4,at5,Znb,uq1,uq2,uq3,uq4,oq1,oq2,oq3,oq4,tq1,tq2,tq3,tq4,tq5,sl0,slS,lk0,Znh,Zni,Znj,Znk,Znl,Znm,Znn,Zno,Znp,Znv,Zny,Zof,Zog,reduceCtorEq,Zok, ixFD, hat, fd_eq]
  rw [WS_seq]
  simp only [↓reduceIte,↓ZP,↓W_K,↓trc,↓Zbs,↓Zgg,ZQ,Zhu,Zhz,Zia,Zic,okEq,okCmp,okIn,D.fits,D.fitsL,D.dep,D.depL,D.eqv,D.eqvL,D.alike,D.alikeL,Nat.reduceAdd,Nat.reduceSub,c02,Zkf,Zkg,Zki,Nat.reduceEqDiff,Nat.reduceLeDiff,Int.reduceAdd,Int.reduceSub,Int.reduceMul,Int.reduceNeg,Int.reducePow,Int.reduceLT,Int.reduceLE,Int.reduceEq,Int.reduceToNat,qn1,qn2,qn3,qn4,qn5,qk1,qk5,lq1,lq2,lq3,lq4,lq5,at0,at1,at2,at3,at4,at5,Znb,uq1,uq2,uq3,uq4,oq1,oq2,oq3,oq4,tq1,tq2,tq3,tq4,tq5,sl0,slS,lk0,Znh,Zni,Znj,Znk,Znl,Znm,Znn,Zno,Znp,Znv,Zny,Zof,Zog,reduceCtorEq,Zok, lstAt_new, hsg]
  rw [WS_seq]
  simp only [↓reduceIte,↓ZP,↓W_K,↓trc,↓Zbs,↓Zgg,ZQ,Zhu,Zhz,Zia,Zic,okEq,okCmp,okIn,D.fits,D.fitsL,D.dep,D.depL,D.eqv,D.eqvL,D.alike,D.alikeL,Nat.reduceAdd,Nat.reduceSub,c02,Zkf,Zkg,Zki,Nat.reduceEqDiff,Nat.reduceLeDiff,Int.reduceAdd,Int.reduceSub,Int.reduceMul,Int.reduceNeg,Int.reducePow,Int.reduceLT,Int.reduceLE,Int.reduceEq,Int.reduceToNat,qn1,qn2,qn3,qn4,qn5,qk1,qk5,lq1,lq2,lq3,lq4,lq5,at0,at1,at2,at3,at4,at5,Znb,uq1,uq2,uq3,uq4,oq1,oq2,oq3,oq4,tq1,tq2,tq3,tq4,tq5,sl0,slS,lk0,Znh,Zni,Znj,Znk,Znl,Znm,Znn,Zno,Znp,Znv,Zny,Zof,Zog,reduceCtorEq,Zok]
  refine ⟨s2, ?_⟩
  rw [WS_seq]
  simp only [↓reduceIte,↓ZP,↓W_K,↓trc,↓Zbs,↓Zgg,ZQ,Zhu,Zhz,Zia,Zic,okEq,okCmp,okIn,D.fits,D.fitsL,D.dep,D.depL,D.eqv,D.eqvL,D.alike,D.alikeL,Nat.reduceAdd,Nat.reduceSub,c02,Zkf,Zkg,Zki,Nat.reduceEqDiff,Nat.reduceLeDiff,Int.reduceAdd,Int.reduceSub,Int.reduceMul,Int.reduceNeg,Int.reducePow,Int.reduceLT,Int.reduceLE,Int.reduceEq,Int.reduceToNat,qn1,qn2,qn3,qn4,qn5,qk1,qk5,lq1,lq2,lq3,lq4,lq5,at0,at1,at2,at3,at4,at5,Znb,uq1,uq2,uq3,uq4,oq1,oq2,oq3,oq4,tq1,tq2,tq3,tq4,tq5,sl0,slS,lk0,Znh,Zni,Znj,Znk,Znl,Znm,Znn,Zno,Znp,Znv,Zny,Zof,Zog,reduceCtorEq,Zok]
  refine ⟨by rw [sizeLine_eq]; omega, by rw [len_app, sizeLine_eq]; omega, ?_⟩
  have tgd : Tn 19 (D.str (f.n ++ sg ++ Str.ofString (toString n))) := tn_app (tn_app tnm tsg (Nat.le_refl _)) tnu (by decide)
  generalize hgd : f.n ++ sg ++ Str.ofString (toString n) = gd at tgd ⊢
  have zgd := (tn_len tgd).1
  have F0 := (Fk.refl 0 S).app [Cell.lst [D.str (Str.ofString "<="), D.str (Str.ofString ""), D.str (Str.ofString ">=")]]
  have hT0 : 2 ≤ (S ++ [Cell.lst [D.str (Str.ofString "<="), D.str (Str.ofString ""), D.str (Str.ofString ">=")]]).length := by rw [List.length_append]; omega
  generalize S ++ [Cell.lst [D.str (Str.ofString "<="), D.str (Str.ofString ""), D.str (Str.ofString ">=")]] = T0 at F0 hT0 ⊢
  rw [WS_seq]
  simp only [↓reduceIte,↓ZP,↓W_K,↓trc,↓Zbs,↓Zgg,ZQ,Zhu,Zhz,Zia,Zic,okEq,okCmp,okIn,D.fits,D.fitsL,D.dep,D.depL,D.eqv,D.eqvL,D.alike,D.alikeL,Nat.reduceAdd,Nat.reduceSub,c02,Zkf,Zkg,Zki,Nat.reduceEqDiff,Nat.reduceLeDiff,Int.reduceAdd,Int.reduceSub,Int.reduceMul,Int.reduceNeg,Int.reducePow,Int.reduceLT,Int.reduceLE,Int.reduceEq,Int.reduceToNat,qn1,qn2,qn3,qn4,qn5,qk1,qk5,lq1,lq2,lq3,lq4,lq5,at0,at1,at2,at3,at4,at5,Znb,uq1,uq2,uq3,uq4,oq1,oq2,oq3,oq4,tq1,tq2,tq3,tq4,tq5,sl0,slS,lk0,Znh,Zni,Znj,Znk,Znl,Znm,Znn,Zno,Znp,Znv,Zny,Zof,Zog,reduceCtorEq,Zok, o_lst]
  refine ⟨sz2 (by omega) (by decide), sz2 (by decide) (by omega), by omega, by rw [sizeLine_eq]; omega, sz2 (by omega) (by decide), sz2 (by omega) (by decide), sz2 (by omega) (by decide), sz2 (by decide) (by omega), sz2 (by omega) (by decide), sz2 (by omega) (by decide), by rw [sizeLine_eq]; decide, ?_⟩
  refine absP (Pr := Tn 20) (S0 := S) (P := fun l S' => WS (qd (x, Q)) tg ((_ : DS) [some (.loc 1), some (FD fs), some (.tup [.int i, .int w, .int n]), some (.str f.n), some (.str sg), some (.str (Str.ofString (toString n))), some (.str gd), some (.loc l), none, none, none, none, none, none, none] S')) hT0 F0 (fun y hy => ?_) (by simp) fun l7 T1 us7 hl7 hU7 hp7 hne7 hn7 G1 F1 hT1 _ => ?_
  · simp only [List.mem_cons, List.not_mem_nil, or_false] at hy
    rcases hy with rfl | rfl | rfl | rfl | rfl | rfl | rfl | rfl | rfl | rfl | rfl | rfl | rfl
    all_goals first
      | exact tn_lit _ (by decide)
      | exact tn_app tnm (tn_lit (k := 9) _ (by decide)) (by decide)
      | exact tn_app (tn_lit (k := 9) _ (by decide)) tnm (by decide)
      | exact tn_app tnu (tn_lit (k := 9) _ (by decide)) (by decide)
      | exact tn_app (tn_lit (k := 9) _ (by decide)) tnu (by decide)
      | exact tup.mono (by decide)
      | exact (tn_cut tnm).mono (by decide)
      | exact tlo.mono (by decide)
      | exact thi.mono (by decide)
      | exact th1.mono (by decide)
      | exact ⟨_, rfl, by decide +kernel, by decide +kernel⟩
  rw [WS_seq]
  simp only [↓reduceIte,↓ZP,↓W_K,↓trc,↓Zbs,↓Zgg,ZQ,Zhu,Zhz,Zia,Zic,okEq,okCmp,okIn,D.fits,D.fitsL,D.dep,D.depL,D.eqv,D.eqvL,D.alike,D.alikeL,Nat.reduceAdd,Nat.reduceSub,c02,Zkf,Zkg,Zki,Nat.reduceEqDiff,Nat.reduceLeDiff,Int.reduceAdd,Int.reduceSub,Int.reduceMul,Int.reduceNeg,Int.reducePow,Int.reduceLT,Int.reduceLE,Int.reduceEq,Int.reduceToNat,qn1,qn2,qn3,qn4,qn5,qk1,qk5,lq1,lq2,lq3,lq4,lq5,at0,at1,at2,at3,at4,at5,Znb,uq1,uq2,uq3,uq4,oq1,oq2,oq3,oq4,tq1,tq2,tq3,tq4,tq5,sl0,slS,lk0,Znh,Zni,Znj,Znk,Znl,Znm,Znn,Zno,Znp,Znv,Zny,Zof,Zog,reduceCtorEq,Zok, o_lst]
  refine ⟨by rw [sizeLine_eq]; decide, ?_⟩
  refine absP (Pr := Tn 20) (S0 := S) (P := fun l S' => WS (qd (x, Q)) tg ((_ : DS) [some (.loc 1), some (FD fs), some (.tup [.int i, .int w, .int n]), some (.str f.n), some (.str sg), some (.str (Str.ofString (toString n))), some (.str gd), some (.loc l7), some (.loc l), none, none, none, none, none, none] S')) hT1 F1 (fun y hy => ?_) (by simp) fun l8 T2 us8 hl8 hU8 hp8 hne8 hn8 G2 F2 hT2 _ => ?_
  · simp only [List.mem_cons, List.not_mem_nil, or_false] at hy
    rcases hy with rfl | rfl | rfl | rfl | rfl | rfl | rfl | rfl | rfl | rfl | rfl | rfl | rfl | rfl | rfl | rfl | rfl | rfl | rfl
    all_goals first
      | exact tn_lit _ (by decide)
      | exact tn_app tnm (tn_lit (k := 9) _ (by decide)) (by decide)
      | exact tn_app (tn_lit (k := 9) _ (by decide)) tnm (by decide)
      | exact tn_app tnu (tn_lit (k := 9) _ (by decide)) (by decide)
      | exact tn_app (tn_lit (k := 9) _ (by decide)) tnu (by decide)
      | exact tup.mono (by decide)
      | exact (tn_cut tnm).mono (by decide)
      | exact tlo.mono (by decide)
      | exact thi.mono (by decide)
      | exact th1.mono (by decide)
      | exact ⟨_, rfl, by decide +kernel, by decide +kernel⟩
  have hU7a := lstAt_mono hU7 G2
  rw [WS_seq]
  simp only [↓reduceIte,↓ZP,↓W_K,↓trc,↓Zbs,↓Zgg,ZQ,Zhu,Zhz,Zia,Zic,okEq,okCmp,okIn,D.fits,D.fitsL,D.dep,D.depL,D.eqv,D.eqvL,D.alike,D.alikeL,Nat.reduceAdd,Nat.reduceSub,c02,Zkf,Zkg,Zki,Nat.reduceEqDiff,Nat.reduceLeDiff,Int.reduceAdd,Int.reduceSub,Int.reduceMul,Int.reduceNeg,Int.reducePow,Int.reduceLT,Int.reduceLE,Int.reduceEq,Int.reduceToNat,qn1,qn2,qn3,qn4,qn5,qk1,qk5,lq1,lq2,lq3,lq4,lq5,at0,at1,at2,at3,at4,at5,Znb,uq1,uq2,uq3,uq4,oq1,oq2,oq3,oq4,tq1,tq2,tq3,tq4,tq5,sl0,slS,lk0,Znh,Zni,Znj,Znk,Znl,Znm,Znn,Zno,Znp,Znv,Zny,Zof,Zog,reduceCtorEq,Zok, o_lst]
  refine ⟨sz2 (by decide) (by omega), sz2 (by omega) (by decide), sz2 (by decide) (by omega), sz2 (by decide) (by omega), by decide, by decide, by decide, sz2 (by decide) (by decide +kernel), by decide, sz2 (by decide) (by decide +kernel), by rw [sizeLine_eq]; decide, ?_⟩
  refine absP (Pr := Tn 20) (S0 := S) (P := fun l S' => WS (qd (x, Q)) tg ((_ : DS) [some (.loc 1), some (FD fs), some (.tup [.int i, .int w, .int n]), some (.str f.n), some (.str sg), some (.str (Str.ofString (toString n))), some (.str gd), some (.loc l7), some (.loc l8), some (.loc l), none, none, none, none, none] S')) hT2 F2 (fun y hy => ?_) (by simp) fun l9 T3 us9 hl9 hU9 hp9 hne9 hn9 G3 F3 hT3 _ => ?_
  · simp only [List.mem_cons, List.not_mem_nil, or_false] at hy
    rcases hy with rfl | rfl | rfl | rfl | rfl | rfl | rfl | rfl | rfl | rfl | rfl | rfl | rfl | rfl
    all_goals first
      | exact tn_lit _ (by decide)
      | exact tn_app tnm (tn_lit (k := 9) _ (by decide)) (by decide)
      | exact tn_app (tn_lit (k := 9) _ (by decide)) tnm (by decide)
      | exact tn_app tnu (tn_lit (k := 9) _ (by decide)) (by decide)
      | exact tn_app (tn_lit (k := 9) _ (by decide)) tnu (by decide)
      | exact tup.mono (by decide)
      | exact (tn_cut tnm).mono (by decide)
      | exact tlo.mono (by decide)
      | exact thi.mono (by decide)
      | exact th1.mono (by decide)
      | exact ⟨_, rfl, by decide +kernel, by decide +kernel⟩
  simp only [List.length_cons, List.length_nil] at hn9 hn7 hn8
  have hU7b := lstAt_mono hU7a G3
  have hU8b := lstAt_mono hU8 G3
  rw [WS_seq]
  simp only [↓reduceIte,↓ZP,↓W_K,↓trc,↓Zbs,↓Zgg,ZQ,Zhu,Zhz,Zia,Zic,okEq,okCmp,okIn,D.fits,D.fitsL,D.dep,D.depL,D.eqv,D.eqvL,D.alike,D.alikeL,Nat.reduceAdd,Nat.reduceSub,c02,Zkf,Zkg,Zki,Nat.reduceEqDiff,Nat.reduceLeDiff,Int.reduceAdd,Int.reduceSub,Int.reduceMul,Int.reduceNeg,Int.reducePow,Int.reduceLT,Int.reduceLE,Int.reduceEq,Int.reduceToNat,qn1,qn2,qn3,qn4,qn5,qk1,qk5,lq1,lq2,lq3,lq4,lq5,at0,at1,at2,at3,at4,at5,Znb,uq1,uq2,uq3,uq4,oq1,oq2,oq3,oq4,tq1,tq2,tq3,tq4,tq5,sl0,slS,lk0,Znh,Zni,Znj,Znk,Znl,Znm,Znn,Zno,Znp,Znv,Zny,Zof,Zog,reduceCtorEq,Zok, o_lst, ixFD, hat, fd_eq, lstAt_app hU9, lstAt_new]
  refine ⟨slo, shi, sh1, sz2 (by omega) (by decide), sz2 (by omega) (by decide), by rw [sizeLine_eq]; decide, by rw [sizeLine_eq]; omega, ?_⟩
  refine absP (Pr := Tn 20) (S0 := S) (P := fun l S' => WS (qd (x, Q)) tg ((_ : DS) [some (.loc 1), some (FD fs), some (.tup [.int i, .int w, .int n]), some (.str f.n), some (.str sg), some (.str (Str.ofString (toString n))), some (.str gd), some (.loc l7), some (.loc l8), some (.loc l), none, none, none, none, none] S')) (by rw [List.length_append]; omega) (F3.app _) (fun y hy => ?_) (by simp) fun l9b T4 us9b hl9b hU9b hp9b hne9b hn9b G4 F4 hT4 _ => ?_
  · rcases List.mem_append.mp hy with hy | hy
    · exact hp9 y hy
    · simp only [List.mem_cons, List.not_mem_nil, or_false] at hy
      rcases hy with rfl | rfl | rfl | rfl | rfl | rfl | rfl | rfl | rfl
      all_goals first
      | exact tn_lit _ (by decide)
      | exact tn_app tnm (tn_lit (k := 9) _ (by decide)) (by decide)
      | exact tn_app (tn_lit (k := 9) _ (by decide)) tnm (by decide)
      | exact tn_app tnu (tn_lit (k := 9) _ (by decide)) (by decide)
      | exact tn_app (tn_lit (k := 9) _ (by decide)) tnu (by decide)
      | exact tup.mono (by decide)
      | exact (tn_cut tnm).mono (by decide)
      | exact tlo.mono (by decide)
      | exact thi.mono (by decide)
      | exact th1.mono (by decide)
      | exact ⟨_, rfl, by decide +kernel, by decide +kernel⟩
  rw [List.length_append, hn9] at hn9b
  simp only [List.length_cons, List.length_nil] at hn9b
  have hU7c := lstAt_mono (lstAt_app hU7b) G4
  have hU8c := lstAt_mono (lstAt_app hU8b) G4
  rw [WS_seq]
  simp only [↓reduceIte,↓ZP,↓W_K,↓trc,↓Zbs,↓Zgg,ZQ,Zhu,Zhz,Zia,Zic,okEq,okCmp,okIn,D.fits,D.fitsL,D.dep,D.depL,D.eqv,D.eqvL,D.alike,D.alikeL,Nat.reduceAdd,Nat.reduceSub,c02,Zkf,Zkg,Zki,Nat.reduceEqDiff,Nat.reduceLeDiff,Int.reduceAdd,Int.reduceSub,Int.reduceMul,Int.reduceNeg,Int.reducePow,Int.reduceLT,Int.reduceLE,Int.reduceEq,Int.reduceToNat,qn1,qn2,qn3,qn4,qn5,qk1,qk5,lq1,lq2,lq3,lq4,lq5,at0,at1,at2,at3,at4,at5,Znb,uq1,uq2,uq3,uq4,oq1,oq2,oq3,oq4,tq1,tq2,tq3,tq4,tq5,sl0,slS,lk0,Znh,Zni,Znj,Znk,Znl,Znm,Znn,Zno,Znp,Znv,Zny,Zof,Zog,reduceCtorEq,Zok, o_lst]
  refine ⟨sz2 (by decide) (by omega), sz2 (by omega) (by omega), ?_⟩
  refine absP (Pr := Tn 100) (S0 := S) (P := fun l S' => WS (qd (x, Q)) tg ((_ : DS) [some (.loc 1), some (FD fs), some (.tup [.int i, .int w, .int n]), some (.str f.n), some (.str sg), some (.str (Str.ofString (toString n))), some (.str gd), some (.loc l7), some (.loc l8), some (.loc l9b), some (.loc l), none, none, none, none] S')) hT4 F4 (fun y hy => ?_) (by simp) fun X T5 xs hX2 hXX hxp hxne hxl G5 F5 hT5 hX4 => ?_
  · simp only [List.mem_cons, List.not_mem_nil, or_false] at hy
    rcases hy with rfl | rfl | rfl | rfl | rfl | rfl
    · exact tgd.mono (by decide)
    · exact tn_lit _ (by decide)
    · exact tn_lit _ (by decide)
    · exact tn_lit _ (by decide)
    · exact tn_app (tn_lit (k := 9) _ (by decide)) tgd (by decide)
    · exact tn_app tgd tgd (by decide)
  simp only [List.length_cons, List.length_nil] at hxl
  have q7 := lstAt_lt hU7c
  have q8 := lstAt_lt hU8c
  have q9 := lstAt_lt hU9b
  have hU7d := lstAt_mono hU7c G5
  have hU8d := lstAt_mono hU8c G5
  have hU9d := lstAt_mono hU9b G5
  have hXS : S.length ≤ X := by have := F4.len; omega
  simp only [↓reduceIte,↓ZP,↓W_K,↓trc,↓Zbi,↓Zbs,↓Zgg,ZQ,Zhu,Zhz,Zia,Zic,okEq,okCmp,okIn,D.fits,D.fitsL,D.dep,D.depL,D.eqv,D.eqvL,D.alike,D.alikeL,Nat.reduceAdd,Nat.reduceSub,c02,Zkf,Zkg,Zki,Nat.reduceEqDiff,Nat.reduceLeDiff,Int.reduceAdd,Int.reduceSub,Int.reduceMul,Int.reduceNeg,Int.reducePow,Int.reduceLT,Int.reduceLE,Int.reduceEq,Int.reduceToNat,qn1,qn2,qn3,qn4,qn5,qk1,qk5,lq1,lq2,lq3,lq4,lq5,at0,at1,at2,at3,at4,at5,Znb,uq1,uq2,uq3,uq4,oq1,oq2,oq3,oq4,tq1,tq2,tq3,tq4,tq5,sl0,slS,lk0,Znh,Zni,Znj,Znk,Znl,Znm,Znn,Zno,Znp,Znv,Zny,Zof,Zog,reduceCtorEq,Zok]
  refine ⟨by decide, ?_⟩
  refine WS_rloop (fun j σ S' => WellOk S' ∧ Fr S S' ∧ lstAt S' l7 = some us7 ∧ lstAt S' l8 = some us8 ∧ lstAt S' l9b = some us9b ∧ ∃ (xs : List D) (p11 p12 p13 p14 : Option D), σ = [some (.loc 1), some (FD fs), some (.tup [.int i, .int w, .int n]), some (.str f.n), some (.str sg), some (.str (Str.ofString (toString n))), some (.str gd), some (.loc l7), some (.loc l8), some (.loc l9b), some (.loc X), p11, p12, p13, p14] ∧ lstAt S' X = some xs ∧ (∀ y ∈ xs, Tn 100 y) ∧ (xs.length : Int) = 6 + j)
    ⟨well_fk hW F5, fr_of F5, hU7d, hU8d, hU9d, xs, _, _, _, _, rfl, hXX, hxp, by rw [hxl]; rfl⟩ ?_ ?_
  · rintro j σ S6 j0 j1 ⟨hW6, F6, h7, h8, h9, xs, p11, p12, p13, p14, rfl, hX6, hxp, hxl⟩
    have h6 := hW6.len
    have tsg20 : ∀ y ∈ [D.str f.n, D.str sg, D.str (Str.ofString (toString n))], Tn 20 y := fun y hy => by
      simp only [List.mem_cons, List.not_mem_nil, or_false] at hy
      rcases hy with rfl | rfl | rfl
      · exact tnm.mono (by decide)
      · exact tsg.mono (by decide)
      · exact tnu.mono (by decide)
    simp only [↓reduceIte,↓ZP,↓W_K,↓trc,↓Zbs,↓Zgg,ZQ,Zhu,Zhz,Zia,Zic,okEq,okCmp,okIn,D.fits,D.fitsL,D.dep,D.depL,D.eqv,D.eqvL,D.alike,D.alikeL,Nat.reduceAdd,Nat.reduceSub,c02,Zkf,Zkg,Zki,Nat.reduceEqDiff,Nat.reduceLeDiff,Int.reduceAdd,Int.reduceSub,Int.reduceMul,Int.reduceNeg,Int.reducePow,Int.reduceLT,Int.reduceLE,Int.reduceEq,Int.reduceToNat,qn1,qn2,qn3,qn4,qn5,qk1,qk5,lq1,lq2,lq3,lq4,lq5,at0,at1,at2,at3,at4,at5,Znb,uq1,uq2,uq3,uq4,oq1,oq2,oq3,oq4,tq1,tq2,tq3,tq4,tq5,sl0,slS,lk0,Znh,Zni,Znj,Znk,Znl,Znm,Znn,Zno,Znp,Znv,Zny,Zof,Zog,reduceCtorEq,Zok]
    rw [WS_seq]
    simp only [↓reduceIte,↓ZP,↓W_K,↓trc,↓Zbs,↓Zgg,ZQ,Zhu,Zhz,Zia,Zic,okEq,okCmp,okIn,D.fits,D.fitsL,D.dep,D.depL,D.eqv,D.eqvL,D.alike,D.alikeL,Nat.reduceAdd,Nat.reduceSub,c02,Zkf,Zkg,Zki,Nat.reduceEqDiff,Nat.reduceLeDiff,Int.reduceAdd,Int.reduceSub,Int.reduceMul,Int.reduceNeg,Int.reducePow,Int.reduceLT,Int.reduceLE,Int.reduceEq,Int.reduceToNat,qn1,qn2,qn3,qn4,qn5,qk1,qk5,lq1,lq2,lq3,lq4,lq5,at0,at1,at2,at3,at4,at5,Znb,uq1,uq2,uq3,uq4,oq1,oq2,oq3,oq4,tq1,tq2,tq3,tq4,tq5,sl0,slS,lk0,Znh,Zni,Znj,Znk,Znl,Znm,Znn,Zno,Znp,Znv,Zny,Zof,Zog,reduceCtorEq,Zok]
    have hP7 := lstAt_new (S := S6) (c := [D.str f.n, D.str sg, D.str (Str.ofString (toString n))])
    have hW7 := hW6.app [Cell.lst [D.str f.n, D.str sg, D.str (Str.ofString (toString n))]]
    have F67 := (Fr.refl S6).app [Cell.lst [D.str f.n, D.str sg, D.str (Str.ofString (toString n))]]
    generalize S6 ++ [Cell.lst [D.str f.n, D.str sg, D.str (Str.ofString (toString n))]] = S7 at hP7 hW7 F67 ⊢
    rw [WS_seq]
    simp only [↓reduceIte,↓ZP,↓W_K,↓trc,↓Zbs,↓Zgg,ZQ,Zhu,Zhz,Zia,Zic,okEq,okCmp,okIn,D.fits,D.fitsL,D.dep,D.depL,D.eqv,D.eqvL,D.alike,D.alikeL,Nat.reduceAdd,Nat.reduceSub,c02,Zkf,Zkg,Zki,Nat.reduceEqDiff,Nat.reduceLeDiff,Int.reduceAdd,Int.reduceSub,Int.reduceMul,Int.reduceNeg,Int.reducePow,Int.reduceLT,Int.reduceLE,Int.reduceEq,Int.reduceToNat,qn1,qn2,qn3,qn4,qn5,qk1,qk5,lq1,lq2,lq3,lq4,lq5,at0,at1,at2,at3,at4,at5,Znb,uq1,uq2,uq3,uq4,oq1,oq2,oq3,oq4,tq1,tq2,tq3,tq4,tq5,sl0,slS,lk0,Znh,Zni,Znj,Znk,Znl,Znm,Znn,Zno,Znp,Znv,Zny,Zof,Zog,reduceCtorEq,Zok]
    refine dip_w hW7 (by omega) fun s S8 s0 s1 hW8 F8 => ?_
    have hP8 := F8.lst h6 hP7
    have F68 := F67.trans F8
    simp only [↓reduceIte,↓ZP,↓W_K,↓trc,↓Zbs,↓Zgg,ZQ,Zhu,Zhz,Zia,Zic,okEq,okCmp,okIn,D.fits,D.fitsL,D.dep,D.depL,D.eqv,D.eqvL,D.alike,D.alikeL,Nat.reduceAdd,Nat.reduceSub,c02,Zkf,Zkg,Zki,Nat.reduceEqDiff,Nat.reduceLeDiff,Int.reduceAdd,Int.reduceSub,Int.reduceMul,Int.reduceNeg,Int.reducePow,Int.reduceLT,Int.reduceLE,Int.reduceEq,Int.reduceToNat,qn1,qn2,qn3,qn4,qn5,qk1,qk5,lq1,lq2,lq3,lq4,lq5,at0,at1,at2,at3,at4,at5,Znb,uq1,uq2,uq3,uq4,oq1,oq2,oq3,oq4,tq1,tq2,tq3,tq4,tq5,sl0,slS,lk0,Znh,Zni,Znj,Znk,Znl,Znm,Znn,Zno,Znp,Znv,Zny,Zof,Zog,reduceCtorEq,Zok]
    rw [WS_seq]
    simp only [↓reduceIte,↓ZP,↓W_K,↓trc,↓Zbs,↓Zgg,ZQ,Zhu,Zhz,Zia,Zic,okEq,okCmp,okIn,D.fits,D.fitsL,D.dep,D.depL,D.eqv,D.eqvL,D.alike,D.alikeL,Nat.reduceAdd,Nat.reduceSub,c02,Zkf,Zkg,Zki,Nat.reduceEqDiff,Nat.reduceLeDiff,Int.reduceAdd,Int.reduceSub,Int.reduceMul,Int.reduceNeg,Int.reducePow,Int.reduceLT,Int.reduceLE,Int.reduceEq,Int.reduceToNat,qn1,qn2,qn3,qn4,qn5,qk1,qk5,lq1,lq2,lq3,lq4,lq5,at0,at1,at2,at3,at4,at5,Znb,uq1,uq2,uq3,uq4,oq1,oq2,oq3,oq4,tq1,tq2,tq3,tq4,tq5,sl0,slS,lk0,Znh,Zni,Znj,Znk,Znl,Znm,Znn,Zno,Znp,Znv,Zny,Zof,Zog,reduceCtorEq,Zok, lstAt_new]
    have pick : ∀ {S9 : Store} {y : D}, Fr S6 S9 → y ∈ [D.loc l7, D.loc l8, D.loc l9b] → ∃ O uo, y = .loc O ∧ 2 ≤ O ∧ lstAt S9 O = some uo ∧ uo ≠ [] ∧ (∀ z ∈ uo, Tn 20 z) ∧ uo.length ≤ 1000 := fun G hy => by
      simp only [List.mem_cons, List.not_mem_nil, or_false] at hy
      rcases hy with rfl | rfl | rfl
      · exact ⟨_, _, rfl, hl7, G.lst hl7 h7, hne7, hp7, by omega⟩
      · exact ⟨_, _, rfl, hl8, G.lst hl8 h8, hne8, hp8, by omega⟩
      · exact ⟨_, _, rfl, hl9b, G.lst hl9b h9, hne9b, hp9b, by omega⟩
    refine WM_at s0 (by simp; omega) fun y hy => ?_
    obtain ⟨O, uo, rfl, hO2, hO, hOn, hOp, hOl⟩ := pick (F68.app [Cell.lst [D.loc l7, D.loc l8, D.loc l9b]]) hy
    simp only [↓reduceIte,↓ZP,↓W_K,↓trc,↓Zbs,↓Zgg,ZQ,Zhu,Zhz,Zia,Zic,okEq,okCmp,okIn,D.fits,D.fitsL,D.dep,D.depL,D.eqv,D.eqvL,D.alike,D.alikeL,Nat.reduceAdd,Nat.reduceSub,c02,Zkf,Zkg,Zki,Nat.reduceEqDiff,Nat.reduceLeDiff,Int.reduceAdd,Int.reduceSub,Int.reduceMul,Int.reduceNeg,Int.reducePow,Int.reduceLT,Int.reduceLE,Int.reduceEq,Int.reduceToNat,qn1,qn2,qn3,qn4,qn5,qk1,qk5,lq1,lq2,lq3,lq4,lq5,at0,at1,at2,at3,at4,at5,Znb,uq1,uq2,uq3,uq4,oq1,oq2,oq3,oq4,tq1,tq2,tq3,tq4,tq5,sl0,slS,lk0,Znh,Zni,Znj,Znk,Znl,Znm,Znn,Zno,Znp,Znv,Zny,Zof,Zog,reduceCtorEq,Zok]
    rw [WS_seq]
    refine repl_w (Sb := S6) (hW8.app _) (F68.app _) (Nat.le_refl _) h6 hO2 hO hOn hOp hOl (lstAt_app hP8) tsg20 rfl s0 (by omega) fun ps S9 hW9 F9 hP9 hps hpl => ?_
    simp only [↓reduceIte,↓ZP,↓W_K,↓trc,↓Zbs,↓Zgg,ZQ,Zhu,Zhz,Zia,Zic,okEq,okCmp,okIn,D.fits,D.fitsL,D.dep,D.depL,D.eqv,D.eqvL,D.alike,D.alikeL,Nat.reduceAdd,Nat.reduceSub,c02,Zkf,Zkg,Zki,Nat.reduceEqDiff,Nat.reduceLeDiff,Int.reduceAdd,Int.reduceSub,Int.reduceMul,Int.reduceNeg,Int.reducePow,Int.reduceLT,Int.reduceLE,Int.reduceEq,Int.reduceToNat,qn1,qn2,qn3,qn4,qn5,qk1,qk5,lq1,lq2,lq3,lq4,lq5,at0,at1,at2,at3,at4,at5,Znb,uq1,uq2,uq3,uq4,oq1,oq2,oq3,oq4,tq1,tq2,tq3,tq4,tq5,sl0,slS,lk0,Znh,Zni,Znj,Znk,Znl,Znm,Znn,Zno,Znp,Znv,Zny,Zof,Zog,reduceCtorEq,Zok]
    rw [WS_seq]
    refine WS_mid (fun σ S' => WellOk S' ∧ Fr S6 S' ∧ ∃ ps q13 q14, σ = [some (.loc 1), some (FD fs), some (.tup [.int i, .int w, .int n]), some (.str f.n), some (.str sg), some (.str (Str.ofString (toString n))), some (.str gd), some (.loc l7), some (.loc l8), some (.loc l9b), some (.loc X), some (.int j), some (.loc S6.length), q13, q14] ∧ lstAt S' S6.length = some ps ∧ (∀ y ∈ ps, Tn 20 y) ∧ ps.length = 3) ?_ ?_
    · simp only [↓reduceIte,↓ZP,↓W_K,↓trc,↓Zbs,↓Zgg,ZQ,Zhu,Zhz,Zia,Zic,okEq,okCmp,okIn,D.fits,D.fitsL,D.dep,D.depL,D.eqv,D.eqvL,D.alike,D.alikeL,Nat.reduceAdd,Nat.reduceSub,c02,Zkf,Zkg,Zki,Nat.reduceEqDiff,Nat.reduceLeDiff,Int.reduceAdd,Int.reduceSub,Int.reduceMul,Int.reduceNeg,Int.reducePow,Int.reduceLT,Int.reduceLE,Int.reduceEq,Int.reduceToNat,qn1,qn2,qn3,qn4,qn5,qk1,qk5,lq1,lq2,lq3,lq4,lq5,at0,at1,at2,at3,at4,at5,Znb,uq1,uq2,uq3,uq4,oq1,oq2,oq3,oq4,tq1,tq2,tq3,tq4,tq5,sl0,slS,lk0,Znh,Zni,Znj,Znk,Znl,Znm,Znn,Zno,Znp,Znv,Zny,Zof,Zog,reduceCtorEq,Zok]
      refine ⟨fun g => ?_, fun g => ⟨hW9, F9, ps, _, _, rfl, hP9, hps, hpl⟩⟩
      rw [WS_seq]
      simp only [↓reduceIte,↓ZP,↓W_K,↓trc,↓Zbs,↓Zgg,ZQ,Zhu,Zhz,Zia,Zic,okEq,okCmp,okIn,D.fits,D.fitsL,D.dep,D.depL,D.eqv,D.eqvL,D.alike,D.alikeL,Nat.reduceAdd,Nat.reduceSub,c02,Zkf,Zkg,Zki,Nat.reduceEqDiff,Nat.reduceLeDiff,Int.reduceAdd,Int.reduceSub,Int.reduceMul,Int.reduceNeg,Int.reducePow,Int.reduceLT,Int.reduceLE,Int.reduceEq,Int.reduceToNat,qn1,qn2,qn3,qn4,qn5,qk1,qk5,lq1,lq2,lq3,lq4,lq5,at0,at1,at2,at3,at4,at5,Znb,uq1,uq2,uq3,uq4,oq1,oq2,oq3,oq4,tq1,tq2,tq3,tq4,tq5,sl0,slS,lk0,Znh,Zni,Znj,Znk,Znl,Znm,Znn,Zno,Znp,Znv,Zny,Zof,Zog,reduceCtorEq,Zok]
      refine dip_w hW9 (by omega) fun s' S10 t0 t1 hW10 F10 => ?_
      have F610 := F9.trans F10
      have hP10 := F10.lst h6 hP9
      simp only [↓reduceIte,↓ZP,↓W_K,↓trc,↓Zbs,↓Zgg,ZQ,Zhu,Zhz,Zia,Zic,okEq,okCmp,okIn,D.fits,D.fitsL,D.dep,D.depL,D.eqv,D.eqvL,D.alike,D.alikeL,Nat.reduceAdd,Nat.reduceSub,c02,Zkf,Zkg,Zki,Nat.reduceEqDiff,Nat.reduceLeDiff,Int.reduceAdd,Int.reduceSub,Int.reduceMul,Int.reduceNeg,Int.reducePow,Int.reduceLT,Int.reduceLE,Int.reduceEq,Int.reduceToNat,qn1,qn2,qn3,qn4,qn5,qk1,qk5,lq1,lq2,lq3,lq4,lq5,at0,at1,at2,at3,at4,at5,Znb,uq1,uq2,uq3,uq4,oq1,oq2,oq3,oq4,tq1,tq2,tq3,tq4,tq5,sl0,slS,lk0,Znh,Zni,Znj,Znk,Znl,Znm,Znn,Zno,Znp,Znv,Zny,Zof,Zog,reduceCtorEq,Zok]
      rw [WS_seq]
      simp only [↓reduceIte,↓ZP,↓W_K,↓trc,↓Zbs,↓Zgg,ZQ,Zhu,Zhz,Zia,Zic,okEq,okCmp,okIn,D.fits,D.fitsL,D.dep,D.depL,D.eqv,D.eqvL,D.alike,D.alikeL,Nat.reduceAdd,Nat.reduceSub,c02,Zkf,Zkg,Zki,Nat.reduceEqDiff,Nat.reduceLeDiff,Int.reduceAdd,Int.reduceSub,Int.reduceMul,Int.reduceNeg,Int.reducePow,Int.reduceLT,Int.reduceLE,Int.reduceEq,Int.reduceToNat,qn1,qn2,qn3,qn4,qn5,qk1,qk5,lq1,lq2,lq3,lq4,lq5,at0,at1,at2,at3,at4,at5,Znb,uq1,uq2,uq3,uq4,oq1,oq2,oq3,oq4,tq1,tq2,tq3,tq4,tq5,sl0,slS,lk0,Znh,Zni,Znj,Znk,Znl,Znm,Znn,Zno,Znp,Znv,Zny,Zof,Zog,reduceCtorEq,Zok, lstAt_new]
      refine WM_at t0 (by simp; omega) fun y hy => ?_
      obtain ⟨O, uo, rfl, hO2, hO, hOn, hOp, hOl⟩ := pick (F610.app [Cell.lst [D.loc l7, D.loc l8, D.loc l9b]]) hy
      simp only [↓reduceIte,↓ZP,↓W_K,↓trc,↓Zgg,ZQ,Zhu,Zhz,Zia,Zic,okEq,okCmp,okIn,D.fits,D.fitsL,D.dep,D.depL,D.eqv,D.eqvL,D.alike,D.alikeL,Nat.reduceAdd,Nat.reduceSub,c02,Zkf,Zkg,Zki,Nat.reduceEqDiff,Nat.reduceLeDiff,Int.reduceAdd,Int.reduceSub,Int.reduceMul,Int.reduceNeg,Int.reducePow,Int.reduceLT,Int.reduceLE,Int.reduceEq,Int.reduceToNat,qn1,qn2,qn3,qn4,qn5,qk1,qk5,lq1,lq2,lq3,lq4,lq5,at0,at1,at2,at3,at4,at5,Znb,uq1,uq2,uq3,uq4,oq1,oq2,oq3,oq4,tq1,tq2,tq3,tq4,tq5,sl0,slS,lk0,Znh,Zni,Znj,Znk,Znl,Znm,Znn,Zno,Znp,Znv,Zny,Zof,Zog,reduceCtorEq,Zok]
      refine repl_w (Sb := S6) (hW10.app _) (F610.app _) (Nat.le_refl _) h6 hO2 hO hOn hOp hOl (lstAt_app hP10) hps hpl t0 (by omega) fun ps S11 hW11 F11 hP11 hps hpl => ?_
      simp only [↓reduceIte,↓ZP,↓W_K,↓trc,↓Zbi,↓Zbs,↓Zgg,ZQ,Zhu,Zhz,Zia,Zic,okEq,okCmp,okIn,D.fits,D.fitsL,D.dep,D.depL,D.eqv,D.eqvL,D.alike,D.alikeL,Nat.reduceAdd,Nat.reduceSub,c02,Zkf,Zkg,Zki,Nat.reduceEqDiff,Nat.reduceLeDiff,Int.reduceAdd,Int.reduceSub,Int.reduceMul,Int.reduceNeg,Int.reducePow,Int.reduceLT,Int.reduceLE,Int.reduceEq,Int.reduceToNat,qn1,qn2,qn3,qn4,qn5,qk1,qk5,lq1,lq2,lq3,lq4,lq5,at0,at1,at2,at3,at4,at5,Znb,uq1,uq2,uq3,uq4,oq1,oq2,oq3,oq4,tq1,tq2,tq3,tq4,tq5,sl0,slS,lk0,Znh,Zni,Znj,Znk,Znl,Znm,Znn,Zno,Znp,Znv,Zny,Zof,Zog,reduceCtorEq,Zok]
      exact ⟨hW11, F11, ps, _, _, rfl, hP11, hps, hpl⟩
    rintro σ S10 ⟨hW10, F10, ps, q13, q14, rfl, hP10, hps, hpl⟩
    obtain ⟨d0, d1, d2, rfl⟩ : ∃ a b c, ps = [a, b, c] := by
      match ps, hpl with
      | [a, b, c], _ => exact ⟨a, b, c, rfl⟩
    obtain ⟨z0, rfl, u0, o0⟩ := hps d0 (by simp)
    obtain ⟨z1, rfl, u1, o1⟩ := hps d1 (by simp)
    obtain ⟨z2, rfl, u2, o2⟩ := hps d2 (by simp)
    have hX10 := F10.lst hX2 hX6
    have hXl := lstAt_lt hX6
    simp only [↓reduceIte,↓ZP,↓W_K,↓trc,↓Zbi,↓Zbs,↓Zgg,ZQ,Zhu,Zhz,Zia,Zic,okEq,okCmp,okIn,D.fits,D.fitsL,D.dep,D.depL,D.eqv,D.eqvL,D.alike,D.alikeL,Nat.reduceAdd,Nat.reduceSub,c02,Zkg,Zki,Nat.reduceEqDiff,Nat.reduceLeDiff,Int.reduceAdd,Int.reduceSub,Int.reduceMul,Int.reduceNeg,Int.reducePow,Int.reduceLT,Int.reduceLE,Int.reduceEq,Int.reduceToNat,qn1,qn2,qn3,qn4,qn5,qk1,qk5,lq1,lq2,lq3,lq4,lq5,at0,at1,at2,at3,at4,at5,Znb,uq1,uq2,uq3,uq4,oq1,oq2,oq3,oq4,tq1,tq2,tq3,tq4,tq5,sl0,slS,lk0,Znh,Zni,Znj,Znk,Znl,Znm,Znn,Zno,Znp,Znv,Zny,Zof,Zog,reduceCtorEq,Zok, hP10, hX10]
    refine ⟨sz2 (by omega) (by omega), sz2 (by rw [len_app]; omega) (by omega), by rw [sizeLine_eq]; omega, hW10.set hX2, (F6.trans F10).set hXS, by rw [lstAt_set_ne (by omega)]; exact F10.lst hl7 h7, by rw [lstAt_set_ne (by omega)]; exact F10.lst hl8 h8, by rw [lstAt_set_ne (by omega)]; exact F10.lst hl9b h9, xs ++ [D.str (z0 ++ z1 ++ z2)], _, _, _, _, rfl, lstAt_setE (by rw [hX10]; rfl), fun y hy => ?_, by simp; omega⟩
    rcases List.mem_append.mp hy with hy | hy
    · exact hxp y hy
    · rw [List.mem_singleton.mp hy]
      exact tn_app (tn_app ⟨_, rfl, u0, o0⟩ ⟨_, rfl, u1, o1⟩ (Nat.le_refl _)) ⟨_, rfl, u2, o2⟩ (by decide)
  · rintro σ S6 ⟨hW6, F6, h7, h8, h9, xs, p11, p12, p13, p14, rfl, hX6, hxp, hxl⟩
    simp only [↓reduceIte,↓ZP,↓W_K,↓trc,↓Zbi,↓Zbs,↓Zgg,ZQ,Zhu,Zhz,Zia,Zic,okEq,okCmp,okIn,D.fits,D.fitsL,D.dep,D.depL,D.eqv,D.eqvL,D.alike,D.alikeL,Nat.reduceAdd,Nat.reduceSub,c02,Zkf,Zkg,Zki,Nat.reduceEqDiff,Nat.reduceLeDiff,Int.reduceAdd,Int.reduceSub,Int.reduceMul,Int.reduceNeg,Int.reducePow,Int.reduceLT,Int.reduceLE,Int.reduceEq,Int.reduceToNat,qn1,qn2,qn3,qn4,qn5,qk1,qk5,lq1,lq2,lq3,lq4,lq5,at0,at1,at2,at3,at4,at5,Znb,uq1,uq2,uq3,uq4,oq1,oq2,oq3,oq4,tq1,tq2,tq3,tq4,tq5,sl0,slS,lk0,Znh,Zni,Znj,Znk,Znl,Znm,Znn,Zno,Znp,Znv,Zny,Zof,Zog,reduceCtorEq,Zok]
    exact h X xs _ hX2 hX6 hxp hW6 F6
end
end LW

namespace LW
open PySem PySem.Spec PyProof.Rows L2 DL
section
variable {x : XQ} {Q : D → Store → Prop} {tt : Tg (x, Q)} {S S' : Store}
def midF (v : Int) : Fld := ⟨"mid", -2, 3 + v⟩
theorem nm_mid : Nm (Str.ofString "mid") := nm_of (by decide +kernel) (by decide +kernel) (by decide +kernel)
theorem mid_ok {v : Int} (h : 0 ≤ v) (h2 : v ≤ 8) : (midF v).ok := ⟨nm_mid, by simp only [midF]; omega, by simp only [midF]; omega, by simp only [midF]; omega, by simp only [midF]; omega⟩
theorem mid_add {fs : List Fld} {v : Int} (hfs : FsOk fs) (hm : ∀ f ∈ fs, NmH f.n) (h : 0 ≤ v) (h2 : v ≤ 8) : FsOk (fs ++ [midF v]) := by
  refine ⟨fun f hf => ?_, ?_⟩
  · rcases List.mem_append.mp hf with hf | hf
    · exact hfs.ok f hf
    · rw [List.mem_singleton.mp hf]; exact mid_ok h h2
  · rw [List.map_append, List.nodup_append]
    refine ⟨hfs.nd, by simp, fun a ha b hb e => ?_⟩
    have hb : b = (midF v).n := by simpa using hb
    obtain ⟨f, hf, rfl⟩ := List.mem_map.mp ha
    have := (hm f hf).2
    rw [e, hb] at this
    exact this (show (cl (Str.ofString "mid")).head? = some 109 by decide +kernel)
def wideD (fs : List Fld) : D → Bool
  | .int i => decide ((fs.getD i.toNat fd0).lo < (fs.getD i.toNat fd0).hi)
  | _ => false
theorem law_w (ns : List Int) (hl : ns.length ≤ 63) : W (X0, fun d _ => d = .bl true) tg (m_law [.rol (ns.map D.int)] []) := by
  rw [wm_law]
  unfold b_law
  rw [WS_seq]
  simp only [↓reduceIte,↓ZP,↓W_K,↓trc,↓Zbs,↓Zgg,ZQ,Zhu,Zhz,Zia,Zic,okEq,okCmp,okIn,D.fits,D.fitsL,D.dep,D.depL,D.eqv,D.eqvL,D.alike,D.alikeL,Nat.reduceAdd,Nat.reduceSub,c02,Zkf,Zkg,Zki,Nat.reduceEqDiff,Nat.reduceLeDiff,Int.reduceAdd,Int.reduceSub,Int.reduceMul,Int.reduceNeg,Int.reducePow,Int.reduceLT,Int.reduceLE,Int.reduceEq,Int.reduceToNat,qn1,qn2,qn3,qn4,qn5,qk1,qk5,lq1,lq2,lq3,lq4,lq5,at0,at1,at2,at3,at4,at5,Znb,uq1,uq2,uq3,uq4,oq1,oq2,oq3,oq4,tq1,tq2,tq3,tq4,tq5,sl0,slS,lk0,Znh,Zni,Znj,Znk,Znl,Znm,Znn,Zno,Znp,Znv,Zny,Zof,Zog,reduceCtorEq,Zok]
  refine well_w ns hl fun S1 hW1 _ => ?_
  simp only [↓reduceIte,↓ZP,↓W_K,↓trc,↓Zbs,↓Zgg,ZQ,Zhu,Zhz,Zia,Zic,okEq,okCmp,okIn,D.fits,D.fitsL,D.dep,D.depL,D.eqv,D.eqvL,D.alike,D.alikeL,Nat.reduceAdd,Nat.reduceSub,c02,Zkf,Zkg,Zki,Nat.reduceEqDiff,Nat.reduceLeDiff,Int.reduceAdd,Int.reduceSub,Int.reduceMul,Int.reduceNeg,Int.reducePow,Int.reduceLT,Int.reduceLE,Int.reduceEq,Int.reduceToNat,qn1,qn2,qn3,qn4,qn5,qk1,qk5,lq1,lq2,lq3,lq4,lq5,at0,at1,at2,at3,at4,at5,Znb,uq1,uq2,uq3,uq4,oq1,oq2,oq3,oq4,tq1,tq2,tq3,tq4,tq5,sl0,slS,lk0,Znh,Zni,Znj,Znk,Znl,Znm,Znn,Zno,Znp,Znv,Zny,Zof,Zog,reduceCtorEq,Zok]
  rw [WS_seq]
  simp only [↓reduceIte,↓ZP,↓W_K,↓trc,↓Zbs,↓Zgg,ZQ,Zhu,Zhz,Zia,Zic,okEq,okCmp,okIn,D.fits,D.fitsL,D.dep,D.depL,D.eqv,D.eqvL,D.alike,D.alikeL,Nat.reduceAdd,Nat.reduceSub,c02,Zkf,Zkg,Zki,Nat.reduceEqDiff,Nat.reduceLeDiff,Int.reduceAdd,Int.reduceSub,Int.reduceMul,Int.reduceNeg,Int.reducePow,Int.reduceLT,Int.reduceLE,Int.reduceEq,Int.reduceToNat,qn1,qn2,qn3,qn4,qn5,qk1,qk5,lq1,lq2,lq3,lq4,lq5,at0,at1,at2,at3,at4,at5,Znb,uq1,uq2,uq3,uq4,oq1,oq2,oq3,oq4,tq1,tq2,tq3,tq4,tq5,sl0,slS,lk0,Znh,Zni,Znj,Znk,Znl,Znm,Znn,Zno,Znp,Znv,Zny,Zof,Zog,reduceCtorEq,Zok]
  refine near_w hW1 fun fs0 S2 hf1 hf7 hok hnh hW2 F2 => ?_
  simp only [↓reduceIte,↓ZP,↓W_K,↓trc,↓Zbs,↓Zgg,ZQ,Zhu,Zhz,Zia,Zic,okEq,okCmp,okIn,D.fits,D.fitsL,D.dep,D.depL,D.eqv,D.eqvL,D.alike,D.alikeL,Nat.reduceAdd,Nat.reduceSub,c02,Zkf,Zkg,Zki,Nat.reduceEqDiff,Nat.reduceLeDiff,Int.reduceAdd,Int.reduceSub,Int.reduceMul,Int.reduceNeg,Int.reducePow,Int.reduceLT,Int.reduceLE,Int.reduceEq,Int.reduceToNat,qn1,qn2,qn3,qn4,qn5,qk1,qk5,lq1,lq2,lq3,lq4,lq5,at0,at1,at2,at3,at4,at5,Znb,uq1,uq2,uq3,uq4,oq1,oq2,oq3,oq4,tq1,tq2,tq3,tq4,tq5,sl0,slS,lk0,Znh,Zni,Znj,Znk,Znl,Znm,Znn,Zno,Znp,Znv,Zny,Zof,Zog,reduceCtorEq,Zok]
  refine dip_w hW2 (by omega) fun v S3 v0 v1 hW3 F3 => ?_
  simp only [↓reduceIte,↓ZP,↓W_K,↓trc,↓Zbs,↓Zgg,ZQ,Zhu,Zhz,Zia,Zic,okEq,okCmp,okIn,D.fits,D.fitsL,D.dep,D.depL,D.eqv,D.eqvL,D.alike,D.alikeL,Nat.reduceAdd,Nat.reduceSub,c02,Zkf,Zkg,Zki,Nat.reduceEqDiff,Nat.reduceLeDiff,Int.reduceAdd,Int.reduceSub,Int.reduceMul,Int.reduceNeg,Int.reducePow,Int.reduceLT,Int.reduceLE,Int.reduceEq,Int.reduceToNat,qn1,qn2,qn3,qn4,qn5,qk1,qk5,lq1,lq2,lq3,lq4,lq5,at0,at1,at2,at3,at4,at5,Znb,uq1,uq2,uq3,uq4,oq1,oq2,oq3,oq4,tq1,tq2,tq3,tq4,tq5,sl0,slS,lk0,Znh,Zni,Znj,Znk,Znl,Znm,Znn,Zno,Znp,Znv,Zny,Zof,Zog,reduceCtorEq,Zok, FD]
  have hfs := mid_add hok hnh v0 (show v ≤ 8 by omega)
  have efd : fs0.map Fld.d ++ [D.tup [D.str (Str.ofString "mid"), D.int (-2), D.int (3 + v)]] = (fs0 ++ [midF v]).map Fld.d := by rw [List.map_append]; rfl
  rw [efd]
  refine ⟨by rw [List.length_map, sizeLine_eq]; omega, ?_⟩
  obtain ⟨fs, hfse, hfl, hlast⟩ : ∃ fs, fs = fs0 ++ [midF v] ∧ (2 ≤ fs.length ∧ fs.length ≤ 8) ∧ fs.getD (fs.length - 1) fd0 = midF v := by
    refine ⟨_, rfl, by simp; omega, ?_⟩
    rw [List.length_append, List.length_cons, List.length_nil, Nat.zero_add, Nat.add_sub_cancel, List.getD_eq_getElem?_getD, List.getElem?_append_right (Nat.le_refl _), Nat.sub_self]
    rfl
  rw [← hfse] at hfs ⊢
  clear efd hfse
  have hnm : ∀ f ∈ fs, Nm f.n := fun f hf => (hfs.ok f hf).nm
  have eFD : D.tup (fs.map Fld.d) = FD fs := rfl
  rw [eFD]
  rw [WS_seq]
  simp only [↓reduceIte,↓ZP,↓W_K,↓trc,↓Zbs,↓Zgg,ZQ,Zhu,Zhz,Zia,Zic,okEq,okCmp,okIn,D.fits,D.fitsL,D.dep,D.depL,D.eqv,D.eqvL,D.alike,D.alikeL,Nat.reduceAdd,Nat.reduceSub,c02,Zkf,Zkg,Zki,Nat.reduceEqDiff,Nat.reduceLeDiff,Int.reduceAdd,Int.reduceSub,Int.reduceMul,Int.reduceNeg,Int.reducePow,Int.reduceLT,Int.reduceLE,Int.reduceEq,Int.reduceToNat,qn1,qn2,qn3,qn4,qn5,qk1,qk5,lq1,lq2,lq3,lq4,lq5,at0,at1,at2,at3,at4,at5,Znb,uq1,uq2,uq3,uq4,oq1,oq2,oq3,oq4,tq1,tq2,tq3,tq4,tq5,sl0,slS,lk0,Znh,Zni,Znj,Znk,Znl,Znm,Znn,Zno,Znp,Znv,Zny,Zof,Zog,reduceCtorEq,Zok, lenFD]
  refine ⟨by simp only [okB]; omega, ?_⟩
  refine W_cFilt (wideD fs) id trivial (by rw [intsTo_len, sizeLine_eq]; simp; omega) (fun d hd => ?_) ?_
  · obtain ⟨i, rfl, i0, i1⟩ := intsTo_mem hd
    have hat := fit_at (fs := fs) i0 (by omega)
    simp only [↓reduceIte,↓ZP,↓W_K,↓trc,↓Zbi,↓Zbs,↓Zgg,ZQ,Zhu,Zhz,Zia,Zic,okEq,okCmp,okIn,D.fits,D.fitsL,D.dep,D.depL,D.eqv,D.eqvL,D.alike,D.alikeL,Nat.reduceAdd,Nat.reduceSub,c02,Zkf,Zkg,Zki,Nat.reduceEqDiff,Nat.reduceLeDiff,Int.reduceAdd,Int.reduceSub,Int.reduceMul,Int.reduceNeg,Int.reducePow,Int.reduceLT,Int.reduceLE,Int.reduceEq,Int.reduceToNat,qn1,qn2,qn3,qn4,qn5,qk1,qk5,lq1,lq2,lq3,lq4,lq5,at0,at1,at2,at3,at4,at5,Znb,uq1,uq2,uq3,uq4,oq1,oq2,oq3,oq4,tq1,tq2,tq3,tq4,tq5,sl0,slS,lk0,Znh,Zni,Znj,Znk,Znl,Znm,Znn,Zno,Znp,Znv,Zny,Zof,Zog,reduceCtorEq,Zok, wideD, id, ixFD, hat, fd_eq]
    exact ⟨fun h => h, fun h => h⟩
  rw [List.nil_append, List.map_id]
  have hpl : ∀ y ∈ (intsTo 0 ((fs.length : Int)).toNat).filter (wideD fs), ∃ i : Int, y = .int i ∧ 0 ≤ i ∧ i < fs.length ∧ (fs.getD i.toNat fd0).lo < (fs.getD i.toNat fd0).hi := fun y hy => by
    obtain ⟨h1, h2⟩ := List.mem_filter.mp hy
    obtain ⟨i, rfl, i0, i1⟩ := intsTo_mem h1
    exact ⟨i, rfl, i0, by omega, of_decide_eq_true h2⟩
  have hpn : 0 < ((intsTo 0 ((fs.length : Int)).toNat).filter (wideD fs)).length := by
    refine List.length_pos_of_mem (List.mem_filter.mpr ⟨?_, ?_⟩) (a := .int ((fs.length - 1 : Nat) : Int))
    · unfold intsTo
      exact List.mem_map.mpr ⟨fs.length - 1, List.mem_range.mpr (by omega), by rw [Int.zero_add]⟩
    · show decide _ = true
      rw [Int.toNat_natCast, hlast, decide_eq_true_eq]
      simp only [midF]
      omega
  have hplen : ((intsTo 0 ((fs.length : Int)).toNat).filter (wideD fs)).length ≤ 8 := Nat.le_trans (List.length_filter_le _ _) (by rw [intsTo_len]; omega)
  generalize (intsTo 0 ((fs.length : Int)).toNat).filter (wideD fs) = pls at hpl hpn hplen ⊢
  have hP4 := lstAt_new (S := S3) (c := pls)
  have hW4 := hW3.app [Cell.lst pls]
  have hS3 := hW3.len
  generalize S3 ++ [Cell.lst pls] = S4 at hP4 hW4 ⊢
  generalize S3.length = A at hP4 hS3 ⊢
  simp only [↓reduceIte,↓ZP,↓W_K,↓trc,↓Zbi,↓Zbs,↓Zgg,ZQ,Zhu,Zhz,Zia,Zic,okEq,okCmp,okIn,D.fits,D.fitsL,D.dep,D.depL,D.eqv,D.eqvL,D.alike,D.alikeL,Nat.reduceAdd,Nat.reduceSub,c02,Zkf,Zkg,Zki,Nat.reduceEqDiff,Nat.reduceLeDiff,Int.reduceAdd,Int.reduceSub,Int.reduceMul,Int.reduceNeg,Int.reducePow,Int.reduceLT,Int.reduceLE,Int.reduceEq,Int.reduceToNat,qn1,qn2,qn3,qn4,qn5,qk1,qk5,lq1,lq2,lq3,lq4,lq5,at0,at1,at2,at3,at4,at5,Znb,uq1,uq2,uq3,uq4,oq1,oq2,oq3,oq4,tq1,tq2,tq3,tq4,tq5,sl0,slS,lk0,Znh,Zni,Znj,Znk,Znl,Znm,Znn,Zno,Znp,Znv,Zny,Zof,Zog,reduceCtorEq,Zok]
  refine ⟨by decide, ?_⟩
  refine WS_rloop (fun i σ S' => WellOk S' ∧ lstAt S' A = some pls ∧ ∃ (p4 p5 p6 p7 p8 p9 p10 : Option D), σ = [some (.rol (ns.map D.int)), some (.loc 1), some (FD fs), some (.loc A), p4, p5, p6, p7, p8, p9, p10]) ⟨hW4, hP4, _, _, _, _, _, _, _, rfl⟩ ?_ ?_
  · rintro j σ S5 j0 j1 ⟨hW5, hP5, p4, p5, p6, p7, p8, p9, p10, rfl⟩
    simp only [↓reduceIte,↓ZP,↓W_K,↓trc,↓Zbs,↓Zgg,ZQ,Zhu,Zhz,Zia,Zic,okEq,okCmp,okIn,D.fits,D.fitsL,D.dep,D.depL,D.eqv,D.eqvL,D.alike,D.alikeL,Nat.reduceAdd,Nat.reduceSub,c02,Zkf,Zkg,Zki,Nat.reduceEqDiff,Nat.reduceLeDiff,Int.reduceAdd,Int.reduceSub,Int.reduceMul,Int.reduceNeg,Int.reducePow,Int.reduceLT,Int.reduceLE,Int.reduceEq,Int.reduceToNat,qn1,qn2,qn3,qn4,qn5,qk1,qk5,lq1,lq2,lq3,lq4,lq5,at0,at1,at2,at3,at4,at5,Znb,uq1,uq2,uq3,uq4,oq1,oq2,oq3,oq4,tq1,tq2,tq3,tq4,tq5,sl0,slS,lk0,Znh,Zni,Znj,Znk,Znl,Znm,Znn,Zno,Znp,Znv,Zny,Zof,Zog,reduceCtorEq,Zok]
    rw [WS_seq]
    simp only [↓reduceIte,↓ZP,↓W_K,↓trc,↓Zbs,↓Zgg,ZQ,Zhu,Zhz,Zia,Zic,okEq,okCmp,okIn,D.fits,D.fitsL,D.dep,D.depL,D.eqv,D.eqvL,D.alike,D.alikeL,Nat.reduceAdd,Nat.reduceSub,c02,Zkf,Zkg,Zki,Nat.reduceEqDiff,Nat.reduceLeDiff,Int.reduceAdd,Int.reduceSub,Int.reduceMul,Int.reduceNeg,Int.reducePow,Int.reduceLT,Int.reduceLE,Int.reduceEq,Int.reduceToNat,qn1,qn2,qn3,qn4,qn5,qk1,qk5,lq1,lq2,lq3,lq4,lq5,at0,at1,at2,at3,at4,at5,Znb,uq1,uq2,uq3,uq4,oq1,oq2,oq3,oq4,tq1,tq2,tq3,tq4,tq5,sl0,slS,lk0,Znh,Zni,Znj,Znk,Znl,Znm,Znn,Zno,Znp,Znv,Zny,Zof,Zog,reduceCtorEq,Zok, hP5]
    refine dip_w hW5 (by omega) fun k S6 k0 k1 hW6 F6 => ?_
    have hP6 := F6.lst hS3 hP5
    simp only [↓reduceIte,↓ZP,↓W_K,↓trc,↓Zbs,↓Zgg,ZQ,Zhu,Zhz,Zia,Zic,okEq,okCmp,okIn,D.fits,D.fitsL,D.dep,D.depL,D.eqv,D.eqvL,D.alike,D.alikeL,Nat.reduceAdd,Nat.reduceSub,c02,Zkf,Zkg,Zki,Nat.reduceEqDiff,Nat.reduceLeDiff,Int.reduceAdd,Int.reduceSub,Int.reduceMul,Int.reduceNeg,Int.reducePow,Int.reduceLT,Int.reduceLE,Int.reduceEq,Int.reduceToNat,qn1,qn2,qn3,qn4,qn5,qk1,qk5,lq1,lq2,lq3,lq4,lq5,at0,at1,at2,at3,at4,at5,Znb,uq1,uq2,uq3,uq4,oq1,oq2,oq3,oq4,tq1,tq2,tq3,tq4,tq5,sl0,slS,lk0,Znh,Zni,Znj,Znk,Znl,Znm,Znn,Zno,Znp,Znv,Zny,Zof,Zog,reduceCtorEq,Zok, hP6]
    refine WM_at k0 (by omega) fun y hy => ?_
    obtain ⟨i, rfl, i0, i1, hlt⟩ := hpl y hy
    have hat := fit_at (fs := fs) i0 i1
    have hget : fs[i.toNat]? = some (fs.getD i.toNat fd0) := by
      rw [List.getD_eq_getElem?_getD, List.getElem?_eq_getElem (by omega)]; rfl
    have hfo := hfs.ok _ (List.mem_of_getElem? hget)
    generalize fs.getD i.toNat fd0 = f at hat hget hfo hlt
    simp only [↓reduceIte,↓ZP,↓W_K,↓trc,↓Zbs,↓Zgg,ZQ,Zhu,Zhz,Zia,Zic,okEq,okCmp,okIn,D.fits,D.fitsL,D.dep,D.depL,D.eqv,D.eqvL,D.alike,D.alikeL,Nat.reduceAdd,Nat.reduceSub,c02,Zkf,Zkg,Zki,Nat.reduceEqDiff,Nat.reduceLeDiff,Int.reduceAdd,Int.reduceSub,Int.reduceMul,Int.reduceNeg,Int.reducePow,Int.reduceLT,Int.reduceLE,Int.reduceEq,Int.reduceToNat,qn1,qn2,qn3,qn4,qn5,qk1,qk5,lq1,lq2,lq3,lq4,lq5,at0,at1,at2,at3,at4,at5,Znb,uq1,uq2,uq3,uq4,oq1,oq2,oq3,oq4,tq1,tq2,tq3,tq4,tq5,sl0,slS,lk0,Znh,Zni,Znj,Znk,Znl,Znm,Znn,Zno,Znp,Znv,Zny,Zof,Zog,reduceCtorEq,Zok]
    rw [WS_seq]
    simp only [↓reduceIte,↓ZP,↓W_K,↓trc,↓Zbs,↓Zgg,ZQ,Zhu,Zhz,Zia,Zic,okEq,okCmp,okIn,D.fits,D.fitsL,D.dep,D.depL,D.eqv,D.eqvL,D.alike,D.alikeL,Nat.reduceAdd,Nat.reduceSub,c02,Zkf,Zkg,Zki,Nat.reduceEqDiff,Nat.reduceLeDiff,Int.reduceAdd,Int.reduceSub,Int.reduceMul,Int.reduceNeg,Int.reducePow,Int.reduceLT,Int.reduceLE,Int.reduceEq,Int.reduceToNat,qn1,qn2,qn3,qn4,qn5,qk1,qk5,lq1,lq2,lq3,lq4,lq5,at0,at1,at2,at3,at4,at5,Znb,uq1,uq2,uq3,uq4,oq1,oq2,oq3,oq4,tq1,tq2,tq3,tq4,tq5,sl0,slS,lk0,Znh,Zni,Znj,Znk,Znl,Znm,Znn,Zno,Znp,Znv,Zny,Zof,Zog,reduceCtorEq,Zok]
    refine dip_w hW6 (by omega) fun w2 S7 w0 w1 hW7 F7 => ?_
    have hP7 := F7.lst hS3 hP6
    simp only [↓reduceIte,↓ZP,↓W_K,↓trc,↓Zbs,↓Zgg,ZQ,Zhu,Zhz,Zia,Zic,okEq,okCmp,okIn,D.fits,D.fitsL,D.dep,D.depL,D.eqv,D.eqvL,D.alike,D.alikeL,Nat.reduceAdd,Nat.reduceSub,c02,Zkf,Zkg,Zki,Nat.reduceEqDiff,Nat.reduceLeDiff,Int.reduceAdd,Int.reduceSub,Int.reduceMul,Int.reduceNeg,Int.reducePow,Int.reduceLT,Int.reduceLE,Int.reduceEq,Int.reduceToNat,qn1,qn2,qn3,qn4,qn5,qk1,qk5,lq1,lq2,lq3,lq4,lq5,at0,at1,at2,at3,at4,at5,Znb,uq1,uq2,uq3,uq4,oq1,oq2,oq3,oq4,tq1,tq2,tq3,tq4,tq5,sl0,slS,lk0,Znh,Zni,Znj,Znk,Znl,Znm,Znn,Zno,Znp,Znv,Zny,Zof,Zog,reduceCtorEq,Zok]
    refine ⟨mul1 (by omega), ?_⟩
    obtain ⟨w, sg, hwe, hw⟩ : ∃ (w : Int) (sg : Str), w = 1 - 2 * w2 ∧ (w = 1 ∧ sg = Str.ofString ">=" ∨ w = -1 ∧ sg = Str.ofString "<=") := by
      have : w2 = 0 ∨ w2 = 1 := by omega
      rcases this with rfl | rfl
      · exact ⟨1, _, rfl, .inl ⟨rfl, rfl⟩⟩
      · exact ⟨-1, _, rfl, .inr ⟨rfl, rfl⟩⟩
    rw [← hwe]
    have hww : w = 1 ∨ w = -1 := hw.elim (fun h => .inl h.1) (fun h => .inr h.1)
    rw [WS_seq]
    simp only [↓reduceIte,↓ZP,↓W_K,↓trc,↓Zbs,↓Zgg,ZQ,Zhu,Zhz,Zia,Zic,okEq,okCmp,okIn,D.fits,D.fitsL,D.dep,D.depL,D.eqv,D.eqvL,D.alike,D.alikeL,Nat.reduceAdd,Nat.reduceSub,c02,Zkf,Zkg,Zki,Nat.reduceEqDiff,Nat.reduceLeDiff,Int.reduceAdd,Int.reduceSub,Int.reduceMul,Int.reduceNeg,Int.reducePow,Int.reduceLT,Int.reduceLE,Int.reduceEq,Int.reduceToNat,qn1,qn2,qn3,qn4,qn5,qk1,qk5,lq1,lq2,lq3,lq4,lq5,at0,at1,at2,at3,at4,at5,Znb,uq1,uq2,uq3,uq4,oq1,oq2,oq3,oq4,tq1,tq2,tq3,tq4,tq5,sl0,slS,lk0,Znh,Zni,Znj,Znk,Znl,Znm,Znn,Zno,Znp,Znv,Zny,Zof,Zog,reduceCtorEq,Zok, ixFD, hat]
    refine answers_w hfo hlt hww fun as han hal haa => ?_
    have hS7 := hW7.len
    have hP8 := lstAt_app (T := [Cell.lst as]) hP7
    have hW8 := hW7.app [Cell.lst as]
    have hA8 := lstAt_new (S := S7) (c := as)
    generalize S7 ++ [Cell.lst as] = S8 at hP8 hW8 hA8 ⊢
    generalize S7.length = B at hA8 hS7 ⊢
    simp only [↓reduceIte,↓ZP,↓W_K,↓trc,↓Zbs,↓Zgg,ZQ,Zhu,Zhz,Zia,Zic,okEq,okCmp,okIn,D.fits,D.fitsL,D.dep,D.depL,D.eqv,D.eqvL,D.alike,D.alikeL,Nat.reduceAdd,Nat.reduceSub,c02,Zkf,Zkg,Zki,Nat.reduceEqDiff,Nat.reduceLeDiff,Int.reduceAdd,Int.reduceSub,Int.reduceMul,Int.reduceNeg,Int.reducePow,Int.reduceLT,Int.reduceLE,Int.reduceEq,Int.reduceToNat,qn1,qn2,qn3,qn4,qn5,qk1,qk5,lq1,lq2,lq3,lq4,lq5,at0,at1,at2,at3,at4,at5,Znb,uq1,uq2,uq3,uq4,oq1,oq2,oq3,oq4,tq1,tq2,tq3,tq4,tq5,sl0,slS,lk0,Znh,Zni,Znj,Znk,Znl,Znm,Znn,Zno,Znp,Znv,Zny,Zof,Zog,reduceCtorEq,Zok]
    rw [WS_seq]
    simp only [↓reduceIte,↓ZP,↓W_K,↓trc,↓Zbs,↓Zgg,ZQ,Zhu,Zhz,Zia,Zic,okEq,okCmp,okIn,D.fits,D.fitsL,D.dep,D.depL,D.eqv,D.eqvL,D.alike,D.alikeL,Nat.reduceAdd,Nat.reduceSub,c02,Zkf,Zkg,Zki,Nat.reduceEqDiff,Nat.reduceLeDiff,Int.reduceAdd,Int.reduceSub,Int.reduceMul,Int.reduceNeg,Int.reducePow,Int.reduceLT,Int.reduceLE,Int.reduceEq,Int.reduceToNat,qn1,qn2,qn3,qn4,qn5,qk1,qk5,lq1,lq2,lq3,lq4,lq5,at0,at1,at2,at3,at4,at5,Znb,uq1,uq2,uq3,uq4,oq1,oq2,oq3,oq4,tq1,tq2,tq3,tq4,tq5,sl0,slS,lk0,Znh,Zni,Znj,Znk,Znl,Znm,Znn,Zno,Znp,Znv,Zny,Zof,Zog,reduceCtorEq,Zok, hA8]
    refine dip_w hW8 (by omega) fun k2 S9 l0 l1 hW9 F9 => ?_
    have hP9 := F9.lst hS3 hP8
    have hA9 := F9.lst hS7 hA8
    simp only [↓reduceIte,↓ZP,↓W_K,↓trc,↓Zbs,↓Zgg,ZQ,Zhu,Zhz,Zia,Zic,okEq,okCmp,okIn,D.fits,D.fitsL,D.dep,D.depL,D.eqv,D.eqvL,D.alike,D.alikeL,Nat.reduceAdd,Nat.reduceSub,c02,Zkf,Zkg,Zki,Nat.reduceEqDiff,Nat.reduceLeDiff,Int.reduceAdd,Int.reduceSub,Int.reduceMul,Int.reduceNeg,Int.reducePow,Int.reduceLT,Int.reduceLE,Int.reduceEq,Int.reduceToNat,qn1,qn2,qn3,qn4,qn5,qk1,qk5,lq1,lq2,lq3,lq4,lq5,at0,at1,at2,at3,at4,at5,Znb,uq1,uq2,uq3,uq4,oq1,oq2,oq3,oq4,tq1,tq2,tq3,tq4,tq5,sl0,slS,lk0,Znh,Zni,Znj,Znk,Znl,Znm,Znn,Zno,Znp,Znv,Zny,Zof,Zog,reduceCtorEq,Zok, hA9]
    refine WM_at l0 (by have := List.length_pos_iff.mpr han; omega) fun y hy => ?_
    obtain ⟨n, rfl, hfit, n0, n1⟩ := haa y hy
    have lo1 := hfo.low
    have hi1 := hfo.high
    have hn : -10000000 < n := by omega
    have hn2 : n < 10000000 := by omega
    simp only [↓reduceIte,↓ZP,↓W_K,↓trc,↓Zbs,↓Zgg,ZQ,Zhu,Zhz,Zia,Zic,okEq,okCmp,okIn,D.fits,D.fitsL,D.dep,D.depL,D.eqv,D.eqvL,D.alike,D.alikeL,Nat.reduceAdd,Nat.reduceSub,c02,Zkf,Zkg,Zki,Nat.reduceEqDiff,Nat.reduceLeDiff,Int.reduceAdd,Int.reduceSub,Int.reduceMul,Int.reduceNeg,Int.reducePow,Int.reduceLT,Int.reduceLE,Int.reduceEq,Int.reduceToNat,qn1,qn2,qn3,qn4,qn5,qk1,qk5,lq1,lq2,lq3,lq4,lq5,at0,at1,at2,at3,at4,at5,Znb,uq1,uq2,uq3,uq4,oq1,oq2,oq3,oq4,tq1,tq2,tq3,tq4,tq5,sl0,slS,lk0,Znh,Zni,Znj,Znk,Znl,Znm,Znn,Zno,Znp,Znv,Zny,Zof,Zog,reduceCtorEq,Zok]
    rw [WS_seq]
    have hsg : atI [D.str (Str.ofString "<="), D.str (Str.ofString ""), D.str (Str.ofString ">=")] (w + 1) = some (.str sg) := by
      rcases hw with ⟨rfl, rfl⟩ | ⟨rfl, rfl⟩ <;> rfl
    have zsg : sg.length = 2 := by rcases hw with ⟨_, rfl⟩ | ⟨_, rfl⟩ <;> decide
    have znm := hfo.nm.len.2
    have znu := (strI_ok hn hn2).2.1
    unfold strI at znu
    simp only [↓reduceIte,↓ZP,↓W_K,↓trc,↓Zbs,↓Zgg,ZQ,Zhu,Zhz,Zia,Zic,okEq,okCmp,okIn,D.fits,D.fitsL,D.dep,D.depL,D.eqv,D.eqvL,D.alike,D.alikeL,Nat.reduceAdd,Nat.reduceSub,c02,Zkf,Zkg,Zki,Nat.reduceEqDiff,Nat.reduceLeDiff,Int.reduceAdd,Int.reduceSub,Int.reduceMul,Int.reduceNeg,Int.reducePow,Int.reduceLT,Int.reduceLE,Int.reduceEq,Int.reduceToNat,qn1,qn2,qn3,qn4,qn5,qk1,qk5,lq1,lq2,lq3,lq4,lq5,at0,at1,at2,at3,at4,at5,Znb,uq1,uq2,uq3,uq4,oq1,oq2,oq3,oq4,tq1,tq2,tq3,tq4,tq5,sl0,slS,lk0,Znh,Zni,Znj,Znk,Znl,Znm,Znn,Zno,Znp,Znv,Zny,Zof,Zog,reduceCtorEq,Zok, ixFD, hat, fd_eq, lstAt_new, hsg]
    refine ⟨by rw [sizeLine_eq]; omega, str_bits hn hn2, by rw [len_app, sizeLine_eq]; omega, ?_⟩
    have hT : PyData.strOk (f.n ++ sg ++ Str.ofString (toString n)) = true := ok_app (ok_app hfo.nm.st (by rcases hw with ⟨_, rfl⟩ | ⟨_, rfl⟩ <;> exact ofS_ok _)) (strI_st hn hn2)
    have hTl : (f.n ++ sg ++ Str.ofString (toString n)).length ≤ 1000 := by rw [len_app, len_app]; omega
    have hback : rdV fs (f.n ++ sg ++ Str.ofString (toString n)) = .inl (i, w, n) := by
      have := rd_back (w := w) (sg := sg) hfs hget hw hn hn2 hfit
      rw [Int.toNat_of_nonneg i0] at this
      exact this
    have hP10 := lstAt_app (T := [Cell.lst [D.str (Str.ofString "<="), D.str (Str.ofString ""), D.str (Str.ofString ">=")]]) hP9
    have hW10 := hW9.app [Cell.lst [D.str (Str.ofString "<="), D.str (Str.ofString ""), D.str (Str.ofString ">=")]]
    generalize S9 ++ [Cell.lst [D.str (Str.ofString "<="), D.str (Str.ofString ""), D.str (Str.ofString ">=")]] = S10 at hP10 hW10 ⊢
    rw [WS_seq]
    simp only [↓reduceIte,↓ZP,↓W_K,↓trc,↓Zbs,↓Zgg,ZQ,Zhu,Zhz,Zia,Zic,okEq,okCmp,okIn,D.fits,D.fitsL,D.dep,D.depL,D.eqv,D.eqvL,D.alike,D.alikeL,Nat.reduceAdd,Nat.reduceSub,c02,Zkf,Zkg,Zki,Nat.reduceEqDiff,Nat.reduceLeDiff,Int.reduceAdd,Int.reduceSub,Int.reduceMul,Int.reduceNeg,Int.reducePow,Int.reduceLT,Int.reduceLE,Int.reduceEq,Int.reduceToNat,qn1,qn2,qn3,qn4,qn5,qk1,qk5,lq1,lq2,lq3,lq4,lq5,at0,at1,at2,at3,at4,at5,Znb,uq1,uq2,uq3,uq4,oq1,oq2,oq3,oq4,tq1,tq2,tq3,tq4,tq5,sl0,slS,lk0,Znh,Zni,Znj,Znk,Znl,Znm,Znn,Zno,Znp,Znv,Zny,Zof,Zog,reduceCtorEq,Zok]
    refine text_w (f := f) (sg := sg) hat hw hfo hn hn2 ?_
    simp only [↓reduceIte,↓ZP,↓W_K,↓trc,↓Zbs,↓Zgg,ZQ,Zhu,Zhz,Zia,Zic,okEq,okCmp,okIn,D.fits,D.fitsL,D.dep,D.depL,D.eqv,D.eqvL,D.alike,D.alikeL,Nat.reduceAdd,Nat.reduceSub,c02,Zkf,Zkg,Zki,Nat.reduceEqDiff,Nat.reduceLeDiff,Int.reduceAdd,Int.reduceSub,Int.reduceMul,Int.reduceNeg,Int.reducePow,Int.reduceLT,Int.reduceLE,Int.reduceEq,Int.reduceToNat,qn1,qn2,qn3,qn4,qn5,qk1,qk5,lq1,lq2,lq3,lq4,lq5,at0,at1,at2,at3,at4,at5,Znb,uq1,uq2,uq3,uq4,oq1,oq2,oq3,oq4,tq1,tq2,tq3,tq4,tq5,sl0,slS,lk0,Znh,Zni,Znj,Znk,Znl,Znm,Znn,Zno,Znp,Znv,Zny,Zof,Zog,reduceCtorEq,Zok]
    refine same_t (d := .str (f.n ++ sg ++ Str.ofString (toString n))) str1.1 str1.2 ?_
    simp only [↓reduceIte,↓ZP,↓W_K,↓trc,↓Zbs,↓Zgg,ZQ,Zhu,Zhz,Zia,Zic,okEq,okCmp,okIn,D.fits,D.fitsL,D.dep,D.depL,D.eqv,D.eqvL,D.alike,D.alikeL,Nat.reduceAdd,Nat.reduceSub,c02,Zkf,Zkg,Zki,Nat.reduceEqDiff,Nat.reduceLeDiff,Int.reduceAdd,Int.reduceSub,Int.reduceMul,Int.reduceNeg,Int.reducePow,Int.reduceLT,Int.reduceLE,Int.reduceEq,Int.reduceToNat,qn1,qn2,qn3,qn4,qn5,qk1,qk5,lq1,lq2,lq3,lq4,lq5,at0,at1,at2,at3,at4,at5,Znb,uq1,uq2,uq3,uq4,oq1,oq2,oq3,oq4,tq1,tq2,tq3,tq4,tq5,sl0,slS,lk0,Znh,Zni,Znj,Znk,Znl,Znm,Znn,Zno,Znp,Znv,Zny,Zof,Zog,reduceCtorEq,Zok]
    refine read_w hTl hnm (by omega) hT (fun s3 e S11 F11 => ?_) (fun e' e S11 F11 => ?_)
    · rw [hback] at e
      cases e
      simp only [↓reduceIte,↓ZP,↓W_K,↓trc,↓Zbs,↓Zgg,ZQ,Zhu,Zhz,Zia,Zic,okEq,okCmp,okIn,D.fits,D.fitsL,D.dep,D.depL,D.eqv,D.eqvL,D.alike,D.alikeL,Nat.reduceAdd,Nat.reduceSub,c02,Zkf,Zkg,Zki,Nat.reduceEqDiff,Nat.reduceLeDiff,Int.reduceAdd,Int.reduceSub,Int.reduceMul,Int.reduceNeg,Int.reducePow,Int.reduceLT,Int.reduceLE,Int.reduceEq,Int.reduceToNat,qn1,qn2,qn3,qn4,qn5,qk1,qk5,lq1,lq2,lq3,lq4,lq5,at0,at1,at2,at3,at4,at5,Znb,uq1,uq2,uq3,uq4,oq1,oq2,oq3,oq4,tq1,tq2,tq3,tq4,tq5,sl0,slS,lk0,Znh,Zni,Znj,Znk,Znl,Znm,Znn,Zno,Znp,Znv,Zny,Zof,Zog,reduceCtorEq,Zok]
      refine same_t (d := sayD (i, w, n)) (by simp [sayD, D.dep, D.depL]) (by simp [sayD, D.pl, D.plL]) ?_
      simp only [↓reduceIte,↓ZP,↓W_K,↓trc,↓Zbs,↓Zgg,ZQ,Zhu,Zhz,Zia,Zic,okEq,okCmp,okIn,D.fits,D.fitsL,D.dep,D.depL,D.eqv,D.eqvL,D.alike,D.alikeL,Nat.reduceAdd,Nat.reduceSub,c02,Zkf,Zkg,Zki,Nat.reduceEqDiff,Nat.reduceLeDiff,Int.reduceAdd,Int.reduceSub,Int.reduceMul,Int.reduceNeg,Int.reducePow,Int.reduceLT,Int.reduceLE,Int.reduceEq,Int.reduceToNat,qn1,qn2,qn3,qn4,qn5,qk1,qk5,lq1,lq2,lq3,lq4,lq5,at0,at1,at2,at3,at4,at5,Znb,uq1,uq2,uq3,uq4,oq1,oq2,oq3,oq4,tq1,tq2,tq3,tq4,tq5,sl0,slS,lk0,Znh,Zni,Znj,Znk,Znl,Znm,Znn,Zno,Znp,Znv,Zny,Zof,Zog,reduceCtorEq,Zok]
      have hP11 := lstAt_mono hP10 F11
      have hW11 := well_fk hW10 F11
      rw [WS_seq]
      simp only [↓reduceIte,↓ZP,↓W_K,↓trc,↓Zbs,↓Zgg,ZQ,Zhu,Zhz,Zia,Zic,okEq,okCmp,okIn,D.fits,D.fitsL,D.dep,D.depL,D.eqv,D.eqvL,D.alike,D.alikeL,Nat.reduceAdd,Nat.reduceSub,c02,Zkf,Zkg,Zki,Nat.reduceEqDiff,Nat.reduceLeDiff,Int.reduceAdd,Int.reduceSub,Int.reduceMul,Int.reduceNeg,Int.reducePow,Int.reduceLT,Int.reduceLE,Int.reduceEq,Int.reduceToNat,qn1,qn2,qn3,qn4,qn5,qk1,qk5,lq1,lq2,lq3,lq4,lq5,at0,at1,at2,at3,at4,at5,Znb,uq1,uq2,uq3,uq4,oq1,oq2,oq3,oq4,tq1,tq2,tq3,tq4,tq5,sl0,slS,lk0,Znh,Zni,Znj,Znk,Znl,Znm,Znn,Zno,Znp,Znv,Zny,Zof,Zog,reduceCtorEq,Zok]
      refine things_w (f := f) hW11.len i0 (by omega) hat hfo hn hn2 fun l ds S12 hl2 hL hdw F12 => ?_
      have hP12 := lstAt_mono hP11 F12
      have hW12 := well_fk hW11 F12
      simp only [↓reduceIte,↓ZP,↓W_K,↓trc,↓Zbs,↓Zgg,ZQ,Zhu,Zhz,Zia,Zic,okEq,okCmp,okIn,D.fits,D.fitsL,D.dep,D.depL,D.eqv,D.eqvL,D.alike,D.alikeL,Nat.reduceAdd,Nat.reduceSub,c02,Zkf,Zkg,Zki,Nat.reduceEqDiff,Nat.reduceLeDiff,Int.reduceAdd,Int.reduceSub,Int.reduceMul,Int.reduceNeg,Int.reducePow,Int.reduceLT,Int.reduceLE,Int.reduceEq,Int.reduceToNat,qn1,qn2,qn3,qn4,qn5,qk1,qk5,lq1,lq2,lq3,lq4,lq5,at0,at1,at2,at3,at4,at5,Znb,uq1,uq2,uq3,uq4,oq1,oq2,oq3,oq4,tq1,tq2,tq3,tq4,tq5,sl0,slS,lk0,Znh,Zni,Znj,Znk,Znl,Znm,Znn,Zno,Znp,Znv,Zny,Zof,Zog,reduceCtorEq,Zok, it_loc hL]
      refine WS_loop (fun ds' σ S' => S' = S12 ∧ (∀ y ∈ ds', y ∈ ds) ∧ ∃ p10, σ = [some (.rol (ns.map D.int)), some (.loc 1), some (FD fs), some (.loc A), some (.int j), some (.int i), some (.int w), some (.loc B), some (.tup [.int i, .int w, .int n]), some (.str (f.n ++ sg ++ Str.ofString (toString n))), p10]) ⟨rfl, fun _ h => h, _, rfl⟩ ?_ ?_
      · rintro d ds' σ S13 ⟨rfl, hd, q10, rfl⟩
        refine ⟨lstAt_iff.mp hL, ?_⟩
        simp only [↓reduceIte,↓ZP,↓W_K,↓trc,↓Zbi,↓Zbs,↓Zgg,ZQ,Zhu,Zhz,Zia,Zic,okEq,okCmp,okIn,D.fits,D.fitsL,D.dep,D.depL,D.eqv,D.eqvL,D.alike,D.alikeL,Nat.reduceAdd,Nat.reduceSub,c02,Zkf,Zkg,Zki,Nat.reduceEqDiff,Nat.reduceLeDiff,Int.reduceAdd,Int.reduceSub,Int.reduceMul,Int.reduceNeg,Int.reducePow,Int.reduceLT,Int.reduceLE,Int.reduceEq,Int.reduceToNat,qn1,qn2,qn3,qn4,qn5,qk1,qk5,lq1,lq2,lq3,lq4,lq5,at0,at1,at2,at3,at4,at5,Znb,uq1,uq2,uq3,uq4,oq1,oq2,oq3,oq4,tq1,tq2,tq3,tq4,tq5,sl0,slS,lk0,Znh,Zni,Znj,Znk,Znl,Znm,Znn,Zno,Znp,Znv,Zny,Zof,Zog,reduceCtorEq,Zok]
        refine checked_w (hdw d (hd d (by simp))) ?_
        simp only [↓reduceIte,↓ZP,↓W_K,↓trc,↓Zbi,↓Zbs,↓Zgg,ZQ,Zhu,Zhz,Zia,Zic,okEq,okCmp,okIn,D.fits,D.fitsL,D.dep,D.depL,D.eqv,D.eqvL,D.alike,D.alikeL,Nat.reduceAdd,Nat.reduceSub,c02,Zkf,Zkg,Zki,Nat.reduceEqDiff,Nat.reduceLeDiff,Int.reduceAdd,Int.reduceSub,Int.reduceMul,Int.reduceNeg,Int.reducePow,Int.reduceLT,Int.reduceLE,Int.reduceEq,Int.reduceToNat,qn1,qn2,qn3,qn4,qn5,qk1,qk5,lq1,lq2,lq3,lq4,lq5,at0,at1,at2,at3,at4,at5,Znb,uq1,uq2,uq3,uq4,oq1,oq2,oq3,oq4,tq1,tq2,tq3,tq4,tq5,sl0,slS,lk0,Znh,Zni,Znj,Znk,Znl,Znm,Znn,Zno,Znp,Znv,Zny,Zof,Zog,reduceCtorEq,Zok]
        exact ⟨fun y hy => hd y (List.mem_cons_of_mem _ hy), _, rfl⟩
      · rintro σ S13 ⟨rfl, hd, q10, rfl⟩
        refine ⟨lstAt_iff.mp hL, ?_⟩
        simp only [↓reduceIte,↓ZP,↓W_K,↓trc,↓Zbs,↓Zgg,ZQ,Zhu,Zhz,Zia,Zic,okEq,okCmp,okIn,D.fits,D.fitsL,D.dep,D.depL,D.eqv,D.eqvL,D.alike,D.alikeL,Nat.reduceAdd,Nat.reduceSub,c02,Zkf,Zkg,Zki,Nat.reduceEqDiff,Nat.reduceLeDiff,Int.reduceAdd,Int.reduceSub,Int.reduceMul,Int.reduceNeg,Int.reducePow,Int.reduceLT,Int.reduceLE,Int.reduceEq,Int.reduceToNat,qn1,qn2,qn3,qn4,qn5,qk1,qk5,lq1,lq2,lq3,lq4,lq5,at0,at1,at2,at3,at4,at5,Znb,uq1,uq2,uq3,uq4,oq1,oq2,oq3,oq4,tq1,tq2,tq3,tq4,tq5,sl0,slS,lk0,Znh,Zni,Znj,Znk,Znl,Znm,Znn,Zno,Znp,Znv,Zny,Zof,Zog,reduceCtorEq,Zok]
        refine texts_w (f := f) (sg := sg) hW12 hat hw hfo hn hn2 fun l2 ds2 S14 hl2 hL2 hd2 hW14 F14 => ?_
        have hP14 := F14.lst hS3 hP12
        simp only [↓reduceIte,↓ZP,↓W_K,↓trc,↓Zbs,↓Zgg,ZQ,Zhu,Zhz,Zia,Zic,okEq,okCmp,okIn,D.fits,D.fitsL,D.dep,D.depL,D.eqv,D.eqvL,D.alike,D.alikeL,Nat.reduceAdd,Nat.reduceSub,c02,Zkf,Zkg,Zki,Nat.reduceEqDiff,Nat.reduceLeDiff,Int.reduceAdd,Int.reduceSub,Int.reduceMul,Int.reduceNeg,Int.reducePow,Int.reduceLT,Int.reduceLE,Int.reduceEq,Int.reduceToNat,qn1,qn2,qn3,qn4,qn5,qk1,qk5,lq1,lq2,lq3,lq4,lq5,at0,at1,at2,at3,at4,at5,Znb,uq1,uq2,uq3,uq4,oq1,oq2,oq3,oq4,tq1,tq2,tq3,tq4,tq5,sl0,slS,lk0,Znh,Zni,Znj,Znk,Znl,Znm,Znn,Zno,Znp,Znv,Zny,Zof,Zog,reduceCtorEq,Zok, it_loc hL2]
        refine WS_loop (fun ds' σ S' => WellOk S' ∧ lstAt S' A = some pls ∧ lstAt S' l2 = some ds2 ∧ (∀ y ∈ ds', y ∈ ds2) ∧ ∃ p9 p10, σ = [some (.rol (ns.map D.int)), some (.loc 1), some (FD fs), some (.loc A), some (.int j), some (.int i), some (.int w), some (.loc B), some (.tup [.int i, .int w, .int n]), p9, p10]) ⟨hW14, hP14, hL2, fun _ h => h, _, _, rfl⟩ ?_ ?_
        · rintro d ds' σ S15 ⟨hW15, hP15, hL15, hd, q9, q10, rfl⟩
          refine ⟨lstAt_iff.mp hL15, ?_⟩
          obtain ⟨z, rfl, hz, ho⟩ := hd2 d (hd d (by simp))
          simp only [↓reduceIte,↓ZP,↓W_K,↓trc,↓Zbi,↓Zbs,↓Zgg,ZQ,Zhu,Zhz,Zia,Zic,okEq,okCmp,okIn,D.fits,D.fitsL,D.dep,D.depL,D.eqv,D.eqvL,D.alike,D.alikeL,Nat.reduceAdd,Nat.reduceSub,c02,Zkf,Zkg,Zki,Nat.reduceEqDiff,Nat.reduceLeDiff,Int.reduceAdd,Int.reduceSub,Int.reduceMul,Int.reduceNeg,Int.reducePow,Int.reduceLT,Int.reduceLE,Int.reduceEq,Int.reduceToNat,qn1,qn2,qn3,qn4,qn5,qk1,qk5,lq1,lq2,lq3,lq4,lq5,at0,at1,at2,at3,at4,at5,Znb,uq1,uq2,uq3,uq4,oq1,oq2,oq3,oq4,tq1,tq2,tq3,tq4,tq5,sl0,slS,lk0,Znh,Zni,Znj,Znk,Znl,Znm,Znn,Zno,Znp,Znv,Zny,Zof,Zog,reduceCtorEq,Zok]
          refine lread_w (by omega) hnm (by omega) ho fun S16 F16 => ?_
          simp only [↓reduceIte,↓ZP,↓W_K,↓trc,↓Zbi,↓Zbs,↓Zgg,ZQ,Zhu,Zhz,Zia,Zic,okEq,okCmp,okIn,D.fits,D.fitsL,D.dep,D.depL,D.eqv,D.eqvL,D.alike,D.alikeL,Nat.reduceAdd,Nat.reduceSub,c02,Zkf,Zkg,Zki,Nat.reduceEqDiff,Nat.reduceLeDiff,Int.reduceAdd,Int.reduceSub,Int.reduceMul,Int.reduceNeg,Int.reducePow,Int.reduceLT,Int.reduceLE,Int.reduceEq,Int.reduceToNat,qn1,qn2,qn3,qn4,qn5,qk1,qk5,lq1,lq2,lq3,lq4,lq5,at0,at1,at2,at3,at4,at5,Znb,uq1,uq2,uq3,uq4,oq1,oq2,oq3,oq4,tq1,tq2,tq3,tq4,tq5,sl0,slS,lk0,Znh,Zni,Znj,Znk,Znl,Znm,Znn,Zno,Znp,Znv,Zny,Zof,Zog,reduceCtorEq,Zok]
          exact ⟨well_fk hW15 F16, lstAt_mono hP15 F16, lstAt_mono hL15 F16, fun y hy => hd y (List.mem_cons_of_mem _ hy), _, _, rfl⟩
        · rintro σ S15 ⟨hW15, hP15, hL15, hd, q9, q10, rfl⟩
          refine ⟨lstAt_iff.mp hL15, ?_⟩
          simp only [↓reduceIte,↓ZP,↓W_K,↓trc,↓Zbi,↓Zbs,↓Zgg,ZQ,Zhu,Zhz,Zia,Zic,okEq,okCmp,okIn,D.fits,D.fitsL,D.dep,D.depL,D.eqv,D.eqvL,D.alike,D.alikeL,Nat.reduceAdd,Nat.reduceSub,c02,Zkf,Zkg,Zki,Nat.reduceEqDiff,Nat.reduceLeDiff,Int.reduceAdd,Int.reduceSub,Int.reduceMul,Int.reduceNeg,Int.reducePow,Int.reduceLT,Int.reduceLE,Int.reduceEq,Int.reduceToNat,qn1,qn2,qn3,qn4,qn5,qk1,qk5,lq1,lq2,lq3,lq4,lq5,at0,at1,at2,at3,at4,at5,Znb,uq1,uq2,uq3,uq4,oq1,oq2,oq3,oq4,tq1,tq2,tq3,tq4,tq5,sl0,slS,lk0,Znh,Zni,Znj,Znk,Znl,Znm,Znn,Zno,Znp,Znv,Zny,Zof,Zog,reduceCtorEq,Zok]
          exact ⟨hW15, hP15, _, _, _, _, _, _, _, rfl⟩
    · rw [hback] at e; cases e
  · rintro σ S5 ⟨hW5, hP5, p4, p5, p6, p7, p8, p9, p10, rfl⟩
    simp only [↓reduceIte,↓ZP,↓W_K,↓trc,↓Zbi,↓Zbs,↓Zgg,ZQ,Zhu,Zhz,Zia,Zic,okEq,okCmp,okIn,D.fits,D.fitsL,D.dep,D.depL,D.eqv,D.eqvL,D.alike,D.alikeL,Nat.reduceAdd,Nat.reduceSub,c02,Zkf,Zkg,Zki,Nat.reduceEqDiff,Nat.reduceLeDiff,Int.reduceAdd,Int.reduceSub,Int.reduceMul,Int.reduceNeg,Int.reducePow,Int.reduceLT,Int.reduceLE,Int.reduceEq,Int.reduceToNat,qn1,qn2,qn3,qn4,qn5,qk1,qk5,lq1,lq2,lq3,lq4,lq5,at0,at1,at2,at3,at4,at5,Znb,uq1,uq2,uq3,uq4,oq1,oq2,oq3,oq4,tq1,tq2,tq3,tq4,tq5,sl0,slS,lk0,Znh,Zni,Znj,Znk,Znl,Znm,Znn,Zno,Znp,Znv,Zny,Zof,Zog,reduceCtorEq,Zok]
theorem law_true : ∀ ns : List Int, ns.length ≤ 63 → (∀ z ∈ ns, Builtin.Int.intBits z ≤ 1048576) → ∃ S', m_law [.rol (ns.map D.int)] [] = .ok (.bl true) S' := by
  intro ns hl _
  obtain ⟨a, S, e, rfl⟩ := W_ex (law_w ns hl)
  exact ⟨S, e⟩
end
end LW

namespace LW
open PySem PySem.Spec PyProof.Rows L2 DL
def topS (i : Nat) : Stmt := PySem.Challenge.pw_halffilled_k04_saying_texts.main.body.getD i (.Pass ⟨0, 0, 0, 0⟩)
abbrev s_is_integer : Stmt := topS 9
abbrev s_tuple_of : Stmt := topS 10
abbrev s_written_integer : Stmt := topS 12
abbrev s_fits_field : Stmt := topS 15
abbrev s_saying_text : Stmt := topS 18
abbrev s_way_in : Stmt := topS 19
abbrev s__law_well : Stmt := topS 23
abbrev s__law_dip : Stmt := topS 24
abbrev s__law_is_integer : Stmt := topS 28
abbrev s__law_answers : Stmt := topS 29
abbrev s__law_written : Stmt := topS 32
abbrev s__law_found : Stmt := topS 33
abbrev s__law_things : Stmt := topS 37
abbrev s_saying_fault : Stmt := topS 16
abbrev s_saying_from : Stmt := topS 20
abbrev s__law_turned : Stmt := topS 25
abbrev s__law_name : Stmt := topS 27
abbrev s__law_word : Stmt := topS 30
abbrev s__law_texts : Stmt := topS 38
abbrev s_check_saying : Stmt := topS 17
abbrev s_read_saying : Stmt := topS 21
abbrev s__law_read_due : Stmt := topS 34
abbrev s__law_near : Stmt := topS 36
abbrev s__law_same : Stmt := topS 26
abbrev s__law_checked : Stmt := topS 31
abbrev s__law_read : Stmt := topS 35
abbrev s_law : Stmt := topS 39
structure Top (P : Program) (w : World) (K : PySem.W.Frag) (mg : Str → Option Value) : Prop where
  f_is_integer : ∃ f fd, mg "is_integer" = some (.ref f) ∧ Fun K "is_integer" "is_integer" s_is_integer f fd
  f_tuple_of : ∃ f fd, mg "tuple_of" = some (.ref f) ∧ Fun K "tuple_of" "tuple_of" s_tuple_of f fd
  f_written_integer : ∃ f fd, mg "written_integer" = some (.ref f) ∧ Fun K "written_integer" "written_integer" s_written_integer f fd
  f_fits_field : ∃ f fd, mg "fits_field" = some (.ref f) ∧ Fun K "fits_field" "fits_field" s_fits_field f fd
  f_saying_text : ∃ f fd, mg "saying_text" = some (.ref f) ∧ Fun K "saying_text" "saying_text" s_saying_text f fd
  f_way_in : ∃ f fd, mg "way_in" = some (.ref f) ∧ Fun K "way_in" "way_in" s_way_in f fd
  f__law_well : ∃ f fd, mg "_law_well" = some (.ref f) ∧ Fun K "_law_well" "_law_well" s__law_well f fd
  f__law_dip : ∃ f fd, mg "_law_dip" = some (.ref f) ∧ Fun K "_law_dip" "_law_dip" s__law_dip f fd
  f__law_is_integer : ∃ f fd, mg "_law_is_integer" = some (.ref f) ∧ Fun K "_law_is_integer" "_law_is_integer" s__law_is_integer f fd
  f__law_answers : ∃ f fd, mg "_law_answers" = some (.ref f) ∧ Fun K "_law_answers" "_law_answers" s__law_answers f fd
  f__law_written : ∃ f fd, mg "_law_written" = some (.ref f) ∧ Fun K "_law_written" "_law_written" s__law_written f fd
  f__law_found : ∃ f fd, mg "_law_found" = some (.ref f) ∧ Fun K "_law_found" "_law_found" s__law_found f fd
  f__law_things : ∃ f fd, mg "_law_things" = some (.ref f) ∧ Fun K "_law_things" "_law_things" s__law_things f fd
  f_saying_fault : ∃ f fd, mg "saying_fault" = some (.ref f) ∧ Fun K "saying_fault" "saying_fault" s_saying_fault f fd
  f_saying_from : ∃ f fd, mg "saying_from" = some (.ref f) ∧ Fun K "saying_from" "saying_from" s_saying_from f fd
  f__law_turned : ∃ f fd, mg "_law_turned" = some (.ref f) ∧ Fun K "_law_turned" "_law_turned" s__law_turned f fd
  f__law_name : ∃ f fd, mg "_law_name" = some (.ref f) ∧ Fun K "_law_name" "_law_name" s__law_name f fd
  f__law_word : ∃ f fd, mg "_law_word" = some (.ref f) ∧ Fun K "_law_word" "_law_word" s__law_word f fd
  f__law_texts : ∃ f fd, mg "_law_texts" = some (.ref f) ∧ Fun K "_law_texts" "_law_texts" s__law_texts f fd
  f_check_saying : ∃ f fd, mg "check_saying" = some (.ref f) ∧ Fun K "check_saying" "check_saying" s_check_saying f fd
  f_read_saying : ∃ f fd, mg "read_saying" = some (.ref f) ∧ Fun K "read_saying" "read_saying" s_read_saying f fd
  f__law_read_due : ∃ f fd, mg "_law_read_due" = some (.ref f) ∧ Fun K "_law_read_due" "_law_read_due" s__law_read_due f fd
  f__law_near : ∃ f fd, mg "_law_near" = some (.ref f) ∧ Fun K "_law_near" "_law_near" s__law_near f fd
  f__law_same : ∃ f fd, mg "_law_same" = some (.ref f) ∧ Fun K "_law_same" "_law_same" s__law_same f fd
  f__law_checked : ∃ f fd, mg "_law_checked" = some (.ref f) ∧ Fun K "_law_checked" "_law_checked" s__law_checked f fd
  f__law_read : ∃ f fd, mg "_law_read" = some (.ref f) ∧ Fun K "_law_read" "_law_read" s__law_read f fd
  f_law : ∃ f fd, mg "law" = some (.ref f) ∧ Fun K "law" "law" s_law f fd
  z_all : mg "all" = none
  z_bool : mg "bool" = none
  z_int : mg "int" = none
  z_isinstance : mg "isinstance" = none
  z_len : mg "len" = none
  z_list : mg "list" = none
  z_min : mg "min" = none
  z_range : mg "range" = none
  z_str : mg "str" = none
  z_tuple : mg "tuple" = none
  c_FIGURES : ∃ u, mg "FIGURES" = some u ∧ RelV (.str "0123456789") u
  c_WRITTEN_MOST : ∃ u, mg "WRITTEN_MOST" = some u ∧ RelV (.int (14)) u
  t_SIGNS : KTab K mg "SIGNS" [(1, ">="), (-1, "<=")]
  r_BadSaying : ∃ C, PySem.XcI.XTxt P w K mg "BadSaying" ["word"] C
  r_BadText : ∃ C, PySem.XcI.XTxt P w K mg "BadText" ["line", "word"] C
  x_BadSaying : XcT K mg "BadSaying" tab_BadSaying
  x_BadText : XcT K mg "BadText" tab_BadText
  x_DataError : XcT K mg "DataError" tab_DataError
  x_SheetError : XcT K mg "SheetError" tab_SheetError
  x_TextError : XcT K mg "TextError" tab_TextError
section
variable {P : Program} {w : World} {K : PySem.W.Frag} {mg : Str → Option Value} {base : Heap}
theorem sc_is_integer : FnScope ["thing"] ["thing"] (defScope s_is_integer) := ⟨rfl, rfl, rfl, by decide +kernel, rfl, by decide +kernel, by decide +kernel⟩
theorem ok_is_integer (T : Top P w K mg) : FnD P w K mg base 1 "is_integer" 1 m_is_integer := by
  unfold m_is_integer b_is_integer
  exact d_def (N := ["thing"]) (ps := ["thing"]) T.f_is_integer sc_is_integer rfl rfl (fun _ _ _ _ _ _ us hl => match us, hl with | [_], _ => rfl) (fun f cdv A outer s H E hr tk hp =>
    (ss_one (s_ret (e_and (e_isi T.z_isinstance T.z_int (by decide +kernel) (e_var 0)) (e_one (e_not (e_isi T.z_isinstance T.z_bool (by decide +kernel) (e_var 0))))))))
theorem sc_tuple_of : FnScope ["thing", "many"] ["thing", "many"] (defScope s_tuple_of) := ⟨rfl, rfl, rfl, by decide +kernel, rfl, by decide +kernel, by decide +kernel⟩
theorem ok_tuple_of (T : Top P w K mg) : FnD P w K mg base 1 "tuple_of" 2 m_tuple_of := by
  unfold m_tuple_of b_tuple_of
  exact d_def (N := ["thing", "many"]) (ps := ["thing", "many"]) T.f_tuple_of sc_tuple_of rfl rfl (fun _ _ _ _ _ _ us hl => match us, hl with | [_, _], _ => rfl) (fun f cdv A outer s H E hr tk hp =>
    (ss_one (s_ret (e_and (e_isi T.z_isinstance T.z_tuple (by decide +kernel) (e_var 0)) (e_one (e_cmp (d_eq hr.units) (e_callB d_len T.z_len (by decide +kernel) (a_cons (e_var 0) a_nil)) (e_var 1)))))))
theorem sc_written_integer : FnScope ["word", "figures", "sign"] ["word"] (defScope s_written_integer) := ⟨rfl, rfl, rfl, by decide +kernel, rfl, by decide +kernel, by decide +kernel⟩
theorem ok_written_integer (T : Top P w K mg) : FnD P w K mg base 1 "written_integer" 1 m_written_integer := by
  unfold m_written_integer b_written_integer
  exact d_def (N := ["word", "figures", "sign"]) (ps := ["word"]) T.f_written_integer sc_written_integer rfl rfl (fun _ _ _ _ _ _ us hl => match us, hl with | [_], _ => rfl) (fun f cdv A outer s H E hr tk hp =>
    (ss_cons (s_set (i := 1) sc_written_integer.nd (e_if (t_tru (e_starts (e_var 0) (a_cons e_str a_nil))) (e_cut (e_var 0) (o_some e_int) o_none) (e_var 0)))
    (ss_cons (s_if (PW.pt (w_or (t_cmp (d_eq hr.units) (e_var 1) e_str) (w_or1 (t_cmp (d_gtX hr.units) (e_callB d_len T.z_len (by decide +kernel) (a_cons (e_var 0) a_nil)) (e_globC T.c_WRITTEN_MOST fun _ _ => .int _))))) (ss_one (s_ret e_non)) ss_nil)
    (ss_cons (s_for hp (i_seqX (e_var 1)) (g_name 2 sc_written_integer.nd) (ss_one (s_if (t_cmp (d_notin hr.units) (e_var 2) (e_globC T.c_FIGURES fun _ _ => .str _)) (ss_one (s_ret e_non)) ss_nil)))
    (ss_cons (s_if (PW.pt (w_and (t_cmp (d_eq hr.units) (e_ix (e_var 1) e_int) e_str) (w_and1 (t_cmp (d_ne hr.units) (e_var 0) e_str)))) (ss_one (s_ret e_non)) ss_nil)
    (ss_one (s_ret (e_callTy d_intX T.z_int (by decide +kernel) (a_cons (e_var 0) a_nil)))))))))
theorem sc_fits_field : FnScope ["fields", "saying", "number", "way", "answer", "_", "low", "high"] ["fields", "saying"] (defScope s_fits_field) := ⟨rfl, rfl, rfl, by decide +kernel, rfl, by decide +kernel, by decide +kernel⟩
theorem ok_fits_field (T : Top P w K mg) : FnD P w K mg base 1 "fits_field" 2 m_fits_field := by
  unfold m_fits_field b_fits_field
  exact d_def (N := ["fields", "saying", "number", "way", "answer", "_", "low", "high"]) (ps := ["fields", "saying"]) T.f_fits_field sc_fits_field rfl rfl (fun _ _ _ _ _ _ us hl => match us, hl with | [_, _], _ => rfl) (fun f cdv A outer s H E hr tk hp =>
    (ss_cons (s_asg (e_var 1) (g_un (gs_cons (g_name 2 sc_fits_field.nd) (gs_cons (g_name 3 sc_fits_field.nd) (gs_cons (g_name 4 sc_fits_field.nd) gs_nil)))))
    (ss_cons (s_asg (e_ix (e_var 0) (e_var 2)) (g_un (gs_cons (g_name 5 sc_fits_field.nd) (gs_cons (g_name 6 sc_fits_field.nd) (gs_cons (g_name 7 sc_fits_field.nd) gs_nil)))))
    (ss_cons (s_if (t_cmp (d_eq hr.units) (e_var 3) e_int) (ss_one (s_ret (e_chain (d_lt hr.units) (d_le hr.units) (e_var 6) (e_var 4) (e_var 7)))) ss_nil)
    (ss_one (s_ret (e_chain (d_le hr.units) (d_lt hr.units) (e_var 6) (e_var 4) (e_var 7))))))))
theorem sc_saying_text : FnScope ["fields", "saying"] ["fields", "saying"] (defScope s_saying_text) := ⟨rfl, rfl, rfl, by decide +kernel, rfl, by decide +kernel, by decide +kernel⟩
theorem ok_saying_text (T : Top P w K mg) : FnD P w K mg base 1 "saying_text" 2 m_saying_text := by
  unfold m_saying_text b_saying_text
  exact d_def (N := ["fields", "saying"]) (ps := ["fields", "saying"]) T.f_saying_text sc_saying_text rfl rfl (fun _ _ _ _ _ _ us hl => match us, hl with | [_, _], _ => rfl) (fun f cdv A outer s H E hr tk hp =>
    (ss_one (s_ret (e_bin d_add (e_bin d_add (e_ix (e_ix (e_var 0) (e_ix (e_var 1) e_int)) e_int) (e_tab T.t_SIGNS (e_ix (e_var 1) e_int))) (e_callTy d_str T.z_str (by decide +kernel) (a_cons (e_ix (e_var 1) e_int) a_nil))))))
theorem sc_way_in : FnScope ["text", "ups", "downs"] ["text"] (defScope s_way_in) := ⟨rfl, rfl, rfl, by decide +kernel, rfl, by decide +kernel, by decide +kernel⟩
theorem ok_way_in (T : Top P w K mg) : FnD P w K mg base 1 "way_in" 1 m_way_in := by
  unfold m_way_in b_way_in
  exact d_def (N := ["text", "ups", "downs"]) (ps := ["text"]) T.f_way_in sc_way_in rfl rfl (fun _ _ _ _ _ _ us hl => match us, hl with | [_], _ => rfl) (fun f cdv A outer s H E hr tk hp =>
    (ss_cons (s_set (i := 1) sc_way_in.nd (e_count (e_var 0) (a_cons (e_tab T.t_SIGNS e_int) a_nil)))
    (ss_cons (s_set (i := 2) sc_way_in.nd (e_count (e_var 0) (a_cons (e_tab T.t_SIGNS (e_un d_neg e_int)) a_nil)))
    (ss_cons (s_if (t_cmp (d_ne hr.units) (e_bin d_add (e_var 1) (e_var 2)) e_int) (ss_one (s_ret e_non)) ss_nil)
    (ss_one (s_ret (e_if (t_cmp (d_eq hr.units) (e_var 1) e_int) e_int (e_un d_neg e_int))))))))
theorem sc__law_well : FnScope ["script", "deep", "rows", "place", "cell"] ["script"] (defScope s__law_well) := ⟨rfl, rfl, rfl, by decide +kernel, rfl, by decide +kernel, by decide +kernel⟩
theorem ok__law_well (T : Top P w K mg) : FnD P w K mg base 1 "_law_well" 1 m__law_well := by
  unfold m__law_well b__law_well
  exact d_def (N := ["script", "deep", "rows", "place", "cell"]) (ps := ["script"]) T.f__law_well sc__law_well rfl rfl (fun _ _ _ _ _ _ us hl => match us, hl with | [_], _ => rfl) (fun f cdv A outer s H E hr tk hp =>
    (ss_cons (s_set (i := 1) sc__law_well.nd e_int)
    (ss_cons (s_set (i := 2) sc__law_well.nd (e_lst (a_cons e_int a_nil)))
    (ss_cons (s_for hp (i_range1 T.z_range (e_callB (d_minX hr.units rfl) T.z_min (by decide +kernel) (a_cons (e_callB d_len T.z_len (by decide +kernel) (a_cons (e_var 0) a_nil)) (a_cons e_int a_nil)))) (g_name 3 sc__law_well.nd) (ss_cons (s_set (i := 4) sc__law_well.nd (e_bin d_mod (e_callTy d_intX T.z_int (by decide +kernel) (a_cons (e_ix (e_var 0) (e_var 3)) a_nil)) (e_bin d_pow e_int e_int)))
    (ss_cons (s_if (t_cmp d_ge (e_var 4) (e_bin d_pow e_int e_int)) (ss_cons (s_set (i := 1) sc__law_well.nd (e_bin d_add (e_bin d_mulY (e_var 1) (e_bin d_pow e_int e_int)) (e_var 4)))
    (ss_one (s_set (i := 1) sc__law_well.nd (e_bin d_mod (e_callTy d_intX T.z_int (by decide +kernel) (a_cons (e_var 1) a_nil)) (e_bin d_mulY (e_bin d_mulY (e_bin d_pow e_int e_int) (e_bin d_pow e_int e_int)) (e_bin d_pow e_int e_int)))))) ss_nil)
    (ss_one (s_expr (e_append (e_var 2) (a_cons (e_bin d_mod (e_callTy d_intX T.z_int (by decide +kernel) (a_cons (e_bin d_add (e_bin d_add (e_bin d_add (e_bin d_mulY (e_ix (e_var 2) (e_un d_neg e_int)) e_int) (e_bin d_mod (e_var 4) e_int)) (e_bin d_div (e_var 4) e_int)) (e_var 3)) a_nil)) e_int) a_nil)))))))
    (ss_one (s_ret (e_lst (a_cons (e_var 1) (a_cons (e_var 2) (a_cons e_int (a_cons e_int a_nil)))))))))))
theorem sc__law_dip : FnScope ["well", "many", "rows", "cell", "part"] ["well", "many"] (defScope s__law_dip) := ⟨rfl, rfl, rfl, by decide +kernel, rfl, by decide +kernel, by decide +kernel⟩
theorem ok__law_dip (T : Top P w K mg) : FnD P w K mg base 1 "_law_dip" 2 m__law_dip := by
  unfold m__law_dip b__law_dip
  exact d_def (N := ["well", "many", "rows", "cell", "part"]) (ps := ["well", "many"]) T.f__law_dip sc__law_dip rfl rfl (fun _ _ _ _ _ _ us hl => match us, hl with | [_, _], _ => rfl) (fun f cdv A outer s H E hr tk hp =>
    (ss_cons (s_if (t_cmp (d_lt hr.units) (e_var 1) e_int) (ss_one (s_ret e_int)) ss_nil)
    (ss_cons (s_if (t_cmp (d_gtX hr.units) (e_ix (e_var 0) e_int) e_int) (ss_cons (s_set (i := 4) sc__law_dip.nd (e_bin d_mod (e_callTy d_intX T.z_int (by decide +kernel) (a_cons (e_ix (e_var 0) e_int) a_nil)) (e_var 1)))
    (ss_cons (s_asg (e_bin d_div (e_ix (e_var 0) e_int) (e_var 1)) (g_sub (e_var 0) e_int))
    (ss_one (s_ret (e_var 4))))) ss_nil)
    (ss_cons (s_set (i := 2) sc__law_dip.nd (e_ix (e_var 0) e_int))
    (ss_cons (s_asg (e_bin d_add (e_ix (e_var 0) e_int) e_int) (g_sub (e_var 0) e_int))
    (ss_cons (s_set (i := 3) sc__law_dip.nd (e_ix (e_var 2) (e_bin d_mod (e_callTy d_intX T.z_int (by decide +kernel) (a_cons (e_bin d_mulY (e_ix (e_var 0) e_int) e_int) a_nil)) (e_callB d_len T.z_len (by decide +kernel) (a_cons (e_var 2) a_nil)))))
    (ss_cons (s_asg (e_bin d_mod (e_callTy d_intX T.z_int (by decide +kernel) (a_cons (e_bin d_add (e_bin d_add (e_bin d_mulY (e_ix (e_var 0) e_int) e_int) (e_var 3)) (e_ix (e_var 0) e_int)) a_nil)) e_int) (g_sub (e_var 0) e_int))
    (ss_one (s_ret (e_bin d_mod (e_callTy d_intX T.z_int (by decide +kernel) (a_cons (e_bin d_add (e_bin d_div (e_ix (e_var 0) e_int) e_int) (e_var 3)) a_nil)) (e_var 1)))))))))))
theorem sc__law_is_integer : FnScope ["thing"] ["thing"] (defScope s__law_is_integer) := ⟨rfl, rfl, rfl, by decide +kernel, rfl, by decide +kernel, by decide +kernel⟩
theorem ok__law_is_integer (T : Top P w K mg) : FnD P w K mg base 1 "_law_is_integer" 1 m__law_is_integer := by
  unfold m__law_is_integer b__law_is_integer
  exact d_def (N := ["thing"]) (ps := ["thing"]) T.f__law_is_integer sc__law_is_integer rfl rfl (fun _ _ _ _ _ _ us hl => match us, hl with | [_], _ => rfl) (fun f cdv A outer s H E hr tk hp =>
    (ss_one (s_ret (e_and (e_isi T.z_isinstance T.z_int (by decide +kernel) (e_var 0)) (e_one (e_not (e_isi T.z_isinstance T.z_bool (by decide +kernel) (e_var 0))))))))
theorem sc__law_answers : FnScope ["field", "way"] ["field", "way"] (defScope s__law_answers) := ⟨rfl, rfl, rfl, by decide +kernel, rfl, by decide +kernel, by decide +kernel⟩
theorem ok__law_answers (T : Top P w K mg) : FnD P w K mg base 1 "_law_answers" 2 m__law_answers := by
  unfold m__law_answers b__law_answers
  exact d_def (N := ["field", "way"]) (ps := ["field", "way"]) T.f__law_answers sc__law_answers rfl rfl (fun _ _ _ _ _ _ us hl => match us, hl with | [_, _], _ => rfl) (fun f cdv A outer s H E hr tk hp =>
    (ss_cons (s_if (t_cmp (d_eq hr.units) (e_var 1) e_int) (ss_one (s_ret (l_alloc (l_listRg T.z_list (rg_2 T.z_range (e_bin d_add (e_ix (e_var 0) e_int) e_int) (e_bin d_add (e_ix (e_var 0) e_int) e_int)))))) ss_nil)
    (ss_one (s_ret (l_alloc (l_listRg T.z_list (rg_2 T.z_range (e_ix (e_var 0) e_int) (e_ix (e_var 0) e_int))))))))
theorem sc__law_written : FnScope ["word", "body", "sign"] ["word"] (defScope s__law_written) := ⟨rfl, rfl, rfl, by decide +kernel, rfl, by decide +kernel, by decide +kernel⟩
theorem ok__law_written (T : Top P w K mg) : FnD P w K mg base 1 "_law_written" 1 m__law_written := by
  unfold m__law_written b__law_written
  exact d_def (N := ["word", "body", "sign"]) (ps := ["word"]) T.f__law_written sc__law_written rfl rfl (fun _ _ _ _ _ _ us hl => match us, hl with | [_], _ => rfl) (fun f cdv A outer s H E hr tk hp =>
    (ss_cons (s_set (i := 1) sc__law_written.nd (e_var 0))
    (ss_cons (s_if (t_cmp (d_eq hr.units) (e_cut (e_var 0) o_none (o_some e_int)) e_str) (ss_one (s_set (i := 1) sc__law_written.nd (e_cut (e_var 0) (o_some e_int) o_none))) ss_nil)
    (ss_cons (s_if (PW.pt (w_or (t_cmp (d_gtX hr.units) (e_callB d_len T.z_len (by decide +kernel) (a_cons (e_var 0) a_nil)) e_int) (w_or1 (t_cmp (d_eq hr.units) (e_callB d_len T.z_len (by decide +kernel) (a_cons (e_var 1) a_nil)) e_int)))) (ss_one (s_ret e_non)) ss_nil)
    (ss_cons (s_for hp (i_seqX (e_var 1)) (g_name 2 sc__law_written.nd) (ss_one (s_if (t_cmp (d_notin hr.units) (e_var 2) e_str) (ss_one (s_ret e_non)) ss_nil)))
    (ss_cons (s_if (PW.pt (w_and (t_cmp (d_eq hr.units) (e_ix (e_var 1) e_int) e_str) (w_and1 (PW.pt (w_or (t_cmp (d_gtX hr.units) (e_callB d_len T.z_len (by decide +kernel) (a_cons (e_var 1) a_nil)) e_int) (w_or1 (t_cmp (d_gtX hr.units) (e_callB d_len T.z_len (by decide +kernel) (a_cons (e_var 0) a_nil)) e_int))))))) (ss_one (s_ret e_non)) ss_nil)
    (ss_one (s_ret (e_callTy d_intX T.z_int (by decide +kernel) (a_cons (e_var 0) a_nil))))))))))
theorem sc__law_found : FnScope ["text", "sign", "place"] ["text", "sign"] (defScope s__law_found) := ⟨rfl, rfl, rfl, by decide +kernel, rfl, by decide +kernel, by decide +kernel⟩
theorem ok__law_found (T : Top P w K mg) : FnD P w K mg base 1 "_law_found" 2 m__law_found := by
  unfold m__law_found b__law_found
  exact d_def (N := ["text", "sign", "place"]) (ps := ["text", "sign"]) T.f__law_found sc__law_found rfl rfl (fun _ _ _ _ _ _ us hl => match us, hl with | [_, _], _ => rfl) (fun f cdv A outer s H E hr tk hp =>
    (ss_one (s_ret (l_alloc (l_comp (own := [("place", 2)]) sc__law_found.nd (i_range1 T.z_range (e_callB d_len T.z_len (by decide +kernel) (a_cons (e_var 0) a_nil))) (blkOk_by (N := ["text", "sign", "place"]) (sc := defScope s__law_found) (by decide +kernel)) (by decide) (fun _ _ _ _ _ => (p_name 2 sc__law_found.nd)) (fun _ _ _ _ _ => (ts_one (t_cmp (d_eq hr.units) (e_cut (e_var 0) (o_some (e_var 2)) (o_some (e_bin d_add (e_var 2) e_int))) (e_var 1)))) (fun _ _ _ _ _ => (e_var 2)))))))
theorem sc__law_things : FnScope ["well", "fields", "saying", "field", "other", "things", "place", "way", "answer"] ["well", "fields", "saying"] (defScope s__law_things) := ⟨rfl, rfl, rfl, by decide +kernel, rfl, by decide +kernel, by decide +kernel⟩
theorem ok__law_things (T : Top P w K mg) : FnD P w K mg base 1 "_law_things" 3 m__law_things := by
  unfold m__law_things b__law_things
  exact d_def (N := ["well", "fields", "saying", "field", "other", "things", "place", "way", "answer"]) (ps := ["well", "fields", "saying"]) T.f__law_things sc__law_things rfl rfl (fun _ _ _ _ _ _ us hl => match us, hl with | [_, _, _], _ => rfl) (fun f cdv A outer s H E hr tk hp =>
    (ss_cons (s_asg (e_var 2) (g_un (gs_cons (g_name 6 sc__law_things.nd) (gs_cons (g_name 7 sc__law_things.nd) (gs_cons (g_name 8 sc__law_things.nd) gs_nil)))))
    (ss_cons (s_set (i := 3) sc__law_things.nd (e_ix (e_var 1) (e_var 6)))
    (ss_cons (s_set (i := 4) sc__law_things.nd (e_callB d_len T.z_len (by decide +kernel) (a_cons (e_var 1) a_nil)))
    (ss_cons (s_set (i := 5) sc__law_things.nd (e_lst (a_cons (e_var 2) (a_cons (e_callTy (d_listX rfl) T.z_list (by decide +kernel) (a_cons (e_var 2) a_nil)) (a_cons (e_tup (a_cons (e_var 6) (a_cons (e_var 7) a_nil))) (a_cons (e_bin d_add (e_var 2) (e_tup (a_cons e_int a_nil))) (a_cons (e_tup (a_cons (e_var 6) (a_cons (e_var 7) (a_cons e_bl a_nil)))) (a_cons (e_tup (a_cons (e_var 6) (a_cons e_bl (a_cons (e_var 8) a_nil)))) (a_cons (e_tup (a_cons (e_cmp (d_eq hr.units) (e_var 6) e_int) (a_cons (e_var 7) (a_cons (e_var 8) a_nil)))) (a_cons e_non (a_cons e_str (a_cons e_int (a_cons (e_tup a_nil) a_nil)))))))))))))
    (ss_cons (s_set (i := 5) sc__law_things.nd (e_bin d_add (e_var 5) (e_lst (a_cons (e_tup (a_cons (e_var 6) (a_cons (e_var 7) (a_cons (e_ix (e_var 3) e_int) a_nil)))) (a_cons (e_tup (a_cons (e_var 6) (a_cons (e_var 7) (a_cons (e_ix (e_var 3) e_int) a_nil)))) (a_cons (e_tup (a_cons (e_var 6) (a_cons (e_var 7) (a_cons (e_bin d_sub (e_ix (e_var 3) e_int) e_int) a_nil)))) (a_cons (e_tup (a_cons (e_var 6) (a_cons (e_var 7) (a_cons (e_bin d_add (e_ix (e_var 3) e_int) e_int) a_nil)))) (a_cons (e_tup (a_cons (e_var 6) (a_cons (e_var 7) (a_cons (e_bin d_pow e_int e_int) a_nil)))) a_nil))))))))
    (ss_cons (s_set (i := 5) sc__law_things.nd (e_bin d_add (e_var 5) (e_lst (a_cons (e_tup (a_cons (e_var 4) (a_cons (e_var 7) (a_cons (e_var 8) a_nil)))) (a_cons (e_tup (a_cons (e_un d_neg e_int) (a_cons (e_var 7) (a_cons (e_var 8) a_nil)))) (a_cons (e_tup (a_cons (e_bin d_sub (e_var 6) (e_var 4)) (a_cons (e_var 7) (a_cons (e_var 8) a_nil)))) (a_cons (e_tup (a_cons (e_var 6) (a_cons e_int (a_cons (e_var 8) a_nil)))) (a_cons (e_tup (a_cons (e_var 6) (a_cons e_int (a_cons (e_var 8) a_nil)))) (a_cons (e_tup (a_cons (e_var 6) (a_cons (e_un d_neg e_int) (a_cons (e_var 8) a_nil)))) a_nil)))))))))
    (ss_cons (s_set (i := 5) sc__law_things.nd (e_bin d_add (e_var 5) (e_lst (a_cons (e_tup (a_cons (e_var 4) (a_cons e_int (a_cons (e_bin d_add (e_ix (e_var 3) e_int) e_int) a_nil)))) (a_cons (e_tup (a_cons (e_var 6) (a_cons e_int (a_cons (e_bin d_add (e_ix (e_var 3) e_int) e_int) a_nil)))) (a_cons (e_tup (a_cons (e_var 4) (a_cons e_str (a_cons (e_var 8) a_nil)))) (a_cons (e_tup (a_cons (e_callTy d_str T.z_str (by decide +kernel) (a_cons (e_var 6) a_nil)) (a_cons e_int (a_cons e_int a_nil)))) (a_cons (e_tup (a_cons (e_var 6) (a_cons (e_var 7) (a_cons e_non a_nil)))) (a_cons (e_tup (a_cons (e_tup (a_cons (e_var 6) a_nil)) (a_cons (e_var 7) (a_cons (e_var 8) a_nil)))) a_nil)))))))))
    (ss_cons (s_set (i := 5) sc__law_things.nd (e_bin d_add (e_var 5) (e_lst (a_cons (e_tup (a_cons (e_var 6) (a_cons (e_un d_neg (e_var 7)) (a_cons (e_var 8) a_nil)))) (a_cons (e_tup (a_cons (e_var 6) (a_cons (e_bin d_pow e_int e_int) (a_cons (e_var 8) a_nil)))) (a_cons (e_tup (a_cons (e_bin d_mulY (e_bin d_pow e_int e_int) (e_bin d_pow e_int e_int)) (a_cons (e_var 7) (a_cons (e_var 8) a_nil)))) (a_cons (e_tup (a_cons (e_var 6) (a_cons (e_var 7) (a_cons (e_callTy d_str T.z_str (by decide +kernel) (a_cons (e_var 8) a_nil)) a_nil)))) (a_cons (e_lst (a_cons (e_var 2) a_nil)) a_nil))))))))
    (ss_one (s_ret (e_var 5))))))))))))
theorem sc_saying_fault : FnScope ["fields", "thing", "part"] ["fields", "thing"] (defScope s_saying_fault) := ⟨rfl, rfl, rfl, by decide +kernel, rfl, by decide +kernel, by decide +kernel⟩
theorem ok_saying_fault (T : Top P w K mg) : FnD P w K mg base 2 "saying_fault" 2 m_saying_fault := by
  unfold m_saying_fault b_saying_fault
  exact d_def (N := ["fields", "thing", "part"]) (ps := ["fields", "thing"]) T.f_saying_fault sc_saying_fault rfl rfl (fun _ _ _ _ _ _ us hl => match us, hl with | [_, _], _ => rfl) (fun f cdv A outer s H E hr tk hp =>
    (ss_cons (s_if (PW.pt (w_or (t_not (t_tru (e_call (ok_tuple_of T) hr (by decide) tk (a_cons (e_var 1) (a_cons e_int a_nil)) (aCons_len (aCons_len aNil_len))))) (w_or1 (t_not (t_tru (e_allL T.z_all (l_comp (own := [("part", 2)]) sc_saying_fault.nd (i_seq (e_var 1)) (blkOk_by (N := ["fields", "thing", "part"]) (sc := defScope s_saying_fault) (by decide +kernel)) (by decide) (fun _ _ _ _ _ => (p_name 2 sc_saying_fault.nd)) (fun _ _ _ _ _ => ts_nil) (fun _ _ _ _ _ => (e_call (ok_is_integer T) hr (by decide) takes0' (a_cons (e_var 2) a_nil) (aCons_len aNil_len)))))))))) (ss_one (s_ret e_str)) ss_nil)
    (ss_cons (s_if (t_not (t_chain (d_le hr.units) (d_lt hr.units) e_int (e_ix (e_var 1) e_int) (e_callB d_len T.z_len (by decide +kernel) (a_cons (e_var 0) a_nil)))) (ss_one (s_ret e_str)) ss_nil)
    (ss_cons (s_if (t_cmp (d_notin hr.units) (e_ix (e_var 1) e_int) (e_tup (a_cons e_int (a_cons (e_un d_neg e_int) a_nil)))) (ss_one (s_ret e_str)) ss_nil)
    (ss_cons (s_if (t_not (t_tru (e_call (ok_fits_field T) hr (by decide) tk (a_cons (e_var 0) (a_cons (e_var 1) a_nil)) (aCons_len (aCons_len aNil_len))))) (ss_one (s_ret e_str)) ss_nil)
    (ss_one (s_ret e_non)))))))
theorem sc_saying_from : FnScope ["fields", "text", "way", "names", "answer", "saying", "name", "figures", "field"] ["fields", "text"] (defScope s_saying_from) := ⟨rfl, rfl, rfl, by decide +kernel, rfl, by decide +kernel, by decide +kernel⟩
theorem ok_saying_from (T : Top P w K mg) : FnD P w K mg base 2 "saying_from" 2 m_saying_from := by
  unfold m_saying_from b_saying_from
  exact d_def (N := ["fields", "text", "way", "names", "answer", "saying", "name", "figures", "field"]) (ps := ["fields", "text"]) T.f_saying_from sc_saying_from rfl rfl (fun _ _ _ _ _ _ us hl => match us, hl with | [_, _], _ => rfl) (fun f cdv A outer s H E hr tk hp =>
    (ss_cons (s_set (i := 2) sc_saying_from.nd (e_call (ok_way_in T) hr (by decide) tk (a_cons (e_var 1) a_nil) (aCons_len aNil_len)))
    (ss_cons (s_if (t_cmp d_is (e_var 2) e_non) (ss_one (s_ret (e_tup (a_cons e_non (a_cons e_str a_nil))))) ss_nil)
    (ss_cons (s_asg (e_split (e_var 1) (a_cons (e_tab T.t_SIGNS (e_var 2)) a_nil)) (g_un (gs_cons (g_name 6 sc_saying_from.nd) (gs_cons (g_name 7 sc_saying_from.nd) gs_nil))))
    (ss_cons (s_setLc (i := 3) (own := [("field", 8)]) sc_saying_from.nd (i_seq (e_var 0)) (blkOk_by (N := ["fields", "text", "way", "names", "answer", "saying", "name", "figures", "field"]) (sc := defScope s_saying_from) (by decide +kernel)) (by decide) (fun _ _ _ _ _ => (p_name 8 sc_saying_from.nd)) (fun _ _ _ _ _ => ts_nil) (fun _ _ _ _ _ => (e_ix (e_var 8) e_int)) (sw_true rfl rfl rfl (by decide +kernel)))
    (ss_cons (s_if (t_cmp (d_notin hr.units) (e_var 6) (e_var 3)) (ss_one (s_ret (e_tup (a_cons e_non (a_cons e_str a_nil))))) ss_nil)
    (ss_cons (s_set (i := 4) sc_saying_from.nd (e_call (ok_written_integer T) hr (by decide) tk (a_cons (e_var 7) a_nil) (aCons_len aNil_len)))
    (ss_cons (s_if (t_cmp d_is (e_var 4) e_non) (ss_one (s_ret (e_tup (a_cons e_non (a_cons e_str a_nil))))) ss_nil)
    (ss_cons (s_set (i := 5) sc_saying_from.nd (e_tup (a_cons (e_index hr.units (e_var 3) (a_cons (e_var 6) a_nil)) (a_cons (e_var 2) (a_cons (e_var 4) a_nil)))))
    (ss_cons (s_if (t_not (t_tru (e_call (ok_fits_field T) hr (by decide) tk (a_cons (e_var 0) (a_cons (e_var 5) a_nil)) (aCons_len (aCons_len aNil_len))))) (ss_one (s_ret (e_tup (a_cons e_non (a_cons e_str a_nil))))) ss_nil)
    (ss_one (s_ret (e_tup (a_cons (e_var 5) (a_cons e_non a_nil)))))))))))))))
theorem sc__law_turned : FnScope ["well", "many", "left", "turned", "place"] ["well", "many"] (defScope s__law_turned) := ⟨rfl, rfl, rfl, by decide +kernel, rfl, by decide +kernel, by decide +kernel⟩
theorem ok__law_turned (T : Top P w K mg) : FnD P w K mg base 2 "_law_turned" 2 m__law_turned := by
  unfold m__law_turned b__law_turned
  exact d_def (N := ["well", "many", "left", "turned", "place"]) (ps := ["well", "many"]) T.f__law_turned sc__law_turned rfl rfl (fun _ _ _ _ _ _ us hl => match us, hl with | [_, _], _ => rfl) (fun f cdv A outer s H E hr tk hp =>
    (ss_cons (s_set (i := 2) sc__law_turned.nd (l_alloc (l_listRg T.z_list (rg_1 T.z_range (e_var 1)))))
    (ss_cons (s_set (i := 3) sc__law_turned.nd (e_lst a_nil))
    (ss_cons (s_for hp (i_range1 T.z_range (e_var 1)) (g_name 4 sc__law_turned.nd) (ss_one (s_expr (e_append (e_var 3) (a_cons (e_popAt (e_var 2) (a_cons (e_call (ok__law_dip T) hr (by decide) tk (a_cons (e_var 0) (a_cons (e_callB d_len T.z_len (by decide +kernel) (a_cons (e_var 2) a_nil)) a_nil)) (aCons_len (aCons_len aNil_len))) a_nil)) a_nil)))))
    (ss_one (s_ret (e_var 3)))))))
theorem sc__law_name : FnScope ["well", "ahead", "turn", "name", "more"] ["well", "ahead"] (defScope s__law_name) := ⟨rfl, rfl, rfl, by decide +kernel, rfl, by decide +kernel, by decide +kernel⟩
theorem ok__law_name (T : Top P w K mg) : FnD P w K mg base 2 "_law_name" 2 m__law_name := by
  unfold m__law_name b__law_name
  exact d_def (N := ["well", "ahead", "turn", "name", "more"]) (ps := ["well", "ahead"]) T.f__law_name sc__law_name rfl rfl (fun _ _ _ _ _ _ us hl => match us, hl with | [_, _], _ => rfl) (fun f cdv A outer s H E hr tk hp =>
    (ss_cons (s_for hp (i_range1 T.z_range (e_bin d_add (e_callB d_len T.z_len (by decide +kernel) (a_cons (e_var 1) a_nil)) e_int)) (g_name 2 sc__law_name.nd) (ss_cons (s_set (i := 3) sc__law_name.nd (e_ix e_str (e_call (ok__law_dip T) hr (by decide) tk (a_cons (e_var 0) (a_cons e_int a_nil)) (aCons_len (aCons_len aNil_len)))))
    (ss_cons (s_for hp (i_range1 T.z_range (e_call (ok__law_dip T) hr (by decide) tk (a_cons (e_var 0) (a_cons e_int a_nil)) (aCons_len (aCons_len aNil_len)))) (g_name 4 sc__law_name.nd) (ss_one (s_set (i := 3) sc__law_name.nd (e_bin d_add (e_var 3) (e_ix e_str (e_call (ok__law_dip T) hr (by decide) tk (a_cons (e_var 0) (a_cons e_int a_nil)) (aCons_len (aCons_len aNil_len))))))))
    (ss_one (s_if (t_cmp (d_notin hr.units) (e_var 3) (e_var 1)) (ss_one (s_ret (e_var 3))) ss_nil)))))
    (ss_cons (s_for hp (i_range1 T.z_range (e_bin d_add (e_callB d_len T.z_len (by decide +kernel) (a_cons (e_var 1) a_nil)) e_int)) (g_name 2 sc__law_name.nd) (ss_one (s_if (t_cmp (d_notin hr.units) (e_bin d_add e_str (e_callTy d_str T.z_str (by decide +kernel) (a_cons (e_var 2) a_nil))) (e_var 1)) (ss_one (s_ret (e_bin d_add e_str (e_callTy d_str T.z_str (by decide +kernel) (a_cons (e_var 2) a_nil))))) ss_nil)))
    (ss_one (s_ret e_str)))))
theorem sc__law_word : FnScope ["fields", "thing", "part", "field"] ["fields", "thing"] (defScope s__law_word) := ⟨rfl, rfl, rfl, by decide +kernel, rfl, by decide +kernel, by decide +kernel⟩
theorem ok__law_word (T : Top P w K mg) : FnD P w K mg base 2 "_law_word" 2 m__law_word := by
  unfold m__law_word b__law_word
  exact d_def (N := ["fields", "thing", "part", "field"]) (ps := ["fields", "thing"]) T.f__law_word sc__law_word rfl rfl (fun _ _ _ _ _ _ us hl => match us, hl with | [_, _], _ => rfl) (fun f cdv A outer s H E hr tk hp =>
    (ss_cons (s_if (PW.pt (w_or (t_not (t_tru (e_isi T.z_isinstance T.z_tuple (by decide +kernel) (e_var 1)))) (w_or1 (t_cmp (d_ne hr.units) (e_callB d_len T.z_len (by decide +kernel) (a_cons (e_var 1) a_nil)) e_int)))) (ss_one (s_ret e_str)) ss_nil)
    (ss_cons (s_for hp (i_seq (e_var 1)) (g_name 2 sc__law_word.nd) (ss_one (s_if (t_not (t_tru (e_call (ok__law_is_integer T) hr (by decide) tk (a_cons (e_var 2) a_nil) (aCons_len aNil_len)))) (ss_one (s_ret e_str)) ss_nil)))
    (ss_cons (s_if (PW.pt (w_or (t_cmp (d_lt hr.units) (e_ix (e_var 1) e_int) e_int) (w_or1 (t_cmp d_ge (e_ix (e_var 1) e_int) (e_callB d_len T.z_len (by decide +kernel) (a_cons (e_var 0) a_nil)))))) (ss_one (s_ret e_str)) ss_nil)
    (ss_cons (s_if (PW.pt (w_and (t_cmp (d_ne hr.units) (e_ix (e_var 1) e_int) e_int) (w_and1 (t_cmp (d_ne hr.units) (e_ix (e_var 1) e_int) (e_un d_neg e_int))))) (ss_one (s_ret e_str)) ss_nil)
    (ss_cons (s_set (i := 3) sc__law_word.nd (e_ix (e_var 0) (e_ix (e_var 1) e_int)))
    (ss_cons (s_if (PW.pt (w_or (t_cmp (d_lt hr.units) (e_ix (e_var 1) e_int) (e_bin d_add (e_ix (e_var 3) e_int) (e_callTy d_intX T.z_int (by decide +kernel) (a_cons (e_cmp (d_eq hr.units) (e_ix (e_var 1) e_int) e_int) a_nil)))) (w_or1 (t_cmp (d_gtX hr.units) (e_ix (e_var 1) e_int) (e_bin d_sub (e_ix (e_var 3) e_int) (e_callTy d_intX T.z_int (by decide +kernel) (a_cons (e_cmp (d_eq hr.units) (e_ix (e_var 1) e_int) (e_un d_neg e_int)) a_nil))))))) (ss_one (s_ret e_str)) ss_nil)
    (ss_one (s_ret e_str)))))))))
theorem sc__law_texts : FnScope ["well", "fields", "saying", "name", "sign", "number", "good", "names", "signs", "numbers", "texts", "turn", "parts", "spot", "odd"] ["well", "fields", "saying"] (defScope s__law_texts) := ⟨rfl, rfl, rfl, by decide +kernel, rfl, by decide +kernel, by decide +kernel⟩
theorem ok__law_texts (T : Top P w K mg) : FnD P w K mg base 2 "_law_texts" 3 m__law_texts := by
  unfold m__law_texts b__law_texts
  exact d_def (N := ["well", "fields", "saying", "name", "sign", "number", "good", "names", "signs", "numbers", "texts", "turn", "parts", "spot", "odd"]) (ps := ["well", "fields", "saying"]) T.f__law_texts sc__law_texts rfl rfl (fun _ _ _ _ _ _ us hl => match us, hl with | [_, _, _], _ => rfl) (fun f cdv A outer s H E hr tk hp =>
    (ss_cons (s_set (i := 3) sc__law_texts.nd (e_ix (e_ix (e_var 1) (e_ix (e_var 2) e_int)) e_int))
    (ss_cons (s_set (i := 4) sc__law_texts.nd (e_ix (e_lst (a_cons e_str (a_cons e_str (a_cons e_str a_nil)))) (e_bin d_add (e_ix (e_var 2) e_int) e_int)))
    (ss_cons (s_set (i := 5) sc__law_texts.nd (e_callTy d_str T.z_str (by decide +kernel) (a_cons (e_ix (e_var 2) e_int) a_nil)))
    (ss_cons (s_set (i := 6) sc__law_texts.nd (e_bin d_add (e_bin d_add (e_var 3) (e_var 4)) (e_var 5)))
    (ss_cons (s_set (i := 7) sc__law_texts.nd (e_lst (a_cons (e_bin d_add (e_var 3) e_str) (a_cons (e_bin d_add e_str (e_var 3)) (a_cons (e_upper (e_var 3)) (a_cons (e_cut (e_var 3) o_none (o_some (e_un d_neg e_int))) (a_cons (e_bin d_add (e_var 3) e_str) (a_cons e_str (a_cons e_str (a_cons (e_bin d_add (e_var 3) e_str) (a_cons (e_bin d_add (e_var 3) e_str) (a_cons (e_bin d_add e_str (e_var 3)) (a_cons (e_bin d_add (e_var 3) e_str) (a_cons (e_bin d_add (e_var 3) e_str) (a_cons e_str a_nil)))))))))))))))
    (ss_cons (s_set (i := 8) sc__law_texts.nd (e_lst (a_cons e_str (a_cons e_str (a_cons e_str (a_cons e_str (a_cons e_str (a_cons e_str (a_cons e_str (a_cons e_str (a_cons e_str (a_cons e_str (a_cons e_str (a_cons e_str (a_cons e_str (a_cons e_str (a_cons e_str (a_cons e_str (a_cons e_str (a_cons e_str (a_cons e_str a_nil)))))))))))))))))))))
    (ss_cons (s_set (i := 9) sc__law_texts.nd (e_lst (a_cons (e_bin d_add e_str (e_var 5)) (a_cons (e_bin d_add (e_var 5) e_str) (a_cons (e_bin d_add e_str (e_var 5)) (a_cons (e_bin d_add e_str (e_var 5)) (a_cons e_str (a_cons e_str (a_cons e_str (a_cons e_str (a_cons (e_bin d_mulY e_str e_int) (a_cons (e_bin d_mulY e_str e_int) (a_cons (e_bin d_add e_str (e_bin d_mulY e_str e_int)) (a_cons (e_bin d_add e_str (e_bin d_mulY e_str e_int)) (a_cons e_str (a_cons e_str a_nil))))))))))))))))
    (ss_cons (s_set (i := 9) sc__law_texts.nd (e_bin d_add (e_var 9) (e_lst (a_cons (e_callTy d_str T.z_str (by decide +kernel) (a_cons (e_ix (e_ix (e_var 1) (e_ix (e_var 2) e_int)) e_int) a_nil)) (a_cons (e_callTy d_str T.z_str (by decide +kernel) (a_cons (e_ix (e_ix (e_var 1) (e_ix (e_var 2) e_int)) e_int) a_nil)) (a_cons (e_callTy d_str T.z_str (by decide +kernel) (a_cons (e_bin d_add (e_ix (e_ix (e_var 1) (e_ix (e_var 2) e_int)) e_int) e_int) a_nil)) (a_cons e_str (a_cons e_str (a_cons e_str (a_cons (e_bin d_add (e_var 5) e_str) (a_cons (e_bin d_add (e_var 5) e_str) (a_cons e_str a_nil))))))))))))
    (ss_cons (s_set (i := 10) sc__law_texts.nd (e_lst (a_cons (e_var 6) (a_cons e_str (a_cons e_str (a_cons e_str (a_cons (e_bin d_add e_str (e_var 6)) (a_cons (e_bin d_add (e_var 6) (e_var 6)) a_nil))))))))
    (ss_cons (s_for hp (i_range1 T.z_range e_int) (g_name 11 sc__law_texts.nd) (ss_cons (s_set (i := 12) sc__law_texts.nd (e_lst (a_cons (e_var 3) (a_cons (e_var 4) (a_cons (e_var 5) a_nil)))))
    (ss_cons (s_set (i := 13) sc__law_texts.nd (e_call (ok__law_dip T) hr (by decide) tk (a_cons (e_var 0) (a_cons e_int a_nil)) (aCons_len (aCons_len aNil_len))))
    (ss_cons (s_set (i := 14) sc__law_texts.nd (e_ix (e_lst (a_cons (e_var 7) (a_cons (e_var 8) (a_cons (e_var 9) a_nil)))) (e_var 13)))
    (ss_cons (s_asg (e_ix (e_var 14) (e_call (ok__law_dip T) hr (by decide) tk (a_cons (e_var 0) (a_cons (e_callB d_len T.z_len (by decide +kernel) (a_cons (e_var 14) a_nil)) a_nil)) (aCons_len (aCons_len aNil_len)))) (g_sub (e_var 12) (e_var 13)))
    (ss_cons (s_if (t_cmp (d_gtX hr.units) (e_var 11) e_int) (ss_cons (s_set (i := 13) sc__law_texts.nd (e_call (ok__law_dip T) hr (by decide) tk (a_cons (e_var 0) (a_cons e_int a_nil)) (aCons_len (aCons_len aNil_len))))
    (ss_cons (s_set (i := 14) sc__law_texts.nd (e_ix (e_lst (a_cons (e_var 7) (a_cons (e_var 8) (a_cons (e_var 9) a_nil)))) (e_var 13)))
    (ss_one (s_asg (e_ix (e_var 14) (e_call (ok__law_dip T) hr (by decide) tk (a_cons (e_var 0) (a_cons (e_callB d_len T.z_len (by decide +kernel) (a_cons (e_var 14) a_nil)) a_nil)) (aCons_len (aCons_len aNil_len)))) (g_sub (e_var 12) (e_var 13)))))) ss_nil)
    (ss_one (s_expr (e_append (e_var 10) (a_cons (e_bin d_add (e_bin d_add (e_ix (e_var 12) e_int) (e_ix (e_var 12) e_int)) (e_ix (e_var 12) e_int)) a_nil))))))))))
    (ss_one (s_ret (e_var 10))))))))))))))
theorem sc_check_saying : FnScope ["fields", "thing", "word"] ["fields", "thing"] (defScope s_check_saying) := ⟨rfl, rfl, rfl, by decide +kernel, rfl, by decide +kernel, by decide +kernel⟩
theorem ok_check_saying (T : Top P w K mg) : FnD P w K mg base 3 "check_saying" 2 m_check_saying := by
  unfold m_check_saying b_check_saying
  exact d_def (N := ["fields", "thing", "word"]) (ps := ["fields", "thing"]) T.f_check_saying sc_check_saying rfl rfl (fun _ _ _ _ _ _ us hl => match us, hl with | [_, _], _ => rfl) (fun f cdv A outer s H E hr tk hp =>
    (ss_cons (s_set (i := 2) sc_check_saying.nd (e_call (ok_saying_fault T) hr (by decide) tk (a_cons (e_var 0) (a_cons (e_var 1) a_nil)) (aCons_len (aCons_len aNil_len))))
    (ss_cons (s_if (t_cmp d_isnot (e_var 2) e_non) (ss_one (s_raise T.r_BadSaying hr tk (a_cons (e_var 2) a_nil))) ss_nil)
    (ss_one (s_ret (e_ix (e_var 1) e_int))))))
theorem sc_read_saying : FnScope ["fields", "text", "saying", "word"] ["fields", "text"] (defScope s_read_saying) := ⟨rfl, rfl, rfl, by decide +kernel, rfl, by decide +kernel, by decide +kernel⟩
theorem ok_read_saying (T : Top P w K mg) : FnD P w K mg base 3 "read_saying" 2 m_read_saying := by
  unfold m_read_saying b_read_saying
  exact d_def (N := ["fields", "text", "saying", "word"]) (ps := ["fields", "text"]) T.f_read_saying sc_read_saying rfl rfl (fun _ _ _ _ _ _ us hl => match us, hl with | [_, _], _ => rfl) (fun f cdv A outer s H E hr tk hp =>
    (ss_cons (s_asg (e_call (ok_saying_from T) hr (by decide) tk (a_cons (e_var 0) (a_cons (e_var 1) a_nil)) (aCons_len (aCons_len aNil_len))) (g_un (gs_cons (g_name 2 sc_read_saying.nd) (gs_cons (g_name 3 sc_read_saying.nd) gs_nil))))
    (ss_cons (s_if (t_cmp d_isnot (e_var 3) e_non) (ss_one (s_raise T.r_BadText hr tk (a_cons e_int (a_cons (e_var 3) a_nil)))) ss_nil)
    (ss_one (s_ret (e_var 2))))))
theorem sc__law_read_due : FnScope ["fields", "text", "more", "less", "place", "names", "number", "saying", "field"] ["fields", "text"] (defScope s__law_read_due) := ⟨rfl, rfl, rfl, by decide +kernel, rfl, by decide +kernel, by decide +kernel⟩
theorem ok__law_read_due (T : Top P w K mg) : FnD P w K mg base 3 "_law_read_due" 2 m__law_read_due := by
  unfold m__law_read_due b__law_read_due
  exact d_def (N := ["fields", "text", "more", "less", "place", "names", "number", "saying", "field"]) (ps := ["fields", "text"]) T.f__law_read_due sc__law_read_due rfl rfl (fun _ _ _ _ _ _ us hl => match us, hl with | [_, _], _ => rfl) (fun f cdv A outer s H E hr tk hp =>
    (ss_cons (s_set (i := 2) sc__law_read_due.nd (e_call (ok__law_found T) hr (by decide) tk (a_cons (e_var 1) (a_cons e_str a_nil)) (aCons_len (aCons_len aNil_len))))
    (ss_cons (s_set (i := 3) sc__law_read_due.nd (e_call (ok__law_found T) hr (by decide) tk (a_cons (e_var 1) (a_cons e_str a_nil)) (aCons_len (aCons_len aNil_len))))
    (ss_cons (s_if (t_cmp (d_ne hr.units) (e_bin d_add (e_callB d_len T.z_len (by decide +kernel) (a_cons (e_var 2) a_nil)) (e_callB d_len T.z_len (by decide +kernel) (a_cons (e_var 3) a_nil))) e_int) (ss_one (s_ret e_str)) ss_nil)
    (ss_cons (s_set (i := 4) sc__law_read_due.nd (e_ix (e_bin d_add (e_var 2) (e_var 3)) e_int))
    (ss_cons (s_setLc (i := 5) (own := [("field", 8)]) sc__law_read_due.nd (i_seq (e_var 0)) (blkOk_by (N := ["fields", "text", "more", "less", "place", "names", "number", "saying", "field"]) (sc := defScope s__law_read_due) (by decide +kernel)) (by decide) (fun _ _ _ _ _ => (p_name 8 sc__law_read_due.nd)) (fun _ _ _ _ _ => ts_nil) (fun _ _ _ _ _ => (e_ix (e_var 8) e_int)) (sw_true rfl rfl rfl (by decide +kernel)))
    (ss_cons (s_if (t_cmp (d_notin hr.units) (e_cut (e_var 1) o_none (o_some (e_var 4))) (e_var 5)) (ss_one (s_ret e_str)) ss_nil)
    (ss_cons (s_set (i := 6) sc__law_read_due.nd (e_call (ok__law_written T) hr (by decide) tk (a_cons (e_cut (e_var 1) (o_some (e_bin d_add (e_var 4) e_int)) o_none) a_nil) (aCons_len aNil_len)))
    (ss_cons (s_if (t_cmp d_is (e_var 6) e_non) (ss_one (s_ret e_str)) ss_nil)
    (ss_cons (s_set (i := 7) sc__law_read_due.nd (e_tup (a_cons (e_index hr.units (e_var 5) (a_cons (e_cut (e_var 1) o_none (o_some (e_var 4))) a_nil)) (a_cons (e_bin d_sub (e_callB d_len T.z_len (by decide +kernel) (a_cons (e_var 2) a_nil)) (e_callB d_len T.z_len (by decide +kernel) (a_cons (e_var 3) a_nil))) (a_cons (e_var 6) a_nil)))))
    (ss_cons (s_if (t_cmp (d_ne hr.units) (e_call (ok__law_word T) hr (by decide) tk (a_cons (e_var 0) (a_cons (e_var 7) a_nil)) (aCons_len (aCons_len aNil_len))) e_str) (ss_one (s_ret e_str)) ss_nil)
    (ss_one (s_ret (e_var 7))))))))))))))
theorem sc__law_near : FnScope ["well", "stem", "fields", "name", "turned", "low", "place", "field"] ["well"] (defScope s__law_near) := ⟨rfl, rfl, rfl, by decide +kernel, rfl, by decide +kernel, by decide +kernel⟩
theorem ok__law_near (T : Top P w K mg) : FnD P w K mg base 3 "_law_near" 1 m__law_near := by
  unfold m__law_near b__law_near
  exact d_def (N := ["well", "stem", "fields", "name", "turned", "low", "place", "field"]) (ps := ["well"]) T.f__law_near sc__law_near rfl rfl (fun _ _ _ _ _ _ us hl => match us, hl with | [_], _ => rfl) (fun f cdv A outer s H E hr tk hp =>
    (ss_cons (s_set (i := 1) sc__law_near.nd (e_cut (e_call (ok__law_name T) hr (by decide) tk (a_cons (e_var 0) (a_cons (e_lst a_nil) a_nil)) (aCons_len (aCons_len aNil_len))) o_none (o_some e_int)))
    (ss_cons (s_set (i := 2) sc__law_near.nd (e_lst a_nil))
    (ss_cons (s_for hp (i_seq (e_tup (a_cons (e_bin d_add (e_var 1) e_str) (a_cons (e_var 1) (a_cons (e_bin d_add (e_var 1) e_str) (a_cons (e_bin d_add e_str (e_var 1)) (a_cons (e_cut (e_var 1) o_none (o_some e_int)) (a_cons (e_bin d_mulY e_str e_int) (a_cons e_str a_nil))))))))) (g_name 3 sc__law_near.nd) (ss_one (s_if (PW.pt (w_and (t_cmp (d_notin hr.units) (e_var 3) (l_alloc (l_comp (own := [("field", 7)]) sc__law_near.nd (i_seq (e_var 2)) (blkOk_by (N := ["well", "stem", "fields", "name", "turned", "low", "place", "field"]) (sc := defScope s__law_near) (by decide +kernel)) (by decide) (fun _ _ _ _ _ => (p_name 7 sc__law_near.nd)) (fun _ _ _ _ _ => ts_nil) (fun _ _ _ _ _ => (e_ix (e_var 7) e_int))))) (w_and1 (t_cmp (d_lt hr.units) (e_callB d_len T.z_len (by decide +kernel) (a_cons (e_var 3) a_nil)) e_int)))) (ss_cons (s_set (i := 5) sc__law_near.nd (e_ix (e_lst (a_cons e_int (a_cons (e_bin d_add (e_un d_neg e_int) (e_call (ok__law_dip T) hr (by decide) tk (a_cons (e_var 0) (a_cons e_int a_nil)) (aCons_len (aCons_len aNil_len)))) (a_cons (e_bin d_sub (e_bin d_pow e_int e_int) e_int) (a_cons (e_un d_neg (e_bin d_pow e_int e_int)) a_nil))))) (e_call (ok__law_dip T) hr (by decide) tk (a_cons (e_var 0) (a_cons e_int a_nil)) (aCons_len (aCons_len aNil_len)))))
    (ss_one (s_expr (e_append (e_var 2) (a_cons (e_tup (a_cons (e_var 3) (a_cons (e_var 5) (a_cons (e_bin d_add (e_var 5) (e_call (ok__law_dip T) hr (by decide) tk (a_cons (e_var 0) (a_cons e_int a_nil)) (aCons_len (aCons_len aNil_len)))) a_nil)))) a_nil))))) ss_nil)))
    (ss_cons (s_set (i := 4) sc__law_near.nd (e_call (ok__law_turned T) hr (by decide) tk (a_cons (e_var 0) (a_cons (e_callB d_len T.z_len (by decide +kernel) (a_cons (e_var 2) a_nil)) a_nil)) (aCons_len (aCons_len aNil_len))))
    (ss_one (s_ret (e_callTy d_tuple T.z_tuple (by decide +kernel) (a_cons (e_cut (l_alloc (l_comp (own := [("place", 6)]) sc__law_near.nd (i_seq (e_var 4)) (blkOk_by (N := ["well", "stem", "fields", "name", "turned", "low", "place", "field"]) (sc := defScope s__law_near) (by decide +kernel)) (by decide) (fun _ _ _ _ _ => (p_name 6 sc__law_near.nd)) (fun _ _ _ _ _ => ts_nil) (fun _ _ _ _ _ => (e_ix (e_var 2) (e_var 6))))) o_none (o_some (e_bin d_add e_int (e_call (ok__law_dip T) hr (by decide) tk (a_cons (e_var 0) (a_cons (e_callB d_len T.z_len (by decide +kernel) (a_cons (e_var 2) a_nil)) a_nil)) (aCons_len (aCons_len aNil_len)))))) a_nil)))))))))
theorem sc__law_same : FnScope ["told", "due", "place"] ["told", "due"] (defScope s__law_same) := ⟨rfl, rfl, rfl, by decide +kernel, rfl, by decide +kernel, by decide +kernel⟩
theorem okr__law_same (T : Top P w K mg) : ∀ j : Nat, FnD P w K mg base (0 + j + 1) "_law_same" 2 (mr__law_same j)
  | 0 => FnD.zero T.f__law_same sc__law_same rfl (fun _ _ _ _ _ _ us hl => match us, hl with | [_, _], _ => rfl)
  | j + 1 => d_def (k := 0 + j + 1) (N := ["told", "due", "place"]) (ps := ["told", "due"]) T.f__law_same sc__law_same rfl rfl (fun _ _ _ _ _ _ us hl => match us, hl with | [_, _], _ => rfl) (fun f cdv A outer s H E hr tk hp =>
    (ss_cons (s_if (t_cmp d_is (e_var 1) e_non) (ss_one (s_ret (e_cmp d_is (e_var 0) e_non))) ss_nil)
    (ss_cons (s_if (t_tru (e_isi T.z_isinstance T.z_bool (by decide +kernel) (e_var 1))) (ss_one (s_ret (e_and (e_isi T.z_isinstance T.z_bool (by decide +kernel) (e_var 0)) (e_one (e_cmp (d_eq hr.units) (e_var 0) (e_var 1)))))) ss_nil)
    (ss_cons (s_if (t_tru (e_isi T.z_isinstance T.z_int (by decide +kernel) (e_var 1))) (ss_one (s_ret (e_and (e_isi T.z_isinstance T.z_int (by decide +kernel) (e_var 0)) (e_and (e_not (e_isi T.z_isinstance T.z_bool (by decide +kernel) (e_var 0))) (e_one (e_cmp (d_eq hr.units) (e_var 0) (e_var 1))))))) ss_nil)
    (ss_cons (s_if (t_tru (e_isi T.z_isinstance T.z_str (by decide +kernel) (e_var 1))) (ss_one (s_ret (e_and (e_isi T.z_isinstance T.z_str (by decide +kernel) (e_var 0)) (e_one (e_cmp (d_eq hr.units) (e_var 0) (e_var 1)))))) ss_nil)
    (ss_cons (s_if (PW.pt (w_or (t_not (t_tru (e_isi T.z_isinstance T.z_tuple (by decide +kernel) (e_var 0)))) (w_or1 (t_cmp (d_ne hr.units) (e_callB d_len T.z_len (by decide +kernel) (a_cons (e_var 0) a_nil)) (e_callB d_len T.z_len (by decide +kernel) (a_cons (e_var 1) a_nil)))))) (ss_one (s_ret e_bl)) ss_nil)
    (ss_cons (s_for hp (i_range1 T.z_range (e_callB d_len T.z_len (by decide +kernel) (a_cons (e_var 1) a_nil))) (g_name 2 sc__law_same.nd) (ss_one (s_if (t_not (t_tru (e_call (okr__law_same T j) hr (by omega) tk (a_cons (e_ix (e_var 0) (e_var 2)) (a_cons (e_ix (e_var 1) (e_var 2)) a_nil)) (aCons_len (aCons_len aNil_len))))) (ss_one (s_ret e_bl)) ss_nil)))
    (ss_one (s_ret e_bl)))))))))
theorem ok__law_same (T : Top P w K mg) : FnD P w K mg base 71 "_law_same" 2 m__law_same := by unfold m__law_same; exact okr__law_same T 70
theorem okhr__law_same (T : Top P w K mg) : ∀ j : Nat, FnDH P w K mg base (0 + j + 1) "_law_same" 2 (mr__law_same j)
  | 0 => FnDH.zero T.f__law_same sc__law_same rfl (fun _ _ _ _ _ _ us hl => match us, hl with | [_, _], _ => rfl)
  | j + 1 => d_defH (k := 0 + j + 1) (N := ["told", "due", "place"]) (ps := ["told", "due"]) T.f__law_same sc__law_same rfl rfl (fun _ _ _ _ _ _ us hl => match us, hl with | [_, _], _ => rfl) (fun f cdv A outer s H E p hr hh tk hp =>
    (ss_cons (s_if (t_cmp d_is (e_var 1) e_non) (ss_one (s_ret (e_cmp d_is (e_var 0) e_non))) ss_nil)
    (ss_cons (s_if (t_tru (e_isi T.z_isinstance T.z_bool (by decide +kernel) (e_var 1))) (ss_one (s_ret (e_and (e_isi T.z_isinstance T.z_bool (by decide +kernel) (e_var 0)) (e_one (e_cmp (d_eq hr.units) (e_var 0) (e_var 1)))))) ss_nil)
    (ss_cons (s_if (t_tru (e_isi T.z_isinstance T.z_int (by decide +kernel) (e_var 1))) (ss_one (s_ret (e_and (e_isi T.z_isinstance T.z_int (by decide +kernel) (e_var 0)) (e_and (e_not (e_isi T.z_isinstance T.z_bool (by decide +kernel) (e_var 0))) (e_one (e_cmp (d_eq hr.units) (e_var 0) (e_var 1))))))) ss_nil)
    (ss_cons (s_if (t_tru (e_isi T.z_isinstance T.z_str (by decide +kernel) (e_var 1))) (ss_one (s_ret (e_and (e_isi T.z_isinstance T.z_str (by decide +kernel) (e_var 0)) (e_one (e_cmp (d_eq hr.units) (e_var 0) (e_var 1)))))) ss_nil)
    (ss_cons (s_if (PW.pt (w_or (t_not (t_tru (e_isi T.z_isinstance T.z_tuple (by decide +kernel) (e_var 0)))) (w_or1 (t_cmp (d_ne hr.units) (e_callB d_len T.z_len (by decide +kernel) (a_cons (e_var 0) a_nil)) (e_callB d_len T.z_len (by decide +kernel) (a_cons (e_var 1) a_nil)))))) (ss_one (s_ret e_bl)) ss_nil)
    (ss_cons (s_forH hp hh (i_range1H T.z_range (e_callB d_len T.z_len (by decide +kernel) (a_cons (e_var 1) a_nil))) (g_name 2 sc__law_same.nd) (ss_one (s_if (t_not (t_tru (e_callH (okhr__law_same T j) hr hh (by omega) tk (a_cons (e_ix (e_var 0) (e_var 2)) (a_cons (e_ix (e_var 1) (e_var 2)) a_nil)) (aCons_len (aCons_len aNil_len))))) (ss_one (s_ret e_bl)) ss_nil)))
    (ss_one (s_ret e_bl)))))))))
theorem okh__law_same (T : Top P w K mg) : FnDH P w K mg base 71 "_law_same" 2 m__law_same := by unfold m__law_same; exact okhr__law_same T 70
theorem sc__law_checked : FnScope ["fields", "thing", "word", "e", "told"] ["fields", "thing"] (defScope s__law_checked) := ⟨rfl, rfl, rfl, by decide +kernel, rfl, by decide +kernel, by decide +kernel⟩
theorem ok__law_checked (T : Top P w K mg) : FnD P w K mg base 72 "_law_checked" 2 m__law_checked := by
  unfold m__law_checked b__law_checked
  exact d_def (N := ["fields", "thing", "word", "e", "told"]) (ps := ["fields", "thing"]) T.f__law_checked sc__law_checked rfl rfl (fun _ _ _ _ _ _ us hl => match us, hl with | [_, _], _ => rfl) (fun f cdv A outer s H E hr tk hp =>
    (ss_cons (s_set (i := 2) sc__law_checked.nd (e_call (ok__law_word T) hr (by decide) tk (a_cons (e_var 0) (a_cons (e_var 1) a_nil)) (aCons_len (aCons_len aNil_len))))
    (ss_cons (s_tryA (i := 3) sc__law_checked.nd tk T.x_BadSaying (fun W pn xe tk hp => (ss_one (s_set (i := 4) sc__law_checked.nd (e_call (ok_check_saying T) hr (by decide) tk (a_cons (e_var 0) (a_cons (e_var 1) a_nil)) (aCons_len (aCons_len aNil_len)))))) (fun p oe pn PO => (ss_one (s_ret (e_and (e_cmp (d_ne hr.units) (e_var 2) e_str) (e_and (e_callT PO (okh__law_same T) hr (by decide) (a_cons (e_xf (i := 3) PO) (a_cons (e_var 2) a_nil)) (aCons_len (aCons_len aNil_len))) (e_and (e_xisT (i := 3) PO T.z_isinstance T.x_DataError) (e_one (e_xisT (i := 3) PO T.z_isinstance T.x_SheetError)))))))))
    (ss_one (s_ret (e_and (e_cmp (d_eq hr.units) (e_var 2) e_str) (e_one (e_call (ok__law_same T) hr (by decide) tk (a_cons (e_var 4) (a_cons (e_ix (e_var 1) e_int) a_nil)) (aCons_len (aCons_len aNil_len))))))))))
theorem sc__law_read : FnScope ["fields", "text", "due", "e", "told"] ["fields", "text"] (defScope s__law_read) := ⟨rfl, rfl, rfl, by decide +kernel, rfl, by decide +kernel, by decide +kernel⟩
theorem ok__law_read (T : Top P w K mg) : FnD P w K mg base 72 "_law_read" 2 m__law_read := by
  unfold m__law_read b__law_read
  exact d_def (N := ["fields", "text", "due", "e", "told"]) (ps := ["fields", "text"]) T.f__law_read sc__law_read rfl rfl (fun _ _ _ _ _ _ us hl => match us, hl with | [_, _], _ => rfl) (fun f cdv A outer s H E hr tk hp =>
    (ss_cons (s_set (i := 2) sc__law_read.nd (e_call (ok__law_read_due T) hr (by decide) tk (a_cons (e_var 0) (a_cons (e_var 1) a_nil)) (aCons_len (aCons_len aNil_len))))
    (ss_cons (s_tryA (i := 3) sc__law_read.nd tk T.x_BadText (fun W pn xe tk hp => (ss_one (s_set (i := 4) sc__law_read.nd (e_call (ok_read_saying T) hr (by decide) tk (a_cons (e_var 0) (a_cons (e_var 1) a_nil)) (aCons_len (aCons_len aNil_len)))))) (fun p oe pn PO => (ss_one (s_ret (e_and (e_callT PO (okh__law_same T) hr (by decide) (a_cons (e_tup (a_cons (e_xf (i := 3) PO) (a_cons (e_xf (i := 3) PO) a_nil))) (a_cons (e_tup (a_cons e_int (a_cons (e_var 2) a_nil))) a_nil)) (aCons_len (aCons_len aNil_len))) (e_and (e_xisT (i := 3) PO T.z_isinstance T.x_TextError) (e_one (e_xisT (i := 3) PO T.z_isinstance T.x_SheetError))))))))
    (ss_one (s_ret (e_call (ok__law_same T) hr (by decide) tk (a_cons (e_var 4) (a_cons (e_var 2) a_nil)) (aCons_len (aCons_len aNil_len))))))))
theorem sc_law : FnScope ["script", "well", "fields", "places", "turn", "place", "way", "answers", "saying", "text", "thing"] ["script"] (defScope s_law) := ⟨rfl, rfl, rfl, by decide +kernel, rfl, by decide +kernel, by decide +kernel⟩
theorem ok_law (T : Top P w K mg) {f : Addr} {fd : FuncData} (F : Fun K "law" "law" s_law f fd) : FnOk P w K mg base (L2N.CX P w) 73 f fd ["script"] (spD ⟨K, w, none⟩ mg 1 m_law) := by
  unfold m_law b_law
  exact d_fn (N := ["script", "well", "fields", "places", "turn", "place", "way", "answers", "saying", "text", "thing"]) (ps := ["script"]) F sc_law rfl rfl (fun f cdv A outer s H E hr tk hp =>
    (ss_cons (s_set (i := 1) sc_law.nd (e_call (ok__law_well T) hr (by decide) tk (a_cons (e_var 0) a_nil) (aCons_len aNil_len)))
    (ss_cons (s_set (i := 2) sc_law.nd (e_bin d_add (e_call (ok__law_near T) hr (by decide) tk (a_cons (e_var 1) a_nil) (aCons_len aNil_len)) (e_tup (a_cons (e_tup (a_cons e_str (a_cons (e_un d_neg e_int) (a_cons (e_bin d_add e_int (e_call (ok__law_dip T) hr (by decide) tk (a_cons (e_var 1) (a_cons e_int a_nil)) (aCons_len (aCons_len aNil_len)))) a_nil)))) a_nil))))
    (ss_cons (s_setLc (i := 3) (own := [("place", 5)]) sc_law.nd (i_range1 T.z_range (e_callB d_len T.z_len (by decide +kernel) (a_cons (e_var 2) a_nil))) (blkOk_by (N := ["script", "well", "fields", "places", "turn", "place", "way", "answers", "saying", "text", "thing"]) (sc := defScope s_law) (by decide +kernel)) (by decide) (fun _ _ _ _ _ => (p_name 5 sc_law.nd)) (fun _ _ _ _ _ => (ts_one (t_cmp (d_gtX hr.units) (e_ix (e_ix (e_var 2) (e_var 5)) e_int) (e_ix (e_ix (e_var 2) (e_var 5)) e_int)))) (fun _ _ _ _ _ => (e_var 5)) (sw_true rfl rfl rfl (by decide +kernel)))
    (ss_cons (s_for hp (i_range1 T.z_range e_int) (g_name 4 sc_law.nd) (ss_cons (s_set (i := 5) sc_law.nd (e_ix (e_var 3) (e_call (ok__law_dip T) hr (by decide) tk (a_cons (e_var 1) (a_cons (e_callB d_len T.z_len (by decide +kernel) (a_cons (e_var 3) a_nil)) a_nil)) (aCons_len (aCons_len aNil_len)))))
    (ss_cons (s_set (i := 6) sc_law.nd (e_bin d_sub e_int (e_bin d_mulY e_int (e_call (ok__law_dip T) hr (by decide) tk (a_cons (e_var 1) (a_cons e_int a_nil)) (aCons_len (aCons_len aNil_len))))))
    (ss_cons (s_set (i := 7) sc_law.nd (e_call (ok__law_answers T) hr (by decide) tk (a_cons (e_ix (e_var 2) (e_var 5)) (a_cons (e_var 6) a_nil)) (aCons_len (aCons_len aNil_len))))
    (ss_cons (s_set (i := 8) sc_law.nd (e_tup (a_cons (e_var 5) (a_cons (e_var 6) (a_cons (e_ix (e_var 7) (e_call (ok__law_dip T) hr (by decide) tk (a_cons (e_var 1) (a_cons (e_callB d_len T.z_len (by decide +kernel) (a_cons (e_var 7) a_nil)) a_nil)) (aCons_len (aCons_len aNil_len)))) a_nil)))))
    (ss_cons (s_set (i := 9) sc_law.nd (e_bin d_add (e_bin d_add (e_ix (e_ix (e_var 2) (e_var 5)) e_int) (e_ix (e_lst (a_cons e_str (a_cons e_str (a_cons e_str a_nil)))) (e_bin d_add (e_var 6) e_int))) (e_callTy d_str T.z_str (by decide +kernel) (a_cons (e_ix (e_var 8) e_int) a_nil))))
    (ss_cons (s_if (PW.pt (w_or (t_not (t_tru (e_call (ok__law_same T) hr (by decide) tk (a_cons (e_call (ok_saying_text T) hr (by decide) tk (a_cons (e_var 2) (a_cons (e_var 8) a_nil)) (aCons_len (aCons_len aNil_len))) (a_cons (e_var 9) a_nil)) (aCons_len (aCons_len aNil_len))))) (w_or1 (t_not (t_tru (e_call (ok__law_same T) hr (by decide) tk (a_cons (e_call (ok_read_saying T) hr (by decide) tk (a_cons (e_var 2) (a_cons (e_var 9) a_nil)) (aCons_len (aCons_len aNil_len))) (a_cons (e_var 8) a_nil)) (aCons_len (aCons_len aNil_len)))))))) (ss_one (s_ret e_bl)) ss_nil)
    (ss_cons (s_for hp (i_seq (e_call (ok__law_things T) hr (by decide) tk (a_cons (e_var 1) (a_cons (e_var 2) (a_cons (e_var 8) a_nil))) (aCons_len (aCons_len (aCons_len aNil_len))))) (g_name 10 sc_law.nd) (ss_one (s_if (t_not (t_tru (e_call (ok__law_checked T) hr (by decide) tk (a_cons (e_var 2) (a_cons (e_var 10) a_nil)) (aCons_len (aCons_len aNil_len))))) (ss_one (s_ret e_bl)) ss_nil)))
    (ss_one (s_for hp (i_seq (e_call (ok__law_texts T) hr (by decide) tk (a_cons (e_var 1) (a_cons (e_var 2) (a_cons (e_var 8) a_nil))) (aCons_len (aCons_len (aCons_len aNil_len))))) (g_name 9 sc_law.nd) (ss_one (s_if (t_not (t_tru (e_call (ok__law_read T) hr (by decide) tk (a_cons (e_var 2) (a_cons (e_var 9) a_nil)) (aCons_len (aCons_len aNil_len))))) (ss_one (s_ret e_bl)) ss_nil))))))))))))
    (ss_one (s_ret e_bl)))))))
end
end LW

namespace LW
open PySem PySem.Spec PyProof.Rows L2 DL
theorem all_mk {K : PySem.W.Frag} {h : Heap} {mg : Str → Option Value} {fa f : Addr} {od an : Option Addr} {sl : Array (Option Value)} {oc kV dc pm cd ct : Value} {P : Program} {w : World} (T : Top P w K mg) (X : K.In h) (G : h.Ns mainGlobals mg) (hfa : mg "law" = some (.ref fa))
    (a : PySem.W.nsIn K mainGlobals "law" = some (some (.ref f))) (l : K.lookup f = some ⟨oc, od, .func (PySem.W.fnOf "law" "law" (defArgs s_law) (defBody s_law) (defScope s_law) .none kV dc pm an cd ct), sl⟩) (c : PySem.W.codeIn K cd "law" = true) (k : PySem.W.keepIn K (.ref f) = true) :
    ∃ fd : FuncData, (∀ (s : Shared) (v : Value), BindsTo s fd ⟨[v], []⟩ [("script", v)]) ∧ ∀ base : Heap, K.In base → base.Ns mainGlobals mg → FnOk P w K mg base (L2N.CX P w) 73 fa fd ["script"] (spLaw ⟨K, w, none⟩ m_law) := by
  have e := hfa.symm.trans (PySem.W.mg_of X G a)
  cases e
  exact ⟨_, fun s v => .of_eq rfl, fun base _ _ => law_imp (ok_law T (fun_mk l c k))⟩
end LW
open PySem PySem.W PyProof.Rows
set_option maxHeartbeats 0 in
theorem PySem.Challenge.cw_halffilled_k04_saying_texts_holds : PySem.Challenge.rw_halffilled_k04_saying_texts.Holds := by
  w_on; o_law; k_head; (case hw => w_witness2)
  k_fill
  refine L2.walk_ofB (l := PySem.Challenge.rw_halffilled_k04_saying_texts) (n := 63) (k := 73) (x := "script") (CX := fun w => L2N.CX (PySem.Challenge.rw_halffilled_k04_saying_texts).prog w) (sp := fun w => DL.spLaw ⟨_, w, none⟩ LW.m_law) rfl (by decide) rfl ⟨rfl, by decide, by decide⟩ (fun w h Y => PySem.W.kIn_of Y) ?F (fun w H a ns hl hb ho hS => ⟨a, ns, rfl, DL.only_sq ho hS, Nat.le_trans hl (by decide), LW.law_true ns hl hb, fun _ => rfl⟩) (fun _ _ _ _ _ h => DL.cx_end h)
  case F =>
    intro w mg fa h KX G hmg
    refine' LW.all_mk ?T KX G hmg ?a ?l ?c ?k; (case a => k_is); (case l => k_is); (case c => k_is); (case k => k_is)
    case T =>
      constructor
      · refine' DL.top_f KX G (st := LW.s_is_integer) ?a ?l ?c ?k; (case a => k_is); (case l => k_is); (case c => k_is); (case k => k_is)
      · refine' DL.top_f KX G (st := LW.s_tuple_of) ?a ?l ?c ?k; (case a => k_is); (case l => k_is); (case c => k_is); (case k => k_is)
      · refine' DL.top_f KX G (st := LW.s_written_integer) ?a ?l ?c ?k; (case a => k_is); (case l => k_is); (case c => k_is); (case k => k_is)
      · refine' DL.top_f KX G (st := LW.s_fits_field) ?a ?l ?c ?k; (case a => k_is); (case l => k_is); (case c => k_is); (case k => k_is)
      · refine' DL.top_f KX G (st := LW.s_saying_text) ?a ?l ?c ?k; (case a => k_is); (case l => k_is); (case c => k_is); (case k => k_is)
      · refine' DL.top_f KX G (st := LW.s_way_in) ?a ?l ?c ?k; (case a => k_is); (case l => k_is); (case c => k_is); (case k => k_is)
      · refine' DL.top_f KX G (st := LW.s__law_well) ?a ?l ?c ?k; (case a => k_is); (case l => k_is); (case c => k_is); (case k => k_is)
      · refine' DL.top_f KX G (st := LW.s__law_dip) ?a ?l ?c ?k; (case a => k_is); (case l => k_is); (case c => k_is); (case k => k_is)
      · refine' DL.top_f KX G (st := LW.s__law_is_integer) ?a ?l ?c ?k; (case a => k_is); (case l => k_is); (case c => k_is); (case k => k_is)
      · refine' DL.top_f KX G (st := LW.s__law_answers) ?a ?l ?c ?k; (case a => k_is); (case l => k_is); (case c => k_is); (case k => k_is)
      · refine' DL.top_f KX G (st := LW.s__law_written) ?a ?l ?c ?k; (case a => k_is); (case l => k_is); (case c => k_is); (case k => k_is)
      · refine' DL.top_f KX G (st := LW.s__law_found) ?a ?l ?c ?k; (case a => k_is); (case l => k_is); (case c => k_is); (case k => k_is)
      · refine' DL.top_f KX G (st := LW.s__law_things) ?a ?l ?c ?k; (case a => k_is); (case l => k_is); (case c => k_is); (case k => k_is)
      · refine' DL.top_f KX G (st := LW.s_saying_fault) ?a ?l ?c ?k; (case a => k_is); (case l => k_is); (case c => k_is); (case k => k_is)
      · refine' DL.top_f KX G (st := LW.s_saying_from) ?a ?l ?c ?k; (case a => k_is); (case l => k_is); (case c => k_is); (case k => k_is)
      · refine' DL.top_f KX G (st := LW.s__law_turned) ?a ?l ?c ?k; (case a => k_is); (case l => k_is); (case c => k_is); (case k => k_is)
      · refine' DL.top_f KX G (st := LW.s__law_name) ?a ?l ?c ?k; (case a => k_is); (case l => k_is); (case c => k_is); (case k => k_is)
      · refine' DL.top_f KX G (st := LW.s__law_word) ?a ?l ?c ?k; (case a => k_is); (case l => k_is); (case c => k_is); (case k => k_is)
      · refine' DL.top_f KX G (st := LW.s__law_texts) ?a ?l ?c ?k; (case a => k_is); (case l => k_is); (case c => k_is); (case k => k_is)
      · refine' DL.top_f KX G (st := LW.s_check_saying) ?a ?l ?c ?k; (case a => k_is); (case l => k_is); (case c => k_is); (case k => k_is)
      · refine' DL.top_f KX G (st := LW.s_read_saying) ?a ?l ?c ?k; (case a => k_is); (case l => k_is); (case c => k_is); (case k => k_is)
      · refine' DL.top_f KX G (st := LW.s__law_read_due) ?a ?l ?c ?k; (case a => k_is); (case l => k_is); (case c => k_is); (case k => k_is)
      · refine' DL.top_f KX G (st := LW.s__law_near) ?a ?l ?c ?k; (case a => k_is); (case l => k_is); (case c => k_is); (case k => k_is)
      · refine' DL.top_f KX G (st := LW.s__law_same) ?a ?l ?c ?k; (case a => k_is); (case l => k_is); (case c => k_is); (case k => k_is)
      · refine' DL.top_f KX G (st := LW.s__law_checked) ?a ?l ?c ?k; (case a => k_is); (case l => k_is); (case c => k_is); (case k => k_is)
      · refine' DL.top_f KX G (st := LW.s__law_read) ?a ?l ?c ?k; (case a => k_is); (case l => k_is); (case c => k_is); (case k => k_is)
      · refine' DL.top_f KX G (st := LW.s_law) ?a ?l ?c ?k; (case a => k_is); (case l => k_is); (case c => k_is); (case k => k_is)
      · refine' PySem.W.mg_none_of KX G ?z; (case z => k_is)
      · refine' PySem.W.mg_none_of KX G ?z; (case z => k_is)
      · refine' PySem.W.mg_none_of KX G ?z; (case z => k_is)
      · refine' PySem.W.mg_none_of KX G ?z; (case z => k_is)
      · refine' PySem.W.mg_none_of KX G ?z; (case z => k_is)
      · refine' PySem.W.mg_none_of KX G ?z; (case z => k_is)
      · refine' PySem.W.mg_none_of KX G ?z; (case z => k_is)
      · refine' PySem.W.mg_none_of KX G ?z; (case z => k_is)
      · refine' PySem.W.mg_none_of KX G ?z; (case z => k_is)
      · refine' PySem.W.mg_none_of KX G ?z; (case z => k_is)
      · refine' DL.top_c KX G (v := .str "0123456789") ?cr ?z; (case z => k_is); (case cr => exact ⟨_, rfl⟩)
      · refine' DL.top_c KX G (v := .int (14)) ?cr ?z; (case z => k_is); (case cr => exact ⟨_, rfl⟩)
      · refine' DL.top_tab KX G ?a ?l ?t; (case a => k_is); (case l => k_is); (case t => exact (.one (by decide) (.one (by decide) .nil)))
      · refine' DL.top_x1 (st := DL.initOf (LW.topS 4)) (DL.top_cls KX G ?a ?l ?hbm ?sa ?ga ?gg ?kC ?exC ?tyC ?hdC ?sup ?vE ?mC ?ha ?hnn ?ht ?hm ?any ?noS) ?iC ?tI ?n1 ?lI ?cI ?lc ?hv ?hf ?lcc ?hp ?har ?hb ?hs ?hbi ?htop (by decide) (by decide)
        (case a => k_is)
        (case l => k_is)
        (case hbm => decide +kernel)
        (case sa => k_is)
        (case ga => k_is)
        (case gg => k_is)
        (case kC => k_is)
        (case exC => k_is)
        (case tyC => k_is)
        (case hdC => k_is)
        (case sup => ks_is)
        (case vE => k_is)
        (case mC => k_is)
        (case ha => k_is)
        (case hnn => k_is)
        (case ht => k_is)
        (case hm => k_is)
        (case any => k_is)
        (case noS => k_is)
        (case iC => k_is)
        (case tI => k_is)
        (case n1 => k_is)
        (case lI => k_is)
        (case cI => k_is)
        (case lc => k_is)
        (case hv => first | rfl | kernel_rfl)
        (case hf => first | rfl | kernel_rfl)
        (case lcc => k_is)
        (case hp => first | rfl | kernel_rfl)
        (case har => first | rfl | kernel_rfl)
        (case hb => exact ⟨_, _, _, _, _, _, _, _, _, _, rfl, _, fun env => rfl⟩)
        (case hs => exact ⟨rfl, rfl, rfl, by decide +kernel, rfl, rfl, rfl, by decide +kernel⟩)
        (case hbi => exact fun s us hl => match us, hl with | [_, _], _ => .of_eq rfl)
        (case htop => first | rfl | kernel_rfl)
      · refine' DL.top_x2 (st := DL.initOf (LW.topS 5)) (DL.top_cls KX G ?a ?l ?hbm ?sa ?ga ?gg ?kC ?exC ?tyC ?hdC ?sup ?vE ?mC ?ha ?hnn ?ht ?hm ?any ?noS) ?iC ?tI ?n1 ?n2 ?lI ?cI ?lc ?hv ?hf ?lcc ?hp ?har ?hb ?hs ?hbi ?htop (by decide) (by decide) (by decide) (by decide) (by decide)
        (case a => k_is)
        (case l => k_is)
        (case hbm => decide +kernel)
        (case sa => k_is)
        (case ga => k_is)
        (case gg => k_is)
        (case kC => k_is)
        (case exC => k_is)
        (case tyC => k_is)
        (case hdC => k_is)
        (case sup => ks_is)
        (case vE => k_is)
        (case mC => k_is)
        (case ha => k_is)
        (case hnn => k_is)
        (case ht => k_is)
        (case hm => k_is)
        (case any => k_is)
        (case noS => k_is)
        (case iC => k_is)
        (case tI => k_is)
        (case n1 => k_is)
        (case n2 => k_is)
        (case lI => k_is)
        (case cI => k_is)
        (case lc => k_is)
        (case hv => first | rfl | kernel_rfl)
        (case hf => first | rfl | kernel_rfl)
        (case lcc => k_is)
        (case hp => first | rfl | kernel_rfl)
        (case har => first | rfl | kernel_rfl)
        (case hb => exact ⟨_, _, _, _, _, _, _, _, _, _, _, _, _, _, _, rfl, _, fun env => rfl⟩)
        (case hs => exact ⟨rfl, rfl, rfl, by decide +kernel, rfl, rfl, rfl, by decide +kernel⟩)
        (case hbi => exact fun s us hl => match us, hl with | [_, _, _], _ => .of_eq rfl)
        (case htop => first | rfl | kernel_rfl)
      · refine' DL.top_xc KX G ?a ?t
        (case a => k_is)
        (case t =>
          refine' DL.top_tc KX G ?paBadSayingBadSaying ?phBadSayingBadSaying ?pgBadSayingBadSaying ?_; (case paBadSayingBadSaying => k_is); (case phBadSayingBadSaying => (show PySem.W.exmOne _ _ _ = _; kts_exm)); (case pgBadSayingBadSaying => (show PySem.W.kitOne _ _ _ = _; kit_is))
          refine' DL.top_tc KX G ?paBadSayingBadText ?phBadSayingBadText ?pgBadSayingBadText ?_; (case paBadSayingBadText => k_is); (case phBadSayingBadText => (show PySem.W.exmOne _ _ _ = _; kts_exm)); (case pgBadSayingBadText => (show PySem.W.kitOne _ _ _ = _; kit_is))
          exact DL.top_tn)
      · refine' DL.top_xc KX G ?a ?t
        (case a => k_is)
        (case t =>
          refine' DL.top_tc KX G ?paBadTextBadSaying ?phBadTextBadSaying ?pgBadTextBadSaying ?_; (case paBadTextBadSaying => k_is); (case phBadTextBadSaying => (show PySem.W.exmOne _ _ _ = _; kts_exm)); (case pgBadTextBadSaying => (show PySem.W.kitOne _ _ _ = _; kit_is))
          refine' DL.top_tc KX G ?paBadTextBadText ?phBadTextBadText ?pgBadTextBadText ?_; (case paBadTextBadText => k_is); (case phBadTextBadText => (show PySem.W.exmOne _ _ _ = _; kts_exm)); (case pgBadTextBadText => (show PySem.W.kitOne _ _ _ = _; kit_is))
          exact DL.top_tn)
      · refine' DL.top_xc KX G ?a ?t
        (case a => k_is)
        (case t =>
          refine' DL.top_tc KX G ?paDataErrorBadSaying ?phDataErrorBadSaying ?pgDataErrorBadSaying ?_; (case paDataErrorBadSaying => k_is); (case phDataErrorBadSaying => (show PySem.W.exmOne _ _ _ = _; kts_exm)); (case pgDataErrorBadSaying => (show PySem.W.kitOne _ _ _ = _; kit_is))
          refine' DL.top_tc KX G ?paDataErrorBadText ?phDataErrorBadText ?pgDataErrorBadText ?_; (case paDataErrorBadText => k_is); (case phDataErrorBadText => (show PySem.W.exmOne _ _ _ = _; kts_exm)); (case pgDataErrorBadText => (show PySem.W.kitOne _ _ _ = _; kit_is))
          exact DL.top_tn)
      · refine' DL.top_xc KX G ?a ?t
        (case a => k_is)
        (case t =>
          refine' DL.top_tc KX G ?paSheetErrorBadSaying ?phSheetErrorBadSaying ?pgSheetErrorBadSaying ?_; (case paSheetErrorBadSaying => k_is); (case phSheetErrorBadSaying => (show PySem.W.exmOne _ _ _ = _; kts_exm)); (case pgSheetErrorBadSaying => (show PySem.W.kitOne _ _ _ = _; kit_is))
          refine' DL.top_tc KX G ?paSheetErrorBadText ?phSheetErrorBadText ?pgSheetErrorBadText ?_; (case paSheetErrorBadText => k_is); (case phSheetErrorBadText => (show PySem.W.exmOne _ _ _ = _; kts_exm)); (case pgSheetErrorBadText => (show PySem.W.kitOne _ _ _ = _; kit_is))
          exact DL.top_tn)
      · refine' DL.top_xc KX G ?a ?t
        (case a => k_is)
        (case t =>
          refine' DL.top_tc KX G ?paTextErrorBadSaying ?phTextErrorBadSaying ?pgTextErrorBadSaying ?_; (case paTextErrorBadSaying => k_is); (case phTextErrorBadSaying => (show PySem.W.exmOne _ _ _ = _; kts_exm)); (case pgTextErrorBadSaying => (show PySem.W.kitOne _ _ _ = _; kit_is))
          refine' DL.top_tc KX G ?paTextErrorBadText ?phTextErrorBadText ?pgTextErrorBadText ?_; (case paTextErrorBadText => k_is); (case phTextErrorBadText => (show PySem.W.exmOne _ _ _ = _; kts_exm)); (case pgTextErrorBadText => (show PySem.W.kitOne _ _ _ = _; kit_is))
          exact DL.top_tn)

