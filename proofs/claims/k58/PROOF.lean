import PyProof.Rows.All
import Wide.All
import OpenK.AllK
import Wide.FinOn
import HandS.ForMost
import HandS.ForExc
import HandS.Wide
import HandS.Zip
import HandS.IsInst
import HandS.Conv
import HandS.Flow
import HandS.Style
import HandS.TupAny
import HandS.SortInts
import HandS.TupSets
import HandS.TupMul
import HandS.ExcOwn
import HandS.ExcIs
import HandS.WideMore
import HandS.Codes
import KE.KTupSum
import HandS.WordsExc
import HandS.HeadNt
import PySem.Challenge.RW_wholeanswers_k58_lands_and_firing
set_option Elab.async false
set_option linter.all false
set_option maxRecDepth 100000
set_option maxHeartbeats 4000000
/-! The clean domain: values without a heap but for lists that change; how they stand in the abstract heap of the hand layer. -/
namespace Cl
open PySem PySem.Spec PyProof.Rows L2

inductive D where
  | non | bl (b : Bool) | int (i : Int) | str (x : Str)
  | tup (xs : List D)
  /-- a list that nobody changes; one that stands locked or written -/
  | fl (xs : List D) | kl (xs : List D)
  /-- the i-th changing thing -/
  | ref (i : Nat)
  /-- a def, a class -/
  | ob (a : Addr)
  | ty (n : String)

instance : Inhabited D := ⟨.non⟩

/-- changing things -/
inductive O where
  | lst (xs : List D)
  | dct (kvs : List (Key × D))
  | ins (C : Addr) (fs : List (Str × D))

abbrev Hc := List O
/-- the addresses of the changing things; addresses that no unchanging list may have -/
structure Tk where
  ρ : List Addr
  κ : List Addr
  /-- .. that a caller's lists have: they stand -/
  α : Addr → Prop
abbrev Env := List (Option D)

/-- a list that is untracked; one that is locked or written -/
def SqF (T : Tk) (H : Hp) (a : Addr) (xs : List V) : Prop := H a = some (.lst xs) ∧ a ∉ T.ρ ∧ a ∉ T.κ
def SqK (K : PySem.W.Frag) (T : Tk) (H : Hp) (a : Addr) (xs : List V) : Prop :=
  ((∃ o, H a = some (.frz o (.lst xs))) ∨ (H a = some (.lst xs) ∧ T.α a)) ∨
    ∃ (o : Obj) (its : Array Value) (n : Nat), K.lookup a = some o ∧ o.cls = .type "list" ∧ o.dict = none ∧ o.data = .seq its n ∧ its.size ≤ sizeLine ∧ Vals xs its.toList
theorem SqF.sq {K : PySem.W.Frag} {T : Tk} {H : Hp} {a : Addr} {xs : List V} (h : SqF T H a xs) : SqL K H a xs := .inl (.inl h.1)
theorem SqK.sq {K : PySem.W.Frag} {T : Tk} {H : Hp} {a : Addr} {xs : List V} (h : SqK K T H a xs) : SqL K H a xs := by
  rcases h with (h | h) | h
  · exact .inl (.inr h)
  · exact .inl (.inl h.1)
  · exact .inr h

mutual
def Rep (K : PySem.W.Frag) (T : Tk) (H : Hp) : D → V → Prop
  | .non, v => v = .non
  | .bl b, v => v = .bl b
  | .int i, v => v = .int i
  | .str x, v => v = .str x
  | .tup xs, v => ∃ a vs, v = .ref a ∧ SqT K H a vs ∧ vs.length ≤ sizeLine ∧ RepL K T H xs vs
  | .fl xs, v => ∃ a vs, v = .ref a ∧ SqF T H a vs ∧ vs.length ≤ sizeLine ∧ RepL K T H xs vs
  | .kl xs, v => ∃ a vs, v = .ref a ∧ SqK K T H a vs ∧ vs.length ≤ sizeLine ∧ RepL K T H xs vs
  | .ref i, v => ∃ a, v = .ref a ∧ T.ρ[i]? = some a
  | .ob a, v => v = .ref a
  | .ty n, v => v = .ty n
def RepL (K : PySem.W.Frag) (T : Tk) (H : Hp) : List D → List V → Prop
  | [], vs => vs = []
  | d :: ds, vs => ∃ v r, vs = v :: r ∧ Rep K T H d v ∧ RepL K T H ds r
end

/-- the attributes, the pairs of a dict -/
def RepKV {κ : Type} (K : PySem.W.Frag) (T : Tk) (H : Hp) : List (κ × D) → List (κ × V) → Prop
  | [], vs => vs = []
  | (k, d) :: ds, vs => ∃ v r, vs = (k, v) :: r ∧ Rep K T H d v ∧ RepKV K T H ds r

def RepO (K : PySem.W.Frag) (T : Tk) (H : Hp) : O → Addr → Prop
  | .lst xs, a => ∃ vs, H a = some (.lst vs) ∧ vs.length ≤ sizeLine ∧ RepL K T H xs vs
  | .dct kvs, a => ∃ ws, H a = some (.dK ws) ∧ ws.length ≤ sizeLine ∧ RepKV K T H kvs ws
  | .ins C fs, a => ∃ dx ws, H a = some (.ins C dx ws) ∧ ws.length ≤ 1000 ∧ RepKV K T H fs ws

def tracked : HO → Prop
  | .lst _ => True
  | .dK _ => True
  | .ins _ _ _ => True
  | _ => False
structure Wd (K : PySem.W.Frag) (T : Tk) (hc : Hc) (H : Hp) : Prop where
  nd : T.ρ.Nodup
  len : T.ρ.length = hc.length
  obj : ∀ (i : Nat) o, hc[i]? = some o → ∃ a, T.ρ[i]? = some a ∧ RepO K T H o a
  gh : ∀ a ∈ T.κ, a ∉ T.ρ ∧ ∃ o, H a = some o ∧ tracked o
  al : ∀ a, T.α a → a ∉ T.ρ ∧ ∃ o, H a = some o

/-- what came about: new tracked things; all that was not tracked here stands -/
structure Ext (T : Tk) (H : Hp) (T' : Tk) (H' : Hp) : Prop where
  pre : ∃ l, T'.ρ = T.ρ ++ l
  gh : T'.κ = T.κ
  al : T'.α = T.α
  fr : ∀ b o, H b = some o → b ∉ T.ρ → H' b = some o
  new : ∀ b ∈ T'.ρ, b ∈ T.ρ ∨ H b = none

/-- .. where some addresses were hidden -/
structure ExtG (T : Tk) (H : Hp) (T' : Tk) (H' : Hp) : Prop where
  pre : ∃ l, T'.ρ = T.ρ ++ l
  gk : ∀ b ∈ T'.κ, b ∈ T.κ ∨ b ∈ T.ρ ∨ H b = none
  al : T'.α = T.α
  fr : ∀ b o, H b = some o → b ∉ T.ρ → H' b = some o
  new : ∀ b ∈ T'.ρ, b ∈ T.ρ ∨ H b = none

def EnvR (K : PySem.W.Frag) (T : Tk) (H : Hp) (env : Env) (σ : L2.St) : Prop :=
  σ.length = env.length ∧ ∀ (i : Nat) d, env[i]? = some (some d) → ∃ v, σ[i]? = some (some v) ∧ Rep K T H d v

section
variable {K : PySem.W.Frag} {T T' T1 T2 : Tk} {H H' H1 H2 : Hp} {hc hc' : Hc}

theorem Ext.refl (T : Tk) (H : Hp) : Ext T H T H := ⟨⟨[], by simp⟩, rfl, rfl, fun _ _ h _ => h, fun _ h => .inl h⟩
theorem Ext.trans (a : Ext T H T1 H1) (b : Ext T1 H1 T2 H2) : Ext T H T2 H2 := by
  refine ⟨?_, b.gh.trans a.gh, b.al.trans a.al, fun c o h n => ?_, fun c h => ?_⟩
  · obtain ⟨l, e⟩ := a.pre
    obtain ⟨m, e'⟩ := b.pre
    exact ⟨l ++ m, by rw [e', e, List.append_assoc]⟩
  · refine b.fr c o (a.fr c o h n) fun hm => ?_
    rcases a.new c hm with z | z
    · exact n z
    · rw [h] at z; cases z
  · rcases b.new c h with z | z
    · exact a.new c z
    · cases q : H c with
      | none => exact .inr rfl
      | some o =>
        by_cases m : c ∈ T.ρ
        · exact .inl m
        · rw [a.fr c o q m] at z; cases z
theorem Ext.g (e : Ext T H T' H') : ExtG T H T' H' := ⟨e.pre, fun b h => .inl (by rw [← e.gh]; exact h), e.al, e.fr, e.new⟩
theorem ExtG.trans (a : ExtG T H T1 H1) (b : ExtG T1 H1 T2 H2) : ExtG T H T2 H2 := by
  have st : ∀ c, c ∈ T.ρ ∨ H c = none ∨ ∃ o, H1 c = some o := fun c => by
    cases q : H c with
    | none => exact .inr (.inl rfl)
    | some o =>
      by_cases m : c ∈ T.ρ
      · exact .inl m
      · exact .inr (.inr ⟨o, a.fr c o q m⟩)
  refine ⟨?_, fun c h => ?_, b.al.trans a.al, fun c o h n => ?_, fun c h => ?_⟩
  · obtain ⟨l, e⟩ := a.pre
    obtain ⟨m, e'⟩ := b.pre
    exact ⟨l ++ m, by rw [e', e, List.append_assoc]⟩
  · rcases b.gk c h with z | z | z
    · exact a.gk c z
    · rcases a.new c z with z | z
      · exact .inr (.inl z)
      · exact .inr (.inr z)
    · rcases st c with m | m | ⟨o, m⟩
      · exact .inr (.inl m)
      · exact .inr (.inr m)
      · rw [m] at z; cases z
  · refine b.fr c o (a.fr c o h n) fun hm => ?_
    rcases a.new c hm with z | z
    · exact n z
    · rw [h] at z; cases z
  · rcases b.new c h with z | z
    · exact a.new c z
    · rcases st c with m | m | ⟨o, m⟩
      · exact .inl m
      · exact .inr m
      · rw [m] at z; cases z
theorem ExtG.get (e : ExtG T H T' H') {i : Nat} {a : Addr} (h : T.ρ[i]? = some a) : T'.ρ[i]? = some a := by
  obtain ⟨l, e'⟩ := e.pre
  have hi : i < T.ρ.length := by
    rcases Nat.lt_or_ge i T.ρ.length with z | z
    · exact z
    · rw [List.getElem?_eq_none_iff.mpr z] at h; cases h
  rw [e', List.getElem?_append_left hi]; exact h
theorem Ext.get (e : Ext T H T' H') {i : Nat} {a : Addr} (h : T.ρ[i]? = some a) : T'.ρ[i]? = some a := e.g.get h

theorem Wd.trk (w : Wd K T hc H) {a : Addr} (h : a ∈ T.ρ) : ∃ o, H a = some o ∧ tracked o := by
  obtain ⟨i, hi, e⟩ := List.mem_iff_getElem.mp h
  have h2 : i < hc.length := w.len ▸ hi
  obtain ⟨b, hb, r⟩ := w.obj i hc[i] (List.getElem?_eq_getElem h2)
  have eb : b = a := by
    rw [List.getElem?_eq_getElem hi, e] at hb
    exact (Option.some.inj hb).symm
  subst eb
  cases q : hc[i] with
  | lst xs => rw [q] at r; obtain ⟨vs, e, _⟩ := r; exact ⟨_, e, trivial⟩
  | dct xs => rw [q] at r; obtain ⟨vs, e, _⟩ := r; exact ⟨_, e, trivial⟩
  | ins C fs => rw [q] at r; obtain ⟨dx, vs, e, _⟩ := r; exact ⟨_, e, trivial⟩
theorem Wd.notin (w : Wd K T hc H) {a : Addr} {o : HO} (h : H a = some o) (n : ¬ tracked o) : a ∉ T.ρ := fun m => by
  obtain ⟨o', e, t⟩ := w.trk m
  rw [h] at e; cases e; exact n t
theorem Wd.none_notin (w : Wd K T hc H) {a : Addr} (h : H a = none) : a ∉ T.ρ := fun m => by
  obtain ⟨o', e, t⟩ := w.trk m
  rw [h] at e; cases e
theorem Wd.none_al (w : Wd K T hc H) {a : Addr} (h : H a = none) : ¬ T.α a := fun m => by
  obtain ⟨_, o', e⟩ := w.al a m
  rw [h] at e; cases e
theorem Wd.none_gh (w : Wd K T hc H) {a : Addr} (h : H a = none) : a ∉ T.κ := fun m => by
  obtain ⟨_, o', e, t⟩ := w.gh a m
  rw [h] at e; cases e

theorem sqT_ext (w : Wd K T hc H) (e : ExtG T H T' H') {a : Addr} {vs : List V} (h : SqT K H a vs) : SqT K H' a vs := by
  rcases h with (h | ⟨o, h⟩) | h
  · exact .inl (.inl (e.fr _ _ h (w.notin h id)))
  · exact .inl (.inr ⟨o, e.fr _ _ h (w.notin h id)⟩)
  · exact .inr h
theorem sqF_ext (e : ExtG T H T' H') {a : Addr} {vs : List V} (h : SqF T H a vs) : SqF T' H' a vs := by
  obtain ⟨h, n, g⟩ := h
  refine ⟨e.fr _ _ h n, fun m => ?_, fun m => ?_⟩
  · rcases e.new _ m with z | z
    · exact n z
    · rw [h] at z; cases z
  · rcases e.gk _ m with z | z | z
    · exact g z
    · exact n z
    · rw [h] at z; cases z
theorem sqK_ext (w : Wd K T hc H) (e : ExtG T H T' H') {a : Addr} {vs : List V} (h : SqK K T H a vs) : SqK K T' H' a vs := by
  rcases h with (⟨o, h⟩ | h) | h
  · exact .inl (.inl ⟨o, e.fr _ _ h (w.notin h id)⟩)
  · exact .inl (.inr ⟨e.fr _ _ h.1 (w.al a h.2).1, by rw [e.al]; exact h.2⟩)
  · exact .inr h

mutual
theorem Rep.extG (w : Wd K T hc H) (e : ExtG T H T' H') : ∀ (d : D) (v : V), Rep K T H d v → Rep K T' H' d v
  | .non, _, h => h
  | .bl _, _, h => h
  | .int _, _, h => h
  | .str _, _, h => h
  | .ob _, _, h => h
  | .ty _, _, h => h
  | .ref i, v, h => by
    simp only [Rep] at h ⊢
    obtain ⟨a, q, r⟩ := h
    exact ⟨a, q, e.get r⟩
  | .tup xs, v, h => by
    simp only [Rep] at h ⊢
    obtain ⟨a, vs, q, s, l, r⟩ := h
    exact ⟨a, vs, q, sqT_ext w e s, l, RepL.extG w e xs vs r⟩
  | .fl xs, v, h => by
    simp only [Rep] at h ⊢
    obtain ⟨a, vs, q, s, l, r⟩ := h
    exact ⟨a, vs, q, sqF_ext e s, l, RepL.extG w e xs vs r⟩
  | .kl xs, v, h => by
    simp only [Rep] at h ⊢
    obtain ⟨a, vs, q, s, l, r⟩ := h
    exact ⟨a, vs, q, sqK_ext w e s, l, RepL.extG w e xs vs r⟩
theorem RepL.extG (w : Wd K T hc H) (e : ExtG T H T' H') : ∀ (ds : List D) (vs : List V), RepL K T H ds vs → RepL K T' H' ds vs
  | [], _, h => h
  | d :: ds, vs, h => by
    simp only [RepL] at h ⊢
    obtain ⟨v, r, q, a, b⟩ := h
    exact ⟨v, r, q, Rep.extG w e d v a, RepL.extG w e ds r b⟩
end
theorem RepKV.extG {κ : Type} (w : Wd K T hc H) (e : ExtG T H T' H') : ∀ (ds : List (κ × D)) (vs : List (κ × V)), RepKV K T H ds vs → RepKV K T' H' ds vs
  | [], _, h => h
  | (k, d) :: ds, vs, h => by
    simp only [RepKV] at h ⊢
    obtain ⟨v, r, q, a, b⟩ := h
    exact ⟨v, r, q, Rep.extG w e d v a, RepKV.extG w e ds r b⟩
theorem EnvR.extG (w : Wd K T hc H) (e : ExtG T H T' H') {env : Env} {σ : L2.St} (h : EnvR K T H env σ) : EnvR K T' H' env σ :=
  ⟨h.1, fun i d q => let ⟨v, a, b⟩ := h.2 i d q; ⟨v, a, Rep.extG w e d v b⟩⟩

theorem Rep.ext (w : Wd K T hc H) (e : Ext T H T' H') (d : D) (v : V) (h : Rep K T H d v) : Rep K T' H' d v := Rep.extG w e.g d v h
theorem RepL.ext (w : Wd K T hc H) (e : Ext T H T' H') (ds : List D) (vs : List V) (h : RepL K T H ds vs) : RepL K T' H' ds vs := RepL.extG w e.g ds vs h
theorem RepKV.ext {κ : Type} (w : Wd K T hc H) (e : Ext T H T' H') (ds : List (κ × D)) (vs : List (κ × V)) (h : RepKV K T H ds vs) : RepKV K T' H' ds vs := RepKV.extG w e.g ds vs h
theorem EnvR.ext (w : Wd K T hc H) (e : Ext T H T' H') {env : Env} {σ : L2.St} (h : EnvR K T H env σ) : EnvR K T' H' env σ := EnvR.extG w e.g h

/-! lists of values -/
theorem RepL.length : ∀ {ds : List D} {vs : List V}, RepL K T H ds vs → vs.length = ds.length
  | [], _, h => by simp only [RepL] at h; rw [h]; rfl
  | d :: ds, vs, h => by
    simp only [RepL] at h
    obtain ⟨v, r, q, a, b⟩ := h
    rw [q, List.length_cons, List.length_cons, RepL.length b]
theorem RepL.nil : RepL K T H [] [] := by simp only [RepL]
theorem RepL.cons {d : D} {v : V} {ds : List D} {vs : List V} (a : Rep K T H d v) (b : RepL K T H ds vs) : RepL K T H (d :: ds) (v :: vs) := by
  simp only [RepL]; exact ⟨v, vs, rfl, a, b⟩
theorem RepL.append : ∀ {ds es : List D} {vs us : List V}, RepL K T H ds vs → RepL K T H es us → RepL K T H (ds ++ es) (vs ++ us)
  | [], es, vs, us, h, h' => by simp only [RepL] at h; rw [h]; exact h'
  | d :: ds, es, vs, us, h, h' => by
    simp only [RepL] at h
    obtain ⟨v, r, q, a, b⟩ := h
    rw [q]; exact RepL.cons a (RepL.append b h')
theorem RepL.get : ∀ {ds : List D} {vs : List V}, RepL K T H ds vs → ∀ {i : Nat} {d : D}, ds[i]? = some d → ∃ v, vs[i]? = some v ∧ Rep K T H d v
  | [], _, _, _, _, e => by simp at e
  | d :: ds, vs, h, 0, x, e => by
    simp only [RepL] at h
    obtain ⟨v, r, q, a, b⟩ := h
    simp at e; subst e
    exact ⟨v, by rw [q]; rfl, a⟩
  | d :: ds, vs, h, i + 1, x, e => by
    simp only [RepL] at h
    obtain ⟨v, r, q, a, b⟩ := h
    obtain ⟨u, e1, e2⟩ := RepL.get b (i := i) (d := x) (by simpa using e)
    exact ⟨u, by rw [q]; simpa using e1, e2⟩
theorem RepL.getV : ∀ {ds : List D} {vs : List V}, RepL K T H ds vs → ∀ {i : Nat} {v : V}, vs[i]? = some v → ∃ d, ds[i]? = some d ∧ Rep K T H d v := fun {ds vs} h {i v} e => by
  have hl := h.length
  have hi : i < ds.length := by
    rw [← hl]
    rcases Nat.lt_or_ge i vs.length with z | z
    · exact z
    · rw [List.getElem?_eq_none_iff.mpr z] at e; cases e
  obtain ⟨u, e1, e2⟩ := h.get (List.getElem?_eq_getElem hi)
  rw [e] at e1; cases e1
  exact ⟨_, List.getElem?_eq_getElem hi, e2⟩
theorem RepL.drop : ∀ {ds : List D} {vs : List V} (n : Nat), RepL K T H ds vs → RepL K T H (ds.drop n) (vs.drop n)
  | _, _, 0, h => h
  | [], vs, n + 1, h => by simp only [RepL] at h; rw [h]; exact RepL.nil
  | d :: ds, vs, n + 1, h => by
    simp only [RepL] at h
    obtain ⟨v, r, q, a, b⟩ := h
    rw [q]; exact RepL.drop n b
theorem RepL.take : ∀ {ds : List D} {vs : List V} (n : Nat), RepL K T H ds vs → RepL K T H (ds.take n) (vs.take n)
  | _, _, 0, h => RepL.nil
  | [], vs, n + 1, h => by simp only [RepL] at h; rw [h]; exact RepL.nil
  | d :: ds, vs, n + 1, h => by
    simp only [RepL] at h
    obtain ⟨v, r, q, a, b⟩ := h
    rw [q]; exact RepL.cons a (RepL.take n b)
theorem RepL.set : ∀ {ds : List D} {vs : List V} (n : Nat) {d : D} {v : V}, RepL K T H ds vs → Rep K T H d v → RepL K T H (ds.set n d) (vs.set n v)
  | [], vs, n, d, v, h, h' => by simp only [RepL] at h; rw [h]; exact RepL.nil
  | d :: ds, vs, 0, x, y, h, h' => by
    simp only [RepL] at h
    obtain ⟨v, r, q, a, b⟩ := h
    rw [q]; exact RepL.cons h' b
  | d :: ds, vs, n + 1, x, y, h, h' => by
    simp only [RepL] at h
    obtain ⟨v, r, q, a, b⟩ := h
    rw [q]; exact RepL.cons a (RepL.set n b h')
theorem RepL.eraseIdx : ∀ {ds : List D} {vs : List V} (n : Nat), RepL K T H ds vs → RepL K T H (ds.eraseIdx n) (vs.eraseIdx n)
  | [], vs, n, h => by simp only [RepL] at h; rw [h]; exact RepL.nil
  | d :: ds, vs, 0, h => by
    simp only [RepL] at h
    obtain ⟨v, r, q, a, b⟩ := h
    rw [q]; exact b
  | d :: ds, vs, n + 1, h => by
    simp only [RepL] at h
    obtain ⟨v, r, q, a, b⟩ := h
    rw [q]; exact RepL.cons a (RepL.eraseIdx n b)
theorem RepL.reverse {ds : List D} {vs : List V} (h : RepL K T H ds vs) : RepL K T H ds.reverse vs.reverse := by
  induction ds generalizing vs with
  | nil => simp only [RepL] at h; rw [h]; exact RepL.nil
  | cons d ds ih =>
    simp only [RepL] at h
    obtain ⟨v, r, q, a, b⟩ := h
    rw [q, List.reverse_cons, List.reverse_cons]
    exact RepL.append (ih b) (RepL.cons a RepL.nil)
theorem repL_ints : ∀ (ns : List Int), RepL K T H (ns.map D.int) (ns.map V.int)
  | [] => RepL.nil
  | n :: ns => RepL.cons (by simp only [Rep]) (repL_ints ns)
theorem repL_bls : ∀ (ns : List Bool), RepL K T H (ns.map D.bl) (ns.map V.bl)
  | [] => RepL.nil
  | n :: ns => RepL.cons (by simp only [Rep]) (repL_bls ns)

/-- values whose form is read off the clean value alone -/
def flat : D → Option V
  | .non => some .non
  | .bl b => some (.bl b)
  | .int i => some (.int i)
  | .str x => some (.str x)
  | .ob a => some (.ref a)
  | .ty n => some (.ty n)
  | _ => none
theorem rep_flat {d : D} {v u : V} (h : Rep K T H d v) (f : flat d = some u) : v = u := by
  cases d <;> simp only [flat, Option.some.injEq, reduceCtorEq] at f <;> simp only [Rep] at h <;> rw [h, f]
theorem flat_rep {d : D} {u : V} (f : flat d = some u) : Rep K T H d u := by
  cases d <;> simp only [flat, Option.some.injEq, reduceCtorEq] at f <;> simp only [Rep] <;> exact f.symm

/-! ### new things, things written -/
theorem Ext.upd_new {p : Addr} {o : HO} (hp : H p = none) : Ext T H T (upd H p o) :=
  ⟨⟨[], by simp⟩, rfl, rfl, fun b x h _ => by rw [upd_ne (ne_of_none h hp)]; exact h, fun _ h => .inl h⟩
theorem RepO.ext (w : Wd K T hc H) (e : ExtG T H T' H') {o : O} {a : Addr} (h : RepO K T H o a) (same : H' a = H a) : RepO K T' H' o a := by
  cases o with
  | lst xs => obtain ⟨vs, q, l, r⟩ := h; exact ⟨vs, same.trans q, l, RepL.extG w e _ _ r⟩
  | dct xs => obtain ⟨vs, q, l, r⟩ := h; exact ⟨vs, same.trans q, l, RepKV.extG w e _ _ r⟩
  | ins C fs => obtain ⟨dx, vs, q, l, r⟩ := h; exact ⟨dx, vs, same.trans q, l, RepKV.extG w e _ _ r⟩
/-- an untracked new object -/
theorem Wd.upd_new (w : Wd K T hc H) {p : Addr} {o : HO} (hp : H p = none) : Wd K T hc (upd H p o) := by
  refine ⟨w.nd, w.len, fun i x hx => ?_, fun a ha => ?_, fun a ha => ⟨(w.al a ha).1, by
    obtain ⟨_, x, e⟩ := w.al a ha
    exact ⟨x, by rw [upd_ne (ne_of_none e hp)]; exact e⟩⟩⟩
  · obtain ⟨a, ha, r⟩ := w.obj i x hx
    refine ⟨a, ha, RepO.ext w (Ext.upd_new hp).g r ?_⟩
    refine upd_ne fun z => ?_
    subst z
    exact w.none_notin hp (List.mem_iff_getElem?.mpr ⟨i, ha⟩)
  · obtain ⟨n, x, e, t⟩ := w.gh a ha
    exact ⟨n, x, by rw [upd_ne (ne_of_none e hp)]; exact e, t⟩
theorem Rep.upd_new (w : Wd K T hc H) {p : Addr} {o : HO} (hp : H p = none) {d : D} {v : V} (h : Rep K T H d v) : Rep K T (upd H p o) d v := Rep.ext w (Ext.upd_new hp) d v h
theorem RepL.upd_new (w : Wd K T hc H) {p : Addr} {o : HO} (hp : H p = none) {ds : List D} {vs : List V} (h : RepL K T H ds vs) : RepL K T (upd H p o) ds vs := RepL.ext w (Ext.upd_new hp) ds vs h
/-- a new tuple -/
theorem rep_new_tup (w : Wd K T hc H) {p : Addr} (hp : H p = none) {ds : List D} {vs : List V} (h : RepL K T H ds vs) (hl : vs.length ≤ sizeLine) : Rep K T (upd H p (.tup vs)) (.tup ds) (.ref p) := by
  simp only [Rep]
  exact ⟨p, vs, rfl, .inl (.inl upd_same), hl, RepL.upd_new w hp h⟩
theorem rep_new_fl (w : Wd K T hc H) {p : Addr} (hp : H p = none) {ds : List D} {vs : List V} (h : RepL K T H ds vs) (hl : vs.length ≤ sizeLine) : Rep K T (upd H p (.lst vs)) (.fl ds) (.ref p) := by
  simp only [Rep]
  exact ⟨p, vs, rfl, ⟨upd_same, w.none_notin hp, w.none_gh hp⟩, hl, RepL.upd_new w hp h⟩
theorem Ext.write {a : Addr} {o : HO} (ha : a ∈ T.ρ) : Ext T H T (upd H a o) :=
  ⟨⟨[], by simp⟩, rfl, rfl, fun b x h n => by rw [upd_ne (fun z => n (by rw [z]; exact ha))]; exact h, fun _ h => .inl h⟩
/-- the tracked thing at i is written -/
theorem Wd.write (w : Wd K T hc H) {i : Nat} {a : Addr} {o : HO} {oc : O} (ha : T.ρ[i]? = some a) (r : RepO K T (upd H a o) oc a) : Wd K T (hc.set i oc) (upd H a o) := by
  have hi : i < hc.length := by
    rw [← w.len]
    rcases Nat.lt_or_ge i T.ρ.length with z | z
    · exact z
    · rw [List.getElem?_eq_none_iff.mpr z] at ha; cases ha
  refine ⟨w.nd, by rw [w.len, List.length_set], fun j x hx => ?_, fun b hb => ?_, fun b hb => ⟨(w.al b hb).1, by
    obtain ⟨n, x, e⟩ := w.al b hb
    exact ⟨x, by rw [upd_ne (fun z => n (by rw [z]; exact List.mem_iff_getElem?.mpr ⟨i, ha⟩))]; exact e⟩⟩⟩
  · by_cases e : j = i
    · subst e
      rw [List.getElem?_set_self hi] at hx
      cases hx
      exact ⟨a, ha, r⟩
    · rw [List.getElem?_set_ne (fun z => e z.symm)] at hx
      obtain ⟨b, hb, rb⟩ := w.obj j x hx
      refine ⟨b, hb, RepO.ext w (Ext.write (List.mem_iff_getElem?.mpr ⟨i, ha⟩)).g rb (upd_ne fun z => ?_)⟩
      subst z
      exact e (nd_ix w.nd hb ha)
  · obtain ⟨n, x, q, t⟩ := w.gh b hb
    exact ⟨n, x, by rw [upd_ne (fun z => n (by rw [z]; exact List.mem_iff_getElem?.mpr ⟨i, ha⟩))]; exact q, t⟩
/-- one more tracked address -/
abbrev Tk.snoc (T : Tk) (p : Addr) : Tk := ⟨T.ρ ++ [p], T.κ, T.α⟩
theorem Wd.snoc (w : Wd K T hc H) {p : Addr} {o : HO} {oc : O} (hp : H p = none) (r : RepO K (T.snoc p) (upd H p o) oc p) : Wd K (T.snoc p) (hc ++ [oc]) (upd H p o) ∧ Ext T H (T.snoc p) (upd H p o) := by
  have np : p ∉ T.ρ := w.none_notin hp
  have e : Ext T H (T.snoc p) (upd H p o) := by
    refine ⟨⟨[p], rfl⟩, rfl, rfl, fun b x h _ => by rw [upd_ne (ne_of_none h hp)]; exact h, fun b hb => ?_⟩
    rcases List.mem_append.mp hb with z | z
    · exact .inl z
    · rw [List.mem_singleton] at z; subst z; exact .inr hp
  refine ⟨⟨?_, by simp [w.len], fun i x hx => ?_, fun b hb => ?_, fun b hb => ⟨fun z => ?_, by
    obtain ⟨n, x, q⟩ := w.al b hb
    exact ⟨x, by rw [upd_ne (ne_of_none q hp)]; exact q⟩⟩⟩, e⟩
  · show (T.ρ ++ [p]).Nodup
    rw [List.nodup_append]
    refine ⟨w.nd, by simp, fun a ha b hb z => ?_⟩
    rw [List.mem_singleton] at hb; subst hb; subst z; exact np ha
  · by_cases hi : i < hc.length
    · rw [List.getElem?_append_left hi] at hx
      obtain ⟨a, ha, ra⟩ := w.obj i x hx
      refine ⟨a, e.get ha, RepO.ext w e.g ra (upd_ne fun z => ?_)⟩
      subst z; exact np (List.mem_iff_getElem?.mpr ⟨i, ha⟩)
    · have hi2 : i = hc.length := by
        rcases Nat.lt_or_ge i (hc ++ [oc]).length with z | z
        · simp at z; omega
        · rw [List.getElem?_eq_none_iff.mpr z] at hx; cases hx
      subst hi2
      rw [List.getElem?_append_right (Nat.le_refl _)] at hx
      simp at hx; subst hx
      exact ⟨p, by show (T.ρ ++ [p])[hc.length]? = some p; rw [← w.len, List.getElem?_append_right (Nat.le_refl _)]; simp, r⟩
  · obtain ⟨n, x, q, t⟩ := w.gh b hb
    refine ⟨fun z => ?_, x, by rw [upd_ne (ne_of_none q hp)]; exact q, t⟩
    rcases List.mem_append.mp z with y | y
    · exact n y
    · rw [List.mem_singleton] at y; subst y; rw [q] at hp; cases hp
  · rcases List.mem_append.mp z with y | y
    · exact (w.al b hb).1 y
    · rw [List.mem_singleton] at y; subst y; exact w.none_al hp hb
end

/-! ### a list that is being made: nothing else is at its address -/
abbrev Tk.hide (T : Tk) (p : Addr) : Tk := ⟨T.ρ, p :: T.κ, T.α⟩
def without (H : Hp) (p : Addr) : Hp := fun b => if b = p then none else H b
theorem without_same {H : Hp} {p : Addr} : without H p p = none := if_pos rfl
theorem without_ne {H : Hp} {p b : Addr} (h : b ≠ p) : without H p b = H b := if_neg h
theorem upd_without {H : Hp} {p : Addr} {o : HO} (h : H p = some o) : upd (without H p) p o = H := by
  funext b
  by_cases e : b = p
  · subst e; rw [upd_same, h]
  · rw [upd_ne e, without_ne e]
section
variable {K : PySem.W.Frag} {T T' : Tk} {H H' : Hp} {hc hc' : Hc} {p : Addr}
theorem ExtG.hide (hp : H p = none) {o : HO} : ExtG T H (T.hide p) (upd H p o) :=
  ⟨⟨[], by simp⟩, fun b h => by
    rcases List.mem_cons.mp h with z | z
    · subst z; exact .inr (.inr hp)
    · exact .inl z, rfl, fun b x h _ => by rw [upd_ne (ne_of_none h hp)]; exact h, fun _ h => .inl h⟩
theorem Rep.hide (w : Wd K T hc H) (hp : H p = none) {o : HO} (d : D) (v : V) (h : Rep K T H d v) : Rep K (T.hide p) (upd H p o) d v := Rep.extG w (ExtG.hide hp) d v h
theorem RepL.hide (w : Wd K T hc H) (hp : H p = none) {o : HO} (d : List D) (v : List V) (h : RepL K T H d v) : RepL K (T.hide p) (upd H p o) d v := RepL.extG w (ExtG.hide hp) d v h
theorem RepO.hide (w : Wd K T hc H) (hp : H p = none) {o : HO} {oc : O} {a : Addr} (h : RepO K T H oc a) (na : a ≠ p) : RepO K (T.hide p) (upd H p o) oc a := RepO.ext w (ExtG.hide hp) h (upd_ne na)
theorem Wd.hide (w : Wd K T hc H) (hp : H p = none) {xs : List V} : Wd K (T.hide p) hc (upd H p (.lst xs)) := by
  refine ⟨w.nd, w.len, fun i x hx => ?_, fun a ha => ?_, fun a ha => ⟨(w.al a ha).1, by
    obtain ⟨_, x, e⟩ := w.al a ha
    exact ⟨x, by rw [upd_ne (ne_of_none e hp)]; exact e⟩⟩⟩
  · obtain ⟨a, ha, r⟩ := w.obj i x hx
    refine ⟨a, ha, RepO.hide w hp r fun z => ?_⟩
    subst z
    exact w.none_notin hp (List.mem_iff_getElem?.mpr ⟨i, ha⟩)
  · rcases List.mem_cons.mp ha with z | z
    · subst z; exact ⟨w.none_notin hp, _, upd_same, trivial⟩
    · obtain ⟨n, x, e, t⟩ := w.gh a z
      exact ⟨n, x, by rw [upd_ne (ne_of_none e hp)]; exact e, t⟩
theorem EnvR.hide (w : Wd K T hc H) (hp : H p = none) {o : HO} {env : Env} {σ : L2.St} (h : EnvR K T H env σ) : EnvR K (T.hide p) (upd H p o) env σ :=
  EnvR.extG w (ExtG.hide hp) h

mutual
theorem Rep.bare {zs : List V} (hp : H p = some (.lst zs)) (na : ¬ T.α p) : ∀ (d : D) (v : V), Rep K (T.hide p) H d v → Rep K T (without H p) d v
  | .non, _, h => h
  | .bl _, _, h => h
  | .int _, _, h => h
  | .str _, _, h => h
  | .ob _, _, h => h
  | .ty _, _, h => h
  | .ref i, v, h => by
    simp only [Rep] at h ⊢
    exact h
  | .tup xs, v, h => by
    simp only [Rep] at h ⊢
    obtain ⟨a, vs, q, s, l, r⟩ := h
    refine ⟨a, vs, q, ?_, l, RepL.bare hp na xs vs r⟩
    rcases s with (s | ⟨o, s⟩) | s
    · exact .inl (.inl (by rw [without_ne (ne_of s hp (fun z => by cases z))]; exact s))
    · exact .inl (.inr ⟨o, by rw [without_ne (ne_of s hp (fun z => by cases z))]; exact s⟩)
    · exact .inr s
  | .fl xs, v, h => by
    simp only [Rep] at h ⊢
    obtain ⟨a, vs, q, s, l, r⟩ := h
    have nap : a ≠ p := fun z => s.2.2 (by rw [z]; exact List.mem_cons_self)
    exact ⟨a, vs, q, ⟨by rw [without_ne nap]; exact s.1, s.2.1, fun m => s.2.2 (List.mem_cons_of_mem _ m)⟩, l, RepL.bare hp na xs vs r⟩
  | .kl xs, v, h => by
    simp only [Rep] at h ⊢
    obtain ⟨a, vs, q, s, l, r⟩ := h
    refine ⟨a, vs, q, ?_, l, RepL.bare hp na xs vs r⟩
    rcases s with (⟨o, s⟩ | s) | s
    · exact .inl (.inl ⟨o, by rw [without_ne (ne_of s hp (fun z => by cases z))]; exact s⟩)
    · exact .inl (.inr ⟨by rw [without_ne (fun z => na (by rw [← z]; exact s.2))]; exact s.1, s.2⟩)
    · exact .inr s
theorem RepL.bare {zs : List V} (hp : H p = some (.lst zs)) (na : ¬ T.α p) : ∀ (ds : List D) (vs : List V), RepL K (T.hide p) H ds vs → RepL K T (without H p) ds vs
  | [], _, h => h
  | d :: ds, vs, h => by
    simp only [RepL] at h ⊢
    obtain ⟨v, r, q, a, b⟩ := h
    exact ⟨v, r, q, Rep.bare hp na d v a, RepL.bare hp na ds r b⟩
end
theorem RepKV.bare {κ : Type} {zs : List V} (hp : H p = some (.lst zs)) (na : ¬ T.α p) : ∀ (ds : List (κ × D)) (vs : List (κ × V)), RepKV K (T.hide p) H ds vs → RepKV K T (without H p) ds vs
  | [], _, h => h
  | (k, d) :: ds, vs, h => by
    simp only [RepKV] at h ⊢
    obtain ⟨v, r, q, a, b⟩ := h
    exact ⟨v, r, q, Rep.bare hp na d v a, RepKV.bare hp na ds r b⟩
theorem RepO.bare {zs : List V} (hp : H p = some (.lst zs)) (na : ¬ T.α p) {oc : O} {a : Addr} (h : RepO K (T.hide p) H oc a) (nap : a ≠ p) : RepO K T (without H p) oc a := by
  cases oc with
  | lst xs => obtain ⟨vs, q, l, r⟩ := h; exact ⟨vs, (without_ne nap).trans q, l, RepL.bare hp na _ _ r⟩
  | dct xs => obtain ⟨vs, q, l, r⟩ := h; exact ⟨vs, (without_ne nap).trans q, l, RepKV.bare hp na _ _ r⟩
  | ins C fs => obtain ⟨dx, vs, q, l, r⟩ := h; exact ⟨dx, vs, (without_ne nap).trans q, l, RepKV.bare hp na _ _ r⟩
theorem Wd.bare {zs : List V} (w : Wd K (T.hide p) hc H) (hp : H p = some (.lst zs)) (ap : ¬ T.α p) (np : p ∉ T.κ) : Wd K T hc (without H p) := by
  have pr : p ∉ T.ρ := (w.gh p List.mem_cons_self).1
  refine ⟨w.nd, w.len, fun i x hx => ?_, fun a ha => ?_, fun a ha => ⟨(w.al a ha).1, by
    obtain ⟨_, x, e⟩ := w.al a ha
    exact ⟨x, by rw [without_ne (fun z => ap (by rw [← z]; exact ha))]; exact e⟩⟩⟩
  · obtain ⟨a, ha, r⟩ := w.obj i x hx
    exact ⟨a, ha, RepO.bare hp ap r fun z => by subst z; exact pr (List.mem_iff_getElem?.mpr ⟨i, ha⟩)⟩
  · obtain ⟨n, x, e, t⟩ := w.gh a (List.mem_cons_of_mem _ ha)
    exact ⟨n, x, by rw [without_ne (fun z => np (by rw [← z]; exact ha))]; exact e, t⟩
/-- behind the making: as if the list had come at the end -/
theorem Ext.bare {H0 : Hp} {o : HO} (hp : H0 p = none) (e : Ext (T.hide p) (upd H0 p o) (T'.hide p) H') : Ext T H0 T' (without H' p) := by
  refine ⟨e.pre, ?_, e.al, fun b x h n => ?_, fun b hb => ?_⟩
  · have := e.gh
    exact List.tail_eq_of_cons_eq this
  · have nb : b ≠ p := ne_of_none h hp
    rw [without_ne nb]
    exact e.fr b x (by rw [upd_ne nb]; exact h) n
  · rcases e.new b hb with z | z
    · exact .inl z
    · right
      by_cases nb : b = p
      · rw [nb]; exact hp
      · rw [upd_ne nb] at z; exact z
end
end Cl
/-! The small language, and what it means over clean values. -/
namespace Cl
open PySem PySem.Spec PyProof.Rows L2

inductive Res (α : Type) where
  | ok (a : α) (h : Hc)
  | exc (c : Addr) (fs : List (Str × D)) (h : Hc)
  | bad
abbrev M (α : Type) := Hc → Res α
def pur {α : Type} (a : α) : M α := fun h => .ok a h
def stuck {α : Type} : M α := fun _ => .bad
def bnd {α β : Type} (m : M α) (f : α → M β) : M β := fun h => match m h with
  | .ok a h' => f a h'
  | .exc c fs h' => .exc c fs h'
  | .bad => .bad
/-- what must not raise -/
def calmly {α : Type} (m : M α) : M α := fun h => match m h with
  | .ok a h' => .ok a h'
  | _ => .bad
open Classical in
/-- classical: nothing shall evaluate a bound -/
noncomputable def guard {α : Type} (c : Prop) (m : M α) : M α := if c then m else stuck
@[simp] theorem bnd_pur {α β : Type} (a : α) (f : α → M β) : bnd (pur a) f = f a := rfl
@[simp] theorem bnd_stuck {α β : Type} (f : α → M β) : bnd stuck f = stuck := rfl
theorem bnd_assoc {α β γ : Type} (m : M α) (f : α → M β) (g : β → M γ) : bnd (bnd m f) g = bnd m fun a => bnd (f a) g := by
  funext h
  simp only [bnd]
  cases m h <;> rfl
@[simp] theorem calmly_pur {α : Type} (a : α) : calmly (pur a) = pur a := rfl
@[simp] theorem guard_true {α : Type} {c : Prop} (m : M α) (h : c) : guard c m = m := if_pos h

/-! ### operations on values -/
/-- a changing list's items -/
def lstAt (i : Nat) : M (List D) := fun h => match h[i]? with
  | some (.lst xs) => .ok xs h
  | _ => .bad
def putAt (i : Nat) (o : O) : M Unit := fun h => if i < h.length then .ok () (h.set i o) else .bad
def seqM : D → M (List D)
  | .tup xs => pur xs
  | .fl xs => pur xs
  | .kl xs => pur xs
  | .ref i => lstAt i
  | _ => stuck
/-- a list that is not locked -/
def lsM : D → M (List D)
  | .fl xs => pur xs
  | .ref i => lstAt i
  | _ => stuck
noncomputable def truM : D → M Bool
  | .non => pur false
  | .bl b => pur b
  | .int i => pur (i != 0)
  | .str x => guard (x.length ≤ sizeLine) (pur ((x.length : Int) != 0))
  | .tup xs => pur (!xs.isEmpty)
  | .fl xs => pur (!xs.isEmpty)
  | .kl xs => pur (!xs.isEmpty)
  | .ref i => fun h => match h[i]? with
    | some (.lst xs) => .ok (!xs.isEmpty) h
    | some (.dct kvs) => .ok (!kvs.isEmpty) h
    | _ => .bad
  | _ => stuck
noncomputable def lenM : D → M D
  | .str x => guard (x.length ≤ sizeLine) (pur (.int x.length))
  | .ref i => fun h => match h[i]? with
    | some (.lst xs) => .ok (.int xs.length) h
    | some (.dct kvs) => .ok (.int kvs.length) h
    | _ => .bad
  | d => bnd (seqM d) fun xs => pur (.int xs.length)
def optM {α : Type} : Option α → M α
  | some a => pur a
  | none => stuck
noncomputable def idxM : D → D → M D
  | .str z, .int i => guard (z.length ≤ sizeLine) (bnd (optM (atI z.cps.toList i)) fun c => pur (.str ⟨#[c]⟩))
  | d, .int i => bnd (seqM d) fun xs => optM (atI xs i)
  | _, _ => stuck
def cutD (xs : List D) (lo hi : Option Int) : List D := (xs.drop (HT.sIx xs.length 0 lo)).take (HT.sIx xs.length xs.length hi - HT.sIx xs.length 0 lo)
noncomputable def slcM : D → Option Int → Option Int → M D
  | .tup xs, lo, hi => pur (.tup (cutD xs lo hi))
  | .str z, lo, hi => guard (z.length ≤ sizeLine) (pur (.str (cutS z lo hi)))
  | _, _, _ => stuck
mutual
def toPy : D → Option PyData
  | .non => some .none
  | .bl b => some (.bool b)
  | .int i => some (.int i)
  | .str x => some (.str x)
  | .tup xs => (toPys xs).map .tuple
  | .fl xs => (toPys xs).map .list
  | .kl xs => (toPys xs).map .list
  | _ => none
def toPys : List D → Option (List PyData)
  | [] => some []
  | d :: ds => match toPy d, toPys ds with
    | some p, some ps => some (p :: ps)
    | _, _ => none
end
def toPyH (h : Hc) : D → Option PyData
  | .ref i => match h[i]? with
    | some (.lst xs) => (toPys xs).map .list
    | _ => none
  | d => toPy d
def eqM (a b : D) : M Bool := fun h => match toPyH h a, toPyH h b with
  | some p, some q => if (SeqAt.shaped p && SeqAt.shaped q) = true then .ok (PyData.eqv p q) h else .bad
  | _, _ => .bad
def isNon : D → Bool
  | .non => true
  | _ => false
def isM : D → D → M Bool
  | a, .non => pur (isNon a)
  | .bl a, .bl b => pur (decide (a = b))
  | _, _ => stuck
/-- the ints of a row -/
def intsD : List D → Option (List Int)
  | [] => some []
  | .int i :: r => (intsD r).map (i :: ·)
  | _ => none
def ltM : D → D → M Bool
  | .int i, .int j => pur (decide (i < j))
  | .str x, .str y => pur (decide (x.cps.toList < y.cps.toList))
  | .tup xs, .tup ys => match intsD xs, intsD ys with
    | some ns, some ms => pur (HT.lexLt ns ms)
    | _, _ => stuck
  | _, _ => stuck
def cmpI (p : Int → Int → Bool) : D → D → M Bool
  | .int i, .int j => pur (p i j)
  | _, _ => stuck
def leM : D → D → M Bool
  | .int i, .int j => pur (decide (i ≤ j))
  | .tup xs, .tup ys => match intsD xs, intsD ys with
    | some ns, some ms => pur (!HT.lexLt ms ns)
    | _, _ => stuck
  | _, _ => stuck
/-- flat values by == -/
def eqF : D → D → Bool
  | .non, .non => true
  | .bl a, .bl b => a == b
  | .bl a, .int b => (if a then 1 else 0) == b
  | .int a, .bl b => a == (if b then 1 else 0)
  | .int a, .int b => a == b
  | .str a, .str b => a == b
  | _, _ => false
def flatD : D → Bool
  | .non => true
  | .bl _ => true
  | .int _ => true
  | .str _ => true
  | _ => false
def keyD : D → Option Key
  | .int i => some (.inl i)
  | .str x => some (.inr x)
  | _ => none
def valD : List (Key × D) → Key → Option D
  | [], _ => none
  | (k, d) :: r, k' => if k = k' then some d else valD r k'
/-- x in xs -/
noncomputable def inM : D → D → M Bool
  | .str x, .str y => pur (!(Builtin.Str.occurrences y x 0 y.length 1).isEmpty)
  | x, .ref i => fun h => match h[i]? with
    | some (.lst xs) => if flatD x = true ∧ xs.all flatD = true then .ok (xs.any fun y => eqF y x) h else .bad
    | _ => .bad
  | .tup as, .tup xs => fun h => match toPy (.tup as), toPys xs with
    | some p, some ps => if (SeqAt.shaped p && ps.all SeqAt.shaped) = true then .ok (ps.any fun q => PyData.eqv q p) h else .bad
    | _, _ => .bad
  | x, d => bnd (seqM d) fun xs => guard (flatD x = true ∧ xs.all flatD = true) (pur (xs.any fun y => eqF y x))
noncomputable def cmpM : CmpOp → D → D → M Bool
  | .Eq, a, b => eqM a b
  | .NotEq, a, b => bnd (eqM a b) fun k => pur (!k)
  | .Is, a, b => isM a b
  | .IsNot, a, b => bnd (isM a b) fun k => pur (!k)
  | .Lt, a, b => ltM a b
  | .LtE, a, b => leM a b
  | .Gt, a, b => cmpI (fun i j => decide (j < i)) a b
  | .GtE, a, b => cmpI (fun i j => decide (j ≤ i)) a b
  | .In, a, b => inM a b
  | .NotIn, a, b => bnd (inM a b) fun k => pur (!k)
def log2Z (i : Int) : Nat := i.natAbs.log2
def MulOk (i j : Int) : Prop := ((-(2 ^ 64) < i ∧ i < 2 ^ 64) ∨ (-(2 ^ 64) < j ∧ j < 2 ^ 64)) ∨ i.natAbs.log2 + j.natAbs.log2 < 1000000
def DivOk (j : Int) : Prop := j ≠ 0 ∧ j.natAbs.log2 < 9000
noncomputable def binM : Operator → D → D → M D
  | .Add, .int i, .int j => pur (.int (i + j))
  | .Add, .str x, .str y => guard (x.length + y.length ≤ sizeLine) (pur (.str (x ++ y)))
  | .Add, .tup xs, .tup ys => guard (xs.length + ys.length ≤ sizeLine) (pur (.tup (xs ++ ys)))
  | .Sub, .int i, .int j => pur (.int (i - j))
  | .Mult, .int i, .int j => guard (MulOk i j) (pur (.int (i * j)))
  | .Mult, .tup xs, .int k => guard (1 ≤ k ∧ k ≤ 1000 ∧ xs ≠ [] ∧ xs.length ≤ 1000) (pur (.tup (List.replicate k.toNat xs).flatten))
  | .FloorDiv, .int i, .int j => guard (DivOk j) (pur (.int (i.fdiv j)))
  | .Mod, .int i, .int j => guard (j ≠ 0) (pur (.int (i.fmod j)))
  | .Pow, .int i, .int j => guard (0 ≤ j ∧ j ≤ 1000000 ∧ i.natAbs < 2 ^ 64) (pur (.int (i ^ j.toNat)))
  | .LShift, .int i, .int j => guard (0 ≤ j ∧ j ≤ 1000000 ∧ i.natAbs < 2 ^ 64) (pur (.int (i * 2 ^ j.toNat)))
  | .RShift, .int i, .int j => guard (0 ≤ j) (pur (.int (i / 2 ^ j.toNat)))
  | .BitAnd, .int i, .int j => pur (.int (Builtin.bitAnd i j))
  | _, _, _ => stuck
/-- x op= y -/
noncomputable def augM : Operator → D → D → M D
  | o, .int i, .int j => match o with
    | .Add => binM o (.int i) (.int j)
    | .Sub => binM o (.int i) (.int j)
    | .Mult => binM o (.int i) (.int j)
    | .FloorDiv => binM o (.int i) (.int j)
    | .Mod => binM o (.int i) (.int j)
    | _ => stuck
  | .Add, .str x, .str y => binM .Add (.str x) (.str y)
  | _, _, _ => stuck
/-- operations that make a new list -/
noncomputable def binL : Operator → D → D → M (List D)
  | .Add, a, b => bnd (lsM a) fun xs => bnd (lsM b) fun ys => guard (xs.length + ys.length ≤ sizeLine) (pur (xs ++ ys))
  | .Mult, a, .int k => bnd (lsM a) fun xs => guard (-(2 ^ 63) ≤ k ∧ k < 2 ^ 63 ∧ xs.length * k.toNat ≤ sizeLine) (pur (List.replicate k.toNat xs).flatten)
  | _, _, _ => stuck
def tyName : D → Option String
  | .non => some "NoneType"
  | .bl _ => some "bool"
  | .int _ => some "int"
  | .str _ => some "str"
  | .tup _ => some "tuple"
  | .fl _ => some "list"
  | .kl _ => some "list"
  | _ => none
/-- the type of a value: a changing thing's by its object -/
def tyM : D → M String
  | .ref i => fun h => match h[i]? with
    | some (.lst _) => .ok "list" h
    | some (.dct _) => .ok "dict" h
    | _ => .bad
  | d => optM (tyName d)
def isaM (ts : List String) (d : D) : M Bool := bnd (tyM d) fun t => pur (ts.any fun u => t == u || (t == "bool" && u == "int"))

/-- built-in functions of values -/
inductive Bi where
  | len | abs | min2 | max2 | minL | maxL | sum | all | any | int | str | tuple | ord | chr | bool
  deriving DecidableEq
/-- built-in functions that make a new list -/
inductive Bn where
  | list | sorted | sortP
  deriving DecidableEq
def blsD : List D → Option (List Bool)
  | [] => some []
  | .bl i :: r => (blsD r).map (i :: ·)
  | _ => none
def leastI : List Int → Int
  | [] => 0
  | [x] => x
  | x :: r => if x ≤ leastI r then x else leastI r
def mostI : List Int → Int
  | [] => 0
  | [x] => x
  | x :: r => if mostI r ≤ x then x else mostI r
noncomputable def biM : Bi → List D → M D
  | .len, [d] => lenM d
  | .abs, [.int i] => pur (.int (if i < 0 then -i else i))
  | .min2, [.int i, .int j] => pur (.int (if j < i then j else i))
  | .max2, [.int i, .int j] => pur (.int (if j > i then j else i))
  | .minL, [d] => bnd (seqM d) fun xs => bnd (optM (intsD xs)) fun ns => guard (0 < ns.length) (pur (.int (leastI ns)))
  | .maxL, [d] => bnd (seqM d) fun xs => bnd (optM (intsD xs)) fun ns => guard (0 < ns.length) (pur (.int (mostI ns)))
  | .sum, [d] => bnd (seqM d) fun xs => bnd (optM (intsD xs)) fun ns => pur (.int ns.sum)
  | .all, [.tup _] => stuck
  | .all, [d] => bnd (seqM d) fun xs => bnd (optM (blsD xs)) fun ns => pur (.bl (ns.all id))
  | .any, [.tup _] => stuck
  | .any, [d] => bnd (seqM d) fun xs => bnd (optM (blsD xs)) fun ns => pur (.bl (ns.any id))
  | .int, [.int i] => pur (.int i)
  | .int, [.bl k] => pur (.int (if k then 1 else 0))
  | .bool, [.int i] => pur (.bl (i != 0))
  | .bool, [.bl k] => pur (.bl k)
  | .str, [.int i] => guard (i.natAbs.log2 < 1920) (pur (.str (toString i : String)))
  | .tuple, [d] => bnd (seqM d) fun xs => pur (.tup xs)
  | .ord, [.str x] => guard (x.length = 1) (pur (.int (x.cps.getD 0 0 : Nat)))
  | .chr, [.int i] => guard (0 ≤ i ∧ i ≤ 1114111) (pur (.str ⟨#[i.toNat]⟩))
  | _, _ => stuck
/-- pairs of ints -/
def pairsD : List D → Option (List (Int × Int))
  | [] => some []
  | .tup [.int i, .int j] :: r => (pairsD r).map ((i, j) :: ·)
  | _ => none
def pairLe (a b : Int × Int) : Bool := decide (a.1 < b.1 ∨ (a.1 = b.1 ∧ a.2 ≤ b.2))
abbrev encP (p : Int × Int) : D := .tup [.int p.1, .int p.2]
noncomputable def bnM : Bn → List D → M (List D)
  | .list, [d] => seqM d
  | .sorted, [.tup _] => stuck
  | .sorted, [d] => bnd (seqM d) fun xs => bnd (optM (intsD xs)) fun ns => pur ((ns.mergeSort (fun a b => decide (a ≤ b))).map D.int)
  | .sortP, [.tup _] => stuck
  | .sortP, [d] => bnd (seqM d) fun xs => bnd (optM (pairsD xs)) fun L => guard (L.length < 64 ∧ ∀ p ∈ L, 0 ≤ p.1 ∧ 0 ≤ p.2) (pur ((L.mergeSort pairLe).map encP))
  | _, _ => stuck

/-! ### the language -/
/-- where a turn's item goes -/
inductive Tg where
  | nm (i : Nat)
  | tp (is : List Nat)

inductive I where
  | var (i : Nat) | int (n : Int) | str (x : String) | bl (b : Bool) | non
  | glb (j : Nat)
  /-- isinstance of the exception that a suite holds -/
  | isx (i j : Nat) (b : Bool)
  | bin (o : Operator) (a b : I)
  | neg (a : I)
  | not (a : I)
  | cmp (o : CmpOp) (a b : I)
  | chain (o p : CmpOp) (a b c : I)
  | and (a b : I) | or (a b : I)
  | ite (t a b : I)
  | tup (as : I)
  | nil | cons (a r : I)
  | idx (a i : I)
  | slc (a lo hi : I)
  | call (f : Nat) (as : I)
  | bi (f : Bi) (as : I)
  | isa (a : I) (ts : List String)
  /- new lists -/
  | lst (as : I)
  | comp (own : List Nat) (tg : Tg) (src : I) (ifs : I) (elt : I)
  | bn (f : Bn) (as : I)
  | binL (o : Operator) (a b : I)
  | slcL (a lo hi : I)
  /-- a new list that will change -/
  | trk (a : I)
  /- changing lists -/
  | app (a x : I)
  | popAt (a i : I)
  | pop (a : I)
  /-- t[::-1]; xs.extend(ys) -/
  | rev (a : I)
  | ext (a x : I)
  /- what a loop walks -/
  | rng1 (a : I) | rng2 (a b : I) | rng3 (a b c : I)
  | zip (a b : I)
  | enm (a : I)

def revM : D → M D
  | .tup xs => pur (.tup xs.reverse)
  | _ => stuck
/-- items, and the lists that must stand meanwhile -/
structure Src where
  items : List D
  dep : List (Nat × List D)

open Classical in
noncomputable def depOk {α : Type} (dep : List (Nat × List D)) (m : M α) : M α := fun h => if ∀ p ∈ dep, h[p.1]? = some (.lst p.2) then m h else .bad
@[simp] theorem depOk_nil {α : Type} (m : M α) : depOk [] m = m := by
  funext h; unfold depOk; rw [if_pos (fun _ h => by cases h)]
noncomputable def setTg : Tg → D → Env → M Env
  | .nm i, d, env => pur (env.set i (some d))
  | .tp is, d, env => bnd (seqM d) fun xs => guard (xs.length = is.length) (pur ((is.zip xs).foldl (fun e p => e.set p.1 (some p.2)) env))
def wipeE (env : Env) : List Nat → Env
  | [] => env
  | v :: vs => (wipeE env vs).set v none
noncomputable def compL (tg : Tg) (env : Env) (dep : List (Nat × List D)) (f : Env → M (Option D)) : List D → M (List D)
  | [] => depOk dep (pur [])
  | x :: xs => depOk dep (bnd (setTg tg x env) fun e => bnd (f e) fun o => bnd (compL tg env dep f xs) fun r => pur (match o with
    | some d => d :: r
    | none => r))
def srcM : D → M Src
  | .str x => pur ⟨x.cps.toList.map fun c => .str ⟨#[c]⟩, []⟩
  | .ref i => bnd (lstAt i) fun xs => pur ⟨xs, [(i, xs)]⟩
  | d => bnd (seqM d) fun xs => pur ⟨xs, []⟩
/-- a list that is walked -/
def lsrcM : D → M Src
  | .fl xs => pur ⟨xs, []⟩
  | .kl xs => pur ⟨xs, []⟩
  | .ref i => bnd (lstAt i) fun xs => pur ⟨xs, [(i, xs)]⟩
  | _ => stuck
def pairM : D → D → M Src
  | .tup xs, .tup ys => pur ⟨(xs.zip ys).map fun p => .tup [p.1, p.2], []⟩
  | a, b => bnd (lsrcM a) fun s => bnd (lsrcM b) fun t => pur ⟨(s.items.zip t.items).map fun p => .tup [p.1, p.2], s.dep ++ t.dep⟩
def rangeD (lo : Int) (n : Nat) : List D := (List.range n).map fun (i : Nat) => .int (lo + (i : Int))
def rangeC (lo c : Int) (n : Nat) : List D := (List.range n).map fun (i : Nat) => .int (lo + (i : Int) * c)
def intM : D → M Int
  | .int i => pur i
  | _ => stuck
def Rg (i : Int) : Prop := -(2 ^ 62) ≤ i ∧ i < 2 ^ 62

/-- defs by their places, by their addresses; the exception that a suite holds -/
structure Gt where
  tab : List (List D → M D)
  fv : Addr → Option (List D → M D) := fun _ => none
  xa : Option Addr := none
section
variable (G : Gt) (C : List D)
mutual
noncomputable def semE : I → Env → M D
  | .var i, env => optM ((env[i]?).bind id)
  | .int n, _ => pur (.int n)
  | .str x, _ => pur (.str (Str.ofString x))
  | .bl b, _ => pur (.bl b)
  | .non, _ => pur .non
  | .glb j, _ => optM C[j]?
  | .isx i _ b, env => match G.xa, (env[i]?).bind id with
    | some a, some (.ob a') => if a = a' then pur (.bl b) else stuck
    | _, _ => stuck
  | .bin o a b, env => bnd (semE a env) fun x => bnd (semE b env) fun y => binM o x y
  | .neg a, env => bnd (semE a env) fun x => bnd (intM x) fun i => pur (.int (-i))
  | .not a, env => bnd (semE a env) fun x => bnd (truM x) fun k => pur (.bl (!k))
  | .cmp o a b, env => bnd (semE a env) fun x => bnd (semE b env) fun y => bnd (cmpM o x y) fun k => pur (.bl k)
  | .chain o p a b c, env => bnd (semE a env) fun x => bnd (semE b env) fun y => bnd (cmpM o x y) fun k => if k = true then bnd (semE c env) fun z => bnd (cmpM p y z) fun l => pur (.bl l) else pur (.bl false)
  | .and a b, env => bnd (semE a env) fun x => bnd (truM x) fun k => if k = true then semE b env else pur x
  | .or a b, env => bnd (semE a env) fun x => bnd (truM x) fun k => if k = true then pur x else semE b env
  | .ite t a b, env => bnd (semE t env) fun x => bnd (truM x) fun k => if k = true then semE a env else semE b env
  | .tup as, env => bnd (semA as env) fun xs => guard (xs.length ≤ sizeLine) (pur (.tup xs))
  | .idx a i, env => bnd (semE a env) fun x => bnd (semE i env) fun y => idxM x y
  | .slc a lo hi, env => bnd (semE a env) fun x => bnd (semO lo env) fun l => bnd (semO hi env) fun u => slcM x l u
  | .call f as, env => match G.tab[f]? with
    | some g => bnd (semA as env) g
    | none => stuck
  | .bi f as, env => bnd (semA as env) fun xs => biM f xs
  | .isa a ts, env => bnd (semE a env) fun x => bnd (isaM ts x) fun k => pur (.bl k)
  | .trk a, env => bnd (semN a env) fun xs h => .ok (.ref h.length) (h ++ [.lst xs])
  | .app a x, env => bnd (semE a env) fun l => match l with
    | .ref i => bnd (lstAt i) fun _ => bnd (semE x env) fun y => bnd (lstAt i) fun xs => guard (xs.length < sizeLine) (bnd (putAt i (.lst (xs ++ [y]))) fun _ => pur .non)
    | _ => stuck
  | .popAt a x, env => bnd (semE a env) fun l => match l with
    | .ref i => bnd (lstAt i) fun _ => bnd (semE x env) fun y => bnd (intM y) fun k => bnd (lstAt i) fun xs => guard (-(2 ^ 63) ≤ k ∧ k < 2 ^ 63) (bnd (optM (seqIndex? k xs.length)) fun j => bnd (optM xs[j]?) fun v => bnd (putAt i (.lst (xs.eraseIdx j))) fun _ => pur v)
    | _ => stuck
  | .pop a, env => bnd (semE a env) fun l => match l with
    | .ref i => bnd (lstAt i) fun xs => bnd (optM xs[xs.length - 1]?) fun v => bnd (putAt i (.lst xs.dropLast)) fun _ => pur v
    | _ => stuck
  | .rev a, env => bnd (semE a env) revM
  | .ext a x, env => bnd (semE a env) fun l => match l with
    | .ref i => bnd (lstAt i) fun _ => bnd (semE x env) fun y => match y with
      | .fl ys => bnd (lstAt i) fun xs => guard (xs.length + ys.length ≤ sizeLine) (bnd (putAt i (.lst (xs ++ ys))) fun _ => pur .non)
      | _ => stuck
    | _ => stuck
  | .lst as, env => bnd (semN (.lst as) env) fun xs => pur (.fl xs)
  | .comp own tg src ifs elt, env => bnd (semN (.comp own tg src ifs elt) env) fun xs => pur (.fl xs)
  | .bn f as, env => bnd (semN (.bn f as) env) fun xs => pur (.fl xs)
  | .binL o a b, env => bnd (semN (.binL o a b) env) fun xs => pur (.fl xs)
  | .slcL a lo hi, env => bnd (semN (.slcL a lo hi) env) fun xs => pur (.fl xs)
  | _, _ => stuck
/-- a list's new items -/
noncomputable def semN : I → Env → M (List D)
  | .lst as, env => bnd (semA as env) fun xs => guard (xs.length ≤ sizeLine) (pur xs)
  | .comp own tg src ifs elt, env => bnd (semI src env) fun s => guard (s.items.length ≤ sizeLine) (calmly (compL tg (wipeE env own) s.dep (fun e => match ifs with
    | .nil => bnd (semE elt e) fun d => pur (some d)
    | t => bnd (semE t e) fun x => bnd (truM x) fun k => if k = true then bnd (semE elt e) fun d => pur (some d) else pur none) s.items))
  | .bn f as, env => bnd (semA as env) fun xs => bnM f xs
  | .binL o a b, env => bnd (semE a env) fun x => bnd (semE b env) fun y => binL o x y
  | .slcL a lo hi, env => bnd (semE a env) fun x => bnd (semO lo env) fun l => bnd (semO hi env) fun u => match x with
    | .tup _ => stuck
    | x => bnd (seqM x) fun xs => pur (cutD xs l u)
  | _, _ => stuck
noncomputable def semA : I → Env → M (List D)
  | .nil, _ => pur []
  | .cons a r, env => bnd (semE a env) fun x => bnd (semA r env) fun xs => pur (x :: xs)
  | _, _ => stuck
/-- a part of a slice -/
noncomputable def semO : I → Env → M (Option Int)
  | .nil, _ => pur none
  | e, env => bnd (semE e env) fun x => bnd (intM x) fun i => pur (some i)
/-- what a loop walks -/
noncomputable def semI : I → Env → M Src
  | .rng1 a, env => bnd (semE a env) fun x => bnd (intM x) fun j => guard (Rg j) (pur ⟨rangeD 0 j.toNat, []⟩)
  | .rng2 a b, env => bnd (semE a env) fun x => bnd (semE b env) fun y => bnd (intM x) fun i => bnd (intM y) fun j => guard (Rg i ∧ Rg j) (pur ⟨rangeD i (j - i).toNat, []⟩)
  | .rng3 a b c, env => bnd (semE a env) fun x => bnd (semE b env) fun y => bnd (semE c env) fun z => bnd (intM x) fun i => bnd (intM y) fun j => bnd (intM z) fun k =>
      guard (k ≠ 0 ∧ k.natAbs < 1073741824 ∧ Builtin.Range.small i j k = true ∧ 0 ≤ Builtin.Range.rangeSize i j k) (pur ⟨rangeC i k (Builtin.Range.rangeSize i j k).toNat, []⟩)
  | .zip a b, env => bnd (semE a env) fun x => bnd (semE b env) fun y => pairM x y
  | .enm a, env => bnd (semE a env) fun x => bnd (lsrcM x) fun s => pur ⟨(s.items.zipIdx).map fun p => .tup [.int (p.2 : Nat), p.1], s.dep⟩
  | e, env => bnd (semE e env) fun x => srcM x
end
end

/-! ### statements -/
inductive At where
  | tg (t : Tg)
  | sub (a i : I)
inductive S where
  | nop | doc | brk | cnt
  | seq (a b : S)
  | asg (t : At) (e : I)
  | par (is : List Nat) (as : I)
  | aug (i : Nat) (o : Operator) (e : I)
  | augS (a i : I) (o : Operator) (e : I)
  /-- several places and names, by a tuple -/
  | asgs (ts : List At) (e : I)
  | ex (e : I)
  | ret (e : I) | retN
  | ite (t : I) (a b : S)
  | whl (t : I) (b : S)
  | for (tg : Tg) (src : I) (b : S)
  | never
  /-- raise an own class's instance; one of the class j caught by the class k, as slot i -/
  | rse (j : Nat)
  | tryX (b : S) (j k i : Nat) (su : S)

inductive Out where
  | nx (env : Env) (h : Hc) | bk (env : Env) (h : Hc) | ct (env : Env) (h : Hc)
  | rt (d : D) (h : Hc)
  | exc (c : Addr) (fs : List (Str × D)) (env : Env) (h : Hc)
  | bad
/-- an expression within a statement -/
def exS {α : Type} (m : M α) (env : Env) (h : Hc) (k : α → Hc → Out) : Out := match m h with
  | .ok a h' => k a h'
  | .exc c fs h' => .exc c fs env h'
  | .bad => .bad
noncomputable def forL (tg : Tg) (dep : List (Nat × List D)) (b : Env → Hc → Out) : List D → Env → Hc → Out
  | [], env, h => exS (depOk dep (pur ())) env h fun _ h => .nx env h
  | x :: xs, env, h => exS (depOk dep (setTg tg x env)) env h fun e h => match b e h with
    | .nx e h => forL tg dep b xs e h
    | .ct e h => forL tg dep b xs e h
    | .bk e h => .nx e h
    | o => o
def whlN (t : Env → M Bool) (b : Env → Hc → Out) : Nat → Env → Hc → Option Out
  | 0, _, _ => none
  | n + 1, env, h => match t env h with
    | .ok true h => match b env h with
      | .nx e h => whlN t b n e h
      | .ct e h => whlN t b n e h
      | .bk e h => some (.nx e h)
      | o => some o
    | .ok false h => some (.nx env h)
    | .exc c fs h => some (.exc c fs env h)
    | .bad => some .bad
open Classical in
noncomputable def whlR (t : Env → M Bool) (b : Env → Hc → Out) (env : Env) (h : Hc) : Out :=
  if x : ∃ o n, whlN t b n env h = some o then x.choose else .bad
theorem whlN_more {t : Env → M Bool} {b : Env → Hc → Out} : ∀ {n : Nat} {env : Env} {h : Hc} {o : Out}, whlN t b n env h = some o → ∀ k, whlN t b (n + k) env h = some o
  | 0, _, _, _, e, _ => by simp [whlN] at e
  | n + 1, env, h, o, e, k => by
    rw [show n + 1 + k = (n + k) + 1 by omega]
    simp only [whlN] at e ⊢
    split at e
    · split at e
      · next q => exact whlN_more e k
      · next q => exact whlN_more e k
      · exact e
      · exact e
    · exact e
    · exact e
    · exact e
theorem whlR_of {t : Env → M Bool} {b : Env → Hc → Out} {n : Nat} {env : Env} {h : Hc} {o : Out} (e : whlN t b n env h = some o) : whlR t b env h = o := by
  have x : ∃ o n, whlN t b n env h = some o := ⟨o, n, e⟩
  unfold whlR
  rw [dif_pos x]
  obtain ⟨m, hm⟩ := x.choose_spec
  have a := whlN_more hm n
  have c := whlN_more e m
  rw [Nat.add_comm m n] at a
  rw [a] at c
  exact Option.some.inj c
theorem whlR_has {t : Env → M Bool} {b : Env → Hc → Out} {env : Env} {h : Hc} (x : whlR t b env h ≠ .bad) : ∃ n, whlN t b n env h = some (whlR t b env h) := by
  unfold whlR at x ⊢
  split at x
  · next q => rw [dif_pos q]; exact q.choose_spec
  · exact absurd rfl x

/-- a suite has no exception of its own; its name goes -/
def sufX (i : Nat) : Out → Out
  | .nx env h => .nx (env.set i none) h
  | .bk env h => .bk (env.set i none) h
  | .ct env h => .ct (env.set i none) h
  | .rt d h => .rt d h
  | _ => .bad
open Classical in
/-- what is the same for all addresses -/
noncomputable def sameFor (f : Addr → Out) : Out := if x : ∃ o, ∀ a, f a = o then x.choose else .bad
theorem sameFor_of {f : Addr → Out} {o : Out} (h : ∀ a, f a = o) : sameFor f = o := by
  have x : ∃ o, ∀ a, f a = o := ⟨o, h⟩
  unfold sameFor
  rw [dif_pos x]
  have : f 0 = x.choose := x.choose_spec 0
  rw [← this, h]
theorem sameFor_has {f : Addr → Out} (h : sameFor f ≠ .bad) : ∀ a, f a = sameFor f := by
  unfold sameFor at h ⊢
  split at h
  · next q => rw [dif_pos q]; exact q.choose_spec
  · exact absurd rfl h
/-- a store to a place -/
def storeM : D → D → D → M Unit
  | .ref r, .int k, d => bnd (lstAt r) fun xs => bnd (optM (ixN xs.length k)) fun j => putAt r (.lst (xs.set j d))
  | _, _, _ => stuck
/-- one place after the other -/
noncomputable def setAts (G : Gt) (C : List D) : List At → List D → Env → M Env
  | [], [], env => pur env
  | .tg (.nm i) :: ts, x :: xs, env => setAts G C ts xs (env.set i (some x))
  | .sub a i :: ts, x :: xs, env => bnd (semE G C a env) fun l => bnd (semE G C i env) fun k => bnd (storeM l k x) fun _ => setAts G C ts xs env
  | _, _, _ => stuck
noncomputable def semS : Gt → List D → S → Env → Hc → Out
  | G, C, .nop, env, h => .nx env h
  | G, C, .doc, env, h => .nx env h
  | G, C, .brk, env, h => .bk env h
  | G, C, .cnt, env, h => .ct env h
  | G, C, .never, _, _ => .bad
  | G, C, .rse j, env, h => match C[j]? with
    | some (.ob a) => .exc a [] env h
    | _ => .bad
  | G, C, .tryX b j _ i su, env, h => match C[j]? with
    | some (.ob a) => match semS G C b env h with
      | .exc c fs env' h' => if c = a ∧ fs.isEmpty = true then sameFor fun x => sufX i (semS { G with xa := some x } C su (env'.set i (some (.ob x))) h') else .bad
      | o => o
    | _ => .bad
  | G, C, .seq a b, env, h => match semS G C a env h with
    | .nx e h => semS G C b e h
    | o => o
  | G, C, .asg (.tg t) e, env, h => exS (bnd (semE G C e env) fun d => setTg t d env) env h fun e h => .nx e h
  | G, C, .asg (.sub a i) e, env, h => exS (bnd (semE G C e env) fun d => bnd (semE G C a env) fun l => bnd (semE G C i env) fun k => match l, k with
    | .ref r, .int k => bnd (lstAt r) fun xs => bnd (optM (ixN xs.length k)) fun j => putAt r (.lst (xs.set j d))
    | _, _ => stuck) env h fun _ h => .nx env h
  | G, C, .par is as, env, h => exS (semA G C as env) env h fun xs h => if xs.length = is.length then .nx ((is.zip xs).foldl (fun e p => e.set p.1 (some p.2)) env) h else .bad
  | G, C, .aug i o e, env, h => exS (bnd (optM ((env[i]?).bind id)) fun x => bnd (semE G C e env) fun y => augM o x y) env h fun d h => .nx (env.set i (some d)) h
  | G, C, .augS a i o e, env, h => exS (bnd (semE G C a env) fun l => bnd (semE G C i env) fun k => match l with
    | .ref _ => bnd (idxM l k) fun x => bnd (semE G C e env) fun y => bnd (augM o x y) fun d => match l, k with
      | .ref r, .int k => bnd (lstAt r) fun xs => bnd (optM (ixN xs.length k)) fun j => putAt r (.lst (xs.set j d))
      | _, _ => stuck
    | _ => stuck) env h fun _ h => .nx env h
  | G, C, .asgs ts e, env, h => exS (semE G C e env) env h fun d h => match d with
    | .tup xs => exS (calmly (setAts G C ts xs env)) env h fun e h => .nx e h
    | _ => .bad
  | G, C, .ex e, env, h => exS (semE G C e env) env h fun _ h => .nx env h
  | G, C, .ret e, env, h => exS (semE G C e env) env h fun d h => .rt d h
  | G, C, .retN, _, h => .rt .non h
  | G, C, .ite t a b, env, h => exS (bnd (semE G C t env) truM) env h fun k h => if k = true then semS G C a env h else semS G C b env h
  | G, C, .whl t b, env, h => whlR (fun env => bnd (semE G C t env) truM) (semS G C b) env h
  | G, C, .for tg src b, env, h => exS (semI G C src env) env h fun s h => forL tg s.dep (semS G C b) s.items env h
end Cl
/-! The checker: does a piece of the row's text say what a piece of the small language says? -/
namespace Cl
open PySem PySem.Spec PyProof.Rows L2

structure Ck where
  N : List Str
  fs : List Str
  gs : List Str
  /-- no suite of an except clause -/
  cm : Bool := true
  /-- constants that are classes that may be raised; (raised, caught by); (raised, asked for, answer) -/
  rs : List Nat := []
  hs : List (Nat × Nat) := []
  xs : List (Nat × List Nat × Bool) := []
  /-- in a suite: slot, its name, the classes asked for, the answer -/
  xq : List (Nat × Str × List Str × Bool) := []
/-- within the suite of an exception of the class j, held at the slot i -/
def Ck.suite (C : Ck) (j i : Nat) (n : Str) : Ck := { C with cm := false, xq := (C.xs.filter fun t => t.1 == j).map fun t => (i, n, t.2.1.map fun k => C.gs.getD k "", t.2.2) }
def visB (sc : Scope) (x : Str) : Bool := match sc.names.lookup x with
  | some .local => true
  | some .cell => true
  | some .free => true
  | _ => false
def glB (sc : Scope) (x : Str) : Bool := match sc.names.lookup x with
  | some .globalImplicit => true
  | _ => false
def locB (sc : Scope) (x : Str) : Bool := match sc.names.lookup x with
  | some .local => true
  | some .cell => true
  | _ => false
def loclB (sc : Scope) (x : Str) : Bool := match sc.names.lookup x with
  | some .local => true
  | _ => false
def okName (x : Str) : Bool := !(x == ("__debug__" : Str)) && !(x == ("__classdict__" : Str))
/-- its truth is asked of its value -/
def plainT : Expr → Bool
  | .UnaryOp .Not _ _ => false
  | .BoolOp _ _ _ => false
  | .IfExp _ _ _ _ => false
  | .Compare _ _ _ _ => false
  | _ => true
def notSet : Expr → Bool
  | .Set _ _ _ => false
  | _ => true
def notSuper : Expr → Bool
  | .Call _ [] [] _ => false
  | _ => true
def notSlice : Expr → Bool
  | .Slice _ _ _ _ => false
  | _ => true
def isTup : Expr → Bool
  | .Tuple _ _ _ => true
  | _ => false
def biName : Bi → Str
  | .len => "len" | .abs => "abs" | .min2 => "min" | .max2 => "max" | .minL => "min" | .maxL => "max" | .sum => "sum" | .all => "all" | .any => "any"
  | .int => "int" | .str => "str" | .tuple => "tuple" | .ord => "ord" | .chr => "chr" | .bool => "bool"
def bnName : Bn → Str
  | .list => "list" | .sorted => "sorted" | .sortP => "sorted"
def bNames : List Str := ["len", "abs", "min", "max", "sum", "all", "any", "int", "str", "tuple", "ord", "chr", "bool", "list", "sorted", "isinstance", "range", "zip", "enumerate", "dict"]
def tyNames : List String := ["int", "bool", "str", "tuple", "list", "dict"]

def nms : List Str → List Expr → Scope → Bool
  | [], [], _ => true
  | c :: cs, .Name x _ :: es, sc => x == c && glB sc x && okName x && nms cs es sc
  | _, _, _ => false
/-- isinstance(n, C), isinstance(n, (C, ..)) -/
def xqForm (n : Str) (cls : List Str) (sc : Scope) : Expr → Bool
  | .Call (.Name f _) [.Name m _, .Tuple es _ _] [] _ => decide (f = ("isinstance" : Str)) && glB sc f && decide (m = n) && visB sc m && okName m && nms cls es sc && decide (2 ≤ es.length ∧ es.length ≤ 100)
  | _ => false
def chkTg (C : Ck) (sc : Scope) (own : Nat → Bool) : Tg → Expr → Bool
  | .nm i, .Name x _ => decide (C.N[i]? = some x) && locB sc x && own i
  | .tp is, .Tuple es _ _ => C.cm && chkTs is es
  | _, _ => false
where
  chkTs : List Nat → List Expr → Bool
    | [], [] => true
    | i :: is, .Name x _ :: es => decide (C.N[i]? = some x) && locB sc x && own i && chkTs is es
    | _, _ => false
def ownOf (N : List Str) (own : List Nat) : List (Str × Nat) := own.map fun i => (N.getD i "", i)
def tysB : List String → List Expr → Scope → Bool
  | [], [], _ => true
  | t :: ts, .Name x _ :: es, sc => decide (t ∈ tyNames) && x == Str.ofString t && glB sc x && tysB ts es sc
  | _, _, _ => false

section
variable (C : Ck)
mutual
def chkE : I → Scope → Expr → Bool
  | .var i, sc, .Name x _ => decide (C.N[i]? = some x) && visB sc x && okName x
  | .int n, _, .Constant (.int m) _ _ => decide (m = n)
  | .str s, _, .Constant (.str x) _ _ => decide (x = Str.ofString s)
  | .bl b, _, .Constant (.bool k) _ _ => decide (k = b)
  | .non, _, .Constant .none _ _ => true
  | .glb j, sc, .Name x _ => decide (C.gs[j]? = some x) && glB sc x && okName x
  | .isx i j b, sc, e => match C.xq[j]? with
    | some (i', n, cls, b') => decide (i' = i) && decide (b' = b) && xqForm n cls sc e
    | none => false
  | .bin o a b, sc, .BinOp x o' y _ => decide (o' = o) && chkE a sc x && chkE b sc y
  | .neg a, sc, .UnaryOp .USub x _ => chkE a sc x
  | .not a, sc, .UnaryOp .Not x _ => chkE a sc x
  | .cmp o a b, sc, .Compare x [o'] [y] _ => decide (o' = o) && (C.cm && notSet y) && chkE a sc x && chkE b sc y
  | .chain o p a b c, sc, .Compare x [o', p'] [y, z] _ => decide (o' = o) && decide (p' = p) && (C.cm && notSet z) && chkE a sc x && chkE b sc y && chkE c sc z
  | .and a b, sc, .BoolOp .And [x, y] _ => chkE a sc x && chkE b sc y
  | .and a b, sc, .BoolOp .And (x :: y :: z :: r) pos => chkE a sc x && chkE b sc (.BoolOp .And (y :: z :: r) pos)
  | .or a b, sc, .BoolOp .Or [x, y] _ => chkE a sc x && chkE b sc y
  | .or a b, sc, .BoolOp .Or (x :: y :: z :: r) pos => chkE a sc x && chkE b sc (.BoolOp .Or (y :: z :: r) pos)
  | .ite t a b, sc, .IfExp c x y _ => chkE t sc c && chkE a sc x && chkE b sc y
  | .tup as, sc, .Tuple es _ _ => chkA as sc es
  | .idx a i, sc, .Subscript x y _ => notSlice y && chkE a sc x && chkE i sc y
  | .slc a lo hi, sc, .Subscript x (.Slice l u none _) _ => chkE a sc x && chkO lo sc l && chkO hi sc u
  | .call f as, sc, .Call (.Name x _) (e :: es) [] _ => (C.cm && decide (C.fs[f]? = some x)) && glB sc x && okName x && chkA as sc (e :: es)
  | .bi f as, sc, .Call (.Name x _) (e :: es) [] _ => C.cm && decide (x = biName f) && glB sc x && chkA as sc (e :: es)
  | .isa a ts, sc, .Call (.Name x _) [e, .Name y p] [] _ => decide (x = ("isinstance" : Str)) && glB sc x && chkE a sc e && tysB ts [.Name y p] sc
  | .isa a ts, sc, .Call (.Name x _) [e, .Tuple es _ _] [] _ => decide (x = ("isinstance" : Str)) && glB sc x && chkE a sc e && tysB ts es sc && decide (2 ≤ es.length ∧ ts.length ≤ 100)
  | .trk a, sc, e => chkN a sc e
  | .app a x, sc, .Call (.Attribute o n ap) [e] [] cp => decide (n = ("append" : Str)) && notSuper o && (ap.endLine == cp.line) && chkE a sc o && chkE x sc e
  | .popAt a x, sc, .Call (.Attribute o n ap) [e] [] cp => decide (n = ("pop" : Str)) && notSuper o && (ap.endLine == cp.line) && chkE a sc o && chkE x sc e
  | .pop a, sc, .Call (.Attribute o n ap) [] [] cp => decide (n = ("pop" : Str)) && notSuper o && (ap.endLine == cp.line) && chkE a sc o
  | .rev a, sc, .Subscript x (.Slice none none (some (.UnaryOp .USub (.Constant (.int m) _ _) _)) _) _ => decide (m = 1) && chkE a sc x
  | .ext a x, sc, .Call (.Attribute o n ap) [e] [] cp => decide (n = ("extend" : Str)) && notSuper o && (ap.endLine == cp.line) && chkE a sc o && chkE x sc e
  | .lst as, sc, e => chkN (.lst as) sc e
  | .comp own tg src ifs elt, sc, e => chkN (.comp own tg src ifs elt) sc e
  | .bn f as, sc, e => chkN (.bn f as) sc e
  | .binL o a b, sc, e => chkN (.binL o a b) sc e
  | .slcL a lo hi, sc, e => chkN (.slcL a lo hi) sc e
  | _, _, _ => false
def chkN : I → Scope → Expr → Bool
  | .lst as, sc, .List es _ => chkA as sc es
  | .comp own tg src ifs elt, sc, .ListComp e [⟨t, it, cs, k⟩] scope _ => C.cm && decide (k = 0) && blkC C.N sc scope (ownOf C.N own) && chkTg C scope (fun i => own.contains i) tg t && notSet it && chkI src sc t it &&
      (match ifs, cs with
        | .nil, [] => true
        | .nil, _ => false
        | f, [c] => chkE f scope c
        | _, _ => false) && chkE elt scope e
  | .bn f as, sc, .Call (.Name x _) (e :: es) [] _ => decide (x = bnName f) && glB sc x && chkA as sc (e :: es)
  | .binL o a b, sc, .BinOp x o' y _ => decide (o' = o) && chkE a sc x && chkE b sc y
  | .slcL a lo hi, sc, .Subscript x (.Slice l u none _) _ => chkE a sc x && chkO lo sc l && chkO hi sc u
  | _, _, _ => false
def chkA : I → Scope → List Expr → Bool
  | .nil, _, [] => true
  | .cons a r, sc, e :: es => chkE a sc e && chkA r sc es
  | _, _, _ => false
def chkO : I → Scope → Option Expr → Bool
  | .nil, _, none => true
  | .nil, _, some _ => false
  | e, sc, some x => chkE e sc x
  | _, _, none => false
def chkI : I → Scope → Expr → Expr → Bool
  | .rng1 a, sc, _, .Call (.Name x _) [e] [] _ => decide (x = ("range" : Str)) && glB sc x && chkE a sc e
  | .rng2 a b, sc, _, .Call (.Name x _) [e, f] [] _ => decide (x = ("range" : Str)) && glB sc x && chkE a sc e && chkE b sc f
  | .rng3 a b c, sc, _, .Call (.Name x _) [e, f, g] [] _ => decide (x = ("range" : Str)) && glB sc x && chkE a sc e && chkE b sc f && chkE c sc g
  | .zip a b, sc, t, .Call (.Name x _) [e, f] [] _ => isTup t && decide (x = ("zip" : Str)) && glB sc x && chkE a sc e && chkE b sc f
  | .enm a, sc, t, .Call (.Name x _) [e] [] _ => isTup t && decide (x = ("enumerate" : Str)) && glB sc x && chkE a sc e
  | .rng1 _, _, _, _ => false
  | .rng2 _ _, _, _, _ => false
  | .rng3 _ _ _, _, _, _ => false
  | .zip _ _, _, _, _ => false
  | .enm _, _, _, _ => false
  | e, sc, _, it => chkE e sc it
end

/-- a piece's checks -/
structure Cf where
  e : Scope → Expr → Bool
  n : Scope → Expr → Bool
  a : Scope → List Expr → Bool
  o : Scope → Option Expr → Bool
  i : Scope → Expr → Expr → Bool
def F0 (ir : I) : Cf := ⟨chkE C ir, chkN C ir, chkA C ir, chkO C ir, chkI C ir⟩
/-- no comprehension that the frame stores by itself -/
def isComp : Expr → Bool
  | .ListComp _ _ _ _ => true
  | .SetComp _ _ _ _ => true
  | .DictComp _ _ _ _ _ => true
  | _ => false
def isName : Expr → Bool
  | .Name _ _ => true
  | _ => false
/-- does a list comprehension go to its name by the comprehension's own road? -/
def goesOwn (sc : Scope) (y : Str) (py : Pos) : Expr → Bool
  | .ListComp _ _ scope pos => loclB sc y && (py.line == pos.line) && !(scope.names.any fun (n, k) => n == y && (k == .local || k == .cell))
  | _ => false
def namesB (sc : Scope) : List Nat → List Expr → Bool
  | [], [] => true
  | i :: is, .Name x _ :: es => decide (C.N[i]? = some x) && loclB sc x && namesB sc is es
  | _, _ => false
def lineOf : List Expr → Nat
  | .Name _ p :: _ => p.line
  | _ => 0
def sameLine (l : Nat) : List Expr → Bool
  | [] => true
  | .Name _ p :: es => p.line == l && sameLine l es
  | _ => false
/-- are the stores of a, b = x, y exchanged? -/
def swaps (sc : Scope) (ts vs : List Expr) : Bool :=
  (ts.length == 2 || ts.length == 3) && vs.length == ts.length && sameLine (lineOf ts) ts && (ts.all fun t => match t with
    | .Name x _ => loclB sc x
    | _ => false)
def cannot (sc : Scope) (ts vs : List Expr) : Bool :=
  !(ts.length == 2 || ts.length == 3) || vs.length != ts.length || !(sameLine (lineOf ts) ts && (ts.all fun t => match t with
    | .Name x _ => loclB sc x
    | _ => false)) || vs.all (foldedForSure 8)
/-- places and names, one by one -/
def chkAts (F : I → Cf) (sc : Scope) : List At → List Expr → Bool
  | [], [] => true
  | .tg (.nm i) :: ts, .Name x _ :: es => decide (C.N[i]? = some x) && locB sc x && chkAts F sc ts es
  | .sub a i :: ts, .Subscript o x _ :: es => notSlice x && (F a).e sc o && (F i).e sc x && chkAts F sc ts es
  | _, _ => false
mutual
def chkS (F : Ck → I → Cf) : Ck → S → Scope → Stmt → Bool
  | C, .nop, _, .Pass _ => true
  | C, .doc, _, .Expr (.Constant (.str _) _ _) _ => true
  | C, .brk, _, .Break _ => true
  | C, .cnt, _, .Continue _ => true
  | C, .never, _, _ => true
  | C, .rse j, sc, .Raise (some (.Call (.Name x _) [.Constant (.str _) _ _] [] _)) none _ => C.cm && C.rs.contains j && decide (C.gs[j]? = some x) && glB sc x && okName x
  | C, .tryX b j k i su, sc, .Try body [.ExceptHandler (some (.Name x _)) (some n) (b0 :: suite) _] [] [] _ =>
    C.cm && C.hs.contains (j, k) && decide (C.gs[k]? = some x) && glB sc x && okName x && decide (C.N[i]? = some n) && loclB sc n && chkB F C b sc body && chkB F (C.suite j i n) su sc (b0 :: suite)
  | C, .asg (.tg (.nm i)) e, sc, .Assign [.Name y py] v p => decide (C.N[i]? = some y) && locB sc y && (if isComp v then goesOwn sc y py v || !(loclB sc y) else true) && (F C e).e sc v
  | C, .asg (.tg (.tp is)) e, sc, .Assign [.Tuple ts k tp] v p => chkTg C sc (fun _ => true) (.tp is) (.Tuple ts k tp) && (match v with
      | .Tuple vs _ _ => cannot sc ts vs
      | _ => true) && (F C e).e sc v
  | C, .asg (.sub a i) e, sc, .Assign [.Subscript o x q] v p => notSlice x && (F C a).e sc o && (F C i).e sc x && (F C e).e sc v
  | C, .par is as, sc, .Assign [.Tuple ts k tp] (.Tuple vs k2 tp2) p => C.cm && namesB C sc is ts && swaps sc ts vs && decide is.Nodup && !(vs.all (foldedForSure 8)) && !(vs.all (constantsAlone 8)) && (F C as).a sc vs
  | C, .aug i o e, sc, .AugAssign (.Name y _) o' v _ => decide (C.N[i]? = some y) && locB sc y && decide (o' = o) && (F C e).e sc v
  | C, .augS a i o e, sc, .AugAssign (.Subscript l x _) o' v _ => notSlice x && decide (o' = o) && (F C a).e sc l && (F C i).e sc x && (F C e).e sc v
  | C, .asgs ts e, sc, .Assign [.Tuple es k tp] v p => C.cm && chkAts C (F C) sc ts es && (match v with
      | .Tuple vs _ _ => cannot sc es vs
      | _ => true) && (F C e).e sc v
  | C, .ex e, sc, .Expr v p => !(isComp v) && (F C e).e sc v
  | C, .ret e, sc, .Return (some v) _ => (F C e).e sc v
  | C, .retN, _, .Return none _ => true
  | C, .ite t a b, sc, .If c x y _ => (F C t).e sc c && chkB F C a sc x && chkB F C b sc y
  | C, .whl t b, sc, .While c x [] _ => (F C t).e sc c && chkB F C b sc x
  | C, .for tg src b, sc, .For t it x [] _ => C.cm && chkTg C sc (fun _ => true) tg t && notSet it && (F C src).i sc t it && chkB F C b sc x
  | _, _, _, _ => false
def chkB (F : Ck → I → Cf) : Ck → S → Scope → List Stmt → Bool
  | C, .nop, _, [] => true
  | C, .seq a b, sc, st :: r => chkS F C a sc st && chkB F C b sc r
  | C, .never, _, _ => true
  | _, _, _, _ => false
end
end
end Cl
/-! Judgements: a piece of the row's text does what the clean semantics says. -/
namespace Cl
open PySem PySem.Spec PyProof.Rows L2

/-- an exception's own dict -/
def RepX (K : PySem.W.Frag) (T : Tk) (H : Hp) (dd : Option Addr) (fs : List (Str × D)) : Prop :=
  (dd = none ∧ fs = []) ∨ ∃ a ws, dd = some a ∧ H a = some (.xd ws) ∧ RepKV K T H fs ws ∧ fs ≠ []
/-- what is wanted of a result -/
def Post {α : Type} (K : PySem.W.Frag) (T : Tk) (H : Hp) (okP : α → Tk → Hp → Prop) (exP : XK) : Res α → Prop
  | .ok a hc => ∀ T' H', Ext T H T' H' → Wd K T' hc H' → okP a T' H'
  | .exc c fs hc => ∀ T' H' dd, Ext T H T' H' → Wd K T' hc H' → RepX K T' H' dd fs → exP (.ref c) dd H'
  | .bad => False
section
variable {α β : Type} {K : PySem.W.Frag} {T T1 : Tk} {H H1 : Hp} {okP okP' : α → Tk → Hp → Prop} {exP : XK} {r : Res α}
theorem Post.ext (e : Ext T H T1 H1) (h : Post K T H okP exP r) : Post K T1 H1 okP exP r := by
  cases r with
  | ok a hc => exact fun T' H' e' w => h T' H' (e.trans e') w
  | exc c fs hc => exact fun T' H' dd e' w => h T' H' dd (e.trans e') w
  | bad => exact h
theorem Post.imp (h : Post K T H okP exP r) (f : ∀ a T' H', Ext T H T' H' → okP a T' H' → okP' a T' H') : Post K T H okP' exP r := by
  cases r with
  | ok a hc => exact fun T' H' e' w => f _ _ _ e' (h T' H' e' w)
  | exc c fs hc => exact h
  | bad => exact h
theorem Post.bind {m : M α} {f : α → M β} {okP : β → Tk → Hp → Prop} {hc : Hc} (h : Post K T H okP exP (bnd m f hc)) :
    Post K T H (fun a T' H' => ∃ hc', Ext T H T' H' ∧ Wd K T' hc' H' ∧ Post K T' H' okP exP (f a hc')) exP (m hc) := by
  unfold bnd at h
  cases q : m hc with
  | ok a hc' => rw [q] at h; exact fun T' H' e w => ⟨hc', e, w, Post.ext e h⟩
  | exc c fs hc' => rw [q] at h; exact h
  | bad => rw [q] at h; exact h
theorem Post.ok_same {a : α} {hc : Hc} (h : Post K T H okP exP (.ok a hc)) (w : Wd K T hc H) : okP a T H := h T H (Ext.refl T H) w
theorem Post.of_pur {a : α} {hc : Hc} (h : Post K T H okP exP (pur a hc)) (w : Wd K T hc H) : okP a T H := h T H (Ext.refl T H) w
theorem Post.of_guard {c : Prop} {m : M α} {hc : Hc} (h : Post K T H okP exP (guard c m hc)) : c ∧ Post K T H okP exP (m hc) := by
  unfold Cl.guard at h
  split at h
  · next q => exact ⟨q, h⟩
  · exact h.elim
theorem Post.of_opt {o : Option α} {hc : Hc} (h : Post K T H okP exP (optM o hc)) (w : Wd K T hc H) : ∃ a, o = some a ∧ okP a T H := by
  cases o with
  | none => exact h.elim
  | some a => exact ⟨a, rfl, h.of_pur w⟩
theorem Post.of_ok {m : M α} {hc hc' : Hc} {a : α} (e : m hc = .ok a hc') (h : Post K T H okP exP (m hc)) : Post K T H okP exP (.ok a hc') := e ▸ h
end

/-- the promise of a def -/
def spC (K : PySem.W.Frag) (g : List D → M D) : Sp := fun vs H Q E => ∃ T hc ds, Wd K T hc H ∧ RepL K T H ds vs ∧
  Post K T H (fun d T' H' => ∀ v, Rep K T' H' d v → Q v H') E (g ds hc)
/-- the def of the module's name x does what g says -/
def FnAt (P : Program) (w : World) (K : PySem.W.Frag) (mg : Str → Option Value) (base : Heap) (k : Nat) (x : Str) (g : List D → M D) : Prop :=
  ∃ f fd ps, FnOk P w K mg base (L2.CX P w) k f fd ps (spC K g) ∧ mg x = some (.ref f) ∧ PySem.W.keepIn K (.ref f) = true ∧ Binds K fd ps []
theorem FnAt.mono {P : Program} {w : World} {K : PySem.W.Frag} {mg : Str → Option Value} {base : Heap} {k j : Nat} {x : Str} {g : List D → M D} (h : FnAt P w K mg base k x g) (l : k ≤ j) : FnAt P w K mg base j x g := by
  obtain ⟨f, fd, ps, F, a, b, c⟩ := h
  exact ⟨f, fd, ps, F.mono l, a, b, c⟩
/-- the module's constants -/
def GcAt (K : PySem.W.Frag) (mg : Str → Option Value) (x : Str) (d : D) : Prop := ∃ v u, mg x = some u ∧ RelV v u ∧ ∀ T H, Rep K T H d v

/-- a scope of the text stands behind the frame's -/
structure ScR (sc' sc : Scope) : Prop where
  kind : sc'.kind = .function
  same : ∀ x k, sc.names.lookup x = some k → k ≠ .free → sc'.names.lookup x = some k
  free : ∀ x, sc.names.lookup x = some .free → sc'.names.lookup x = some .free ∨ sc'.names.lookup x = some .cell

/-- a class that may be raised with a text -/
structure RaiseOk (K : PySem.W.Frag) (a : Addr) : Prop where
  ex : ∃ (B newId initId : String) (bmB : List Value), ExcBaseFacts B newId initId bmB ∧ PySem.W.excIn K a bmB newId = true
  kp : PySem.W.keepIn K (.ref a) = true
  sb : PySem.W.subIn K (.ref a) (.type "BaseException") = some true
  ty : PySem.W.typeIn K (.ref a) = some (.type "type")
def obsD (Cs : List D) : List Nat → Option (List Addr)
  | [] => some []
  | j :: js => match Cs[j]?, obsD Cs js with
    | some (.ob a), some as => some (a :: as)
    | _, _ => none
/-- what the constants are -/
structure ClsF (K : PySem.W.Frag) (mg : Str → Option Value) (C : Ck) (Cs : List D) : Prop where
  gc : ∀ (i : Nat) d, Cs[i]? = some d → ∃ x, C.gs[i]? = some x ∧ GcAt K mg x d
  rs : ∀ j, C.rs.contains j = true → ∀ a, Cs[j]? = some (.ob a) → RaiseOk K a
  hs : ∀ j k, C.hs.contains (j, k) = true → ∀ a, Cs[j]? = some (.ob a) → ∃ c, Cs[k]? = some (.ob c) ∧ PySem.W.exmOne K (.ref a) (.ref c) = some true
  xs : ∀ j ks b, (j, ks, b) ∈ C.xs → ∀ a, Cs[j]? = some (.ob a) → ∃ cs, obsD Cs ks = some cs ∧ ExcC K a ∧ PySem.W.kitAny K (.ref a) (cs.map Value.ref) = some b
def tIsx (i : Nat) (a : Addr) (b : Bool) : TE := fun σ H Q => σ[i]? = some (some (.ref a)) ∧ ∀ p vs, H p = none → Q (.bl b) (upd H p (.tup vs))
/-- the context -/
structure Gd (C : Ck) (G : Gt) (Cs : List D) (k : Nat) (X : Cx) (W : WX) (sc : Scope) : Prop where
  N : X.N = C.N
  nd : X.N.Nodup
  calm : C.cm = true → X.calm = true
  tk : Takes X W
  rm : C.cm = true → Room k X.A
  scr : ScR X.env.scope sc
  loc : ∀ x, locB sc x = true → X.fn x = true ∨ X.env.scope.names.lookup x = some .local
  nb : ∀ x ∈ bNames, X.mg x = none
  fs : ∀ (i : Nat) g, G.tab[i]? = some g → ∃ x, C.fs[i]? = some x ∧ FnAt X.prog X.w X.K X.mg X.base k x g
  cf : ClsF X.K X.mg C Cs
  xn : C.cm = true → G.xa = none
  xa : ∀ a (j i : Nat) n cls b, G.xa = some a → C.xq[j]? = some (i, n, cls, b) → ∀ e, xqForm n cls sc e = true → PE X e (tIsx i a b)
theorem Gd.gc {C : Ck} {G : Gt} {Cs : List D} {k : Nat} {X : Cx} {W : WX} {sc : Scope} (g : Gd C G Cs k X W sc) : ∀ (i : Nat) d, Cs[i]? = some d → ∃ x, C.gs[i]? = some x ∧ GcAt X.K X.mg x d := g.cf.gc

section
variable {C : Ck} {G : Gt} {Cs : List D} {k : Nat} {X : Cx} {W : WX} {sc : Scope} {x : Str}
theorem Gd.vis (g : Gd C G Cs k X W sc) (h : visB sc x = true) : Vis X.env.scope x := by
  unfold visB at h
  split at h
  · next q => exact .inl (g.scr.same _ _ q (by decide))
  · next q => exact .inr (.inl (g.scr.same _ _ q (by decide)))
  · next q => rcases g.scr.free _ q with z | z
              · exact .inr (.inr z)
              · exact .inr (.inl z)
  · cases h
theorem Gd.gl (g : Gd C G Cs k X W sc) (h : glB sc x = true) : Gl X x := by
  unfold glB at h
  split at h
  · next q => exact g.scr.same _ _ q (by decide)
  · cases h
theorem Gd.locl (g : Gd C G Cs k X W sc) (h : loclB sc x = true) : X.env.scope.names.lookup x = some .local := by
  unfold loclB at h
  split at h
  · next q => exact g.scr.same _ _ q (by decide)
  · cases h
theorem Gd.lo (g : Gd C G Cs k X W sc) (h : locB sc x = true) : Loc X.env.scope x := by
  unfold locB at h
  split at h
  · next q => exact .inl (g.scr.same _ _ q (by decide))
  · next q => exact .inr (g.scr.same _ _ q (by decide))
  · cases h
theorem okName_d (h : okName x = true) : (x == ("__debug__" : Str)) = false ∧ (x == ("__classdict__" : Str)) = false := by
  unfold okName at h
  rw [Bool.and_eq_true] at h
  exact ⟨by simpa using h.1, by simpa using h.2⟩
end

/-- an assignment to a name by a comprehension's own road -/
def OwnSt (C : Ck) (X : Cx) (sc : Scope) (e : Expr) (t : TE) : Prop := ∀ (i : Nat) (y : Str) (py p : Pos), X.N[i]? = some y → goesOwn sc y py e = true → PS X (.Assign [.Name y py] e p) (tAsg t (gName i))
theorem OwnSt.no {C : Ck} {X : Cx} {sc : Scope} {e : Expr} {t : TE} (h : isComp e = false) : OwnSt C X sc e t := fun i y py p _ g => by
  cases e <;> simp [goesOwn] at g
  simp [isComp] at h
def CE (C : Ck) (X : Cx) (W : WX) (sc : Scope) (e : Expr) (m : Env → M D) : Prop :=
  ∃ t, PE X e t ∧ OwnSt C X sc e t ∧ ∀ T hc H env σ (Q : VK), Wd X.K T hc H → EnvR X.K T H env σ → Post X.K T H (fun d T' H' => ∀ v, Rep X.K T' H' d v → Q v H') (WE W σ) (m env hc) → t σ H Q
def CT (X : Cx) (W : WX) (e : Expr) (m : Env → M Bool) : Prop :=
  ∃ t, PT X e t ∧ ∀ T hc H env σ (Q : Bool → Hp → Prop), Wd X.K T hc H → EnvR X.K T H env σ → Post X.K T H (fun k _ H' => Q k H') (WE W σ) (m env hc) → t σ H Q
def CW (X : Cx) (W : WX) (e : Expr) (m : Env → M Bool) : Prop :=
  ∃ t, PW X e t ∧ ∀ T hc H env σ (Q : Bool → Hp → Prop), Wd X.K T hc H → EnvR X.K T H env σ → Post X.K T H (fun k _ H' => Q k H') (WE W σ) (m env hc) → t σ H Q
def CA (X : Cx) (W : WX) (es : List Expr) (m : Env → M (List D)) : Prop :=
  ∃ t, PA X es t ∧ ∀ T hc H env σ (Q : List V → Hp → Prop), Wd X.K T hc H → EnvR X.K T H env σ → Post X.K T H (fun ds T' H' => ∀ vs, RepL X.K T' H' ds vs → Q vs H') (WE W σ) (m env hc) → t σ H Q
def CN (C : Ck) (X : Cx) (W : WX) (sc : Scope) (e : Expr) (m : Env → M (List D)) : Prop :=
  ∃ t, PE X e t ∧ OwnSt C X sc e t ∧ ∀ T hc H env σ (Q : VK), Wd X.K T hc H → EnvR X.K T H env σ →
    Post X.K T H (fun ds T' H' => ∀ p vs, H' p = none → RepL X.K T' H' ds vs → vs.length ≤ sizeLine → Q (.ref p) (upd H' p (.lst vs))) (WE W σ) (m env hc) → t σ H Q
def CO (X : Cx) (W : WX) (o : Option Expr) (m : Env → M (Option Int)) : Prop :=
  ∃ t, PO X o t ∧ ∀ T hc H env σ (Q : Option Int → Hp → Prop), Wd X.K T hc H → EnvR X.K T H env σ → Post X.K T H (fun i _ H' => Q i H') (WE W σ) (m env hc) → t σ H Q
def Deps (s : Src) (hc : Hc) : Prop := ∀ p ∈ s.dep, hc[p.1]? = some (.lst p.2)
structure ItOk (K : PySem.W.Frag) (T0 : Tk) (H0 : Hp) (J : It) (s : Src) : Prop where
  go : ∀ (i : Nat), i < s.items.length → ∀ T hc H, ExtG T0 H0 T H → Wd K T hc H → Deps s hc → J.go i H
  yld : ∀ (i : Nat) d, s.items[i]? = some d → ∀ T hc H, ExtG T0 H0 T H → Wd K T hc H → Deps s hc → ∀ x H', J.yld i H x H' → Ext T H T H' ∧ Wd K T hc H' ∧ Rep K T H' d x
  stop : ∀ T hc H, ExtG T0 H0 T H → Wd K T hc H → Deps s hc → J.stop s.items.length H
def CI (X : Cx) (W : WX) (tg it : Expr) (m : Env → M Src) : Prop :=
  ∃ wi, PI X tg it wi ∧ ∀ T hc H env σ (R : It → Hp → Prop), Wd X.K T hc H → EnvR X.K T H env σ → Post X.K T H (fun s T' H' => ∀ J, ItOk X.K T' H' J s → R J H') (WE W σ) (m env hc) → wi σ H R

theorem PG.or {X : Cx} {e : Expr} {t t' : TG} (h : PG X e t) (h' : PG X e t') : PG X e (fun v σ H Q => t v σ H Q ∨ t' v σ H Q) :=
  ⟨fun pins s σ H v u Q I r q => by
    rcases q with q | q
    · exact h.run pins s σ H v u Q I r q
    · exact h'.run pins s σ H v u Q I r q⟩
theorem PI.or {X : Cx} {tg e : Expr} {t t' : TI} (h : PI X tg e t) (h' : PI X tg e t') : PI X tg e (fun σ H R => t σ H R ∨ t' σ H R) :=
  ⟨fun pins s σ H R I q => by
    rcases q with q | q
    · exact h.run pins s σ H R I q
    · exact h'.run pins s σ H R I q⟩

/-! ### the environment -/
section
variable {K : PySem.W.Frag} {T : Tk} {H : Hp} {env : Env} {σ : L2.St}
theorem EnvR.set (r : EnvR K T H env σ) {i : Nat} {d : D} {v : V} (h : Rep K T H d v) : EnvR K T H (env.set i (some d)) (σ.set i (some v)) := by
  refine ⟨by rw [List.length_set, List.length_set, r.1], fun j x q => ?_⟩
  by_cases e : j = i
  · subst e
    have hj : j < env.length := by
      rcases Nat.lt_or_ge j (env.set j (some d)).length with z | z
      · simpa using z
      · rw [List.getElem?_eq_none_iff.mpr z] at q; cases q
    rw [List.getElem?_set_self hj] at q
    cases q
    exact ⟨v, by rw [List.getElem?_set_self (by rw [r.1]; exact hj)], h⟩
  · rw [List.getElem?_set_ne (fun z => e z.symm)] at q
    obtain ⟨u, a, b⟩ := r.2 j x q
    exact ⟨u, by rw [List.getElem?_set_ne (fun z => e z.symm)]; exact a, b⟩
theorem EnvR.clear (r : EnvR K T H env σ) (i : Nat) : EnvR K T H (env.set i none) (σ.set i none) := by
  refine ⟨by rw [List.length_set, List.length_set, r.1], fun j x q => ?_⟩
  by_cases e : j = i
  · subst e
    have hj : j < env.length := by
      rcases Nat.lt_or_ge j (env.set j none).length with z | z
      · simpa using z
      · rw [List.getElem?_eq_none_iff.mpr z] at q; cases q
    rw [List.getElem?_set_self hj] at q
    cases q
  · rw [List.getElem?_set_ne (fun z => e z.symm)] at q
    obtain ⟨u, a, b⟩ := r.2 j x q
    exact ⟨u, by rw [List.getElem?_set_ne (fun z => e z.symm)]; exact a, b⟩
theorem EnvR.wipe (r : EnvR K T H env σ) : ∀ own : List Nat, EnvR K T H (wipeE env own) (L2.wipe σ own)
  | [] => r
  | v :: vs => (EnvR.wipe r vs).clear v
end
theorem set_wipe {σ : L2.St} {i : Nat} {v : Option V} : ∀ {own : List Nat}, i ∈ own → L2.wipe (σ.set i v) own = L2.wipe σ own
  | [], h => by cases h
  | w :: vs, h => by
    simp only [L2.wipe]
    by_cases m : i ∈ vs
    · rw [set_wipe m]
    · have e : i = w := by
        rcases List.mem_cons.mp h with z | z
        · exact z
        · exact absurd z m
      subst e
      have hc : ∀ (own : List Nat) (σ : L2.St), i ∉ own → L2.wipe (σ.set i v) own = (L2.wipe σ own).set i v := by
        intro own
        induction own with
        | nil => intro σ _; rfl
        | cons a r ih =>
          intro σ hn
          simp only [L2.wipe]
          rw [ih σ (fun z => hn (List.mem_cons_of_mem _ z)), List.set_comm]
          intro z; exact hn (by rw [z]; exact List.mem_cons_self)
      rw [hc vs σ m, List.set_set]

/-! ### targets -/
def tgSlots : Tg → List Nat
  | .nm i => [i]
  | .tp is => is
def CG (X : Cx) (W : WX) (tg : Tg) (e : Expr) : Prop :=
  ∃ g, PG X e g ∧ ∀ T hc H env σ d v (Q : L2.St → Hp → Prop), Wd X.K T hc H → EnvR X.K T H env σ → Rep X.K T H d v →
    (match setTg tg d env hc with
      | .ok env' _ => ∀ σ', EnvR X.K T H env' σ' → (∀ own, (∀ i ∈ tgSlots tg, i ∈ own) → L2.wipe σ' own = L2.wipe σ own) → Q σ' H
      | _ => False) → g v σ H Q
end Cl
/-! t <= u of tuples of ints; x in a row of any data. -/
namespace Cl
open PySem PySem.Spec PyProof.Rows L2
theorem rcLe_int (A : Around) (s : Shared) (a : Int) (t : Tok) (c : Int) (u : Tok) (prog : Program) (w : World) (E : Value → Shared → Prop) (Q : Value → Shared → Prop) (h : Q (.bool (decide (a ≤ c))) s) :
    wpAny (model prog w) A (richCompare .LtE (.int a t) (.int c u)) Q E s :=
  (PyProof.Rows.le_int h : wpAny (model prog w) A (compareOp .LtE (.int a t) (.int c u)) Q E s)
section
open PySem.SeqAt
open PySem.AutoSeq1 (wpAny_loadPart')
open PySem.MeetsSeq PySem.MeetsSeq2 PySem.MeetsSeq3
theorem tuple_le_ints (l b : Addr) (items items2 : Array Value) (n n2 : Nat) (dd dd2 : Option Addr) (sl sl2 : Array (Option Value)) (ns ms : List Int) (hi : IntsAre items.toList ns) (hj : IntsAre items2.toList ms) :
    Meets (Builtin.«tuple.__le__» ⟨[.ref l, .ref b], []⟩)
      (fun _ R s => s.heap.get? l = some { cls := .type "tuple", dict := dd, data := .seq items n, slots := sl } ∧ s.heap.get? b = some { cls := .type "tuple", dict := dd2, data := .seq items2 n2, slots := sl2 } ∧
        R (.ok (.ret (.bool (!HT.lexLt ms ns)))) s) :=
  .of_wp fun prog w A R s h => by
    obtain ⟨hp, g, d, tk, os⟩ := s; obtain ⟨hl, hb, h⟩ := h
    have f2 := AutoSeq1.sub_tuple_tuple
    have z1 : items.size = ns.length := by rw [← hi.length]; simp
    have z2 : items2.size = ms.length := by rw [← hj.length]; simp
    wp_walk using wpAny_loadPart' hl, wpAny_loadPart' hb, wpAny_forIn_list _ (fun rest b s' => b.1 = none ∧ s' = ⟨hp, g, d, tk, os⟩ ∧ ∃ (vs ws : List Value) (ns' ms' : List Int), rest = vs.zip ws ∧
      IntsAre vs ns' ∧ IntsAre ws ms' ∧ ns'.length + items2.size = ms'.length + items.size ∧ R (.ok (.ret (.bool (!HT.lexLt ms' ns')))) ⟨hp, g, d, tk, os⟩) _
    case turn =>
      rintro ⟨y, x⟩ rest b s' ⟨hb', rfl, vs, ws, ns', ms', hz, hvi, hwi, hlen, hR⟩
      cases hvi with
      | nil => rw [List.zip_nil_left] at hz; cases hz
      | cons a t hvi' =>
        cases hwi with
        | nil => rw [List.zip_nil_right] at hz; cases hz
        | cons c u hwi' =>
          rw [List.zip_cons_cons] at hz
          injection hz with hyx hrest
          injection hyx with hy hx
          subst hy hx
          rw [HT.lexLt_cons] at hR
          simp only [List.length_cons] at hlen
          obtain ⟨e, he, hiff⟩ := HT.eqAt_int A.in1 ⟨hp, g, d, tk, os⟩ a t c u
          refine wpAny_bind (he prog w _ _ ?_)
          cases e with
          | true =>
            rw [if_pos (hiff.mp rfl).symm] at hR
            wp_walk
            exact ⟨rfl, rfl, _, _, _, _, hrest, hvi', hwi', by omega, hR⟩
          | false =>
            have hne : ¬ a = c := fun q => absurd (hiff.mpr q) Bool.false_ne_true
            rw [if_neg (fun q => hne q.symm)] at hR
            have hri := rcLe_int A.in1 ⟨hp, g, d, tk, os⟩ a t c u prog w
            have ed : (!decide (c < a)) = decide (a ≤ c) := by
              by_cases z : c < a
              · have z2 : ¬ a ≤ c := by omega
                simp [z, z2]
              · have z2 : a ≤ c := by omega
                simp [z, z2]
            rw [ed] at hR
            wp_walk using hri
            exact ⟨_, rfl, by simpa using hR⟩
    case fin =>
      rintro ⟨b1, b2⟩ s' ⟨hb', rfl, vs, ws, ns', ms', hz, hvi, hwi, hlen, hR⟩
      simp only at hb'
      subst hb'
      have hv : (!HT.lexLt ms' ns') = decide (items.size ≤ items2.size) := by
        cases hvi with
        | nil =>
          cases hwi with
          | nil =>
            simp only [List.length_nil] at hlen
            rw [HT.lexLt_nil_nil]
            exact (decide_eq_true (by omega)).symm
          | cons c u hw =>
            simp only [List.length_nil, List.length_cons] at hlen
            rw [HT.lexLt_cons_nil]
            exact (decide_eq_true (by omega)).symm
        | cons a t hv =>
          cases hwi with
          | nil =>
            simp only [List.length_nil, List.length_cons] at hlen
            rw [HT.lexLt_nil_cons]
            exact (decide_eq_false (by omega)).symm
          | cons c u hw =>
            rw [List.zip_cons_cons] at hz
            cases hz
      rw [hv] at hR
      wp_walk
      exact ⟨_, rfl, by simpa [Builtin.Tuple.tupleCompareSizes] using hR⟩
    case h =>
      exact ⟨rfl, rfl, items.toList, items2.toList, ns, ms, rfl, hi, hj, by omega, h⟩
end
section
variable {prog : Program} {w : World} {A : Around} {E : Value → Shared → Prop} {s : Shared}
theorem le_tupInts {l b : Addr} {items items2 : Array Value} {ns ms : List Int} {Q : Value → Shared → Prop} (hl : IsTup s.heap l items) (hb : IsTup s.heap b items2) (hi : IntsAre items.toList ns) (hj : IntsAre items2.toList ms)
    (hu : A.units < cLine) (h : Q (.bool (!HT.lexLt ms ns)) s) : wpAny (model prog w) A (compareOp .LtE (.ref l) (.ref b)) Q E s := by
  obtain ⟨⟨cls, dd, data, sl⟩, ho, hc, n, hd⟩ := id hl
  obtain ⟨⟨cls2, dd2, data2, sl2⟩, ho2, hc2, n2, hd2⟩ := id hb
  simp only at hc hd hc2 hd2
  subst hc hd hc2 hd2
  exact richCompare_meets_room (op := .LtE) ⟨_, ho, rfl⟩ ⟨_, ho2, rfl⟩ PySem.F.slot_tuple_le PySem.F.entry_tuple_le (PySem.F.args_tuple_le_2 _ _) (tuple_le_ints l b items items2 n n2 dd dd2 sl sl2 ns ms hi hj)
    ⟨ho, ho2, show Value.bool (!HT.lexLt ms ns) ≠ Value.notImplemented ∧ Q (.bool (!HT.lexLt ms ns)) s from ⟨(fun x => nomatch x), h⟩⟩ hu
end
section
variable {X : Cx}
def rLeT (K : PySem.W.Frag) : R2 := fun x y H Q => ∃ a b ns ms, x = .ref a ∧ y = .ref b ∧ SqT K H a (ns.map V.int) ∧ SqT K H b (ms.map V.int) ∧ Q (.bl (!HT.lexLt ms ns)) H
theorem op_leT (hu : X.A.units < cLine) : OpR X (compareOp .LtE) (rLeT X.K) := by
  intro pins s σ H x y v u Q I rx ry h
  obtain ⟨a, b, ns, ms, rfl, rfl, ha, hb, q⟩ := h
  cases rx
  cases ry
  obtain ⟨its, r1, p1, _⟩ := I.tuple ha
  obtain ⟨its2, r2, p2, _⟩ := I.tuple hb
  have i1 : IntsAre its.toArray.toList ns := intsAre_of r1
  have i2 : IntsAre its2.toArray.toList ms := intsAre_of r2
  exact le_tupInts p1 p2 i1 i2 hu ⟨.bl (!HT.lexLt ms ns), H, I, rfl, q⟩

/-! ### x in a tuple of any data -/
open Classical in
noncomputable def hitU (h : Heap) (d : PyData) (u : Value) : Bool := if q : ∃ p as, Reads h u p as then PyData.eqv q.choose d else false
theorem hitU_of {h : Heap} {d p : PyData} {u : Value} {as : List Addr} (r : Reads h u p as) : hitU h d u = PyData.eqv p d := by
  unfold hitU
  have q : ∃ p as, Reads h u p as := ⟨p, as, r⟩
  rw [dif_pos q]
  obtain ⟨as', r'⟩ := q.choose_spec
  rw [(Reads.unique r' p as r).1]
theorem any_hit {h : Heap} {d : PyData} : ∀ {us : List Value} {ps : List PyData} {as : List Addr}, ReadsAll h us ps as → us.any (hitU h d) = ps.any fun p => PyData.eqv p d
  | _, _, _, .nil => rfl
  | _, _, _, .cons r t => by rw [List.any_cons, List.any_cons, hitU_of r, any_hit t]
theorem mem_hit {A : Around} {s : Shared} {d : PyData} {v : Value} {bs : List Addr} (rv : Reads s.heap v d bs) (sd : SeqAt.shaped d = true) (hu : A.units + 64 < cLine) :
    ∀ {us : List Value} {ps : List PyData} {as : List Addr}, ReadsAll s.heap us ps as → ps.all SeqAt.shaped = true → ∀ u ∈ us, SeqAt.EqAt A s u v (hitU s.heap d u)
  | _, _, _, .nil, _ => fun u hu => by cases hu
  | _, _, _, .cons (d := p) r t, f => fun u' hu' => by
    rw [List.all_cons, Bool.and_eq_true] at f
    rcases List.mem_cons.mp hu' with rfl | hm
    · rw [hitU_of r]
      exact SeqAt.eqAt_reads _ _ A s _ _ _ _ r rv (SeqAt.canLay_of_shaped f.1) (SeqAt.canLay_of_shaped sd) (SeqAt.room_of_shaped f.1 hu)
    · exact mem_hit rv sd hu t f.2 u' hm
def rInD (K : PySem.W.Frag) (neg : Bool) : R2 := fun x y H Q => ∃ p xs d ps, y = .ref p ∧ SqT K H p xs ∧ Dp K H x d ∧ DpAll K H xs ps ∧ SeqAt.shaped d = true ∧ ps.all SeqAt.shaped = true ∧
  Q (.bl (if neg then !(ps.any fun p => PyData.eqv p d) else ps.any fun p => PyData.eqv p d)) H
theorem op_inD (hu : X.A.units + 65 < cLine) : OpR X (compareOp .In) (rInD X.K false) := by
  intro pins s σ H x y v u Q I rx ry h
  obtain ⟨p, xs, d, ps, rfl, hq, hd, hp, sd, sp, q⟩ := h
  cases ry
  obtain ⟨its, r, pl, hz⟩ := I.tuple hq
  obtain ⟨as, r1⟩ := Dp.reads I d x v hd rx
  obtain ⟨bs, r2⟩ := Dp.readsAll I ps xs its hp r
  refine SeqAt.in_tupleAt (hitU s.heap d) pl (fun w hw => mem_hit r1 sd (by show X.A.units + 1 + 64 < cLine; omega) r2 sp w (by simpa using hw)) ⟨.bl _, H, I, rfl, ?_⟩
  rw [show its.toArray.any (hitU s.heap d) = its.any (hitU s.heap d) by simp, any_hit r2]
  exact q
theorem op_notInD (hu : X.A.units + 65 < cLine) : OpR X (compareOp .NotIn) (rInD X.K true) := by
  intro pins s σ H x y v u Q I rx ry h
  obtain ⟨p, xs, d, ps, rfl, hq, hd, hp, sd, sp, q⟩ := h
  cases ry
  obtain ⟨its, r, pl, hz⟩ := I.tuple hq
  obtain ⟨as, r1⟩ := Dp.reads I d x v hd rx
  obtain ⟨bs, r2⟩ := Dp.readsAll I ps xs its hp r
  refine SeqAt.notIn_tupleAt (hitU s.heap d) pl (fun w hw => mem_hit r1 sd (by show X.A.units + 1 + 64 < cLine; omega) r2 sp w (by simpa using hw)) ⟨.bl _, H, I, rfl, ?_⟩
  rw [show its.toArray.any (hitU s.heap d) = its.any (hitU s.heap d) by simp, any_hit r2]
  exact q
end
end Cl
/-! Operations on values: the clean ones and the hand layer's. -/
namespace Cl
open PySem PySem.Spec PyProof.Rows L2

section
variable {K : PySem.W.Frag} {T : Tk} {H : Hp} {hc : Hc} {exP : XK} {α : Type}

theorem lstAt_ok {i : Nat} {xs : List D} {hc' : Hc} (h : lstAt i hc = .ok xs hc') : hc[i]? = some (.lst xs) ∧ hc' = hc := by
  unfold lstAt at h
  split at h
  · next q => cases h; exact ⟨q, rfl⟩
  · cases h
theorem post_lstAt {i : Nat} {okP : List D → Tk → Hp → Prop} {m : List D → M α} {okQ : α → Tk → Hp → Prop} (w : Wd K T hc H) (h : Post K T H okQ exP (bnd (lstAt i) m hc)) :
    ∃ xs a vs, hc[i]? = some (.lst xs) ∧ T.ρ[i]? = some a ∧ H a = some (.lst vs) ∧ vs.length ≤ sizeLine ∧ RepL K T H xs vs ∧ Post K T H okQ exP (m xs hc) := by
  unfold bnd lstAt at h
  cases q : hc[i]? with
  | none => rw [q] at h; exact h.elim
  | some o =>
    cases o with
    | lst xs =>
      rw [q] at h
      obtain ⟨a, ha, vs, e, l, r⟩ := w.obj i _ q
      exact ⟨xs, a, vs, rfl, ha, e, l, r, h⟩
    | dct _ => rw [q] at h; exact h.elim
    | ins _ _ => rw [q] at h; exact h.elim
theorem atm {i : Nat} {a : Addr} {ρ : List Addr} (h : ρ[i]? = some a) : a ∈ ρ := List.mem_iff_getElem?.mpr ⟨i, h⟩
/-- items that are read -/
theorem post_seq {d : D} {v : V} {m : List D → M α} {okQ : α → Tk → Hp → Prop} (w : Wd K T hc H) (r : Rep K T H d v) (h : Post K T H okQ exP (bnd (seqM d) m hc)) :
    ∃ xs a vs, v = .ref a ∧ (SqL K H a vs ∨ SqT K H a vs) ∧ ((∀ ys, d ≠ .tup ys) → SqL K H a vs) ∧ (∀ ys, d = .tup ys → SqT K H a vs ∧ xs = ys) ∧ vs.length ≤ sizeLine ∧ RepL K T H xs vs ∧ Post K T H okQ exP (m xs hc) ∧ seqM d hc = .ok xs hc := by
  cases d with
  | tup xs =>
    simp only [Rep] at r
    obtain ⟨a, vs, e, s, l, q⟩ := r
    exact ⟨xs, a, vs, e, .inr s, fun z => absurd rfl (z xs), fun ys z => by cases z; exact ⟨s, rfl⟩, l, q, h, rfl⟩
  | fl xs =>
    simp only [Rep] at r
    obtain ⟨a, vs, e, s, l, q⟩ := r
    exact ⟨xs, a, vs, e, .inl s.sq, fun _ => s.sq, fun ys z => (by cases z), l, q, h, rfl⟩
  | kl xs =>
    simp only [Rep] at r
    obtain ⟨a, vs, e, s, l, q⟩ := r
    exact ⟨xs, a, vs, e, .inl s.sq, fun _ => s.sq, fun ys z => (by cases z), l, q, h, rfl⟩
  | ref i =>
    obtain ⟨xs, a, vs, q, ha, e, l, rr, p⟩ := post_lstAt (okP := fun _ _ _ => True) w h
    simp only [Rep] at r
    obtain ⟨b, eb, hb⟩ := r
    rw [ha] at hb; cases hb
    exact ⟨xs, a, vs, eb, .inl (SqL.of e), fun _ => SqL.of e, fun ys z => (by cases z), l, rr, p, by simp only [seqM, lstAt, q]⟩
  | _ => exact h.elim
theorem post_seq0 {d : D} {v : V} {okQ : List D → Tk → Hp → Prop} (w : Wd K T hc H) (r : Rep K T H d v) (h : Post K T H okQ exP (seqM d hc)) :
    ∃ xs a vs, v = .ref a ∧ (SqL K H a vs ∨ SqT K H a vs) ∧ ((∀ ys, d ≠ .tup ys) → SqL K H a vs) ∧ (∀ ys, d = .tup ys → SqT K H a vs ∧ xs = ys) ∧ vs.length ≤ sizeLine ∧ RepL K T H xs vs ∧ okQ xs T H := by
  have h' : Post K T H okQ exP (bnd (seqM d) pur hc) := by
    have e : bnd (seqM d) pur = seqM d := by
      funext h
      unfold bnd
      cases seqM d h <;> rfl
    rw [e]; exact h
  obtain ⟨xs, a, vs, e, s, sl, st, l, rr, p, _⟩ := post_seq w r h'
  exact ⟨xs, a, vs, e, s, sl, st, l, rr, p.of_pur w⟩
/-- an unlocked list -/
theorem post_ls {d : D} {v : V} {m : List D → M α} {okQ : α → Tk → Hp → Prop} (w : Wd K T hc H) (r : Rep K T H d v) (h : Post K T H okQ exP (bnd (lsM d) m hc)) :
    ∃ xs a vs, v = .ref a ∧ H a = some (.lst vs) ∧ vs.length ≤ sizeLine ∧ RepL K T H xs vs ∧ Post K T H okQ exP (m xs hc) := by
  cases d with
  | fl xs =>
    simp only [Rep] at r
    obtain ⟨a, vs, e, s, l, q⟩ := r
    exact ⟨xs, a, vs, e, s.1, l, q, h⟩
  | ref i =>
    obtain ⟨xs, a, vs, q, ha, e, l, rr, p⟩ := post_lstAt (okP := fun _ _ _ => True) w h
    simp only [Rep] at r
    obtain ⟨b, eb, hb⟩ := r
    rw [ha] at hb; cases hb
    exact ⟨xs, a, vs, eb, e, l, rr, p⟩
  | _ => exact h.elim

/-! ### truth -/
theorem isEmpty_len {xs : List D} {vs : List V} (h : RepL K T H xs vs) : vs.isEmpty = xs.isEmpty := by
  have := h.length
  cases xs <;> cases vs <;> simp at this <;> rfl
theorem post_tru {d : D} {v : V} {okQ : Bool → Tk → Hp → Prop} (w : Wd K T hc H) (r : Rep K T H d v) (h : Post K T H okQ exP (truM d hc)) : ∃ k, TruV K v H k ∧ okQ k T H := by
  cases d with
  | non => simp only [Rep] at r; subst r; exact ⟨false, rfl, h.of_pur w⟩
  | bl b => simp only [Rep] at r; subst r; exact ⟨b, rfl, h.of_pur w⟩
  | int i => simp only [Rep] at r; subst r; exact ⟨_, rfl, h.of_pur w⟩
  | str x =>
    simp only [Rep] at r; subst r
    obtain ⟨c, h⟩ := Post.of_guard h
    exact ⟨_, ⟨c, rfl⟩, h.of_pur w⟩
  | tup xs =>
    simp only [Rep] at r
    obtain ⟨a, vs, e, s, l, q⟩ := r
    subst e
    exact ⟨_, .inr (.inl ⟨vs, s, rfl⟩), by rw [isEmpty_len q]; exact h.of_pur w⟩
  | fl xs =>
    simp only [Rep] at r
    obtain ⟨a, vs, e, s, l, q⟩ := r
    subst e
    exact ⟨_, .inl ⟨vs, s.sq, rfl⟩, by rw [isEmpty_len q]; exact h.of_pur w⟩
  | kl xs =>
    simp only [Rep] at r
    obtain ⟨a, vs, e, s, l, q⟩ := r
    subst e
    exact ⟨_, .inl ⟨vs, s.sq, rfl⟩, by rw [isEmpty_len q]; exact h.of_pur w⟩
  | ref i =>
    simp only [Rep] at r
    obtain ⟨b, eb, hb⟩ := r
    subst eb
    unfold truM at h
    dsimp only at h
    cases q : hc[i]? with
    | none => rw [q] at h; exact h.elim
    | some o =>
      obtain ⟨a, ha, ro⟩ := w.obj i _ q
      rw [ha] at hb; cases hb
      cases o with
      | lst xs =>
        rw [q] at h
        obtain ⟨vs, e, l, rr⟩ := ro
        exact ⟨_, .inl ⟨vs, SqL.of e, rfl⟩, by rw [isEmpty_len rr]; exact Post.ok_same h w⟩
      | dct kvs =>
        rw [q] at h
        obtain ⟨vs, e, l, rr⟩ := ro
        refine ⟨_, .inr (.inr ⟨vs, e, rfl⟩), ?_⟩
        have : vs.isEmpty = kvs.isEmpty := by
          cases kvs with
          | nil => simp only [RepKV] at rr; rw [rr]; rfl
          | cons p ps =>
            obtain ⟨k, d⟩ := p
            simp only [RepKV] at rr
            obtain ⟨v, r, z, _⟩ := rr
            rw [z]; rfl
        rw [this]; exact Post.ok_same h w
      | ins _ _ => rw [q] at h; exact h.elim
  | ob _ => exact h.elim
  | ty _ => exact h.elim

/-! ### == -/
mutual
theorem dp_of : ∀ (d : D) (p : PyData) (v : V), Rep K T H d v → toPy d = some p → Dp K H v p
  | .non, p, v, r, e => by simp only [Rep] at r; simp only [toPy, Option.some.injEq] at e; subst r; subst e; exact .non
  | .bl b, p, v, r, e => by simp only [Rep] at r; simp only [toPy, Option.some.injEq] at e; subst r; subst e; exact .bl b
  | .int i, p, v, r, e => by simp only [Rep] at r; simp only [toPy, Option.some.injEq] at e; subst r; subst e; exact .int i
  | .str x, p, v, r, e => by simp only [Rep] at r; simp only [toPy, Option.some.injEq] at e; subst r; subst e; exact .str x
  | .tup xs, p, v, r, e => by
    simp only [Rep] at r
    obtain ⟨a, vs, q, s, l, rr⟩ := r
    simp only [toPy, Option.map_eq_some_iff] at e
    obtain ⟨ps, e1, e2⟩ := e
    subst q; subst e2
    exact .tup s (dps_of xs ps vs rr e1)
  | .fl xs, p, v, r, e => by
    simp only [Rep] at r
    obtain ⟨a, vs, q, s, l, rr⟩ := r
    simp only [toPy, Option.map_eq_some_iff] at e
    obtain ⟨ps, e1, e2⟩ := e
    subst q; subst e2
    exact .lst s.sq (dps_of xs ps vs rr e1)
  | .kl xs, p, v, r, e => by
    simp only [Rep] at r
    obtain ⟨a, vs, q, s, l, rr⟩ := r
    simp only [toPy, Option.map_eq_some_iff] at e
    obtain ⟨ps, e1, e2⟩ := e
    subst q; subst e2
    exact .lst s.sq (dps_of xs ps vs rr e1)
  | .ref _, p, v, r, e => by simp only [toPy] at e; cases e
  | .ob _, p, v, r, e => by simp only [toPy] at e; cases e
  | .ty _, p, v, r, e => by simp only [toPy] at e; cases e
theorem dps_of : ∀ (ds : List D) (ps : List PyData) (vs : List V), RepL K T H ds vs → toPys ds = some ps → DpAll K H vs ps
  | [], ps, vs, r, e => by simp only [RepL] at r; simp only [toPys, Option.some.injEq] at e; subst r; subst e; exact .nil
  | d :: ds, ps, vs, r, e => by
    simp only [RepL] at r
    obtain ⟨v, t, q, ra, rb⟩ := r
    simp only [toPys] at e
    split at e
    · next p1 p2 h1 h2 =>
      cases e
      subst q
      exact .cons (dp_of d _ v ra h1) (dps_of ds _ t rb h2)
    · cases e
end
theorem dpH_of (w : Wd K T hc H) {d : D} {p : PyData} {v : V} (r : Rep K T H d v) (e : toPyH hc d = some p) : Dp K H v p := by
  cases d with
  | ref i =>
    simp only [toPyH] at e
    split at e
    · next xs q =>
      rw [Option.map_eq_some_iff] at e
      obtain ⟨ps, e1, e2⟩ := e
      simp only [Rep] at r
      obtain ⟨b, eb, hb⟩ := r
      obtain ⟨a, ha, vs, h1, l, rr⟩ := w.obj i _ q
      rw [ha] at hb; cases hb
      subst eb; subst e2
      exact .lst (SqL.of h1) (dps_of xs ps vs rr e1)
    · cases e
  | _ => exact dp_of _ p v r e
theorem post_eq {a b : D} {v u : V} {okQ : Bool → Tk → Hp → Prop} (w : Wd K T hc H) (ra : Rep K T H a v) (rb : Rep K T H b u) (h : Post K T H okQ exP (eqM a b hc)) :
    ∃ p q, Dp K H v p ∧ Dp K H u q ∧ SeqAt.shaped p = true ∧ SeqAt.shaped q = true ∧ okQ (PyData.eqv p q) T H := by
  unfold eqM at h
  split at h
  · next p q h1 h2 =>
    split at h
    · next c =>
      rw [Bool.and_eq_true] at c
      exact ⟨p, q, dpH_of w ra h1, dpH_of w rb h2, c.1, c.2, Post.ok_same h w⟩
    · exact h.elim
  · exact h.elim

/-! ### the other comparisons -/
theorem isNon_iff {d : D} {v : V} (r : Rep K T H d v) : decide (v = .non) = isNon d := by
  cases d <;> simp only [Rep] at r <;> (try (obtain ⟨a, vs, q, _⟩ := r; subst q; rfl)) <;> (try (obtain ⟨a, q, _⟩ := r; subst q; rfl)) <;> (subst r; rfl)
theorem intsD_of : ∀ {xs : List D} {ns : List Int}, intsD xs = some ns → xs = ns.map D.int
  | [], ns, e => by simp only [intsD, Option.some.injEq] at e; subst e; rfl
  | d :: ds, ns, e => by
    cases d with
    | int i =>
      simp only [intsD, Option.map_eq_some_iff] at e
      obtain ⟨r, e1, e2⟩ := e
      subst e2
      rw [intsD_of e1]; rfl
    | _ => simp only [intsD] at e; cases e
theorem intsD_map (ns : List Int) : intsD (ns.map D.int) = some ns := by
  induction ns with
  | nil => rfl
  | cons n r ih => simp only [List.map_cons, intsD, ih, Option.map_some]
theorem blsD_of : ∀ {xs : List D} {ns : List Bool}, blsD xs = some ns → xs = ns.map D.bl
  | [], ns, e => by simp only [blsD, Option.some.injEq] at e; subst e; rfl
  | d :: ds, ns, e => by
    cases d with
    | bl i =>
      simp only [blsD, Option.map_eq_some_iff] at e
      obtain ⟨r, e1, e2⟩ := e
      subst e2
      rw [blsD_of e1]; rfl
    | _ => simp only [blsD] at e; cases e
theorem blsD_map (ns : List Bool) : blsD (ns.map D.bl) = some ns := by
  induction ns with
  | nil => rfl
  | cons n r ih => simp only [List.map_cons, blsD, ih, Option.map_some]
theorem repL_intsV {ns : List Int} {vs : List V} (r : RepL K T H (ns.map D.int) vs) : vs = ns.map V.int := by
  induction ns generalizing vs with
  | nil => simp only [List.map_nil, RepL] at r; exact r
  | cons n l ih =>
    simp only [List.map_cons, RepL] at r
    obtain ⟨v, t, q, a, b⟩ := r
    simp only [Rep] at a
    rw [q, a, ih b]; rfl
theorem repL_blsV {ns : List Bool} {vs : List V} (r : RepL K T H (ns.map D.bl) vs) : vs = ns.map V.bl := by
  induction ns generalizing vs with
  | nil => simp only [List.map_nil, RepL] at r; exact r
  | cons n l ih =>
    simp only [List.map_cons, RepL] at r
    obtain ⟨v, t, q, a, b⟩ := r
    simp only [Rep] at a
    rw [q, a, ih b]; rfl
theorem flatV_of {d : D} {v : V} (r : Rep K T H d v) (f : flatD d = true) : flatV v = true := by
  cases d <;> simp only [flatD, Bool.false_eq_true] at f <;> simp only [Rep] at r <;> subst r <;> rfl
theorem eqF_of {a b : D} {v u : V} (ra : Rep K T H a v) (rb : Rep K T H b u) (fa : flatD a = true) (fb : flatD b = true) : eqV v u = eqF a b := by
  cases a <;> simp only [flatD, Bool.false_eq_true] at fa <;> cases b <;> simp only [flatD, Bool.false_eq_true] at fb <;> simp only [Rep] at ra rb <;> subst ra <;> subst rb <;> rfl
theorem flats_of : ∀ {xs : List D} {vs : List V}, RepL K T H xs vs → xs.all flatD = true → vs.all flatV = true
  | [], vs, r, _ => by simp only [RepL] at r; subst r; rfl
  | d :: ds, vs, r, f => by
    simp only [RepL] at r
    obtain ⟨v, t, q, a, b⟩ := r
    rw [List.all_cons, Bool.and_eq_true] at f
    rw [q, List.all_cons, flatV_of a f.1, flats_of b f.2]; rfl
theorem any_of {x : D} {u : V} (rx : Rep K T H x u) (fx : flatD x = true) : ∀ {xs : List D} {vs : List V}, RepL K T H xs vs → xs.all flatD = true → inV u vs = xs.any fun y => eqF y x
  | [], vs, r, _ => by simp only [RepL] at r; subst r; rfl
  | d :: ds, vs, r, f => by
    simp only [RepL] at r
    obtain ⟨v, t, q, a, b⟩ := r
    rw [List.all_cons, Bool.and_eq_true] at f
    have ih := any_of rx fx b f.2
    unfold inV at ih ⊢
    rw [q, List.any_cons, List.any_cons, ih, eqF_of a rx f.1 fx]
end

/-! ### rules for values, by the operator -/
def rCmp (K : PySem.W.Frag) : CmpOp → R2
  | .Eq => rEqD K
  | .NotEq => rNeD K
  | .Lt => fun x y H Q => (rI0 (fun i j => .bl (decide (i < j))) x y H Q ∨ (∃ i j, x = .str i ∧ y = .str j ∧ Q (.bl (decide (i.cps.toList < j.cps.toList))) H)) ∨ rLtT K x y H Q
  | .LtE => fun x y H Q => rI0 (fun i j => .bl (decide (i ≤ j))) x y H Q ∨ rLeT K x y H Q
  | .Gt => rI0 fun i j => .bl (decide (j < i))
  | .GtE => rI0 fun i j => .bl (decide (j ≤ i))
  | .Is => fun x y H Q => (y = .non ∧ Q (.bl (decide (x = .non))) H) ∨ rIsB x y H Q
  | .IsNot => fun x y H Q => (y = .non ∧ Q (.bl (!decide (x = .non))) H) ∨ rNotB x y H Q
  | .In => fun x y H Q => rIn K false x y H Q ∨ (∃ i j, x = .str i ∧ y = .str j ∧ Q (.bl (!(Builtin.Str.occurrences j i 0 j.length 1).isEmpty)) H) ∨ rInD K false x y H Q
  | .NotIn => fun x y H Q => rIn K true x y H Q ∨ (∃ i j, x = .str i ∧ y = .str j ∧ Q (.bl (!(!(Builtin.Str.occurrences j i 0 j.length 1).isEmpty))) H) ∨ rInD K true x y H Q
theorem opCmp {X : Cx} {k : Nat} (hr : Room k X.A) : ∀ o : CmpOp, OpR X (compareOp o) (rCmp X.K o)
  | .Eq => op_eqD hr.units
  | .NotEq => op_neD hr.units
  | .Lt => OpR.or (OpR.or op_lt op_lt_str) (op_ltT hr.units0)
  | .LtE => OpR.or op_le (op_leT hr.units0)
  | .Gt => op_gt
  | .GtE => op_ge
  | .Is => OpR.or op_isN op_isBl
  | .IsNot => OpR.or op_notN op_notBl
  | .In => OpR.or op_in_seq (OpR.or op_in_str (op_inD (by have := hr.un; omega)))
  | .NotIn => OpR.or op_notIn_seq (OpR.or op_notIn_str (op_notInD (by have := hr.un; omega)))
section
variable {K : PySem.W.Frag} {T : Tk} {H : Hp} {hc : Hc} {exP : XK}
theorem post_is {a b : D} {v u : V} {okQ : Bool → Tk → Hp → Prop} (w : Wd K T hc H) (ra : Rep K T H a v) (rb : Rep K T H b u) (h : Post K T H okQ exP (isM a b hc)) :
    (u = .non ∧ okQ (decide (v = .non)) T H) ∨ ∃ x y : Bool, v = .bl x ∧ u = .bl y ∧ okQ (decide (x = y)) T H := by
  unfold isM at h
  split at h
  · simp only [Rep] at rb
    exact .inl ⟨rb, by rw [isNon_iff ra]; exact h.of_pur w⟩
  · simp only [Rep] at ra rb
    exact .inr ⟨_, _, ra, rb, h.of_pur w⟩
  · exact h.elim
theorem post_in {a b : D} {v u : V} {okQ : Bool → Tk → Hp → Prop} (w : Wd K T hc H) (ra : Rep K T H a v) (rb : Rep K T H b u) (h : Post K T H okQ exP (inM a b hc)) :
    (∃ p xs k, u = .ref p ∧ (SqL K H p xs ∨ SqT K H p xs) ∧ flatV v = true ∧ xs.all flatV = true ∧ inV v xs = k ∧ okQ k T H) ∨
      (∃ i j, v = .str i ∧ u = .str j ∧ okQ (!(Builtin.Str.occurrences j i 0 j.length 1).isEmpty) T H) ∨
      (∃ p xs d ps, u = .ref p ∧ SqT K H p xs ∧ Dp K H v d ∧ DpAll K H xs ps ∧ SeqAt.shaped d = true ∧ ps.all SeqAt.shaped = true ∧ okQ (ps.any fun q => PyData.eqv q d) T H) := by
  unfold inM at h
  split at h
  · simp only [Rep] at ra rb
    exact .inr (.inl ⟨_, _, ra, rb, h.of_pur w⟩)
  · next i =>
    left
    dsimp only at h
    cases q : hc[i]? with
    | none => rw [q] at h; exact h.elim
    | some o =>
      cases o with
      | lst xs =>
        rw [q] at h
        simp only at h
        split at h
        · next f =>
          obtain ⟨a, ha, vs, e, l, r⟩ := w.obj i _ q
          simp only [Rep] at rb
          obtain ⟨b, eb, hb⟩ := rb
          rw [ha] at hb; cases hb
          exact ⟨a, vs, _, eb, .inl (SqL.of e), flatV_of ra f.1, flats_of r f.2, any_of ra f.1 r f.2, Post.ok_same h w⟩
        · exact h.elim
      | dct _ => rw [q] at h; exact h.elim
      | ins _ _ => rw [q] at h; exact h.elim
  · next as xs =>
    right; right
    split at h
    · next p ps h1 h2 =>
      split at h
      · next c =>
        rw [Bool.and_eq_true] at c
        have r2 := rb
        simp only [Rep] at r2
        obtain ⟨a, vs, eu, st, l, rr⟩ := r2
        exact ⟨a, vs, p, ps, eu, st, dp_of _ p v ra h1, dps_of xs ps vs rr h2, c.1, c.2, Post.ok_same h w⟩
      · exact h.elim
    · exact h.elim
  · left
    obtain ⟨xs, p, vs, e, s, _, _, l, r, h, _⟩ := post_seq w rb h
    obtain ⟨f, h⟩ := Post.of_guard h
    exact ⟨p, vs, _, e, s, flatV_of ra f.1, flats_of r f.2, any_of ra f.1 r f.2, h.of_pur w⟩
theorem post_cmp {o : CmpOp} {a b : D} {v u : V} {Q : VK} (w : Wd K T hc H) (ra : Rep K T H a v) (rb : Rep K T H b u) (h : Post K T H (fun k T' H' => Q (.bl k) H') exP (cmpM o a b hc)) : rCmp K o v u H Q := by
  cases o with
  | Eq => exact post_eq w ra rb h
  | NotEq =>
    obtain ⟨p, q, d1, d2, s1, s2, x⟩ := post_eq w ra rb (Post.bind h)
    obtain ⟨_, _, w', x⟩ := x
    exact ⟨p, q, d1, d2, s1, s2, x.of_pur w'⟩
  | Lt =>
    simp only [cmpM] at h
    unfold ltM at h
    split at h
    · simp only [Rep] at ra rb; exact .inl (.inl ⟨_, _, ra, rb, h.of_pur w⟩)
    · simp only [Rep] at ra rb; exact .inl (.inr ⟨_, _, ra, rb, h.of_pur w⟩)
    · next xs ys =>
      cases e1 : intsD xs with
      | none => rw [e1] at h; exact h.elim
      | some ns =>
        cases e2 : intsD ys with
        | none => rw [e1, e2] at h; exact h.elim
        | some ms =>
          rw [e1, e2] at h
          have e1' := intsD_of e1
          have e2' := intsD_of e2
          simp only [Rep] at ra rb
          obtain ⟨p, vs, q, s, l, rr⟩ := ra
          obtain ⟨p', us, q', s', l', rr'⟩ := rb
          subst e1'; subst e2'
          rw [repL_intsV rr] at s
          rw [repL_intsV rr'] at s'
          exact .inr ⟨p, p', ns, ms, q, q', s, s', h.of_pur w⟩
    · exact h.elim
  | LtE =>
    simp only [cmpM] at h
    unfold leM at h
    split at h
    · simp only [Rep] at ra rb; exact .inl ⟨_, _, ra, rb, h.of_pur w⟩
    · next xs ys =>
      cases e1 : intsD xs with
      | none => rw [e1] at h; exact h.elim
      | some ns =>
        cases e2 : intsD ys with
        | none => rw [e1, e2] at h; exact h.elim
        | some ms =>
          rw [e1, e2] at h
          have e1' := intsD_of e1
          have e2' := intsD_of e2
          simp only [Rep] at ra rb
          obtain ⟨p, vs, q, s, l, rr⟩ := ra
          obtain ⟨p', us, q', s', l', rr'⟩ := rb
          subst e1'; subst e2'
          rw [repL_intsV rr] at s
          rw [repL_intsV rr'] at s'
          exact .inr ⟨p, p', ns, ms, q, q', s, s', h.of_pur w⟩
    · exact h.elim
  | Gt =>
    simp only [cmpM] at h
    unfold cmpI at h
    split at h
    · simp only [Rep] at ra rb; exact ⟨_, _, ra, rb, h.of_pur w⟩
    · exact h.elim
  | GtE =>
    simp only [cmpM] at h
    unfold cmpI at h
    split at h
    · simp only [Rep] at ra rb; exact ⟨_, _, ra, rb, h.of_pur w⟩
    · exact h.elim
  | Is =>
    rcases post_is w ra rb h with ⟨e, q⟩ | ⟨x, y, e1, e2, q⟩
    · exact .inl ⟨e, q⟩
    · exact .inr ⟨x, y, e1, e2, q⟩
  | IsNot =>
    rcases post_is w ra rb (Post.bind h) with ⟨e, _, _, w', q⟩ | ⟨x, y, e1, e2, _, _, w', q⟩
    · exact .inl ⟨e, q.of_pur w'⟩
    · exact .inr ⟨x, y, e1, e2, q.of_pur w'⟩
  | In =>
    rcases post_in w ra rb h with ⟨p, xs, k, e, s, f1, f2, ek, q⟩ | ⟨i, j, e1, e2, q⟩ | ⟨p, xs, d, ps, e, s, x1, x2, x3, x4, q⟩
    · exact .inl ⟨p, xs, e, s, f1, f2, by rw [ek]; exact q⟩
    · exact .inr (.inl ⟨i, j, e1, e2, q⟩)
    · exact .inr (.inr ⟨p, xs, d, ps, e, s, x1, x2, x3, x4, q⟩)
  | NotIn =>
    rcases post_in w ra rb (Post.bind h) with ⟨p, xs, k, e, s, f1, f2, ek, _, _, w', q⟩ | ⟨i, j, e1, e2, _, _, w', q⟩ | ⟨p, xs, d, ps, e, s, x1, x2, x3, x4, _, _, w', q⟩
    · exact .inl ⟨p, xs, e, s, f1, f2, by rw [ek]; exact q.of_pur w'⟩
    · exact .inr (.inl ⟨i, j, e1, e2, q.of_pur w'⟩)
    · exact .inr (.inr ⟨p, xs, d, ps, e, s, x1, x2, x3, x4, q.of_pur w'⟩)
end

/-! ### binary operators -/
theorem MulOk.ok {i j : Int} (h : MulOk i j) : IntMulOk i j := by
  rcases h with h | h
  · exact CMul.ok h
  · exact CMulW.ok h
/-- t * 1 is t -/
theorem tuple_mul1 (l : Addr) (items : Array Value) (n : Nat) (dd : Option Addr) (sl : Array (Option Value)) (u : Tok) :
    Meets (Builtin.«tuple.__mul__» ⟨[.ref l, .int 1 u], []⟩) (fun _ R s => s.heap.get? l = some { cls := .type "tuple", dict := dd, data := .seq items n, slots := sl } ∧
      R (.ok (.ret (Value.ref l))) s) :=
  .of_wp fun prog w A R s h => by
    obtain ⟨hp, g, d, tk, os⟩ := s
    obtain ⟨hl, h⟩ := h
    have f1 := AutoSeq1.idx_int
    wp_walk using wpAny_loadPart' hl
    exact ⟨_, rfl, h⟩
def rOneT (K : PySem.W.Frag) : R2 := fun x y H Q => ∃ l xs, x = .ref l ∧ y = .int 1 ∧ SqT K H l xs ∧ Q (.ref l) H
theorem op_oneT {X : Cx} : OpR X (binaryOp .Mult) (rOneT X.K) := by
  intro pins s σ H x y v u Q I rx ry h
  obtain ⟨l, xs, rfl, rfl, hT, q⟩ := h
  cases rx
  obtain ⟨t, rfl⟩ := ry
  obtain ⟨its, r, ⟨⟨cls, dd, data, sl⟩, ho, hc, n, hd⟩, hs⟩ := I.tuple hT
  simp only at hc hd
  subst hc hd
  refine wpAny_binaryOp_repeat_ref (T := "tuple") (U := "int") (by decide) ⟨_, ho, rfl⟩ (fun s' => typeIs_int s' 1 t) noFill_tuple_mul F.fills_int_mul F.slot_int_rmul repeat_tuple F.slot_int_index.lookup
    (call_meets F.slot_int_rmul (typeIs_int s 1 t) F.entry_int_rmul (F.args_int_rmul_2 _ _) (int_rmul_tuple 1 t l its.toArray n dd sl)
      ⟨ho, rfl, ⟨_, ho, rfl⟩, call_meets F.slot_tuple_mul ⟨_, ho, rfl⟩ F.entry_tuple_mul (F.args_tuple_mul_2 _ _) (tuple_mul1 l its.toArray n dd sl t) ⟨ho, ?_⟩⟩)
  exact ⟨.ref l, H, I, rfl, q⟩
def rBin (K : PySem.W.Frag) : Operator → R2
  | .Add => fun x y H Q => (rI0 (fun i j => .int (i + j)) x y H Q ∨ (∃ i j, x = .str i ∧ y = .str j ∧ i.length + j.length ≤ sizeLine ∧ Q (.str (i ++ j)) H)) ∨ rCatA K x y H Q
  | .Sub => rI0 fun i j => .int (i - j)
  | .Mult => fun x y H Q => rI MulOk (fun i j => .int (i * j)) x y H Q ∨ (rOneT K x y H Q ∨ rRepT K x y H Q)
  | .FloorDiv => rI (fun _ j => DivOk j) fun i j => .int (i.fdiv j)
  | .Mod => rI (fun _ j => j ≠ 0) fun i j => .int (i.fmod j)
  | .Pow => rI CPow fun i j => .int (i ^ j.toNat)
  | .LShift => rI CPow fun i j => .int (i * 2 ^ j.toNat)
  | .RShift => rI (fun _ j => 0 ≤ j) fun i j => .int (i / 2 ^ j.toNat)
  | .BitAnd => rI0 fun i j => .int (Builtin.bitAnd i j)
  | _ => fun _ _ _ _ => False
theorem opBin {X : Cx} : ∀ o : Operator, OpR X (binaryOp o) (rBin X.K o)
  | .Add => OpR.or (OpR.or op_add op_add_str) op_catA
  | .Sub => op_sub
  | .Mult => OpR.or (opI fun _ _ _ _ _ _ _ hc q => mul_int q hc.ok) (OpR.or op_oneT op_repT)
  | .FloorDiv => opI fun i j _ _ _ _ _ hc q => floordiv_int hc.1 q (.inl (PyProof.noPylong_of_log2 hc.2))
  | .Mod => opI fun i j _ _ _ _ _ hc q => mod_int hc q
  | .Pow => op_pow
  | .LShift => op_shl
  | .RShift => op_shr
  | .BitAnd => op_and
  | .MatMult => fun _ _ _ _ _ _ _ _ _ _ _ _ h => h.elim
  | .Div => fun _ _ _ _ _ _ _ _ _ _ _ _ h => h.elim
  | .BitOr => fun _ _ _ _ _ _ _ _ _ _ _ _ h => h.elim
  | .BitXor => fun _ _ _ _ _ _ _ _ _ _ _ _ h => h.elim
/-- x op= y -/
def rAug : Operator → R2
  | .Add => fun x y H Q => rI0 (fun i j => .int (i + j)) x y H Q ∨ (∃ i j, x = .str i ∧ y = .str j ∧ i.length + j.length ≤ sizeLine ∧ Q (.str (i ++ j)) H)
  | .Sub => rI0 fun i j => .int (i - j)
  | .Mult => rI MulOk fun i j => .int (i * j)
  | .FloorDiv => rI (fun _ j => DivOk j) fun i j => .int (i.fdiv j)
  | .Mod => rI (fun _ j => j ≠ 0) fun i j => .int (i.fmod j)
  | _ => fun _ _ _ _ => False
theorem opAug {X : Cx} : ∀ o : Operator, OpR X (inplaceOp o) (rAug o)
  | .Add => OpR.or iop_add iop_add_str
  | .Sub => iop_sub
  | .Mult => opI fun _ _ _ _ _ _ _ hc q => imul_int q hc.ok
  | .FloorDiv => opI fun i j _ _ _ _ _ hc q => ifloordiv_int hc.1 q (.inl (PyProof.noPylong_of_log2 hc.2))
  | .Mod => opI fun i j _ _ _ _ _ hc q => imod_int hc q
  | .Pow => fun _ _ _ _ _ _ _ _ _ _ _ _ h => h.elim
  | .LShift => fun _ _ _ _ _ _ _ _ _ _ _ _ h => h.elim
  | .RShift => fun _ _ _ _ _ _ _ _ _ _ _ _ h => h.elim
  | .BitAnd => fun _ _ _ _ _ _ _ _ _ _ _ _ h => h.elim
  | .MatMult => fun _ _ _ _ _ _ _ _ _ _ _ _ h => h.elim
  | .Div => fun _ _ _ _ _ _ _ _ _ _ _ _ h => h.elim
  | .BitOr => fun _ _ _ _ _ _ _ _ _ _ _ _ h => h.elim
  | .BitXor => fun _ _ _ _ _ _ _ _ _ _ _ _ h => h.elim
section
variable {K : PySem.W.Frag} {T : Tk} {H : Hp} {hc : Hc} {exP : XK}
theorem post_bin {o : Operator} {a b : D} {v u : V} {Q : VK} (w : Wd K T hc H) (ra : Rep K T H a v) (rb : Rep K T H b u) (h : Post K T H (fun d T' H' => ∀ v, Rep K T' H' d v → Q v H') exP (binM o a b hc)) : rBin K o v u H Q := by
  unfold binM at h
  split at h
  · simp only [Rep] at ra rb
    exact .inl (.inl ⟨_, _, ra, rb, h.of_pur w _ (by simp only [Rep])⟩)
  · simp only [Rep] at ra rb
    obtain ⟨c, h⟩ := Post.of_guard h
    exact .inl (.inr ⟨_, _, ra, rb, c, h.of_pur w _ (by simp only [Rep])⟩)
  · next xs ys =>
    simp only [Rep] at ra rb
    obtain ⟨c, h⟩ := Post.of_guard h
    obtain ⟨p, vs, q, s, l, rr⟩ := ra
    obtain ⟨p', us, q', s', l', rr'⟩ := rb
    have e1 := rr.length
    have e2 := rr'.length
    refine .inr ⟨p, p', vs, us, q, q', s, s', by omega, fun z => ?_, fun z z' => ?_, fun z z' r hr => ?_⟩
    · subst z
      have : xs = [] := List.eq_nil_of_length_eq_zero (by rw [← e1]; rfl)
      subst this
      refine h.of_pur w _ ?_
      simp only [Rep]
      exact ⟨p', us, rfl, s', l', rr'⟩
    · subst z'
      have : ys = [] := List.eq_nil_of_length_eq_zero (by rw [← e2]; rfl)
      subst this
      refine h.of_pur w _ ?_
      simp only [Rep, List.append_nil]
      exact ⟨p, vs, rfl, s, l, rr⟩
    · exact h T _ (Ext.upd_new hr) (w.upd_new hr) _ (rep_new_tup w hr (rr.append rr') (by rw [List.length_append]; omega))
  · simp only [Rep] at ra rb
    exact ⟨_, _, ra, rb, h.of_pur w _ (by simp only [Rep])⟩
  · simp only [Rep] at ra rb
    obtain ⟨c, h⟩ := Post.of_guard h
    exact .inl ⟨_, _, ra, rb, c, h.of_pur w _ (by simp only [Rep])⟩
  · next xs kk =>
    simp only [Rep] at ra rb
    obtain ⟨c, h⟩ := Post.of_guard h
    obtain ⟨p, vs, q, s, l, rr⟩ := ra
    have hl := rr.length
    by_cases k1 : kk = 1
    · subst k1
      refine .inr (.inl ⟨p, vs, q, rb, s, ?_⟩)
      refine h.of_pur w _ ?_
      simp only [Rep]
      exact ⟨p, vs, rfl, s, l, by simpa using rr⟩
    · refine .inr (.inr ⟨p, kk, vs, q, rb, s, fun z => ?_, by omega, c.2.1, by omega, fun r hr => ?_⟩)
      · subst z
        exact c.2.2.1 (List.eq_nil_of_length_eq_zero (by rw [← hl]; rfl))
      · have rep : ∀ n : Nat, RepL K T H (List.replicate n xs).flatten (List.replicate n vs).flatten := fun n => by
          induction n with
          | zero => exact RepL.nil
          | succ n ih => rw [List.replicate_succ, List.replicate_succ, List.flatten_cons, List.flatten_cons]; exact rr.append ih
        refine h T _ (Ext.upd_new hr) (w.upd_new hr) _ (rep_new_tup w hr (rep kk.toNat) ?_)
        have e : (List.replicate kk.toNat vs).flatten.length = kk.toNat * vs.length := by simp
        rw [e, sizeLine_eq]
        have := Nat.mul_le_mul (show kk.toNat ≤ 1000 by omega) (show vs.length ≤ 1000 by omega)
        omega
  · simp only [Rep] at ra rb
    obtain ⟨c, h⟩ := Post.of_guard h
    exact ⟨_, _, ra, rb, c, h.of_pur w _ (by simp only [Rep])⟩
  · simp only [Rep] at ra rb
    obtain ⟨c, h⟩ := Post.of_guard h
    exact ⟨_, _, ra, rb, c, h.of_pur w _ (by simp only [Rep])⟩
  · simp only [Rep] at ra rb
    obtain ⟨c, h⟩ := Post.of_guard h
    exact ⟨_, _, ra, rb, c, h.of_pur w _ (by simp only [Rep])⟩
  · simp only [Rep] at ra rb
    obtain ⟨c, h⟩ := Post.of_guard h
    exact ⟨_, _, ra, rb, c, h.of_pur w _ (by simp only [Rep])⟩
  · simp only [Rep] at ra rb
    obtain ⟨c, h⟩ := Post.of_guard h
    exact ⟨_, _, ra, rb, c, h.of_pur w _ (by simp only [Rep])⟩
  · simp only [Rep] at ra rb
    exact ⟨_, _, ra, rb, h.of_pur w _ (by simp only [Rep])⟩
  · exact h.elim
theorem post_aug {o : Operator} {a b : D} {v u : V} {Q : VK} (w : Wd K T hc H) (ra : Rep K T H a v) (rb : Rep K T H b u) (h : Post K T H (fun d T' H' => ∀ v, Rep K T' H' d v → Q v H') exP (augM o a b hc)) : rAug o v u H Q := by
  unfold augM at h
  split at h
  · split at h
    · have r := post_bin w ra rb h
      simp only [Rep] at ra rb
      rcases r with (r | ⟨i, j, e, _⟩) | ⟨p, q, xs, ys, e, _⟩
      · exact .inl r
      · rw [ra] at e; cases e
      · rw [ra] at e; cases e
    · exact post_bin w ra rb h
    · have r := post_bin w ra rb h
      simp only [Rep] at ra rb
      rcases r with r | ⟨p, xs, e, _⟩ | ⟨p, k, xs, e, _⟩
      · exact r
      · rw [ra] at e; cases e
      · rw [ra] at e; cases e
    · exact post_bin w ra rb h
    · exact post_bin w ra rb h
    · exact h.elim
  · have r := post_bin w ra rb h
    simp only [Rep] at ra rb
    rcases r with (r | r) | ⟨p, q, xs, ys, e, _⟩
    · exact .inl r
    · exact .inr r
    · rw [ra] at e; cases e
  · exact h.elim
end
end Cl
/-! Rules for expressions. -/
namespace Cl
open PySem PySem.Spec PyProof.Rows L2

def isStar : Expr → Bool
  | .Starred _ _ => true
  | _ => false
theorem star1 {e : Expr} {es : List Expr} {env : PySem.Env} (h : isStar e = false) : starEach (e :: es) env = (false, eval e env) :: starEach es env := by
  cases e <;> first | rfl | (simp [isStar] at h)
theorem starAll {pos : Pos} {env : PySem.Env} : ∀ {es : List Expr}, (∀ e ∈ es, isStar e = false) → (backTo pos (starEach es env)).any (·.1) = false
  | [], _ => rfl
  | e :: es, h => by
    rw [star1 (h e List.mem_cons_self)]
    have ih := starAll (pos := pos) (env := env) fun x hx => h x (List.mem_cons_of_mem _ hx)
    unfold backTo at ih ⊢
    rw [List.map_cons, List.any_cons, ih]; rfl
theorem starFew {pos : Pos} {env : PySem.Env} : ∀ {es : List Expr}, (∀ e ∈ es, isStar e = false) → (backTo pos (starEach es env)).all (fun x => !x.1) = true
  | [], _ => rfl
  | e :: es, h => by
    rw [star1 (h e List.mem_cons_self)]
    have ih := starFew (pos := pos) (env := env) fun x hx => h x (List.mem_cons_of_mem _ hx)
    unfold backTo at ih ⊢
    rw [List.map_cons, List.all_cons, ih]; rfl
theorem superNo {e : Expr} {n : Str} {env : PySem.Env} (h : notSuper e = true) : attributeBase e n env (eval e env) = eval e env := by
  unfold attributeBase
  split
  · next q => simp [notSuper] at h
  · rfl
theorem plain_is {e : Expr} (h : plainT e = true) {env : PySem.Env} (whole : Sem Value) : isTrue e env whole = (do let v ← whole; standAt e.pos; holding [v] (truthy v)) := by
  cases e with
  | UnaryOp o x p => cases o <;> first | rfl | (simp [plainT] at h)
  | BoolOp _ _ _ => simp [plainT] at h
  | IfExp _ _ _ _ => simp [plainT] at h
  | Compare _ _ _ _ => simp [plainT] at h
  | _ => rfl
theorem marks_no {o : CmpOp} {e : Expr} (h : notSet e = true) : behindInMarks o e = false := by
  cases e <;> first | rfl | (simp [notSet] at h)
theorem slice_no {e : Expr} (h : notSlice e = true) : PlainIx e := fun o i => by
  cases e <;> first | rfl | (simp [notSlice] at h)

section
variable {C : Ck} {G : Gt} {Cs : List D} {k : Nat} {X : Cx} {W : WX} {sc : Scope} {pos : Pos}
variable {a b c e : Expr} {ma mb mc : Env → M D}

/-! ### leaves -/
theorem ce_var (g : Gd C G Cs k X W sc) {i : Nat} {x : Str} (hN : C.N[i]? = some x) (hv : visB sc x = true) (ho : okName x = true) : CE C X W sc (.Name x pos) (fun env => optM ((env[i]?).bind id)) := by
  refine ⟨_, pe_var (i := i) (by rw [g.N]; exact hN) (g.vis hv) (okName_d ho).1 (okName_d ho).2, OwnSt.no rfl, fun T hc H env σ Q w er h => ?_⟩
  obtain ⟨d, e, q⟩ := Post.of_opt h w
  cases q' : env[i]? with
  | none => rw [q'] at e; cases e
  | some o =>
    rw [q'] at e
    simp only [Option.bind_some, id] at e
    subst e
    obtain ⟨v, hv, r⟩ := er.2 i d q'
    exact ⟨v, hv, q v r⟩
theorem ce_const {v : V} {d : D} (he : PE X e (tC v)) (hd : ∀ T H, Rep X.K T H d v) (hn : isComp e = false) : CE C X W sc e (fun _ => pur d) :=
  ⟨_, he, OwnSt.no hn, fun T hc H env σ Q w er h => h.of_pur w _ (hd T H)⟩
theorem ce_int {n : Int} {j : Nat} : CE C X W sc (.Constant (.int n) j pos) (fun _ => pur (.int n)) := ce_const pe_int (fun _ _ => by simp only [Rep]) rfl
theorem ce_str {x : Str} {j : Nat} : CE C X W sc (.Constant (.str x) j pos) (fun _ => pur (.str x)) := ce_const pe_str (fun _ _ => by simp only [Rep]) rfl
theorem ce_bl {x : Bool} {j : Nat} : CE C X W sc (.Constant (.bool x) j pos) (fun _ => pur (.bl x)) := ce_const pe_bl (fun _ _ => by simp only [Rep]) rfl
theorem ce_non {j : Nat} : CE C X W sc (.Constant .none j pos) (fun _ => pur .non) := ce_const pe_non (fun _ _ => by simp only [Rep]) rfl
theorem ce_glb (g : Gd C G Cs k X W sc) {j : Nat} {x : Str} (hN : C.gs[j]? = some x) (hv : glB sc x = true) (ho : okName x = true) : CE C X W sc (.Name x pos) (fun _ => optM Cs[j]?) := by
  cases q : Cs[j]? with
  | none =>
    -- never asked
    by_cases z : ∃ u v, X.mg x = some u ∧ RelV v u
    · obtain ⟨u, v, hm, r⟩ := z
      exact ⟨_, pe_glob (g.gl hv) hm r (okName_d ho).1, OwnSt.no rfl, fun T hc H env σ Q w er h => h.elim⟩
    · refine ⟨fun _ _ _ => False, ⟨fun pins s σ H Q I h => h.elim⟩, OwnSt.no rfl, fun T hc H env σ Q w er h => h.elim⟩
  | some d =>
    obtain ⟨y, hy, v, u, hm, r, hr⟩ := g.gc j d q
    rw [hN] at hy; cases hy
    exact ⟨_, pe_glob (g.gl hv) hm r (okName_d ho).1, OwnSt.no rfl, fun T hc H env σ Q w er h => h.of_pur w _ (hr T H)⟩

/-! ### from two values -/
/-- a first, then what follows -/
theorem read1 {ta : TE} {β : Type} {f : D → M β} {okQ : β → Tk → Hp → Prop} {R : VK}
    (ra : ∀ T hc H env σ (Q : VK), Wd X.K T hc H → EnvR X.K T H env σ → Post X.K T H (fun d T' H' => ∀ v, Rep X.K T' H' d v → Q v H') (WE W σ) (ma env hc) → ta σ H Q)
    {T : Tk} {hc : Hc} {H : Hp} {env : Env} {σ : L2.St} (w : Wd X.K T hc H) (er : EnvR X.K T H env σ) (h : Post X.K T H okQ (WE W σ) (bnd (ma env) f hc))
    (n : ∀ d T1 hc1 H1 v, Ext T H T1 H1 → Wd X.K T1 hc1 H1 → EnvR X.K T1 H1 env σ → Rep X.K T1 H1 d v → Post X.K T1 H1 okQ (WE W σ) (f d hc1) → R v H1) : ta σ H R :=
  ra T hc H env σ R w er (Post.imp (Post.bind h) fun d T1 H1 e p v r => by
    obtain ⟨hc1, _, w1, h1⟩ := p
    exact n d T1 hc1 H1 v e w1 (er.ext w e) r h1)
theorem ce_op2 {te : TE → TE → TE} {e : Expr} {f : D → D → M D} {r : R2} (hn : isComp e = false) (he : ∀ ta tb, PE X a ta → PE X b tb → PE X e (tOp r ta tb)) (ha : CE C X W sc a ma) (hb : CE C X W sc b mb)
    (hf : ∀ T hc H d d' v u (E : XK) (Q : VK), Wd X.K T hc H → Rep X.K T H d v → Rep X.K T H d' u → Post X.K T H (fun d T' H' => ∀ v, Rep X.K T' H' d v → Q v H') E (f d d' hc) → r v u H Q) :
    CE C X W sc e (fun env => bnd (ma env) fun x => bnd (mb env) fun y => f x y) := by
  obtain ⟨ta, pa, _, ra⟩ := ha
  obtain ⟨tb, pb, _, rb⟩ := hb
  refine ⟨_, he ta tb pa pb, OwnSt.no hn, fun T hc H env σ Q w er h => ?_⟩
  exact read1 ra w er h fun d T1 hc1 H1 v e1 w1 er1 r1 h1 => read1 rb w1 er1 h1 fun d2 T2 hc2 H2 u e2 w2 er2 r2 h2 => hf T2 hc2 H2 d d2 v u _ Q w2 (Rep.ext w1 e2 _ _ r1) r2 h2
theorem ce_bin {o : Operator} (ha : CE C X W sc a ma) (hb : CE C X W sc b mb) : CE C X W sc (.BinOp a o b pos) (fun env => bnd (ma env) fun x => bnd (mb env) fun y => binM o x y) :=
  ce_op2 (te := fun a b => a) rfl (fun ta tb pa pb => pe_op (opBin o) pa pb) ha hb fun T hc H d d' v u E Q w r1 r2 h => post_bin w r1 r2 h
theorem ce_cmp (g : Gd C G Cs k X W sc) {o : CmpOp} (hs : C.cm = true ∧ notSet b = true) (ha : CE C X W sc a ma) (hb : CE C X W sc b mb) : CE C X W sc (.Compare a [o] [b] pos) (fun env => bnd (ma env) fun x => bnd (mb env) fun y => bnd (cmpM o x y) fun k => pur (.bl k)) :=
  ce_op2 (te := fun a b => a) rfl (fun ta tb pa pb => pe_cmpR (opCmp (g.rm hs.1) o) pa pb (marks_no hs.2)) ha hb fun T hc H d d' v u E Q w r1 r2 h =>
    post_cmp w r1 r2 (Post.imp (Post.bind h) fun k T' H' e p => by
      obtain ⟨hc', _, w', p⟩ := p
      exact p.of_pur w' _ (by simp only [Rep]))
theorem ct_cmp (g : Gd C G Cs k X W sc) {o : CmpOp} (hs : C.cm = true ∧ notSet b = true) (ha : CE C X W sc a ma) (hb : CE C X W sc b mb) : CT X W (.Compare a [o] [b] pos) (fun env => bnd (bnd (ma env) fun x => bnd (mb env) fun y => bnd (cmpM o x y) fun k => pur (.bl k)) truM) := by
  obtain ⟨ta, pa, _, ra⟩ := ha
  obtain ⟨tb, pb, _, rb⟩ := hb
  refine ⟨_, pt_cmpR (opCmp (g.rm hs.1) o) pa pb (marks_no hs.2), fun T hc H env σ Q w er h => ?_⟩
  dsimp only at h
  rw [bnd_assoc] at h
  refine read1 ra w er h fun d T1 hc1 H1 v e1 w1 er1 r1 h1 => ?_
  rw [bnd_assoc] at h1
  refine read1 rb w1 er1 h1 fun d2 T2 hc2 H2 u e2 w2 er2 r2 h2 => ?_
  rw [bnd_assoc] at h2
  refine post_cmp w2 (Rep.ext w1 e2 _ _ r1) r2 (Post.imp (Post.bind h2) fun k T' H' e p => ?_)
  obtain ⟨hc', _, w', p⟩ := p
  exact ⟨k, rfl, p.of_pur w'⟩
theorem ce_chain (g : Gd C G Cs k X W sc) {o o' : CmpOp} (hs : C.cm = true ∧ notSet c = true) (ha : CE C X W sc a ma) (hb : CE C X W sc b mb) (hcc : CE C X W sc c mc) :
    CE C X W sc (.Compare a [o, o'] [b, c] pos) (fun env => bnd (ma env) fun x => bnd (mb env) fun y => bnd (cmpM o x y) fun k => if k = true then bnd (mc env) fun z => bnd (cmpM o' y z) fun l => pur (.bl l) else pur (.bl false)) := by
  obtain ⟨ta, pa, _, ra⟩ := ha
  obtain ⟨tb, pb, _, rb⟩ := hb
  obtain ⟨tc, pc, _, rc⟩ := hcc
  refine ⟨_, pe_chain (opCmp (g.rm hs.1) o) (opCmp (g.rm hs.1) o') pa pb pc (marks_no hs.2), OwnSt.no rfl, fun T hc H env σ Q w er h => ?_⟩
  refine read1 ra w er h fun d T1 hc1 H1 v e1 w1 er1 r1 h1 => ?_
  refine read1 rb w1 er1 h1 fun d2 T2 hc2 H2 u e2 w2 er2 r2 h2 => ?_
  refine post_cmp w2 (Rep.ext w1 e2 _ _ r1) r2 (Post.imp (Post.bind h2) fun k T3 H3 e3 p => ?_)
  obtain ⟨hc3, _, w3, p⟩ := p
  refine ⟨k, rfl, ?_⟩
  cases k with
  | false => exact p.of_pur w3 _ (by simp only [Rep])
  | true =>
    exact read1 rc w3 (er2.ext w2 e3) p fun d4 T4 hc4 H4 z e4 w4 er4 r4 h4 => post_cmp w4 (Rep.ext w3 e4 _ _ (Rep.ext w2 e3 _ _ r2)) r4 (Post.imp (Post.bind h4) fun l T' H' e p => by
      obtain ⟨hc', _, w', p⟩ := p
      exact p.of_pur w' _ (by simp only [Rep]))
theorem ct_chain (g : Gd C G Cs k X W sc) {o o' : CmpOp} (hs : C.cm = true ∧ notSet c = true) (ha : CE C X W sc a ma) (hb : CE C X W sc b mb) (hcc : CE C X W sc c mc) :
    CT X W (.Compare a [o, o'] [b, c] pos) (fun env => bnd (bnd (ma env) fun x => bnd (mb env) fun y => bnd (cmpM o x y) fun k => if k = true then bnd (mc env) fun z => bnd (cmpM o' y z) fun l => pur (.bl l) else pur (.bl false)) truM) := by
  obtain ⟨ta, pa, _, ra⟩ := ha
  obtain ⟨tb, pb, _, rb⟩ := hb
  obtain ⟨tc, pc, _, rc⟩ := hcc
  refine ⟨_, pt_chain (opCmp (g.rm hs.1) o) (opCmp (g.rm hs.1) o') pa pb pc (marks_no hs.2), fun T hc H env σ Q w er h => ?_⟩
  dsimp only at h
  rw [bnd_assoc] at h
  refine read1 ra w er h fun d T1 hc1 H1 v e1 w1 er1 r1 h1 => ?_
  rw [bnd_assoc] at h1
  refine read1 rb w1 er1 h1 fun d2 T2 hc2 H2 u e2 w2 er2 r2 h2 => ?_
  rw [bnd_assoc] at h2
  refine post_cmp w2 (Rep.ext w1 e2 _ _ r1) r2 (Post.imp (Post.bind h2) fun k T3 H3 e3 p => ?_)
  obtain ⟨hc3, _, w3, p⟩ := p
  refine ⟨k, rfl, ?_⟩
  cases k with
  | false => exact ⟨false, rfl, p.of_pur w3⟩
  | true =>
    have p' : Post X.K T3 H3 (fun k _ H' => Q k H') (WE W σ) (bnd (mc env) (fun z => bnd (bnd (cmpM o' d2 z) fun l => pur (.bl l)) truM) hc3) := by
      rw [← bnd_assoc]; exact p
    refine read1 rc w3 (er2.ext w2 e3) p' fun d4 T4 hc4 H4 z e4 w4 er4 r4 h4 => ?_
    rw [bnd_assoc] at h4
    refine post_cmp w4 (Rep.ext w3 e4 _ _ (Rep.ext w2 e3 _ _ r2)) r4 (Post.imp (Post.bind h4) fun l T' H' e p => ?_)
    obtain ⟨hc', _, w', p⟩ := p
    exact ⟨l, rfl, p.of_pur w'⟩

/-! ### truth -/
theorem ct_truth (hp : plainT e = true) (ha : CE C X W sc e ma) : CT X W e (fun env => bnd (ma env) truM) := by
  obtain ⟨ta, pa, _, ra⟩ := ha
  refine ⟨_, pt_truth pa (fun whole => plain_is hp whole), fun T hc H env σ Q w er h => ?_⟩
  exact read1 ra w er h fun d T1 hc1 H1 v e1 w1 er1 r1 h1 => post_tru w1 r1 h1
theorem ce_not (ha : CE C X W sc a ma) : CE C X W sc (.UnaryOp .Not a pos) (fun env => bnd (ma env) fun x => bnd (truM x) fun k => pur (.bl (!k))) := by
  obtain ⟨ta, pa, _, ra⟩ := ha
  refine ⟨_, pe_notT pa, OwnSt.no rfl, fun T hc H env σ Q w er h => ?_⟩
  refine read1 ra w er h fun d T1 hc1 H1 v e1 w1 er1 r1 h1 => ?_
  obtain ⟨k, t, hc', _, w', p⟩ := post_tru w1 r1 (Post.bind h1)
  exact ⟨k, t, p.of_pur w' _ (by simp only [Rep])⟩
theorem ct_not (ha : CT X W a (fun env => bnd (ma env) truM)) : CT X W (.UnaryOp .Not a pos) (fun env => bnd (bnd (ma env) fun x => bnd (truM x) fun k => pur (.bl (!k))) truM) := by
  obtain ⟨ta, pa, ra⟩ := ha
  refine ⟨_, pt_not pa, fun T hc H env σ Q w er h => ?_⟩
  have e : (bnd (bnd (ma env) fun x => bnd (truM x) fun k => pur (.bl (!k))) truM) = bnd (bnd (ma env) truM) fun k => pur (!k) := by
    rw [bnd_assoc, bnd_assoc]
    congr 1
    funext x
    rw [bnd_assoc]
    rfl
  dsimp only at h
  rw [e] at h
  exact ra T hc H env σ _ w er (Post.imp (Post.bind h) fun k T' H' e p => by
    obtain ⟨hc', _, w', p⟩ := p
    exact p.of_pur w')
theorem ce_neg (ha : CE C X W sc a ma) : CE C X W sc (.UnaryOp .USub a pos) (fun env => bnd (ma env) fun x => bnd (intM x) fun i => pur (.int (-i))) := by
  obtain ⟨ta, pa, _, ra⟩ := ha
  refine ⟨_, pe_un un_neg pa, OwnSt.no rfl, fun T hc H env σ Q w er h => ?_⟩
  refine read1 ra w er h fun d T1 hc1 H1 v e1 w1 er1 r1 h1 => ?_
  cases d <;> (try exact h1.elim)
  simp only [Rep] at r1
  exact ⟨_, r1, h1.of_pur w1 _ (by simp only [Rep])⟩
theorem ce_and {rest : List Expr} (ha : CE C X W sc a ma) (hb : CE C X W sc (.BoolOp .And (b :: rest) pos) mb) : CE C X W sc (.BoolOp .And (a :: b :: rest) pos) (fun env => bnd (ma env) fun x => bnd (truM x) fun k => if k = true then mb env else pur x) := by
  obtain ⟨ta, pa, _, ra⟩ := ha
  obtain ⟨tb, pb, _, rb⟩ := hb
  refine ⟨_, pe_andT pa pb, OwnSt.no rfl, fun T hc H env σ Q w er h => ?_⟩
  refine read1 ra w er h fun d T1 hc1 H1 v e1 w1 er1 r1 h1 => ?_
  obtain ⟨k, t, hc', e', w', p⟩ := post_tru w1 r1 (Post.bind h1)
  refine ⟨k, t, ?_⟩
  cases k with
  | true => exact rb _ _ _ env σ Q w' (er1.ext w1 e') p
  | false => exact p.of_pur w' _ (Rep.ext w1 e' _ _ r1)
theorem ce_or {rest : List Expr} (ha : CE C X W sc a ma) (hb : CE C X W sc (.BoolOp .Or (b :: rest) pos) mb) : CE C X W sc (.BoolOp .Or (a :: b :: rest) pos) (fun env => bnd (ma env) fun x => bnd (truM x) fun k => if k = true then pur x else mb env) := by
  obtain ⟨ta, pa, _, ra⟩ := ha
  obtain ⟨tb, pb, _, rb⟩ := hb
  refine ⟨_, pe_orT pa pb, OwnSt.no rfl, fun T hc H env σ Q w er h => ?_⟩
  refine read1 ra w er h fun d T1 hc1 H1 v e1 w1 er1 r1 h1 => ?_
  obtain ⟨k, t, hc', e', w', p⟩ := post_tru w1 r1 (Post.bind h1)
  refine ⟨k, t, ?_⟩
  cases k with
  | true => exact p.of_pur w' _ (Rep.ext w1 e' _ _ r1)
  | false => exact rb _ _ _ env σ Q w' (er1.ext w1 e') p
theorem ce_one {o : BoolOp} (ha : CE C X W sc a ma) : CE C X W sc (.BoolOp o [a] pos) ma := by
  obtain ⟨ta, pa, _, ra⟩ := ha
  exact ⟨_, pe_one pa, OwnSt.no rfl, ra⟩
theorem and_truth (m : M D) (n : M D) : bnd (bnd m fun x => bnd (truM x) fun k => if k = true then n else pur x) truM = bnd (bnd m truM) fun k => if k = true then bnd n truM else pur false := by
  rw [bnd_assoc, bnd_assoc]
  congr 1
  funext x
  rw [bnd_assoc]
  funext h
  unfold bnd
  cases q : truM x h with
  | ok k h' =>
    have e : h' = h := by
      cases x <;> simp only [truM, pur, Cl.guard, stuck] at q <;> (try (split at q)) <;> first | (cases q; rfl) | (cases q)
    subst e
    cases k with
    | true => rfl
    | false => simp only [Bool.false_eq_true, if_false, pur]; exact q
  | exc c fs h' => rfl
  | bad => rfl
theorem or_truth (m : M D) (n : M D) : bnd (bnd m fun x => bnd (truM x) fun k => if k = true then pur x else n) truM = bnd (bnd m truM) fun k => if k = true then pur true else bnd n truM := by
  rw [bnd_assoc, bnd_assoc]
  congr 1
  funext x
  rw [bnd_assoc]
  funext h
  unfold bnd
  cases q : truM x h with
  | ok k h' =>
    have e : h' = h := by
      cases x <;> simp only [truM, pur, Cl.guard, stuck] at q <;> (try (split at q)) <;> first | (cases q; rfl) | (cases q)
    subst e
    cases k with
    | false => rfl
    | true => simp only [if_true, pur]; exact q
  | exc c fs h' => rfl
  | bad => rfl
theorem cw_one {o : BoolOp} (ha : CT X W a (fun env => bnd (ma env) truM)) : CW X W (.BoolOp o [a] pos) (fun env => bnd (ma env) truM) := by
  obtain ⟨ta, pa, ra⟩ := ha
  cases o with
  | And => exact ⟨_, pw_and1 pa, ra⟩
  | Or => exact ⟨_, pw_or1 pa, ra⟩
theorem cw_and {rest : List Expr} (ha : CT X W a (fun env => bnd (ma env) truM)) (hb : CW X W (.BoolOp .And (b :: rest) pos) (fun env => bnd (mb env) truM)) :
    CW X W (.BoolOp .And (a :: b :: rest) pos) (fun env => bnd (bnd (ma env) fun x => bnd (truM x) fun k => if k = true then mb env else pur x) truM) := by
  obtain ⟨ta, pa, ra⟩ := ha
  obtain ⟨tb, pb, rb⟩ := hb
  refine ⟨_, pw_and pa pb, fun T hc H env σ Q w er h => ?_⟩
  dsimp only at h
  rw [and_truth] at h
  refine ra T hc H env σ _ w er (Post.imp (Post.bind h) fun k T' H' e p => ?_)
  obtain ⟨hc', e', w', p⟩ := p
  cases k with
  | true => exact rb _ _ _ env σ Q w' (er.ext w e') p
  | false => exact p.of_pur w'
theorem cw_or {rest : List Expr} (ha : CT X W a (fun env => bnd (ma env) truM)) (hb : CW X W (.BoolOp .Or (b :: rest) pos) (fun env => bnd (mb env) truM)) :
    CW X W (.BoolOp .Or (a :: b :: rest) pos) (fun env => bnd (bnd (ma env) fun x => bnd (truM x) fun k => if k = true then pur x else mb env) truM) := by
  obtain ⟨ta, pa, ra⟩ := ha
  obtain ⟨tb, pb, rb⟩ := hb
  refine ⟨_, pw_or pa pb, fun T hc H env σ Q w er h => ?_⟩
  dsimp only at h
  rw [or_truth] at h
  refine ra T hc H env σ _ w er (Post.imp (Post.bind h) fun k T' H' e p => ?_)
  obtain ⟨hc', e', w', p⟩ := p
  cases k with
  | true => exact p.of_pur w'
  | false => exact rb _ _ _ env σ Q w' (er.ext w e') p
theorem CW.ct {m : Env → M Bool} (h : CW X W e m) : CT X W e m := by
  obtain ⟨t, p, r⟩ := h
  exact ⟨t, p.pt, r⟩
theorem ce_ite {mt : Env → M D} (ht : CT X W c (fun env => bnd (mt env) truM)) (ha : CE C X W sc a ma) (hb : CE C X W sc b mb) :
    CE C X W sc (.IfExp c a b pos) (fun env => bnd (mt env) fun x => bnd (truM x) fun k => if k = true then ma env else mb env) := by
  obtain ⟨tt, pt, rt⟩ := ht
  obtain ⟨ta, pa, _, ra⟩ := ha
  obtain ⟨tb, pb, _, rb⟩ := hb
  refine ⟨_, pe_ifExp pt pa pb, OwnSt.no rfl, fun T hc H env σ Q w er h => ?_⟩
  dsimp only at h
  rw [← bnd_assoc] at h
  refine rt T hc H env σ _ w er (Post.imp (Post.bind h) fun k T' H' e p => ?_)
  obtain ⟨hc', e', w', p⟩ := p
  cases k with
  | true => exact ra _ _ _ env σ Q w' (er.ext w e') p
  | false => exact rb _ _ _ env σ Q w' (er.ext w e') p
/-- a if t else b, as a test -/
theorem pt_ifExp {tc ta tb : TT} (hc : PT X c tc) (ha : PT X a ta) (hb : PT X b tb) : PT X (.IfExp c a b pos) (fun σ H Q => tc σ H fun k H1 => if k = true then ta σ H1 Q else tb σ H1 Q) := by
  refine ⟨fun pins s σ H Q I h => ?_⟩
  show wpAny _ _ (do if ← isTrue c X.env (eval c X.env) then isTrue a X.env (eval a X.env) else isTrue b X.env (eval b X.env)) _ _ _
  refine wpAny_bind ?_
  refine thn (hc.run pins s σ H _ I h) fun k s' p => ?_
  obtain ⟨H', I', q⟩ := p
  cases k with
  | true => exact ha.run pins s' σ H' Q I' q
  | false => exact hb.run pins s' σ H' Q I' q
theorem ct_ite {mt : Env → M D} (ht : CT X W c (fun env => bnd (mt env) truM)) (ha : CT X W a (fun env => bnd (ma env) truM)) (hb : CT X W b (fun env => bnd (mb env) truM)) :
    CT X W (.IfExp c a b pos) (fun env => bnd (bnd (mt env) fun x => bnd (truM x) fun k => if k = true then ma env else mb env) truM) := by
  obtain ⟨tt, pt, rt⟩ := ht
  obtain ⟨ta, pa, ra⟩ := ha
  obtain ⟨tb, pb, rb⟩ := hb
  refine ⟨_, pt_ifExp pt pa pb, fun T hc H env σ Q w er h => ?_⟩
  have e : (bnd (bnd (mt env) fun x => bnd (truM x) fun k => if k = true then ma env else mb env) truM) = bnd (bnd (mt env) truM) fun k => if k = true then bnd (ma env) truM else bnd (mb env) truM := by
    rw [bnd_assoc, bnd_assoc]
    congr 1
    funext x
    rw [bnd_assoc]
    congr 1
    funext k
    cases k <;> rfl
  dsimp only at h
  rw [e] at h
  refine rt T hc H env σ _ w er (Post.imp (Post.bind h) fun k T' H' e p => ?_)
  obtain ⟨hc', e', w', p⟩ := p
  cases k with
  | true => exact ra _ _ _ env σ Q w' (er.ext w e') p
  | false => exact rb _ _ _ env σ Q w' (er.ext w e') p
end
end Cl
/-! More rules for expressions: tuples, places, slices, calls, built-ins, lists that change. -/
namespace Cl
open PySem PySem.Spec PyProof.Rows L2

section
variable {C : Ck} {G : Gt} {Cs : List D} {k : Nat} {X : Cx} {W : WX} {sc : Scope} {pos : Pos}
variable {a b c e : Expr} {ma mb mc : Env → M D} {es : List Expr} {mA : Env → M (List D)}

theorem ca_nil : CA X W [] (fun _ => pur []) := ⟨_, pa_nil, fun T hc H env σ Q w er h => h.of_pur w _ RepL.nil⟩
theorem ca_cons (hs : isStar a = false) (ha : CE C X W sc a ma) (hr : CA X W es mA) : CA X W (a :: es) (fun env => bnd (ma env) fun x => bnd (mA env) fun xs => pur (x :: xs)) := by
  obtain ⟨ta, pa, _, ra⟩ := ha
  obtain ⟨tr, pr, rr⟩ := hr
  refine ⟨_, pa_cons pa pr (star1 hs), fun T hc H env σ Q w er h => ?_⟩
  refine read1 ra w er h fun d T1 hc1 H1 v e1 w1 er1 r1 h1 => ?_
  refine rr T1 hc1 H1 env σ _ w1 er1 (Post.imp (Post.bind h1) fun ds T2 H2 e2 p vs r2 => ?_)
  obtain ⟨hc2, _, w2, p⟩ := p
  exact p.of_pur w2 _ (RepL.cons (Rep.ext w1 e2 _ _ r1) r2)
/-- arguments first, then what follows -/
theorem readA {tA : TA} {β : Type} {f : List D → M β} {okQ : β → Tk → Hp → Prop} {R : List V → Hp → Prop}
    (ra : ∀ T hc H env σ (Q : List V → Hp → Prop), Wd X.K T hc H → EnvR X.K T H env σ → Post X.K T H (fun d T' H' => ∀ v, RepL X.K T' H' d v → Q v H') (WE W σ) (mA env hc) → tA σ H Q)
    {T : Tk} {hc : Hc} {H : Hp} {env : Env} {σ : L2.St} (w : Wd X.K T hc H) (er : EnvR X.K T H env σ) (h : Post X.K T H okQ (WE W σ) (bnd (mA env) f hc))
    (n : ∀ d T1 hc1 H1 v, Ext T H T1 H1 → Wd X.K T1 hc1 H1 → EnvR X.K T1 H1 env σ → RepL X.K T1 H1 d v → Post X.K T1 H1 okQ (WE W σ) (f d hc1) → R v H1) : tA σ H R :=
  ra T hc H env σ R w er (Post.imp (Post.bind h) fun d T1 H1 e p v r => by
    obtain ⟨hc1, _, w1, h1⟩ := p
    exact n d T1 hc1 H1 v e w1 (er.ext w e) r h1)
theorem ce_tup {x1 : Nat} (hr : CA X W es mA) : CE C X W sc (.Tuple es x1 pos) (fun env => bnd (mA env) fun xs => guard (xs.length ≤ sizeLine) (pur (.tup xs))) := by
  obtain ⟨tr, pr, rr⟩ := hr
  refine ⟨_, pe_tup pr, OwnSt.no rfl, fun T hc H env σ Q w er h => ?_⟩
  refine readA rr w er h fun ds T1 hc1 H1 vs e1 w1 er1 r1 h1 => ?_
  obtain ⟨c, h1⟩ := Post.of_guard h1
  have l := r1.length
  refine ⟨by omega, fun p hp => ?_⟩
  exact h1 T1 _ (Ext.upd_new hp) (w1.upd_new hp) _ (rep_new_tup w1 hp r1 (by omega))
theorem cn_lst (hr : CA X W es mA) : CN C X W sc (.List es pos) (fun env => bnd (mA env) fun xs => guard (xs.length ≤ sizeLine) (pur xs)) := by
  obtain ⟨tr, pr, rr⟩ := hr
  refine ⟨_, pe_lst pr, OwnSt.no rfl, fun T hc H env σ Q w er h => ?_⟩
  refine readA rr w er h fun ds T1 hc1 H1 vs e1 w1 er1 r1 h1 => ?_
  obtain ⟨c, h1⟩ := Post.of_guard h1
  have l := r1.length
  exact ⟨by omega, fun p hp => h1.of_pur w1 p vs hp r1 (by omega)⟩
/-- a new list as a value that nobody changes -/
theorem ce_fl {m : Env → M (List D)} (h : CN C X W sc e m) : CE C X W sc e (fun env => bnd (m env) fun xs => pur (.fl xs)) := by
  obtain ⟨t, p, o, r⟩ := h
  refine ⟨t, p, o, fun T hc H env σ Q w er h => ?_⟩
  refine r T hc H env σ Q w er (Post.imp (Post.bind h) fun ds T1 H1 e1 p q vs hq rr l => ?_)
  obtain ⟨hc1, _, w1, h1⟩ := p
  exact h1 T1 _ (Ext.upd_new hq) (w1.upd_new hq) _ (rep_new_fl w1 hq rr l)
/-- .. that will change -/
theorem ce_trk {m : Env → M (List D)} (h : CN C X W sc e m) : CE C X W sc e (fun env => bnd (m env) fun xs h => .ok (.ref h.length) (h ++ [.lst xs])) := by
  obtain ⟨t, p, o, r⟩ := h
  refine ⟨t, p, o, fun T hc H env σ Q w er h => ?_⟩
  refine r T hc H env σ Q w er (Post.imp (Post.bind h) fun ds T1 H1 e1 p q vs hq rr l => ?_)
  obtain ⟨hc1, _, w1, h1⟩ := p
  have e2 : ExtG T1 H1 (T1.snoc q) (upd H1 q (.lst vs)) := by
    refine ⟨⟨[q], rfl⟩, fun b hb => .inl hb, rfl, fun b x h _ => by rw [upd_ne (ne_of_none h hq)]; exact h, fun b hb => ?_⟩
    rcases List.mem_append.mp hb with z | z
    · exact .inl z
    · rw [List.mem_singleton] at z; subst z; exact .inr hq
  obtain ⟨w2, e3⟩ := w1.snoc (oc := .lst ds) hq ⟨vs, upd_same, l, RepL.extG w1 e2 _ _ rr⟩
  refine h1 _ _ e3 w2 _ ?_
  simp only [Rep]
  exact ⟨q, rfl, by show (T1.ρ ++ [q])[hc1.length]? = some q; rw [← w1.len, List.getElem?_append_right (Nat.le_refl _)]; simp⟩

/-! ### places, slices -/
theorem atI_rep {K : PySem.W.Frag} {T : Tk} {H : Hp} {xs : List D} {vs : List V} (r : RepL K T H xs vs) {i : Int} {d : D} (h : atI xs i = some d) : ∃ v, atI vs i = some v ∧ Rep K T H d v := by
  have l := r.length
  unfold atI at h ⊢
  rw [l]
  cases q : ixN xs.length i with
  | none => rw [q] at h; cases h
  | some j =>
    rw [q] at h
    exact r.get h
theorem post_idx {K : PySem.W.Frag} {T : Tk} {H : Hp} {hc : Hc} {exP : XK} {d d' : D} {v u : V} {Q : VK} (w : Wd K T hc H) (r : Rep K T H d v) (r' : Rep K T H d' u) (h : Post K T H (fun d T' H' => ∀ v, Rep K T' H' d v → Q v H') exP (idxM d d' hc)) : rIx K v u H Q := by
  have seq : ∀ i : Int, d' = .int i → Post K T H (fun d T' H' => ∀ v, Rep K T' H' d v → Q v H') exP (bnd (seqM d) (fun xs => optM (atI xs i)) hc) → rIx K v u H Q := fun i ei h2 => by
    rw [ei] at r'
    obtain ⟨xs, p, vs, e, s, sl, st, l, rr, h, _⟩ := post_seq w r h2
    simp only [Rep] at r'
    obtain ⟨x, hx, q⟩ := Post.of_opt h w
    obtain ⟨z, hz, rz⟩ := atI_rep rr hx
    rcases s with s | s
    · exact .inl ⟨p, vs, i, z, e, r', s, hz, q z rz⟩
    · exact .inr (.inl ⟨p, vs, i, z, e, r', s, hz, q z rz⟩)
  unfold idxM at h
  split at h
  · next z i =>
    simp only [Rep] at r r'
    obtain ⟨c, h⟩ := Post.of_guard h
    cases q : atI z.cps.toList i with
    | none => rw [q] at h; exact h.elim
    | some cc =>
      rw [q] at h
      exact .inr (.inr ⟨z, i, cc, r, r', c, q, h.of_pur w _ (by simp only [Rep])⟩)
  · next d i _ => exact seq i rfl h
  · exact h.elim
theorem ce_idx (hs : notSlice b = true) (ha : CE C X W sc a ma) (hb : CE C X W sc b mb) : CE C X W sc (.Subscript a b pos) (fun env => bnd (ma env) fun x => bnd (mb env) fun y => idxM x y) :=
  ce_op2 (te := fun a b => a) rfl (fun ta tb pa pb => pe_ix ix_seq pa pb (slice_no hs)) ha hb fun T hc H d d' v u E Q w r1 r2 h => post_idx w r1 r2 h
theorem co_none : CO X W none (fun _ => pur none) := ⟨_, po_none, fun T hc H env σ Q w er h => h.of_pur w⟩
theorem co_some (ha : CE C X W sc a ma) : CO X W (some a) (fun env => bnd (ma env) fun x => bnd (intM x) fun i => pur (some i)) := by
  obtain ⟨ta, pa, _, ra⟩ := ha
  refine ⟨_, po_some pa, fun T hc H env σ Q w er h => ?_⟩
  refine read1 ra w er h fun d T1 hc1 H1 v e1 w1 er1 r1 h1 => ?_
  cases d <;> (try exact h1.elim)
  simp only [Rep] at r1
  exact ⟨_, r1, h1.of_pur w1⟩
theorem cut_rep {K : PySem.W.Frag} {T : Tk} {H : Hp} {xs : List D} {vs : List V} (r : RepL K T H xs vs) (lo hi : Option Int) : RepL K T H (cutD xs lo hi) (cutV vs lo hi) := by
  have l := r.length
  unfold cutD cutV
  rw [l]
  exact (r.drop _).take _
theorem ce_slc {lo hi : Option Expr} {p2 : Pos} {ml mu : Env → M (Option Int)} (ha : CE C X W sc a ma) (hl : CO X W lo ml) (hu : CO X W hi mu) :
    CE C X W sc (.Subscript a (.Slice lo hi none p2) pos) (fun env => bnd (ma env) fun x => bnd (ml env) fun l => bnd (mu env) fun u => slcM x l u) := by
  obtain ⟨ta, pa, _, ra⟩ := ha
  obtain ⟨tl, pl, rl⟩ := hl
  obtain ⟨tu, pu, ru⟩ := hu
  refine ⟨_, pe_slice (SlR.or sl_tupA sl_str) pa pl pu, OwnSt.no rfl, fun T hc H env σ Q w er h => ?_⟩
  refine read1 ra w er h fun d T1 hc1 H1 v e1 w1 er1 r1 h1 => ?_
  refine rl _ _ _ env σ _ w1 er1 (Post.imp (Post.bind h1) fun l T2 H2 e2 p => ?_)
  obtain ⟨hc2, _, w2, h2⟩ := p
  refine ru _ _ _ env σ _ w2 (er1.ext w1 e2) (Post.imp (Post.bind h2) fun u T3 H3 e3 p => ?_)
  obtain ⟨hc3, _, w3, h3⟩ := p
  have r3 := Rep.ext w2 e3 _ _ (Rep.ext w1 e2 _ _ r1)
  cases d <;> (try exact h3.elim)
  · next z =>
    simp only [Rep] at r3
    obtain ⟨c, h3⟩ := Post.of_guard h3
    exact .inr ⟨z, r3, c, h3.of_pur w3 _ (by simp only [Rep])⟩
  · next xs =>
    simp only [Rep] at r3
    obtain ⟨q, vs, ev, s, ll, rr⟩ := r3
    refine .inl ⟨q, vs, ev, s, fun z => ?_, fun z p hp => ?_⟩
    · refine h3.of_pur w3 _ ?_
      have ec : cutD xs l u = xs := by
        unfold cutD
        rw [← rr.length, z.1, z.2, List.drop_zero, Nat.sub_zero, rr.length, List.take_length]
      rw [ec]
      simp only [Rep]
      exact ⟨q, vs, rfl, s, ll, rr⟩
    · exact h3 T3 _ (Ext.upd_new hp) (w3.upd_new hp) _ (rep_new_tup w3 hp (cut_rep rr _ _) (Nat.le_trans (cutV_length _ _ _) ll))
theorem cn_slc {lo hi : Option Expr} {p2 : Pos} {ml mu : Env → M (Option Int)} (ha : CE C X W sc a ma) (hl : CO X W lo ml) (hu : CO X W hi mu) :
    CN C X W sc (.Subscript a (.Slice lo hi none p2) pos) (fun env => bnd (ma env) fun x => bnd (ml env) fun l => bnd (mu env) fun u => match x with
      | .tup _ => stuck
      | x => bnd (seqM x) fun xs => pur (cutD xs l u)) := by
  obtain ⟨ta, pa, _, ra⟩ := ha
  obtain ⟨tl, pl, rl⟩ := hl
  obtain ⟨tu, pu, ru⟩ := hu
  refine ⟨_, pe_slice sl_list pa pl pu, OwnSt.no rfl, fun T hc H env σ Q w er h => ?_⟩
  refine read1 ra w er h fun d T1 hc1 H1 v e1 w1 er1 r1 h1 => ?_
  refine rl _ _ _ env σ _ w1 er1 (Post.imp (Post.bind h1) fun l T2 H2 e2 p => ?_)
  obtain ⟨hc2, _, w2, h2⟩ := p
  refine ru _ _ _ env σ _ w2 (er1.ext w1 e2) (Post.imp (Post.bind h2) fun u T3 H3 e3 p => ?_)
  obtain ⟨hc3, _, w3, h3⟩ := p
  have r3 := Rep.ext w2 e3 _ _ (Rep.ext w1 e2 _ _ r1)
  have key : (∀ ys, d ≠ .tup ys) → Post X.K T3 H3 (fun ds T' H' => ∀ p vs, H' p = none → RepL X.K T' H' ds vs → vs.length ≤ sizeLine → Q (.ref p) (upd H' p (.lst vs))) (WE W σ) (bnd (seqM d) (fun xs => pur (cutD xs l u)) hc3) → rSlL X.K v l u H3 Q := fun nt h3 => by
    obtain ⟨xs, p, vs, ev, s, sl, st, ll, rr, h4, _⟩ := post_seq w3 r3 h3
    exact ⟨p, vs, ev, sl nt, fun q hq => h4.of_pur w3 q _ hq (cut_rep rr l u) (Nat.le_trans (cutV_length _ _ _) ll)⟩
  cases d with
  | tup ys => exact h3.elim
  | _ => exact key (fun ys z => by cases z) h3

/-! ### calls of defs -/
theorem ce_call (g : Gd C G Cs k X W sc) {f : Nat} {x : Str} {p : Pos} (hf : C.cm = true ∧ C.fs[f]? = some x) (hv : glB sc x = true) (ho : okName x = true) (hs : ∀ y ∈ a :: es, isStar y = false) (hA : CA X W (a :: es) mA) :
    CE C X W sc (.Call (.Name x p) (a :: es) [] pos) (fun env => match G.tab[f]? with
      | some g => bnd (mA env) g
      | none => stuck) := by
  obtain ⟨tA, pA, rA⟩ := hA
  cases q : G.tab[f]? with
  | none => exact ⟨fun _ _ _ => False, ⟨fun pins s σ H Q I h => h.elim⟩, OwnSt.no rfl, fun T hc H env σ Q w er h => h.elim⟩
  | some gg =>
    obtain ⟨y, hy, ff, fd, ps, F, hm, kp, bd⟩ := g.fs f gg q
    rw [hf.2] at hy; cases hy
    refine ⟨_, pe_callS F (g.rm hf.1) (g.gl hv) hm kp bd (fun σ => passAt g.tk σ) pA (okName_d ho).1 (star1 (hs a List.mem_cons_self)) (starAll fun y hy => hs y (List.mem_cons_of_mem _ hy)), OwnSt.no rfl, fun T hc H env σ Q w er h => ?_⟩
    exact readA rA w er h fun ds T1 hc1 H1 vs e1 w1 er1 r1 h1 => ⟨T1, hc1, ds, w1, r1, h1⟩
end
end Cl
/-! sum, min, max of tuples of ints. -/
namespace Cl
open PySem PySem.Spec PyProof.Rows L2
section
variable {prog : Program} {w : World} {A : Around} {E : Value → Shared → Prop} {s : Shared} {t : Addr}
theorem min_tup_raw {xs : Array (Int × Tok)} {Q : Value → Shared → Prop} (hh : A.handled = none) (ht : s.heap.IsTuple t (intItems xs)) (hne : 0 < xs.size)
    (h : ∀ v h' tk, (intItems xs)[argBest (fun i j => decide (numAt xs i < numAt xs j)) (xs.size - 1)]? = some v → (∀ b o, s.heap.get? b = some o → h'.get? b = some o) → Q v { s with heap := h', toks := tk }) :
    wpAny (model prog w) A (call (.builtin "min") [.ref t]) Q E s := by
  obtain ⟨o, ho, hc, n, hd⟩ := id ht
  have hnt : t ≠ s.heap.objs.size := Nat.ne_of_lt (Heap.lt_size ho)
  have hsz : (intItems xs).size = xs.size := by simp [intItems]
  have W := (Walks.tuple (prog := prog) (w := w) (A := A.in1) hh s.heap.objs.size t hnt (intItems xs)).toS
  rw [hsz] at W
  refine call_min_walkS (wpAny_pyIter_tuple ht ?_)
  refine ⟨s.heap.objs.size, _, _, _, _, _, _, _, rfl, W, ⟨⟨_, Heap.get?_push_size _ rfl, rfl, rfl⟩, ht.at fun o e => Heap.get?_push_of_some _ e⟩, fun b hb => ?_, hne, CmpOf.ints_lt (numAt xs) (fun i v hP => intItems_at hP), fun v s' hP hm => ?_⟩
  · rcases List.mem_cons.mp hb with rfl | hb
    · exact Heap.lt_size (Heap.get?_push_size _ rfl)
    · obtain rfl := List.mem_singleton.mp hb
      exact Heap.lt_size (Heap.get?_push_of_some _ ho)
  · obtain ⟨h', g', d', tk', os'⟩ := s'
    have e1 : g' = s.gens := hm.gens
    have e2 : d' = s.drawn := hm.drawn
    have e3 : os' = s.os := hm.os
    subst e1 e2 e3
    exact h v h' tk' hP fun b o e => hm.heap b o (fun hb => absurd (Heap.lt_size e) ((List.mem_singleton.mp hb) ▸ Nat.lt_irrefl _)) (Heap.get?_push_of_some _ e)
theorem max_tup_raw {xs : Array (Int × Tok)} {Q : Value → Shared → Prop} (hh : A.handled = none) (ht : s.heap.IsTuple t (intItems xs)) (hne : 0 < xs.size)
    (h : ∀ v h' tk, (intItems xs)[argBest (fun i j => decide (numAt xs i > numAt xs j)) (xs.size - 1)]? = some v → (∀ b o, s.heap.get? b = some o → h'.get? b = some o) → Q v { s with heap := h', toks := tk }) :
    wpAny (model prog w) A (call (.builtin "max") [.ref t]) Q E s := by
  obtain ⟨o, ho, hc, n, hd⟩ := id ht
  have hnt : t ≠ s.heap.objs.size := Nat.ne_of_lt (Heap.lt_size ho)
  have hsz : (intItems xs).size = xs.size := by simp [intItems]
  have W := (Walks.tuple (prog := prog) (w := w) (A := A.in1) hh s.heap.objs.size t hnt (intItems xs)).toS
  rw [hsz] at W
  refine call_max_walkS (wpAny_pyIter_tuple ht ?_)
  refine ⟨s.heap.objs.size, _, _, _, _, _, _, _, rfl, W, ⟨⟨_, Heap.get?_push_size _ rfl, rfl, rfl⟩, ht.at fun o e => Heap.get?_push_of_some _ e⟩, fun b hb => ?_, hne, CmpOf.ints_gt (numAt xs) (fun i v hP => intItems_at hP), fun v s' hP hm => ?_⟩
  · rcases List.mem_cons.mp hb with rfl | hb
    · exact Heap.lt_size (Heap.get?_push_size _ rfl)
    · obtain rfl := List.mem_singleton.mp hb
      exact Heap.lt_size (Heap.get?_push_of_some _ ho)
  · obtain ⟨h', g', d', tk', os'⟩ := s'
    have e1 : g' = s.gens := hm.gens
    have e2 : d' = s.drawn := hm.drawn
    have e3 : os' = s.os := hm.os
    subst e1 e2 e3
    exact h v h' tk' hP fun b o e => hm.heap b o (fun hb => absurd (Heap.lt_size e) ((List.mem_singleton.mp hb) ▸ Nat.lt_irrefl _)) (Heap.get?_push_of_some _ e)
end
section
variable {X : Cx}
def rSumT (K : PySem.W.Frag) : List V → Hp → VK → Prop := fun vs H Q => ∃ (a : Addr) (ns : List Int), vs = [V.ref a] ∧ SqT K H a (ns.map V.int) ∧ Q (.int ns.sum) H
def rMinT (K : PySem.W.Frag) : List V → Hp → VK → Prop := fun vs H Q => ∃ (a : Addr) (ns : List Int), vs = [V.ref a] ∧ SqT K H a (ns.map V.int) ∧ 0 < ns.length ∧ ∀ m, m ∈ ns → (∀ y, y ∈ ns → m ≤ y) → Q (.int m) H
def rMaxT (K : PySem.W.Frag) : List V → Hp → VK → Prop := fun vs H Q => ∃ (a : Addr) (ns : List Int), vs = [V.ref a] ∧ SqT K H a (ns.map V.int) ∧ 0 < ns.length ∧ ∀ m, m ∈ ns → (∀ y, y ∈ ns → y ≤ m) → Q (.int m) H
theorem cr_sumT (hc : X.calm = true) : CallR X (.builtin "sum") (rSumT X.K) := by
  intro pins s σ H vs us Q I r h
  obtain ⟨a, ns, rfl, hs, q⟩ := h
  obtain ⟨its, rv, ⟨o, ho, hcl, n, hd⟩, _⟩ := I.tuple hs
  rw [Vals.ref1 r]
  have hi : IntsAre its ns := rv.ints
  obtain ⟨xs, e⟩ := hi.allInts.items
  have hn : numsOf (intItems xs).toList = ns := by rw [← e]; exact hi.numsOf
  rw [nums_intItems] at hn
  rw [e] at hd
  refine PySem.W.ktm_sumG (I.ok.hd hc) ⟨o, ho, hcl, n, hd⟩ fun h' tk t' hk => ?_
  rw [preSum_eq, List.take_of_length_le (by simp), hn]
  exact ⟨.int _, H, I.kept hk, ⟨_, rfl⟩, q⟩
theorem cr_minT (hc : X.calm = true) : CallR X (.builtin "min") (rMinT X.K) := by
  intro pins s σ H vs us Q I r h
  obtain ⟨a, ns, rfl, hs, hne, q⟩ := h
  obtain ⟨its, rv, ⟨o, ho, hcl, n, hd⟩, _⟩ := I.tuple hs
  rw [Vals.ref1 r]
  have hi : IntsAre its ns := rv.ints
  obtain ⟨xs, e⟩ := hi.allInts.items
  have hn : numsOf (intItems xs).toList = ns := by rw [← e]; exact hi.numsOf
  rw [nums_intItems] at hn
  subst hn
  rw [e] at hd
  have hsz : 0 < xs.size := by simpa using hne
  refine min_tup_raw (I.ok.hd hc) ⟨o, ho, hcl, n, hd⟩ hsz fun v h' tk hv hk => ?_
  obtain ⟨t, rfl⟩ := intItems_at hv
  obtain ⟨h1, h2⟩ := argBest_lt (numAt xs) (xs.size - 1)
  refine ⟨.int _, H, I.kept hk, ⟨_, rfl⟩, q _ ?_ fun a ha => ?_⟩
  · rw [numAt_eq]; exact PySem.getD_mem (by rw [List.length_map, Array.length_toList]; omega)
  · obtain ⟨j, hj, rfl⟩ := mem_getD ha
    rw [List.length_map, Array.length_toList] at hj
    rw [← numAt_eq]; exact h2 j (by omega)
theorem cr_maxT (hc : X.calm = true) : CallR X (.builtin "max") (rMaxT X.K) := by
  intro pins s σ H vs us Q I r h
  obtain ⟨a, ns, rfl, hs, hne, q⟩ := h
  obtain ⟨its, rv, ⟨o, ho, hcl, n, hd⟩, _⟩ := I.tuple hs
  rw [Vals.ref1 r]
  have hi : IntsAre its ns := rv.ints
  obtain ⟨xs, e⟩ := hi.allInts.items
  have hn : numsOf (intItems xs).toList = ns := by rw [← e]; exact hi.numsOf
  rw [nums_intItems] at hn
  subst hn
  rw [e] at hd
  have hsz : 0 < xs.size := by simpa using hne
  refine max_tup_raw (I.ok.hd hc) ⟨o, ho, hcl, n, hd⟩ hsz fun v h' tk hv hk => ?_
  obtain ⟨t, rfl⟩ := intItems_at hv
  obtain ⟨h1, h2⟩ := argBest_gt (numAt xs) (xs.size - 1)
  refine ⟨.int _, H, I.kept hk, ⟨_, rfl⟩, q _ ?_ fun a ha => ?_⟩
  · rw [numAt_eq]; exact PySem.getD_mem (by rw [List.length_map, Array.length_toList]; omega)
  · obtain ⟨j, hj, rfl⟩ := mem_getD ha
    rw [List.length_map, Array.length_toList] at hj
    rw [← numAt_eq]; exact h2 j (by omega)
end
end Cl
/-! Built-in functions, isinstance, lists that change. -/
namespace Cl
open PySem PySem.Spec PyProof.Rows L2

/-! ### built-in functions of values -/
def rBi (K : PySem.W.Frag) : Bi → List V → Hp → VK → Prop
  | .len => fun xs H Q => (∃ x n, xs = [x] ∧ LenV K x H n ∧ Q (.int n) H) ∨ (∃ a kvs, xs = [.ref a] ∧ H a = some (.dK kvs) ∧ Q (.int kvs.length) H)
  | .abs => fun xs H Q => ∃ i, xs = [.int i] ∧ Q (.int (if i < 0 then -i else i)) H
  | .min2 => fun xs H Q => ∃ i j, xs = [.int i, .int j] ∧ Q (.int (if j < i then j else i)) H
  | .max2 => fun xs H Q => ∃ i j, xs = [.int i, .int j] ∧ Q (.int (if j > i then j else i)) H
  | .minL => fun xs H Q => rMin K xs H Q ∨ rMinT K xs H Q
  | .maxL => fun xs H Q => rMax K xs H Q ∨ rMaxT K xs H Q
  | .sum => fun xs H Q => rSum K xs H Q ∨ rSumT K xs H Q
  | .all => rAll K
  | .any => rAny K
  | .int => fun xs H Q => (∃ i, xs = [.int i] ∧ Q (.int i) H) ∨ ∃ k, xs = [.bl k] ∧ Q (.int (if k then 1 else 0)) H
  | .bool => fun xs H Q => (∃ i, xs = [.int i] ∧ Q (.bl (i != 0)) H) ∨ ∃ k, xs = [.bl k] ∧ Q (.bl k) H
  | .str => fun xs H Q => ∃ i : Int, xs = [.int i] ∧ i.natAbs.log2 < 1920 ∧ Q (.str (toString i : String)) H
  | .tuple => fun xs H Q => ∃ p ys, xs = [.ref p] ∧ ((SqL K H p ys ∧ ∀ l, H l = none → Q (.ref l) (upd H l (.tup ys))) ∨ (SqT K H p ys ∧ Q (.ref p) H))
  | .ord => fun xs H Q => ∃ x, xs = [.str x] ∧ x.length = 1 ∧ Q (.int (x.cps.getD 0 0 : Nat)) H
  | .chr => fun xs H Q => ∃ i, xs = [.int i] ∧ 0 ≤ i ∧ i ≤ 1114111 ∧ Q (.str ⟨#[i.toNat]⟩) H
theorem call_lenDk {X : Cx} : CallR X (.builtin "len") (fun xs H Q => ∃ a kvs, xs = [V.ref a] ∧ H a = some (.dK kvs) ∧ Q (.int kvs.length) H) := call_lenD
/-- the rule for a call by the built-in's name -/
theorem pe_bi {X : Cx} (hcalm : X.calm = true) (nb : ∀ x ∈ bNames, X.mg x = none) (f : Bi) {p pos : Pos} {e : Expr} {es : List Expr} {t : TA} (hg : Gl X (biName f)) (ha : PA X (e :: es) t) (hs : ∀ y ∈ e :: es, isStar y = false) :
    PE X (.Call (.Name (biName f) p) (e :: es) [] pos) (tCB (rBi X.K f) t) := by
  have h1 := star1 (es := es) (env := X.env) (hs e List.mem_cons_self)
  have h2 := starAll (pos := pos) (env := X.env) fun y hy => hs y (List.mem_cons_of_mem _ hy)
  cases f with
  | len => exact pe_callB (CallR.or call_len call_lenDk) hg (nb _ (by decide +kernel)) PySem.boot_len ha (by decide +kernel) (by decide +kernel) h1 h2
  | abs => exact pe_callB call_abs hg (nb _ (by decide +kernel)) boot_abs ha (by decide +kernel) (by decide +kernel) h1 h2
  | min2 => exact pe_callB (call_min2 hcalm) hg (nb _ (by decide +kernel)) boot_min ha (by decide +kernel) (by decide +kernel) h1 h2
  | max2 => exact pe_callB (call_max2 hcalm) hg (nb _ (by decide +kernel)) boot_max ha (by decide +kernel) (by decide +kernel) h1 h2
  | minL => exact pe_callB (CallR.or (cr_min hcalm) (cr_minT hcalm)) hg (nb _ (by decide +kernel)) boot_min ha (by decide +kernel) (by decide +kernel) h1 h2
  | maxL => exact pe_callB (CallR.or (cr_max hcalm) (cr_maxT hcalm)) hg (nb _ (by decide +kernel)) boot_max ha (by decide +kernel) (by decide +kernel) h1 h2
  | sum => exact pe_callB (CallR.or (cr_sum hcalm) (cr_sumT hcalm)) hg (nb _ (by decide +kernel)) (by decide +kernel) ha (by decide +kernel) (by decide +kernel) h1 h2
  | all => exact pe_callB (cr_all hcalm) hg (nb _ (by decide +kernel)) (by decide +kernel) ha (by decide +kernel) (by decide +kernel) h1 h2
  | any => exact pe_callB (cr_any hcalm) hg (nb _ (by decide +kernel)) (by decide +kernel) ha (by decide +kernel) (by decide +kernel) h1 h2
  | int => exact pe_callTy call_int1 hg (nb _ (by decide +kernel)) boot_int ha (by decide +kernel) (by decide +kernel) h1 h2
  | str => exact pe_callTy call_str_int hg (nb _ (by decide +kernel)) boot_str ha (by decide +kernel) (by decide +kernel) h1 h2
  | bool => exact pe_callTy call_bool1 hg (nb _ (by decide +kernel)) boot_bool ha (by decide +kernel) (by decide +kernel) h1 h2
  | tuple => exact pe_callTy call_tuple_of hg (nb _ (by decide +kernel)) boot_tuple ha (by decide +kernel) (by decide +kernel) h1 h2
  | ord => exact pe_callB call_ord hg (nb _ (by decide +kernel)) boot_ord ha (by decide +kernel) (by decide +kernel) h1 h2
  | chr => exact pe_callB call_chr hg (nb _ (by decide +kernel)) boot_chr ha (by decide +kernel) (by decide +kernel) h1 h2

theorem leastI_of : ∀ {ns : List Int} {m : Int}, m ∈ ns → (∀ y, y ∈ ns → m ≤ y) → leastI ns = m
  | [], m, h, _ => by cases h
  | [x], m, h, _ => by rw [List.mem_singleton] at h; rw [h]; rfl
  | x :: y :: r, m, h, l => by
    simp only [leastI]
    have has : ∃ z, z ∈ y :: r ∧ (∀ u, u ∈ y :: r → z ≤ u) := by
      have : ∀ (l : List Int) (x : Int), ∃ z, z ∈ x :: l ∧ ∀ u, u ∈ x :: l → z ≤ u := by
        intro l
        induction l with
        | nil => intro x; exact ⟨x, List.mem_cons_self, fun u hu => by rw [List.mem_singleton] at hu; omega⟩
        | cons a l ih =>
          intro x
          obtain ⟨z, hz, hl⟩ := ih a
          by_cases c : x ≤ z
          · exact ⟨x, List.mem_cons_self, fun u hu => by
              rcases List.mem_cons.mp hu with q | q
              · omega
              · have := hl u q; omega⟩
          · exact ⟨z, List.mem_cons_of_mem _ hz, fun u hu => by
              rcases List.mem_cons.mp hu with q | q
              · omega
              · exact hl u q⟩
      exact this r y
    obtain ⟨z, hz, hl⟩ := has
    have e : leastI (y :: r) = z := leastI_of hz hl
    rw [e]
    have hx := l x List.mem_cons_self
    have hzm := l z (List.mem_cons_of_mem _ hz)
    split
    · rcases List.mem_cons.mp h with q | q
      · exact q.symm
      · have := hl m q; omega
    · rcases List.mem_cons.mp h with q | q
      · omega
      · have := hl m q; omega
theorem mostI_of : ∀ {ns : List Int} {m : Int}, m ∈ ns → (∀ y, y ∈ ns → y ≤ m) → mostI ns = m
  | [], m, h, _ => by cases h
  | [x], m, h, _ => by rw [List.mem_singleton] at h; rw [h]; rfl
  | x :: y :: r, m, h, l => by
    simp only [mostI]
    have has : ∃ z, z ∈ y :: r ∧ (∀ u, u ∈ y :: r → u ≤ z) := by
      have : ∀ (l : List Int) (x : Int), ∃ z, z ∈ x :: l ∧ ∀ u, u ∈ x :: l → u ≤ z := by
        intro l
        induction l with
        | nil => intro x; exact ⟨x, List.mem_cons_self, fun u hu => by rw [List.mem_singleton] at hu; omega⟩
        | cons a l ih =>
          intro x
          obtain ⟨z, hz, hl⟩ := ih a
          by_cases c : z ≤ x
          · exact ⟨x, List.mem_cons_self, fun u hu => by
              rcases List.mem_cons.mp hu with q | q
              · omega
              · have := hl u q; omega⟩
          · exact ⟨z, List.mem_cons_of_mem _ hz, fun u hu => by
              rcases List.mem_cons.mp hu with q | q
              · omega
              · exact hl u q⟩
      exact this r y
    obtain ⟨z, hz, hl⟩ := has
    have e : mostI (y :: r) = z := mostI_of hz hl
    rw [e]
    have hx := l x List.mem_cons_self
    have hzm := l z (List.mem_cons_of_mem _ hz)
    split
    · rcases List.mem_cons.mp h with q | q
      · exact q.symm
      · have := hl m q; omega
    · rcases List.mem_cons.mp h with q | q
      · omega
      · have := hl m q; omega

section
variable {K : PySem.W.Frag} {T : Tk} {H : Hp} {hc : Hc} {exP : XK}
theorem repL1 {d : D} {vs : List V} (r : RepL K T H [d] vs) : ∃ v, vs = [v] ∧ Rep K T H d v := by
  simp only [RepL] at r
  obtain ⟨v, t, e, a, b⟩ := r
  exact ⟨v, by rw [e, b], a⟩
theorem repL2 {d d' : D} {vs : List V} (r : RepL K T H [d, d'] vs) : ∃ v u, vs = [v, u] ∧ Rep K T H d v ∧ Rep K T H d' u := by
  simp only [RepL] at r
  obtain ⟨v, t, e, a, u, t', e', b, e3⟩ := r
  exact ⟨v, u, by rw [e, e', e3], a, b⟩
theorem nt_of {d : D} (h : ∀ xs, d = .tup xs → False) : ∀ ys, d ≠ .tup ys := fun ys z => h ys z
theorem post_len {d : D} {v : V} {Q : VK} (w : Wd K T hc H) (r : Rep K T H d v) (h : Post K T H (fun d T' H' => ∀ v, Rep K T' H' d v → Q v H') exP (lenM d hc)) :
    (∃ x n, [v] = [x] ∧ LenV K x H n ∧ Q (.int n) H) ∨ (∃ a kvs, [v] = [V.ref a] ∧ H a = some (.dK kvs) ∧ Q (.int kvs.length) H) := by
  have seq : Post K T H (fun d T' H' => ∀ v, Rep K T' H' d v → Q v H') exP (bnd (seqM d) (fun xs => pur (.int xs.length)) hc) → (∃ x n, [v] = [x] ∧ LenV K x H n ∧ Q (.int n) H) := fun h => by
    obtain ⟨xs, p, vs, e, s, sl, st, l, rr, h, _⟩ := post_seq w r h
    have q := h.of_pur w _ (by simp only [Rep]; rfl)
    rw [← rr.length] at q
    subst e
    refine ⟨_, vs.length, rfl, ?_, q⟩
    rcases s with s | s
    · exact .inl ⟨vs, s, rfl⟩
    · exact .inr ⟨vs, s, rfl⟩
  cases d with
  | str x =>
    simp only [Rep] at r; subst r
    obtain ⟨c, h⟩ := Post.of_guard h
    exact .inl ⟨_, x.length, rfl, ⟨c, rfl⟩, h.of_pur w _ (by simp only [Rep])⟩
  | ref i =>
    unfold lenM at h
    dsimp only at h
    simp only [Rep] at r
    obtain ⟨b, eb, hb⟩ := r
    subst eb
    cases q : hc[i]? with
    | none => rw [q] at h; exact h.elim
    | some o =>
      obtain ⟨a, ha, ro⟩ := w.obj i _ q
      rw [ha] at hb; cases hb
      cases o with
      | lst xs =>
        rw [q] at h
        obtain ⟨vs, e, l, rr⟩ := ro
        have z := Post.ok_same h w _ (by simp only [Rep]; rfl)
        rw [← rr.length] at z
        exact .inl ⟨_, vs.length, rfl, .inl ⟨vs, SqL.of e, rfl⟩, z⟩
      | dct kvs =>
        rw [q] at h
        obtain ⟨vs, e, l, rr⟩ := ro
        have z := Post.ok_same h w _ (by simp only [Rep]; rfl)
        have ll : ∀ {kvs : List (Key × D)} {vs : List (Key × V)}, RepKV K T H kvs vs → vs.length = kvs.length := by
          intro kvs
          induction kvs with
          | nil => intro vs rr; simp only [RepKV] at rr; rw [rr]; rfl
          | cons p ps ih =>
            intro vs rr
            obtain ⟨k, d⟩ := p
            simp only [RepKV] at rr
            obtain ⟨v, t, e, _, b⟩ := rr
            rw [e, List.length_cons, List.length_cons, ih b]
        rw [← ll rr] at z
        exact .inr ⟨_, vs, rfl, e, z⟩
      | ins _ _ => rw [q] at h; exact h.elim
  | _ => exact .inl (seq h)
theorem post_bi {f : Bi} {ds : List D} {vs : List V} {Q : VK} (w : Wd K T hc H) (r : RepL K T H ds vs) (h : Post K T H (fun d T' H' => ∀ v, Rep K T' H' d v → Q v H') exP (biM f ds hc)) : rBi K f vs H Q := by
  unfold biM at h
  split at h
  · obtain ⟨v, rfl, r1⟩ := repL1 r
    exact post_len w r1 h
  · obtain ⟨v, rfl, r1⟩ := repL1 r
    simp only [Rep] at r1; subst r1
    exact ⟨_, rfl, h.of_pur w _ (by simp only [Rep])⟩
  · obtain ⟨v, u, rfl, r1, r2⟩ := repL2 r
    simp only [Rep] at r1 r2; subst r1; subst r2
    exact ⟨_, _, rfl, h.of_pur w _ (by simp only [Rep])⟩
  · obtain ⟨v, u, rfl, r1, r2⟩ := repL2 r
    simp only [Rep] at r1 r2; subst r1; subst r2
    exact ⟨_, _, rfl, h.of_pur w _ (by simp only [Rep])⟩
  · next d =>
    obtain ⟨v, rfl, r1⟩ := repL1 r
    obtain ⟨xs, p, us, e', s, sl, st, l, rr, h, _⟩ := post_seq w r1 h
    subst e'
    cases q : intsD xs with
    | none => rw [q] at h; exact h.elim
    | some ns =>
      rw [q] at h
      have h := Post.of_guard (show Post K T H _ exP (guard (0 < ns.length) (pur (D.int (leastI ns))) hc) from h)
      have ex := intsD_of q
      subst ex
      rw [repL_intsV rr] at s
      rcases s with s | s
      · refine .inl ⟨p, ns, rfl, s, h.1, fun m hm hl => ?_⟩
        have := h.2.of_pur w _ (by simp only [Rep]; rfl)
        rw [leastI_of hm hl] at this
        exact this
      · refine .inr ⟨p, ns, rfl, s, h.1, fun m hm hl => ?_⟩
        have := h.2.of_pur w _ (by simp only [Rep]; rfl)
        rw [leastI_of hm hl] at this
        exact this
  · next d =>
    obtain ⟨v, rfl, r1⟩ := repL1 r
    obtain ⟨xs, p, us, e', s, sl, st, l, rr, h, _⟩ := post_seq w r1 h
    subst e'
    cases q : intsD xs with
    | none => rw [q] at h; exact h.elim
    | some ns =>
      rw [q] at h
      have h := Post.of_guard (show Post K T H _ exP (guard (0 < ns.length) (pur (D.int (mostI ns))) hc) from h)
      have ex := intsD_of q
      subst ex
      rw [repL_intsV rr] at s
      rcases s with s | s
      · refine .inl ⟨p, ns, rfl, s, h.1, fun m hm hl => ?_⟩
        have := h.2.of_pur w _ (by simp only [Rep]; rfl)
        rw [mostI_of hm hl] at this
        exact this
      · refine .inr ⟨p, ns, rfl, s, h.1, fun m hm hl => ?_⟩
        have := h.2.of_pur w _ (by simp only [Rep]; rfl)
        rw [mostI_of hm hl] at this
        exact this
  · next d =>
    obtain ⟨v, rfl, r1⟩ := repL1 r
    obtain ⟨xs, p, us, e', s, sl, st, l, rr, h, _⟩ := post_seq w r1 h
    subst e'
    cases q : intsD xs with
    | none => rw [q] at h; exact h.elim
    | some ns =>
      rw [q] at h
      have ex := intsD_of q
      subst ex
      rw [repL_intsV rr] at s
      rcases s with s | s
      · exact .inl ⟨p, ns, rfl, s, Post.of_pur h w _ (by simp only [Rep])⟩
      · exact .inr ⟨p, ns, rfl, s, Post.of_pur h w _ (by simp only [Rep])⟩
  · exact h.elim
  · next d nt =>
    obtain ⟨v, rfl, r1⟩ := repL1 r
    obtain ⟨xs, p, us, e', s, sl, st, l, rr, h, _⟩ := post_seq w r1 h
    subst e'
    cases q : blsD xs with
    | none => rw [q] at h; exact h.elim
    | some ns =>
      rw [q] at h
      have ex := blsD_of q
      subst ex
      have sl' := sl (nt_of (fun ys z => nt ys z))
      rw [repL_blsV rr] at sl'
      exact ⟨p, ns, rfl, sl', Post.of_pur h w _ (by simp only [Rep])⟩
  · exact h.elim
  · next d nt =>
    obtain ⟨v, rfl, r1⟩ := repL1 r
    obtain ⟨xs, p, us, e', s, sl, st, l, rr, h, _⟩ := post_seq w r1 h
    subst e'
    cases q : blsD xs with
    | none => rw [q] at h; exact h.elim
    | some ns =>
      rw [q] at h
      have ex := blsD_of q
      subst ex
      have sl' := sl (nt_of (fun ys z => nt ys z))
      rw [repL_blsV rr] at sl'
      exact ⟨p, ns, rfl, sl', Post.of_pur h w _ (by simp only [Rep])⟩
  · obtain ⟨v, rfl, r1⟩ := repL1 r
    simp only [Rep] at r1; subst r1
    exact .inl ⟨_, rfl, h.of_pur w _ (by simp only [Rep])⟩
  · obtain ⟨v, rfl, r1⟩ := repL1 r
    simp only [Rep] at r1; subst r1
    exact .inr ⟨_, rfl, h.of_pur w _ (by simp only [Rep])⟩
  · obtain ⟨v, rfl, r1⟩ := repL1 r
    simp only [Rep] at r1; subst r1
    exact .inl ⟨_, rfl, h.of_pur w _ (by simp only [Rep])⟩
  · obtain ⟨v, rfl, r1⟩ := repL1 r
    simp only [Rep] at r1; subst r1
    exact .inr ⟨_, rfl, h.of_pur w _ (by simp only [Rep])⟩
  · obtain ⟨v, rfl, r1⟩ := repL1 r
    simp only [Rep] at r1; subst r1
    obtain ⟨c, h⟩ := Post.of_guard h
    exact ⟨_, rfl, c, h.of_pur w _ (by simp only [Rep])⟩
  · obtain ⟨v, rfl, r1⟩ := repL1 r
    obtain ⟨xs, p, us, e', s, sl, st, l, rr, h, hq⟩ := post_seq w r1 h
    subst e'
    refine ⟨p, us, rfl, ?_⟩
    rcases s with s | s
    · exact .inl ⟨s, fun q hq => h T _ (Ext.upd_new hq) (w.upd_new hq) _ (rep_new_tup w hq rr l)⟩
    · refine .inr ⟨s, h.of_pur w _ ?_⟩
      simp only [Rep]
      exact ⟨p, us, rfl, s, l, rr⟩
  · obtain ⟨v, rfl, r1⟩ := repL1 r
    simp only [Rep] at r1; subst r1
    obtain ⟨c, h⟩ := Post.of_guard h
    exact ⟨_, rfl, c, h.of_pur w _ (by simp only [Rep])⟩
  · obtain ⟨v, rfl, r1⟩ := repL1 r
    simp only [Rep] at r1; subst r1
    obtain ⟨c, h⟩ := Post.of_guard h
    exact ⟨_, rfl, c.1, c.2, h.of_pur w _ (by simp only [Rep])⟩
  · exact h.elim
end

/-! ### isinstance -/
section
variable {K : PySem.W.Frag} {T : Tk} {H : Hp} {hc : Hc} {exP : XK}
def tyKnown : List String := ["NoneType", "bool", "int", "str", "tuple", "list", "dict"]
theorem kit_tab : ∀ a ∈ tyKnown, ∀ b ∈ tyNames, kitB a b = some (a == b || (a == "bool" && b == "int")) := by decide +kernel
theorem post_ty {d : D} {v : V} {α : Type} {f : String → M α} {okQ : α → Tk → Hp → Prop} (w : Wd K T hc H) (r : Rep K T H d v) (h : Post K T H okQ exP (bnd (tyM d) f hc)) :
    ∃ t, t ∈ tyKnown ∧ TyX K H v (.type t) ∧ Post K T H okQ exP (f t hc) := by
  cases d with
  | non => simp only [Rep] at r; subst r; exact ⟨_, by decide +kernel, .base .non, h⟩
  | bl b => simp only [Rep] at r; subst r; exact ⟨_, by decide +kernel, .base (.bl _), h⟩
  | int b => simp only [Rep] at r; subst r; exact ⟨_, by decide +kernel, .base (.int _), h⟩
  | str b => simp only [Rep] at r; subst r; exact ⟨_, by decide +kernel, .base (.str _), h⟩
  | tup xs =>
    simp only [Rep] at r
    obtain ⟨a, vs, e, s, l, q⟩ := r
    subst e
    refine ⟨"tuple", by decide +kernel, ?_, h⟩
    rcases s with (s | ⟨o, s⟩) | ⟨o, its, n, h1, h2, _⟩
    · exact .base (.tup s)
    · exact .fTuple s
    · exact .kTuple h1 h2
  | fl xs =>
    simp only [Rep] at r
    obtain ⟨a, vs, e, s, l, q⟩ := r
    subst e
    exact ⟨"list", by decide +kernel, .base (.lst s.1), h⟩
  | kl xs =>
    simp only [Rep] at r
    obtain ⟨a, vs, e, s, l, q⟩ := r
    subst e
    refine ⟨"list", by decide +kernel, ?_, h⟩
    rcases s with (⟨o, s⟩ | ⟨s, _⟩) | ⟨o, its, n, h1, h2, _⟩
    · exact .base (.frz s)
    · exact .base (.lst s)
    · exact .kList h1 h2
  | ref i =>
    unfold bnd tyM at h
    dsimp only at h
    simp only [Rep] at r
    obtain ⟨b, eb, hb⟩ := r
    subst eb
    cases q : hc[i]? with
    | none => rw [q] at h; exact h.elim
    | some o =>
      obtain ⟨a, ha, ro⟩ := w.obj i _ q
      rw [ha] at hb; cases hb
      cases o with
      | lst xs =>
        rw [q] at h
        obtain ⟨vs, e, l, rr⟩ := ro
        exact ⟨"list", by decide +kernel, .base (.lst e), h⟩
      | dct kvs =>
        rw [q] at h
        obtain ⟨vs, e, l, rr⟩ := ro
        exact ⟨"dict", by decide +kernel, .base (.dK e), h⟩
      | ins _ _ => rw [q] at h; exact h.elim
  | ob _ => exact h.elim
  | ty _ => exact h.elim
theorem kitAny_of {t : String} (ht : t ∈ tyKnown) : ∀ {ts : List String}, (∀ u ∈ ts, u ∈ tyNames) → PySem.W.kitAny K (.type t) (ts.map Value.type) = some (ts.any fun u => t == u || (t == "bool" && u == "int"))
  | [], _ => kitAny_nil
  | u :: us, h => by
    have h1 := kit_ty (K := K) (kit_tab t ht u (h u List.mem_cons_self))
    have h2 := kitAny_of ht (ts := us) fun x hx => h x (List.mem_cons_of_mem _ hx)
    rw [List.map_cons, List.any_cons]
    refine kitAny_cons h1 (fun e => ?_) (fun e => ?_)
    · rw [h2, e]; simp
    · rw [e]; rfl
end
theorem ty_boot : ∀ t ∈ tyNames, bootBuiltins (Str.ofString t) = some (.type t) := by decide +kernel
theorem ty_nb : ∀ t ∈ tyNames, Str.ofString t ∈ bNames := by decide +kernel
theorem ty_nn : ∀ t ∈ tyNames, Str.ofString t ≠ ("__name__" : Str) ∧ (Str.ofString t == ("__debug__" : Str)) = false := by decide +kernel

section
variable {C : Ck} {G : Gt} {Cs : List D} {k : Nat} {X : Cx} {W : WX} {sc : Scope} {pos : Pos}
variable {a b c e : Expr} {ma mb mc : Env → M D} {es : List Expr} {mA : Env → M (List D)}
theorem ce_bi (g : Gd C G Cs k X W sc) (hcm : C.cm = true) {f : Bi} {p : Pos} (hv : glB sc (biName f) = true) (hs : ∀ y ∈ a :: es, isStar y = false) (hA : CA X W (a :: es) mA) :
    CE C X W sc (.Call (.Name (biName f) p) (a :: es) [] pos) (fun env => bnd (mA env) fun xs => biM f xs) := by
  obtain ⟨tA, pA, rA⟩ := hA
  refine ⟨_, pe_bi (g.calm hcm) g.nb f (g.gl hv) pA hs, OwnSt.no rfl, fun T hc H env σ Q w er h => ?_⟩
  exact readA rA w er h fun ds T1 hc1 H1 vs e1 w1 er1 r1 h1 => post_bi w1 r1 h1
def rBn (K : PySem.W.Frag) : Bn → List V → Hp → VK → Prop
  | .list => fun xs H Q => ∃ p ys, xs = [.ref p] ∧ (SqL K H p ys ∨ SqT K H p ys) ∧ ∀ l, H l = none → Q (.ref l) (upd H l (.lst ys))
  | .sorted => rSortedI K
  | .sortP => fun vs H Q => ∃ B, rSortU K 2 B vs H Q
theorem cr_sortP {X : Cx} : CallR X (.builtin "sorted") (fun vs H Q => ∃ B, rSortU X.K 2 B vs H Q) := fun pins s σ H vs us Q I r ⟨B, h⟩ => cr_sortT (by decide) pins s σ H vs us Q I r h
theorem pairsD_of : ∀ {xs : List D} {L : List (Int × Int)}, pairsD xs = some L → xs = L.map encP
  | [], L, h => by simp only [pairsD, Option.some.injEq] at h; subst h; rfl
  | d :: xs, L, h => by
    unfold pairsD at h
    split at h
    · next h0 => cases h0
    · next i j r h0 =>
      cases h0
      cases q : pairsD xs with
      | none => rw [q] at h; cases h
      | some M =>
        rw [q] at h
        cases h
        rw [pairsD_of q]; rfl
    · cases h
theorem code2 (B x y : Int) : TS.code B [x, y] = x * B + y := by
  show x * B ^ 1 + (y * B ^ 0 + 0) = x * B + y
  have e1 : B ^ 1 = B := Int.pow_one B
  have e0 : B ^ 0 = 1 := Int.pow_zero B
  rw [e1, e0, Int.mul_one, Int.add_zero]
theorem code_le {B : Int} {p q : Int × Int} (hp : 0 ≤ p.1 ∧ 0 ≤ p.2 ∧ p.1 < B ∧ p.2 < B) (hq : 0 ≤ q.1 ∧ 0 ≤ q.2 ∧ q.1 < B ∧ q.2 < B) (h : TS.code B [p.1, p.2] ≤ TS.code B [q.1, q.2]) : pairLe p q = true := by
  rw [code2, code2] at h
  unfold pairLe
  rw [decide_eq_true_eq]
  rcases Int.lt_trichotomy p.1 q.1 with c | c | c
  · exact .inl c
  · rw [c] at h; exact .inr ⟨c, by omega⟩
  · exfalso
    have : (q.1 + 1) * B ≤ p.1 * B := Int.mul_le_mul_of_nonneg_right (by omega) (by omega)
    rw [Int.add_mul, Int.one_mul] at this
    omega
theorem repP_perm {K : PySem.W.Frag} {T : Tk} {H : Hp} {vs ys : List V} (h : vs.Perm ys) : ∀ {ds : List D}, RepL K T H ds vs → ∃ ds', ds.Perm ds' ∧ RepL K T H ds' ys := by
  induction h with
  | nil => exact fun {ds} r => ⟨ds, .refl _, r⟩
  | cons v _ ih =>
    intro ds r
    cases ds with
    | nil => simp only [RepL] at r; cases r
    | cons d ds =>
      simp only [RepL] at r
      obtain ⟨u, t, e, a, b⟩ := r
      cases e
      obtain ⟨ds', p, q⟩ := ih b
      exact ⟨d :: ds', p.cons d, RepL.cons a q⟩
  | swap v u l =>
    intro ds r
    rcases ds with _ | ⟨d, _ | ⟨d2, ds⟩⟩
    · simp only [RepL] at r; cases r
    · simp only [RepL] at r
      obtain ⟨x, t, e, a, b⟩ := r
      cases e
      first | (simp only [RepL] at b; cases b) | cases b
    · simp only [RepL] at r
      obtain ⟨x, t, e, a, y, t2, e2, b, c⟩ := r
      cases e; cases e2
      exact ⟨d2 :: d :: ds, List.Perm.swap _ _ _, RepL.cons b (RepL.cons a c)⟩
  | trans _ _ ih1 ih2 =>
    intro ds r
    obtain ⟨ds1, p1, r1⟩ := ih1 r
    obtain ⟨ds2, p2, r2⟩ := ih2 r1
    exact ⟨ds2, p1.trans p2, r2⟩
theorem map_perm_inv {α β : Type} {f : α → β} {g : β → α} (hf : ∀ a, g (f a) = a) : ∀ {xs : List α} {ys : List β}, (xs.map f).Perm ys → ∃ zs, ys = zs.map f ∧ xs.Perm zs := by
  intro xs ys h
  have : ∀ y ∈ ys, ∃ a ∈ xs, f a = y := fun y hy => by
    obtain ⟨a, ha, e⟩ := List.mem_map.mp (h.mem_iff.mpr hy)
    exact ⟨a, ha, e⟩
  have ez : ∃ zs : List α, ys = zs.map f := by
    clear h
    induction ys with
    | nil => exact ⟨[], rfl⟩
    | cons y ys ih =>
      obtain ⟨a, _, e⟩ := this y List.mem_cons_self
      obtain ⟨zs, ez⟩ := ih fun z hz => this z (List.mem_cons_of_mem _ hz)
      exact ⟨a :: zs, by rw [ez, ← e]; rfl⟩
  obtain ⟨zs, rfl⟩ := ez
  refine ⟨zs, rfl, ?_⟩
  have h2 := h.map g
  have e : ∀ l : List α, (l.map f).map g = l := fun l => by
    rw [List.map_map]
    have : g ∘ f = id := funext hf
    rw [this, List.map_id]
  rw [e, e] at h2
  exact h2
def decP : D → Int × Int
  | .tup [.int i, .int j] => (i, j)
  | _ => (0, 0)
theorem rep_encP {K : PySem.W.Frag} {T : Tk} {H : Hp} {p : Int × Int} {v : V} (r : Rep K T H (encP p) v) : TupI K H v [p.1, p.2] := by
  simp only [encP, Rep, RepL] at r
  obtain ⟨a, vs, e, s, l, v1, r1, e1, h1, v2, r2, e2, h2, e3⟩ := r
  subst e; subst e3; subst e2; subst e1; subst h1; subst h2
  exact ⟨a, rfl, s⟩
theorem pairs_sorted {K : PySem.W.Frag} {T : Tk} {H : Hp} {B : Int} : ∀ {L : List (Int × Int)} {ys : List V}, (∀ p ∈ L, 0 ≤ p.1 ∧ 0 ≤ p.2 ∧ p.1 < B ∧ p.2 < B) → RepL K T H (L.map encP) ys →
    ys.Pairwise (fun x y => ∀ n m, TupI K H x n → TupI K H y m → TS.code B n ≤ TS.code B m) → L.Pairwise fun p q => pairLe p q = true
  | [], _, _, _, _ => List.Pairwise.nil
  | p :: L, ys, hb, r, hp => by
    simp only [List.map_cons, RepL] at r
    obtain ⟨v, t, e, a, b⟩ := r
    subst e
    rw [List.pairwise_cons] at hp ⊢
    refine ⟨fun q hq => ?_, pairs_sorted (fun q hq => hb q (List.mem_cons_of_mem _ hq)) b hp.2⟩
    obtain ⟨i, hi, ei⟩ := List.mem_iff_getElem.mp hq
    obtain ⟨u, hu, ru⟩ := b.get (i := i) (d := encP q) (by rw [List.getElem?_map, List.getElem?_eq_getElem hi, ei]; rfl)
    exact code_le (hb p List.mem_cons_self) (hb q (List.mem_cons_of_mem _ hq)) (hp.1 u (List.mem_of_getElem? hu) _ _ (rep_encP a) (rep_encP ru))
theorem sortP_is {a b : List (Int × Int)} (h : a.Perm b) (ha : a.Pairwise fun p q => pairLe p q = true) : a = b.mergeSort pairLe := by
  have hb : (b.mergeSort pairLe).Pairwise (fun x y => pairLe x y = true) :=
    List.pairwise_mergeSort (le := pairLe) (by intro x y z hxy hyz; simp only [pairLe, decide_eq_true_eq] at *; omega) (by intro x y; simp only [pairLe, Bool.or_eq_true, decide_eq_true_eq]; omega) b
  have hp : a.Perm (b.mergeSort pairLe) := h.trans (List.mergeSort_perm b _).symm
  refine hp.eq_of_pairwise (le := fun x y => pairLe x y = true) (fun x y _ _ h1 h2 => ?_) ha hb
  obtain ⟨x1, x2⟩ := x
  obtain ⟨y1, y2⟩ := y
  simp only [pairLe, decide_eq_true_eq] at h1 h2
  rw [Prod.mk.injEq]; omega
theorem pairs_bound (L : List (Int × Int)) : ∃ B : Int, ∀ p ∈ L, p.1 < B ∧ p.2 < B := by
  induction L with
  | nil => exact ⟨0, by simp⟩
  | cons p L ih =>
    obtain ⟨B, hB⟩ := ih
    refine ⟨max B (max (p.1 + 1) (p.2 + 1)), fun q hq => ?_⟩
    rcases List.mem_cons.mp hq with e | e
    · subst e; omega
    · have := hB q e; omega
theorem pe_bn (nb : ∀ x ∈ bNames, X.mg x = none) (f : Bn) {p pos : Pos} {e : Expr} {es : List Expr} {t : TA} (hg : Gl X (bnName f)) (ha : PA X (e :: es) t) (hs : ∀ y ∈ e :: es, isStar y = false) :
    PE X (.Call (.Name (bnName f) p) (e :: es) [] pos) (tCB (rBn X.K f) t) := by
  have h1 := star1 (es := es) (env := X.env) (hs e List.mem_cons_self)
  have h2 := starAll (pos := pos) (env := X.env) fun y hy => hs y (List.mem_cons_of_mem _ hy)
  cases f with
  | list => exact pe_callTy call_list_of hg (nb _ (by decide +kernel)) boot_list ha (by decide +kernel) (by decide +kernel) h1 h2
  | sorted => exact pe_callB cr_sortedI hg (nb _ (by decide +kernel)) boot_sorted ha (by decide +kernel) (by decide +kernel) h1 h2
  | sortP => exact pe_callB cr_sortP hg (nb _ (by decide +kernel)) boot_sorted ha (by decide +kernel) (by decide +kernel) h1 h2
theorem sorted_is {a b : List Int} (h : a.Perm b) (ha : a.Pairwise (· ≤ ·)) : a = b.mergeSort (fun x y => decide (x ≤ y)) := by
  have hb : (b.mergeSort (fun x y : Int => decide (x ≤ y))).Pairwise (fun x y => decide (x ≤ y) = true) :=
    List.pairwise_mergeSort (le := fun x y : Int => decide (x ≤ y)) (by intro x y z hxy hyz; simp only [decide_eq_true_eq] at *; omega) (by intro x y; simp only [Bool.or_eq_true, decide_eq_true_eq]; omega) b
  have hp : a.Perm (b.mergeSort (fun x y : Int => decide (x ≤ y))) := h.trans (List.mergeSort_perm b _).symm
  refine hp.eq_of_pairwise (le := fun x y : Int => x ≤ y) (fun x y _ _ h1 h2 => Int.le_antisymm h1 h2) ha (hb.imp fun h => of_decide_eq_true h)
theorem cn_bn (g : Gd C G Cs k X W sc) {f : Bn} {p : Pos} (hv : glB sc (bnName f) = true) (hs : ∀ y ∈ a :: es, isStar y = false) (hA : CA X W (a :: es) mA) :
    CN C X W sc (.Call (.Name (bnName f) p) (a :: es) [] pos) (fun env => bnd (mA env) fun xs => bnM f xs) := by
  obtain ⟨tA, pA, rA⟩ := hA
  refine ⟨_, pe_bn g.nb f (g.gl hv) pA hs, OwnSt.no rfl, fun T hc H env σ Q w er h => ?_⟩
  refine readA rA w er h fun ds T1 hc1 H1 vs e1 w1 er1 r1 h1 => ?_
  unfold bnM at h1
  split at h1
  · obtain ⟨v, rfl, r⟩ := repL1 r1
    obtain ⟨xs, p, us, e', s, sl, st, l, rr, q⟩ := post_seq0 w1 r h1
    subst e'
    exact ⟨p, us, rfl, s, fun q' hq => q q' us hq rr l⟩
  · exact h1.elim
  · next d nt =>
    obtain ⟨v, rfl, r⟩ := repL1 r1
    obtain ⟨xs, p, us, e', s, sl, st, l, rr, h1, _⟩ := post_seq w1 r h1
    subst e'
    cases q : intsD xs with
    | none => rw [q] at h1; exact h1.elim
    | some ns =>
      rw [q] at h1
      have ex := intsD_of q
      subst ex
      have sl' := sl (nt_of (fun ys z => nt ys z))
      have ev := repL_intsV rr
      rw [ev] at sl'
      refine ⟨p, ns, rfl, sl', fun ns' q' hp hw hq => ?_⟩
      have z := Post.of_pur h1 w1 q' (ns'.map V.int) hq (by rw [sorted_is hp hw]; exact repL_ints _) (by
        rw [List.length_map, hp.length_eq]
        rw [ev, List.length_map] at l
        exact l)
      exact z
  · exact h1.elim
  · next d nt =>
    obtain ⟨v, rfl, r⟩ := repL1 r1
    obtain ⟨xs, p, us, e', s, sl, st, l, rr, h1, _⟩ := post_seq w1 r h1
    subst e'
    cases q : pairsD xs with
    | none => rw [q] at h1; exact h1.elim
    | some L =>
      rw [q] at h1
      have ex := pairsD_of q
      subst ex
      obtain ⟨⟨c1, c2⟩, h1⟩ := Post.of_guard (show Post X.K T1 H1 _ (WE W σ) (Cl.guard (L.length < 64 ∧ ∀ p ∈ L, 0 ≤ p.1 ∧ 0 ≤ p.2) (pur ((L.mergeSort pairLe).map encP)) hc1) from h1)
      have sl' := sl (nt_of (fun ys z => nt ys z))
      obtain ⟨B, hB⟩ := pairs_bound L
      have hb : ∀ p ∈ L, 0 ≤ p.1 ∧ 0 ≤ p.2 ∧ p.1 < B ∧ p.2 < B := fun p hp => ⟨(c2 p hp).1, (c2 p hp).2, (hB p hp).1, (hB p hp).2⟩
      refine ⟨B, p, us, rfl, sl', by rw [rr.length, List.length_map]; exact c1, fun x hx => ?_, fun ys q' hp hw hq => ?_⟩
      · obtain ⟨i, hi⟩ := List.mem_iff_getElem?.mp hx
        obtain ⟨d, hd, rd⟩ := rr.getV hi
        rw [List.getElem?_map] at hd
        cases z : L[i]? with
        | none => rw [z] at hd; cases hd
        | some t =>
          rw [z] at hd
          simp only [Option.map_some, Option.some.injEq] at hd
          subst hd
          have ht := hb t (List.mem_of_getElem? z)
          refine ⟨[t.1, t.2], rep_encP rd, rfl, fun m hm => ?_⟩
          rcases List.mem_cons.mp hm with e | e
          · rw [e]; exact ⟨ht.1, ht.2.2.1⟩
          · rw [List.mem_singleton] at e; rw [e]; exact ⟨ht.2.1, ht.2.2.2⟩
      · obtain ⟨ds', p1, r'⟩ := repP_perm hp.symm rr
        obtain ⟨L', rfl, p2⟩ := map_perm_inv (g := decP) (fun _ => rfl) p1
        have hs := pairs_sorted (fun p hp => hb p (p2.mem_iff.mpr hp)) r' hw
        have e := sortP_is p2.symm hs
        exact Post.of_pur h1 w1 q' ys hq (by rw [← e]; exact r') (by
          rw [hp.length_eq]; exact l)
  · exact h1.elim
/-- isinstance(e, T) -/
theorem pe_tyName (g : Gd C G Cs k X W sc) {t : String} (ht : t ∈ tyNames) (hv : glB sc (Str.ofString t) = true) {p : Pos} : PE X (.Name (Str.ofString t) p) (tC (.ty t)) :=
  pe_bltn (g.gl hv) (g.nb _ (ty_nb t ht)) (ty_boot t ht) rfl (ty_nn t ht).1 (ty_nn t ht).2
theorem ce_isa1 (g : Gd C G Cs k X W sc) {t : String} {p p2 : Pos} (ht : t ∈ tyNames) (hv : glB sc ("isinstance" : Str) = true) (hv2 : glB sc (Str.ofString t) = true) (hs : isStar a = false) (ha : CE C X W sc a ma) :
    CE C X W sc (.Call (.Name ("isinstance" : Str) p) [a, .Name (Str.ofString t) p2] [] pos) (fun env => bnd (ma env) fun x => bnd (isaM [t] x) fun k => pur (.bl k)) := by
  obtain ⟨ta, pa, _, ra⟩ := ha
  refine ⟨_, pe_callB call_isi (g.gl hv) (g.nb _ (by decide +kernel)) boot_isinstance (pa_cons pa (pa_cons (pe_tyName g ht hv2) pa_nil (star1 rfl)) (star1 hs)) (by decide +kernel) (by decide +kernel) (star1 hs) (starAll (by intro y hy; rw [List.mem_singleton] at hy; subst hy; rfl)), OwnSt.no rfl, fun T hc H env σ Q w er h => ?_⟩
  refine read1 ra w er h fun d T1 hc1 H1 v e1 w1 er1 r1 h1 => ?_
  unfold isaM at h1
  rw [bnd_assoc] at h1
  obtain ⟨u, hu, ty, h2⟩ := post_ty w1 r1 h1
  have q := Post.of_pur h2 w1 _ (by simp only [Rep]; rfl)
  refine ⟨v, .ty t, .type u, .type t, _, rfl, .ty t, ty, kit_ty (kit_tab u hu t ht), ?_⟩
  simpa using q
/-- isinstance of the exception that the suite holds -/
theorem ce_isx (g : Gd C G Cs k X W sc) {i j : Nat} {n : Str} {cls : List Str} {b : Bool} {e : Expr} (hq : C.xq[j]? = some (i, n, cls, b)) (hf : xqForm n cls sc e = true) :
    CE C X W sc e (fun env => match G.xa, (env[i]?).bind id with
      | some a, some (.ob a') => if a = a' then pur (.bl b) else stuck
      | _, _ => stuck) := by
  have hc : isComp e = false := by
    cases e <;> first | rfl | (simp [xqForm] at hf)
  cases qa : G.xa with
  | none => exact ⟨fun _ _ _ => False, ⟨fun pins s σ H Q I h => h.elim⟩, OwnSt.no hc, fun T hc H env σ Q w er h => h.elim⟩
  | some a =>
    refine ⟨_, g.xa a j i n cls b qa hq e hf, OwnSt.no hc, fun T hc H env σ Q w er h => ?_⟩
    dsimp only at h
    cases q : env[i]? with
    | none => rw [q] at h; exact h.elim
    | some o =>
      rw [q] at h
      cases o with
      | none => exact h.elim
      | some d =>
        cases d with
        | ob a' =>
          dsimp only [Option.bind_some, id] at h
          split at h
          · next ea =>
            subst ea
            obtain ⟨v, hv, rv⟩ := er.2 i _ q
            simp only [Rep] at rv
            subst rv
            refine ⟨hv, fun p vs hp => ?_⟩
            exact h T _ (Ext.upd_new hp) (w.upd_new hp) _ (by simp only [Rep])
          · exact h.elim
        | _ => exact h.elim
theorem ca_tys (g : Gd C G Cs k X W sc) : ∀ {ts : List String} {es : List Expr}, tysB ts es sc = true →
    PA X es (fun σ H Q => Q (ts.map V.ty) H) ∧ (∀ u ∈ ts, u ∈ tyNames)
  | [], [], _ => ⟨pa_nil, fun _ h => by cases h⟩
  | t :: ts, e :: es, h => by
    cases e with
    | Name x p =>
      simp only [tysB, Bool.and_eq_true, decide_eq_true_eq, beq_iff_eq] at h
      obtain ⟨⟨⟨h1, h2⟩, h3⟩, h4⟩ := h
      subst h2
      obtain ⟨p1, p2⟩ := ca_tys g h4
      exact ⟨pa_cons (pe_tyName g h1 h3) p1 (star1 rfl), fun u hu => by
        rcases List.mem_cons.mp hu with z | z
        · rw [z]; exact h1
        · exact p2 u z⟩
    | _ => simp [tysB] at h
  | [], _ :: _, h => by simp [tysB] at h
  | _ :: _, [], h => by simp [tysB] at h
theorem pair_ty : ∀ ts : List String, Paired ClsV (ts.map V.ty) (ts.map Value.type)
  | [] => .nil
  | t :: ts => .cons (.ty t) (pair_ty ts)
theorem ce_isaT (g : Gd C G Cs k X W sc) {ts : List String} {p p2 : Pos} {x1 : Nat} (hts : tysB ts es sc = true) (hv : glB sc ("isinstance" : Str) = true) (hs : isStar a = false) (ha : CE C X W sc a ma) (hl : ts.length ≤ 100) :
    CE C X W sc (.Call (.Name ("isinstance" : Str) p) [a, .Tuple es x1 p2] [] pos) (fun env => bnd (ma env) fun x => bnd (isaM ts x) fun k => pur (.bl k)) := by
  obtain ⟨ta, pa, _, ra⟩ := ha
  obtain ⟨p1, hn⟩ := ca_tys g hts
  refine ⟨_, pe_callB call_isiT (g.gl hv) (g.nb _ (by decide +kernel)) boot_isinstance (pa_cons pa (pa_cons (pe_tup p1) pa_nil (star1 rfl)) (star1 hs)) (by decide +kernel) (by decide +kernel) (star1 hs) (starAll (by intro y hy; rw [List.mem_singleton] at hy; subst hy; rfl)), OwnSt.no rfl, fun T hc H env σ Q w er h => ?_⟩
  refine read1 ra w er h fun d T1 hc1 H1 v e1 w1 er1 r1 h1 => ?_
  refine ⟨by rw [List.length_map]; have : (100 : Nat) ≤ sizeLine := by decide +kernel
             omega, fun q hq => ?_⟩
  have w2 := w1.upd_new (o := .tup (ts.map V.ty)) hq
  have r2 := Rep.upd_new w1 (o := .tup (ts.map V.ty)) hq r1
  have h2 := Post.ext (Ext.upd_new (o := .tup (ts.map V.ty)) hq) h1
  unfold isaM at h2
  rw [bnd_assoc] at h2
  obtain ⟨u, hu, ty, h3⟩ := post_ty w2 r2 h2
  have z := Post.of_pur h3 w2 _ (by simp only [Rep]; rfl)
  exact ⟨v, q, ts.map V.ty, .type u, ts.map Value.type, _, rfl, upd_same, pair_ty ts, ty, kitAny_of hu hn, z⟩
end
end Cl
/-! Lists that change, operators that make lists; what a loop walks. -/
namespace Cl
open PySem PySem.Spec PyProof.Rows L2
section
variable {K : PySem.W.Frag} {T : Tk} {H : Hp} {hc : Hc} {exP : XK} {α : Type}
theorem post_putAt {i : Nat} {xs : List D} {vs : List V} {a : Addr} {f : Unit → M α} {okQ : α → Tk → Hp → Prop} (w : Wd K T hc H) (ha : T.ρ[i]? = some a) (r : RepL K T H xs vs) (l : vs.length ≤ sizeLine) (he : ∃ zs, H a = some (.lst zs))
    (h : Post K T H okQ exP (bnd (putAt i (.lst xs)) f hc)) : Wd K T (hc.set i (.lst xs)) (upd H a (.lst vs)) ∧ Ext T H T (upd H a (.lst vs)) ∧ Post K T (upd H a (.lst vs)) okQ exP (f () (hc.set i (.lst xs))) := by
  have m : a ∈ T.ρ := atm ha
  have e : Ext T H T (upd H a (.lst vs)) := Ext.write m
  have w2 : Wd K T (hc.set i (.lst xs)) (upd H a (.lst vs)) := w.write ha ⟨vs, upd_same, l, RepL.ext w e _ _ r⟩
  refine ⟨w2, e, ?_⟩
  unfold bnd putAt at h
  split at h
  · next q =>
    split at q
    · cases q; exact Post.ext e h
    · cases q
  · next q =>
    split at q <;> cases q
  · exact h.elim
end
section
variable {C : Ck} {G : Gt} {Cs : List D} {k : Nat} {X : Cx} {W : WX} {sc : Scope} {pos : Pos}
variable {a b c e : Expr} {ma mb mc : Env → M D} {es : List Expr} {mA : Env → M (List D)}
theorem few1 {cpos : Pos} {env : PySem.Env} (h : isStar e = false) : ((backTo cpos (starEach [e] env)).all (fun x => !x.1) && (backToKw cpos (keywordEach [] env)).all (fun x => x.1.isSome)
      && decide ([e].length + ([] : List Keyword).length + (if ([] : List Keyword).isEmpty then 0 else 1) < 30)) = true := by
  rw [starFew (by intro x hx; rw [List.mem_singleton] at hx; subst hx; exact h)]; rfl
theorem ce_app {o : Expr} {ap cp : Pos} (hsu : notSuper o = true) (hline : (ap.endLine == cp.line) = true) (hs : isStar e = false) (ho : CE C X W sc o ma) (he : CE C X W sc e mb) :
    CE C X W sc (.Call (.Attribute o "append" ap) [e] [] cp) (fun env => bnd (ma env) fun l => match l with
      | .ref i => bnd (lstAt i) fun _ => bnd (mb env) fun y => bnd (lstAt i) fun xs => guard (xs.length < sizeLine) (bnd (putAt i (.lst (xs ++ [y]))) fun _ => pur .non)
      | _ => stuck) := by
  obtain ⟨ta, pa, _, ra⟩ := ho
  obtain ⟨tb, pb, _, rb⟩ := he
  refine ⟨_, pe_bm PySem.F.plainAttrs_list PySem.F.slot_list_append PySem.F.type_list_append mt_append pa (pa_cons pb pa_nil (star1 hs)) (superNo hsu) (few1 hs) hline (star1 hs) rfl, OwnSt.no rfl, fun T hc H env σ Q w er h => ?_⟩
  refine read1 ra w er h fun d T1 hc1 H1 v e1 w1 er1 r1 h1 => ?_
  cases d with
  | ref i =>
    obtain ⟨xs0, p, vs0, q0, hp, hv0, l0, rr0, h1⟩ := post_lstAt (okP := fun _ _ _ => True) w1 h1
    simp only [Rep] at r1
    obtain ⟨p', ep, hp'⟩ := r1
    rw [hp] at hp'; cases hp'
    subst ep
    refine ⟨.inl ⟨rfl, vs0, SqL.of hv0⟩, ?_⟩
    refine read1 rb w1 er1 h1 fun d2 T2 hc2 H2 u e2 w2 er2 r2 h2 => ?_
    obtain ⟨xs, p2, vs, q, hp2, hv, l, rr, h3⟩ := post_lstAt (okP := fun _ _ _ => True) w2 h2
    have := e2.get hp
    rw [this] at hp2; cases hp2
    obtain ⟨c, h3⟩ := Post.of_guard h3
    have lv : vs.length < sizeLine := by rw [rr.length]; exact c
    obtain ⟨w3, e3, h4⟩ := post_putAt w2 this (rr.append (RepL.cons r2 RepL.nil)) (by rw [List.length_append]; show vs.length + 1 ≤ sizeLine; omega) ⟨vs, hv⟩ h3
    exact ⟨p, vs, u, rfl, rfl, hv, lv, h4.of_pur w3 _ (by simp only [Rep])⟩
  | _ => exact h1.elim
theorem ce_popAt {o : Expr} {ap cp : Pos} (hsu : notSuper o = true) (hline : (ap.endLine == cp.line) = true) (hs : isStar e = false) (ho : CE C X W sc o ma) (he : CE C X W sc e mb) :
    CE C X W sc (.Call (.Attribute o "pop" ap) [e] [] cp) (fun env => bnd (ma env) fun l => match l with
      | .ref i => bnd (lstAt i) fun _ => bnd (mb env) fun y => bnd (intM y) fun k => bnd (lstAt i) fun xs => guard (-(2 ^ 63) ≤ k ∧ k < 2 ^ 63) (bnd (optM (seqIndex? k xs.length)) fun j => bnd (optM xs[j]?) fun v => bnd (putAt i (.lst (xs.eraseIdx j))) fun _ => pur v)
      | _ => stuck) := by
  obtain ⟨ta, pa, _, ra⟩ := ho
  obtain ⟨tb, pb, _, rb⟩ := he
  refine ⟨_, pe_bm PySem.F.plainAttrs_list PySem.F.slot_list_pop PySem.F.type_list_pop mt_popAt pa (pa_cons pb pa_nil (star1 hs)) (superNo hsu) (few1 hs) hline (star1 hs) rfl, OwnSt.no rfl, fun T hc H env σ Q w er h => ?_⟩
  refine read1 ra w er h fun d T1 hc1 H1 v e1 w1 er1 r1 h1 => ?_
  cases d with
  | ref i =>
    obtain ⟨xs0, p, vs0, q0, hp, hv0, l0, rr0, h1⟩ := post_lstAt (okP := fun _ _ _ => True) w1 h1
    simp only [Rep] at r1
    obtain ⟨p', ep, hp'⟩ := r1
    rw [hp] at hp'; cases hp'
    subst ep
    refine ⟨.inl ⟨rfl, vs0, SqL.of hv0⟩, ?_⟩
    refine read1 rb w1 er1 h1 fun d2 T2 hc2 H2 u e2 w2 er2 r2 h2 => ?_
    cases d2 <;> (try exact h2.elim)
    next kk =>
    simp only [Rep] at r2
    have h2' : Post X.K T2 H2 _ (WE W σ) (bnd (lstAt i) (fun xs => guard (-(2 ^ 63) ≤ kk ∧ kk < 2 ^ 63) (bnd (optM (seqIndex? kk xs.length)) fun j => bnd (optM xs[j]?) fun v => bnd (putAt i (.lst (xs.eraseIdx j))) fun _ => pur v)) hc2) := h2
    obtain ⟨xs, p2, vs, q, hp2, hv, l, rr, h3⟩ := post_lstAt (okP := fun _ _ _ => True) w2 h2'
    have := e2.get hp
    rw [this] at hp2; cases hp2
    obtain ⟨c, h3⟩ := Post.of_guard h3
    cases q1 : seqIndex? kk xs.length with
    | none => rw [q1] at h3; exact h3.elim
    | some j =>
      rw [q1] at h3
      have h3 : Post X.K T2 H2 _ (WE W σ) (bnd (optM xs[j]?) (fun v => bnd (putAt i (.lst (xs.eraseIdx j))) fun _ => pur v) hc2) := h3
      cases q2 : xs[j]? with
      | none => rw [q2] at h3; exact h3.elim
      | some y =>
        rw [q2] at h3
        have h3 : Post X.K T2 H2 _ (WE W σ) (bnd (putAt i (.lst (xs.eraseIdx j))) (fun _ => pur y) hc2) := h3
        obtain ⟨z, hz, rz⟩ := rr.get q2
        obtain ⟨w3, e3, h4⟩ := post_putAt w2 this (rr.eraseIdx j) (Nat.le_trans (len_erase vs j) l) ⟨vs, hv⟩ h3
        exact ⟨p, vs, kk, j, z, rfl, by rw [r2], hv, c.1, c.2, by rw [rr.length]; exact q1, hz, h4.of_pur w3 _ (Rep.ext w2 e3 _ _ rz)⟩
  | _ => exact h1.elim
theorem RepL.dropLast {K : PySem.W.Frag} {T : Tk} {H : Hp} {ds : List D} {vs : List V} (h : RepL K T H ds vs) : RepL K T H ds.dropLast vs.dropLast := by
  rw [List.dropLast_eq_take, List.dropLast_eq_take, h.length]
  exact h.take _
theorem ce_pop {o : Expr} {ap cp : Pos} (hsu : notSuper o = true) (hline : (ap.endLine == cp.line) = true) (ho : CE C X W sc o ma) :
    CE C X W sc (.Call (.Attribute o "pop" ap) [] [] cp) (fun env => bnd (ma env) fun l => match l with
      | .ref i => bnd (lstAt i) fun xs => bnd (optM xs[xs.length - 1]?) fun v => bnd (putAt i (.lst xs.dropLast)) fun _ => pur v
      | _ => stuck) := by
  obtain ⟨ta, pa, _, ra⟩ := ho
  refine ⟨_, pe_bm0 PySem.F.plainAttrs_list PySem.F.slot_list_pop PySem.F.type_list_pop mt_pop pa (superNo hsu) hline, OwnSt.no rfl, fun T hc H env σ Q w er h => ?_⟩
  refine read1 ra w er h fun d T1 hc1 H1 v e1 w1 er1 r1 h1 => ?_
  cases d with
  | ref i =>
    obtain ⟨xs, p, vs, q0, hp, hv, l, rr, h1⟩ := post_lstAt (okP := fun _ _ _ => True) w1 h1
    simp only [Rep] at r1
    obtain ⟨p', ep, hp'⟩ := r1
    rw [hp] at hp'; cases hp'
    subst ep
    refine ⟨.inl ⟨rfl, vs, SqL.of hv⟩, ?_⟩
    cases q2 : xs[xs.length - 1]? with
    | none => rw [q2] at h1; exact h1.elim
    | some y =>
      rw [q2] at h1
      have h3 : Post X.K T1 H1 _ (WE W σ) (bnd (putAt i (.lst xs.dropLast)) (fun _ => pur y) hc1) := h1
      obtain ⟨z, hz, rz⟩ := rr.get q2
      obtain ⟨w3, e3, h4⟩ := post_putAt w1 hp rr.dropLast (by rw [List.length_dropLast]; omega) ⟨vs, hv⟩ h3
      exact ⟨p, vs, z, rfl, rfl, hv, by rw [rr.length]; exact hz, h4.of_pur w3 _ (Rep.ext w1 e3 _ _ rz)⟩
  | _ => exact h1.elim
theorem rep_flat_replicate {K : PySem.W.Frag} {T : Tk} {H : Hp} {ds : List D} {vs : List V} (h : RepL K T H ds vs) : ∀ n : Nat, RepL K T H (List.replicate n ds).flatten (List.replicate n vs).flatten
  | 0 => RepL.nil
  | n + 1 => by
    rw [List.replicate_succ, List.replicate_succ, List.flatten_cons, List.flatten_cons]
    exact h.append (rep_flat_replicate h n)
theorem len_flat_replicate (vs : List V) (n : Nat) : (List.replicate n vs).flatten.length = vs.length * n := by
  induction n with
  | zero => rfl
  | succ n ih => rw [List.replicate_succ, List.flatten_cons, List.length_append, ih, Nat.mul_succ, Nat.add_comm]
def rBinL : Operator → R2
  | .Add => rCat
  | .Mult => rRep
  | _ => fun _ _ _ _ => False
theorem opBinL : ∀ o : Operator, OpR X (binaryOp o) (rBinL o)
  | .Add => op_cat
  | .Mult => op_rep
  | .Sub => fun _ _ _ _ _ _ _ _ _ _ _ _ h => h.elim
  | .FloorDiv => fun _ _ _ _ _ _ _ _ _ _ _ _ h => h.elim
  | .Mod => fun _ _ _ _ _ _ _ _ _ _ _ _ h => h.elim
  | .Pow => fun _ _ _ _ _ _ _ _ _ _ _ _ h => h.elim
  | .LShift => fun _ _ _ _ _ _ _ _ _ _ _ _ h => h.elim
  | .RShift => fun _ _ _ _ _ _ _ _ _ _ _ _ h => h.elim
  | .BitAnd => fun _ _ _ _ _ _ _ _ _ _ _ _ h => h.elim
  | .MatMult => fun _ _ _ _ _ _ _ _ _ _ _ _ h => h.elim
  | .Div => fun _ _ _ _ _ _ _ _ _ _ _ _ h => h.elim
  | .BitOr => fun _ _ _ _ _ _ _ _ _ _ _ _ h => h.elim
  | .BitXor => fun _ _ _ _ _ _ _ _ _ _ _ _ h => h.elim
theorem cn_bin {o : Operator} (ha : CE C X W sc a ma) (hb : CE C X W sc b mb) : CN C X W sc (.BinOp a o b pos) (fun env => bnd (ma env) fun x => bnd (mb env) fun y => binL o x y) := by
  obtain ⟨ta, pa, _, ra⟩ := ha
  obtain ⟨tb, pb, _, rb⟩ := hb
  refine ⟨_, pe_op (opBinL o) pa pb, OwnSt.no rfl, fun T hc H env σ Q w er h => ?_⟩
  refine read1 ra w er h fun d T1 hc1 H1 v e1 w1 er1 r1 h1 => ?_
  refine read1 rb w1 er1 h1 fun d2 T2 hc2 H2 u e2 w2 er2 r2 h2 => ?_
  have r1' := Rep.ext w1 e2 _ _ r1
  unfold binL at h2
  split at h2
  · obtain ⟨xs, p, vs, ev, hv, l, rr, h3⟩ := post_ls w2 r1' h2
    obtain ⟨ys, p', us, eu, hu, l', rr', h4⟩ := post_ls w2 r2 h3
    obtain ⟨c, h4⟩ := Post.of_guard h4
    have a1 := rr.length
    have a2 := rr'.length
    exact ⟨p, p', vs, us, ev, eu, hv, hu, by omega, fun q hq => h4.of_pur w2 q _ hq (rr.append rr') (by rw [List.length_append]; omega)⟩
  · obtain ⟨xs, p, vs, ev, hv, l, rr, h3⟩ := post_ls w2 r1' h2
    obtain ⟨c, h4⟩ := Post.of_guard h3
    simp only [Rep] at r2
    have a1 := rr.length
    exact ⟨p, _, vs, ev, r2, hv, c.1, c.2.1, by rw [a1]; exact c.2.2, fun q hq => h4.of_pur w2 q _ hq (rep_flat_replicate rr _) (by rw [len_flat_replicate, a1]; exact c.2.2)⟩
  · exact h2.elim

/-! ### what a loop walks -/
theorem itOk_pure {K : PySem.W.Frag} {T0 : Tk} {H0 : Hp} {J : It} {xs : List D} (go : ∀ (i : Nat) H, i < xs.length → J.go i H) (yld : ∀ (i : Nat) d H x H', xs[i]? = some d → J.yld i H x H' → H' = H ∧ ∃ v, flat d = some v ∧ x = v) (stop : ∀ H, J.stop xs.length H) : ItOk K T0 H0 J ⟨xs, []⟩ :=
  ⟨fun i hi T hc H _ _ _ => go i H hi, fun i d hd T hc H _ w _ x H' y => by
    obtain ⟨e, v, f, ex⟩ := yld i d H x H' hd y
    subst e; subst ex
    exact ⟨Ext.refl T _, w, flat_rep f⟩, fun T hc H _ _ _ => stop H⟩
theorem rangeD_get {lo : Int} {n i : Nat} {d : D} (h : (rangeD lo n)[i]? = some d) : d = .int (lo + i) ∧ i < n := by
  unfold rangeD at h
  rw [List.getElem?_map] at h
  by_cases c : i < n
  · rw [List.getElem?_range c] at h
    cases h
    exact ⟨rfl, c⟩
  · rw [List.getElem?_eq_none_iff.mpr (by simpa using c)] at h
    cases h
theorem rangeD_len {lo : Int} {n : Nat} : (rangeD lo n).length = n := by simp [rangeD]
theorem itOk_range {K : PySem.W.Frag} {T0 : Tk} {H0 : Hp} {lo : Int} {n : Nat} : ItOk K T0 H0 (Itr lo n) ⟨rangeD lo n, []⟩ := by
  refine itOk_pure (fun i H h => ?_) (fun i d H x H' hd y => ?_) (fun H => ?_)
  · rw [rangeD_len] at h; exact h
  · obtain ⟨e, _⟩ := rangeD_get hd
    subst e
    exact ⟨y.1, _, rfl, y.2⟩
  · show n ≤ (rangeD lo n).length
    rw [rangeD_len]; exact Nat.le_refl _
theorem ci_rng1 (g : Gd C G Cs k X W sc) {tg : Expr} {p : Pos} (hv : glB sc ("range" : Str) = true) (hs : isStar a = false) (ha : CE C X W sc a ma) :
    CI X W tg (.Call (.Name ("range" : Str) p) [a] [] pos) (fun env => bnd (ma env) fun x => bnd (intM x) fun j => guard (Rg j) (pur ⟨rangeD 0 j.toNat, []⟩)) := by
  obtain ⟨ta, pa, _, ra⟩ := ha
  refine ⟨_, pi_range1 (g.gl hv) (g.nb _ (by decide +kernel)) (pa_cons pa pa_nil (star1 hs)) (star1 hs), fun T hc H env σ R w er h => ?_⟩
  refine read1 ra w er h fun d T1 hc1 H1 v e1 w1 er1 r1 h1 => ?_
  cases d <;> (try exact h1.elim)
  next j =>
  simp only [Rep] at r1
  obtain ⟨c, h1⟩ := Post.of_guard (show Post X.K T1 H1 _ (WE W σ) (guard (Rg j) (pur (⟨rangeD 0 j.toNat, []⟩ : Src)) hc1) from h1)
  exact ⟨j, by rw [r1], c.1, c.2, h1.of_pur w1 _ itOk_range⟩
theorem ci_rng2 (g : Gd C G Cs k X W sc) {tg : Expr} {p : Pos} (hv : glB sc ("range" : Str) = true) (hs : isStar a = false) (hs2 : isStar b = false) (ha : CE C X W sc a ma) (hb : CE C X W sc b mb) :
    CI X W tg (.Call (.Name ("range" : Str) p) [a, b] [] pos) (fun env => bnd (ma env) fun x => bnd (mb env) fun y => bnd (intM x) fun i => bnd (intM y) fun j => guard (Rg i ∧ Rg j) (pur ⟨rangeD i (j - i).toNat, []⟩)) := by
  obtain ⟨ta, pa, _, ra⟩ := ha
  obtain ⟨tb, pb, _, rb⟩ := hb
  have s2 : starEach [b] X.env = [(false, eval b X.env)] := star1 hs2
  refine ⟨_, pi_range2 (g.gl hv) (g.nb _ (by decide +kernel)) (pa_cons pa (pa_cons pb pa_nil s2) (star1 hs)) (by rw [star1 hs, s2]) s2, fun T hc H env σ R w er h => ?_⟩
  refine read1 ra w er h fun d T1 hc1 H1 v e1 w1 er1 r1 h1 => ?_
  refine read1 rb w1 er1 h1 fun d2 T2 hc2 H2 u e2 w2 er2 r2 h2 => ?_
  cases d <;> (try exact h2.elim)
  next i =>
  cases d2 <;> (try exact h2.elim)
  next j =>
  simp only [Rep] at r1 r2
  obtain ⟨c, h3⟩ := Post.of_guard (show Post X.K T2 H2 _ (WE W σ) (guard (Rg i ∧ Rg j) (pur (⟨rangeD i (j - i).toNat, []⟩ : Src)) hc2) from h2)
  exact ⟨i, j, by rw [r1, r2], ⟨c.1.1, c.1.2, c.2.1, c.2.2⟩, h3.of_pur w2 _ itOk_range⟩
theorem rangeC_get {lo c : Int} {n i : Nat} {d : D} (h : (rangeC lo c n)[i]? = some d) : d = .int (lo + (i : Int) * c) ∧ i < n := by
  unfold rangeC at h
  rw [List.getElem?_map] at h
  by_cases z : i < n
  · rw [List.getElem?_range z] at h
    cases h
    exact ⟨rfl, z⟩
  · rw [List.getElem?_eq_none_iff.mpr (by simpa using z)] at h
    cases h
theorem itOk_rangeC {K : PySem.W.Frag} {T0 : Tk} {H0 : Hp} {lo c : Int} {n : Nat} : ItOk K T0 H0 (Itc lo c n) ⟨rangeC lo c n, []⟩ := by
  have l : (rangeC lo c n).length = n := by simp [rangeC]
  refine itOk_pure (fun i H h => ?_) (fun i d H x H' hd y => ?_) (fun H => ?_)
  · rw [l] at h; exact h
  · obtain ⟨e, _⟩ := rangeC_get hd
    subst e
    exact ⟨y.1, _, rfl, y.2⟩
  · show n ≤ (rangeC lo c n).length
    rw [l]; exact Nat.le_refl _
theorem ci_rng3 (g : Gd C G Cs k X W sc) {tg : Expr} {p : Pos} (hv : glB sc ("range" : Str) = true) (hs : isStar a = false) (hs2 : isStar b = false) (hs3 : isStar c = false) (ha : CE C X W sc a ma) (hb : CE C X W sc b mb) (hcc : CE C X W sc c mc) :
    CI X W tg (.Call (.Name ("range" : Str) p) [a, b, c] [] pos) (fun env => bnd (ma env) fun x => bnd (mb env) fun y => bnd (mc env) fun z => bnd (intM x) fun i => bnd (intM y) fun j => bnd (intM z) fun k =>
      guard (k ≠ 0 ∧ k.natAbs < 1073741824 ∧ Builtin.Range.small i j k = true ∧ 0 ≤ Builtin.Range.rangeSize i j k) (pur ⟨rangeC i k (Builtin.Range.rangeSize i j k).toNat, []⟩)) := by
  obtain ⟨ta, pa, _, ra⟩ := ha
  obtain ⟨tb, pb, _, rb⟩ := hb
  obtain ⟨tc, pc, _, rc⟩ := hcc
  refine ⟨_, pi_range3 (g.gl hv) (g.nb _ (by decide +kernel)) (pa_cons pa (pa_cons pb (pa_cons pc pa_nil (star1 hs3)) (star1 hs2)) (star1 hs)) (star1 hs) (starAll (by
    intro y hy
    rcases List.mem_cons.mp hy with z | z
    · rw [z]; exact hs2
    · rw [List.mem_singleton] at z; rw [z]; exact hs3)), fun T hc H env σ R w er h => ?_⟩
  refine read1 ra w er h fun d T1 hc1 H1 v e1 w1 er1 r1 h1 => ?_
  refine read1 rb w1 er1 h1 fun d2 T2 hc2 H2 u e2 w2 er2 r2 h2 => ?_
  refine read1 rc w2 er2 h2 fun d3 T3 hc3 H3 u3 e3 w3 er3 r3 h3 => ?_
  cases d <;> (try exact h3.elim)
  next i =>
  cases d2 <;> (try exact h3.elim)
  next j =>
  cases d3 <;> (try exact h3.elim)
  next kk =>
  simp only [Rep] at r1 r2 r3
  obtain ⟨cc, h4⟩ := Post.of_guard (show Post X.K T3 H3 _ (WE W σ) (guard (kk ≠ 0 ∧ kk.natAbs < 1073741824 ∧ Builtin.Range.small i j kk = true ∧ 0 ≤ Builtin.Range.rangeSize i j kk) (pur (⟨rangeC i kk (Builtin.Range.rangeSize i j kk).toNat, []⟩ : Src)) hc3) from h3)
  exact ⟨i, j, kk, (Builtin.Range.rangeSize i j kk).toNat, by rw [r1, r2, r3], ⟨cc.1, cc.2.1, cc.2.2.1, by rw [Int.toNat_of_nonneg cc.2.2.2]⟩, h4.of_pur w3 _ itOk_rangeC⟩

/-- a list that is read, tuple, text -/
theorem itOk_list {K : PySem.W.Frag} {T0 : Tk} {H0 : Hp} {hc0 : Hc} {d : D} {v : V} {xs : List D} {dep : List (Nat × List D)} (w0 : Wd K T0 hc0 H0) (r : Rep K T0 H0 d v)
    (hd : (d = .fl xs ∧ dep = []) ∨ (d = .kl xs ∧ dep = []) ∨ ∃ i, d = .ref i ∧ dep = [(i, xs)]) :
    ∃ a, v = .ref a ∧ ItOk K T0 H0 (Itl K a) ⟨xs, dep⟩ ∧ (hc0 = hc0 → Deps ⟨xs, dep⟩ hc0 → ∃ ys, SqL K H0 a ys) := by
  have now : ∃ a, v = .ref a ∧ ∀ T hc H, ExtG T0 H0 T H → Wd K T hc H → Deps ⟨xs, dep⟩ hc → ∃ vs, SqL K H a vs ∧ RepL K T H xs vs := by
    rcases hd with ⟨e, _⟩ | ⟨e, _⟩ | ⟨i, e, e2⟩
    · subst e
      simp only [Rep] at r
      obtain ⟨a, vs, ev, s, l, rr⟩ := r
      exact ⟨a, ev, fun T hc H e w _ => ⟨vs, (sqF_ext e s).sq, RepL.extG w0 e _ _ rr⟩⟩
    · subst e
      simp only [Rep] at r
      obtain ⟨a, vs, ev, s, l, rr⟩ := r
      exact ⟨a, ev, fun T hc H e w _ => ⟨vs, (sqK_ext w0 e s).sq, RepL.extG w0 e _ _ rr⟩⟩
    · subst e; subst e2
      simp only [Rep] at r
      obtain ⟨a, ev, ha⟩ := r
      refine ⟨a, ev, fun T hc H e w dd => ?_⟩
      have q := dd (i, xs) List.mem_cons_self
      obtain ⟨b, hb, vs, e1, l, rr⟩ := w.obj i _ q
      have := e.get ha
      rw [this] at hb; cases hb
      exact ⟨vs, SqL.of e1, rr⟩
  obtain ⟨a, ev, f⟩ := now
  refine ⟨a, ev, ⟨fun i hi T hc H e w dd => ?_, fun i d hx T hc H e w dd x H' y => ?_, fun T hc H e w dd => ?_⟩, fun _ dd => ?_⟩
  · obtain ⟨vs, s, rr⟩ := f T hc H e w dd
    obtain ⟨z, hz, _⟩ := rr.get (List.getElem?_eq_getElem hi)
    exact ⟨vs, z, s, hz⟩
  · obtain ⟨vs, s, rr⟩ := f T hc H e w dd
    obtain ⟨e1, g⟩ := y
    subst e1
    obtain ⟨z, hz, rz⟩ := rr.get hx
    have := g vs s
    rw [this] at hz; cases hz
    exact ⟨Ext.refl T _, w, rz⟩
  · obtain ⟨vs, s, rr⟩ := f T hc H e w dd
    exact ⟨vs, s, by rw [rr.length]; exact Nat.le_refl _⟩
  · obtain ⟨vs, s, rr⟩ := f T0 hc0 H0 (Ext.refl T0 H0).g w0 dd
    exact ⟨vs, s⟩
theorem itOk_tup {K : PySem.W.Frag} {T0 : Tk} {H0 : Hp} {hc0 : Hc} {v : V} {xs : List D} (w0 : Wd K T0 hc0 H0) (r : Rep K T0 H0 (.tup xs) v) :
    ∃ a, v = .ref a ∧ ItOk K T0 H0 (Itt K a) ⟨xs, []⟩ ∧ ∃ ys, SqT K H0 a ys := by
  simp only [Rep] at r
  obtain ⟨a, vs, ev, s, l, rr⟩ := r
  refine ⟨a, ev, ⟨fun i hi T hc H e w dd => ?_, fun i d hx T hc H e w dd x H' y => ?_, fun T hc H e w dd => ?_⟩, vs, s⟩
  · obtain ⟨z, hz, _⟩ := rr.get (List.getElem?_eq_getElem hi)
    exact ⟨vs, z, sqT_ext w0 e s, hz⟩
  · obtain ⟨e1, g⟩ := y
    subst e1
    obtain ⟨z, hz, rz⟩ := (RepL.extG w0 e _ _ rr).get hx
    have := g vs (sqT_ext w0 e s)
    rw [this] at hz; cases hz
    exact ⟨Ext.refl T _, w, rz⟩
  · exact ⟨vs, sqT_ext w0 e s, by rw [rr.length]; exact Nat.le_refl _⟩
theorem itOk_str {K : PySem.W.Frag} {T0 : Tk} {H0 : Hp} {x : Str} : ItOk K T0 H0 (Its x) ⟨x.cps.toList.map fun c => .str ⟨#[c]⟩, []⟩ := by
  have l : (x.cps.toList.map fun c => D.str ⟨#[c]⟩).length = x.cps.size := by simp
  refine itOk_pure (fun i H h => ?_) (fun i d H z H' hd y => ?_) (fun H => ?_)
  · rw [l] at h; exact h
  · obtain ⟨e1, c, hc, ez⟩ := y
    subst e1; subst ez
    rw [List.getElem?_map, Array.getElem?_toList, hc] at hd
    cases hd
    exact ⟨rfl, _, rfl, rfl⟩
  · show x.cps.size ≤ _
    rw [l]; exact Nat.le_refl _
theorem ci_val {tg : Expr} (ha : CE C X W sc a ma) : CI X W tg a (fun env => bnd (ma env) srcM) := by
  obtain ⟨ta, pa, _, ra⟩ := ha
  refine ⟨_, PI.or (PI.or (pi_list pa) (pi_tup pa)) (pi_str pa), fun T hc H env σ R w er h => ?_⟩
  -- what comes is told by the clean run
  dsimp only [bnd] at h
  cases q : ma env hc with
  | bad => rw [q] at h; exact h.elim
  | exc cc fs hc' =>
    refine .inr (ra T hc H env σ _ w er ?_)
    rw [q] at h ⊢
    exact h
  | ok d hc' =>
    have h' : Post X.K T H (fun s T' H' => ∀ J, ItOk X.K T' H' J s → R J H') (WE W σ) (srcM d hc') := by
      rw [q] at h; exact h
    have lst : (∀ T1 H1 v, Ext T H T1 H1 → Wd X.K T1 hc' H1 → Rep X.K T1 H1 d v → ∃ a', v = .ref a' ∧ (∃ xs, SqL X.K H1 a' xs) ∧ R (Itl X.K a') H1) → (((iList X.K ta σ H R) ∨ iTup X.K ta σ H R) ∨ iStr ta σ H R) := fun f =>
      .inl (.inl (ra T hc H env σ _ w er (by rw [q]; exact fun T1 H1 e1 w1 v r1 => f T1 H1 v e1 w1 r1)))
    cases d with
    | tup xs =>
      refine .inl (.inr (ra T hc H env σ _ w er ?_))
      rw [q]
      intro T1 H1 e1 w1 v r1
      obtain ⟨p, ev, it, s⟩ := itOk_tup w1 r1
      exact ⟨p, ev, s, (Post.ext e1 h').of_pur w1 _ it⟩
    | str x =>
      refine .inr (ra T hc H env σ _ w er ?_)
      rw [q]
      intro T1 H1 e1 w1 v r1
      simp only [Rep] at r1
      exact ⟨x, r1, (Post.ext e1 h').of_pur w1 _ itOk_str⟩
    | fl xs =>
      refine lst fun T1 H1 v e1 w1 r1 => ?_
      obtain ⟨p, ev, it, s⟩ := itOk_list w1 r1 (.inl ⟨rfl, rfl⟩)
      exact ⟨p, ev, s rfl (fun _ h => by cases h), (Post.ext e1 h').of_pur w1 _ it⟩
    | kl xs =>
      refine lst fun T1 H1 v e1 w1 r1 => ?_
      obtain ⟨p, ev, it, s⟩ := itOk_list w1 r1 (.inr (.inl ⟨rfl, rfl⟩))
      exact ⟨p, ev, s rfl (fun _ h => by cases h), (Post.ext e1 h').of_pur w1 _ it⟩
    | ref i =>
      refine lst fun T1 H1 v e1 w1 r1 => ?_
      obtain ⟨xs, p, vs, q2, hp, hv, l, rr, h2⟩ := post_lstAt (okP := fun _ _ _ => True) w1 (Post.ext e1 h')
      obtain ⟨p', ev, it, s⟩ := itOk_list (xs := xs) (dep := [(i, xs)]) w1 r1 (.inr (.inr ⟨i, rfl, rfl⟩))
      exact ⟨p', ev, s rfl (fun z hz => by rw [List.mem_singleton] at hz; subst hz; exact q2), h2.of_pur w1 _ it⟩
    | _ => exact h'.elim
end
end Cl
/-! zip, enumerate; targets; comprehensions. -/
namespace Cl
open PySem PySem.Spec PyProof.Rows L2

theorem setTg_same {tg : Tg} {d : D} {env env' : Env} {hc hc' : Hc} (h : setTg tg d env hc = .ok env' hc') : hc' = hc := by
  cases tg with
  | nm i => simp only [setTg, pur] at h; cases h; rfl
  | tp is =>
    simp only [setTg] at h
    dsimp only [bnd] at h
    cases q : seqM d hc with
    | ok xs h' =>
      rw [q] at h
      have e : h' = hc := by
        cases d <;> simp only [seqM, pur, stuck] at q <;> first | (cases q; rfl) | cases q | exact (lstAt_ok q).2
      subst e
      dsimp only at h
      unfold Cl.guard at h
      split at h
      · cases h; rfl
      · cases h
    | exc _ _ _ => rw [q] at h; cases h
    | bad => rw [q] at h; cases h

section
variable {C : Ck} {G : Gt} {Cs : List D} {k : Nat} {X : Cx} {W : WX} {sc : Scope} {pos : Pos}
variable {a b c e : Expr} {ma mb mc : Env → M D} {es : List Expr} {mA : Env → M (List D)}

/-! ### pairs -/
/-- a list as it stands at each turn -/
theorem list_now {K : PySem.W.Frag} {T0 : Tk} {H0 : Hp} {hc0 : Hc} {d : D} {v : V} {s : Src} {okQ : Src → Tk → Hp → Prop} {exP : XK} (w0 : Wd K T0 hc0 H0) (r : Rep K T0 H0 d v) {α : Type} {f : Src → M α} {okR : α → Tk → Hp → Prop}
    (h : Post K T0 H0 okR exP (bnd (lsrcM d) f hc0)) :
    ∃ s a, v = .ref a ∧ (∀ T hc H, ExtG T0 H0 T H → Wd K T hc H → Deps s hc → ∃ vs, SqL K H a vs ∧ RepL K T H s.items vs) ∧ (∃ vs, SqL K H0 a vs) ∧ Post K T0 H0 okR exP (f s hc0) := by
  cases d with
  | fl xs =>
    simp only [Rep] at r
    obtain ⟨a, vs, ev, s, l, rr⟩ := r
    exact ⟨⟨xs, []⟩, a, ev, fun T hc H e w _ => ⟨vs, (sqF_ext e s).sq, RepL.extG w0 e _ _ rr⟩, ⟨vs, s.sq⟩, h⟩
  | kl xs =>
    simp only [Rep] at r
    obtain ⟨a, vs, ev, s, l, rr⟩ := r
    exact ⟨⟨xs, []⟩, a, ev, fun T hc H e w _ => ⟨vs, (sqK_ext w0 e s).sq, RepL.extG w0 e _ _ rr⟩, ⟨vs, s.sq⟩, h⟩
  | ref i =>
    have h' : Post K T0 H0 okR exP (bnd (lstAt i) (fun xs => f ⟨xs, [(i, xs)]⟩) hc0) := by
      have e : bnd (lsrcM (.ref i)) f = bnd (lstAt i) (fun xs => f ⟨xs, [(i, xs)]⟩) := by
        show bnd (bnd (lstAt i) fun xs => pur ⟨xs, [(i, xs)]⟩) f = _
        rw [bnd_assoc]; rfl
      rw [← e]; exact h
    obtain ⟨xs, a, vs, q, ha, hv, l, rr, h2⟩ := post_lstAt (okP := fun _ _ _ => True) w0 h'
    simp only [Rep] at r
    obtain ⟨a', ev, ha'⟩ := r
    rw [ha] at ha'; cases ha'
    refine ⟨⟨xs, [(i, xs)]⟩, a, ev, fun T hc H e w dd => ?_, ⟨vs, SqL.of hv⟩, h2⟩
    have q := dd (i, xs) List.mem_cons_self
    obtain ⟨b, hb, vs, e1, l, rr⟩ := w.obj i _ q
    have := e.get ha
    rw [this] at hb; cases hb
    exact ⟨vs, SqL.of e1, rr⟩
  | _ => exact h.elim
theorem rep_pair {K : PySem.W.Frag} {T : Tk} {H : Hp} {hc : Hc} (w : Wd K T hc H) {p : Addr} (hp : H p = none) {x y : D} {v u : V} (r : Rep K T H x v) (r' : Rep K T H y u) : Rep K T (upd H p (.tup [v, u])) (.tup [x, y]) (.ref p) :=
  rep_new_tup w hp (RepL.cons r (RepL.cons r' RepL.nil)) (by show 2 ≤ sizeLine; decide +kernel)
theorem ci_zip (g : Gd C G Cs k X W sc) {elts : List Expr} {kk : Nat} {tpos p : Pos} (hv : glB sc ("zip" : Str) = true) (hs : isStar a = false) (hs2 : isStar b = false) (ha : CE C X W sc a ma) (hb : CE C X W sc b mb) :
    CI X W (.Tuple elts kk tpos) (.Call (.Name ("zip" : Str) p) [a, b] [] pos) (fun env => bnd (ma env) fun x => bnd (mb env) fun y => pairM x y) := by
  obtain ⟨ta, pa, _, ra⟩ := ha
  obtain ⟨tb, pb, _, rb⟩ := hb
  refine ⟨_, RZ.pi_zipA (g.gl hv) (g.nb _ (by decide +kernel)) (pa_cons pa (pa_cons pb pa_nil (star1 hs2)) (star1 hs)) (star1 hs) (starAll (by intro y hy; rw [List.mem_singleton] at hy; rw [hy]; exact hs2)), fun T hc H env σ R w er h => ?_⟩
  refine read1 ra w er h fun d T1 hc1 H1 v e1 w1 er1 r1 h1 => ?_
  refine read1 rb w1 er1 h1 fun d2 T2 hc2 H2 u e2 w2 er2 r2 h2 => ?_
  have r1' := Rep.ext w1 e2 _ _ r1
  unfold pairM at h2
  split at h2
  · next xs ys =>
    have h3 := h2.of_pur w2
    simp only [Rep] at r1' r2
    obtain ⟨p1, vs, ev, s, l, rr⟩ := r1'
    obtain ⟨p2, us, eu, s', l', rr'⟩ := r2
    refine ⟨p1, p2, vs, us, by rw [ev, eu], .inr ⟨s, s', h3 _ ⟨fun i hi T hc H e w dd => ?_, fun i d hx T hc H e w dd x H' y => ?_, fun T hc H e w dd => ?_⟩⟩⟩
    · simp only [List.length_map, List.length_zip] at hi
      obtain ⟨z, hz, _⟩ := rr.get (List.getElem?_eq_getElem (show i < xs.length by omega))
      obtain ⟨z', hz', _⟩ := rr'.get (List.getElem?_eq_getElem (show i < ys.length by omega))
      exact ⟨vs, us, z, z', sqT_ext w2 e s, sqT_ext w2 e s', hz, hz'⟩
    · rw [List.getElem?_map] at hx
      cases q : (xs.zip ys)[i]? with
      | none => rw [q] at hx; cases hx
      | some xy =>
        rw [q] at hx; cases hx
        obtain ⟨q1, q2⟩ := List.getElem?_zip_eq_some.mp q
        obtain ⟨t, z, z', ex, ht, eh, f1, f2⟩ := y
        obtain ⟨z1, hz1, rz1⟩ := (RepL.extG w2 e _ _ rr).get q1
        obtain ⟨z2, hz2, rz2⟩ := (RepL.extG w2 e _ _ rr').get q2
        have e3 := f1 vs (sqT_ext w2 e s)
        have e4 := f2 us (sqT_ext w2 e s')
        rw [e3] at hz1; cases hz1
        rw [e4] at hz2; cases hz2
        subst eh; subst ex
        exact ⟨Ext.upd_new ht, w.upd_new ht, rep_pair w ht rz1 rz2⟩
    · refine ⟨vs, us, sqT_ext w2 e s, sqT_ext w2 e s', ?_⟩
      show _ ≤ ((xs.zip ys).map _).length ∨ _
      rw [List.length_map, List.length_zip, rr.length, rr'.length]
      omega
  · next d d2 _ =>
    obtain ⟨s, p1, ev, f, ⟨vs0, s0⟩, h3⟩ := list_now (okQ := fun _ _ _ => True) (s := ⟨[], []⟩) w2 r1' h2
    obtain ⟨t, p2, eu, f', ⟨us0, s0'⟩, h4⟩ := list_now (okQ := fun _ _ _ => True) (s := ⟨[], []⟩) w2 r2 h3
    have h5 := h4.of_pur w2
    refine ⟨p1, p2, vs0, us0, by rw [ev, eu], .inl ⟨s0, s0', h5 _ ⟨fun i hi T hc H e w dd => ?_, fun i d hx T hc H e w dd x H' y => ?_, fun T hc H e w dd => ?_⟩⟩⟩
    · obtain ⟨vs, ss, rr⟩ := f T hc H e w (fun p hp => dd p (List.mem_append_left _ hp))
      obtain ⟨us, ss', rr'⟩ := f' T hc H e w (fun p hp => dd p (List.mem_append_right _ hp))
      simp only [List.length_map, List.length_zip] at hi
      obtain ⟨z, hz, _⟩ := rr.get (List.getElem?_eq_getElem (show i < s.items.length by omega))
      obtain ⟨z', hz', _⟩ := rr'.get (List.getElem?_eq_getElem (show i < t.items.length by omega))
      exact ⟨vs, us, z, z', ss, ss', hz, hz'⟩
    · obtain ⟨vs, ss, rr⟩ := f T hc H e w (fun p hp => dd p (List.mem_append_left _ hp))
      obtain ⟨us, ss', rr'⟩ := f' T hc H e w (fun p hp => dd p (List.mem_append_right _ hp))
      rw [List.getElem?_map] at hx
      cases q : (s.items.zip t.items)[i]? with
      | none => rw [q] at hx; cases hx
      | some xy =>
        rw [q] at hx; cases hx
        obtain ⟨q1, q2⟩ := List.getElem?_zip_eq_some.mp q
        obtain ⟨t, z, z', ex, ht, eh, f1, f2⟩ := y
        obtain ⟨z1, hz1, rz1⟩ := rr.get q1
        obtain ⟨z2, hz2, rz2⟩ := rr'.get q2
        have e3 := f1 vs ss
        have e4 := f2 us ss'
        rw [e3] at hz1; cases hz1
        rw [e4] at hz2; cases hz2
        subst eh; subst ex
        exact ⟨Ext.upd_new ht, w.upd_new ht, rep_pair w ht rz1 rz2⟩
    · obtain ⟨vs, ss, rr⟩ := f T hc H e w (fun p hp => dd p (List.mem_append_left _ hp))
      obtain ⟨us, ss', rr'⟩ := f' T hc H e w (fun p hp => dd p (List.mem_append_right _ hp))
      refine ⟨vs, us, ss, ss', ?_⟩
      show _ ≤ ((s.items.zip t.items).map _).length ∨ _
      rw [List.length_map, List.length_zip, rr.length, rr'.length]
      omega
theorem ci_enm (g : Gd C G Cs k X W sc) {elts : List Expr} {kk : Nat} {tpos p : Pos} (hv : glB sc ("enumerate" : Str) = true) (hs : isStar a = false) (ha : CE C X W sc a ma) :
    CI X W (.Tuple elts kk tpos) (.Call (.Name ("enumerate" : Str) p) [a] [] pos) (fun env => bnd (ma env) fun x => bnd (lsrcM x) fun s => pur ⟨(s.items.zipIdx).map fun p => .tup [.int (p.2 : Nat), p.1], s.dep⟩) := by
  obtain ⟨ta, pa, _, ra⟩ := ha
  refine ⟨_, pi_enum (g.gl hv) (g.nb _ (by decide +kernel)) (pa_cons pa pa_nil (star1 hs)) (star1 hs), fun T hc H env σ R w er h => ?_⟩
  refine read1 ra w er h fun d T1 hc1 H1 v e1 w1 er1 r1 h1 => ?_
  obtain ⟨s, p1, ev, f, ⟨vs0, s0⟩, h3⟩ := list_now (okQ := fun _ _ _ => True) (s := ⟨[], []⟩) w1 r1 h1
  have h5 := h3.of_pur w1
  refine ⟨p1, vs0, by rw [ev], s0, h5 _ ⟨fun i hi T hc H e w dd => ?_, fun i d hx T hc H e w dd x H' y => ?_, fun T hc H e w dd => ?_⟩⟩
  · obtain ⟨vs, ss, rr⟩ := f T hc H e w dd
    simp only [List.length_map, List.length_zipIdx] at hi
    obtain ⟨z, hz, _⟩ := rr.get (List.getElem?_eq_getElem hi)
    exact ⟨vs, z, ss, hz⟩
  · obtain ⟨vs, ss, rr⟩ := f T hc H e w dd
    rw [List.getElem?_map, List.getElem?_zipIdx] at hx
    cases q : s.items[i]? with
    | none => rw [q] at hx; cases hx
    | some xy =>
      rw [q] at hx
      simp only [Option.map_some, Option.some.injEq] at hx
      subst hx
      obtain ⟨t, z, ex, ht, eh, f1⟩ := y
      obtain ⟨z1, hz1, rz1⟩ := rr.get q
      have e3 := f1 vs ss
      rw [e3] at hz1; cases hz1
      subst eh; subst ex
      refine ⟨Ext.upd_new ht, w.upd_new ht, rep_pair w ht ?_ rz1⟩
      simp only [Rep, Nat.zero_add]
  · obtain ⟨vs, ss, rr⟩ := f T hc H e w dd
    refine ⟨vs, ss, ?_⟩
    show _ ≤ ((s.items.zipIdx).map _).length
    rw [List.length_map, List.length_zipIdx, rr.length]; exact Nat.le_refl _

/-! ### targets -/
theorem eachNames {env : PySem.Env} : ∀ {es : List Expr}, (∀ e ∈ es, isStar e = false) → (assignEach es env).length = es.length ∧ (assignEach es env).findIdx? (·.1) = none
  | [], _ => ⟨rfl, rfl⟩
  | e :: es, h => by
    have h1 := h e List.mem_cons_self
    obtain ⟨i1, i2⟩ := eachNames (env := env) (es := es) fun x hx => h x (List.mem_cons_of_mem _ hx)
    have e1 : assignEach (e :: es) env = (false, assign e env) :: assignEach es env := by
      cases e <;> first | rfl | (simp [isStar] at h1)
    rw [e1]
    refine ⟨by rw [List.length_cons, List.length_cons, i1], ?_⟩
    rw [List.findIdx?_cons, i2]; rfl
theorem eachCons {env : PySem.Env} {e : Expr} {es : List Expr} (h1 : isStar e = false) : (assignEach (e :: es) env).map (·.2) = assign e env :: (assignEach es env).map (·.2) := by
  cases e <;> first | rfl | (simp [isStar] at h1)
/-- the names of a target, set one after another -/
theorem pgs_names (g : Gd C G Cs k X W sc) {own : Nat → Bool} : ∀ {is : List Nat} {es : List Expr}, chkTg.chkTs C sc own is es = true →
    (∀ e ∈ es, isStar e = false) ∧ es.length = is.length ∧ ∃ t, PGs X es t ∧ ∀ (vs : List V) σ H (Q : L2.St → Hp → Prop), vs.length = is.length → Q ((is.zip vs).foldl (fun s p => s.set p.1 (some p.2)) σ) H → t vs σ H Q
  | [], [], _ => ⟨fun _ h => (by cases h), rfl, _, pgs_nil, fun vs σ H Q l q => ⟨List.eq_nil_of_length_eq_zero l, q⟩⟩
  | i :: is, e :: es, h => by
    cases e with
    | Name x p =>
      simp only [chkTg.chkTs, Bool.and_eq_true, decide_eq_true_eq] at h
      obtain ⟨⟨⟨h1, h2⟩, h3⟩, h4⟩ := h
      obtain ⟨st, l, t, pt, rt⟩ := pgs_names g h4
      refine ⟨fun e he => ?_, by rw [List.length_cons, List.length_cons, l], _, pgs_cons (pg_name (i := i) g.nd (by rw [g.N]; exact h1) (g.lo h2) (g.loc x h2)) pt (eachCons rfl), fun vs σ H Q l' q => ?_⟩
      · rcases List.mem_cons.mp he with z | z
        · rw [z]; rfl
        · exact st e z
      · cases vs with
        | nil => cases l'
        | cons v vs => exact ⟨v, vs, rfl, rt vs _ H Q (by simpa using l') q⟩
    | _ => simp [chkTg.chkTs] at h
  | [], _ :: _, h => by simp [chkTg.chkTs] at h
  | _ :: _, [], h => by simp [chkTg.chkTs] at h
theorem foldSet {K : PySem.W.Frag} {T : Tk} {H : Hp} : ∀ {is : List Nat} {xs : List D} {vs : List V} {env : Env} {σ : L2.St}, EnvR K T H env σ → RepL K T H xs vs →
    EnvR K T H ((is.zip xs).foldl (fun e p => e.set p.1 (some p.2)) env) ((is.zip vs).foldl (fun s p => s.set p.1 (some p.2)) σ)
  | [], _, _, _, _, er, _ => by simpa using er
  | i :: is, [], vs, env, σ, er, r => by simp only [RepL] at r; subst r; simpa using er
  | i :: is, x :: xs, vs, env, σ, er, r => by
    simp only [RepL] at r
    obtain ⟨v, t, e, a, b⟩ := r
    subst e
    simp only [List.zip_cons_cons, List.foldl_cons]
    exact foldSet (er.set a) b
theorem foldWipe {own : List Nat} : ∀ {is : List Nat} {vs : List V} {σ : L2.St}, (∀ i ∈ is, i ∈ own) → L2.wipe ((is.zip vs).foldl (fun s p => s.set p.1 (some p.2)) σ) own = L2.wipe σ own
  | [], _, _, _ => rfl
  | i :: is, [], σ, _ => rfl
  | i :: is, v :: vs, σ, h => by
    simp only [List.zip_cons_cons, List.foldl_cons]
    rw [foldWipe fun j hj => h j (List.mem_cons_of_mem _ hj), set_wipe (h i List.mem_cons_self)]
theorem tgOwn {own : Nat → Bool} {tg : Tg} {e : Expr} (h : chkTg C sc own tg e = true) : ∀ i ∈ tgSlots tg, own i = true := by
  cases tg with
  | nm i =>
    cases e <;> simp [chkTg] at h
    intro j hj
    simp only [tgSlots, List.mem_singleton] at hj
    subst hj; exact h.2
  | tp is =>
    cases e <;> simp [chkTg] at h
    next es _ _ =>
    have : ∀ {is : List Nat} {es : List Expr}, chkTg.chkTs C sc own is es = true → ∀ i ∈ is, own i = true := by
      intro is
      induction is with
      | nil => intro es _ i hi; cases hi
      | cons j is ih =>
        intro es h i hi
        cases es with
        | nil => simp [chkTg.chkTs] at h
        | cons e es =>
          cases e <;> simp [chkTg.chkTs] at h
          rcases List.mem_cons.mp hi with z | z
          · rw [z]; exact h.1.2
          · exact ih h.2 i z
    exact this h.2
theorem cg_tg (g : Gd C G Cs k X W sc) {own : Nat → Bool} {tg : Tg} {e : Expr} (h : chkTg C sc own tg e = true) : CG X W tg e := by
  cases tg with
  | nm i =>
    cases e with
    | Name x p =>
      simp only [chkTg, Bool.and_eq_true, decide_eq_true_eq] at h
      refine ⟨_, pg_name (i := i) g.nd (by rw [g.N]; exact h.1.1) (g.lo h.1.2) (g.loc x h.1.2), fun T hc H env σ d v Q w er r q => ?_⟩
      exact q _ (er.set r) fun own ho => set_wipe (ho i (by simp [tgSlots]))
    | _ => simp [chkTg] at h
  | tp is =>
    cases e with
    | Tuple es k2 p =>
      simp only [chkTg, Bool.and_eq_true] at h
      obtain ⟨hcm, h⟩ := h
      obtain ⟨st, l, t, pt, rt⟩ := pgs_names g h
      obtain ⟨n1, n2⟩ := eachNames (env := X.env) st
      refine ⟨_, PG.or (pg_tup (g.calm hcm) pt (n1.trans l) n2) (pg_lst (g.calm hcm) pt (n1.trans l) n2), fun T hc H env σ d v Q w er r q => ?_⟩
      simp only [setTg] at q
      dsimp only [bnd] at q
      cases z : seqM d hc with
      | ok xs h' =>
        rw [z] at q
        dsimp only [Cl.guard] at q
        by_cases hl : xs.length = is.length
        · rw [if_pos hl] at q
          dsimp only [pur] at q
          have p1 : Post X.K T H (fun (_ : List D) (_ : Tk) (_ : Hp) => True) (fun _ _ _ => True) (bnd (seqM d) pur hc) := by
            dsimp only [bnd]; rw [z]; exact fun _ _ _ _ => trivial
          obtain ⟨ys, p', vs, ev, s, sl, stt, lv, rr, _, zz⟩ := post_seq w r p1
          rw [z] at zz; cases zz
          have q' := q ((is.zip vs).foldl (fun s p => s.set p.1 (some p.2)) σ) (foldSet er rr) (fun own ho => foldWipe (fun i hi => ho i hi))
          have lv2 : vs.length = is.length := by rw [rr.length, hl]
          by_cases c : ∃ ys, d = .tup ys
          · obtain ⟨ys, e⟩ := c
            exact .inl ⟨p', vs, ev, (stt ys e).1, lv2, rt vs σ H Q lv2 q'⟩
          · exact .inr ⟨p', vs, ev, sl (fun ys e => c ⟨ys, e⟩), lv2, rt vs σ H Q lv2 q'⟩
        · rw [if_neg hl] at q; exact q.elim
      | exc _ _ _ => rw [z] at q; exact q.elim
      | bad => rw [z] at q; exact q.elim
    | _ => simp [chkTg] at h

/-! ### judgements with one reading for all contexts -/
def tClE (K : PySem.W.Frag) (W : WX) (m : Env → M D) : TE := fun σ H Q => ∃ T hc env, Wd K T hc H ∧ EnvR K T H env σ ∧ Post K T H (fun d T' H' => ∀ v, Rep K T' H' d v → Q v H') (WE W σ) (m env hc)
def tClT (K : PySem.W.Frag) (W : WX) (m : Env → M Bool) : TT := fun σ H Q => ∃ T hc env, Wd K T hc H ∧ EnvR K T H env σ ∧ Post K T H (fun k _ H' => Q k H') (WE W σ) (m env hc)
def tClG (K : PySem.W.Frag) (tg : Tg) : TG := fun v σ H Q => ∃ T hc env d, Wd K T hc H ∧ EnvR K T H env σ ∧ Rep K T H d v ∧ (match setTg tg d env hc with
      | .ok env' _ => ∀ σ', EnvR K T H env' σ' → (∀ own, (∀ i ∈ tgSlots tg, i ∈ own) → L2.wipe σ' own = L2.wipe σ own) → Q σ' H
      | _ => False)
theorem CE.cl {m : Env → M D} (h : CE C X W sc e m) : PE X e (tClE X.K W m) := by
  obtain ⟨t, p, _, r⟩ := h
  exact ⟨fun pins s σ H Q I ⟨T, hc, env, w, er, q⟩ => p.run pins s σ H Q I (r T hc H env σ Q w er q)⟩
theorem CT.cl {m : Env → M Bool} (h : CT X W e m) : PT X e (tClT X.K W m) := by
  obtain ⟨t, p, r⟩ := h
  exact ⟨fun pins s σ H Q I ⟨T, hc, env, w, er, q⟩ => p.run pins s σ H Q I (r T hc H env σ Q w er q)⟩
theorem CG.cl {tg : Tg} (h : CG X W tg e) : PG X e (tClG X.K tg) := by
  obtain ⟨t, p, r⟩ := h
  exact ⟨fun pins s σ H v u Q I rv ⟨T, hc, env, d, w, er, rd, q⟩ => p.run pins s σ H v u Q I rv (r T hc H env σ d v Q w er rd q)⟩
end
end Cl
/-! Comprehensions. -/
namespace Cl
open PySem PySem.Spec PyProof.Rows L2

abbrev W0 : WX := fun _ _ _ _ => False
theorem relab_keep {env : PySem.Env} : ∀ {names : List (Str × NameKind)} {x : Str} {k : NameKind}, k ≠ .free → names.lookup x = some k →
    (names.map fun (n, k) => if (k == NameKind.free && env.scope.kind == .function && env.kindOf n == some .cell) then (n, NameKind.cell) else (n, k)).lookup x = some k
  | [], x, k, _, h => by simp at h
  | (n, k') :: r, x, k, hk, h => by
    have ih := @relab_keep env r x k hk
    show List.lookup x ((if (k' == NameKind.free && env.scope.kind == .function && env.kindOf n == some .cell) = true then (n, NameKind.cell) else (n, k')) :: _) = _
    cases hx : x == n with
    | true =>
      simp only [List.lookup_cons, hx] at h
      cases h
      have : (k' == NameKind.free) = false := by
        cases k' <;> first | rfl | exact absurd rfl hk
      simp [List.lookup_cons, hx, this]
    | false =>
      simp only [List.lookup_cons, hx] at h
      by_cases hc : (k' == NameKind.free && env.scope.kind == .function && env.kindOf n == some .cell) = true
      · rw [if_pos hc]; simp only [List.lookup_cons, hx]; exact ih h
      · rw [if_neg hc]; simp only [List.lookup_cons, hx]; exact ih h
theorem relab_free {env : PySem.Env} : ∀ {names : List (Str × NameKind)} {x : Str}, names.lookup x = some .free →
    (names.map fun (n, k) => if (k == NameKind.free && env.scope.kind == .function && env.kindOf n == some .cell) then (n, NameKind.cell) else (n, k)).lookup x = some .free ∨
    (names.map fun (n, k) => if (k == NameKind.free && env.scope.kind == .function && env.kindOf n == some .cell) then (n, NameKind.cell) else (n, k)).lookup x = some .cell
  | [], x, h => by simp at h
  | (n, k') :: r, x, h => by
    have ih := @relab_free env r x
    show List.lookup x ((if (k' == NameKind.free && env.scope.kind == .function && env.kindOf n == some .cell) = true then (n, NameKind.cell) else (n, k')) :: _) = _ ∨ List.lookup x ((if (k' == NameKind.free && env.scope.kind == .function && env.kindOf n == some .cell) = true then (n, NameKind.cell) else (n, k')) :: _) = _
    by_cases hc : (k' == NameKind.free && env.scope.kind == .function && env.kindOf n == some .cell) = true
    · rw [if_pos hc]
      cases hx : x == n with
      | true => simp [List.lookup_cons, hx]
      | false =>
        simp only [List.lookup_cons, hx] at h ⊢
        exact ih h
    · rw [if_neg hc]
      cases hx : x == n with
      | true => simp only [List.lookup_cons, hx] at h ⊢; exact .inl h
      | false =>
        simp only [List.lookup_cons, hx] at h ⊢
        exact ih h
section
variable {C : Ck} {G : Gt} {Cs : List D} {k : Nat} {X : Cx} {W : WX} {sc : Scope} {pos : Pos}
theorem scr_blk {env : PySem.Env} {scope : Scope} {cl : List (Str × Addr)} {Cc : Addr} (hk : scope.kind = .function) : ScR (compEnvC scope cl Cc env).scope scope :=
  ⟨hk, fun x k h n => relab_keep n h, fun x h => relab_free h⟩
theorem Gd.blk (g : Gd C G Cs k X W sc) (hcm : C.cm = true) {scope : Scope} (hk : scope.kind = .function) (s : Shared) (H : Hp) (Cc : Addr) (cl : List (Str × Addr)) (fp : List Addr) :
    Gd C G Cs k (X.blk s H scope (compEnvC scope cl Cc X.env) fp) W0 scope where
  N := g.N
  nd := g.nd
  calm := g.calm
  tk := fun u s' h => by obtain ⟨_, _, _, _, _, _, _, _, _, _, _, _, _, _, _, _, f⟩ := h; exact f
  rm := g.rm
  scr := scr_blk hk
  loc := fun x h => by
    unfold locB at h
    split at h
    · next q => exact .inr (relab_keep (by decide) q)
    · next q => exact .inl (by show (scope.names.lookup x == some .cell) = true; rw [q]; rfl)
    · cases h
  nb := g.nb
  fs := g.fs
  cf := g.cf
  xn := g.xn
  xa := fun a _ _ _ _ _ z => by rw [g.xn hcm] at z; cases z
theorem ownOf_snd (N : List Str) (own : List Nat) : (ownOf N own).map (·.2) = own := by
  unfold ownOf
  rw [List.map_map]
  exact List.map_id _
theorem Gd.blkOk (g : Gd C G Cs k X W sc) {scope : Scope} {own : List Nat} (h : blkC C.N sc scope (ownOf C.N own) = true) : BlkOk X.N X.env.scope scope (ownOf C.N own) := by
  have b := blkOk_by h
  rw [g.N]
  refine ⟨b.kind, b.uniq, b.ix, fun y hy hf => ?_, b.own⟩
  rcases b.free y hy hf with z | z
  · exact .inl (g.scr.same _ _ z (by decide))
  · rcases g.scr.free _ z with q | q
    · exact .inr q
    · exact .inl q
/-- what a turn of a comprehension asks: its tests, its element -/
def FOk (X : Cx) (scope : Scope) (elt : Expr) (cs : List Expr) (mf : Env → M (Option D)) : Prop :=
  ∃ tt te, (∀ (s : Shared) (H : Hp) (Cc : Addr) (cl : List (Str × Addr)) (fp : List Addr), PTs (X.blk s H scope (compEnvC scope cl Cc X.env) fp) cs tt ∧ PE (X.blk s H scope (compEnvC scope cl Cc X.env) fp) elt te) ∧
    ∀ T hc H env σ (A : VK) (B : Hp → Prop), Wd X.K T hc H → EnvR X.K T H env σ → Post X.K T H (fun o T' H' => match o with
      | some d => ∀ v, Rep X.K T' H' d v → A v H'
      | none => B H') (WE W0 σ) (mf env hc) → tt σ H fun b H3 => if b = true then te σ H3 A else B H3
theorem fok_nil {scope : Scope} {elt : Expr} {me : Env → M D} (he : ∀ (s : Shared) (H : Hp) (Cc : Addr) (cl : List (Str × Addr)) (fp : List Addr), CE C (X.blk s H scope (compEnvC scope cl Cc X.env) fp) W0 scope elt me) :
    FOk X scope elt [] (fun e => bnd (me e) fun d => pur (some d)) := by
  refine ⟨tYes, tClE X.K W0 me, fun s H Cc cl fp => ⟨pts_nil, (he s H Cc cl fp).cl⟩, fun T hc H env σ A B w er h => ?_⟩
  show (if true = true then tClE X.K W0 me σ H A else B H)
  rw [if_pos rfl]
  refine ⟨T, hc, env, w, er, Post.imp (Post.bind h) fun d T' H' e p v r => ?_⟩
  obtain ⟨hc', _, w', p⟩ := p
  exact p.of_pur w' v r
theorem fok_one {scope : Scope} {elt c : Expr} {me : Env → M D} {mt : Env → M Bool} (he : ∀ (s : Shared) (H : Hp) (Cc : Addr) (cl : List (Str × Addr)) (fp : List Addr), CE C (X.blk s H scope (compEnvC scope cl Cc X.env) fp) W0 scope elt me)
    (ht : ∀ (s : Shared) (H : Hp) (Cc : Addr) (cl : List (Str × Addr)) (fp : List Addr), CT (X.blk s H scope (compEnvC scope cl Cc X.env) fp) W0 c mt) :
    FOk X scope elt [c] (fun e => bnd (mt e) fun k => if k = true then bnd (me e) fun d => pur (some d) else pur none) := by
  refine ⟨tClT X.K W0 mt, tClE X.K W0 me, fun s H Cc cl fp => ⟨pts_one (ht s H Cc cl fp).cl, (he s H Cc cl fp).cl⟩, fun T hc H env σ A B w er h => ?_⟩
  refine ⟨T, hc, env, w, er, Post.imp (Post.bind h) fun b T' H' e p => ?_⟩
  obtain ⟨hc', e', w', p⟩ := p
  cases b with
  | false => exact p.of_pur w'
  | true =>
    refine ⟨T', hc', env, w', er.ext w e', Post.imp (Post.bind p) fun d T' H' e p v r => ?_⟩
    obtain ⟨hc', _, w', p⟩ := p
    exact p.of_pur w' v r
theorem setOf_iter {iter : Expr} (h : notSet iter = true) {env : PySem.Env} (x : Value) : foldedSetIterable iter env x = pure x := by
  cases iter <;> first | rfl | (simp [notSet] at h)
theorem calmly_ok {α : Type} {m : M α} {h h' : Hc} {a : α} (e : m h = .ok a h') : calmly m h = .ok a h' := by unfold calmly; rw [e]
theorem post_calmly {α : Type} {K : PySem.W.Frag} {T : Tk} {H : Hp} {m : M α} {hc : Hc} {okQ : α → Tk → Hp → Prop} {exP : XK} (h : Post K T H okQ exP (calmly m hc)) : ∃ a hc', m hc = .ok a hc' ∧ Post K T H okQ exP (.ok a hc') := by
  unfold calmly at h
  cases q : m hc with
  | ok a h' => rw [q] at h; exact ⟨a, h', rfl, h⟩
  | exc _ _ _ => rw [q] at h; exact h.elim
  | bad => rw [q] at h; exact h.elim
theorem upd_twice {H : Hp} {p : Addr} {o u : HO} : upd (without H p) p o = upd H p o := by
  funext b
  by_cases e : b = p
  · subst e; rw [upd_same, upd_same]
  · rw [upd_ne e, upd_ne e, without_ne e]
theorem without_upd {H : Hp} {p : Addr} {o : HO} : without (upd H p o) p = without H p := by
  funext b
  by_cases e : b = p
  · subst e; rw [without_same, without_same]
  · rw [without_ne e, without_ne e, upd_ne e]
theorem extG_hide {T1 T : Tk} {H1 H : Hp} {D : Addr} (hD : H1 D = none) (e : Ext T1 H1 T (without H D)) : ExtG T1 H1 (T.hide D) H := by
  refine ⟨e.pre, fun b hb => ?_, e.al, fun b o h n => ?_, fun b hb => ?_⟩
  · rcases List.mem_cons.mp hb with z | z
    · subst z; exact .inr (.inr hD)
    · exact .inl (by rw [← e.gh]; exact z)
  · have nb : b ≠ D := ne_of_none h hD
    have := e.fr b o h n
    rw [without_ne nb] at this
    exact this
  · exact e.new b hb
theorem depOk_ok {α : Type} {dep : List (Nat × List D)} {m : M α} {h h' : Hc} {a : α} (e : depOk dep m h = .ok a h') : (∀ p ∈ dep, h[p.1]? = some (.lst p.2)) ∧ m h = .ok a h' := by
  unfold depOk at e
  split at e
  · next q => exact ⟨q, e⟩
  · cases e
theorem bnd_ok {α β : Type} {m : M α} {f : α → M β} {h h' : Hc} {b : β} (e : bnd m f h = .ok b h') : ∃ a h1, m h = .ok a h1 ∧ f a h1 = .ok b h' := by
  unfold bnd at e
  cases q : m h with
  | ok a h1 => rw [q] at e; exact ⟨a, h1, rfl, e⟩
  | exc _ _ _ => rw [q] at e; cases e
  | bad => rw [q] at e; cases e

theorem cn_comp (g : Gd C G Cs k X W sc) (hcm : C.cm = true) {elt tgt iter : Expr} {cs : List Expr} {scope : Scope} {own : List Nat} {tg : Tg} {mi : Env → M Src} {mf : Env → M (Option D)}
    (hb : blkC C.N sc scope (ownOf C.N own) = true) (htg : chkTg C scope (fun i => own.contains i) tg tgt = true) (hns : notSet iter = true) (hi : CI X W tgt iter mi) (hf : FOk X scope elt cs mf) :
    CN C X W sc (.ListComp elt [⟨tgt, iter, cs, 0⟩] scope pos) (fun env => bnd (mi env) fun s => guard (s.items.length ≤ sizeLine) (calmly (compL tg (wipeE env own) s.dep mf s.items))) := by
  obtain ⟨wi, pi, ri⟩ := hi
  obtain ⟨tt, te, pf, rf⟩ := hf
  have bk := g.blkOk hb
  have hk : scope.kind = .function := bk.kind
  have hg : ∀ (s : Shared) (H : Hp) (Cc : Addr) (cl : List (Str × Addr)) (fp : List Addr), PG (X.blk s H scope (compEnvC scope cl Cc X.env) fp) tgt (tClG X.K tg) := fun s H Cc cl fp => (cg_tg (g.blk hcm hk s H Cc cl fp) htg).cl
  have hown := tgOwn htg
  refine ⟨_, pe_lc (g.calm hcm) g.nd pi bk hg (fun s H Cc cl fp => (pf s H Cc cl fp).1) (fun s H Cc cl fp => (pf s H Cc cl fp).2) (fun x => setOf_iter hns x), fun i y py p hN go => ?_, fun T hc H env σ Q w er h => ?_⟩
  · simp only [goesOwn, Bool.and_eq_true, Bool.not_eq_true'] at go
    obtain ⟨⟨g1, g2⟩, g3⟩ := go
    exact ps_setLc (g.calm hcm) g.nd hN (g.locl g1) (sw_true g.scr.kind (g.locl g1) g2 g3) pi bk hg (fun s H Cc cl fp => (pf s H Cc cl fp).1) (fun s H Cc cl fp => (pf s H Cc cl fp).2) (fun x => setOf_iter hns x)
  · rw [ownOf_snd]
    refine ri T hc H env σ _ w er (Post.imp (Post.bind h) fun s T1 H1 e1 p J it D hD => ?_)
    obtain ⟨hc1, _, w1, h1⟩ := p
    have er1 : EnvR X.K T1 H1 env σ := er.ext w e1
    obtain ⟨hlen, h1⟩ := Post.of_guard h1
    obtain ⟨ds, hcF, run, hQ⟩ := post_calmly h1
    have nk : D ∉ T1.κ := w1.none_gh hD
    have nα : ¬ T1.α D := w1.none_al hD
    -- the invariant
    refine ⟨fun i m Hx => i + m = s.items.length ∧ ∃ (T : Tk) (hc : Hc) (done rest : List Cl.D) (vs : List V), Hx D = some (.lst vs) ∧ Ext T1 H1 T (without Hx D) ∧ Wd X.K T hc (without Hx D) ∧ RepL X.K T (without Hx D) done vs ∧ done.length ≤ i ∧
      compL tg (wipeE env own) s.dep mf (s.items.drop i) hc = .ok rest hcF ∧ ds = done ++ rest, ⟨s.items.length, by omega, T1, hc1, [], ds, [], upd_same, ?_, ?_, RepL.nil, Nat.le_refl _, run, rfl⟩, fun i m Hx hW => ?_⟩
    · rw [without_upd]
      refine ⟨⟨[], by simp⟩, rfl, rfl, fun b o hb _ => by rw [without_ne (ne_of_none hb hD)]; exact hb, fun b hb => .inl hb⟩
    · have e0 : without (upd H1 D (.lst [])) D = H1 := by
        rw [without_upd]
        funext b
        by_cases z : b = D
        · subst z; rw [without_same, hD]
        · rw [without_ne z]
      rw [e0]; exact w1
    · obtain ⟨em, T2, hc2, done, rest, vs, hx, e2, w2, rd, ld, run2, eds⟩ := hW
      have e3 : ExtG T1 H1 (T2.hide D) Hx := extG_hide hD e2
      have eHx : upd (without Hx D) D (.lst vs) = Hx := upd_without hx
      have w3 : Wd X.K (T2.hide D) hc2 Hx := by
        have := w2.hide (p := D) (xs := vs) without_same
        rw [eHx] at this; exact this
      have nk2 : D ∉ T2.κ := by rw [e2.gh]; exact nk
      have nα2 : ¬ T2.α D := by rw [e2.al]; exact nα
      by_cases hlt : i < s.items.length
      · have hdrop : s.items.drop i = s.items[i] :: s.items.drop (i + 1) := (List.drop_eq_getElem_cons hlt)
        rw [hdrop] at run2
        unfold compL at run2
        obtain ⟨dd, run3⟩ := depOk_ok run2
        obtain ⟨env1, hc3, st, run4⟩ := bnd_ok run3
        have es := setTg_same st
        rw [es] at st run4
        clear es
        obtain ⟨o, hc4, ft, run5⟩ := bnd_ok run4
        obtain ⟨rest', hc5, ct, run6⟩ := bnd_ok run5
        have run7 : Res.ok _ hc5 = Res.ok rest hcF := run6
        cases run7
        refine .inr ⟨it.go i hlt (T2.hide D) hc2 Hx e3 w3 dd, fun H' => ∃ (T : Tk) (hc : Hc) (done rest : List Cl.D) (vs : List V), H' D = some (.lst vs) ∧ Ext T1 H1 T (without H' D) ∧ Wd X.K T hc (without H' D) ∧ RepL X.K T (without H' D) done vs ∧ done.length ≤ i + 1 ∧
          compL tg (wipeE env own) s.dep mf (s.items.drop (i + 1)) hc = .ok rest hcF ∧ ds = done ++ rest, fun H' hn => ⟨m - 1, by omega, by omega, hn⟩, fun x H' y => ?_⟩
        obtain ⟨e4, w4, rx⟩ := it.yld i _ (List.getElem?_eq_getElem hlt) (T2.hide D) hc2 Hx e3 w3 dd x H' y
        have hx4 : H' D = some (.lst vs) := e4.fr D _ hx (w3.gh D List.mem_cons_self).1
        have er4 : EnvR X.K (T2.hide D) H' (wipeE env own) (L2.wipe σ own) := ((EnvR.extG w1 e3 er1).ext w3 e4).wipe own
        refine ⟨T2.hide D, hc2, wipeE env own, _, w4, er4, rx, ?_⟩
        rw [st]
        intro σ' er5 hw
        have hww : L2.wipe σ' own = L2.wipe σ own := by
          rw [hw own (fun j hj => by simpa using hown j hj)]
          have : ∀ (vs : List Nat) (σ : L2.St), L2.wipe (L2.wipe σ vs) vs = L2.wipe σ vs := by
            intro vs σ
            apply List.ext_getElem?
            intro j
            cases q : (L2.wipe σ vs)[j]? with
            | none =>
              rw [List.getElem?_eq_none_iff] at q ⊢
              rw [wipe_length]; exact q
            | some o =>
              by_cases hm : j ∈ vs
              · have hj : j < (L2.wipe σ vs).length := by
                  rcases Nat.lt_or_ge j (L2.wipe σ vs).length with z | z
                  · exact z
                  · rw [List.getElem?_eq_none_iff.mpr z] at q; cases q
                have wn : ∀ (τ : L2.St), j < τ.length → (L2.wipe τ vs)[j]? = some none := by
                  intro τ ht
                  cases q2 : (L2.wipe τ vs)[j]? with
                  | none => rw [List.getElem?_eq_none_iff, wipe_length] at q2; omega
                  | some z =>
                    cases z with
                    | none => rfl
                    | some z => exact absurd hm (wipe_some q2).2
                rw [wn _ hj]
                rw [wipe_length] at hj
                rw [wn _ hj] at q
                exact q
              · rw [wipe_out hm]; exact q
          exact this own σ
        refine ⟨hww, ?_⟩
        refine rf (T2.hide D) hc2 H' env1 σ' _ _ w4 er5 ?_
        rw [ft]
        intro T5 H5 e5 w5
        have hx5 : H5 D = some (.lst vs) := e5.fr D _ hx4 (w4.gh D List.mem_cons_self).1
        -- the exact form of T5
        have eT5 : T5 = (Tk.mk T5.ρ T2.κ T2.α).hide D := by
          have h1 : T5.κ = D :: T2.κ := e5.gh.trans e4.gh
          have h2 : T5.α = T2.α := e5.al.trans e4.al
          cases T5
          simp only at h1 h2
          subst h1; subst h2; rfl
        have e6 : Ext T2 (without Hx D) (Tk.mk T5.ρ T2.κ T2.α) (without H5 D) := by
          refine Ext.bare (o := .lst vs) without_same ?_
          rw [eHx, ← eT5]
          exact e4.trans e5
        have w6 : Wd X.K (Tk.mk T5.ρ T2.κ T2.α) hc4 (without H5 D) := by
          rw [eT5] at w5
          exact w5.bare hx5 nα2 nk2
        have rd6 : RepL X.K (Tk.mk T5.ρ T2.κ T2.α) (without H5 D) done vs := RepL.ext w2 e6 _ _ rd
        have lv : vs.length = done.length := rd.length
        cases o with
        | none =>
          exact ⟨Tk.mk T5.ρ T2.κ T2.α, hc4, done, rest', vs, hx5, e2.trans e6, w6, rd6, by omega, ct, eds⟩
        | some d =>
          intro v rv
          have rv6 : Rep X.K (Tk.mk T5.ρ T2.κ T2.α) (without H5 D) d v := by
            rw [eT5] at rv
            exact Rep.bare (T := Tk.mk T5.ρ T2.κ T2.α) hx5 nα2 _ _ rv
          refine ⟨vs, hx5, by omega, Tk.mk T5.ρ T2.κ T2.α, hc4, done ++ [d], rest', vs ++ [v], upd_same, ?_, ?_, ?_, by rw [List.length_append]; show done.length + 1 ≤ i + 1; omega, ct, by rw [eds]; simp⟩
          · rw [without_upd]; exact e2.trans e6
          · rw [without_upd]; exact w6
          · rw [without_upd]; exact rd6.append (RepL.cons rv6 RepL.nil)
      · have hi' : i = s.items.length := by omega
        subst hi'
        rw [List.drop_length] at run2
        unfold compL at run2
        obtain ⟨dd, run3⟩ := depOk_ok run2
        have run7 : Res.ok _ hc2 = Res.ok rest hcF := run3
        cases run7
        refine .inl ⟨it.stop (T2.hide D) _ Hx e3 w3 dd, ?_⟩
        rw [List.append_nil] at eds
        subst eds
        have := hQ T2 (without Hx D) e2 w2 D vs without_same rd (by rw [rd.length]; omega)
        rw [eHx] at this
        exact this
end
end Cl
/-! t[::-1], xs.extend(ys). -/
namespace Cl
open PySem PySem.Spec PyProof.Rows L2
section
variable {prog : Program} {w : World} {A : Around} {E : Value → Shared → Prop} {s : Shared}
theorem places_rev (n : Nat) : Builtin.Slice.slicePlaces ((n : Int) - 1) (-1) (-1) = n := by
  unfold Builtin.Slice.slicePlaces
  have h1 : ¬ ((-1 : Int) > 0) := by decide
  simp only [h1, if_false]
  rw [show -(-1 : Int) = 1 from rfl, Int.ediv_one]
  split <;> omega
theorem fmap_congr {α β : Type} {f g : α → Option β} : ∀ {l : List α}, (∀ x ∈ l, f x = g x) → l.filterMap f = l.filterMap g
  | [], _ => rfl
  | a :: l, h => by rw [List.filterMap_cons, List.filterMap_cons, h a List.mem_cons_self, fmap_congr fun x hx => h x (List.mem_cons_of_mem _ hx)]
theorem pick_rev' {α : Type} : ∀ r : List α, (List.range r.length).filterMap (fun m => r.reverse[r.length - 1 - m]?) = r
  | [] => rfl
  | a :: r => by
    rw [List.length_cons, List.range_succ_eq_map, List.filterMap_cons, List.filterMap_map]
    have h0 : (a :: r).reverse[r.length + 1 - 1 - 0]? = some a := by simp
    rw [h0]
    dsimp only
    congr 1
    have e : (List.range r.length).filterMap ((fun m => (a :: r).reverse[r.length + 1 - 1 - m]?) ∘ Nat.succ) = (List.range r.length).filterMap (fun m => r.reverse[r.length - 1 - m]?) := by
      refine fmap_congr fun m hm => ?_
      rw [List.mem_range] at hm
      simp only [Function.comp, List.reverse_cons]
      rw [List.getElem?_append_left (by rw [List.length_reverse]; omega)]
      congr 1
      omega
    rw [e]
    exact pick_rev' r
theorem pick_rev (xs : Array Value) : ((List.range xs.size).filterMap fun (m : Nat) => xs[(((xs.size : Int) - 1) + (m : Int) * (-1)).toNat]?).toArray = xs.toList.reverse.toArray := by
  congr 1
  have h := pick_rev' xs.toList.reverse
  rw [List.reverse_reverse, List.length_reverse, Array.length_toList] at h
  refine Eq.trans (fmap_congr fun m hm => ?_) h
  rw [Array.getElem?_toList]
  congr 1
  omega
theorem sliceApplied_rev {sl : Addr} {vs : Value} {n : Nat} {Q : Int × Int × Nat → Shared → Prop} (hs : s.heap.IsSliceOf sl .none .none vs) (ps : IsPart vs (some (-1)))
    (h : Q ((n : Int) - 1, -1, n) s) : wpAny (model prog w) A (Builtin.Slice.sliceApplied (.ref sl) (pure (n : Int))) Q E s := by
  obtain ⟨os, hos, hcs, hds⟩ := id hs
  unfold Builtin.Slice.sliceApplied Builtin.Slice.sliceFields
  refine wpAny_bind (wpAny_bind (wpAny_field hos hds (x := .none) rfl (wpAny_bind (wpAny_field hos hds (x := .none) rfl (wpAny_bind (wpAny_field hos hds (x := vs) rfl (wpAny_pure ?_)))))))
  refine wpAny_bind (HT.slicePart_ ps ?_)
  show wpAny _ _ (if ((-1 : Int) == 0) = true then _ else _) _ _ s
  rw [if_neg (by decide)]
  refine wpAny_bind (HT.slicePart_ .none (wpAny_bind (HT.slicePart_ .none (wpAny_bind (wpAny_pure ?_)))))
  show wpAny _ _ (pure (((n : Int) - 1), (-1 : Int), Builtin.Slice.slicePlaces ((n : Int) - 1) (-1) (-1))) _ _ s
  rw [places_rev]
  exact wpAny_pure h
theorem getItem_tuple_rev {t sl : Addr} {items : Array Value} {vl vu vs : Value} {Q : Value → Shared → Prop} (ht : IsTup s.heap t items) (hs : s.heap.IsSliceOf sl vl vu vs) (pl : IsPart vl none) (pu : IsPart vu none) (ps : IsPart vs (some (-1)))
    (h : Q (.ref s.heap.objs.size) { s with heap := s.heap.push { cls := .type "tuple", data := .seq items.toList.reverse.toArray } })
    (hsz : items.size ≤ sizeLine) : wpAny (model prog w) A (getItem (.ref t) (.ref sl)) Q E s := by
  have htake : sizeOk (.seq items.toList.reverse.toArray) := by
    show items.toList.reverse.toArray.size ≤ sizeLine
    rw [List.size_toArray, List.length_reverse, Array.length_toList]
    exact hsz
  obtain ⟨os, hos, hcs, hds⟩ := id hs
  have hTs : s.TypeIs (.ref sl) "slice" := ⟨os, hos, hcs⟩
  cases pl
  cases pu
  unfold getItem
  try with_reducible refine wpAny_holding ?_
  first | refine wpAny_bind (wpAny_pure ?_) | skip
  refine wpAny_bind (wpAny_sequenceKey ht.typeIs (by decide) ?_)
  refine wpAny_bind (wpAny_callSpecial?_slot (name := Str.ofString "__getitem__") ht.typeIs PyProof.Rows.slot_tuple_getitem
    (wpAny_call_entry PyProof.Rows.slot_tuple_getitem ht.typeIs entry_tuple_getitem ?_ (args_tuple_getitem _ _)))
  show wpAny _ _ (Builtin.Tuple.tupleItemsOf (.ref t) >>= _) _ _ s
  refine wpAny_bind (tupleItemsOf_ ht ?_)
  refine wpAny_bind (wpAny_typeOf hTs ?_)
  rw [if_pos (by decide)]
  refine wpAny_bind (sliceApplied_rev hs ps ?_)
  have hno : ¬ ((((items.size : Int) - 1) == 0 && (-1 : Int) == 1 && items.size == items.size) = true) := by simp
  show wpAny _ _ (if (((items.size : Int) - 1) == 0 && (-1 : Int) == 1 && items.size == items.size) = true then _ else _) _ _ s
  rw [if_neg hno, pick_rev]
  first
    | exact wpAny_bind (m := Builtin.Tuple.tupleExact _) (wpAny_newObj_type (wpAny_pure ⟨_, rfl, wpAny_pure h⟩) htake)
    | exact wpAny_bind (m := Builtin.Tuple.tupleExact _) (wpAny_newObj_type (wpAny_bind (wpAny_pure (wpAny_pure ⟨_, rfl, wpAny_pure h⟩))) htake)
    | exact wpAny_bind (wpAny_bind (m := Builtin.Tuple.tupleExact _) (wpAny_newObj_type (wpAny_pure (wpAny_pure ⟨_, rfl, wpAny_pure h⟩)) htake))
    | exact wpAny_bind (wpAny_bind (m := Builtin.Tuple.tupleExact _) (wpAny_newObj_type (wpAny_pure ⟨_, rfl, wpAny_pure h⟩) htake))
end
def tRevT (K : PySem.W.Frag) (te : TE) : TE := fun σ H Q => te σ H fun x H1 => ∃ a xs, x = .ref a ∧ SqT K H1 a xs ∧ ∀ p, H1 p = none → Q (.ref p) (upd H1 p (.tup xs.reverse))
theorem pe_revT {X : Cx} {e : Expr} {te : TE} {k : Nat} {p1 p2 p3 pos : Pos} (he : PE X e te) : PE X (.Subscript e (.Slice none none (some (.UnaryOp .USub (.Constant (.int 1) k p1) p2)) p3) pos) (tRevT X.K te) := by
  refine ⟨fun pins s σ H Q I h => ?_⟩
  refine Subscript_ (thn (he.run pins s σ H _ I h) fun v s1 ⟨x, H1, I1, r1, q1⟩ => ?_)
  obtain ⟨a, xs, ex, hx, q⟩ := q1
  subst ex
  cases r1
  have hst : PO X (some (.UnaryOp .USub (.Constant (.int 1) k p1) p2)) (tPart (tUn (rU fun i => .int (-i)) (tC (.int 1)))) := po_some (pe_un un_neg pe_int)
  refine wpAny_Slice (thn (po_none.run pins s1 σ H1 (fun o H2 => o = none ∧ H2 = H1) I1 ⟨rfl, rfl⟩) fun vl s2 ⟨l, H2, I2, pl, el, e2⟩ => ?_)
  subst el e2
  refine thn (po_none.run pins s2 σ H2 (fun o H3 => o = none ∧ H3 = H2) I2 ⟨rfl, rfl⟩) fun vu s3 ⟨u, H3, I3, pu, eu, e3⟩ => ?_
  subst eu e3
  refine thn (hst.run pins s3 σ H3 (fun o H4 => o = some (-1) ∧ H4 = H3) I3 ⟨1, rfl, -1, rfl, rfl, rfl⟩) fun vs s4 ⟨o, H4, I4, ps, eo, e4⟩ => ?_
  subst eo e4
  have I5 : Inv X pins σ H4 { s4 with heap := s4.heap.push { cls := .type "slice", data := .fields #[vl, vu, vs] } } := I4.kept (t' := s4.toks) fun b ob q => Heap.get?_push_of_some _ q
  obtain ⟨its, r, ht, hz⟩ := I5.tuple hx
  show wpAny (model X.prog X.w) X.A (subscriptTail e (.Slice none none (some (.UnaryOp .USub (.Constant (.int 1) k p1) p2)) p3) (.ref a) (.ref s4.heap.objs.size)) (EP X pins σ Q) X.xe { s4 with heap := s4.heap.push { cls := .type "slice", data := .fields #[vl, vu, vs] } }
  refine tail_any (ops := [.ref a, .ref s4.heap.objs.size]) ht.typeIs (PyProof.Rows.slot_tuple_getitem.lookup) ?_ (by with_unfolding_all rfl)
  refine getItem_tuple_rev ht (Heap.IsSliceOf.new _ vl vu vs) pl pu ps ?_ (by rw [List.size_toArray, ← r.length]; exact hz)
  refine ⟨.ref _, _, I5.laid (t' := s4.toks) (o := .tup xs.reverse) (fun b ob q => Heap.get?_push_of_some _ q) (Nat.le_refl _) ?_, rfl, q _ (I5.hok.fresh (Nat.le_refl _))⟩
  exact ⟨by rw [List.length_reverse]; exact hz, _, r.reverse, IsTup.new _ _⟩
/-! ### the rules -/
section
variable {C : Ck} {G : Gt} {Cs : List D} {k : Nat} {X : Cx} {W : WX} {sc : Scope} {pos : Pos}
variable {a b c e : Expr} {ma mb mc : Env → M D}
theorem ce_rev {j : Nat} {p1 p2 p3 : Pos} (ha : CE C X W sc a ma) : CE C X W sc (.Subscript a (.Slice none none (some (.UnaryOp .USub (.Constant (.int 1) j p1) p2)) p3) pos) (fun env => bnd (ma env) revM) := by
  obtain ⟨ta, pa, _, ra⟩ := ha
  refine ⟨_, pe_revT pa, OwnSt.no rfl, fun T hc H env σ Q w er h => ?_⟩
  refine read1 ra w er h fun d T1 hc1 H1 v e1 w1 er1 r1 h1 => ?_
  cases d <;> (try exact h1.elim)
  next xs =>
  simp only [Rep] at r1
  obtain ⟨q, vs, ev, s, ll, rr⟩ := r1
  refine ⟨q, vs, ev, s, fun p hp => ?_⟩
  exact h1 T1 _ (Ext.upd_new hp) (w1.upd_new hp) _ (rep_new_tup w1 hp rr.reverse (by rw [List.length_reverse]; exact ll))
theorem ce_ext {o : Expr} {ap cp : Pos} (hsu : notSuper o = true) (hline : (ap.endLine == cp.line) = true) (hs : isStar e = false) (ho : CE C X W sc o ma) (he : CE C X W sc e mb) :
    CE C X W sc (.Call (.Attribute o "extend" ap) [e] [] cp) (fun env => bnd (ma env) fun l => match l with
      | .ref i => bnd (lstAt i) fun _ => bnd (mb env) fun y => match y with
        | .fl ys => bnd (lstAt i) fun xs => guard (xs.length + ys.length ≤ sizeLine) (bnd (putAt i (.lst (xs ++ ys))) fun _ => pur .non)
        | _ => stuck
      | _ => stuck) := by
  obtain ⟨ta, pa, _, ra⟩ := ho
  obtain ⟨tb, pb, _, rb⟩ := he
  refine ⟨_, pe_bm PySem.F.plainAttrs_list PySem.F.slot_list_extend PySem.F.type_list_extend mt_extend pa (pa_cons pb pa_nil (star1 hs)) (superNo hsu) (few1 hs) hline (star1 hs) rfl, OwnSt.no rfl, fun T hc H env σ Q w er h => ?_⟩
  refine read1 ra w er h fun d T1 hc1 H1 v e1 w1 er1 r1 h1 => ?_
  cases d with
  | ref i =>
    obtain ⟨xs0, p, vs0, q0, hp, hv0, l0, rr0, h1⟩ := post_lstAt (okP := fun _ _ _ => True) w1 h1
    simp only [Rep] at r1
    obtain ⟨p', ep, hp'⟩ := r1
    rw [hp] at hp'; cases hp'
    subst ep
    refine ⟨.inl ⟨rfl, vs0, SqL.of hv0⟩, ?_⟩
    refine read1 rb w1 er1 h1 fun d2 T2 hc2 H2 u e2 w2 er2 r2 h2 => ?_
    cases d2 <;> (try exact h2.elim)
    next ys =>
    simp only [Rep] at r2
    obtain ⟨b, us, eu, sb, lu, ru⟩ := r2
    have h2' : Post X.K T2 H2 _ (WE W σ) (bnd (lstAt i) (fun xs => Cl.guard (xs.length + ys.length ≤ sizeLine) (bnd (putAt i (.lst (xs ++ ys))) fun _ => pur D.non)) hc2) := h2
    obtain ⟨xs, p2, vs, q, hp2, hv, l, rr, h3⟩ := post_lstAt (okP := fun _ _ _ => True) w2 h2'
    have := e2.get hp
    rw [this] at hp2; cases hp2
    obtain ⟨c, h3⟩ := Post.of_guard h3
    have lv : vs.length + us.length ≤ sizeLine := by rw [rr.length, ru.length]; exact c
    obtain ⟨w3, e3, h4⟩ := post_putAt w2 this (rr.append ru) (by rw [List.length_append]; exact lv) ⟨vs, hv⟩ h3
    exact ⟨p, b, vs, us, rfl, by rw [eu], hv, sb.1, lv, h4.of_pur w3 _ (by simp only [Rep])⟩
  | _ => exact h1.elim
end
end Cl
/-! What the checker takes does what the small language says: expressions. -/
namespace Cl
open PySem PySem.Spec PyProof.Rows L2

section
variable {C : Ck} {sc : Scope}
theorem chkN_plain {ir : I} {e : Expr} (h : chkN C ir sc e = true) : plainT e = true ∧ isStar e = false := by
  cases ir <;> cases e <;> first | exact ⟨rfl, rfl⟩ | (simp [chkN] at h)
theorem chkE_star {ir : I} {e : Expr} (h : chkE C ir sc e = true) : isStar e = false := by
  cases e with
  | Starred v p =>
    by_cases hx : ∃ i j b, ir = .isx i j b
    · obtain ⟨i, j, b, e⟩ := hx
      subst e
      simp only [chkE] at h
      split at h
      · simp [xqForm] at h
      · cases h
    · cases ir <;> first | (exact absurd ⟨_, _, _, rfl⟩ hx) | (simp [chkE] at h; done) | (simp [chkE] at h; exact (chkN_plain h).2)
  | _ => rfl
theorem chkA_star : ∀ {ir : I} {es : List Expr}, chkA C ir sc es = true → ∀ e ∈ es, isStar e = false
  | .cons a r, e :: es, h => by
    simp only [chkA, Bool.and_eq_true] at h
    intro x hx
    rcases List.mem_cons.mp hx with z | z
    · rw [z]; exact chkE_star h.1
    · exact chkA_star h.2 x z
  | .nil, [], _ => fun _ h => by cases h
  | .nil, _ :: _, h => by simp [chkA] at h
  | .cons _ _, [], h => by simp [chkA] at h
  | .var _, es, h => by simp [chkA] at h
  | .int _, es, h => by simp [chkA] at h
  | .str _, es, h => by simp [chkA] at h
  | .bl _, es, h => by simp [chkA] at h
  | .non, es, h => by simp [chkA] at h
  | .glb _, es, h => by simp [chkA] at h
  | .isx _ _ _, es, h => by simp [chkA] at h
  | .bin _ _ _, es, h => by simp [chkA] at h
  | .neg _, es, h => by simp [chkA] at h
  | .not _, es, h => by simp [chkA] at h
  | .cmp _ _ _, es, h => by simp [chkA] at h
  | .chain _ _ _ _ _, es, h => by simp [chkA] at h
  | .and _ _, es, h => by simp [chkA] at h
  | .or _ _, es, h => by simp [chkA] at h
  | .ite _ _ _, es, h => by simp [chkA] at h
  | .tup _, es, h => by simp [chkA] at h
  | .idx _ _, es, h => by simp [chkA] at h
  | .slc _ _ _, es, h => by simp [chkA] at h
  | .call _ _, es, h => by simp [chkA] at h
  | .bi _ _, es, h => by simp [chkA] at h
  | .isa _ _, es, h => by simp [chkA] at h
  | .lst _, es, h => by simp [chkA] at h
  | .comp _ _ _ _ _, es, h => by simp [chkA] at h
  | .bn _ _, es, h => by simp [chkA] at h
  | .binL _ _ _, es, h => by simp [chkA] at h
  | .slcL _ _ _, es, h => by simp [chkA] at h
  | .trk _, es, h => by simp [chkA] at h
  | .app _ _, es, h => by simp [chkA] at h
  | .popAt _ _, es, h => by simp [chkA] at h
  | .pop _, es, h => by simp [chkA] at h
  | .rev _, es, h => by simp [chkA] at h
  | .ext _ _, es, h => by simp [chkA] at h
  | .rng1 _, es, h => by simp [chkA] at h
  | .rng2 _ _, es, h => by simp [chkA] at h
  | .rng3 _ _ _, es, h => by simp [chkA] at h
  | .zip _ _, es, h => by simp [chkA] at h
  | .enm _, es, h => by simp [chkA] at h
end

section
variable (C : Ck) (G : Gt) (Cs : List D) (k : Nat)
structure SndI (ir : I) : Prop where
  e : ∀ {X W sc}, Gd C G Cs k X W sc → ∀ {e}, chkE C ir sc e = true → CE C X W sc e (semE G Cs ir)
  t : ∀ {X W sc}, Gd C G Cs k X W sc → ∀ {e}, chkE C ir sc e = true → CT X W e (fun env => bnd (semE G Cs ir env) truM)
  w : ∀ {X W sc}, Gd C G Cs k X W sc → ∀ {o vs pos}, chkE C ir sc (.BoolOp o vs pos) = true → CW X W (.BoolOp o vs pos) (fun env => bnd (semE G Cs ir env) truM)
  n : ∀ {X W sc}, Gd C G Cs k X W sc → ∀ {e}, chkN C ir sc e = true → CN C X W sc e (semN G Cs ir)
  a : ∀ {X W sc}, Gd C G Cs k X W sc → ∀ {es}, chkA C ir sc es = true → CA X W es (semA G Cs ir)
  o : ∀ {X W sc}, Gd C G Cs k X W sc → ∀ {e}, chkO C ir sc e = true → CO X W e (semO G Cs ir)
  i : ∀ {X W sc}, Gd C G Cs k X W sc → ∀ {tg it}, chkI C ir sc tg it = true → CI X W tg it (semI G Cs ir)
/-- an expression that is a value and nothing else -/
structure Plain (ir : I) : Prop where
  n : ∀ sc e, chkN C ir sc e = false
  a : ∀ sc es, chkA C ir sc es = false
  o0 : ∀ sc, chkO C ir sc none = false
  o1 : ∀ sc x, chkO C ir sc (some x) = chkE C ir sc x
  i : ∀ sc t x, chkI C ir sc t x = chkE C ir sc x
  so : semO G Cs ir = fun env => bnd (semE G Cs ir env) fun x => bnd (intM x) fun i => pur (some i)
  si : semI G Cs ir = fun env => bnd (semE G Cs ir env) srcM
variable {C G Cs k}
theorem SndI.value {ir : I} (o0 : ∀ sc, chkO C ir sc none = false) (o1 : ∀ sc x, chkO C ir sc (some x) = chkE C ir sc x) (i : ∀ sc t x, chkI C ir sc t x = chkE C ir sc x)
    (so : semO G Cs ir = fun env => bnd (semE G Cs ir env) fun x => bnd (intM x) fun i => pur (some i)) (si : semI G Cs ir = fun env => bnd (semE G Cs ir env) srcM)
    (he : ∀ {X W sc}, Gd C G Cs k X W sc → ∀ {e}, chkE C ir sc e = true → CE C X W sc e (semE G Cs ir)) :
    (∀ {X W sc}, Gd C G Cs k X W sc → ∀ {e}, chkO C ir sc e = true → CO X W e (semO G Cs ir)) ∧ (∀ {X W sc}, Gd C G Cs k X W sc → ∀ {tg it}, chkI C ir sc tg it = true → CI X W tg it (semI G Cs ir)) := by
  refine ⟨fun g e h => ?_, fun g tg it h => ?_⟩
  · cases e with
    | none => rw [o0] at h; cases h
    | some x =>
      rw [o1] at h
      rw [so]
      exact co_some (he g h)
  · rw [i] at h
    rw [si]
    exact ci_val (he g h)
theorem SndI.plain {ir : I} (p : Plain C G Cs ir) (he : ∀ {X W sc}, Gd C G Cs k X W sc → ∀ {e}, chkE C ir sc e = true → CE C X W sc e (semE G Cs ir))
    (ht : ∀ {X W sc}, Gd C G Cs k X W sc → ∀ {e}, chkE C ir sc e = true → CT X W e (fun env => bnd (semE G Cs ir env) truM))
    (hw : ∀ {X W sc}, Gd C G Cs k X W sc → ∀ {o vs pos}, chkE C ir sc (.BoolOp o vs pos) = true → CW X W (.BoolOp o vs pos) (fun env => bnd (semE G Cs ir env) truM)) : SndI C G Cs k ir := by
  obtain ⟨h1, h2⟩ := SndI.value p.o0 p.o1 p.i p.so p.si he
  refine ⟨he, ht, hw, fun g e h => ?_, fun g es h => ?_, h1, h2⟩
  · rw [p.n] at h; cases h
  · rw [p.a] at h; cases h
/-- .. whose truth is asked of the value -/
theorem SndI.plain1 {ir : I} (p : Plain C G Cs ir) (he : ∀ {X W sc}, Gd C G Cs k X W sc → ∀ {e}, chkE C ir sc e = true → plainT e = true ∧ CE C X W sc e (semE G Cs ir)) : SndI C G Cs k ir :=
  SndI.plain p (fun g _ h => (he g h).2) (fun g _ h => ct_truth (he g h).1 (he g h).2) (fun g _ _ _ h => by have := (he g h).1; simp [plainT] at this)
/-- a new list -/
theorem SndI.fresh {ir : I} (o0 : ∀ sc, chkO C ir sc none = false) (o1 : ∀ sc x, chkO C ir sc (some x) = chkE C ir sc x) (i : ∀ sc t x, chkI C ir sc t x = chkE C ir sc x) (a : ∀ sc es, chkA C ir sc es = false) (en : ∀ sc e, chkE C ir sc e = chkN C ir sc e)
    (so : semO G Cs ir = fun env => bnd (semE G Cs ir env) fun x => bnd (intM x) fun i => pur (some i)) (si : semI G Cs ir = fun env => bnd (semE G Cs ir env) srcM) (se : semE G Cs ir = fun env => bnd (semN G Cs ir env) fun xs => pur (.fl xs))
    (hn : ∀ {X W sc}, Gd C G Cs k X W sc → ∀ {e}, chkN C ir sc e = true → CN C X W sc e (semN G Cs ir)) : SndI C G Cs k ir := by
  have he : ∀ {X W sc}, Gd C G Cs k X W sc → ∀ {e}, chkE C ir sc e = true → CE C X W sc e (semE G Cs ir) := fun g e h => by
    rw [en] at h
    rw [se]
    exact ce_fl (hn g h)
  obtain ⟨h1, h2⟩ := SndI.value o0 o1 i so si he
  refine ⟨he, fun g e h => ?_, fun g o vs pos h => ?_, hn, fun g es h => ?_, h1, h2⟩
  · have := he g h
    rw [en] at h
    exact ct_truth (chkN_plain h).1 this
  · rw [en] at h
    have := (chkN_plain h).1
    simp [plainT] at this
  · rw [a] at h; cases h
end
end Cl
/-! .. piece by piece. -/
namespace Cl
open PySem PySem.Spec PyProof.Rows L2
section
variable {C : Ck} {G : Gt} {Cs : List D} {k : Nat}

theorem pl_var (i : Nat) : Plain C G Cs (.var i ) := by
  constructor
  · intro sc e; first | rfl | (simp only [chkN])
  · intro sc e; first | rfl | (simp only [chkA])
  · intro sc; first | rfl | (simp only [chkO])
  · intro sc x; first | rfl | (simp only [chkO])
  · intro sc t x; first | rfl | (simp only [chkI])
  · funext env; first | rfl | (simp only [semO])
  · funext env; first | rfl | (simp only [semI])

theorem pl_int (n : Int) : Plain C G Cs (.int n ) := by
  constructor
  · intro sc e; first | rfl | (simp only [chkN])
  · intro sc e; first | rfl | (simp only [chkA])
  · intro sc; first | rfl | (simp only [chkO])
  · intro sc x; first | rfl | (simp only [chkO])
  · intro sc t x; first | rfl | (simp only [chkI])
  · funext env; first | rfl | (simp only [semO])
  · funext env; first | rfl | (simp only [semI])

theorem pl_str (x : String) : Plain C G Cs (.str x ) := by
  constructor
  · intro sc e; first | rfl | (simp only [chkN])
  · intro sc e; first | rfl | (simp only [chkA])
  · intro sc; first | rfl | (simp only [chkO])
  · intro sc x; first | rfl | (simp only [chkO])
  · intro sc t x; first | rfl | (simp only [chkI])
  · funext env; first | rfl | (simp only [semO])
  · funext env; first | rfl | (simp only [semI])

theorem pl_bl (b : Bool) : Plain C G Cs (.bl b ) := by
  constructor
  · intro sc e; first | rfl | (simp only [chkN])
  · intro sc e; first | rfl | (simp only [chkA])
  · intro sc; first | rfl | (simp only [chkO])
  · intro sc x; first | rfl | (simp only [chkO])
  · intro sc t x; first | rfl | (simp only [chkI])
  · funext env; first | rfl | (simp only [semO])
  · funext env; first | rfl | (simp only [semI])

theorem pl_non  : Plain C G Cs (.non ) := by
  constructor
  · intro sc e; first | rfl | (simp only [chkN])
  · intro sc e; first | rfl | (simp only [chkA])
  · intro sc; first | rfl | (simp only [chkO])
  · intro sc x; first | rfl | (simp only [chkO])
  · intro sc t x; first | rfl | (simp only [chkI])
  · funext env; first | rfl | (simp only [semO])
  · funext env; first | rfl | (simp only [semI])

theorem pl_glb (j : Nat) : Plain C G Cs (.glb j ) := by
  constructor
  · intro sc e; first | rfl | (simp only [chkN])
  · intro sc e; first | rfl | (simp only [chkA])
  · intro sc; first | rfl | (simp only [chkO])
  · intro sc x; first | rfl | (simp only [chkO])
  · intro sc t x; first | rfl | (simp only [chkI])
  · funext env; first | rfl | (simp only [semO])
  · funext env; first | rfl | (simp only [semI])

theorem pl_isx (i j : Nat) (b : Bool) : Plain C G Cs (.isx i j  b ) := by
  constructor
  · intro sc e; first | rfl | (simp only [chkN])
  · intro sc e; first | rfl | (simp only [chkA])
  · intro sc; first | rfl | (simp only [chkO])
  · intro sc x; first | rfl | (simp only [chkO])
  · intro sc t x; first | rfl | (simp only [chkI])
  · funext env; first | rfl | (simp only [semO])
  · funext env; first | rfl | (simp only [semI])

theorem pl_bin (o : Operator) (a b : I) : Plain C G Cs (.bin o  a b ) := by
  constructor
  · intro sc e; first | rfl | (simp only [chkN])
  · intro sc e; first | rfl | (simp only [chkA])
  · intro sc; first | rfl | (simp only [chkO])
  · intro sc x; first | rfl | (simp only [chkO])
  · intro sc t x; first | rfl | (simp only [chkI])
  · funext env; first | rfl | (simp only [semO])
  · funext env; first | rfl | (simp only [semI])

theorem pl_neg (a : I) : Plain C G Cs (.neg a ) := by
  constructor
  · intro sc e; first | rfl | (simp only [chkN])
  · intro sc e; first | rfl | (simp only [chkA])
  · intro sc; first | rfl | (simp only [chkO])
  · intro sc x; first | rfl | (simp only [chkO])
  · intro sc t x; first | rfl | (simp only [chkI])
  · funext env; first | rfl | (simp only [semO])
  · funext env; first | rfl | (simp only [semI])

theorem pl_not (a : I) : Plain C G Cs (.not a ) := by
  constructor
  · intro sc e; first | rfl | (simp only [chkN])
  · intro sc e; first | rfl | (simp only [chkA])
  · intro sc; first | rfl | (simp only [chkO])
  · intro sc x; first | rfl | (simp only [chkO])
  · intro sc t x; first | rfl | (simp only [chkI])
  · funext env; first | rfl | (simp only [semO])
  · funext env; first | rfl | (simp only [semI])

theorem pl_cmp (o : CmpOp) (a b : I) : Plain C G Cs (.cmp o  a b ) := by
  constructor
  · intro sc e; first | rfl | (simp only [chkN])
  · intro sc e; first | rfl | (simp only [chkA])
  · intro sc; first | rfl | (simp only [chkO])
  · intro sc x; first | rfl | (simp only [chkO])
  · intro sc t x; first | rfl | (simp only [chkI])
  · funext env; first | rfl | (simp only [semO])
  · funext env; first | rfl | (simp only [semI])

theorem pl_chain (o p : CmpOp) (a b c : I) : Plain C G Cs (.chain o p  a b c ) := by
  constructor
  · intro sc e; first | rfl | (simp only [chkN])
  · intro sc e; first | rfl | (simp only [chkA])
  · intro sc; first | rfl | (simp only [chkO])
  · intro sc x; first | rfl | (simp only [chkO])
  · intro sc t x; first | rfl | (simp only [chkI])
  · funext env; first | rfl | (simp only [semO])
  · funext env; first | rfl | (simp only [semI])

theorem pl_and (a b : I) : Plain C G Cs (.and a b ) := by
  constructor
  · intro sc e; first | rfl | (simp only [chkN])
  · intro sc e; first | rfl | (simp only [chkA])
  · intro sc; first | rfl | (simp only [chkO])
  · intro sc x; first | rfl | (simp only [chkO])
  · intro sc t x; first | rfl | (simp only [chkI])
  · funext env; first | rfl | (simp only [semO])
  · funext env; first | rfl | (simp only [semI])

theorem pl_or (a b : I) : Plain C G Cs (.or a b ) := by
  constructor
  · intro sc e; first | rfl | (simp only [chkN])
  · intro sc e; first | rfl | (simp only [chkA])
  · intro sc; first | rfl | (simp only [chkO])
  · intro sc x; first | rfl | (simp only [chkO])
  · intro sc t x; first | rfl | (simp only [chkI])
  · funext env; first | rfl | (simp only [semO])
  · funext env; first | rfl | (simp only [semI])

theorem pl_ite (t a b : I) : Plain C G Cs (.ite t a b ) := by
  constructor
  · intro sc e; first | rfl | (simp only [chkN])
  · intro sc e; first | rfl | (simp only [chkA])
  · intro sc; first | rfl | (simp only [chkO])
  · intro sc x; first | rfl | (simp only [chkO])
  · intro sc t x; first | rfl | (simp only [chkI])
  · funext env; first | rfl | (simp only [semO])
  · funext env; first | rfl | (simp only [semI])

theorem pl_tup (as : I) : Plain C G Cs (.tup as ) := by
  constructor
  · intro sc e; first | rfl | (simp only [chkN])
  · intro sc e; first | rfl | (simp only [chkA])
  · intro sc; first | rfl | (simp only [chkO])
  · intro sc x; first | rfl | (simp only [chkO])
  · intro sc t x; first | rfl | (simp only [chkI])
  · funext env; first | rfl | (simp only [semO])
  · funext env; first | rfl | (simp only [semI])

theorem pl_idx (a i : I) : Plain C G Cs (.idx a i ) := by
  constructor
  · intro sc e; first | rfl | (simp only [chkN])
  · intro sc e; first | rfl | (simp only [chkA])
  · intro sc; first | rfl | (simp only [chkO])
  · intro sc x; first | rfl | (simp only [chkO])
  · intro sc t x; first | rfl | (simp only [chkI])
  · funext env; first | rfl | (simp only [semO])
  · funext env; first | rfl | (simp only [semI])

theorem pl_slc (a lo hi : I) : Plain C G Cs (.slc a lo hi ) := by
  constructor
  · intro sc e; first | rfl | (simp only [chkN])
  · intro sc e; first | rfl | (simp only [chkA])
  · intro sc; first | rfl | (simp only [chkO])
  · intro sc x; first | rfl | (simp only [chkO])
  · intro sc t x; first | rfl | (simp only [chkI])
  · funext env; first | rfl | (simp only [semO])
  · funext env; first | rfl | (simp only [semI])

theorem pl_call (f : Nat) (as : I) : Plain C G Cs (.call f  as ) := by
  constructor
  · intro sc e; first | rfl | (simp only [chkN])
  · intro sc e; first | rfl | (simp only [chkA])
  · intro sc; first | rfl | (simp only [chkO])
  · intro sc x; first | rfl | (simp only [chkO])
  · intro sc t x; first | rfl | (simp only [chkI])
  · funext env; first | rfl | (simp only [semO])
  · funext env; first | rfl | (simp only [semI])

theorem pl_bi (f : Bi) (as : I) : Plain C G Cs (.bi f  as ) := by
  constructor
  · intro sc e; first | rfl | (simp only [chkN])
  · intro sc e; first | rfl | (simp only [chkA])
  · intro sc; first | rfl | (simp only [chkO])
  · intro sc x; first | rfl | (simp only [chkO])
  · intro sc t x; first | rfl | (simp only [chkI])
  · funext env; first | rfl | (simp only [semO])
  · funext env; first | rfl | (simp only [semI])

theorem pl_isa (a : I) (ts : List String) : Plain C G Cs (.isa a  ts ) := by
  constructor
  · intro sc e; first | rfl | (simp only [chkN])
  · intro sc e; first | rfl | (simp only [chkA])
  · intro sc; first | rfl | (simp only [chkO])
  · intro sc x; first | rfl | (simp only [chkO])
  · intro sc t x; first | rfl | (simp only [chkI])
  · funext env; first | rfl | (simp only [semO])
  · funext env; first | rfl | (simp only [semI])

theorem pl_trk (a : I) : Plain C G Cs (.trk a ) := by
  constructor
  · intro sc e; first | rfl | (simp only [chkN])
  · intro sc e; first | rfl | (simp only [chkA])
  · intro sc; first | rfl | (simp only [chkO])
  · intro sc x; first | rfl | (simp only [chkO])
  · intro sc t x; first | rfl | (simp only [chkI])
  · funext env; first | rfl | (simp only [semO])
  · funext env; first | rfl | (simp only [semI])

theorem pl_app (a x : I) : Plain C G Cs (.app a x ) := by
  constructor
  · intro sc e; first | rfl | (simp only [chkN])
  · intro sc e; first | rfl | (simp only [chkA])
  · intro sc; first | rfl | (simp only [chkO])
  · intro sc x; first | rfl | (simp only [chkO])
  · intro sc t x; first | rfl | (simp only [chkI])
  · funext env; first | rfl | (simp only [semO])
  · funext env; first | rfl | (simp only [semI])

theorem pl_popAt (a i : I) : Plain C G Cs (.popAt a i ) := by
  constructor
  · intro sc e; first | rfl | (simp only [chkN])
  · intro sc e; first | rfl | (simp only [chkA])
  · intro sc; first | rfl | (simp only [chkO])
  · intro sc x; first | rfl | (simp only [chkO])
  · intro sc t x; first | rfl | (simp only [chkI])
  · funext env; first | rfl | (simp only [semO])
  · funext env; first | rfl | (simp only [semI])

theorem pl_pop (a : I) : Plain C G Cs (.pop a ) := by
  constructor
  · intro sc e; first | rfl | (simp only [chkN])
  · intro sc e; first | rfl | (simp only [chkA])
  · intro sc; first | rfl | (simp only [chkO])
  · intro sc x; first | rfl | (simp only [chkO])
  · intro sc t x; first | rfl | (simp only [chkI])
  · funext env; first | rfl | (simp only [semO])
  · funext env; first | rfl | (simp only [semI])

theorem pl_rev (a : I) : Plain C G Cs (.rev a ) := by
  constructor
  · intro sc e; first | rfl | (simp only [chkN])
  · intro sc e; first | rfl | (simp only [chkA])
  · intro sc; first | rfl | (simp only [chkO])
  · intro sc x; first | rfl | (simp only [chkO])
  · intro sc t x; first | rfl | (simp only [chkI])
  · funext env; first | rfl | (simp only [semO])
  · funext env; first | rfl | (simp only [semI])

theorem pl_ext (a x : I) : Plain C G Cs (.ext a x ) := by
  constructor
  · intro sc e; first | rfl | (simp only [chkN])
  · intro sc e; first | rfl | (simp only [chkA])
  · intro sc; first | rfl | (simp only [chkO])
  · intro sc x; first | rfl | (simp only [chkO])
  · intro sc t x; first | rfl | (simp only [chkI])
  · funext env; first | rfl | (simp only [semO])
  · funext env; first | rfl | (simp only [semI])

end
end Cl
/-! .. and all together. -/
namespace Cl
open PySem PySem.Spec PyProof.Rows L2
section
variable {C : Ck} {G : Gt} {Cs : List D} {k : Nat}

theorem CE.as {X : Cx} {W : WX} {sc : Scope} {e : Expr} {m m' : Env → M D} (h : CE C X W sc e m) (q : m' = m) : CE C X W sc e m' := q ▸ h
theorem CT.as {X : Cx} {W : WX} {e : Expr} {m m' : Env → M Bool} (h : CT X W e m) (q : m' = m) : CT X W e m' := q ▸ h
theorem CW.as {X : Cx} {W : WX} {e : Expr} {m m' : Env → M Bool} (h : CW X W e m) (q : m' = m) : CW X W e m' := q ▸ h
theorem CN.as {X : Cx} {W : WX} {sc : Scope} {e : Expr} {m m' : Env → M (List D)} (h : CN C X W sc e m) (q : m' = m) : CN C X W sc e m' := q ▸ h
theorem CI.as {X : Cx} {W : WX} {e f : Expr} {m m' : Env → M Src} (h : CI X W e f m) (q : m' = m) : CI X W e f m' := q ▸ h

theorem sn_var (i : Nat) : SndI C G Cs k (.var i) := .plain1 (pl_var i) fun g e h => by
  cases e <;> (try simp only [chkE, Bool.false_eq_true] at h)
  simp only [Bool.and_eq_true, decide_eq_true_eq] at h
  exact ⟨rfl, (ce_var g h.1.1 h.1.2 h.2).as (by funext env; simp only [semE] <;> rfl)⟩
theorem sn_int (n : Int) : SndI C G Cs k (.int n) := .plain1 (pl_int n) fun g e h => by
  cases e <;> (try simp only [chkE, Bool.false_eq_true] at h)
  next v _ _ =>
  cases v <;> (try simp only [chkE, Bool.false_eq_true, decide_eq_true_eq] at h)
  subst h
  exact ⟨rfl, ce_int.as (by funext env; simp only [semE] <;> rfl)⟩
theorem sn_str (n : String) : SndI C G Cs k (.str n) := .plain1 (pl_str n) fun g e h => by
  cases e <;> (try simp only [chkE, Bool.false_eq_true] at h)
  next v _ _ =>
  cases v <;> (try simp only [chkE, Bool.false_eq_true, decide_eq_true_eq] at h)
  subst h
  exact ⟨rfl, ce_str.as (by funext env; simp only [semE] <;> rfl)⟩
theorem sn_bl (n : Bool) : SndI C G Cs k (.bl n) := .plain1 (pl_bl n) fun g e h => by
  cases e <;> (try simp only [chkE, Bool.false_eq_true] at h)
  next v _ _ =>
  cases v <;> (try simp only [chkE, Bool.false_eq_true, decide_eq_true_eq] at h)
  subst h
  exact ⟨rfl, ce_bl.as (by funext env; simp only [semE] <;> rfl)⟩
theorem sn_non : SndI C G Cs k .non := .plain1 pl_non fun g e h => by
  cases e <;> (try simp only [chkE, Bool.false_eq_true] at h)
  next v _ _ =>
  cases v <;> (try simp only [chkE, Bool.false_eq_true] at h)
  exact ⟨rfl, ce_non.as (by funext env; simp only [semE] <;> rfl)⟩
theorem sn_glb (j : Nat) : SndI C G Cs k (.glb j) := .plain1 (pl_glb j) fun g e h => by
  cases e <;> (try simp only [chkE, Bool.false_eq_true] at h)
  simp only [Bool.and_eq_true, decide_eq_true_eq] at h
  exact ⟨rfl, (ce_glb g h.1.1 h.1.2 h.2).as (by funext env; simp only [semE] <;> rfl)⟩
theorem sn_bin {o : Operator} {a b : I} (ha : SndI C G Cs k a) (hb : SndI C G Cs k b) : SndI C G Cs k (.bin o a b) := .plain1 (pl_bin o a b) fun g e h => by
  cases e <;> (try simp only [chkE, Bool.false_eq_true] at h)
  simp only [Bool.and_eq_true, decide_eq_true_eq] at h
  obtain ⟨⟨h1, h2⟩, h3⟩ := h
  subst h1
  exact ⟨rfl, (ce_bin (ha.e g h2) (hb.e g h3)).as (by funext env; simp only [semE] <;> rfl)⟩
theorem sn_neg {a : I} (ha : SndI C G Cs k a) : SndI C G Cs k (.neg a) := .plain1 (pl_neg a) fun g e h => by
  cases e <;> (try simp only [chkE, Bool.false_eq_true] at h)
  next o _ _ =>
  cases o <;> (try simp only [chkE, Bool.false_eq_true] at h)
  exact ⟨rfl, (ce_neg (ha.e g h)).as (by funext env; simp only [semE] <;> rfl)⟩
theorem sn_not {a : I} (ha : SndI C G Cs k a) : SndI C G Cs k (.not a) := by
  refine .plain (pl_not a) (fun g e h => ?_) (fun g e h => ?_) (fun g o vs pos h => ?_)
  · cases e <;> (try simp only [chkE, Bool.false_eq_true] at h)
    next o _ _ =>
    cases o <;> (try simp only [chkE, Bool.false_eq_true] at h)
    exact (ce_not (ha.e g h)).as (by funext env; simp only [semE] <;> rfl)
  · cases e <;> (try simp only [chkE, Bool.false_eq_true] at h)
    next o _ _ =>
    cases o <;> (try simp only [chkE, Bool.false_eq_true] at h)
    exact (ct_not (ha.t g h)).as (by funext env; simp only [semE] <;> rfl)
  · simp only [chkE, Bool.false_eq_true] at h
theorem cmp_shape {o : CmpOp} {a b : I} {sc : Scope} {e : Expr} (h : chkE C (.cmp o a b) sc e = true) : ∃ x y p, e = .Compare x [o] [y] p ∧ (C.cm = true ∧ notSet y = true) ∧ chkE C a sc x = true ∧ chkE C b sc y = true := by
  cases e <;> (try simp only [chkE, Bool.false_eq_true] at h)
  next x os ys p =>
  rcases os with _ | ⟨o', _ | ⟨o2, os⟩⟩ <;> (try simp only [chkE, Bool.false_eq_true] at h)
  rcases ys with _ | ⟨y, _ | ⟨y2, ys⟩⟩ <;> (try simp only [chkE, Bool.false_eq_true] at h)
  simp only [Bool.and_eq_true, decide_eq_true_eq] at h
  obtain ⟨⟨⟨h1, h2⟩, h3⟩, h4⟩ := h
  subst h1
  exact ⟨x, y, p, rfl, h2, h3, h4⟩
theorem sn_cmp {o : CmpOp} {a b : I} (ha : SndI C G Cs k a) (hb : SndI C G Cs k b) : SndI C G Cs k (.cmp o a b) := by
  refine .plain (pl_cmp o a b) (fun g e h => ?_) (fun g e h => ?_) (fun g o vs pos h => ?_)
  · obtain ⟨x, y, p, q, h2, h3, h4⟩ := cmp_shape h
    subst q
    exact (ce_cmp g h2 (ha.e g h3) (hb.e g h4)).as (by funext env; simp only [semE] <;> rfl)
  · obtain ⟨x, y, p, q, h2, h3, h4⟩ := cmp_shape h
    subst q
    exact (ct_cmp g h2 (ha.e g h3) (hb.e g h4)).as (by funext env; simp only [semE] <;> rfl)
  · simp only [chkE, Bool.false_eq_true] at h
theorem chain_shape {o o' : CmpOp} {a b c : I} {sc : Scope} {e : Expr} (h : chkE C (.chain o o' a b c) sc e = true) :
    ∃ x y z p, e = .Compare x [o, o'] [y, z] p ∧ (C.cm = true ∧ notSet z = true) ∧ chkE C a sc x = true ∧ chkE C b sc y = true ∧ chkE C c sc z = true := by
  cases e <;> (try simp only [chkE, Bool.false_eq_true] at h)
  next x os ys p =>
  rcases os with _ | ⟨u, _ | ⟨u', _ | ⟨u2, os⟩⟩⟩ <;> (try simp only [chkE, Bool.false_eq_true] at h)
  rcases ys with _ | ⟨y, _ | ⟨z, _ | ⟨y2, ys⟩⟩⟩ <;> (try simp only [chkE, Bool.false_eq_true] at h)
  simp only [Bool.and_eq_true, decide_eq_true_eq] at h
  obtain ⟨⟨⟨⟨⟨h1, h0⟩, h2⟩, h3⟩, h4⟩, h5⟩ := h
  subst h1; subst h0
  exact ⟨x, y, z, p, rfl, h2, h3, h4, h5⟩
theorem sn_chain {o o' : CmpOp} {a b c : I} (ha : SndI C G Cs k a) (hb : SndI C G Cs k b) (hc : SndI C G Cs k c) : SndI C G Cs k (.chain o o' a b c) := by
  refine .plain (pl_chain o o' a b c) (fun g e h => ?_) (fun g e h => ?_) (fun g o vs pos h => ?_)
  · obtain ⟨x, y, z, p, q, h2, h3, h4, h5⟩ := chain_shape h
    subst q
    exact (ce_chain g h2 (ha.e g h3) (hb.e g h4) (hc.e g h5)).as (by funext env; simp only [semE] <;> rfl)
  · obtain ⟨x, y, z, p, q, h2, h3, h4, h5⟩ := chain_shape h
    subst q
    exact (ct_chain g h2 (ha.e g h3) (hb.e g h4) (hc.e g h5)).as (by funext env; simp only [semE] <;> rfl)
  · simp only [chkE, Bool.false_eq_true] at h
theorem and_shape {a b : I} {sc : Scope} {e : Expr} (h : chkE C (.and a b) sc e = true) :
    ∃ x y r p, e = .BoolOp .And (x :: y :: r) p ∧ chkE C a sc x = true ∧ ((r = [] ∧ chkE C b sc y = true) ∨ (r ≠ [] ∧ chkE C b sc (.BoolOp .And (y :: r) p) = true)) := by
  cases e <;> (try simp only [chkE, Bool.false_eq_true] at h)
  next o vs p =>
  cases o <;> (try simp only [chkE, Bool.false_eq_true] at h)
  rcases vs with _ | ⟨x, _ | ⟨y, _ | ⟨z, r⟩⟩⟩ <;> (try simp only [chkE, Bool.false_eq_true] at h)
  · rw [Bool.and_eq_true] at h
    exact ⟨x, y, [], p, rfl, h.1, .inl ⟨rfl, h.2⟩⟩
  · rw [Bool.and_eq_true] at h
    exact ⟨x, y, z :: r, p, rfl, h.1, .inr ⟨(by simp), h.2⟩⟩
theorem or_shape {a b : I} {sc : Scope} {e : Expr} (h : chkE C (.or a b) sc e = true) :
    ∃ x y r p, e = .BoolOp .Or (x :: y :: r) p ∧ chkE C a sc x = true ∧ ((r = [] ∧ chkE C b sc y = true) ∨ (r ≠ [] ∧ chkE C b sc (.BoolOp .Or (y :: r) p) = true)) := by
  cases e <;> (try simp only [chkE, Bool.false_eq_true] at h)
  next o vs p =>
  cases o <;> (try simp only [chkE, Bool.false_eq_true] at h)
  rcases vs with _ | ⟨x, _ | ⟨y, _ | ⟨z, r⟩⟩⟩ <;> (try simp only [chkE, Bool.false_eq_true] at h)
  · rw [Bool.and_eq_true] at h
    exact ⟨x, y, [], p, rfl, h.1, .inl ⟨rfl, h.2⟩⟩
  · rw [Bool.and_eq_true] at h
    exact ⟨x, y, z :: r, p, rfl, h.1, .inr ⟨(by simp), h.2⟩⟩
theorem sn_and {a b : I} (ha : SndI C G Cs k a) (hb : SndI C G Cs k b) : SndI C G Cs k (.and a b) := by
  have hw : ∀ {X W sc}, Gd C G Cs k X W sc → ∀ {e}, chkE C (.and a b) sc e = true → CW X W e (fun env => bnd (semE G Cs (.and a b) env) truM) := fun g e h => by
    obtain ⟨x, y, r, p, q, h1, h2⟩ := and_shape h
    subst q
    rcases h2 with ⟨z, h2⟩ | ⟨_, h2⟩
    · subst z
      exact (cw_and (ha.t g h1) (cw_one (hb.t g h2))).as (by funext env; simp only [semE] <;> rfl)
    · exact (cw_and (ha.t g h1) (hb.w g h2)).as (by funext env; simp only [semE] <;> rfl)
  refine .plain (pl_and a b) (fun g e h => ?_) (fun g e h => (hw g h).ct) (fun g o vs pos h => hw g h)
  obtain ⟨x, y, r, p, q, h1, h2⟩ := and_shape h
  subst q
  rcases h2 with ⟨z, h2⟩ | ⟨_, h2⟩
  · subst z
    exact (ce_and (ha.e g h1) (ce_one (hb.e g h2))).as (by funext env; simp only [semE] <;> rfl)
  · exact (ce_and (ha.e g h1) (hb.e g h2)).as (by funext env; simp only [semE] <;> rfl)
theorem sn_or {a b : I} (ha : SndI C G Cs k a) (hb : SndI C G Cs k b) : SndI C G Cs k (.or a b) := by
  have hw : ∀ {X W sc}, Gd C G Cs k X W sc → ∀ {e}, chkE C (.or a b) sc e = true → CW X W e (fun env => bnd (semE G Cs (.or a b) env) truM) := fun g e h => by
    obtain ⟨x, y, r, p, q, h1, h2⟩ := or_shape h
    subst q
    rcases h2 with ⟨z, h2⟩ | ⟨_, h2⟩
    · subst z
      exact (cw_or (ha.t g h1) (cw_one (hb.t g h2))).as (by funext env; simp only [semE] <;> rfl)
    · exact (cw_or (ha.t g h1) (hb.w g h2)).as (by funext env; simp only [semE] <;> rfl)
  refine .plain (pl_or a b) (fun g e h => ?_) (fun g e h => (hw g h).ct) (fun g o vs pos h => hw g h)
  obtain ⟨x, y, r, p, q, h1, h2⟩ := or_shape h
  subst q
  rcases h2 with ⟨z, h2⟩ | ⟨_, h2⟩
  · subst z
    exact (ce_or (ha.e g h1) (ce_one (hb.e g h2))).as (by funext env; simp only [semE] <;> rfl)
  · exact (ce_or (ha.e g h1) (hb.e g h2)).as (by funext env; simp only [semE] <;> rfl)
theorem sn_ite {t a b : I} (ht : SndI C G Cs k t) (ha : SndI C G Cs k a) (hb : SndI C G Cs k b) : SndI C G Cs k (.ite t a b) := by
  refine .plain (pl_ite t a b) (fun g e h => ?_) (fun g e h => ?_) (fun g o vs pos h => ?_)
  · cases e <;> (try simp only [chkE, Bool.false_eq_true, Bool.and_eq_true] at h)
    exact (ce_ite (ht.t g h.1.1) (ha.e g h.1.2) (hb.e g h.2)).as (by funext env; simp only [semE] <;> rfl)
  · cases e <;> (try simp only [chkE, Bool.false_eq_true, Bool.and_eq_true] at h)
    exact (ct_ite (ht.t g h.1.1) (ha.t g h.1.2) (hb.t g h.2)).as (by funext env; simp only [semE] <;> rfl)
  · simp only [chkE, Bool.false_eq_true] at h
theorem sn_tup {as : I} (ha : SndI C G Cs k as) : SndI C G Cs k (.tup as) := .plain1 (pl_tup as) fun g e h => by
  cases e <;> (try simp only [chkE, Bool.false_eq_true] at h)
  exact ⟨rfl, (ce_tup (ha.a g h)).as (by funext env; simp only [semE] <;> rfl)⟩
theorem sn_idx {a i : I} (ha : SndI C G Cs k a) (hi : SndI C G Cs k i) : SndI C G Cs k (.idx a i) := .plain1 (pl_idx a i) fun g e h => by
  cases e <;> (try simp only [chkE, Bool.false_eq_true, Bool.and_eq_true] at h)
  exact ⟨rfl, (ce_idx h.1.1 (ha.e g h.1.2) (hi.e g h.2)).as (by funext env; simp only [semE] <;> rfl)⟩
theorem sn_slc {a lo hi : I} (ha : SndI C G Cs k a) (hl : SndI C G Cs k lo) (hu : SndI C G Cs k hi) : SndI C G Cs k (.slc a lo hi) := .plain1 (pl_slc a lo hi) fun g e h => by
  cases e <;> (try simp only [chkE, Bool.false_eq_true] at h)
  next x y p =>
  cases y <;> (try simp only [chkE, Bool.false_eq_true] at h)
  next l u st q =>
  cases st <;> (try simp only [chkE, Bool.false_eq_true, Bool.and_eq_true] at h)
  exact ⟨rfl, (ce_slc (ha.e g h.1.1) (hl.o g h.1.2) (hu.o g h.2)).as (by funext env; simp only [semE] <;> rfl)⟩
theorem sn_call {f : Nat} {as : I} (ha : SndI C G Cs k as) : SndI C G Cs k (.call f as) := .plain1 (pl_call f as) fun g e h => by
  cases e <;> (try simp only [chkE, Bool.false_eq_true] at h)
  next fn args kws p =>
  cases fn <;> (try simp only [chkE, Bool.false_eq_true] at h)
  cases args <;> (try simp only [chkE, Bool.false_eq_true] at h)
  cases kws <;> (try simp only [chkE, Bool.false_eq_true, Bool.and_eq_true, decide_eq_true_eq] at h)
  obtain ⟨⟨⟨h1, h2⟩, h3⟩, h4⟩ := h
  exact ⟨rfl, (ce_call g h1 h2 h3 (chkA_star h4) (ha.a g h4)).as (by funext env; simp only [semE] <;> rfl)⟩
theorem sn_isx {i j : Nat} {b : Bool} : SndI C G Cs k (.isx i j b) := .plain1 (pl_isx i j b) fun g e h => by
  simp only [chkE] at h
  cases q : C.xq[j]? with
  | none => rw [q] at h; cases h
  | some t =>
    obtain ⟨i', n, cls, b'⟩ := t
    rw [q] at h
    simp only [Bool.and_eq_true, decide_eq_true_eq] at h
    obtain ⟨⟨h1, h2⟩, h3⟩ := h
    subst h1; subst h2
    refine ⟨?_, (ce_isx g q h3).as (by funext env; simp only [semE] <;> rfl)⟩
    cases e <;> first | rfl | (simp [xqForm] at h3)
theorem sn_bi {f : Bi} {as : I} (ha : SndI C G Cs k as) : SndI C G Cs k (.bi f as) := .plain1 (pl_bi f as) fun g e h => by
  cases e <;> (try simp only [chkE, Bool.false_eq_true] at h)
  next fn args kws p =>
  cases fn <;> (try simp only [chkE, Bool.false_eq_true] at h)
  cases args <;> (try simp only [chkE, Bool.false_eq_true] at h)
  cases kws <;> (try simp only [chkE, Bool.false_eq_true, Bool.and_eq_true, decide_eq_true_eq] at h)
  obtain ⟨⟨⟨hcm, h1⟩, h2⟩, h4⟩ := h
  subst h1
  exact ⟨rfl, (ce_bi g hcm h2 (chkA_star h4) (ha.a g h4)).as (by funext env; simp only [semE] <;> rfl)⟩
theorem tys_len {ts : List String} : ∀ {es : List Expr} {sc : Scope}, tysB ts es sc = true → ts.length = es.length := by
  induction ts with
  | nil => intro es sc h; cases es <;> simp [tysB] at h <;> rfl
  | cons t ts ih =>
    intro es sc h
    cases es with
    | nil => simp [tysB] at h
    | cons e es =>
      cases e <;> (try simp only [tysB, Bool.false_eq_true, Bool.and_eq_true] at h)
      rw [List.length_cons, List.length_cons, ih h.2]
theorem sn_isa {a : I} {ts : List String} (ha : SndI C G Cs k a) : SndI C G Cs k (.isa a ts) := .plain1 (pl_isa a ts) fun g e h => by
  cases e <;> (try simp only [chkE, Bool.false_eq_true] at h)
  next fn args kws p =>
  cases fn <;> (try simp only [chkE, Bool.false_eq_true] at h)
  rcases kws with _ | ⟨kw, kws⟩ <;> (try simp only [chkE, Bool.false_eq_true] at h)
  · rcases args with _ | ⟨x, _ | ⟨t, _ | ⟨t2, args⟩⟩⟩ <;> (try simp only [chkE, Bool.false_eq_true] at h)
    cases t <;> (try simp only [chkE, Bool.false_eq_true] at h)
    · next y q =>
      simp only [Bool.and_eq_true, decide_eq_true_eq] at h
      obtain ⟨⟨⟨h1, h2⟩, h3⟩, h4⟩ := h
      subst h1
      cases ts with
      | nil => simp [tysB] at h4
      | cons t ts =>
        cases ts with
        | cons _ _ => simp [tysB] at h4
        | nil =>
          simp only [tysB, Bool.and_eq_true, decide_eq_true_eq, beq_iff_eq, and_true] at h4
          obtain ⟨⟨h5, h6⟩, h7⟩ := h4
          subst h6
          exact ⟨rfl, (ce_isa1 g h5 h2 h7 (chkE_star h3) (ha.e g h3)).as (by funext env; simp only [semE] <;> rfl)⟩
    · next es n q =>
      simp only [Bool.and_eq_true, decide_eq_true_eq] at h
      obtain ⟨⟨⟨⟨h1, h2⟩, h3⟩, h4⟩, h5⟩ := h
      subst h1
      exact ⟨rfl, (ce_isaT g h4 h2 (chkE_star h3) (ha.e g h3) h5.2).as (by funext env; simp only [semE] <;> rfl)⟩
theorem sn_trk {a : I} (ha : SndI C G Cs k a) : SndI C G Cs k (.trk a) := .plain1 (pl_trk a) fun g e h => by
  simp only [chkE] at h
  exact ⟨(chkN_plain h).1, (ce_trk (ha.n g h)).as (by funext env; simp only [semE] <;> rfl)⟩
theorem sn_app {a x : I} (ha : SndI C G Cs k a) (hx : SndI C G Cs k x) : SndI C G Cs k (.app a x) := .plain1 (pl_app a x) fun g e h => by
  cases e <;> (try simp only [chkE, Bool.false_eq_true] at h)
  next fn args kws p =>
  cases fn <;> (try simp only [chkE, Bool.false_eq_true] at h)
  rcases args with _ | ⟨y, _ | ⟨y2, args⟩⟩ <;> (try simp only [chkE, Bool.false_eq_true] at h)
  · rcases kws with _ | ⟨kw, kws⟩ <;> (try simp only [chkE, Bool.false_eq_true] at h)
    simp only [Bool.and_eq_true, decide_eq_true_eq] at h
    obtain ⟨⟨⟨⟨h1, h2⟩, h3⟩, h4⟩, h5⟩ := h
    subst h1
    exact ⟨rfl, (ce_app h2 h3 (chkE_star h5) (ha.e g h4) (hx.e g h5)).as (by funext env; simp only [semE] <;> rfl)⟩
theorem sn_ext {a x : I} (ha : SndI C G Cs k a) (hx : SndI C G Cs k x) : SndI C G Cs k (.ext a x) := .plain1 (pl_ext a x) fun g e h => by
  cases e <;> (try simp only [chkE, Bool.false_eq_true] at h)
  next fn args kws p =>
  cases fn <;> (try simp only [chkE, Bool.false_eq_true] at h)
  rcases args with _ | ⟨y, _ | ⟨y2, args⟩⟩ <;> (try simp only [chkE, Bool.false_eq_true] at h)
  · rcases kws with _ | ⟨kw, kws⟩ <;> (try simp only [chkE, Bool.false_eq_true] at h)
    simp only [Bool.and_eq_true, decide_eq_true_eq] at h
    obtain ⟨⟨⟨⟨h1, h2⟩, h3⟩, h4⟩, h5⟩ := h
    subst h1
    exact ⟨rfl, (ce_ext h2 h3 (chkE_star h5) (ha.e g h4) (hx.e g h5)).as (by funext env; simp only [semE] <;> rfl)⟩
theorem sn_rev {a : I} (ha : SndI C G Cs k a) : SndI C G Cs k (.rev a) := .plain1 (pl_rev a) fun g e h => by
  cases e <;> (try simp only [chkE, Bool.false_eq_true] at h)
  next v sl p =>
  cases sl <;> (try simp only [chkE, Bool.false_eq_true] at h)
  next lo hi st p2 =>
  rcases lo with _ | lo <;> rcases hi with _ | hi <;> rcases st with _ | st <;> (try simp only [chkE, Bool.false_eq_true] at h)
  cases st <;> (try simp only [chkE, Bool.false_eq_true] at h)
  next o v2 p3 =>
  cases o <;> (try simp only [chkE, Bool.false_eq_true] at h)
  cases v2 <;> (try simp only [chkE, Bool.false_eq_true] at h)
  next c kk p4 =>
  cases c <;> (try simp only [chkE, Bool.false_eq_true] at h)
  simp only [Bool.and_eq_true, decide_eq_true_eq] at h
  obtain ⟨h1, h2⟩ := h
  subst h1
  exact ⟨rfl, (ce_rev (ha.e g h2)).as (by funext env; simp only [semE] <;> rfl)⟩
theorem sn_popAt {a x : I} (ha : SndI C G Cs k a) (hx : SndI C G Cs k x) : SndI C G Cs k (.popAt a x) := .plain1 (pl_popAt a x) fun g e h => by
  cases e <;> (try simp only [chkE, Bool.false_eq_true] at h)
  next fn args kws p =>
  cases fn <;> (try simp only [chkE, Bool.false_eq_true] at h)
  rcases args with _ | ⟨y, _ | ⟨y2, args⟩⟩ <;> (try simp only [chkE, Bool.false_eq_true] at h)
  · rcases kws with _ | ⟨kw, kws⟩ <;> (try simp only [chkE, Bool.false_eq_true] at h)
    simp only [Bool.and_eq_true, decide_eq_true_eq] at h
    obtain ⟨⟨⟨⟨h1, h2⟩, h3⟩, h4⟩, h5⟩ := h
    subst h1
    exact ⟨rfl, (ce_popAt h2 h3 (chkE_star h5) (ha.e g h4) (hx.e g h5)).as (by funext env; simp only [semE] <;> rfl)⟩
theorem sn_pop {a : I} (ha : SndI C G Cs k a) : SndI C G Cs k (.pop a) := .plain1 (pl_pop a) fun g e h => by
  cases e <;> (try simp only [chkE, Bool.false_eq_true] at h)
  next fn args kws p =>
  cases fn <;> (try simp only [chkE, Bool.false_eq_true] at h)
  rcases args with _ | ⟨y, args⟩ <;> (try simp only [chkE, Bool.false_eq_true] at h)
  · rcases kws with _ | ⟨kw, kws⟩ <;> (try simp only [chkE, Bool.false_eq_true] at h)
    simp only [Bool.and_eq_true, decide_eq_true_eq] at h
    obtain ⟨⟨⟨h1, h2⟩, h3⟩, h4⟩ := h
    subst h1
    exact ⟨rfl, (ce_pop h2 h3 (ha.e g h4)).as (by funext env; simp only [semE] <;> rfl)⟩
/-! new lists -/
theorem sn_lst {as : I} (ha : SndI C G Cs k as) : SndI C G Cs k (.lst as) := by
  refine .fresh (fun sc => by simp only [chkO]) (fun sc x => by simp only [chkO]) (fun sc t x => by simp only [chkI]) (fun sc es => by simp only [chkA]) (fun sc e => by simp only [chkE]) (by funext env; simp only [semO]) (by funext env; simp only [semI] <;> rfl) (by funext env; simp only [semE] <;> rfl) fun g e h => ?_
  cases e <;> (try simp only [chkN, Bool.false_eq_true] at h)
  exact (cn_lst (ha.a g h)).as (by funext env; simp only [semN] <;> rfl)
theorem sn_bn {f : Bn} {as : I} (ha : SndI C G Cs k as) : SndI C G Cs k (.bn f as) := by
  refine .fresh (fun sc => by simp only [chkO]) (fun sc x => by simp only [chkO]) (fun sc t x => by simp only [chkI]) (fun sc es => by simp only [chkA]) (fun sc e => by simp only [chkE]) (by funext env; simp only [semO]) (by funext env; simp only [semI] <;> rfl) (by funext env; simp only [semE] <;> rfl) fun g e h => ?_
  cases e <;> (try simp only [chkN, Bool.false_eq_true] at h)
  next fn args kws p =>
  cases fn <;> (try simp only [chkN, Bool.false_eq_true] at h)
  cases args <;> (try simp only [chkN, Bool.false_eq_true] at h)
  cases kws <;> (try simp only [chkN, Bool.false_eq_true, Bool.and_eq_true, decide_eq_true_eq] at h)
  obtain ⟨⟨h1, h2⟩, h4⟩ := h
  subst h1
  exact (cn_bn g h2 (chkA_star h4) (ha.a g h4)).as (by funext env; simp only [semN] <;> rfl)
theorem sn_binL {o : Operator} {a b : I} (ha : SndI C G Cs k a) (hb : SndI C G Cs k b) : SndI C G Cs k (.binL o a b) := by
  refine .fresh (fun sc => by simp only [chkO]) (fun sc x => by simp only [chkO]) (fun sc t x => by simp only [chkI]) (fun sc es => by simp only [chkA]) (fun sc e => by simp only [chkE]) (by funext env; simp only [semO]) (by funext env; simp only [semI] <;> rfl) (by funext env; simp only [semE] <;> rfl) fun g e h => ?_
  cases e <;> (try simp only [chkN, Bool.false_eq_true] at h)
  simp only [Bool.and_eq_true, decide_eq_true_eq] at h
  obtain ⟨⟨h1, h2⟩, h3⟩ := h
  subst h1
  exact (cn_bin (ha.e g h2) (hb.e g h3)).as (by funext env; simp only [semN] <;> rfl)
theorem sn_slcL {a lo hi : I} (ha : SndI C G Cs k a) (hl : SndI C G Cs k lo) (hu : SndI C G Cs k hi) : SndI C G Cs k (.slcL a lo hi) := by
  refine .fresh (fun sc => by simp only [chkO]) (fun sc x => by simp only [chkO]) (fun sc t x => by simp only [chkI]) (fun sc es => by simp only [chkA]) (fun sc e => by simp only [chkE]) (by funext env; simp only [semO]) (by funext env; simp only [semI] <;> rfl) (by funext env; simp only [semE] <;> rfl) fun g e h => ?_
  cases e <;> (try simp only [chkN, Bool.false_eq_true] at h)
  next x y p =>
  cases y <;> (try simp only [chkN, Bool.false_eq_true] at h)
  next l u st q =>
  cases st <;> (try simp only [chkN, Bool.false_eq_true, Bool.and_eq_true] at h)
  exact (cn_slc (ha.e g h.1.1) (hl.o g h.1.2) (hu.o g h.2)).as (by funext env; simp only [semN] <;> rfl)
theorem sn_comp {own : List Nat} {tg : Tg} {src ifs elt : I} (hs : SndI C G Cs k src) (hf : SndI C G Cs k ifs) (he : SndI C G Cs k elt) : SndI C G Cs k (.comp own tg src ifs elt) := by
  refine .fresh (fun sc => by simp only [chkO]) (fun sc x => by simp only [chkO]) (fun sc t x => by simp only [chkI]) (fun sc es => by simp only [chkA]) (fun sc e => by simp only [chkE]) (by funext env; simp only [semO]) (by funext env; simp only [semI] <;> rfl) (by funext env; simp only [semE] <;> rfl) fun g e h => ?_
  cases e <;> (try simp only [chkN, Bool.false_eq_true] at h)
  next el gs scope p =>
  rcases gs with _ | ⟨⟨t, it, cs, n⟩, _ | ⟨g2, gs⟩⟩ <;> (try simp only [chkN, Bool.false_eq_true] at h)
  · unfold chkN at h
    simp only [Bool.and_eq_true, decide_eq_true_eq] at h
    obtain ⟨⟨⟨⟨⟨⟨⟨hcm, h1⟩, h2⟩, h3⟩, h4⟩, h5⟩, h6⟩, h7⟩ := h
    subst h1
    have hk : scope.kind = .function := (blkOk_by h2).kind
    have fe := fun (s : Shared) (H : Hp) (Cc : Addr) (cl : List (Str × Addr)) (fp : List Addr) => he.e (g.blk hcm hk s H Cc cl fp) h7
    match ifs, cs, h6 with
    | .nil, [], _ =>
      exact (cn_comp g hcm h2 h3 h4 (hs.i g h5) (fok_nil fe)).as (by funext env; simp only [semN] <;> rfl)
    | f, [c], h6 =>
      cases f with
      | nil => simp at h6
      | _ =>
        simp only at h6
        have ft := fun (s : Shared) (H : Hp) (Cc : Addr) (cl : List (Str × Addr)) (fp : List Addr) => hf.t (g.blk hcm hk s H Cc cl fp) h6
        exact (cn_comp g hcm h2 h3 h4 (hs.i g h5) (fok_one fe ft)).as (by funext env; simp only [semN, bnd_assoc] <;> rfl)
    | .nil, _ :: _, h6 => simp at h6
    | f, _ :: _ :: _, h6 => cases f <;> simp at h6
    | f, [], h6 =>
      cases f with
      | nil => exact (cn_comp g hcm h2 h3 h4 (hs.i g h5) (fok_nil fe)).as (by funext env; simp only [semN] <;> rfl)
      | _ => simp at h6
/-! arguments -/
theorem sn_nil : SndI C G Cs k .nil := by
  refine ⟨fun g e h => ?_, fun g e h => ?_, fun g o vs pos h => ?_, fun g e h => ?_, fun g es h => ?_, fun g e h => ?_, fun g tg it h => ?_⟩
  · simp only [chkE, Bool.false_eq_true] at h
  · simp only [chkE, Bool.false_eq_true] at h
  · simp only [chkE, Bool.false_eq_true] at h
  · simp only [chkN, Bool.false_eq_true] at h
  · cases es with
    | nil =>
      have : semA G Cs .nil = fun _ => pur [] := by funext env; simp only [semA]
      rw [this]; exact ca_nil
    | cons _ _ => simp only [chkA, Bool.false_eq_true] at h
  · cases e with
    | none =>
      have : semO G Cs .nil = fun _ => pur none := by funext env; simp only [semO]
      rw [this]; exact co_none
    | some _ => simp only [chkO, Bool.false_eq_true] at h
  · simp only [chkI, chkE, Bool.false_eq_true] at h
theorem sn_cons {a r : I} (ha : SndI C G Cs k a) (hr : SndI C G Cs k r) : SndI C G Cs k (.cons a r) := by
  refine ⟨fun g e h => ?_, fun g e h => ?_, fun g o vs pos h => ?_, fun g e h => ?_, fun g es h => ?_, fun g e h => ?_, fun g tg it h => ?_⟩
  · simp only [chkE, Bool.false_eq_true] at h
  · simp only [chkE, Bool.false_eq_true] at h
  · simp only [chkE, Bool.false_eq_true] at h
  · simp only [chkN, Bool.false_eq_true] at h
  · cases es with
    | nil => simp only [chkA, Bool.false_eq_true] at h
    | cons e es =>
      simp only [chkA, Bool.and_eq_true] at h
      have : semA G Cs (.cons a r) = fun env => bnd (semE G Cs a env) fun x => bnd (semA G Cs r env) fun xs => pur (x :: xs) := by funext env; simp only [semA]
      rw [this]; exact ca_cons (chkE_star h.1) (ha.e g h.1) (hr.a g h.2)
  · cases e with
    | none => simp only [chkO, Bool.false_eq_true] at h
    | some _ => simp only [chkO, chkE, Bool.false_eq_true] at h
  · simp only [chkI, chkE, Bool.false_eq_true] at h
/-! what a loop walks -/
theorem SndI.src {ir : I} (e : ∀ sc e, chkE C ir sc e = false) (n : ∀ sc e, chkN C ir sc e = false) (a : ∀ sc e, chkA C ir sc e = false) (o : ∀ sc e, chkO C ir sc e = false)
    (hi : ∀ {X W sc}, Gd C G Cs k X W sc → ∀ {tg it}, chkI C ir sc tg it = true → CI X W tg it (semI G Cs ir)) : SndI C G Cs k ir :=
  ⟨fun _ _ h => (by rw [e] at h; cases h), fun _ _ h => (by rw [e] at h; cases h), fun _ _ _ _ h => (by rw [e] at h; cases h), fun _ _ h => (by rw [n] at h; cases h), fun _ _ h => (by rw [a] at h; cases h), fun _ _ h => (by rw [o] at h; cases h), hi⟩
theorem sn_rng1 {a : I} (ha : SndI C G Cs k a) : SndI C G Cs k (.rng1 a) := by
  refine .src (fun sc e => by simp only [chkE]) (fun sc e => by simp only [chkN]) (fun sc e => by simp only [chkA]) (fun sc e => by cases e <;> simp only [chkO, chkE]) fun g tg it h => ?_
  cases it <;> (try simp only [chkI, Bool.false_eq_true] at h)
  next fn args kws p =>
  cases fn <;> (try simp only [chkI, Bool.false_eq_true] at h)
  rcases args with _ | ⟨x, _ | ⟨y2, args⟩⟩ <;> (try simp only [chkI, Bool.false_eq_true] at h)
  rcases kws with _ | ⟨kw, kws⟩ <;> (try simp only [chkI, Bool.false_eq_true] at h)
  · simp only [Bool.and_eq_true, decide_eq_true_eq] at h
    obtain ⟨⟨h1, h2⟩, h3⟩ := h
    subst h1
    exact (ci_rng1 g h2 (chkE_star h3) (ha.e g h3)).as (by funext env; simp only [semI] <;> rfl)
theorem sn_rng2 {a b : I} (ha : SndI C G Cs k a) (hb : SndI C G Cs k b) : SndI C G Cs k (.rng2 a b) := by
  refine .src (fun sc e => by simp only [chkE]) (fun sc e => by simp only [chkN]) (fun sc e => by simp only [chkA]) (fun sc e => by cases e <;> simp only [chkO, chkE]) fun g tg it h => ?_
  cases it <;> (try simp only [chkI, Bool.false_eq_true] at h)
  next fn args kws p =>
  cases fn <;> (try simp only [chkI, Bool.false_eq_true] at h)
  rcases args with _ | ⟨x, _ | ⟨y, _ | ⟨y2, args⟩⟩⟩ <;> (try simp only [chkI, Bool.false_eq_true] at h)
  rcases kws with _ | ⟨kw, kws⟩ <;> (try simp only [chkI, Bool.false_eq_true] at h)
  · simp only [Bool.and_eq_true, decide_eq_true_eq] at h
    obtain ⟨⟨⟨h1, h2⟩, h3⟩, h4⟩ := h
    subst h1
    exact (ci_rng2 g h2 (chkE_star h3) (chkE_star h4) (ha.e g h3) (hb.e g h4)).as (by funext env; simp only [semI] <;> rfl)
theorem sn_rng3 {a b c : I} (ha : SndI C G Cs k a) (hb : SndI C G Cs k b) (hc : SndI C G Cs k c) : SndI C G Cs k (.rng3 a b c) := by
  refine .src (fun sc e => by simp only [chkE]) (fun sc e => by simp only [chkN]) (fun sc e => by simp only [chkA]) (fun sc e => by cases e <;> simp only [chkO, chkE]) fun g tg it h => ?_
  cases it <;> (try simp only [chkI, Bool.false_eq_true] at h)
  next fn args kws p =>
  cases fn <;> (try simp only [chkI, Bool.false_eq_true] at h)
  rcases args with _ | ⟨x, _ | ⟨y, _ | ⟨z, _ | ⟨y2, args⟩⟩⟩⟩ <;> (try simp only [chkI, Bool.false_eq_true] at h)
  rcases kws with _ | ⟨kw, kws⟩ <;> (try simp only [chkI, Bool.false_eq_true] at h)
  · simp only [Bool.and_eq_true, decide_eq_true_eq] at h
    obtain ⟨⟨⟨⟨h1, h2⟩, h3⟩, h4⟩, h5⟩ := h
    subst h1
    exact (ci_rng3 g h2 (chkE_star h3) (chkE_star h4) (chkE_star h5) (ha.e g h3) (hb.e g h4) (hc.e g h5)).as (by funext env; simp only [semI] <;> rfl)
theorem sn_zip {a b : I} (ha : SndI C G Cs k a) (hb : SndI C G Cs k b) : SndI C G Cs k (.zip a b) := by
  refine .src (fun sc e => by simp only [chkE]) (fun sc e => by simp only [chkN]) (fun sc e => by simp only [chkA]) (fun sc e => by cases e <;> simp only [chkO, chkE]) fun g tg it h => ?_
  cases it <;> (try simp only [chkI, Bool.false_eq_true] at h)
  next fn args kws p =>
  cases fn <;> (try simp only [chkI, Bool.false_eq_true] at h)
  rcases args with _ | ⟨x, _ | ⟨y, _ | ⟨y2, args⟩⟩⟩ <;> (try simp only [chkI, Bool.false_eq_true] at h)
  rcases kws with _ | ⟨kw, kws⟩ <;> (try simp only [chkI, Bool.false_eq_true] at h)
  · simp only [Bool.and_eq_true, decide_eq_true_eq] at h
    obtain ⟨⟨⟨⟨h0, h1⟩, h2⟩, h3⟩, h4⟩ := h
    subst h1
    cases tg <;> simp only [isTup, Bool.false_eq_true] at h0
    exact (ci_zip g h2 (chkE_star h3) (chkE_star h4) (ha.e g h3) (hb.e g h4)).as (by funext env; simp only [semI] <;> rfl)
theorem sn_enm {a : I} (ha : SndI C G Cs k a) : SndI C G Cs k (.enm a) := by
  refine .src (fun sc e => by simp only [chkE]) (fun sc e => by simp only [chkN]) (fun sc e => by simp only [chkA]) (fun sc e => by cases e <;> simp only [chkO, chkE]) fun g tg it h => ?_
  cases it <;> (try simp only [chkI, Bool.false_eq_true] at h)
  next fn args kws p =>
  cases fn <;> (try simp only [chkI, Bool.false_eq_true] at h)
  rcases args with _ | ⟨x, _ | ⟨y2, args⟩⟩ <;> (try simp only [chkI, Bool.false_eq_true] at h)
  rcases kws with _ | ⟨kw, kws⟩ <;> (try simp only [chkI, Bool.false_eq_true] at h)
  · simp only [Bool.and_eq_true, decide_eq_true_eq] at h
    obtain ⟨⟨⟨h0, h1⟩, h2⟩, h3⟩ := h
    subst h1
    cases tg <;> simp only [isTup, Bool.false_eq_true] at h0
    exact (ci_enm g h2 (chkE_star h3) (ha.e g h3)).as (by funext env; simp only [semI] <;> rfl)
/-- THE RULE for expressions -/
theorem sndI (ir : I) : SndI C G Cs k ir := by
  induction ir with
  | var i => exact sn_var i
  | int n => exact sn_int n
  | str x => exact sn_str x
  | bl b => exact sn_bl b
  | non => exact sn_non
  | glb j => exact sn_glb j
  | isx i j b => exact sn_isx
  | bin o a b ha hb => exact sn_bin ha hb
  | neg a ha => exact sn_neg ha
  | not a ha => exact sn_not ha
  | cmp o a b ha hb => exact sn_cmp ha hb
  | chain o p a b c ha hb hc => exact sn_chain ha hb hc
  | and a b ha hb => exact sn_and ha hb
  | or a b ha hb => exact sn_or ha hb
  | ite t a b ht ha hb => exact sn_ite ht ha hb
  | tup as ha => exact sn_tup ha
  | nil => exact sn_nil
  | cons a r ha hr => exact sn_cons ha hr
  | idx a i ha hi => exact sn_idx ha hi
  | slc a lo hi ha hl hu => exact sn_slc ha hl hu
  | call f as ha => exact sn_call ha
  | bi f as ha => exact sn_bi ha
  | isa a ts ha => exact sn_isa ha
  | lst as ha => exact sn_lst ha
  | comp own tg src ifs elt hs hf he => exact sn_comp hs hf he
  | bn f as ha => exact sn_bn ha
  | binL o a b ha hb => exact sn_binL ha hb
  | slcL a lo hi ha hl hu => exact sn_slcL ha hl hu
  | trk a ha => exact sn_trk ha
  | app a x ha hx => exact sn_app ha hx
  | popAt a i ha hi => exact sn_popAt ha hi
  | pop a ha => exact sn_pop ha
  | rev a ha => exact sn_rev ha
  | ext a x ha hx => exact sn_ext ha hx
  | rng1 a ha => exact sn_rng1 ha
  | rng2 a b ha hb => exact sn_rng2 ha hb
  | rng3 a b c ha hb hc => exact sn_rng3 ha hb hc
  | zip a b ha hb => exact sn_zip ha hb
  | enm a ha => exact sn_enm ha
end
end Cl
/-! Statements. -/
namespace Cl
open PySem PySem.Spec PyProof.Rows L2

def OPost (K : PySem.W.Frag) (T : Tk) (H : Hp) (D : Ends) (W : WX) : Out → Prop
  | .nx env hc => ∀ T' H' σ', Ext T H T' H' → Wd K T' hc H' → EnvR K T' H' env σ' → D.nx σ' H'
  | .bk env hc => ∀ T' H' σ', Ext T H T' H' → Wd K T' hc H' → EnvR K T' H' env σ' → D.bk σ' H'
  | .ct env hc => ∀ T' H' σ', Ext T H T' H' → Wd K T' hc H' → EnvR K T' H' env σ' → D.ct σ' H'
  | .rt d hc => ∀ T' H' v, Ext T H T' H' → Wd K T' hc H' → Rep K T' H' d v → D.rt v H'
  | .exc c fs env hc => ∀ T' H' σ' dd, Ext T H T' H' → Wd K T' hc H' → EnvR K T' H' env σ' → RepX K T' H' dd fs → W (.ref c) dd σ' H'
  | .bad => False
section
variable {K : PySem.W.Frag} {T T1 : Tk} {H H1 : Hp} {D : Ends} {W : WX} {o : Out}
theorem OPost.ext (e : Ext T H T1 H1) (h : OPost K T H D W o) : OPost K T1 H1 D W o := by
  cases o with
  | nx env hc => exact fun T' H' σ' e' => h T' H' σ' (e.trans e')
  | bk env hc => exact fun T' H' σ' e' => h T' H' σ' (e.trans e')
  | ct env hc => exact fun T' H' σ' e' => h T' H' σ' (e.trans e')
  | rt d hc => exact fun T' H' v e' => h T' H' v (e.trans e')
  | exc c fs env hc => exact fun T' H' σ' dd e' => h T' H' σ' dd (e.trans e')
  | bad => exact h
theorem OPost.exS {α : Type} {m : M α} {env : Env} {σ : L2.St} {hc : Hc} {k : α → Hc → Out} (w : Wd K T hc H) (er : EnvR K T H env σ) (h : OPost K T H D W (exS m env hc k)) :
    Post K T H (fun a T' H' => ∃ hc', Ext T H T' H' ∧ Wd K T' hc' H' ∧ OPost K T' H' D W (k a hc')) (WE W σ) (m hc) := by
  unfold Cl.exS at h
  cases q : m hc with
  | ok a h' => rw [q] at h; exact fun T' H' e w => ⟨h', e, w, OPost.ext e h⟩
  | exc c fs h' => rw [q] at h; exact fun T' H' dd e w' rx => h T' H' σ dd e w' (er.ext w e) rx
  | bad => rw [q] at h; exact h
end
def CS (X : Cx) (W : WX) (st : Stmt) (s : Env → Hc → Out) : Prop :=
  ∃ t, PS X st t ∧ ∀ T hc H env σ (D : Ends), Wd X.K T hc H → EnvR X.K T H env σ → OPost X.K T H D W (s env hc) → t D σ H
def CB (X : Cx) (W : WX) (st : List Stmt) (s : Env → Hc → Out) : Prop :=
  ∃ t, PSs X st t ∧ ∀ T hc H env σ (D : Ends), Wd X.K T hc H → EnvR X.K T H env σ → OPost X.K T H D W (s env hc) → t D σ H

section
variable {C : Ck} {G : Gt} {Cs : List D} {k : Nat} {X : Cx} {W : WX} {sc : Scope} {pos : Pos}
variable {a b c e : Expr} {ma mb mc : Env → M D} {es : List Expr} {mA : Env → M (List D)} {st : Stmt} {sts : List Stmt} {s s' : Env → Hc → Out}

theorem cs_nop : CS X W (.Pass pos) (fun env h => .nx env h) := ⟨_, ps_pass, fun T hc H env σ D w er h => h T H σ (Ext.refl T H) w er⟩
theorem cs_doc {x : Str} {j : Nat} {p : Pos} : CS X W (.Expr (.Constant (.str x) j p) pos) (fun env h => .nx env h) := ⟨_, ps_doc, fun T hc H env σ D w er h => h T H σ (Ext.refl T H) w er⟩
theorem cs_brk : CS X W (.Break pos) (fun env h => .bk env h) := ⟨_, ps_break, fun T hc H env σ D w er h => h T H σ (Ext.refl T H) w er⟩
theorem cs_cnt : CS X W (.Continue pos) (fun env h => .ct env h) := ⟨_, ps_continue, fun T hc H env σ D w er h => h T H σ (Ext.refl T H) w er⟩
theorem cs_never : CS X W st (fun _ _ => .bad) := ⟨_, ps_never, fun T hc H env σ D w er h => h.elim⟩
theorem cb_never : CB X W sts (fun _ _ => .bad) := ⟨_, pss_never, fun T hc H env σ D w er h => h.elim⟩
theorem cb_nil : CB X W [] (fun env h => .nx env h) := ⟨_, pss_nil, fun T hc H env σ D w er h => h T H σ (Ext.refl T H) w er⟩
theorem cb_cons (h1 : CS X W st s) (h2 : CB X W sts s') : CB X W (st :: sts) (fun env h => match s env h with
    | .nx e h => s' e h
    | o => o) := by
  obtain ⟨t, p, r⟩ := h1
  obtain ⟨u, p', r'⟩ := h2
  refine ⟨_, pss_cons p p', fun T hc H env σ D w er h => r T hc H env σ _ w er ?_⟩
  dsimp only at h
  cases q : s env hc with
  | nx env' hc' =>
    rw [q] at h
    exact fun T' H' σ' e w' er' => r' T' hc' H' env' σ' D w' er' (OPost.ext e h)
  | bk _ _ => rw [q] at h; exact h
  | ct _ _ => rw [q] at h; exact h
  | rt _ _ => rw [q] at h; exact h
  | exc _ _ _ _ => rw [q] at h; exact h
  | bad => rw [q] at h; exact h
theorem cs_ret (ha : CE C X W sc a ma) : CS X W (.Return (some a) pos) (fun env h => exS (ma env) env h fun d h => .rt d h) := by
  obtain ⟨ta, pa, _, ra⟩ := ha
  refine ⟨_, ps_ret pa, fun T hc H env σ D w er h => ra T hc H env σ _ w er (Post.imp (OPost.exS w er h) fun d T' H' e p v r => ?_)⟩
  obtain ⟨hc', _, w', p⟩ := p
  exact p T' H' v (Ext.refl T' H') w' r
theorem cs_retN : CS X W (.Return none pos) (fun _ h => .rt .non h) := ⟨_, ps_retN, fun T hc H env σ D w er h => h T H .non (Ext.refl T H) w (by simp only [Rep])⟩
theorem noSwap {v : Expr} (h : isComp v = false) (t : Option Expr) (l : Nat) (env : PySem.Env) : swapsWith v t l env = pure false := by
  cases v <;> first | rfl | (simp [isComp] at h)
theorem noSwapTup (v : Expr) (ts : List Expr) (kt : Nat) (tp : Pos) (l : Nat) (env : PySem.Env) : swapsWithSole [.Tuple ts kt tp] v l env = pure false := by
  cases v <;> rfl
theorem cs_ex (hn : isComp a = false) (ha : CE C X W sc a ma) : CS X W (.Expr a pos) (fun env h => exS (ma env) env h fun _ h => .nx env h) := by
  obtain ⟨ta, pa, _, ra⟩ := ha
  refine ⟨_, ps_expr pa (noSwap hn _ _ _), fun T hc H env σ D w er h => ra T hc H env σ _ w er (Post.imp (OPost.exS w er h) fun d T' H' e p v r => ?_)⟩
  obtain ⟨hc', _, w', p⟩ := p
  exact p T' H' σ (Ext.refl T' H') w' (er.ext w e)
theorem cs_ite {ss us : List Stmt} {mt : Env → M Bool} (ht : CT X W c mt) (h1 : CB X W ss s) (h2 : CB X W us s') : CS X W (.If c ss us pos) (fun env h => exS (mt env) env h fun k h => if k = true then s env h else s' env h) := by
  obtain ⟨tt, pt, rt⟩ := ht
  obtain ⟨t, p, r⟩ := h1
  obtain ⟨u, p', r'⟩ := h2
  refine ⟨_, ps_if pt p p', fun T hc H env σ D w er h => rt T hc H env σ _ w er (Post.imp (OPost.exS w er h) fun k T' H' e p => ?_)⟩
  obtain ⟨hc', _, w', p⟩ := p
  cases k with
  | true => exact r T' hc' H' env σ D w' (er.ext w e) p
  | false => exact r' T' hc' H' env σ D w' (er.ext w e) p

/-! ### assignments -/
theorem setTg_res (tg : Tg) (d : D) (env : Env) (hc : Hc) : (∃ e, setTg tg d env hc = .ok e hc) ∨ setTg tg d env hc = .bad := by
  cases tg with
  | nm i => exact .inl ⟨_, rfl⟩
  | tp is =>
    simp only [setTg]
    dsimp only [bnd]
    have : (∃ xs, seqM d hc = .ok xs hc) ∨ seqM d hc = .bad := by
      cases d with
      | tup xs => exact .inl ⟨_, rfl⟩
      | fl xs => exact .inl ⟨_, rfl⟩
      | kl xs => exact .inl ⟨_, rfl⟩
      | ref i =>
        simp only [seqM]
        unfold lstAt
        cases q : hc[i]? with
        | none => exact .inr rfl
        | some o => cases o <;> first | exact .inl ⟨_, rfl⟩ | exact .inr rfl
      | _ => exact .inr rfl
    rcases this with ⟨xs, q⟩ | q
    · rw [q]
      dsimp only [Cl.guard]
      split
      · exact .inl ⟨_, rfl⟩
      · exact .inr rfl
    · rw [q]; exact .inr rfl
/-- a target is set -/
theorem tgSet {tg : Tg} {T : Tk} {hc : Hc} {H : Hp} {env : Env} {σ : L2.St} {d : D} {v : V} {D' : Ends} {g : TG} {k : Env → Hc → Out}
    (rg : ∀ T hc H env σ d v (Q : L2.St → Hp → Prop), Wd X.K T hc H → EnvR X.K T H env σ → Rep X.K T H d v →
      (match setTg tg d env hc with
        | .ok env' _ => ∀ σ', EnvR X.K T H env' σ' → (∀ own, (∀ i ∈ tgSlots tg, i ∈ own) → L2.wipe σ' own = L2.wipe σ own) → Q σ' H
        | _ => False) → g v σ H Q)
    (w : Wd X.K T hc H) (er : EnvR X.K T H env σ) (r : Rep X.K T H d v) (h : OPost X.K T H D' W (exS (setTg tg d env) env hc k)) {Q : L2.St → Hp → Prop} (f : ∀ env' σ', EnvR X.K T H env' σ' → OPost X.K T H D' W (k env' hc) → Q σ' H) : g v σ H Q := by
  refine rg T hc H env σ d v Q w er r ?_
  unfold Cl.exS at h
  rcases setTg_res tg d env hc with ⟨e, q⟩ | q
  · rw [q] at h ⊢
    exact fun σ' er' _ => f e σ' er' h
  · rw [q] at h; exact h.elim
theorem cs_asg {tg : Tg} {t : Expr} (hs : swapsWithSole [t] a pos.line X.env = pure false) (hw : swappedStores [t] a X.env = pure none) (h1 : (assignEach [t] X.env).map (·.2) = [assign t X.env]) (ha : CE C X W sc a ma) (hg : CG X W tg t) :
    CS X W (.Assign [t] a pos) (fun env h => exS (bnd (ma env) fun d => setTg tg d env) env h fun e h => .nx e h) := by
  obtain ⟨ta, pa, _, ra⟩ := ha
  obtain ⟨g, pg, rg⟩ := hg
  refine ⟨_, ps_asg pa pg hs hw h1, fun T hc H env σ D w er h => ?_⟩
  have h' : OPost X.K T H D W (exS (ma env) env hc fun d h => exS (setTg tg d env) env h fun e h => .nx e h) := by
    have e : exS (bnd (ma env) fun d => setTg tg d env) env hc (fun e h => Out.nx e h) = exS (ma env) env hc fun d h => exS (setTg tg d env) env h fun e h => .nx e h := by
      unfold Cl.exS bnd
      cases ma env hc <;> rfl
    rw [← e]; exact h
  refine ra T hc H env σ _ w er (Post.imp (OPost.exS w er h') fun d T' H' e p v r => ?_)
  obtain ⟨hc', _, w', p⟩ := p
  exact tgSet rg w' (er.ext w e) r p fun env' σ' er' q => q T' H' σ' (Ext.refl T' H') w' er'
/-- a comprehension goes to its name by its own road -/
theorem cs_own (g : Gd C G Cs k X W sc) {i : Nat} {y : Str} {py : Pos} (hN : X.N[i]? = some y) (go : goesOwn sc y py a = true) (ha : CE C X W sc a ma) :
    CS X W (.Assign [.Name y py] a pos) (fun env h => exS (bnd (ma env) fun d => setTg (.nm i) d env) env h fun e h => .nx e h) := by
  obtain ⟨ta, pa, ow, ra⟩ := ha
  refine ⟨_, ow i y py pos hN go, fun T hc H env σ D w er h => ?_⟩
  have h' : OPost X.K T H D W (exS (ma env) env hc fun d h => exS (setTg (.nm i) d env) env h fun e h => .nx e h) := by
    have e : exS (bnd (ma env) fun d => setTg (.nm i) d env) env hc (fun e h => Out.nx e h) = exS (ma env) env hc fun d h => exS (setTg (.nm i) d env) env h fun e h => .nx e h := by
      unfold Cl.exS bnd
      cases ma env hc <;> rfl
    rw [← e]; exact h
  refine ra T hc H env σ _ w er (Post.imp (OPost.exS w er h') fun d T' H' e p v r => ?_)
  obtain ⟨hc', _, w', p⟩ := p
  exact p T' H' _ (Ext.refl T' H') w' ((er.ext w e).set r)
theorem bnd_unit {m : M Unit} {hc : Hc} : bnd m (fun _ => pur ()) hc = m hc := by
  unfold bnd pur
  cases m hc <;> rfl
/-- what a store to a place of a list asks -/
theorem post_store {K : PySem.W.Frag} {T : Tk} {hc : Hc} {H : Hp} {l i d : Cl.D} {ov iv v : V} {okQ : Unit → Tk → Hp → Prop} {exP : XK} {Q : Hp → Prop} (w : Wd K T hc H) (rl : Rep K T H l ov) (ri : Rep K T H i iv) (rd : Rep K T H d v)
    (h : Post K T H okQ exP ((match l, i with
      | .ref r, .int k => bnd (lstAt r) fun xs => bnd (optM (ixN xs.length k)) fun j => putAt r (.lst (xs.set j d))
      | _, _ => stuck) hc)) (f : ∀ hc' H', Ext T H T H' → Wd K T hc' H' → okQ () T H' → Q H') : rSetL ov iv v H Q := by
  split at h
  · next r kk =>
    obtain ⟨xs, p, vs, q, hp, hv, ll, rr, h2⟩ := post_lstAt (okP := fun _ _ _ => True) w h
    simp only [Rep] at rl ri
    obtain ⟨p', ep, hp'⟩ := rl
    rw [hp] at hp'; cases hp'
    subst ep
    cases q1 : ixN xs.length kk with
    | none => rw [q1] at h2; exact h2.elim
    | some j =>
      rw [q1] at h2
      have h3 : Post K T H okQ exP (putAt r (.lst (xs.set j d)) hc) := h2
      have h4 : Post K T H okQ exP (bnd (putAt r (.lst (xs.set j d))) (fun _ => pur ()) hc) := by
        rw [bnd_unit]; exact h3
      obtain ⟨w2, e2, h5⟩ := post_putAt w hp (rr.set j rd) (by rw [List.length_set]; exact ll) ⟨vs, hv⟩ h4
      exact ⟨p, vs, kk, j, rfl, ri, hv, by rw [rr.length]; exact q1, f _ _ e2 w2 (h5.of_pur w2)⟩
  · exact h.elim
theorem cs_asgSub {o x : Expr} {q p2 : Pos} (hsl : notSlice x = true) (ho : CE C X W sc o ma) (hx : CE C X W sc x mb) (ha : CE C X W sc a mc) :
    CS X W (.Assign [.Subscript o x q] a pos) (fun env h => exS (bnd (mc env) fun d => bnd (ma env) fun l => bnd (mb env) fun i => match l, i with
      | .ref r, .int k => bnd (lstAt r) fun xs => bnd (optM (ixN xs.length k)) fun j => putAt r (.lst (xs.set j d))
      | _, _ => stuck) env h fun _ h => .nx env h) := by
  obtain ⟨ta, pa, _, ra⟩ := ho
  obtain ⟨tb, pb, _, rb⟩ := hx
  obtain ⟨tc, pc, _, rc⟩ := ha
  have hsw : swapsWithSole [.Subscript o x q] a pos.line X.env = pure false := by
    cases a <;> rfl
  refine ⟨_, ps_asg pc (pg_sub pa pb set_list (by intro v; cases x <;> first | rfl | (simp [notSlice] at hsl))) hsw rfl rfl, fun T hc H env σ D w er h => ?_⟩
  refine read1 rc w er (OPost.exS w er h) fun d T1 hc1 H1 v e1 w1 er1 r1 h1 => ?_
  refine read1 ra w1 er1 h1 fun l T2 hc2 H2 ov e2 w2 er2 r2 h2 => ?_
  refine read1 rb w2 er2 h2 fun i T3 hc3 H3 iv e3 w3 er3 r3 h3 => ?_
  refine post_store w3 (Rep.ext w2 e3 _ _ r2) r3 (Rep.ext w2 e3 _ _ (Rep.ext w1 e2 _ _ r1)) h3 fun hc' H' e' w' p => ?_
  obtain ⟨hc'', _, w'', p⟩ := p
  exact p T3 H' σ (Ext.refl T3 H') w'' (er3.ext w3 e')
theorem getList : PGet X (rIxL X.K) := by
  intro pins s σ H o i ov iv Q I ro ri h
  obtain ⟨p, xs, i, z, rfl, rfl, hq, he, q⟩ := h
  cases ro
  obtain ⟨t, rfl⟩ := ri
  obtain ⟨its, r, pl, hz⟩ := I.list hq
  obtain ⟨j, h1, h2, h3, h4, h5⟩ := atI_get he
  obtain ⟨w, ew, rw'⟩ := r.get h2
  have hl := r.length
  have hn := line63
  have fin : EP X pins σ Q w s := ⟨z, H, I, rw', q⟩
  by_cases h0 : 0 ≤ i
  · have hj : i.toNat = j := by
      rw [seqIndex_of h0 h5] at h1
      exact Option.some.inj h1
    exact wpAny_getItem_list pl.isList h0 (by omega) (by rw [hj]; simpa using ew) fin
  · have hj : (i + (its.toArray.size : Int)).toNat = j := by
      rw [seqIndex_neg (by omega) h4] at h1
      rw [List.size_toArray, ← hl]
      exact Option.some.inj h1
    exact wpAny_getItem_list_neg pl.isList (by omega) (by rw [List.size_toArray] <;> omega) (by omega) (by rw [hj]; simpa using ew) fin
theorem cs_aug (g : Gd C G Cs k X W sc) {i : Nat} {y : Str} {o : Operator} {p2 : Pos} (hN : C.N[i]? = some y) (hl : locB sc y = true) (ha : CE C X W sc a ma) :
    CS X W (.AugAssign (.Name y p2) o a pos) (fun env h => exS (bnd (optM ((env[i]?).bind id)) fun x => bnd (ma env) fun y => augM o x y) env h fun d h => .nx (env.set i (some d)) h) := by
  obtain ⟨ta, pa, _, ra⟩ := ha
  refine ⟨_, ps_aug (i := i) g.nd (by rw [g.N]; exact hN) (g.lo hl) pa (fun pins s σ H x y v u Q I r r' h => opAug o pins s σ H x y v u Q I r r' h) (g.loc y hl), fun T hc H env σ D w er h => ?_⟩
  have p0 := OPost.exS w er h
  cases q' : env[i]? with
  | none => rw [q'] at p0; exact p0.elim
  | some oo =>
  cases oo with
  | none => rw [q'] at p0; exact p0.elim
  | some x =>
    rw [q'] at p0
    obtain ⟨v, hv, rv⟩ := er.2 i x q'
    have p1 : Post X.K T H _ (WE W σ) (bnd (ma env) (fun y => augM o x y) hc) := p0
    refine ⟨v, hv, read1 ra w er p1 fun d T2 hc2 H2 u e2 w2 er2 r2 h2 => ?_⟩
    refine post_aug w2 (Rep.ext w e2 _ _ rv) r2 (Post.imp h2 fun d T' H' e p v r => ?_)
    obtain ⟨hc', _, w', p⟩ := p
    exact p T' H' _ (Ext.refl T' H') w' ((er2.ext w2 e).set r)
theorem cs_augS {o : Operator} {l x : Expr} {p2 : Pos} (hsl : notSlice x = true) (hl : CE C X W sc l ma) (hx : CE C X W sc x mb) (ha : CE C X W sc a mc) :
    CS X W (.AugAssign (.Subscript l x p2) o a pos) (fun env h => exS (bnd (ma env) fun l => bnd (mb env) fun i => match l with
      | .ref _ => bnd (idxM l i) fun x => bnd (mc env) fun y => bnd (augM o x y) fun d => match l, i with
        | .ref r, .int k => bnd (lstAt r) fun xs => bnd (optM (ixN xs.length k)) fun j => putAt r (.lst (xs.set j d))
        | _, _ => stuck
      | _ => stuck) env h fun _ h => .nx env h) := by
  obtain ⟨ta, pa, _, ra⟩ := hl
  obtain ⟨tb, pb, _, rb⟩ := hx
  obtain ⟨tc, pc, _, rc⟩ := ha
  refine ⟨_, ps_augS pa pb getList pc (fun pins s σ H x y v u Q I r r' h => opAug o pins s σ H x y v u Q I r r' h) set_list (by intro ov iv new; cases x <;> first | rfl | (simp [notSlice] at hsl)), fun T hc H env σ D w er h => ?_⟩
  refine read1 ra w er (OPost.exS w er h) fun l T1 hc1 H1 ov e1 w1 er1 r1 h1 => ?_
  refine read1 rb w1 er1 h1 fun i T2 hc2 H2 iv e2 w2 er2 r2 h2 => ?_
  have r1' := Rep.ext w1 e2 _ _ r1
  cases l with
  | ref n =>
    dsimp only at h2
    -- the item
    cases i with
    | int kk =>
      simp only [idxM] at h2
      rw [bnd_assoc] at h2
      obtain ⟨xs, p, vs, ev, s, sl, stt, lv, rr, h3, _⟩ := post_seq w2 r1' h2
      cases q1 : atI xs kk with
      | none => rw [q1] at h3; exact h3.elim
      | some d0 =>
        rw [q1] at h3
        obtain ⟨z, hz, rz⟩ := atI_rep rr q1
        simp only [Rep] at r2
        refine ⟨p, vs, kk, z, ev, r2, sl (fun _ h => by cases h), hz, ?_⟩
        have h4 : Post X.K T2 H2 _ (WE W σ) (bnd (mc env) (fun y => bnd (augM o d0 y) fun d => bnd (lstAt n) fun xs => bnd (optM (ixN xs.length kk)) fun j => putAt n (.lst (xs.set j d))) hc2) := h3
        refine read1 rc w2 er2 h4 fun d3 T3 hc3 H3 u e3 w3 er3 r3 h5 => ?_
        refine post_aug w3 (Rep.ext w2 e3 _ _ rz) r3 (Post.imp (Post.bind h5) fun d T4 H4 e4 pp v rv => ?_)
        obtain ⟨hc4, _, w4, h6⟩ := pp
        refine post_store (l := .ref n) (i := .int kk) (d := d) w4 (Rep.ext w3 e4 _ _ (Rep.ext w2 e3 _ _ r1')) (by simp only [Rep]; exact r2) rv h6 fun hc' H' e' w' p => ?_
        obtain ⟨hc'', _, w'', p⟩ := p
        exact p T4 H' σ (Ext.refl T4 H') w'' ((er3.ext w3 e4).ext w4 e')
    | _ => exact h2.elim
  | _ => exact h2.elim

/-! ### a, b = x, y -/
theorem repL_two {K : PySem.W.Frag} {T : Tk} {H : Hp} {ds : List Cl.D} {vs : List V} (r : RepL K T H ds vs) (l : ds.length = 2) : ∃ d d' v v', ds = [d, d'] ∧ vs = [v, v'] ∧ Rep K T H d v ∧ Rep K T H d' v' := by
  match ds, l with
  | [d, d'], _ =>
    obtain ⟨v, v', e, a, b⟩ := repL2 r
    exact ⟨d, d', v, v', rfl, e, a, b⟩
theorem repL_three {K : PySem.W.Frag} {T : Tk} {H : Hp} {ds : List Cl.D} {vs : List V} (r : RepL K T H ds vs) (l : ds.length = 3) : ∃ d d' d'' v v' v'', ds = [d, d', d''] ∧ vs = [v, v', v''] ∧ Rep K T H d v ∧ Rep K T H d' v' ∧ Rep K T H d'' v'' := by
  match ds, l with
  | [d, d', d''], _ =>
    simp only [RepL] at r
    obtain ⟨v, t, e, a, v', t', e', a', v'', t'', e'', a'', e3⟩ := r
    exact ⟨d, d', d'', v, v', v'', rfl, by rw [e, e', e'', e3], a, a', a''⟩
theorem cs_par2 (g : Gd C G Cs k X W sc) (hcm : C.cm = true) {i j : Nat} {x y : Str} {px py pt pt2 : Pos} {kt k2 : Nat} (hi : C.N[i]? = some x) (hj : C.N[j]? = some y) (hij : i ≠ j) (hx : loclB sc x = true) (hy : loclB sc y = true)
    (hw : swappedStores [.Tuple [.Name x px, .Name y py] kt pt] (.Tuple [a, b] k2 pt2) X.env = pure (some [x, y])) (hA : CA X W [a, b] mA) :
    CS X W (.Assign [.Tuple [.Name x px, .Name y py] kt pt] (.Tuple [a, b] k2 pt2) pos) (fun env h => exS (mA env) env h fun xs h => if xs.length = [i, j].length then .nx (([i, j].zip xs).foldl (fun e p => e.set p.1 (some p.2)) env) h else .bad) := by
  obtain ⟨tA, pA, rA⟩ := hA
  refine ⟨_, ps_par (g.calm hcm) g.nd (by rw [g.N]; exact hi) (by rw [g.N]; exact hj) hij (g.locl hx) (g.locl hy) pA hw, fun T hc H env σ D w er h => ?_⟩
  refine rA T hc H env σ _ w er (Post.imp (OPost.exS w er h) fun ds T' H' e p vs r => ?_)
  obtain ⟨hc', _, w', p⟩ := p
  split at p
  · next l =>
    obtain ⟨d, d', v, v', e1, e2, r1, r2⟩ := repL_two r l
    subst e1; subst e2
    exact ⟨v, v', rfl, p T' H' _ (Ext.refl T' H') w' (((er.ext w e).set r1).set r2)⟩
  · exact p.elim
theorem cs_par3 (g : Gd C G Cs k X W sc) (hcm : C.cm = true) {i j l : Nat} {x y z : Str} {px py pz pt pt2 : Pos} {kt k2 : Nat} (hi : C.N[i]? = some x) (hj : C.N[j]? = some y) (hl : C.N[l]? = some z) (hij : i ≠ j) (hil : i ≠ l) (hjl : j ≠ l) (hx : loclB sc x = true) (hy : loclB sc y = true) (hz : loclB sc z = true)
    (hw : swappedStores [.Tuple [.Name x px, .Name y py, .Name z pz] kt pt] (.Tuple [a, b, c] k2 pt2) X.env = pure (some [x, y, z])) (hA : CA X W [a, b, c] mA) :
    CS X W (.Assign [.Tuple [.Name x px, .Name y py, .Name z pz] kt pt] (.Tuple [a, b, c] k2 pt2) pos) (fun env h => exS (mA env) env h fun xs h => if xs.length = [i, j, l].length then .nx (([i, j, l].zip xs).foldl (fun e p => e.set p.1 (some p.2)) env) h else .bad) := by
  obtain ⟨tA, pA, rA⟩ := hA
  refine ⟨_, L2.ps_par3 (g.calm hcm) g.nd (by rw [g.N]; exact hi) (by rw [g.N]; exact hj) (by rw [g.N]; exact hl) hij hil hjl (g.locl hx) (g.locl hy) (g.locl hz) pA hw, fun T hc H env σ D w er h => ?_⟩
  refine rA T hc H env σ _ w er (Post.imp (OPost.exS w er h) fun ds T' H' e p vs r => ?_)
  obtain ⟨hc', _, w', p⟩ := p
  split at p
  · next q =>
    obtain ⟨d, d', d'', v, v', v'', e1, e2, r1, r2, r3⟩ := repL_three r q
    subst e1; subst e2
    exact ⟨v, v', v'', rfl, p T' H' _ (Ext.refl T' H') w' ((((er.ext w e).set r1).set r2).set r3)⟩
  · exact p.elim

/-! ### loops -/
theorem exS_bad {α : Type} {m : M α} {env : Env} {h : Hc} {k : α → Hc → Out} {o : Out} (e : exS m env h k = o) (nb : o ≠ .bad) : (∃ a h', m h = .ok a h' ∧ o = k a h') ∨ ∃ c fs h', m h = .exc c fs h' ∧ o = .exc c fs env h' := by
  unfold Cl.exS at e
  cases q : m h with
  | ok a h' => rw [q] at e; exact .inl ⟨a, h', rfl, e.symm⟩
  | exc c fs h' => rw [q] at e; exact .inr ⟨c, fs, h', rfl, e.symm⟩
  | bad => rw [q] at e; exact absurd e.symm nb
theorem OPost.nb {K : PySem.W.Frag} {T : Tk} {H : Hp} {D : Ends} {W : WX} {o : Out} (h : OPost K T H D W o) : o ≠ .bad := fun e => by rw [e] at h; exact h
theorem cs_for (g : Gd C G Cs k X W sc) (hcm : C.cm = true) (hp : PassesOwn (model X.prog X.w) X.A X.env X.xe) {tg : Tg} {t it : Expr} {mi : Env → M Src} (hns : notSet it = true) (hi : CI X W t it mi) (hg : CG X W tg t) (hb : CB X W sts s) :
    CS X W (.For t it sts [] pos) (fun env h => exS (mi env) env h fun sr h => forL tg sr.dep s sr.items env h) := by
  obtain ⟨wi, pi, ri⟩ := hi
  obtain ⟨gg, pg, rg⟩ := hg
  obtain ⟨tb, pb, rb⟩ := hb
  refine ⟨_, ps_for hp (g.calm hcm) pi pg pb (fun x => setOf_iter hns x), fun T hc H env σ D w er h => ?_⟩
  refine ri T hc H env σ _ w er (Post.imp (OPost.exS w er h) fun sr T1 H1 e1 p J it => ?_)
  obtain ⟨hc1, _, w1, h1⟩ := p
  have er1 := er.ext w e1
  generalize ho : forL tg sr.dep s sr.items env hc1 = o at h1
  refine ⟨fun i m τ Hx => i + m = sr.items.length ∧ ∃ T hc env, Ext T1 H1 T Hx ∧ Wd X.K T hc Hx ∧ EnvR X.K T Hx env τ ∧ forL tg sr.dep s (sr.items.drop i) env hc = o, ⟨sr.items.length, by omega, T1, hc1, env, Ext.refl T1 H1, w1, er1, ho⟩, fun i m τ Hx hW => ?_⟩
  obtain ⟨em, T2, hc2, env2, e2, w2, er2, run⟩ := hW
  have nb := h1.nb
  by_cases hlt : i < sr.items.length
  · have hdrop : sr.items.drop i = sr.items[i] :: sr.items.drop (i + 1) := List.drop_eq_getElem_cons hlt
    rw [hdrop] at run
    unfold forL at run
    rcases exS_bad run nb with ⟨env3, hc3, q, eo⟩ | ⟨c, fs, hc3, q, eo⟩
    · obtain ⟨dd, st⟩ := depOk_ok q
      have es := setTg_same st
      rw [es] at st eo
      clear es
      refine .inr ⟨it.go i hlt T2 hc2 Hx e2.g w2 dd, fun τ' H' => ∃ T hc env, Ext T1 H1 T H' ∧ Wd X.K T hc H' ∧ EnvR X.K T H' env τ' ∧ forL tg sr.dep s (sr.items.drop (i + 1)) env hc = o, fun τ' H' hn => ⟨m - 1, by omega, by omega, hn⟩, fun x H' y => ?_⟩
      obtain ⟨e4, w4, rx⟩ := it.yld i _ (List.getElem?_eq_getElem hlt) T2 hc2 Hx e2.g w2 dd x H' y
      refine rg T2 hc2 H' env2 τ _ x _ w4 (er2.ext w2 e4) rx ?_
      rw [st]
      intro τ' er5 _
      refine rb T2 hc2 H' env3 τ' _ w4 er5 ?_
      cases qb : s env3 hc2 with
      | nx e' h' =>
        rw [qb] at eo
        exact fun T' H'' σ' ee ww rr => ⟨T', h', e', (e2.trans e4).trans ee, ww, rr, eo.symm⟩
      | ct e' h' =>
        rw [qb] at eo
        exact fun T' H'' σ' ee ww rr => ⟨T', h', e', (e2.trans e4).trans ee, ww, rr, eo.symm⟩
      | bk e' h' =>
        rw [qb] at eo; dsimp only at eo
        rw [eo] at h1
        exact OPost.ext (e2.trans e4) h1
      | rt d h' =>
        rw [qb] at eo; dsimp only at eo
        rw [eo] at h1
        exact OPost.ext (e2.trans e4) h1
      | exc c fs e' h' =>
        rw [qb] at eo; dsimp only at eo
        rw [eo] at h1
        exact OPost.ext (e2.trans e4) h1
      | bad => rw [qb] at eo; exact absurd eo nb
    · exfalso
      unfold depOk at q
      split at q
      · rcases setTg_res tg sr.items[i] env2 hc2 with ⟨z, q2⟩ | q2
        · rw [q2] at q; cases q
        · rw [q2] at q; cases q
      · cases q
  · have hi' : i = sr.items.length := by omega
    subst hi'
    rw [List.drop_length] at run
    unfold forL at run
    rcases exS_bad run nb with ⟨env3, hc3, q, eo⟩ | ⟨c, fs, hc3, q, eo⟩
    · obtain ⟨dd, st⟩ := depOk_ok q
      have es : hc3 = hc2 := by
        have : Res.ok () hc2 = Res.ok env3 hc3 := st
        cases this; rfl
      rw [es] at eo
      refine .inl ⟨it.stop T2 hc2 Hx e2.g w2 dd, ?_⟩
      rw [eo] at h1
      exact h1 T2 Hx τ e2 w2 er2
    · exfalso
      unfold depOk at q
      split at q
      · cases q
      · cases q
theorem cs_whl (hp : PassesOwn (model X.prog X.w) X.A X.env X.xe) {mt : Env → M Bool} (ht : CT X W c mt) (hb : CB X W sts s) : CS X W (.While c sts [] pos) (fun env h => whlR mt s env h) := by
  obtain ⟨tt, pt, rt⟩ := ht
  obtain ⟨tb, pb, rb⟩ := hb
  refine ⟨_, ps_while hp pt pb, fun T hc H env σ D w er h => ?_⟩
  obtain ⟨n, hn⟩ := whlR_has (OPost.nb h)
  dsimp only at h
  generalize ho : whlR mt s env hc = o at h hn
  refine ⟨fun m τ Hx => ∃ T2 hc2 env2, Ext T H T2 Hx ∧ Wd X.K T2 hc2 Hx ∧ EnvR X.K T2 Hx env2 τ ∧ whlN mt s m env2 hc2 = some o, ⟨n, T, hc, env, Ext.refl T H, w, er, hn⟩, fun m τ Hx hW => ?_⟩
  obtain ⟨T2, hc2, env2, e2, w2, er2, run⟩ := hW
  have nb : o ≠ .bad := OPost.nb h
  cases m with
  | zero => simp [whlN] at run
  | succ m =>
    unfold whlN at run
    refine rt T2 hc2 Hx env2 τ _ w2 er2 ?_
    cases q : mt env2 hc2 with
    | bad => rw [q] at run; simp only [Option.some.injEq] at run; exact absurd run.symm nb
    | exc c fs h' =>
      rw [q] at run; simp only [Option.some.injEq] at run
      rw [← run] at h
      exact fun T' H' dd e' w' rx => h T' H' τ dd (e2.trans e') w' (er2.ext w2 e') rx
    | ok b h' =>
      rw [q] at run
      intro T3 H3 e3 w3
      have er3 := er2.ext w2 e3
      cases b with
      | false =>
        simp only [Option.some.injEq] at run
        rw [← run] at h
        exact h T3 H3 τ (e2.trans e3) w3 er3
      | true =>
        dsimp only at run
        refine ⟨fun τ' H' => ∃ T2 hc2 env2, Ext T H T2 H' ∧ Wd X.K T2 hc2 H' ∧ EnvR X.K T2 H' env2 τ' ∧ whlN mt s m env2 hc2 = some o, fun τ' H' hn => ⟨m, by omega, hn⟩, ?_⟩
        refine rb T3 h' H3 env2 τ _ w3 er3 ?_
        cases qb : s env2 h' with
        | nx e' h2 =>
          rw [qb] at run
          exact fun T' H'' σ' ee ww rr => ⟨T', h2, e', (e2.trans e3).trans ee, ww, rr, run⟩
        | ct e' h2 =>
          rw [qb] at run
          exact fun T' H'' σ' ee ww rr => ⟨T', h2, e', (e2.trans e3).trans ee, ww, rr, run⟩
        | bk e' h2 =>
          rw [qb] at run; simp only [Option.some.injEq] at run
          rw [← run] at h
          exact OPost.ext (e2.trans e3) h
        | rt d h2 =>
          rw [qb] at run; simp only [Option.some.injEq] at run
          rw [← run] at h
          exact OPost.ext (e2.trans e3) h
        | exc c fs e' h2 =>
          rw [qb] at run; simp only [Option.some.injEq] at run
          rw [← run] at h
          exact OPost.ext (e2.trans e3) h
        | bad => rw [qb] at run; simp only [Option.some.injEq] at run; exact absurd run.symm nb

/-! ### exceptions -/
theorem cs_rse (g : Gd C G Cs k X W sc) (hcm : C.cm = true) {j : Nat} {x m : Str} {l : Nat} {p p2 p3 : Pos} (hr : C.rs.contains j = true) (hN : C.gs[j]? = some x) (hv : glB sc x = true) (ho : okName x = true) :
    CS X W (.Raise (some (.Call (.Name x p) [.Constant (.str m) l p2] [] p3)) none pos) (fun env h => match Cs[j]? with
      | some (.ob a) => .exc a [] env h
      | _ => .bad) := by
  cases q : Cs[j]? with
  | none => exact ⟨_, ps_never, fun T hc H env σ D w er h => h.elim⟩
  | some d =>
    cases d with
    | ob a =>
      obtain ⟨⟨B, newId, initId, bmB, F, ex⟩, kp, sb, ty⟩ := g.cf.rs j hr a q
      obtain ⟨y, hy, v, u, hm, r, hR⟩ := g.gc j _ q
      rw [hN] at hy; cases hy
      have hv2 := hR ⟨[], [], fun _ => False⟩ (fun _ => none)
      simp only [Rep] at hv2
      subst hv2
      cases r
      refine ⟨_, ps_raise (g.calm hcm) g.tk (pmk_own F ex hm kp (raises_own sb ty) (g.gl hv) (okName_d ho).1), fun T hc H env σ D w er h => ?_⟩
      exact h T H σ none (Ext.refl T H) w er (.inl ⟨rfl, rfl⟩)
    | _ => exact ⟨_, ps_never, fun T hc H env σ D w er h => h.elim⟩
/-- one reading for all contexts -/
def tClS (K : PySem.W.Frag) (W : WX) (s : Env → Hc → Out) : TS := fun D σ H => ∃ T hc env, Wd K T hc H ∧ EnvR K T H env σ ∧ OPost K T H D W (s env hc)
theorem CB.cl (h : CB X W sts s) : PSs X sts (tClS X.K W s) := by
  obtain ⟨t, p, r⟩ := h
  exact ⟨fun pins s σ H D I ⟨T, hc, env, w, er, q⟩ => p.run pins s σ H D I (r T hc H env σ D w er q)⟩
theorem OPost.suf {K : PySem.W.Frag} {T : Tk} {H : Hp} {D : Ends} {W : WX} {i : Nat} {o : Out} (h : OPost K T H D W (sufX i o)) :
    OPost K T H { nx := fun σ' H' => D.nx (σ'.set i none) H', rt := D.rt, bk := fun σ' H' => D.bk (σ'.set i none) H', ct := fun σ' H' => D.ct (σ'.set i none) H' } W0 o := by
  cases o with
  | nx e hc => exact fun T' H' σ' ee w er => h T' H' _ ee w (er.clear i)
  | bk e hc => exact fun T' H' σ' ee w er => h T' H' _ ee w (er.clear i)
  | ct e hc => exact fun T' H' σ' ee w er => h T' H' _ ee w (er.clear i)
  | rt d hc => exact h
  | exc _ _ _ _ => exact h.elim
  | bad => exact h.elim
theorem cs_try (g : Gd C G Cs k X W sc) (hs : X.stack = X.env :: X.outer) (hf : X.env.frame = some X.env.locals) {j kk i : Nat} {x n : Str} {body suite : List Stmt} {b₀ : Stmt} {np pos' : Pos} {sb : Env → Hc → Out} {ss : Addr → Env → Hc → Out}
    (hh : C.hs.contains (j, kk) = true) (hk : C.gs[kk]? = some x) (hv : glB sc x = true) (ho : okName x = true) (hi : C.N[i]? = some n) (hl : loclB sc n = true)
    (hb : ∀ (W : WX) (pn : List (Addr × Obj)) (xe : Value → Shared → Prop), Takes (X.tr pn xe) W → PassesOwn (model X.prog X.w) X.A X.env xe → CB (X.tr pn xe) W body sb)
    (hsu : ∀ (a c : Addr) (oe : Obj) (pn : List (Addr × Obj)), Cs[j]? = some (.ob c) → Zc (.ref c) none oe → (∃ vs, oe.data = .fields vs) → CB (X.suite a ((a, oe) :: pn)) W0 (b₀ :: suite) (ss a)) :
    CS X W (.Try body [.ExceptHandler (some (.Name x np)) (some n) (b₀ :: suite) pos'] [] [] pos) (fun env h => match Cs[j]? with
      | some (.ob a) => match sb env h with
        | .exc c fs env' h' => if c = a ∧ fs.isEmpty = true then sameFor fun x => sufX i (ss x (env'.set i (some (.ob x))) h') else .bad
        | o => o
      | _ => .bad) := by
  cases q : Cs[j]? with
  | none => exact cs_never
  | some d =>
    cases d with
    | ob cj =>
      obtain ⟨c, qc, em⟩ := g.cf.hs j kk hh cj q
      obtain ⟨y, hy, v, u, hm, r, hR⟩ := g.gc kk _ qc
      rw [hk] at hy; cases hy
      have hv2 := hR ⟨[], [], fun _ => False⟩ (fun _ => none)
      simp only [Rep] at hv2
      subst hv2
      cases r
      refine ⟨_, ps_try_as (i := i) (tb := fun W => tClS X.K W sb) (ts := fun a cls d D σ H => cls = .ref cj ∧ d = none ∧ tClS X.K W0 (ss a) D σ H) (Wout := W) hs hf g.nd (by rw [g.N]; exact hi) (g.locl hl) ⟨g.gl hv, (okName_d ho).1, .inl hm⟩ g.tk
        (fun W pn xe tk po => (hb W pn xe tk po).cl) (fun a oe cls d pn hz hf => ⟨fun pins s σ H D I ⟨e1, e2, h⟩ => by
          subst e1; subst e2
          exact ((hsu a cj oe pn q hz hf).cl).run pins s σ H D I h⟩), fun T hc H env σ D w er h => ⟨T, hc, env, w, er, ?_⟩⟩
      dsimp only at h
      cases qb : sb env hc with
      | nx _ _ => rw [qb] at h; exact h
      | bk _ _ => rw [qb] at h; exact h
      | ct _ _ => rw [qb] at h; exact h
      | rt _ _ => rw [qb] at h; exact h
      | bad => rw [qb] at h; exact h
      | exc c' fs env' h' =>
        rw [qb] at h
        dsimp only at h
        cases fs with
        | cons _ _ => rw [if_neg (by simp)] at h; exact h.elim
        | nil =>
          split at h
          · next ec =>
            obtain ⟨ec, _⟩ := ec
            subst ec
            have nb := OPost.nb h
            have ha := sameFor_has nb
            intro T' H' σ' dd e w' er' rx
            rcases rx with ⟨e1, _⟩ | ⟨_, _, _, _, _, z⟩
            · subst e1
              refine ⟨true, em, fun _ a _ => ⟨rfl, rfl, T', h', env'.set i (some (.ob a)), w', er'.set (by simp only [Rep]), OPost.suf (W := W) ?_⟩, fun z => nomatch z⟩
              rw [ha a]
              exact OPost.ext e h
            · exact absurd rfl z
          · exact h.elim
    | _ => exact cs_never
end
end Cl
/-! Statements: the checker's word is right. -/
namespace Cl
open PySem PySem.Spec PyProof.Rows L2

theorem fm_len {α β : Type} {f : α → Option β} : ∀ {l : List α}, (l.filterMap f).length = l.length → ∀ x ∈ l, (f x).isSome = true
  | [], _, _, h => by cases h
  | a :: l, e, x, h => by
    rw [List.filterMap_cons] at e
    have le := List.length_filterMap_le f l
    cases q : f a with
    | none => rw [q] at e; simp only [List.length_cons] at e; omega
    | some b =>
      rw [q] at e
      simp only [List.length_cons, Nat.add_right_cancel_iff] at e
      rcases List.mem_cons.mp h with z | z
      · rw [z, q]; rfl
      · exact fm_len e x z
theorem sameLine_of {l : Nat} : ∀ {es : List Expr}, (∀ e ∈ es, ∃ x p, e = .Name x p ∧ (p.line == l) = true) → sameLine l es = true
  | [], _ => rfl
  | e :: es, h => by
    obtain ⟨x, p, q, r⟩ := h e List.mem_cons_self
    subst q
    simp only [sameLine, r, Bool.true_and]
    exact sameLine_of fun e m => h e (List.mem_cons_of_mem _ m)
section
variable {C : Ck} {G : Gt} {Cs : List D} {k : Nat} {X : Cx} {W : WX} {sc : Scope} {pos : Pos}
theorem kind_fn (g : Gd C G Cs k X W sc) : (X.env.blockKind != ScopeKind.function) = false := by
  unfold Env.blockKind
  rw [g.scr.kind]; rfl
theorem sw_none (hsc : X.env.scope = sc) {ts vs : List Expr} {kt k2 : Nat} {p p2 : Pos} (h : cannot sc ts vs = true) : swappedStores [.Tuple ts kt p] (.Tuple vs k2 p2) X.env = pure none := by
  unfold swappedStores
  dsimp only
  split
  · rfl
  · next h1 =>
    split
    · rfl
    · split
      · rfl
      · next h3 =>
        split
        · rfl
        · next h4 =>
          exfalso
          simp only [Bool.or_eq_true, not_or, Bool.not_eq_true, bne_eq_false_iff_eq] at h1 h3
          unfold cannot at h
          rw [Bool.or_eq_true, Bool.or_eq_true, Bool.or_eq_true] at h
          rcases h with ((h | h) | h) | h
          · rw [h] at h1; exact absurd h1.1.1 (by simp)
          · rw [bne_iff_ne] at h; exact h h1.1.2
          · have hm := fm_len h3.1
            have z : ∀ e ∈ ts, ∃ x p, e = .Name x p ∧ X.env.kindOf x = some .local ∧ (p.line == (ts.head?.map (·.pos.line)).getD 0) = true := by
              intro e m
              have := hm e m
              cases e <;> simp only [Option.isSome_none, Bool.false_eq_true] at this
              next x p =>
              split at this
              · next q => rw [Bool.and_eq_true] at q; exact ⟨x, p, rfl, by simpa using q.1, q.2⟩
              · cases this
            have hl : (ts.head?.map (·.pos.line)).getD 0 = lineOf ts := by
              cases ts with
              | nil => rfl
              | cons e r =>
                obtain ⟨x, p, q, _⟩ := z e List.mem_cons_self
                subst q; rfl
            rw [hl] at z
            have s1 : sameLine (lineOf ts) ts = true := sameLine_of fun e m => by
              obtain ⟨x, p, a, _, b⟩ := z e m
              exact ⟨x, p, a, b⟩
            have s2 : ∀ f : Expr → Bool, (∀ x p, loclB sc x = true → f (.Name x p) = true) → ts.all f = true := by
              intro f hf
              rw [List.all_eq_true]
              intro e m
              obtain ⟨x, p, a, b, _⟩ := z e m
              subst a
              unfold Env.kindOf at b
              rw [hsc] at b
              exact hf x p (by simp only [loclB, b])
            rw [s1, s2 _ (fun x p h => h)] at h
            simp at h
          · exact h4 h
theorem sw_some (g : Gd C G Cs k X W sc) (hsc : X.env.scope = sc) {ts vs : List Expr} {kt k2 : Nat} {p p2 : Pos} {names : List Str} (hs : ∀ e ∈ vs, ∀ a b, e ≠ .Starred a b) (h : swaps sc ts vs = true) (h2 : vs.all (foldedForSure 8) = false) (h3 : vs.all (constantsAlone 8) = false)
    (hn : ts.filterMap (fun t => match t with | .Name x _ => some x | _ => none) = names) (hd : names.eraseDups.length = names.length) : swappedStores [.Tuple ts kt p] (.Tuple vs k2 p2) X.env = pure (some names) := by
  unfold swaps at h
  rw [Bool.and_eq_true, Bool.and_eq_true, Bool.and_eq_true, beq_iff_eq] at h
  obtain ⟨⟨⟨a, b⟩, c⟩, d⟩ := h
  have hm : ∀ e ∈ ts, ∃ x p, e = .Name x p ∧ X.env.kindOf x = some .local ∧ (p.line == lineOf ts) = true := by
    intro e m
    have s2 := List.all_eq_true.mp d e m
    cases e <;> simp only [Bool.false_eq_true] at s2
    next x p =>
    refine ⟨x, p, rfl, ?_, ?_⟩
    · unfold Env.kindOf
      rw [hsc]
      unfold loclB at s2
      split at s2
      · next q => exact q
      · cases s2
    · have : ∀ {l : Nat} {es : List Expr}, sameLine l es = true → ∀ {x p}, Expr.Name x p ∈ es → (p.line == l) = true := by
        intro l es
        induction es with
        | nil => intro _ _ _ m; cases m
        | cons e r ih =>
          intro h x p m
          cases e <;> simp only [sameLine, Bool.false_eq_true, Bool.and_eq_true] at h
          rcases List.mem_cons.mp m with z | z
          · cases z; exact h.1
          · exact ih h.2 z
      exact this c m
  have hl : (ts.head?.map (·.pos.line)).getD 0 = lineOf ts := by
    cases ts with
    | nil => rfl
    | cons e r =>
      obtain ⟨x, p, q, _⟩ := hm e List.mem_cons_self
      subst q; rfl
  have key : ∀ (f : Expr → Option Str) (l : List Expr), (∀ e ∈ l, e ∈ ts) → (∀ x p, X.env.kindOf x = some .local → (p.line == lineOf ts) = true → f (.Name x p) = some x) → l.filterMap f = l.filterMap (fun t => match t with | .Name x _ => some x | _ => none) := by
    intro f l
    induction l with
    | nil => intro _ _; rfl
    | cons e r ih =>
      intro hh hf
      obtain ⟨x, p, q, e1, e2⟩ := hm e (hh e List.mem_cons_self)
      subst q
      rw [List.filterMap_cons, List.filterMap_cons, ih (fun e m => hh e (List.mem_cons_of_mem _ m)) hf, hf x p e1 e2]
  have hlen : names.length = ts.length := by
    rw [← hn]
    have : ∀ (l : List Expr), (∀ e ∈ l, e ∈ ts) → (l.filterMap (fun t => match t with | .Name x _ => some x | _ => none)).length = l.length := by
      intro l
      induction l with
      | nil => intro _; rfl
      | cons e r ih =>
        intro hh
        obtain ⟨x, p, q, e1, e2⟩ := hm e (hh e List.mem_cons_self)
        subst q
        simp only [List.filterMap_cons, List.length_cons, ih fun e m => hh e (List.mem_cons_of_mem _ m)]
    exact this ts fun _ m => m
  have n1 : (!(ts.length == 2 || ts.length == 3) || vs.length != ts.length || X.env.blockKind != .function) = false := by
    rw [a, kind_fn g]
    simp [b]
  have n2 : (vs.any fun e => match e with | .Starred .. => true | _ => false) = false := by
    rw [List.any_eq_false]
    intro e m
    have := hs e m
    cases e <;> first | (exact absurd rfl (this _ _)) | simp
  unfold swappedStores
  dsimp only
  rw [if_neg (by rw [n1]; simp)]
  rw [if_neg (show ¬ (_ = true) from by rw [Bool.not_eq_true]; exact n2)]
  simp only [hl]
  rw [key _ ts (fun _ m => m) (fun x p e1 e2 => by simp only [e1, e2, beq_self_eq_true, Bool.and_self, if_pos]), hn]
  rw [if_neg (by simp [hlen, hd]), if_neg (by rw [h2]; simp), if_neg (by rw [h3]; simp)]
end
end Cl
/-! Statements: the checker's word is right, all together. -/
namespace Cl
open PySem PySem.Spec PyProof.Rows L2

/-- a def's own frame -/
structure Top (X : Cx) (sc : Scope) : Prop where
  hsc : X.env.scope = sc
  hp : PassesOwn (model X.prog X.w) X.A X.env X.xe
  hs : X.stack = X.env :: X.outer
  hf : X.env.frame = some X.env.locals
section
variable (Cs : List D) (k : Nat)
structure SndS (ir : S) : Prop where
  s : ∀ {C G X W sc}, Gd C G Cs k X W sc → Top X sc → ∀ {st}, chkS F0 C ir sc st = true → CS X W st (semS G Cs ir)
  b : ∀ {C G X W sc}, Gd C G Cs k X W sc → Top X sc → ∀ {st}, chkB F0 C ir sc st = true → CB X W st (semS G Cs ir)
end
section
variable {C : Ck} {G : Gt} {Cs : List D} {k : Nat} {X : Cx} {W : WX} {sc : Scope}
theorem CS.as {st : Stmt} {m m' : Env → Hc → Out} (h : CS X W st m) (e : m = m') : CS X W st m' := e ▸ h
theorem CB.as {st : List Stmt} {m m' : Env → Hc → Out} (h : CB X W st m) (e : m = m') : CB X W st m' := e ▸ h
theorem sole_name {y : Str} {py : Pos} {v : Expr} (env : PySem.Env) : swappedStores [.Name y py] v env = pure none := by
  cases v <;> rfl
theorem sole_tup {ts : List Expr} {kt : Nat} {p : Pos} {v : Expr} (h : isTup v = false) (env : PySem.Env) : swappedStores [.Tuple ts kt p] v env = pure none := by
  cases v <;> first | (simp [isTup] at h; done) | rfl
theorem Post.ex {α : Type} {K : PySem.W.Frag} {T : Tk} {H : Hp} {okP : α → Tk → Hp → Prop} {exP : XK} {r : Res α} (h : Post K T H okP (fun _ _ _ => False) r) : Post K T H okP exP r := by
  cases r with
  | ok a hc => exact h
  | exc c fs hc => exact fun T' H' dd e w x => (h T' H' dd e w x).elim
  | bad => exact h
theorem Post.of_calm {α : Type} {K : PySem.W.Frag} {T : Tk} {H : Hp} {okP : α → Tk → Hp → Prop} {exP : XK} {m : M α} {hc : Hc} (h : Post K T H okP exP (calmly m hc)) : Post K T H okP (fun _ _ _ => False) (m hc) := by
  unfold calmly at h
  cases q : m hc with
  | ok a hc' => rw [q] at h; exact h
  | exc c fs hc' => rw [q] at h; exact h.elim
  | bad => rw [q] at h; exact h
theorem storeM_eq (l i d : Cl.D) : storeM l i d = (match l, i with
      | .ref r, .int k => bnd (lstAt r) fun xs => bnd (optM (ixN xs.length k)) fun j => putAt r (.lst (xs.set j d))
      | _, _ => stuck) := by
  cases l <;> cases i <;> rfl
/-- places and names, set one after another -/
theorem pgs_ats (g : Gd C G Cs k X W sc) : ∀ {ts : List At} {es : List Expr}, chkAts C (F0 C) sc ts es = true →
    (∀ e ∈ es, isStar e = false) ∧ es.length = ts.length ∧ ∃ u, PGs X es u ∧ ∀ T hc H env σ xs vs (Q : L2.St → Hp → Prop), Wd X.K T hc H → EnvR X.K T H env σ → RepL X.K T H xs vs →
      Post X.K T H (fun env' T' H' => ∀ σ', EnvR X.K T' H' env' σ' → Q σ' H') (fun _ _ _ => False) (setAts G Cs ts xs env hc) → u vs σ H Q
  | [], [], _ => ⟨fun _ h => (by cases h), rfl, _, pgs_nil, fun T hc H env σ xs vs Q w er r p => by
    cases xs with
    | nil =>
      simp only [RepL] at r
      exact ⟨r, p.of_pur w σ er⟩
    | cons x xs => exact p.elim⟩
  | .tg (.nm i) :: ts, e :: es, h => by
    cases e with
    | Name x p =>
      simp only [chkAts, Bool.and_eq_true, decide_eq_true_eq] at h
      obtain ⟨⟨h1, h2⟩, h4⟩ := h
      obtain ⟨st, l, t, pt, rt⟩ := pgs_ats g h4
      refine ⟨fun e he => ?_, by rw [List.length_cons, List.length_cons, l], _, pgs_cons (pg_name (i := i) g.nd (by rw [g.N]; exact h1) (g.lo h2) (g.loc x h2)) pt (eachCons rfl), fun T hc H env σ xs vs Q w er r q => ?_⟩
      · rcases List.mem_cons.mp he with z | z
        · rw [z]; rfl
        · exact st e z
      · cases xs with
        | nil => exact q.elim
        | cons x xs =>
          simp only [RepL] at r
          obtain ⟨v, r', ev, ra, rb⟩ := r
          exact ⟨v, r', ev, rt T hc H _ _ xs r' Q w (er.set ra) rb q⟩
    | _ => simp [chkAts] at h
  | .sub a i :: ts, e :: es, h => by
    cases e with
    | Subscript o x p =>
      simp only [chkAts, Bool.and_eq_true] at h
      obtain ⟨⟨⟨hsl, h1⟩, h2⟩, h4⟩ := h
      obtain ⟨st, l, t, pt, rt⟩ := pgs_ats g h4
      obtain ⟨to, po, _, ro⟩ := (sndI a).e g h1
      obtain ⟨ti, pi, _, ri⟩ := (sndI i).e g h2
      refine ⟨fun e he => ?_, by rw [List.length_cons, List.length_cons, l], _, pgs_cons (pg_sub po pi set_list (by intro v; cases x <;> first | rfl | (simp [notSlice] at hsl))) pt (eachCons rfl), fun T hc H env σ xs vs Q w er r q => ?_⟩
      · rcases List.mem_cons.mp he with z | z
        · rw [z]; rfl
        · exact st e z
      · cases xs with
        | nil => exact q.elim
        | cons x xs =>
          simp only [RepL] at r
          obtain ⟨v, r', ev, rx, rb⟩ := r
          refine ⟨v, r', ev, ?_⟩
          have q' : Post X.K T H (fun env' T' H' => ∀ σ', EnvR X.K T' H' env' σ' → Q σ' H') (WE W σ) (bnd (semE G Cs a env) (fun l => bnd (semE G Cs i env) fun k => bnd (storeM l k x) fun _ => setAts G Cs ts xs env) hc) := Post.ex q
          have qf : Post X.K T H (fun env' T' H' => ∀ σ', EnvR X.K T' H' env' σ' → Q σ' H') (fun _ _ _ => False) (bnd (semE G Cs a env) (fun l => bnd (semE G Cs i env) fun k => bnd (storeM l k x) fun _ => setAts G Cs ts xs env) hc) := q
          refine ro T hc H env σ _ w er (Post.ex (Post.imp (Post.bind qf) fun d T1 H1 e1 p u ru => ?_))
          obtain ⟨hc1, _, w1, p1⟩ := p
          refine ri T1 hc1 H1 env σ _ w1 (er.ext w e1) (Post.ex (Post.imp (Post.bind p1) fun d2 T2 H2 e2 p u2 ru2 => ?_))
          obtain ⟨hc2, _, w2, p2⟩ := p
          have rx2 := Rep.ext w1 e2 _ _ (Rep.ext w e1 _ _ rx)
          have p3 := Post.bind p2
          rw [storeM_eq] at p3
          refine post_store w2 (Rep.ext w1 e2 _ _ ru) ru2 rx2 p3 fun hc' H' e3 w3' p => ?_
          obtain ⟨hc3, _, w3, p4⟩ := p
          exact rt T2 hc3 H' env σ xs r' Q w3 (((er.ext w e1).ext w1 e2).ext w2 e3) (RepL.ext w2 e3 _ _ (RepL.ext w1 e2 _ _ (RepL.ext w e1 _ _ rb))) p4
    | _ => simp [chkAts] at h
  | [], _ :: _, h => by simp [chkAts] at h
  | .tg (.nm _) :: _, [], h => by simp [chkAts] at h
  | .sub _ _ :: _, [], h => by simp [chkAts] at h
  | .tg (.tp _) :: _, _, h => by simp [chkAts] at h
theorem setAts_len : ∀ {ts : List At} {xs : List Cl.D} {env env' : Cl.Env} {hc hc' : Hc}, setAts G Cs ts xs env hc = .ok env' hc' → xs.length = ts.length
  | [], [], _, _, _, _, _ => rfl
  | [], _ :: _, _, _, _, _, h => by simp [setAts, stuck] at h
  | .tg (.nm i) :: ts, [], _, _, _, _, h => by simp [setAts, stuck] at h
  | .tg (.nm i) :: ts, x :: xs, env, _, _, _, h => by
    rw [List.length_cons, List.length_cons, setAts_len (ts := ts) (xs := xs) h]
  | .tg (.tp is) :: ts, [], _, _, _, _, h => by simp [setAts, stuck] at h
  | .tg (.tp is) :: ts, x :: xs, _, _, _, _, h => by simp [setAts, stuck] at h
  | .sub a i :: ts, [], _, _, _, _, h => by simp [setAts, stuck] at h
  | .sub a i :: ts, x :: xs, env, _, hc, _, h => by
    have h : bnd (semE G Cs a env) (fun l => bnd (semE G Cs i env) fun k => bnd (storeM l k x) fun _ => setAts G Cs ts xs env) hc = _ := h
    unfold bnd at h
    split at h
    · try dsimp only at h
      split at h
      · try dsimp only at h
        split at h
        · rw [List.length_cons, List.length_cons, setAts_len h]
        · cases h
        · cases h
      · cases h
      · cases h
    · cases h
    · cases h
theorem cs_asgs (g : Gd C G Cs k X W sc) (hcm : C.cm = true) {ts : List At} {es : List Expr} {kt : Nat} {tp : Pos} {a : Expr} {ma : Env → M Cl.D} (hw : swappedStores [.Tuple es kt tp] a X.env = pure none) (ht : chkAts C (F0 C) sc ts es = true) (ha : CE C X W sc a ma) :
    CS X W (.Assign [.Tuple es kt tp] a pos) (fun env h => exS (ma env) env h fun d h => match d with
      | .tup xs => exS (calmly (setAts G Cs ts xs env)) env h fun e h => .nx e h
      | _ => .bad) := by
  obtain ⟨ta, pa, _, ra⟩ := ha
  obtain ⟨st, l, u, pu, ru⟩ := pgs_ats g ht
  obtain ⟨n1, n2⟩ := eachNames (env := X.env) st
  refine ⟨_, ps_asg pa (pg_tup (g.calm hcm) pu n1 n2) (noSwapTup _ _ _ _ _ _) hw rfl, fun T hc H env σ D w er h => ?_⟩
  refine ra T hc H env σ _ w er (Post.imp (OPost.exS w er h) fun d T' H' e p v r => ?_)
  obtain ⟨hc', _, w', p⟩ := p
  cases d <;> (try exact p.elim)
  next xs =>
  simp only [Rep] at r
  obtain ⟨q, vs, ev, s, ll, rr⟩ := r
  have p2 := Post.of_calm (OPost.exS w' (er.ext w e) p)
  have hl : vs.length = es.length := by
    have this : xs.length = ts.length := by
      have p' : OPost X.K T' H' D W (exS (calmly (setAts G Cs ts xs env)) env hc' fun e h => .nx e h) := p
      cases q : setAts G Cs ts xs env hc' with
      | ok e h => exact setAts_len q
      | exc c fs h =>
        have z : exS (calmly (setAts G Cs ts xs env)) env hc' (fun e h => Out.nx e h) = .bad := by simp only [Cl.exS, calmly, q]
        rw [z] at p'; exact p'.elim
      | bad =>
        have z : exS (calmly (setAts G Cs ts xs env)) env hc' (fun e h => Out.nx e h) = .bad := by simp only [Cl.exS, calmly, q]
        rw [z] at p'; exact p'.elim
    rw [rr.length, l, this]
  refine ⟨q, vs, ev, s, hl, ?_⟩
  refine ru T' hc' H' env σ xs vs _ w' (er.ext w e) rr (Post.imp p2 fun env' T2 H2 e2 p3 σ' er' => ?_)
  obtain ⟨hc2, _, w2, p4⟩ := p3
  exact p4 T2 H2 σ' (Ext.refl T2 H2) w2 er'
theorem sole_cell {y : Str} {py : Pos} {v : Expr} {l : Nat} (hsc : X.env.scope = sc) (h : loclB sc y = false) : swapsWithSole [.Name y py] v l X.env = pure false := by
  have hk : (X.env.kindOf y == some .local) = false := by
    unfold Env.kindOf
    rw [hsc]
    unfold loclB at h
    split at h
    · cases h
    · next q =>
      cases z : sc.names.lookup y with
      | none => rfl
      | some kd => cases kd <;> first | (exact absurd z q) | rfl
  simp only [swapsWithSole]
  unfold swapsWith
  cases v <;> first | rfl | (simp only [hk]; simp)
theorem eraseD2 {x y : Str} (h : x ≠ y) : ([x, y] : List Str).eraseDups.length = 2 := by
  have : (y == x) = false := by simpa using fun e => h e.symm
  simp [List.eraseDups, List.eraseDupsBy, List.eraseDupsBy.loop, this]
theorem eraseD3 {x y z : Str} (h : x ≠ y) (h1 : x ≠ z) (h2 : y ≠ z) : ([x, y, z] : List Str).eraseDups.length = 3 := by
  have e1 : (y == x) = false := by simpa using fun e => h e.symm
  have e2 : (z == x) = false := by simpa using fun e => h1 e.symm
  have e3 : (z == y) = false := by simpa using fun e => h2 e.symm
  simp [List.eraseDups, List.eraseDupsBy, List.eraseDupsBy.loop, e1, e2, e3]
theorem nd_ne {N : List Str} (nd : N.Nodup) {i j : Nat} {x y : Str} (hi : N[i]? = some x) (hj : N[j]? = some y) (h : i ≠ j) : x ≠ y := by
  intro e
  subst e
  have hl : i < N.length := by
    rcases Nat.lt_or_ge i N.length with z | z
    · exact z
    · rw [List.getElem?_eq_none_iff.mpr z] at hi; cases hi
  exact h ((List.getElem?_inj hl nd).mp (hi.trans hj.symm))
theorem len_two {α : Type} {l : List α} (h : l.length = 2) : ∃ a b, l = [a, b] := by
  match l, h with
  | [a, b], _ => exact ⟨a, b, rfl⟩
theorem len_three {α : Type} {l : List α} (h : l.length = 3) : ∃ a b c, l = [a, b, c] := by
  match l, h with
  | [a, b, c], _ => exact ⟨a, b, c, rfl⟩
theorem namesB1 {is : List Nat} {t : Expr} {ts : List Expr} (h : namesB C sc is (t :: ts) = true) : ∃ i is' x p, is = i :: is' ∧ t = .Name x p ∧ C.N[i]? = some x ∧ loclB sc x = true ∧ namesB C sc is' ts = true := by
  cases is with
  | nil => cases t <;> simp [namesB] at h
  | cons i is' =>
    cases t <;> simp only [namesB, Bool.false_eq_true, Bool.and_eq_true, decide_eq_true_eq] at h
    exact ⟨i, is', _, _, rfl, rfl, h.1.1, h.1.2, h.2⟩
theorem namesB0 {is : List Nat} (h : namesB C sc is [] = true) : is = [] := by
  cases is with
  | nil => rfl
  | cons i is' => simp [namesB] at h
theorem namesB2 {is : List Nat} {ts : List Expr} (h : namesB C sc is ts = true) (l : ts.length = 2) : ∃ i j x y px py, is = [i, j] ∧ ts = [.Name x px, .Name y py] ∧ C.N[i]? = some x ∧ loclB sc x = true ∧ C.N[j]? = some y ∧ loclB sc y = true := by
  obtain ⟨a, b, e⟩ := len_two l
  subst e
  obtain ⟨i, is1, x, px, e1, e2, n1, n2, h1⟩ := namesB1 h
  obtain ⟨j, is2, y, py, e3, e4, m1, m2, h2⟩ := namesB1 h1
  have e5 := namesB0 h2
  subst e5; subst e3; subst e1; subst e2; subst e4
  exact ⟨i, j, x, y, px, py, rfl, rfl, n1, n2, m1, m2⟩
theorem namesB3 {is : List Nat} {ts : List Expr} (h : namesB C sc is ts = true) (l : ts.length = 3) : ∃ i j k x y z px py pz, is = [i, j, k] ∧ ts = [.Name x px, .Name y py, .Name z pz] ∧ C.N[i]? = some x ∧ loclB sc x = true ∧ C.N[j]? = some y ∧ loclB sc y = true ∧ C.N[k]? = some z ∧ loclB sc z = true := by
  obtain ⟨a, b, c, e⟩ := len_three l
  subst e
  obtain ⟨i, is1, x, px, e1, e2, n1, n2, h1⟩ := namesB1 h
  obtain ⟨j, is2, y, py, e3, e4, m1, m2, h2⟩ := namesB1 h1
  obtain ⟨q, is3, z, pz, e5, e6, o1, o2, h3⟩ := namesB1 h2
  have e7 := namesB0 h3
  subst e7; subst e5; subst e3; subst e1; subst e2; subst e4; subst e6
  exact ⟨i, j, q, x, y, z, px, py, pz, rfl, rfl, n1, n2, m1, m2, o1, o2⟩

theorem Top.tr (t : Top X sc) {pn : List (Addr × Obj)} {xe : Value → Shared → Prop} (po : PassesOwn (model X.prog X.w) X.A X.env xe) : Top (X.tr pn xe) sc := ⟨t.hsc, po, t.hs, t.hf⟩
theorem Top.suite (t : Top X sc) {a : Addr} {pn : List (Addr × Obj)} : Top (X.suite a pn) sc := ⟨t.hsc, PassesOwn.never, t.hs, t.hf⟩
theorem Gd.tr (g : Gd C G Cs k X W sc) (hcm : C.cm = true) {W' : WX} {pn : List (Addr × Obj)} {xe : Value → Shared → Prop} (tk : Takes (X.tr pn xe) W') : Gd C G Cs k (X.tr pn xe) W' sc where
  N := g.N
  nd := g.nd
  calm := g.calm
  tk := tk
  rm := g.rm
  scr := g.scr
  loc := g.loc
  nb := g.nb
  fs := g.fs
  cf := g.cf
  xn := g.xn
  xa := fun a j i n cls b z q e hf => by rw [g.xn hcm] at z; cases z
/-- isinstance of the suite's exception, a tuple of classes asked for -/
def rIsET (K : PySem.W.Frag) (D a : Addr) (b : Bool) : List V → Hp → VK → Prop := fun xs H Q => ∃ (tp : Addr) (cs : List Addr), xs = [.ref a, .ref tp] ∧ H tp = some (.tup (cs.map V.ref)) ∧ PySem.W.kitAny K (.ref D) (cs.map Value.ref) = some b ∧ Q (.bl b) H
theorem pair_own : ∀ cs : List Addr, Paired ClsV (cs.map V.ref) (cs.map Value.ref)
  | [] => .nil
  | t :: ts => .cons (.own t) (pair_own ts)
theorem call_isET {X : Cx} {a D : Addr} {b : Bool} {oe : Obj} {pn : List (Addr × Obj)} (C : ExcC X.K D) (hz : Zc (.ref D) none oe) (hf : ∃ vs, oe.data = .fields vs) : CallR (X.suite a ((a, oe) :: pn)) (.builtin "isinstance") (rIsET X.K D a b) := by
  intro pins s σ H xs us Q I r h
  obtain ⟨tp, cs, rfl, hT, e, q⟩ := h
  obtain ⟨u1, u2, rfl, r1, r2⟩ := vals2 r
  cases (show u2 = Value.ref tp from r2)
  cases (show u1 = Value.ref a from r1)
  obtain ⟨hget, _⟩ := I.pin (a, oe) (List.mem_append.mpr (.inl List.mem_cons_self))
  obtain ⟨vs, hv⟩ := hf
  have J : PySem.W.InstAt s.heap a oe D none := by
    obtain ⟨oc, od, oda, osl⟩ := oe
    obtain ⟨h1, h2⟩ := hz
    dsimp only at h1 h2 hv
    subst h1 h2 hv
    exact ⟨hget, rfl, rfl, trivial⟩
  obtain ⟨_, its, rv, o, h1, h2, n, h3⟩ := (show ObjOk X.prog X.w H s.heap tp (.tup (cs.map V.ref)) from I.hok tp _ hT)
  have e3 := ClsV.all (pair_own cs) rv
  subst e3
  obtain ⟨oc, od, dt, sl⟩ := o
  simp only at h2 h3
  subst h2 h3
  exact PySem.W.kia_tup (PySem.W.handS_kitx_exc C.hg C.hk C.hs C.hd C.ha C.hn C.ht C.hm) I.kIn J h1 e (fun z => nomatch z) fun tk => ⟨.bl b, H, I.tok tk, rfl, q⟩
/-- the names of classes, one by one -/
theorem pa_cls (g : Gd C G Cs k X W sc) {a : Addr} {pn : List (Addr × Obj)} : ∀ {ks : List Nat} {cs : List Addr} {es : List Expr}, obsD Cs ks = some cs → nms (ks.map fun k => C.gs.getD k "") es sc = true → PA (X.suite a pn) es (fun σ H Q => Q (cs.map V.ref) H) ∧ es.length = cs.length
  | [], cs, es, h, hn => by
    simp only [obsD, Option.some.injEq] at h
    subst h
    cases es with
    | nil => exact ⟨pa_nil, rfl⟩
    | cons e es => simp [nms] at hn
  | j :: ks, cs, es, h, hn => by
    simp only [obsD] at h
    split at h
    · next b as q1 q2 =>
      cases h
      cases es with
      | nil => simp [nms] at hn
      | cons e es =>
        cases e with
        | Name x p =>
          simp only [List.map_cons, nms, Bool.and_eq_true, beq_iff_eq] at hn
          obtain ⟨⟨⟨n1, n2⟩, n3⟩, n4⟩ := hn
          obtain ⟨y, hy, v, u, hm, r, hR⟩ := g.gc j _ q1
          have hv2 := hR ⟨[], [], fun _ => False⟩ (fun _ => none)
          simp only [Rep] at hv2
          subst hv2
          have ey : y = x := by
            rw [n1, List.getD_eq_getElem?_getD, hy]; rfl
          subst ey
          obtain ⟨p1, p2⟩ := pa_cls g q2 n4
          have hgl : Gl (X.suite a pn) y := g.gl n2
          exact ⟨pa_cons (pe_glob (X := X.suite a pn) hgl hm r (okName_d n3).1) p1 (star1 rfl), by simp [p2]⟩
        | _ => simp [nms] at hn
    · cases h
theorem pe_isx (g : Gd C G Cs k X W sc) {i : Nat} {m : Str} {a c : Addr} {b : Bool} {ks : List Nat} {cs : List Addr} {oe : Obj} {pn : List (Addr × Obj)} {es : List Expr} {p p2 p3 pos : Pos} {k1 : Nat} (ho : obsD Cs ks = some cs) (ec : ExcC X.K c)
    (kt : PySem.W.kitAny X.K (.ref c) (cs.map Value.ref) = some b) (hz : Zc (.ref c) none oe) (hf : ∃ vs, oe.data = .fields vs) (hi : C.N[i]? = some m) (h2 : glB sc ("isinstance" : Str) = true) (h4 : visB sc m = true) (h5 : okName m = true)
    (h6 : nms (ks.map fun k => C.gs.getD k "") es sc = true) (h7 : 2 ≤ es.length ∧ es.length ≤ 100) :
    PE (X.suite a ((a, oe) :: pn)) (.Call (.Name ("isinstance" : Str) p) [.Name m p2, .Tuple es k1 p3] [] pos) (tIsx i a b) := by
  obtain ⟨p1, p2'⟩ := pa_cls (a := a) (pn := (a, oe) :: pn) g ho h6
  have hgl : Gl (X.suite a ((a, oe) :: pn)) ("isinstance" : Str) := g.gl h2
  have hNN := hi
  rw [← g.N] at hNN
  have pe : PE (X.suite a ((a, oe) :: pn)) (.Call (.Name ("isinstance" : Str) p) [.Name m p2, .Tuple es k1 p3] [] pos) _ :=
    pe_callB (X := X.suite a ((a, oe) :: pn)) (call_isET (b := b) ec hz hf) hgl (g.nb _ (by decide +kernel)) boot_isinstance (pa_cons (pe_var (X := X.suite a ((a, oe) :: pn)) hNN (g.vis h4) (okName_d h5).1 (okName_d h5).2) (pa_cons (pe_tup p1) pa_nil (star1 rfl)) (star1 rfl)) (by decide +kernel) (by decide +kernel) (star1 rfl) (starAll (by intro y hy; rw [List.mem_singleton] at hy; subst hy; rfl))
  refine ⟨fun pins s σ H Q I h => pe.run pins s σ H Q I ?_⟩
  obtain ⟨k1, k2⟩ := h
  refine ⟨_, k1, ?_, fun p hp => ⟨p, cs, rfl, upd_same, kt, k2 p _ hp⟩⟩
  rw [List.length_map, ← p2']
  have : (100 : Nat) ≤ sizeLine := by decide +kernel
  omega
theorem Gd.suite (g : Gd C G Cs k X W sc) (hcm : C.cm = true) {j i : Nat} {n : Str} {a c : Addr} {oe : Obj} {pn : List (Addr × Obj)} (q : Cs[j]? = some (.ob c)) (hz : Zc (.ref c) none oe) (hf : ∃ vs, oe.data = .fields vs) (hi : C.N[i]? = some n) (hl : loclB sc n = true) :
    Gd (C.suite j i n) { G with xa := some a } Cs k (X.suite a ((a, oe) :: pn)) W0 sc where
  N := g.N
  nd := g.nd
  calm := fun h => by cases h
  tk := L2.takes0
  rm := fun h => by cases h
  scr := g.scr
  loc := g.loc
  nb := g.nb
  fs := g.fs
  cf := ⟨g.cf.gc, g.cf.rs, g.cf.hs, g.cf.xs⟩
  xn := fun h => by cases h
  xa := fun a' j' i' n' cls b z q' e hq => by
    have ea : a = a' := Option.some.inj z
    subst ea
    unfold Ck.suite at q'
    have hm := List.mem_of_getElem? q'
    obtain ⟨t, ht, et⟩ := List.mem_map.mp hm
    rw [List.mem_filter] at ht
    obtain ⟨t1, t2⟩ := ht
    obtain ⟨j0, ks, b0⟩ := t
    have ej : j0 = j := by simpa using t2
    subst ej
    simp only [Prod.mk.injEq] at et
    obtain ⟨e1, e2, e3, e4⟩ := et
    subst e1; subst e2; subst e3; subst e4
    obtain ⟨cs, ho, ec, kt⟩ := g.cf.xs _ _ _ t1 c q
    cases e with
    | Call fn args kws pos =>
      cases fn <;> (try simp only [xqForm, Bool.false_eq_true] at hq)
      rcases args with _ | ⟨a1, _ | ⟨a2, _ | ⟨a3, args⟩⟩⟩ <;> (try simp only [xqForm, Bool.false_eq_true] at hq)
      cases a1 <;> (try simp only [xqForm, Bool.false_eq_true] at hq)
      cases a2 <;> (try simp only [xqForm, Bool.false_eq_true] at hq)
      cases kws <;> (try simp only [xqForm, Bool.false_eq_true, Bool.and_eq_true, decide_eq_true_eq] at hq)
      obtain ⟨⟨⟨⟨⟨⟨h1, h2⟩, h3⟩, h4⟩, h5⟩, h6⟩, h7⟩ := hq
      subst h1; subst h3
      exact pe_isx g ho ec kt hz hf hi h2 h4 h5 h6 h7
    | _ => simp [xqForm] at hq
theorem sndS (s : S) : SndS Cs k s := by
  induction s with
  | nop =>
    refine ⟨@fun C G X W sc g tp st h => ?_, @fun C G X W sc g tp st h => ?_⟩
    · cases st <;> simp only [chkS, Bool.false_eq_true] at h
      exact cs_nop.as (by funext e h; simp only [semS] <;> rfl)
    · cases st <;> simp only [chkB, Bool.false_eq_true] at h
      exact cb_nil.as (by funext e h; simp only [semS] <;> rfl)
  | doc =>
    refine ⟨@fun C G X W sc g tp st h => ?_, @fun C G X W sc g tp st h => by cases st <;> simp [chkB] at h⟩
    unfold chkS at h
    split at h <;> try contradiction
    all_goals first | exact cs_doc.as (by funext e h; simp only [semS] <;> rfl) | skip
  | brk =>
    refine ⟨@fun C G X W sc g tp st h => ?_, @fun C G X W sc g tp st h => by cases st <;> simp [chkB] at h⟩
    cases st <;> simp only [chkS, Bool.false_eq_true] at h
    exact cs_brk.as (by funext e h; simp only [semS] <;> rfl)
  | cnt =>
    refine ⟨@fun C G X W sc g tp st h => ?_, @fun C G X W sc g tp st h => by cases st <;> simp [chkB] at h⟩
    cases st <;> simp only [chkS, Bool.false_eq_true] at h
    exact cs_cnt.as (by funext e h; simp only [semS] <;> rfl)
  | never =>
    refine ⟨@fun C G X W sc g tp st h => ?_, @fun C G X W sc g tp st h => ?_⟩
    · exact cs_never.as (by funext e h; simp only [semS] <;> rfl)
    · exact cb_never.as (by funext e h; simp only [semS] <;> rfl)
  | retN =>
    refine ⟨@fun C G X W sc g tp st h => ?_, @fun C G X W sc g tp st h => by cases st <;> simp [chkB] at h⟩
    unfold chkS at h
    split at h <;> try contradiction
    all_goals first | exact cs_retN.as (by funext e h; simp only [semS] <;> rfl) | skip
  | seq a b ha hb =>
    refine ⟨@fun C G X W sc g tp st h => by cases st <;> simp [chkS] at h, @fun C G X W sc g tp st h => ?_⟩
    cases st <;> simp only [chkB, Bool.false_eq_true, Bool.and_eq_true] at h
    exact (cb_cons (ha.s g tp h.1) (hb.b g tp h.2)).as (by funext e h; simp only [semS] <;> rfl)
  | ite t a b ha hb =>
    refine ⟨@fun C G X W sc g tp st h => ?_, @fun C G X W sc g tp st h => by cases st <;> simp [chkB] at h⟩
    cases st <;> simp only [chkS, Bool.false_eq_true, Bool.and_eq_true] at h
    exact (cs_ite ((sndI t).t g h.1.1) (ha.b g tp h.1.2) (hb.b g tp h.2)).as (by funext e h; simp only [semS] <;> rfl)
  | ret e =>
    refine ⟨@fun C G X W sc g tp st h => ?_, @fun C G X W sc g tp st h => by cases st <;> simp [chkB] at h⟩
    unfold chkS at h
    split at h <;> try contradiction
    all_goals (have hq := ‹S.ret e = _›; cases hq)
    all_goals first | exact (cs_ret ((sndI _).e g h)).as (by funext e h; simp only [semS] <;> rfl) | skip
  | ex e =>
    refine ⟨@fun C G X W sc g tp st h => ?_, @fun C G X W sc g tp st h => by cases st <;> simp [chkB] at h⟩
    cases st <;> simp only [chkS, Bool.false_eq_true, Bool.and_eq_true] at h
    exact (cs_ex (by simpa using h.1) ((sndI _).e g h.2)).as (by funext e h; simp only [semS] <;> rfl)
  | aug i o e =>
    refine ⟨@fun C G X W sc g tp st h => ?_, @fun C G X W sc g tp st h => by cases st <;> simp [chkB] at h⟩
    unfold chkS at h
    split at h <;> try contradiction
    all_goals (have hq := ‹S.aug i o e = _›; cases hq)
    all_goals
      simp only [Bool.and_eq_true, decide_eq_true_eq] at h
      obtain ⟨⟨⟨h1, h2⟩, h3⟩, h4⟩ := h
      subst h3
      exact (cs_aug g h1 h2 ((sndI _).e g h4)).as (by funext e h; simp only [semS] <;> rfl)
  | augS a i o e =>
    refine ⟨@fun C G X W sc g tp st h => ?_, @fun C G X W sc g tp st h => by cases st <;> simp [chkB] at h⟩
    unfold chkS at h
    split at h <;> try contradiction
    all_goals (have hq := ‹S.augS a i o e = _›; cases hq)
    all_goals
      simp only [Bool.and_eq_true, decide_eq_true_eq] at h
      obtain ⟨⟨⟨⟨h1, h2⟩, h3⟩, h4⟩, h5⟩ := h
      subst h2
      exact (cs_augS h1 ((sndI _).e g h3) ((sndI _).e g h4) ((sndI _).e g h5)).as (by funext e h; simp only [semS] <;> rfl)
  | whl t b hb =>
    refine ⟨@fun C G X W sc g tp st h => ?_, @fun C G X W sc g tp st h => by cases st <;> simp [chkB] at h⟩
    unfold chkS at h
    split at h <;> try contradiction
    all_goals (have hq := ‹S.whl t b = _›; cases hq)
    all_goals
      simp only [Bool.and_eq_true, decide_eq_true_eq] at h
      exact (cs_whl tp.hp ((sndI _).t g h.1) (hb.b g tp h.2)).as (by funext e h; simp only [semS] <;> rfl)
  | «for» tg src b hb =>
    refine ⟨@fun C G X W sc g tp st h => ?_, @fun C G X W sc g tp st h => by cases st <;> simp [chkB] at h⟩
    unfold chkS at h
    split at h <;> try contradiction
    all_goals (have hq := ‹S.for tg src b = _›; cases hq)
    all_goals
      simp only [Bool.and_eq_true, decide_eq_true_eq] at h
      obtain ⟨⟨⟨⟨hcm, h1⟩, h2⟩, h3⟩, h4⟩ := h
      exact (cs_for g hcm tp.hp h2 ((sndI _).i g h3) (cg_tg g h1) (hb.b g tp h4)).as (by funext e h; simp only [semS] <;> rfl)
  | asg t e =>
    refine ⟨@fun C G X W sc g tp st h => ?_, @fun C G X W sc g tp st h => by cases st <;> simp [chkB] at h⟩
    cases t with
    | tg t =>
      cases t with
      | nm i =>
        unfold chkS at h
        split at h <;> try contradiction
        all_goals (have hq := ‹S.asg (.tg (.nm i)) e = _›; cases hq)
        all_goals
          simp only [Bool.and_eq_true, decide_eq_true_eq] at h
          obtain ⟨⟨⟨h1, h2⟩, h3⟩, h4⟩ := h
        next y py v p hq =>
        have he := (sndI e).e g h4
        have ht : CG _ _ (.nm i) (.Name y py) := cg_tg g (own := fun _ => true) (by simp only [chkTg, h1, h2, decide_true, Bool.and_self])
        by_cases hc : isComp v = true
        · rw [if_pos hc, Bool.or_eq_true] at h3
          rcases h3 with h3 | h3
          · exact (cs_own g (by rw [g.N]; exact h1) h3 he).as (by funext e h; simp only [semS] <;> rfl)
          · exact (cs_asg (sole_cell tp.hsc (by simpa using h3)) (sole_name _) rfl he ht).as (by funext e h; simp only [semS] <;> rfl)
        · exact (cs_asg (noSwap (by simpa using hc) _ _ _) (sole_name _) rfl he ht).as (by funext e h; simp only [semS] <;> rfl)
      | tp is =>
        unfold chkS at h
        split at h <;> try contradiction
        all_goals (have hq := ‹S.asg (.tg (.tp is)) e = _›; cases hq)
        all_goals
          simp only [Bool.and_eq_true, decide_eq_true_eq, Bool.not_eq_true'] at h
          obtain ⟨⟨h1, h3⟩, h4⟩ := h
        next ts kt tp v p hq =>
        refine (cs_asg (t := Expr.Tuple _ _ _) (noSwapTup _ _ _ _ _ _) ?_ rfl ((sndI e).e g h4) (cg_tg g h1)).as (by funext e h; simp only [semS] <;> rfl)
        cases q : isTup v with
        | false => exact sole_tup q _
        | true =>
          cases v <;> simp only [isTup, Bool.false_eq_true] at q
          exact sw_none tp.hsc h3
    | sub a i =>
      unfold chkS at h
      split at h <;> try contradiction
      all_goals (have hq := ‹S.asg (.sub a i) e = _›; cases hq)
      all_goals
        simp only [Bool.and_eq_true, decide_eq_true_eq] at h
        obtain ⟨⟨⟨h1, h2⟩, h3⟩, h4⟩ := h
        exact (cs_asgSub (p2 := ‹Pos›) h1 ((sndI _).e g h2) ((sndI _).e g h3) ((sndI _).e g h4)).as (by funext e h; simp only [semS] <;> rfl)
  | asgs ts e =>
    refine ⟨@fun C G X W sc g tp st h => ?_, @fun C G X W sc g tp st h => by cases st <;> simp [chkB] at h⟩
    unfold chkS at h
    split at h <;> try contradiction
    all_goals (have hq := ‹S.asgs ts e = _›; cases hq)
    all_goals
      simp only [Bool.and_eq_true, decide_eq_true_eq] at h
      obtain ⟨⟨⟨hcm, h1⟩, h3⟩, h4⟩ := h
    next es kt tpp v p hq =>
    refine (cs_asgs g hcm ?_ h1 ((sndI e).e g h4)).as (by funext e h; simp only [semS] <;> rfl)
    cases q : isTup v with
    | false => exact sole_tup q _
    | true =>
      cases v <;> simp only [isTup, Bool.false_eq_true] at q
      exact sw_none tp.hsc h3
  | rse j =>
    refine ⟨@fun C G X W sc g tp st h => ?_, @fun C G X W sc g tp st h => by cases st <;> simp [chkB] at h⟩
    unfold chkS at h
    split at h <;> try contradiction
    all_goals (have hq := ‹S.rse j = _›; cases hq)
    all_goals
      simp only [Bool.and_eq_true, decide_eq_true_eq] at h
      obtain ⟨⟨⟨⟨hcm, h1⟩, h2⟩, h3⟩, h4⟩ := h
      exact (cs_rse g hcm h1 h2 h3 h4).as (by funext e h; simp only [semS] <;> rfl)
  | tryX b j k i su hb hs =>
    refine ⟨@fun C G X W sc g tp st h => ?_, @fun C G X W sc g tp st h => by cases st <;> simp [chkB] at h⟩
    unfold chkS at h
    split at h <;> try contradiction
    all_goals (have hq := ‹S.tryX b j k i su = _›; cases hq)
    all_goals
      simp only [Bool.and_eq_true, decide_eq_true_eq] at h
      obtain ⟨⟨⟨⟨⟨⟨⟨⟨hcm, h1⟩, h2⟩, h3⟩, h4⟩, h5⟩, h6⟩, h7⟩, h8⟩ := h
      exact (cs_try g tp.hs tp.hf h1 h2 h3 h4 h5 h6 (fun W pn xe tk po => hb.b (g.tr hcm tk) (tp.tr po) h7) (fun a c oe pn q hz hf => hs.b (g.suite hcm q hz hf h5 h6) (tp.suite) h8)).as (by funext e h; simp only [semS] <;> rfl)
  | par is as =>
    refine ⟨@fun C G X W sc g tp st h => ?_, @fun C G X W sc g tp st h => by cases st <;> simp [chkB] at h⟩
    unfold chkS at h
    split at h <;> try contradiction
    all_goals (have hq := ‹S.par is as = _›; cases hq)
    all_goals
      simp only [Bool.and_eq_true, decide_eq_true_eq, Bool.not_eq_true'] at h
      obtain ⟨⟨⟨⟨⟨⟨hcm, h1⟩, h2⟩, h3⟩, h4⟩, h5⟩, h6⟩ := h
    next ts kt tp vs k2 tp2 p hq =>
    have hA := (sndI as).a g h6
    have st : ∀ e ∈ vs, ∀ a b, e ≠ .Starred a b := fun e m a b q => by have := chkA_star h6 e m; rw [q] at this; exact absurd this (by simp [isStar])
    have hl := h2
    unfold swaps at hl
    rw [Bool.and_eq_true, Bool.and_eq_true, Bool.and_eq_true, beq_iff_eq, Bool.or_eq_true, beq_iff_eq, beq_iff_eq] at hl
    obtain ⟨⟨⟨l1, l2⟩, _⟩, _⟩ := hl
    have nd := g.nd
    rw [g.N] at nd
    rcases l1 with l1 | l1
    · obtain ⟨i, j, x, y, px, py, e1, e2, n1, n2, m1, m2⟩ := namesB2 h1 l1
      subst e1; subst e2
      obtain ⟨a, b, e3⟩ := len_two (l2.trans l1)
      subst e3
      have hij : i ≠ j := by simpa using h3
      exact (cs_par2 g hcm n1 m1 hij n2 m2 (sw_some g tp.hsc st h2 h4 h5 rfl (eraseD2 (nd_ne nd n1 m1 hij))) hA).as (by funext e h; simp only [semS] <;> rfl)
    · obtain ⟨i, j, l, x, y, z, px, py, pz, e1, e2, n1, n2, m1, m2, o1, o2⟩ := namesB3 h1 l1
      subst e1; subst e2
      obtain ⟨a, b, c, e3⟩ := len_three (l2.trans l1)
      subst e3
      have hij : (i ≠ j ∧ i ≠ l) ∧ j ≠ l := by simpa using h3
      exact (cs_par3 g hcm n1 m1 o1 hij.1.1 hij.1.2 hij.2 n2 m2 o2 (sw_some g tp.hsc st h2 h4 h5 rfl (eraseD3 (nd_ne nd n1 m1 hij.1.1) (nd_ne nd n1 o1 hij.1.2) (nd_ne nd m1 o1 hij.2))) hA).as (by funext e h; simp only [semS] <;> rfl)
end
end Cl
/-! The checker as the kernel runs it. -/
namespace Cl
open PySem PySem.Spec PyProof.Rows L2

def isNil : I → Bool
  | .nil => true
  | _ => false
def fP (f : Scope → Expr → Bool) : Cf := { e := f, n := fun _ _ => false, a := fun _ _ => false, i := fun sc _ it => f sc it, o := fun sc o => match o with
  | some x => f sc x
  | none => false }
def fN (f : Scope → Expr → Bool) : Cf := { fP f with n := f }
def fI (f : Scope → Expr → Expr → Bool) : Cf := { fP (fun _ _ => false) with i := f }
section
variable (C : Ck)
def chkAll : I → Cf
  | .var i => fP fun sc e => match e with
    | .Name x _ => decide (C.N[i]? = some x) && visB sc x && okName x
    | _ => false
  | .int n => fP fun _ e => match e with
    | .Constant (.int m) _ _ => decide (m = n)
    | _ => false
  | .str s => fP fun _ e => match e with
    | .Constant (.str x) _ _ => decide (x = Str.ofString s)
    | _ => false
  | .bl b => fP fun _ e => match e with
    | .Constant (.bool k) _ _ => decide (k = b)
    | _ => false
  | .non => fP fun _ e => match e with
    | .Constant .none _ _ => true
    | _ => false
  | .glb j => fP fun sc e => match e with
    | .Name x _ => decide (C.gs[j]? = some x) && glB sc x && okName x
    | _ => false
  | .isx i j b => fP fun sc e => match C.xq[j]? with
    | some (i', n, cls, b') => decide (i' = i) && decide (b' = b) && xqForm n cls sc e
    | none => false
  | .bin o a b => let A := chkAll a; let B := chkAll b; fP fun sc e => match e with
    | .BinOp x o' y _ => decide (o' = o) && A.e sc x && B.e sc y
    | _ => false
  | .neg a => let A := chkAll a; fP fun sc e => match e with
    | .UnaryOp .USub x _ => A.e sc x
    | _ => false
  | .not a => let A := chkAll a; fP fun sc e => match e with
    | .UnaryOp .Not x _ => A.e sc x
    | _ => false
  | .cmp o a b => let A := chkAll a; let B := chkAll b; fP fun sc e => match e with
    | .Compare x [o'] [y] _ => decide (o' = o) && (C.cm && notSet y) && A.e sc x && B.e sc y
    | _ => false
  | .chain o p a b c => let A := chkAll a; let B := chkAll b; let D := chkAll c; fP fun sc e => match e with
    | .Compare x [o', p'] [y, z] _ => decide (o' = o) && decide (p' = p) && (C.cm && notSet z) && A.e sc x && B.e sc y && D.e sc z
    | _ => false
  | .and a b => let A := chkAll a; let B := chkAll b; fP fun sc e => match e with
    | .BoolOp .And [x, y] _ => A.e sc x && B.e sc y
    | .BoolOp .And (x :: y :: z :: r) pos => A.e sc x && B.e sc (.BoolOp .And (y :: z :: r) pos)
    | _ => false
  | .or a b => let A := chkAll a; let B := chkAll b; fP fun sc e => match e with
    | .BoolOp .Or [x, y] _ => A.e sc x && B.e sc y
    | .BoolOp .Or (x :: y :: z :: r) pos => A.e sc x && B.e sc (.BoolOp .Or (y :: z :: r) pos)
    | _ => false
  | .ite t a b => let T := chkAll t; let A := chkAll a; let B := chkAll b; fP fun sc e => match e with
    | .IfExp c x y _ => T.e sc c && A.e sc x && B.e sc y
    | _ => false
  | .tup as => let A := chkAll as; fP fun sc e => match e with
    | .Tuple es _ _ => A.a sc es
    | _ => false
  | .idx a i => let A := chkAll a; let B := chkAll i; fP fun sc e => match e with
    | .Subscript x y _ => notSlice y && A.e sc x && B.e sc y
    | _ => false
  | .slc a lo hi => let A := chkAll a; let L := chkAll lo; let U := chkAll hi; fP fun sc e => match e with
    | .Subscript x (.Slice l u none _) _ => A.e sc x && L.o sc l && U.o sc u
    | _ => false
  | .call f as => let A := chkAll as; fP fun sc e => match e with
    | .Call (.Name x _) (e :: es) [] _ => (C.cm && decide (C.fs[f]? = some x)) && glB sc x && okName x && A.a sc (e :: es)
    | _ => false
  | .bi f as => let A := chkAll as; fP fun sc e => match e with
    | .Call (.Name x _) (e :: es) [] _ => C.cm && decide (x = biName f) && glB sc x && A.a sc (e :: es)
    | _ => false
  | .isa a ts => let A := chkAll a; fP fun sc e => match e with
    | .Call (.Name x _) [e, .Name y p] [] _ => decide (x = ("isinstance" : Str)) && glB sc x && A.e sc e && tysB ts [.Name y p] sc
    | .Call (.Name x _) [e, .Tuple es _ _] [] _ => decide (x = ("isinstance" : Str)) && glB sc x && A.e sc e && tysB ts es sc && decide (2 ≤ es.length ∧ ts.length ≤ 100)
    | _ => false
  | .trk a => let A := chkAll a; fP fun sc e => A.n sc e
  | .app a x => let A := chkAll a; let B := chkAll x; fP fun sc e => match e with
    | .Call (.Attribute o n ap) [e] [] cp => decide (n = ("append" : Str)) && notSuper o && (ap.endLine == cp.line) && A.e sc o && B.e sc e
    | _ => false
  | .popAt a x => let A := chkAll a; let B := chkAll x; fP fun sc e => match e with
    | .Call (.Attribute o n ap) [e] [] cp => decide (n = ("pop" : Str)) && notSuper o && (ap.endLine == cp.line) && A.e sc o && B.e sc e
    | _ => false
  | .pop a => let A := chkAll a; fP fun sc e => match e with
    | .Call (.Attribute o n ap) [] [] cp => decide (n = ("pop" : Str)) && notSuper o && (ap.endLine == cp.line) && A.e sc o
    | _ => false
  | .rev a => let A := chkAll a; fP fun sc e => match e with
    | .Subscript x (.Slice none none (some (.UnaryOp .USub (.Constant (.int m) _ _) _)) _) _ => decide (m = 1) && A.e sc x
    | _ => false
  | .ext a x => let A := chkAll a; let B := chkAll x; fP fun sc e => match e with
    | .Call (.Attribute o n ap) [e] [] cp => decide (n = ("extend" : Str)) && notSuper o && (ap.endLine == cp.line) && A.e sc o && B.e sc e
    | _ => false
  | .lst as => let A := chkAll as; fN fun sc e => match e with
    | .List es _ => A.a sc es
    | _ => false
  | .comp own tg src ifs elt => let S := chkAll src; let F := chkAll ifs; let E := chkAll elt; fN fun sc e => match e with
    | .ListComp e [⟨t, it, cs, k⟩] scope _ => C.cm && decide (k = 0) && blkC C.N sc scope (ownOf C.N own) && chkTg C scope (fun i => own.contains i) tg t && notSet it && S.i sc t it &&
      (match isNil ifs, cs with
        | true, [] => true
        | true, _ => false
        | false, [c] => F.e scope c
        | false, _ => false) && E.e scope e
    | _ => false
  | .bn f as => let A := chkAll as; fN fun sc e => match e with
    | .Call (.Name x _) (e :: es) [] _ => decide (x = bnName f) && glB sc x && A.a sc (e :: es)
    | _ => false
  | .binL o a b => let A := chkAll a; let B := chkAll b; fN fun sc e => match e with
    | .BinOp x o' y _ => decide (o' = o) && A.e sc x && B.e sc y
    | _ => false
  | .slcL a lo hi => let A := chkAll a; let L := chkAll lo; let U := chkAll hi; fN fun sc e => match e with
    | .Subscript x (.Slice l u none _) _ => A.e sc x && L.o sc l && U.o sc u
    | _ => false
  | .nil => { e := fun _ _ => false, n := fun _ _ => false, i := fun _ _ _ => false, a := fun _ es => match es with
    | [] => true
    | _ => false, o := fun _ o => match o with
    | none => true
    | some _ => false }
  | .cons a r => let A := chkAll a; let R := chkAll r; { e := fun _ _ => false, n := fun _ _ => false, i := fun _ _ _ => false, o := fun _ _ => false, a := fun sc es => match es with
    | e :: es => A.e sc e && R.a sc es
    | [] => false }
  | .rng1 a => let A := chkAll a; fI fun sc _ e => match e with
    | .Call (.Name x _) [e] [] _ => decide (x = ("range" : Str)) && glB sc x && A.e sc e
    | _ => false
  | .rng2 a b => let A := chkAll a; let B := chkAll b; fI fun sc _ e => match e with
    | .Call (.Name x _) [e, f] [] _ => decide (x = ("range" : Str)) && glB sc x && A.e sc e && B.e sc f
    | _ => false
  | .rng3 a b c => let A := chkAll a; let B := chkAll b; let D := chkAll c; fI fun sc _ e => match e with
    | .Call (.Name x _) [e, f, g] [] _ => decide (x = ("range" : Str)) && glB sc x && A.e sc e && B.e sc f && D.e sc g
    | _ => false
  | .zip a b => let A := chkAll a; let B := chkAll b; fI fun sc t e => match e with
    | .Call (.Name x _) [e, f] [] _ => isTup t && decide (x = ("zip" : Str)) && glB sc x && A.e sc e && B.e sc f
    | _ => false
  | .enm a => let A := chkAll a; fI fun sc t e => match e with
    | .Call (.Name x _) [e] [] _ => isTup t && decide (x = ("enumerate" : Str)) && glB sc x && A.e sc e
    | _ => false
end
theorem fP_eq {C : Ck} {ir : I} {f : Scope → Expr → Bool} (he : ∀ sc e, f sc e = chkE C ir sc e) (hn : ∀ sc e, chkN C ir sc e = false) (ha : ∀ sc es, chkA C ir sc es = false) (o0 : ∀ sc, chkO C ir sc none = false) (o1 : ∀ sc x, chkO C ir sc (some x) = chkE C ir sc x) (hi : ∀ sc t x, chkI C ir sc t x = chkE C ir sc x) : fP f = F0 C ir := by
  unfold fP F0
  congr 1
  · funext sc e; exact he sc e
  · funext sc e; exact (hn sc e).symm
  · funext sc e; exact (ha sc e).symm
  · funext sc o
    cases o with
    | none => exact (o0 sc).symm
    | some x => exact (he sc x).trans (o1 sc x).symm
  · funext sc t x; exact (he sc x).trans (hi sc t x).symm
theorem fN_eq {C : Ck} {ir : I} {f : Scope → Expr → Bool} (he : ∀ sc e, f sc e = chkN C ir sc e) (hn : ∀ sc e, chkE C ir sc e = chkN C ir sc e) (ha : ∀ sc es, chkA C ir sc es = false) (o0 : ∀ sc, chkO C ir sc none = false) (o1 : ∀ sc x, chkO C ir sc (some x) = chkE C ir sc x) (hi : ∀ sc t x, chkI C ir sc t x = chkE C ir sc x) : fN f = F0 C ir := by
  unfold fN fP F0
  dsimp only
  congr 1
  · funext sc e; exact (he sc e).trans (hn sc e).symm
  · funext sc e; exact he sc e
  · funext sc e; exact (ha sc e).symm
  · funext sc o
    cases o with
    | none => exact (o0 sc).symm
    | some x => exact ((he sc x).trans (hn sc x).symm).trans (o1 sc x).symm
  · funext sc t x; exact ((he sc x).trans (hn sc x).symm).trans (hi sc t x).symm
theorem fI_eq {C : Ck} {ir : I} {f : Scope → Expr → Expr → Bool} (he : ∀ sc e, chkE C ir sc e = false) (hn : ∀ sc e, chkN C ir sc e = false) (ha : ∀ sc es, chkA C ir sc es = false) (o0 : ∀ sc, chkO C ir sc none = false) (o1 : ∀ sc x, chkO C ir sc (some x) = chkE C ir sc x) (hi : ∀ sc t x, f sc t x = chkI C ir sc t x) : fI f = F0 C ir := by
  unfold fI fP F0
  dsimp only
  congr 1
  · funext sc e; exact (he sc e).symm
  · funext sc e; exact (hn sc e).symm
  · funext sc e; exact (ha sc e).symm
  · funext sc o
    cases o with
    | none => exact (o0 sc).symm
    | some x => exact (he sc x).symm.trans (o1 sc x).symm
  · funext sc t x; exact hi sc t x
theorem all_eq (C : Ck) (ir : I) : chkAll C ir = F0 C ir := by
  induction ir with
  | var i  =>
    refine fP_eq (fun sc e => ?_) (fun sc e => ?_) (fun sc es => ?_) (fun sc => ?_) (fun sc x => ?_) (fun sc t e => ?_)
    · first | rfl | (simp only [chkE] <;> rfl) | (cases e <;> first | rfl | (simp only [chkE] <;> rfl) | (simp only [chkN] <;> rfl) | (simp only [chkI] <;> rfl))
    · simp only [chkN]
    · simp only [chkA]
    · simp only [chkO]
    · simp only [chkO]
    · simp only [chkI]
  | int n  =>
    refine fP_eq (fun sc e => ?_) (fun sc e => ?_) (fun sc es => ?_) (fun sc => ?_) (fun sc x => ?_) (fun sc t e => ?_)
    · first | rfl | (simp only [chkE] <;> rfl) | (cases e <;> first | rfl | (simp only [chkE] <;> rfl) | (rename_i v _ _; cases v <;> first | rfl | (simp only [chkE] <;> rfl) | (simp only [chkN] <;> rfl) | (simp only [chkI] <;> rfl)))
    · simp only [chkN]
    · simp only [chkA]
    · simp only [chkO]
    · simp only [chkO]
    · simp only [chkI]
  | str x  =>
    refine fP_eq (fun sc e => ?_) (fun sc e => ?_) (fun sc es => ?_) (fun sc => ?_) (fun sc x => ?_) (fun sc t e => ?_)
    · first | rfl | (simp only [chkE] <;> rfl) | (cases e <;> first | rfl | (simp only [chkE] <;> rfl) | (rename_i v _ _; cases v <;> first | rfl | (simp only [chkE] <;> rfl) | (simp only [chkN] <;> rfl) | (simp only [chkI] <;> rfl)))
    · simp only [chkN]
    · simp only [chkA]
    · simp only [chkO]
    · simp only [chkO]
    · simp only [chkI]
  | bl b  =>
    refine fP_eq (fun sc e => ?_) (fun sc e => ?_) (fun sc es => ?_) (fun sc => ?_) (fun sc x => ?_) (fun sc t e => ?_)
    · first | rfl | (simp only [chkE] <;> rfl) | (cases e <;> first | rfl | (simp only [chkE] <;> rfl) | (rename_i v _ _; cases v <;> first | rfl | (simp only [chkE] <;> rfl) | (simp only [chkN] <;> rfl) | (simp only [chkI] <;> rfl)))
    · simp only [chkN]
    · simp only [chkA]
    · simp only [chkO]
    · simp only [chkO]
    · simp only [chkI]
  | non   =>
    refine fP_eq (fun sc e => ?_) (fun sc e => ?_) (fun sc es => ?_) (fun sc => ?_) (fun sc x => ?_) (fun sc t e => ?_)
    · first | rfl | (simp only [chkE] <;> rfl) | (cases e <;> first | rfl | (simp only [chkE] <;> rfl) | (rename_i v _ _; cases v <;> first | rfl | (simp only [chkE] <;> rfl) | (simp only [chkN] <;> rfl) | (simp only [chkI] <;> rfl)))
    · simp only [chkN]
    · simp only [chkA]
    · simp only [chkO]
    · simp only [chkO]
    · simp only [chkI]
  | glb j  =>
    refine fP_eq (fun sc e => ?_) (fun sc e => ?_) (fun sc es => ?_) (fun sc => ?_) (fun sc x => ?_) (fun sc t e => ?_)
    · first | rfl | (simp only [chkE] <;> rfl) | (cases e <;> first | rfl | (simp only [chkE] <;> rfl) | (simp only [chkN] <;> rfl) | (simp only [chkI] <;> rfl))
    · simp only [chkN]
    · simp only [chkA]
    · simp only [chkO]
    · simp only [chkO]
    · simp only [chkI]
  | isx i j b  =>
    refine fP_eq (fun sc e => ?_) (fun sc e => ?_) (fun sc es => ?_) (fun sc => ?_) (fun sc x => ?_) (fun sc t e => ?_)
    · first | rfl | (simp only [chkE] <;> rfl) | (cases e <;> first | rfl | (simp only [chkE] <;> rfl) | (simp only [chkN] <;> rfl) | (simp only [chkI] <;> rfl))
    · simp only [chkN]
    · simp only [chkA]
    · simp only [chkO]
    · simp only [chkO]
    · simp only [chkI]
  | bin o a b ha hb =>
    refine fP_eq (fun sc e => ?_) (fun sc e => ?_) (fun sc es => ?_) (fun sc => ?_) (fun sc x => ?_) (fun sc t e => ?_)
    · rw [ha, hb]; first | rfl | (simp only [chkE] <;> rfl) | (cases e <;> first | rfl | (simp only [chkE] <;> rfl) | (simp only [chkN] <;> rfl) | (simp only [chkI] <;> rfl))
    · simp only [chkN]
    · simp only [chkA]
    · simp only [chkO]
    · simp only [chkO]
    · simp only [chkI]
  | neg a ha =>
    refine fP_eq (fun sc e => ?_) (fun sc e => ?_) (fun sc es => ?_) (fun sc => ?_) (fun sc x => ?_) (fun sc t e => ?_)
    · rw [ha]; first | rfl | (simp only [chkE] <;> rfl) | (cases e <;> first | rfl | (simp only [chkE] <;> rfl) | (rename_i op _ _; cases op <;> first | rfl | (simp only [chkE] <;> rfl) | (simp only [chkN] <;> rfl) | (simp only [chkI] <;> rfl)))
    · simp only [chkN]
    · simp only [chkA]
    · simp only [chkO]
    · simp only [chkO]
    · simp only [chkI]
  | not a ha =>
    refine fP_eq (fun sc e => ?_) (fun sc e => ?_) (fun sc es => ?_) (fun sc => ?_) (fun sc x => ?_) (fun sc t e => ?_)
    · rw [ha]; first | rfl | (simp only [chkE] <;> rfl) | (cases e <;> first | rfl | (simp only [chkE] <;> rfl) | (rename_i op _ _; cases op <;> first | rfl | (simp only [chkE] <;> rfl) | (simp only [chkN] <;> rfl) | (simp only [chkI] <;> rfl)))
    · simp only [chkN]
    · simp only [chkA]
    · simp only [chkO]
    · simp only [chkO]
    · simp only [chkI]
  | cmp o a b ha hb =>
    refine fP_eq (fun sc e => ?_) (fun sc e => ?_) (fun sc es => ?_) (fun sc => ?_) (fun sc x => ?_) (fun sc t e => ?_)
    · rw [ha, hb]; first | rfl | (simp only [chkE] <;> rfl) | (cases e <;> first | rfl | (simp only [chkE] <;> rfl) | (rename_i x os ys p; rcases os with _ | ⟨o1, _ | ⟨o2, _ | ⟨o3, os⟩⟩⟩ <;> rcases ys with _ | ⟨y, _ | ⟨y2, _ | ⟨y3, ys⟩⟩⟩ <;> first | rfl | (simp only [chkE] <;> rfl) | (simp only [chkN] <;> rfl) | (simp only [chkI] <;> rfl)))
    · simp only [chkN]
    · simp only [chkA]
    · simp only [chkO]
    · simp only [chkO]
    · simp only [chkI]
  | chain o p a b c ha hb hc =>
    refine fP_eq (fun sc e => ?_) (fun sc e => ?_) (fun sc es => ?_) (fun sc => ?_) (fun sc x => ?_) (fun sc t e => ?_)
    · rw [ha, hb, hc]; first | rfl | (simp only [chkE] <;> rfl) | (cases e <;> first | rfl | (simp only [chkE] <;> rfl) | (rename_i x os ys p; rcases os with _ | ⟨o1, _ | ⟨o2, _ | ⟨o3, os⟩⟩⟩ <;> rcases ys with _ | ⟨y, _ | ⟨y2, _ | ⟨y3, ys⟩⟩⟩ <;> first | rfl | (simp only [chkE] <;> rfl) | (simp only [chkN] <;> rfl) | (simp only [chkI] <;> rfl)))
    · simp only [chkN]
    · simp only [chkA]
    · simp only [chkO]
    · simp only [chkO]
    · simp only [chkI]
  | and a b ha hb =>
    refine fP_eq (fun sc e => ?_) (fun sc e => ?_) (fun sc es => ?_) (fun sc => ?_) (fun sc x => ?_) (fun sc t e => ?_)
    · rw [ha, hb]; first | rfl | (simp only [chkE] <;> rfl) | (cases e <;> first | rfl | (simp only [chkE] <;> rfl) | (rename_i op vs p; cases op <;> rcases vs with _ | ⟨x, _ | ⟨y, _ | ⟨z, r⟩⟩⟩ <;> first | rfl | (simp only [chkE] <;> rfl) | (simp only [chkN] <;> rfl) | (simp only [chkI] <;> rfl)))
    · simp only [chkN]
    · simp only [chkA]
    · simp only [chkO]
    · simp only [chkO]
    · simp only [chkI]
  | or a b ha hb =>
    refine fP_eq (fun sc e => ?_) (fun sc e => ?_) (fun sc es => ?_) (fun sc => ?_) (fun sc x => ?_) (fun sc t e => ?_)
    · rw [ha, hb]; first | rfl | (simp only [chkE] <;> rfl) | (cases e <;> first | rfl | (simp only [chkE] <;> rfl) | (rename_i op vs p; cases op <;> rcases vs with _ | ⟨x, _ | ⟨y, _ | ⟨z, r⟩⟩⟩ <;> first | rfl | (simp only [chkE] <;> rfl) | (simp only [chkN] <;> rfl) | (simp only [chkI] <;> rfl)))
    · simp only [chkN]
    · simp only [chkA]
    · simp only [chkO]
    · simp only [chkO]
    · simp only [chkI]
  | ite t a b ht ha hb =>
    refine fP_eq (fun sc e => ?_) (fun sc e => ?_) (fun sc es => ?_) (fun sc => ?_) (fun sc x => ?_) (fun sc t e => ?_)
    · rw [ht, ha, hb]; first | rfl | (simp only [chkE] <;> rfl) | (cases e <;> first | rfl | (simp only [chkE] <;> rfl) | (simp only [chkN] <;> rfl) | (simp only [chkI] <;> rfl))
    · simp only [chkN]
    · simp only [chkA]
    · simp only [chkO]
    · simp only [chkO]
    · simp only [chkI]
  | tup as ha =>
    refine fP_eq (fun sc e => ?_) (fun sc e => ?_) (fun sc es => ?_) (fun sc => ?_) (fun sc x => ?_) (fun sc t e => ?_)
    · rw [ha]; first | rfl | (simp only [chkE] <;> rfl) | (cases e <;> first | rfl | (simp only [chkE] <;> rfl) | (simp only [chkN] <;> rfl) | (simp only [chkI] <;> rfl))
    · simp only [chkN]
    · simp only [chkA]
    · simp only [chkO]
    · simp only [chkO]
    · simp only [chkI]
  | idx a i ha hb =>
    refine fP_eq (fun sc e => ?_) (fun sc e => ?_) (fun sc es => ?_) (fun sc => ?_) (fun sc x => ?_) (fun sc t e => ?_)
    · rw [ha, hb]; first | rfl | (simp only [chkE] <;> rfl) | (cases e <;> first | rfl | (simp only [chkE] <;> rfl) | (simp only [chkN] <;> rfl) | (simp only [chkI] <;> rfl))
    · simp only [chkN]
    · simp only [chkA]
    · simp only [chkO]
    · simp only [chkO]
    · simp only [chkI]
  | slc a lo hi ha hl hu =>
    refine fP_eq (fun sc e => ?_) (fun sc e => ?_) (fun sc es => ?_) (fun sc => ?_) (fun sc x => ?_) (fun sc t e => ?_)
    · rw [ha, hl, hu]; first | rfl | (simp only [chkE] <;> rfl) | (cases e <;> first | rfl | (simp only [chkE] <;> rfl) | (simp only [chkN] <;> rfl) | (rename_i x y p; cases y <;> first | rfl | (simp only [chkE] <;> rfl) | (simp only [chkN] <;> rfl) | (rename_i l u st q; cases st <;> first | rfl | (simp only [chkE] <;> rfl) | (simp only [chkN] <;> rfl) | (simp only [chkI] <;> rfl))))
    · simp only [chkN]
    · simp only [chkA]
    · simp only [chkO]
    · simp only [chkO]
    · simp only [chkI]
  | call f as ha =>
    refine fP_eq (fun sc e => ?_) (fun sc e => ?_) (fun sc es => ?_) (fun sc => ?_) (fun sc x => ?_) (fun sc t e => ?_)
    · rw [ha]; first | rfl | (simp only [chkE] <;> rfl) | (cases e <;> first | rfl | (simp only [chkE] <;> rfl) | (simp only [chkN] <;> rfl) | (simp only [chkI] <;> rfl) | (rename_i fn args kws p; cases fn <;> rcases args with _ | ⟨a1, _ | ⟨a2, _ | ⟨a3, _ | ⟨a4, args⟩⟩⟩⟩ <;> cases kws <;> first | rfl | (simp only [chkE] <;> rfl) | (simp only [chkN] <;> rfl) | (simp only [chkI] <;> rfl)))
    · simp only [chkN]
    · simp only [chkA]
    · simp only [chkO]
    · simp only [chkO]
    · simp only [chkI]
  | bi f as ha =>
    refine fP_eq (fun sc e => ?_) (fun sc e => ?_) (fun sc es => ?_) (fun sc => ?_) (fun sc x => ?_) (fun sc t e => ?_)
    · rw [ha]; first | rfl | (simp only [chkE] <;> rfl) | (cases e <;> first | rfl | (simp only [chkE] <;> rfl) | (simp only [chkN] <;> rfl) | (simp only [chkI] <;> rfl) | (rename_i fn args kws p; cases fn <;> rcases args with _ | ⟨a1, _ | ⟨a2, _ | ⟨a3, _ | ⟨a4, args⟩⟩⟩⟩ <;> cases kws <;> first | rfl | (simp only [chkE] <;> rfl) | (simp only [chkN] <;> rfl) | (simp only [chkI] <;> rfl)))
    · simp only [chkN]
    · simp only [chkA]
    · simp only [chkO]
    · simp only [chkO]
    · simp only [chkI]
  | isa a ts ha =>
    refine fP_eq (fun sc e => ?_) (fun sc e => ?_) (fun sc es => ?_) (fun sc => ?_) (fun sc x => ?_) (fun sc t e => ?_)
    · rw [ha]; first | rfl | (simp only [chkE] <;> rfl) | (cases e <;> first | rfl | (simp only [chkE] <;> rfl) | (rename_i fn args kws p; cases fn <;> rcases args with _ | ⟨a1, _ | ⟨a2, _ | ⟨a3, args⟩⟩⟩ <;> cases kws <;> first | rfl | (simp only [chkE] <;> rfl) | (cases a2 <;> first | rfl | (simp only [chkE] <;> rfl) | (simp only [chkN] <;> rfl) | (simp only [chkI] <;> rfl))))
    · simp only [chkN]
    · simp only [chkA]
    · simp only [chkO]
    · simp only [chkO]
    · simp only [chkI]
  | trk a ha =>
    refine fP_eq (fun sc e => ?_) (fun sc e => ?_) (fun sc es => ?_) (fun sc => ?_) (fun sc x => ?_) (fun sc t e => ?_)
    · rw [ha]; first | rfl | (simp only [chkE] <;> rfl) | (cases e <;> first | rfl | (simp only [chkE] <;> rfl) | (simp only [chkN] <;> rfl) | (simp only [chkI] <;> rfl))
    · simp only [chkN]
    · simp only [chkA]
    · simp only [chkO]
    · simp only [chkO]
    · simp only [chkI]
  | app a x ha hx =>
    refine fP_eq (fun sc e => ?_) (fun sc e => ?_) (fun sc es => ?_) (fun sc => ?_) (fun sc x => ?_) (fun sc t e => ?_)
    · rw [ha, hx]; first | rfl | (simp only [chkE] <;> rfl) | (cases e <;> first | rfl | (simp only [chkE] <;> rfl) | (simp only [chkN] <;> rfl) | (simp only [chkI] <;> rfl) | (rename_i fn args kws p; cases fn <;> rcases args with _ | ⟨a1, _ | ⟨a2, _ | ⟨a3, _ | ⟨a4, args⟩⟩⟩⟩ <;> cases kws <;> first | rfl | (simp only [chkE] <;> rfl) | (simp only [chkN] <;> rfl) | (simp only [chkI] <;> rfl)))
    · simp only [chkN]
    · simp only [chkA]
    · simp only [chkO]
    · simp only [chkO]
    · simp only [chkI]
  | ext a x ha hx =>
    refine fP_eq (fun sc e => ?_) (fun sc e => ?_) (fun sc es => ?_) (fun sc => ?_) (fun sc x => ?_) (fun sc t e => ?_)
    · rw [ha, hx]; first | rfl | (simp only [chkE] <;> rfl) | (cases e <;> first | rfl | (simp only [chkE] <;> rfl) | (simp only [chkN] <;> rfl) | (simp only [chkI] <;> rfl) | (rename_i fn args kws p; cases fn <;> rcases args with _ | ⟨a1, _ | ⟨a2, _ | ⟨a3, _ | ⟨a4, args⟩⟩⟩⟩ <;> cases kws <;> first | rfl | (simp only [chkE] <;> rfl) | (simp only [chkN] <;> rfl) | (simp only [chkI] <;> rfl)))
    · simp only [chkN]
    · simp only [chkA]
    · simp only [chkO]
    · simp only [chkO]
    · simp only [chkI]
  | rev a ha =>
    refine fP_eq (fun sc e => ?_) (fun sc e => ?_) (fun sc es => ?_) (fun sc => ?_) (fun sc x => ?_) (fun sc t e => ?_)
    · rw [ha]; cases e <;> first | rfl | (simp only [chkE] <;> rfl) | (rename_i v sl p; cases sl <;> first | rfl | (simp only [chkE] <;> rfl) | (rename_i lo hi st p2; rcases lo with _ | lo <;> rcases hi with _ | hi <;> rcases st with _ | st <;> first | rfl | (simp only [chkE] <;> rfl) | (cases st <;> first | rfl | (simp only [chkE] <;> rfl) | (rename_i o v2 p3; cases o <;> first | rfl | (simp only [chkE] <;> rfl) | (cases v2 <;> first | rfl | (simp only [chkE] <;> rfl) | (rename_i c k p4; cases c <;> first | rfl | (simp only [chkE] <;> rfl)))))))
    · simp only [chkN]
    · simp only [chkA]
    · simp only [chkO]
    · simp only [chkO]
    · simp only [chkI]
  | popAt a i ha hx =>
    refine fP_eq (fun sc e => ?_) (fun sc e => ?_) (fun sc es => ?_) (fun sc => ?_) (fun sc x => ?_) (fun sc t e => ?_)
    · rw [ha, hx]; first | rfl | (simp only [chkE] <;> rfl) | (cases e <;> first | rfl | (simp only [chkE] <;> rfl) | (simp only [chkN] <;> rfl) | (simp only [chkI] <;> rfl) | (rename_i fn args kws p; cases fn <;> rcases args with _ | ⟨a1, _ | ⟨a2, _ | ⟨a3, _ | ⟨a4, args⟩⟩⟩⟩ <;> cases kws <;> first | rfl | (simp only [chkE] <;> rfl) | (simp only [chkN] <;> rfl) | (simp only [chkI] <;> rfl)))
    · simp only [chkN]
    · simp only [chkA]
    · simp only [chkO]
    · simp only [chkO]
    · simp only [chkI]
  | pop a ha =>
    refine fP_eq (fun sc e => ?_) (fun sc e => ?_) (fun sc es => ?_) (fun sc => ?_) (fun sc x => ?_) (fun sc t e => ?_)
    · rw [ha]; first | rfl | (simp only [chkE] <;> rfl) | (cases e <;> first | rfl | (simp only [chkE] <;> rfl) | (simp only [chkN] <;> rfl) | (simp only [chkI] <;> rfl) | (rename_i fn args kws p; cases fn <;> rcases args with _ | ⟨a1, _ | ⟨a2, _ | ⟨a3, _ | ⟨a4, args⟩⟩⟩⟩ <;> cases kws <;> first | rfl | (simp only [chkE] <;> rfl) | (simp only [chkN] <;> rfl) | (simp only [chkI] <;> rfl)))
    · simp only [chkN]
    · simp only [chkA]
    · simp only [chkO]
    · simp only [chkO]
    · simp only [chkI]
  | lst as ha =>
    refine fN_eq (fun sc e => ?_) (fun sc e => ?_) (fun sc es => ?_) (fun sc => ?_) (fun sc x => ?_) (fun sc t e => ?_)
    · rw [ha]; first | rfl | (simp only [chkN] <;> rfl) | (cases e <;> first | rfl | (simp only [chkE] <;> rfl) | (simp only [chkN] <;> rfl) | (simp only [chkI] <;> rfl))
    · simp only [chkE]
    · simp only [chkA]
    · simp only [chkO]
    · simp only [chkO]
    · simp only [chkI]
  | comp own tg src ifs elt hs hf he =>
    refine fN_eq (fun sc e => ?_) (fun sc e => ?_) (fun sc es => ?_) (fun sc => ?_) (fun sc x => ?_) (fun sc t e => ?_)
    · rw [hs, hf, he]; first | rfl | (simp only [chkN] <;> rfl) | (cases e <;> first | rfl | (simp only [chkN] <;> rfl) | (rename_i el gs scope p; rcases gs with _ | ⟨⟨t, it, cs, n⟩, _ | ⟨g2, gs⟩⟩ <;> first | rfl | (simp only [chkN] <;> rfl) | (cases ifs <;> rcases cs with _ | ⟨c1, _ | ⟨c2, cs⟩⟩ <;> first | rfl | (simp only [chkE] <;> rfl) | (simp only [chkN] <;> rfl) | (simp only [chkI] <;> rfl))))
    · simp only [chkE]
    · simp only [chkA]
    · simp only [chkO]
    · simp only [chkO]
    · simp only [chkI]
  | bn f as ha =>
    refine fN_eq (fun sc e => ?_) (fun sc e => ?_) (fun sc es => ?_) (fun sc => ?_) (fun sc x => ?_) (fun sc t e => ?_)
    · rw [ha]; first | rfl | (simp only [chkN] <;> rfl) | (cases e <;> first | rfl | (simp only [chkE] <;> rfl) | (simp only [chkN] <;> rfl) | (simp only [chkI] <;> rfl) | (rename_i fn args kws p; cases fn <;> rcases args with _ | ⟨a1, _ | ⟨a2, _ | ⟨a3, _ | ⟨a4, args⟩⟩⟩⟩ <;> cases kws <;> first | rfl | (simp only [chkE] <;> rfl) | (simp only [chkN] <;> rfl) | (simp only [chkI] <;> rfl)))
    · simp only [chkE]
    · simp only [chkA]
    · simp only [chkO]
    · simp only [chkO]
    · simp only [chkI]
  | binL o a b ha hb =>
    refine fN_eq (fun sc e => ?_) (fun sc e => ?_) (fun sc es => ?_) (fun sc => ?_) (fun sc x => ?_) (fun sc t e => ?_)
    · rw [ha, hb]; first | rfl | (simp only [chkN] <;> rfl) | (cases e <;> first | rfl | (simp only [chkE] <;> rfl) | (simp only [chkN] <;> rfl) | (simp only [chkI] <;> rfl))
    · simp only [chkE]
    · simp only [chkA]
    · simp only [chkO]
    · simp only [chkO]
    · simp only [chkI]
  | slcL a lo hi ha hl hu =>
    refine fN_eq (fun sc e => ?_) (fun sc e => ?_) (fun sc es => ?_) (fun sc => ?_) (fun sc x => ?_) (fun sc t e => ?_)
    · rw [ha, hl, hu]; first | rfl | (simp only [chkN] <;> rfl) | (cases e <;> first | rfl | (simp only [chkE] <;> rfl) | (simp only [chkN] <;> rfl) | (rename_i x y p; cases y <;> first | rfl | (simp only [chkE] <;> rfl) | (simp only [chkN] <;> rfl) | (rename_i l u st q; cases st <;> first | rfl | (simp only [chkE] <;> rfl) | (simp only [chkN] <;> rfl) | (simp only [chkI] <;> rfl))))
    · simp only [chkE]
    · simp only [chkA]
    · simp only [chkO]
    · simp only [chkO]
    · simp only [chkI]
  | rng1 a ha =>
    refine fI_eq (fun sc e => ?_) (fun sc e => ?_) (fun sc es => ?_) (fun sc => ?_) (fun sc x => ?_) (fun sc t e => ?_)
    · simp only [chkE]
    · simp only [chkN]
    · simp only [chkA]
    · simp only [chkO]
    · simp only [chkO]
    · rw [ha]; first | rfl | (simp only [chkI] <;> rfl) | (cases e <;> first | rfl | (simp only [chkE] <;> rfl) | (simp only [chkN] <;> rfl) | (simp only [chkI] <;> rfl) | (rename_i fn args kws p; cases fn <;> rcases args with _ | ⟨a1, _ | ⟨a2, _ | ⟨a3, _ | ⟨a4, args⟩⟩⟩⟩ <;> cases kws <;> first | rfl | (simp only [chkE] <;> rfl) | (simp only [chkN] <;> rfl) | (simp only [chkI] <;> rfl)))
  | rng2 a b ha hb =>
    refine fI_eq (fun sc e => ?_) (fun sc e => ?_) (fun sc es => ?_) (fun sc => ?_) (fun sc x => ?_) (fun sc t e => ?_)
    · simp only [chkE]
    · simp only [chkN]
    · simp only [chkA]
    · simp only [chkO]
    · simp only [chkO]
    · rw [ha, hb]; first | rfl | (simp only [chkI] <;> rfl) | (cases e <;> first | rfl | (simp only [chkE] <;> rfl) | (simp only [chkN] <;> rfl) | (simp only [chkI] <;> rfl) | (rename_i fn args kws p; cases fn <;> rcases args with _ | ⟨a1, _ | ⟨a2, _ | ⟨a3, _ | ⟨a4, args⟩⟩⟩⟩ <;> cases kws <;> first | rfl | (simp only [chkE] <;> rfl) | (simp only [chkN] <;> rfl) | (simp only [chkI] <;> rfl)))
  | rng3 a b c ha hb hc =>
    refine fI_eq (fun sc e => ?_) (fun sc e => ?_) (fun sc es => ?_) (fun sc => ?_) (fun sc x => ?_) (fun sc t e => ?_)
    · simp only [chkE]
    · simp only [chkN]
    · simp only [chkA]
    · simp only [chkO]
    · simp only [chkO]
    · rw [ha, hb, hc]; first | rfl | (simp only [chkI] <;> rfl) | (cases e <;> first | rfl | (simp only [chkE] <;> rfl) | (simp only [chkN] <;> rfl) | (simp only [chkI] <;> rfl) | (rename_i fn args kws p; cases fn <;> rcases args with _ | ⟨a1, _ | ⟨a2, _ | ⟨a3, _ | ⟨a4, args⟩⟩⟩⟩ <;> cases kws <;> first | rfl | (simp only [chkE] <;> rfl) | (simp only [chkN] <;> rfl) | (simp only [chkI] <;> rfl)))
  | zip a b ha hb =>
    refine fI_eq (fun sc e => ?_) (fun sc e => ?_) (fun sc es => ?_) (fun sc => ?_) (fun sc x => ?_) (fun sc t e => ?_)
    · simp only [chkE]
    · simp only [chkN]
    · simp only [chkA]
    · simp only [chkO]
    · simp only [chkO]
    · rw [ha, hb]; first | rfl | (simp only [chkI] <;> rfl) | (cases e <;> first | rfl | (simp only [chkE] <;> rfl) | (simp only [chkN] <;> rfl) | (simp only [chkI] <;> rfl) | (rename_i fn args kws p; cases fn <;> rcases args with _ | ⟨a1, _ | ⟨a2, _ | ⟨a3, _ | ⟨a4, args⟩⟩⟩⟩ <;> cases kws <;> first | rfl | (simp only [chkE] <;> rfl) | (simp only [chkN] <;> rfl) | (simp only [chkI] <;> rfl)))
  | enm a ha =>
    refine fI_eq (fun sc e => ?_) (fun sc e => ?_) (fun sc es => ?_) (fun sc => ?_) (fun sc x => ?_) (fun sc t e => ?_)
    · simp only [chkE]
    · simp only [chkN]
    · simp only [chkA]
    · simp only [chkO]
    · simp only [chkO]
    · rw [ha]; first | rfl | (simp only [chkI] <;> rfl) | (cases e <;> first | rfl | (simp only [chkE] <;> rfl) | (simp only [chkN] <;> rfl) | (simp only [chkI] <;> rfl) | (rename_i fn args kws p; cases fn <;> rcases args with _ | ⟨a1, _ | ⟨a2, _ | ⟨a3, _ | ⟨a4, args⟩⟩⟩⟩ <;> cases kws <;> first | rfl | (simp only [chkE] <;> rfl) | (simp only [chkN] <;> rfl) | (simp only [chkI] <;> rfl)))
  | nil =>
    unfold chkAll F0
    congr 1
    · funext sc e; simp only [chkE]
    · funext sc e; simp only [chkN]
    · funext sc e; cases e <;> simp only [chkA]
    · funext sc e; cases e <;> simp only [chkO]
    · funext sc t e; simp only [chkI, chkE]
  | cons a r ha hr =>
    unfold chkAll F0
    rw [ha, hr]
    dsimp only
    congr 1
    · funext sc e; simp only [chkE]
    · funext sc e; simp only [chkN]
    · funext sc e; cases e <;> simp only [chkA] <;> rfl
    · funext sc e; cases e <;> simp only [chkO, chkE]
    · funext sc t e; simp only [chkI, chkE]
theorem all_is : chkAll = F0 := by funext C ir; exact all_eq C ir
end Cl
/-! Functions. -/
namespace Cl
open PySem PySem.Spec PyProof.Rows L2

/-- what the body does with arguments -/
noncomputable def runF (s : Env → Hc → Out) (p n : Nat) (ds : List D) : M D := fun hc => if ds.length = p then
    match s (ds.map some ++ List.replicate (n - p) none) hc with
    | .nx _ h => .ok .non h
    | .rt d h => .ok d h
    | .exc c fs _ h => .exc c fs h
    | _ => .bad
  else .bad
section
variable {P : Program} {w : World} {K : PySem.W.Frag} {mg : Str → Option Value} {base : Heap} {C : Ck} {G : Gt} {Cs : List D} {k : Nat}
theorem rep_start {T : Tk} {H : Hp} : ∀ {ds : List D} {vs : List V}, RepL K T H ds vs → ∀ n, EnvR K T H (ds.map some ++ List.replicate n none) (vs.map some ++ List.replicate n none)
  | ds, vs, r, n => by
    refine ⟨by simp [r.length], fun i d q => ?_⟩
    by_cases hi : i < ds.length
    · rw [List.getElem?_append_left (by simpa using hi), List.getElem?_map] at q
      cases e : ds[i]? with
      | none => rw [e] at q; cases q
      | some d' =>
        rw [e] at q
        have : d' = d := by simpa using q
        subst this
        obtain ⟨v, hv, rv⟩ := r.get e
        have hi2 : i < vs.length := by rw [r.length]; exact hi
        exact ⟨v, by rw [List.getElem?_append_left (by simpa using hi2), List.getElem?_map, hv]; rfl, rv⟩
    · rw [List.getElem?_append_right (by simpa using hi), List.getElem?_replicate] at q
      split at q <;> cases q
theorem fnOk {x qual : Str} {st : Stmt} {f : Addr} {fd : FuncData} {ps : List Str} {ir : S} (F : Fun K x qual st f fd) (Sc : FnScope C.N ps (defScope st))     (hc : chkB chkAll C ir (defScope st) (defBody st) = true) (nb : ∀ x ∈ bNames, mg x = none)
    (fs : ∀ (i : Nat) g, G.tab[i]? = some g → ∃ x, C.fs[i]? = some x ∧ FnAt P w K mg base k x g)
    (cf : ClsF K mg C Cs) (hxa : G.xa = none) :
    FnOk P w K mg base (L2.CX P w) (k + 1) f fd ps (spC K (runF (semS G Cs ir) ps.length C.N.length)) := by
  refine F.okX Sc (fun vs H Q E h => ?_) (fun cdv A outer s H vs Q E hr h => ?_)
  · obtain ⟨T, hc, ds, w, r, p⟩ := h
    rw [r.length]
    unfold runF at p
    split at p
    · assumption
    · exact p.elim
  · obtain ⟨T, hc0, ds, wd, r, p⟩ := h
    have hl : ds.length = ps.length := by
      unfold runF at p
      split at p
      · assumption
      · exact p.elim
    have g : Gd C G Cs k (cxOf (L2.CX P w) P w K mg base C.N qual (defScope st) f cdv A outer s H E) (fun c d _ H => E c d H) (defScope st) :=
      { N := rfl, nd := Sc.nd, calm := fun _ => rfl, tk := takes_of rfl rfl rfl rfl, rm := fun _ => hr, scr := ⟨Sc.kind, fun x k h _ => h, fun x h => .inl h⟩,
        loc := fun _ _ => .inl rfl, nb := nb, fs := fs, cf := cf, xn := fun _ => hxa, xa := fun a _ _ _ _ _ z => by rw [hxa] at z; cases z }
    obtain ⟨t, pt, rt⟩ := (sndS ir).b g ⟨rfl, passes_of rfl, rfl, rfl⟩ (by rw [← all_is]; exact hc)
    have e : L2.start C.N vs = vs.map some ++ List.replicate (C.N.length - ps.length) none := by
      unfold L2.start
      rw [r.length, hl]
    refine ⟨t, pt, ?_⟩
    rw [e]
    refine rt T hc0 H _ _ _ wd (rep_start r (C.N.length - ps.length)) ?_
    unfold runF at p
    rw [if_pos hl] at p
    cases q : semS G Cs ir (ds.map some ++ List.replicate (C.N.length - ps.length) none) hc0 with
    | nx env h => rw [q] at p; exact fun T' H' σ' e w' er => p T' H' e w' _ (by simp only [Rep])
    | rt d h => rw [q] at p; exact fun T' H' v e w' rv => p T' H' e w' v rv
    | exc c fs env h => rw [q] at p; exact fun T' H' σ' dd e w' er rx => p T' H' dd e w' rx
    | bk env h => rw [q] at p; exact p.elim
    | ct env h => rw [q] at p; exact p.elim
    | bad => rw [q] at p; exact p.elim
/-- a def of the module -/
structure FF (K : PySem.W.Frag) (mg : Str → Option Value) (x : Str) (st : Stmt) (ps : List Str) : Prop where
  ex : ∃ f fd, Fun K x x st f fd ∧ mg x = some (.ref f) ∧ Binds K fd ps []
theorem ff_mk {h : Heap} {x : Str} {st : Stmt} {ps : List Str} {f : Addr} {oc : Value} {od an : Option Addr} {osl : Array (Option Value)} {kV doc pm cdv ct : Value} (X : K.In h) (G : h.Ns mainGlobals mg)
    (a : PySem.W.nsIn K mainGlobals x = some (some (.ref f))) (l : K.lookup f = some ⟨oc, od, .func (PySem.W.fnOf x x (defArgs st) (defBody st) (defScope st) .none kV doc pm an cdv ct), osl⟩)
    (c : PySem.W.codeIn K cdv x = true) (k : PySem.W.keepIn K (.ref f) = true)
    (hb : ∀ (kV doc pm : Value) (an : Option Addr) (cdv ct : Value) (us : List Value), us.length = ps.length → bindArgs (PySem.W.fnOf x x (defArgs st) (defBody st) (defScope st) .none kV doc pm an cdv ct) ⟨us, []⟩ = pure (ps.zip us)) : FF K mg x st ps :=
  ⟨f, _, fun_mk l c k, PySem.W.mg_of X G a, (fun_mk (st := st) l c k).binds hb⟩
theorem fnAt {x : Str} {st : Stmt} {ps : List Str} {ir : S} (F : FF K mg x st ps) (Sc : FnScope C.N ps (defScope st))
    (hc : chkB chkAll C ir (defScope st) (defBody st) = true) (nb : ∀ x ∈ bNames, mg x = none)
    (fs : ∀ (i : Nat) g, G.tab[i]? = some g → ∃ x, C.fs[i]? = some x ∧ FnAt P w K mg base k x g) (cf : ClsF K mg C Cs) (hxa : G.xa = none) :
    FnAt P w K mg base (k + 1) x (runF (semS G Cs ir) ps.length C.N.length) := by
  obtain ⟨f, fd, F1, hm, b⟩ := F.ex
  exact ⟨f, fd, ps, fnOk F1 Sc hc nb fs cf hxa, hm, F1.kp, b⟩
/-- one promise makes the other -/
def Sub (K : PySem.W.Frag) (g g' : List D → M D) : Prop := ∀ vs H Q E, spC K g vs H Q E → spC K g' vs H Q E
theorem FnAt.imp {x : Str} {g g' : List D → M D} (h : FnAt P w K mg base k x g') (s : Sub K g g') : FnAt P w K mg base k x g := by
  obtain ⟨f, fd, ps, F, a, b, c⟩ := h
  exact ⟨f, fd, ps, F.imp s, a, b, c⟩
theorem Sub.of_eq {g g' : List D → M D} (h : ∀ ds hc, g ds hc ≠ .bad → g ds hc = g' ds hc) : Sub K g g' := fun vs H Q E ⟨T, hc, ds, w, r, p⟩ => ⟨T, hc, ds, w, r, by
  rw [← h ds hc fun z => by rw [z] at p; exact p]; exact p⟩
end
end Cl
/-! Functions that change nothing of their callers': as plain functions. -/
namespace Cl
open PySem PySem.Spec PyProof.Rows L2

inductive PR where
  | ok (d : D) | exc (c : Addr) (fs : List (Str × D)) | bad
mutual
def noRef : D → Bool
  | .ref _ => false
  | .tup xs => noRefL xs
  | .fl xs => noRefL xs
  | .kl xs => noRefL xs
  | .non => true | .bl _ => true | .int _ => true | .str _ => true | .ob _ => true | .ty _ => true
def noRefL : List D → Bool
  | [] => true
  | d :: ds => noRef d && noRefL ds
end
mutual
def noKl : D → Bool
  | .kl _ => false
  | .tup xs => noKlL xs
  | .fl xs => noKlL xs
  | .ref _ => true
  | .non => true | .bl _ => true | .int _ => true | .str _ => true | .ob _ => true | .ty _ => true
def noKlL : List D → Bool
  | [] => true
  | d :: ds => noKl d && noKlL ds
end
def outD : Nat → Hc → D → Option D
  | 0, _, d => if noRef d = true then some d else none
  | n + 1, hc, d => if noRef d = true then some d else match d with
    | .ref i => match hc[i]? with
      | some (.lst xs) => (xs.mapM (outD n hc)).map .fl
      | _ => none
    | .tup xs => (xs.mapM (outD n hc)).map .tup
    | .fl xs => (xs.mapM (outD n hc)).map .fl
    | .kl xs => (xs.mapM (outD n hc)).map .kl
    | _ => none
def inD : Nat → Hc → D → Option D
  | 0, _, d => if noRef d = true then some d else none
  | n + 1, hc, d => if noRef d = true then some d else match d with
    | .ref i => match hc[i]? with
      | some (.lst xs) => (xs.mapM (inD n hc)).map .kl
      | _ => none
    | .tup xs => (xs.mapM (inD n hc)).map .tup
    | .fl xs => (xs.mapM (inD n hc)).map .fl
    | .kl xs => (xs.mapM (inD n hc)).map .kl
    | _ => none
def outKV (n : Nat) (hc : Hc) : List (Str × D) → Option (List (Str × D))
  | [] => some []
  | (k, d) :: r => (outD n hc d).bind fun d' => (outKV n hc r).bind fun r' => some ((k, d') :: r')
def depth : Nat := 6
/-- a run by itself -/
def pureOf : Res D → PR
  | .ok d hc => match outD depth hc d with
    | some d' => .ok d'
    | none => .bad
  | .exc c fs hc => match outKV depth hc fs with
    | some fs' => .exc c fs'
    | none => .bad
  | .bad => .bad
/-- .. by a caller -/
def liftP (g : List D → PR) : List D → M D := fun ds hc =>
  if noRefL ds = true then match g ds with
    | .ok d => .ok d hc
    | .exc c fs => .exc c fs hc
    | .bad => .bad
  else match ds.mapM (inD depth hc) with
    | none => .bad
    | some ds' => match g ds' with
      | .ok d => if noKl d = true ∧ noRef d = true then .ok d hc else .bad
      | .exc c fs => if noKlL (fs.map (·.2)) = true ∧ noRefL (fs.map (·.2)) = true then .exc c fs hc else .bad
      | .bad => .bad

theorem mapM_nil {α β : Type} (f : α → Option β) : ([] : List α).mapM f = some [] := rfl
theorem mapM_cons {α β : Type} (f : α → Option β) (a : α) (l : List α) : (a :: l).mapM f = (f a).bind fun b => (l.mapM f).bind fun r => some (b :: r) := by
  rw [List.mapM_cons]; rfl
section
variable {K : PySem.W.Frag} {T T0 T' : Tk} {H H' : Hp} {hc hc' : Hc}
mutual
theorem rep_move (hF : ∀ a vs, SqF T H a vs → SqF T' H a vs) (hK : ∀ a vs, SqK K T H a vs → SqK K T' H a vs) : ∀ (d : D) (v : V), noRef d = true → Rep K T H d v → Rep K T' H d v
  | .non, _, _, h => h
  | .bl _, _, _, h => h
  | .int _, _, _, h => h
  | .str _, _, _, h => h
  | .ob _, _, _, h => h
  | .ty _, _, _, h => h
  | .ref i, v, n, h => by simp [noRef] at n
  | .tup xs, v, n, h => by
    simp only [Rep] at h ⊢
    obtain ⟨a, vs, q, s, l, r⟩ := h
    exact ⟨a, vs, q, s, l, repL_move hF hK xs vs (by simpa [noRef] using n) r⟩
  | .fl xs, v, n, h => by
    simp only [Rep] at h ⊢
    obtain ⟨a, vs, q, s, l, r⟩ := h
    exact ⟨a, vs, q, hF _ _ s, l, repL_move hF hK xs vs (by simpa [noRef] using n) r⟩
  | .kl xs, v, n, h => by
    simp only [Rep] at h ⊢
    obtain ⟨a, vs, q, s, l, r⟩ := h
    exact ⟨a, vs, q, hK _ _ s, l, repL_move hF hK xs vs (by simpa [noRef] using n) r⟩
theorem repL_move (hF : ∀ a vs, SqF T H a vs → SqF T' H a vs) (hK : ∀ a vs, SqK K T H a vs → SqK K T' H a vs) : ∀ (ds : List D) (vs : List V), noRefL ds = true → RepL K T H ds vs → RepL K T' H ds vs
  | [], _, _, h => by simpa only [RepL] using h
  | d :: ds, vs, n, h => by
    simp only [RepL] at h ⊢
    simp only [noRefL, Bool.and_eq_true] at n
    obtain ⟨v, r, q, a, b⟩ := h
    exact ⟨v, r, q, rep_move hF hK d v n.1 a, repL_move hF hK ds r n.2 b⟩
end
mutual
theorem rep_moveK (hF : ∀ a vs, SqF T H a vs → SqF T' H a vs) : ∀ (d : D) (v : V), noRef d = true → noKl d = true → Rep K T H d v → Rep K T' H d v
  | .non, _, _, _, h => h
  | .bl _, _, _, _, h => h
  | .int _, _, _, _, h => h
  | .str _, _, _, _, h => h
  | .ob _, _, _, _, h => h
  | .ty _, _, _, _, h => h
  | .ref i, v, n, _, h => by simp [noRef] at n
  | .tup xs, v, n, m, h => by
    simp only [Rep] at h ⊢
    obtain ⟨a, vs, q, s, l, r⟩ := h
    exact ⟨a, vs, q, s, l, repL_moveK hF xs vs (by simpa [noRef] using n) (by simpa [noKl] using m) r⟩
  | .fl xs, v, n, m, h => by
    simp only [Rep] at h ⊢
    obtain ⟨a, vs, q, s, l, r⟩ := h
    exact ⟨a, vs, q, hF _ _ s, l, repL_moveK hF xs vs (by simpa [noRef] using n) (by simpa [noKl] using m) r⟩
  | .kl xs, v, _, m, h => by simp [noKl] at m
theorem repL_moveK (hF : ∀ a vs, SqF T H a vs → SqF T' H a vs) : ∀ (ds : List D) (vs : List V), noRefL ds = true → noKlL ds = true → RepL K T H ds vs → RepL K T' H ds vs
  | [], _, _, _, h => by simpa only [RepL] using h
  | d :: ds, vs, n, m, h => by
    simp only [RepL] at h ⊢
    simp only [noRefL, noKlL, Bool.and_eq_true] at n m
    obtain ⟨v, r, q, a, b⟩ := h
    exact ⟨v, r, q, rep_moveK hF d v n.1 m.1 a, repL_moveK hF ds r n.2 m.2 b⟩
end
theorem mapM_rep {f : D → Option D} (hf : ∀ d d' v, f d = some d' → Rep K T H d v → Rep K T' H d' v) : ∀ (ds ds' : List D) (vs : List V), ds.mapM f = some ds' → RepL K T H ds vs → RepL K T' H ds' vs
  | [], ds', vs, e, r => by
    rw [mapM_nil] at e; cases e
    simpa only [RepL] using r
  | d :: ds, ds', vs, e, r => by
    rw [mapM_cons] at e
    cases q : f d with
    | none => rw [q] at e; cases e
    | some b =>
      rw [q] at e
      cases q2 : ds.mapM f with
      | none => rw [q2] at e; cases e
      | some bs =>
        rw [q2] at e
        cases e
        simp only [RepL] at r ⊢
        obtain ⟨v, r', ev, r1, r2⟩ := r
        exact ⟨v, r', ev, hf _ _ _ q r1, mapM_rep hf ds bs r' q2 r2⟩
theorem opt_map {α β : Type} {o : Option α} {f : α → β} {b : β} (h : o.map f = some b) : ∃ a, o = some a ∧ f a = b := by
  cases o with
  | none => cases h
  | some a => exact ⟨a, rfl, by simpa using h⟩
/-- a way in or out -/
theorem way_rep (out : Bool) (w : Wd K T hc H) (hF : ∀ a vs, SqF T H a vs → SqF T' H a vs) (hK : ∀ a vs, SqK K T H a vs → SqK K T' H a vs)
    (hR : ∀ a vs, a ∈ T.ρ → H a = some (.lst vs) → if out = true then SqF T' H a vs else SqK K T' H a vs) : ∀ (n : Nat) (d d' : D) (v : V), (if out = true then outD n hc d else inD n hc d) = some d' → Rep K T H d v → Rep K T' H d' v := by
  intro n
  have base : ∀ d d' v, noRef d = true → some d = some d' → Rep K T H d v → Rep K T' H d' v := fun d d' v n e r => by
    cases e; exact rep_move hF hK d v n r
  induction n with
  | zero =>
    intro d d' v e r
    by_cases nr : noRef d = true
    · exact base d d' v nr (by cases out <;> simpa [outD, inD, nr] using e) r
    · cases out <;> simp [outD, inD, nr] at e
  | succ n ih =>
    intro d d' v e r
    by_cases nr : noRef d = true
    · exact base d d' v nr (by cases out <;> simpa [outD, inD, nr] using e) r
    · have step : ∀ (ds ds' : List D) (vs : List V), ds.mapM (fun d => if out = true then outD n hc d else inD n hc d) = some ds' → RepL K T H ds vs → RepL K T' H ds' vs := mapM_rep ih
      cases d with
      | tup xs =>
        have e2 : (xs.mapM (fun d => if out = true then outD n hc d else inD n hc d)).map D.tup = some d' := by
          cases out <;> simpa [outD, inD, nr] using e
        obtain ⟨ys, e3, rfl⟩ := opt_map e2
        simp only [Rep] at r ⊢
        obtain ⟨a, vs, q, s, l, rr⟩ := r
        exact ⟨a, vs, q, s, l, step _ _ _ e3 rr⟩
      | fl xs =>
        have e2 : (xs.mapM (fun d => if out = true then outD n hc d else inD n hc d)).map D.fl = some d' := by
          cases out <;> simpa [outD, inD, nr] using e
        obtain ⟨ys, e3, rfl⟩ := opt_map e2
        simp only [Rep] at r ⊢
        obtain ⟨a, vs, q, s, l, rr⟩ := r
        exact ⟨a, vs, q, hF _ _ s, l, step _ _ _ e3 rr⟩
      | kl xs =>
        have e2 : (xs.mapM (fun d => if out = true then outD n hc d else inD n hc d)).map D.kl = some d' := by
          cases out <;> simpa [outD, inD, nr] using e
        obtain ⟨ys, e3, rfl⟩ := opt_map e2
        simp only [Rep] at r ⊢
        obtain ⟨a, vs, q, s, l, rr⟩ := r
        exact ⟨a, vs, q, hK _ _ s, l, step _ _ _ e3 rr⟩
      | ref i =>
        simp only [Rep] at r
        obtain ⟨a, q, ha⟩ := r
        have hm : a ∈ T.ρ := List.mem_iff_getElem?.mpr ⟨i, ha⟩
        cases z : hc[i]? with
        | none => cases out <;> simp [outD, inD, nr, z] at e
        | some o =>
          cases o with
          | lst xs =>
            obtain ⟨a', ha', vs, hv, l, rr⟩ := w.obj i _ z
            rw [ha] at ha'; cases ha'
            have := hR a vs hm hv
            cases out with
            | true =>
              have e2 : (xs.mapM (outD n hc)).map D.fl = some d' := by simpa [outD, nr, z] using e
              obtain ⟨ys, e3, rfl⟩ := opt_map e2
              simp only [Rep]
              exact ⟨a, vs, q, this, l, step _ _ _ e3 rr⟩
            | false =>
              have e2 : (xs.mapM (inD n hc)).map D.kl = some d' := by simpa [inD, nr, z] using e
              obtain ⟨ys, e3, rfl⟩ := opt_map e2
              simp only [Rep]
              exact ⟨a, vs, q, this, l, step _ _ _ e3 rr⟩
          | dct kvs => cases out <;> simp [outD, inD, nr, z] at e
          | ins C fs => cases out <;> simp [outD, inD, nr, z] at e
      | _ => exact absurd rfl nr
theorem stays (w : Wd K T hc H) (h : ∀ b o, H b = some o → H' b = some o) : Ext T H T H' ∧ Wd K T hc H' := by
  have e : Ext T H T H' := ⟨⟨[], by simp⟩, rfl, rfl, fun b o hb _ => h b o hb, fun _ h => .inl h⟩
  refine ⟨e, w.nd, w.len, fun i o ho => ?_, fun a ha => ?_, fun a ha => ?_⟩
  · obtain ⟨a, ha, r⟩ := w.obj i o ho
    obtain ⟨x, hx, _⟩ := w.trk (List.mem_iff_getElem?.mpr ⟨i, ha⟩)
    exact ⟨a, ha, RepO.ext w e.g r (by rw [hx, h a x hx])⟩
  · obtain ⟨n, o, ho, t⟩ := w.gh a ha
    exact ⟨n, o, h a o ho, t⟩
  · obtain ⟨n, o, ho⟩ := w.al a ha
    exact ⟨n, o, h a o ho⟩
theorem wd_in (w : Wd K T hc H) (b : Bool) : Wd K ⟨[], T.ρ ++ T.κ, fun a => T.α a ∨ (b = true ∧ a ∈ T.ρ)⟩ [] H := by
  refine ⟨List.nodup_nil, rfl, fun i o h => by simp at h, fun a ha => ⟨by simp, ?_⟩, fun a ha => ⟨by simp, ?_⟩⟩
  · rcases List.mem_append.mp ha with z | z
    · exact w.trk z
    · exact (w.gh a z).2
  · rcases ha with z | ⟨_, z⟩
    · exact (w.al a z).2
    · obtain ⟨o, ho, _⟩ := w.trk z
      exact ⟨o, ho⟩
theorem kv_way {T'' : Tk} {H'' : Hp} {n : Nat} {hc : Hc} (hf : ∀ d d' v, outD n hc d = some d' → Rep K T H d v → Rep K T'' H'' d' v) : ∀ (fs fs' : List (Str × D)) (ws : List (Str × V)), outKV n hc fs = some fs' → RepKV K T H fs ws → RepKV K T'' H'' fs' ws
  | [], fs', ws, e, r => by
    simp only [outKV] at e; cases e
    simpa only [RepKV] using r
  | (k, d) :: fs, fs', ws, e, r => by
    simp only [outKV] at e
    cases q : outD n hc d with
    | none => rw [q] at e; cases e
    | some b =>
      rw [q] at e
      cases q2 : outKV n hc fs with
      | none => rw [q2] at e; cases e
      | some bs =>
        rw [q2] at e
        cases e
        simp only [RepKV] at r ⊢
        obtain ⟨v, r', ev, r1, r2⟩ := r
        exact ⟨v, r', ev, hf _ _ _ q r1, kv_way hf fs bs r' q2 r2⟩
theorem outKV_ne {n : Nat} {hc : Hc} : ∀ {fs fs' : List (Str × D)}, outKV n hc fs = some fs' → fs ≠ [] → fs' ≠ []
  | [], _, _, h => absurd rfl h
  | (k, d) :: r, fs', e, _ => by
    simp only [outKV] at e
    cases q : outD n hc d with
    | none => rw [q] at e; cases e
    | some b =>
      rw [q] at e
      cases q2 : outKV n hc r with
      | none => rw [q2] at e; cases e
      | some bs => rw [q2] at e; cases e; simp
theorem kv_moveK (hF : ∀ a vs, SqF T H a vs → SqF T' H a vs) : ∀ (fs : List (Str × D)) (ws : List (Str × V)), noRefL (fs.map (·.2)) = true → noKlL (fs.map (·.2)) = true → RepKV K T H fs ws → RepKV K T' H fs ws
  | [], _, _, _, h => by simpa only [RepKV] using h
  | (k, d) :: ds, vs, n, m, h => by
    simp only [RepKV] at h ⊢
    simp only [List.map_cons, noRefL, noKlL, Bool.and_eq_true] at n m
    obtain ⟨v, r, q, a, b⟩ := h
    exact ⟨v, r, q, rep_moveK hF d v n.1 m.1 a, kv_moveK hF ds r n.2 m.2 b⟩
/-- THE RULE: a run with arguments of its own alone is a run among others -/
theorem lift_sub {g : List D → M D} : Sub K (liftP fun ds => pureOf (g ds [])) g := by
  intro vs H Q E ⟨T, hc, ds, w, r, p⟩
  unfold liftP at p
  have inF : ∀ (b : Bool) a vs, SqF T H a vs → SqF ⟨[], T.ρ ++ T.κ, fun a => T.α a ∨ (b = true ∧ a ∈ T.ρ)⟩ H a vs := fun b a vs h =>
    ⟨h.1, by simp, fun m => (List.mem_append.mp m).elim h.2.1 h.2.2⟩
  have inK : ∀ (b : Bool) a vs, SqK K T H a vs → SqK K ⟨[], T.ρ ++ T.κ, fun a => T.α a ∨ (b = true ∧ a ∈ T.ρ)⟩ H a vs := fun b a vs h => by
    rcases h with (h | ⟨h, z⟩) | h
    · exact .inl (.inl h)
    · exact .inl (.inr ⟨h, .inl z⟩)
    · exact .inr h
  -- the way out
  have out : ∀ (b : Bool) (T1 : Tk) (H1 : Hp) (hc1 : Hc), Ext ⟨[], T.ρ ++ T.κ, fun a => T.α a ∨ (b = true ∧ a ∈ T.ρ)⟩ H T1 H1 → Wd K T1 hc1 H1 →
      ∀ n d d' v, outD n hc1 d = some d' → Rep K T1 H1 d v → Rep K ⟨T.ρ, T.κ, T1.α⟩ H1 d' v := fun b T1 H1 hc1 e w1 n d d' v q rv => by
    have eκ : T1.κ = T.ρ ++ T.κ := e.gh
    have oF : ∀ a vs, SqF T1 H1 a vs → SqF ⟨T.ρ, T.κ, T1.α⟩ H1 a vs := fun a vs h => by
      have := h.2.2
      rw [eκ] at this
      exact ⟨h.1, fun m => this (List.mem_append_left _ m), fun m => this (List.mem_append_right _ m)⟩
    refine way_rep true w1 oF (fun a vs h => h) (fun a vs hm hv => ?_) n d d' v (by simpa using q) rv
    rw [if_pos rfl]
    refine ⟨hv, fun m => ?_, fun m => ?_⟩
    · exact (w1.gh a (by rw [eκ]; exact List.mem_append_left _ m)).1 hm
    · exact (w1.gh a (by rw [eκ]; exact List.mem_append_right _ m)).1 hm
  by_cases nr : noRefL ds = true
  · rw [if_pos nr] at p
    refine ⟨_, [], ds, wd_in w false, repL_move (inF false) (inK false) ds vs nr r, ?_⟩
    have eα : (fun a => T.α a ∨ (false = true ∧ a ∈ T.ρ)) = T.α := by funext a; simp
    cases q : g ds [] with
    | ok d hc1 =>
      simp only [q, pureOf] at p
      cases z : outD depth hc1 d with
      | none => rw [z] at p; exact p.elim
      | some d' =>
        rw [z] at p
        intro T1 H1 e w1 v rv
        obtain ⟨e2, w2⟩ := stays (H' := H1) w fun b o hb => e.fr b o hb (by simp)
        refine p T H1 e2 w2 v ?_
        have := out false T1 H1 hc1 e w1 _ _ _ _ z rv
        rw [e.al, eα] at this
        exact this
    | exc c fs hc1 =>
      simp only [q, pureOf] at p
      cases z : outKV depth hc1 fs with
      | none => rw [z] at p; exact p.elim
      | some fs' =>
        rw [z] at p
        intro T1 H1 dd e w1 rx
        obtain ⟨e2, w2⟩ := stays (H' := H1) w fun b o hb => e.fr b o hb (by simp)
        refine p T H1 dd e2 w2 ?_
        rcases rx with ⟨h1, h2⟩ | ⟨a, ws, h1, h2, h3, h4⟩
        · subst h2
          simp only [outKV, Option.some.injEq] at z
          exact .inl ⟨h1, z.symm⟩
        · refine .inr ⟨a, ws, h1, h2, ?_, outKV_ne z h4⟩
          have := kv_way (out false T1 H1 hc1 e w1 depth) _ _ _ z h3
          rw [e.al, eα] at this
          exact this
    | bad => simp only [q, pureOf] at p; exact p.elim
  · rw [if_neg nr] at p
    cases qi : ds.mapM (inD depth hc) with
    | none => rw [qi] at p; exact p.elim
    | some ds' =>
      rw [qi] at p
      dsimp only at p
      have hR : ∀ a vs, a ∈ T.ρ → H a = some (.lst vs) → if false = true then SqF ⟨[], T.ρ ++ T.κ, fun a => T.α a ∨ (true = true ∧ a ∈ T.ρ)⟩ H a vs else SqK K ⟨[], T.ρ ++ T.κ, fun a => T.α a ∨ (true = true ∧ a ∈ T.ρ)⟩ H a vs := fun a vs hm hv =>
        .inl (.inr ⟨hv, .inr ⟨rfl, hm⟩⟩)
      refine ⟨_, [], ds', wd_in w true, mapM_rep (fun d d' v e rv => way_rep false w (inF true) (inK true) hR depth d d' v (by simpa using e) rv) _ _ _ qi r, ?_⟩
      have oF : ∀ (T1 : Tk) (H1 : Hp) a vs, SqF ⟨T.ρ, T.κ, T1.α⟩ H1 a vs → SqF T H1 a vs := fun _ _ _ _ h => h
      cases q : g ds' [] with
      | ok d hc1 =>
        simp only [q, pureOf] at p
        cases z : outD depth hc1 d with
        | none => rw [z] at p; exact p.elim
        | some d' =>
          rw [z] at p
          dsimp only at p
          split at p
          · next c =>
            intro T1 H1 e w1 v rv
            obtain ⟨e2, w2⟩ := stays (H' := H1) w fun b o hb => e.fr b o hb (by simp)
            exact p T H1 e2 w2 v (rep_moveK (oF T1 H1) _ _ c.2 c.1 (out true T1 H1 hc1 e w1 _ _ _ _ z rv))
          · exact p.elim
      | exc c fs hc1 =>
        simp only [q, pureOf] at p
        cases z : outKV depth hc1 fs with
        | none => rw [z] at p; exact p.elim
        | some fs' =>
          rw [z] at p
          dsimp only at p
          split at p
          · next cc =>
            intro T1 H1 dd e w1 rx
            obtain ⟨e2, w2⟩ := stays (H' := H1) w fun b o hb => e.fr b o hb (by simp)
            refine p T H1 dd e2 w2 ?_
            rcases rx with ⟨h1, h2⟩ | ⟨a, ws, h1, h2, h3, h4⟩
            · subst h2
              simp only [outKV, Option.some.injEq] at z
              exact .inl ⟨h1, z.symm⟩
            · exact .inr ⟨a, ws, h1, h2, kv_moveK (oF T1 H1) _ _ cc.2 cc.1 (kv_way (out true T1 H1 hc1 e w1 depth) _ _ _ z h3), outKV_ne z h4⟩
          · exact p.elim
      | bad => simp only [q, pureOf] at p; exact p.elim
end
end Cl
/-! A law's end. -/
namespace Cl
open PySem PySem.Spec PyProof.Rows L2
section
variable {P : Program} {w : World} {K : PySem.W.Frag} {mg : Str → Option Value} {base : Heap} {k : Nat}
/-- the callees, one by one -/
theorem fs_nil {G : Gt} {xs : List Str} (h : G.tab = []) : ∀ (i : Nat) g, G.tab[i]? = some g → ∃ x, xs[i]? = some x ∧ FnAt P w K mg base k x g := fun i g q => by rw [h] at q; simp at q
theorem fs_cons {g : List D → M D} {gs : List (List D → M D)} {x : Str} {xs : List Str} (h : FnAt P w K mg base k x g) (r : ∀ (i : Nat) g, gs[i]? = some g → ∃ x, xs[i]? = some x ∧ FnAt P w K mg base k x g) :
    ∀ (i : Nat) g', (g :: gs)[i]? = some g' → ∃ y, (x :: xs)[i]? = some y ∧ FnAt P w K mg base k y g'
  | 0, g', q => by
    simp at q; subst q
    exact ⟨x, rfl, h⟩
  | i + 1, g', q => by
    obtain ⟨y, a, b⟩ := r i g' (by simpa using q)
    exact ⟨y, by simpa using a, b⟩
theorem fs_none {xs : List Str} : ∀ (i : Nat) (g : List D → M D), ([] : List (List D → M D))[i]? = some g → ∃ x, xs[i]? = some x ∧ FnAt P w K mg base k x g := fun i g q => by simp at q
/-- no constants -/
theorem cf_nil {C : Ck} : ClsF K mg C [] := ⟨fun i d q => by simp at q, fun j _ a q => by simp at q, fun j k _ a q => by simp at q, fun j ks b _ a q => by simp at q⟩
/-- a constant that is an int -/
theorem gc_int {x : Str} {i : Int} {t : Tok} (h : mg x = some (.int i t)) : GcAt K mg x (.int i) := ⟨.int i, .int i t, h, ⟨t, rfl⟩, fun T H => by simp only [Rep]⟩
theorem gc_cls {x : Str} {a : Addr} (h : mg x = some (.ref a)) : GcAt K mg x (.ob a) := ⟨.ref a, .ref a, h, rfl, fun T H => by simp only [Rep]⟩
/-- a level that is only asked for -/
theorem FnAt.zero {x : Str} (h : FnAt P w K mg base k x fun _ _ => .bad) : True := trivial
/-- nothing promised: any def that stands -/
theorem fnAt_bad {x : Str} {st : Stmt} {ps : List Str} (F : FF K mg x st ps) : FnAt P w K mg base k x (fun _ _ => .bad) := by
  obtain ⟨f, fd, F1, hm, b⟩ := F.ex
  exact ⟨f, fd, ps, ⟨fun vs H Q E h => by obtain ⟨T, hc, ds, _, _, p⟩ := h; exact p.elim, fun A outer s H args us vs Q E hr e0 hb r h => by obtain ⟨T, hc, ds, _, _, p⟩ := h; exact p.elim⟩, hm, F1.kp, b⟩
theorem gcs_nil {xs : List Str} : ∀ (i : Nat) d, ([] : List D)[i]? = some d → ∃ x, xs[i]? = some x ∧ GcAt K mg x d := fun i d q => by simp at q
theorem gcs_cons {d : D} {ds : List D} {x : Str} {xs : List Str} (h : GcAt K mg x d) (r : ∀ (i : Nat) d, ds[i]? = some d → ∃ x, xs[i]? = some x ∧ GcAt K mg x d) :
    ∀ (i : Nat) d', (d :: ds)[i]? = some d' → ∃ y, (x :: xs)[i]? = some y ∧ GcAt K mg y d'
  | 0, d', q => by
    simp at q; subst q
    exact ⟨x, rfl, h⟩
  | i + 1, d', q => by
    obtain ⟨y, a, b⟩ := r i d' (by simpa using q)
    exact ⟨y, by simpa using a, b⟩
theorem gc_intE {x : Str} {i : Int} (h : ∃ t, mg x = some (.int i t)) : GcAt K mg x (.int i) := by
  obtain ⟨t, h⟩ := h
  exact gc_int h
theorem kit_ref {D C : Addr} {b : Bool} (hd : PySem.W.hasDictIn K C = true) (ht : PySem.W.typeIn K (.ref C) = some (.type "type")) (hs : PySem.W.subIn K (.ref D) (.ref C) = some b) (hn : (Value.ref D == Value.ref C) = false) : PySem.W.kitOne K (.ref D) (.ref C) = some b := by
  obtain ⟨cd, hc, _⟩ := PySem.W.any_some hd
  unfold PySem.W.kitOne
  rw [if_neg (by rw [hn]; simp)]
  show (if ((PySem.W.clsIn K C).isSome && PySem.W.typeIn K (.ref C) == some (.type "type")) = true then _ else _) = _
  rw [if_pos (by rw [hc, ht] <;> rfl)]
  exact hs
end
/-- the law's promise -/
theorem law_sp {K : PySem.W.Frag} {g : List D → M D} (hg : ∀ ns : List Int, ns.length ≤ 63 → ∃ hc, g [.kl (ns.map .int)] [] = .ok (.bl true) hc) (H : Hp) (a : Addr) (ns : List Int) (hl : ns.length ≤ 63) (ho : Only H) (hs : SqL K H a (ns.map V.int)) :
    spC K g [.ref a] H (fun v _ => v = .bl true) (fun _ _ _ => False) := by
  obtain ⟨hc, e⟩ := hg ns hl
  refine ⟨⟨[], [], fun b => ∃ o, H b = some o⟩, [], [.kl (ns.map .int)], ⟨List.nodup_nil, rfl, fun i o h => by simp at h, fun a h => (by cases h), fun a h => ⟨by simp, h⟩⟩, ?_, ?_⟩
  · refine RepL.cons ?_ RepL.nil
    simp only [Rep]
    refine ⟨a, ns.map V.int, rfl, ?_, ?_, repL_ints ns⟩
    · rcases hs with (h | h) | h
      · exact .inl (.inr ⟨h, _, h⟩)
      · exact .inl (.inl h)
      · exact .inr h
    · rw [List.length_map]
      have : (63 : Nat) ≤ sizeLine := by decide +kernel
      omega
  · rw [e]
    intro T' H' _ _ v r
    simpa only [Rep] using r
def specLaw (K : PySem.W.Frag) : Sp := fun vs H Q _ => ∃ (a : Addr) (ns : List Int), vs = [.ref a] ∧ ns.length ≤ 63 ∧ Only H ∧ SqL K H a (ns.map V.int) ∧ Q = fun v _ => v = .bl true
theorem specLaw_of {K : PySem.W.Frag} (H : Hp) (a : Addr) (ns : List Int) (hl : ns.length ≤ 63) (ho : Only H) (hs : SqL K H a (ns.map V.int)) : specLaw K [.ref a] H (fun v _ => v = .bl true) (fun _ _ _ => False) := ⟨a, ns, rfl, hl, ho, hs, rfl⟩
theorem specLaw_le {K : PySem.W.Frag} {g : List D → M D} (hg : ∀ ns : List Int, ns.length ≤ 63 → ∃ hc, g [.kl (ns.map .int)] [] = .ok (.bl true) hc) (vs : List V) (H : Hp) (Q : VK) (E : XK) (h : specLaw K vs H Q E) : spC K g vs H Q E := by
  obtain ⟨a, ns, rfl, hl, ho, hs, rfl⟩ := h
  obtain ⟨T, hc, ds, w, r, p⟩ := law_sp hg H a ns hl ho hs
  refine ⟨T, hc, ds, w, r, ?_⟩
  obtain ⟨hc', e⟩ := hg ns hl
  cases q : g ds hc with
  | ok d h' => rw [q] at p; exact p
  | exc c fs h' => rw [q] at p; exact fun T' H' dd e w rx => (p T' H' dd e w rx).elim
  | bad => rw [q] at p; exact p.elim
theorem cx_none {P : Program} {w : World} (H : Hp) (s : Shared) (e : Value) (s' : Shared) (h : L2.CX P w [] H s (fun _ _ _ => False) e s') : False := by
  obtain ⟨_, _, _, _, _, _, _, _, _, _, _, _, z⟩ := h
  exact z
end Cl
/-! To compute with the small language. -/
namespace Cl
open PySem PySem.Spec PyProof.Rows L2

/-! ### sizes -/
theorem mulOk_r {i j : Int} (h : -(2 ^ 64) < j) (h' : j < 2 ^ 64) : MulOk i j := .inl (.inr ⟨h, h'⟩)
theorem mulOk_l {i j : Int} (h : -(2 ^ 64) < i) (h' : i < 2 ^ 64) : MulOk i j := .inl (.inl ⟨h, h'⟩)
theorem log2_lt {n k : Nat} (h : n < 2 ^ k) (hk : 0 < k) : n.log2 < k := by
  by_cases z : n = 0
  · subst z; simpa using hk
  · exact (Nat.log2_lt z).mpr h
theorem divOk_of {j : Int} (h0 : j ≠ 0) (h : j.natAbs < 2 ^ 200) : DivOk j := ⟨h0, Nat.lt_trans (log2_lt h (by decide)) (by decide)⟩
theorem divOk_pos {j : Int} (h0 : 0 < j) (h : j < 2 ^ 200) : DivOk j := divOk_of (by omega) (by
  have e : (j.natAbs : Int) = j := by omega
  have h' : (j.natAbs : Int) < ((2 ^ 200 : Nat) : Int) := by rw [e]; exact_mod_cast h
  exact_mod_cast h')

/-! ### one statement behind the other -/
theorem seq_nx {G : Gt} {C : List D} {a b : S} {env env' : Env} {h h' : Hc} (e : semS G C a env h = .nx env' h') : semS G C (.seq a b) env h = semS G C b env' h' := by
  simp only [semS, e]
theorem seq_rt {G : Gt} {C : List D} {a b : S} {env : Env} {h h' : Hc} {d : D} (e : semS G C a env h = .rt d h') : semS G C (.seq a b) env h = .rt d h' := by
  simp only [semS, e]
theorem seq_exc {G : Gt} {C : List D} {a b : S} {env env' : Env} {h h' : Hc} {c : Addr} {fs : List (Str × D)} (e : semS G C a env h = .exc c fs env' h') : semS G C (.seq a b) env h = .exc c fs env' h' := by
  simp only [semS, e]
/-! ### a def -/
theorem runF_rt {s : Env → Hc → Out} {p n : Nat} {ds : List D} {hc h : Hc} {d : D} (env : Env) (e : s env hc = .rt d h) (hl : ds.length = p := by rfl) (he : ds.map some ++ List.replicate (n - p) none = env := by rfl) : runF s p n ds hc = .ok d h := by
  unfold runF; rw [if_pos hl, he, e]
theorem runF_nx {s : Env → Hc → Out} {p n : Nat} {ds : List D} {hc h : Hc} {env' : Env} (env : Env) (e : s env hc = .nx env' h) (hl : ds.length = p := by rfl) (he : ds.map some ++ List.replicate (n - p) none = env := by rfl) : runF s p n ds hc = .ok .non h := by
  unfold runF; rw [if_pos hl, he, e]
theorem runF_exc {s : Env → Hc → Out} {p n : Nat} {ds : List D} {hc h : Hc} {env' : Env} {c : Addr} {fs : List (Str × D)} (env : Env) (e : s env hc = .exc c fs env' h) (hl : ds.length = p := by rfl) (he : ds.map some ++ List.replicate (n - p) none = env := by rfl) : runF s p n ds hc = .exc c fs h := by
  unfold runF; rw [if_pos hl, he, e]
/-! ### loops -/
/-- a while loop by an invariant; n: what is left of it -/
theorem whl_ind {t : Env → M Bool} {s : Env → Hc → Out} (I : Nat → Env → Hc → Prop) (Q : Out → Prop)
    (step : ∀ n env h, I n env h → (∃ h1, t env h = .ok false h1 ∧ Q (.nx env h1)) ∨ ∃ h1, t env h = .ok true h1 ∧
      ((∃ e2 h2 m, (s env h1 = .nx e2 h2 ∨ s env h1 = .ct e2 h2) ∧ m < n ∧ I m e2 h2) ∨ (∃ e2 h2, s env h1 = .bk e2 h2 ∧ Q (.nx e2 h2)) ∨ (∃ d h2, s env h1 = .rt d h2 ∧ Q (.rt d h2)))) :
    ∀ n env h, I n env h → Q (whlR t s env h) := by
  have go : ∀ n env h, I n env h → ∃ o k, whlN t s k env h = some o ∧ Q o := by
    intro n
    induction n using Nat.strongRecOn with
    | ind n ih =>
      intro env h hi
      rcases step n env h hi with ⟨h1, e, q⟩ | ⟨h1, e, r⟩
      · exact ⟨_, 1, by simp only [whlN, e], q⟩
      · rcases r with ⟨e2, h2, m, es, hm, hi2⟩ | ⟨e2, h2, es, q⟩ | ⟨d, h2, es, q⟩
        · obtain ⟨o, k, ek, q⟩ := ih m hm e2 h2 hi2
          refine ⟨o, k + 1, ?_, q⟩
          rcases es with es | es <;> simp only [whlN, e, es] <;> exact ek
        · exact ⟨_, 1, by simp only [whlN, e, es], q⟩
        · exact ⟨_, 1, by simp only [whlN, e, es], q⟩
  intro n env h hi
  obtain ⟨o, k, ek, q⟩ := go n env h hi
  rw [whlR_of ek]
  exact q
/-- a for loop by an invariant -/
theorem for_ind {tg : Tg} {dep : List (Nat × List D)} {b : Env → Hc → Out} (I : Nat → Env → Hc → Prop) (Q : Out → Prop) {items : List D}
    (step : ∀ (i : Nat) x env h, items[i]? = some x → I i env h → ∃ e1, depOk dep (setTg tg x env) h = .ok e1 h ∧
      ((∃ e2 h2, (b e1 h = .nx e2 h2 ∨ b e1 h = .ct e2 h2) ∧ I (i + 1) e2 h2) ∨ (∃ e2 h2, b e1 h = .bk e2 h2 ∧ Q (.nx e2 h2)) ∨ (∃ d h2, b e1 h = .rt d h2 ∧ Q (.rt d h2))))
    (fin : ∀ env h, I items.length env h → depOk dep (pur ()) h = .ok () h ∧ Q (.nx env h)) :
    ∀ env h, I 0 env h → Q (forL tg dep b items env h) := by
  have go : ∀ (k i : Nat) (env : Env) (h : Hc), i + k = items.length → I i env h → Q (forL tg dep b (items.drop i) env h) := by
    intro k
    induction k with
    | zero =>
      intro i env h e hi
      have ei : i = items.length := by omega
      subst ei
      rw [List.drop_length]
      unfold forL Cl.exS
      obtain ⟨d, q⟩ := fin env h hi
      rw [d]; exact q
    | succ k ih =>
      intro i env h e hi
      have hlt : i < items.length := by omega
      rw [List.drop_eq_getElem_cons hlt]
      obtain ⟨e1, es, r⟩ := step i _ env h (List.getElem?_eq_getElem hlt) hi
      unfold forL Cl.exS
      rw [es]
      dsimp only
      rcases r with ⟨e2, h2, eb, hi2⟩ | ⟨e2, h2, eb, q⟩ | ⟨d, h2, eb, q⟩
      · rcases eb with eb | eb <;> rw [eb] <;> exact ih (i + 1) e2 h2 (by omega) hi2
      · rw [eb]; exact q
      · rw [eb]; exact q
  intro env h hi
  have := go items.length 0 env h (by omega) hi
  simpa using this
/-- a comprehension whose turns change nothing -/
theorem comp_pure {α : Type} {tg : Tg} {env : Env} {f : Env → M (Option D)} {h : Hc} (l : List α) (emb : α → D) (o : α → Option D)
    (hs : ∀ a ∈ l, ∃ e, setTg tg (emb a) env h = .ok e h ∧ f e h = .ok (o a) h) : compL tg env [] f (l.map emb) h = .ok (l.filterMap o) h := by
  induction l with
  | nil => simp only [List.map_nil, compL, depOk_nil, List.filterMap_nil, pur]
  | cons a l ih =>
    obtain ⟨e, e1, e2⟩ := hs a List.mem_cons_self
    have ih' := ih fun b hb => hs b (List.mem_cons_of_mem _ hb)
    simp only [List.map_cons, compL, depOk_nil, bnd, e1, e2, ih', pur, List.filterMap_cons]
    cases o a <;> rfl
theorem rangeD_eq (lo : Int) (n : Nat) : rangeD lo n = (List.range n).map fun (i : Nat) => D.int (lo + (i : Int)) := rfl
/-! ### values without refs -/
theorem noRefL_map {α : Type} {f : α → D} (h : ∀ a, noRef (f a) = true) : ∀ l : List α, noRefL (l.map f) = true
  | [] => rfl
  | a :: l => by simp only [List.map_cons, noRefL, h a, noRefL_map h l, Bool.and_self]
@[simp] theorem noRefL_ints (l : List Int) : noRefL (l.map D.int) = true := noRefL_map (fun _ => rfl) l
theorem outD_pure {n : Nat} {hc : Hc} {d : D} (h : noRef d = true) : outD n hc d = some d := by
  cases n <;> simp only [outD, h, if_true]
theorem liftP_ok {g : List D → PR} {ds : List D} {d : D} {hc : Hc} (n : noRefL ds = true) (h : g ds = .ok d) : liftP g ds hc = .ok d hc := by
  unfold liftP; rw [if_pos n, h]
theorem liftP_exc {g : List D → PR} {ds : List D} {c : Addr} {fs : List (Str × D)} {hc : Hc} (n : noRefL ds = true) (h : g ds = .exc c fs) : liftP g ds hc = .exc c fs hc := by
  unfold liftP; rw [if_pos n, h]
theorem pureOf_ok {d : D} {hc : Hc} (h : noRef d = true) : pureOf (.ok d hc) = .ok d := by
  simp only [pureOf, outD_pure h]
end Cl
/-! What all laws' texts have alike. -/
namespace Cl
open PySem PySem.Spec PyProof.Rows L2
def ir_law_box_0 : S := (.ret (.trk (.lst (.cons (.trk (.bn .list (.cons (.slcL (.var 0) .nil (.int 63)) .nil))) (.cons (.int 0) (.cons (.bin .Add (.int 4711) (.bi .len (.cons (.var 0) .nil))) .nil))))))
def ir_law_box : S := (.seq ir_law_box_0 .nop)
def ir_law_load_5 : S := (.ret (.bin .Add (.bin .Add (.bin .Mult (.var 4) (.int 4611686014132420609)) (.bin .Mult (.var 5) (.int 2147483647))) (.idx (.var 0) (.int 2))))
def ir_law_load_4 : S := (.asg (.sub (.var 0) (.int 2)) (.bin .Mod (.bi .int (.cons (.bin .Add (.bin .Mult (.var 5) (.int 40692)) (.int 3)) .nil)) (.int 2147483563)))
def ir_law_load_3 : S := (.asg (.tg (.nm 5)) (.bin .Mod (.bi .int (.cons (.bin .Add (.bin .Mult (.var 4) (.int 69621)) (.int 5)) .nil)) (.int 2147483587)))
def ir_law_load_2 : S := (.asg (.tg (.nm 4)) (.bin .Mod (.bi .int (.cons (.bin .Add (.bin .Mult (.idx (.var 0) (.int 2)) (.int 48271)) (.int 17)) .nil)) (.int 2147483629)))
def ir_law_load_1 : S := (.ite (.cmp .Gt (.bi .len (.cons (.var 1) .nil)) (.int 0)) (.seq (.asg (.tg (.nm 2)) (.bi .int (.cons (.popAt (.var 1) (.int 0)) .nil))) (.seq (.asg (.tg (.nm 3)) (.ite (.cmp .GtE (.var 2) (.int 0)) (.bin .Mult (.int 2) (.var 2)) (.bin .Sub (.bin .Mult (.neg (.int 2)) (.var 2)) (.int 1)))) (.seq (.ite (.cmp .GtE (.var 3) (.int 1000000000000000000)) (.seq (.ret (.var 3)) .nop) .nop) (.seq (.asg (.sub (.var 0) (.int 2)) (.bin .Mod (.bi .int (.cons (.bin .Add (.bin .Add (.bin .Mult (.idx (.var 0) (.int 2)) (.int 69621)) (.bin .Mult (.var 3) (.int 48271))) (.int 11)) .nil)) (.int 2147483647))) .nop)))) .nop)
def ir_law_load_0 : S := (.asg (.tg (.nm 1)) (.idx (.var 0) (.int 0)))
def ir_law_load : S := (.seq ir_law_load_0 (.seq ir_law_load_1 (.seq ir_law_load_2 (.seq ir_law_load_3 (.seq ir_law_load_4 (.seq ir_law_load_5 .nop))))))
def ir_law_draw_3 : S := (.ret (.var 2))
def ir_law_draw_2 : S := (.asg (.sub (.var 0) (.int 1)) (.bin .FloorDiv (.idx (.var 0) (.int 1)) (.var 1)))
def ir_law_draw_1 : S := (.asg (.tg (.nm 2)) (.bin .Mod (.bi .int (.cons (.idx (.var 0) (.int 1)) .nil)) (.var 1)))
def ir_law_draw_0 : S := (.ite (.cmp .Lt (.idx (.var 0) (.int 1)) (.var 1)) (.seq (.asg (.sub (.var 0) (.int 1)) (.call 0 (.cons (.var 0) .nil))) .nop) .nop)
def ir_law_draw : S := (.seq ir_law_draw_0 (.seq ir_law_draw_1 (.seq ir_law_draw_2 (.seq ir_law_draw_3 .nop))))
def ir_law_same_3 : S := (.ret (.and (.cmp .Is (.var 0) .non) (.cmp .Is (.var 1) .non)))
def ir_law_same_2 : S := (.ite (.or (.and (.isa (.var 0) ["int"]) (.isa (.var 1) ["int"])) (.and (.isa (.var 0) ["str"]) (.isa (.var 1) ["str"]))) (.seq (.ret (.cmp .Eq (.var 0) (.var 1))) .nop) .nop)
def ir_law_same_1 : S := (.ite (.or (.isa (.var 0) ["bool"]) (.isa (.var 1) ["bool"])) (.seq (.ret (.and (.isa (.var 0) ["bool"]) (.and (.isa (.var 1) ["bool"]) (.cmp .Eq (.var 0) (.var 1))))) .nop) .nop)
def ir_law_same_0 : S := (.ite (.or (.and (.isa (.var 0) ["tuple"]) (.isa (.var 1) ["tuple"])) (.and (.isa (.var 0) ["list"]) (.isa (.var 1) ["list"]))) (.seq (.ret (.and (.cmp .Eq (.bi .len (.cons (.var 0) .nil)) (.bi .len (.cons (.var 1) .nil))) (.bi .all (.cons (.comp [2] (.nm 2) (.rng1 (.bi .len (.cons (.var 0) .nil))) .nil (.call 0 (.cons (.idx (.var 0) (.var 2)) (.cons (.idx (.var 1) (.var 2)) .nil)))) .nil)))) .nop) .nop)
def ir_law_same : S := (.seq ir_law_same_0 (.seq ir_law_same_1 (.seq ir_law_same_2 (.seq ir_law_same_3 .nop))))
noncomputable def g_law_box : List D → M D := runF (semS { tab := [] } [] ir_law_box) 1 1
noncomputable def g_law_load : List D → M D := runF (semS { tab := [] } [] ir_law_load) 1 6
noncomputable def g_law_draw : List D → M D := runF (semS { tab := [g_law_load] } [] ir_law_draw) 2 3
noncomputable def p_law_same : Nat → List D → PR
  | 0 => fun _ => .bad
  | n + 1 => fun ds => pureOf (runF (semS { tab := [(liftP (p_law_same n))] } [] ir_law_same) 2 3 ds [])
/-! ### drawing -/
abbrev boxH (cells : List Int) (d s : Int) (rest : Hc) : Hc := .lst (cells.map .int) :: .lst [.ref 0, .int d, .int s] :: rest
theorem cut63 {xs : List D} (h : xs.length ≤ 63) : cutD xs none (some 63) = xs := by
  unfold cutD
  rw [show HT.sIx xs.length xs.length (some 63) = min 63 xs.length from HT.sIx_nat xs.length _ 63, HT.sIx_none, Nat.min_eq_right h]
  simp
theorem ev_box {ns : List Int} (h : ns.length ≤ 63) : g_law_box [.kl (ns.map .int)] [] = .ok (.ref 1) (boxH ns 0 (4711 + ns.length) []) := by
  simp [g_law_box, runF, ir_law_box, ir_law_box_0, semS, semE, semA, semN, semO, exS, bnd, optM, pur, bnM, seqM, cut63 (xs := ns.map D.int) (by simpa using h), binM, biM, lenM, intM, Cl.guard, sizeLine_eq]
theorem mk1 {i : Int} (c : Int) (h : -(2 ^ 64) < c := by decide) (h' : c < 2 ^ 64 := by decide) : MulOk i c := mulOk_r h h'
theorem mk2 {i : Int} (c : Int) (h : -(2 ^ 64) < c := by decide) (h' : c < 2 ^ 64 := by decide) : MulOk c i := mulOk_l h h'
theorem load_tail (cells : List Int) (d s : Int) (rest : Hc) (o1 o2 o3 : Option D) : ∃ r s', semS { tab := [] } [] (.seq ir_law_load_2 (.seq ir_law_load_3 (.seq ir_law_load_4 (.seq ir_law_load_5 .nop)))) [some (.ref 1), o1, o2, o3, none, none] (boxH cells d s rest) = .rt (.int r) (boxH cells d s' rest) := by
  rw [seq_nx (env' := [some (.ref 1), o1, o2, o3, some (.int ((s * 48271 + 17).fmod 2147483629)), none]) (h' := boxH cells d s rest)]
  · rw [seq_nx (env' := [some (.ref 1), o1, o2, o3, some (.int ((s * 48271 + 17).fmod 2147483629)), some (.int (((s * 48271 + 17).fmod 2147483629 * 69621 + 5).fmod 2147483587))]) (h' := boxH cells d s rest)]
    · generalize (s * 48271 + 17).fmod 2147483629 = f
      generalize (f * 69621 + 5).fmod 2147483587 = g
      refine ⟨f * 4611686014132420609 + g * 2147483647 + (g * 40692 + 3).fmod 2147483563, (g * 40692 + 3).fmod 2147483563, ?_⟩
      rw [seq_nx (env' := [some (.ref 1), o1, o2, o3, some (.int f), some (.int g)]) (h' := boxH cells d ((g * 40692 + 3).fmod 2147483563) rest)]
      · refine seq_rt ?_
        simp [ir_law_load_5, semS, semE, semA, exS, bnd, optM, pur, binM, idxM, seqM, lstAt, Cl.guard, mk1 4611686014132420609, mk1 2147483647, atI, ixN]
      · simp [ir_law_load_4, semS, semE, semA, exS, bnd, optM, pur, binM, biM, lstAt, putAt, ixN, Cl.guard, mk1 40692]
    · simp [ir_law_load_3, semS, semE, semA, exS, bnd, optM, pur, binM, biM, setTg, Cl.guard, mk1 69621]
  · simp [ir_law_load_2, semS, semE, semA, exS, bnd, optM, pur, binM, biM, idxM, seqM, lstAt, setTg, Cl.guard, mk1 48271, atI, ixN]
theorem load_main (cells : List Int) (d s : Int) (rest : Hc) : ∃ r cells' s', semS { tab := [] } [] ir_law_load [some (D.ref 1), none, none, none, none, none] (boxH cells d s rest) = .rt (.int r) (boxH cells' d s' rest) := by
  unfold ir_law_load
  rw [seq_nx (env' := [some (.ref 1), some (.ref 0), none, none, none, none]) (h' := boxH cells d s rest)]
  · cases cells with
    | nil =>
      rw [seq_nx (env' := [some (.ref 1), some (.ref 0), none, none, none, none]) (h' := boxH [] d s rest)]
      · obtain ⟨r, s', e⟩ := load_tail [] d s rest (some (.ref 0)) none none
        exact ⟨r, [], s', by rw [e]⟩
      · simp [ir_law_load_1, semS, semE, semA, exS, bnd, optM, pur, biM, lenM, cmpM, cmpI, truM]
    | cons c cs =>
      have hp : semS { tab := [] } [] ir_law_load_1 [some (.ref 1), some (.ref 0), none, none, none, none] (boxH (c :: cs) d s rest) =
          if (1000000000000000000 : Int) ≤ (if 0 ≤ c then 2 * c else -2 * c - 1) then .rt (.int (if 0 ≤ c then 2 * c else -2 * c - 1)) (boxH cs d s rest)
          else .nx [some (.ref 1), some (.ref 0), some (.int c), some (.int (if 0 ≤ c then 2 * c else -2 * c - 1)), none, none] (boxH cs d ((s * 69621 + (if 0 ≤ c then 2 * c else -2 * c - 1) * 48271 + 11).fmod 2147483647) rest) := by
        by_cases h0 : 0 ≤ c
        · by_cases h1 : 1000000000000000000 ≤ 2 * c
          · simp [ir_law_load_1, semS, semE, semA, exS, bnd, optM, pur, biM, lenM, cmpM, cmpI, truM, setTg, lstAt, putAt, intM, Cl.guard, seqIndex?, h0, h1, binM, mk2 2]
          · simp [ir_law_load_1, semS, semE, semA, exS, bnd, optM, pur, biM, lenM, cmpM, cmpI, truM, setTg, lstAt, putAt, intM, Cl.guard, seqIndex?, h0, h1, binM, mk2 2, mk1 69621, mk1 48271, idxM, seqM, atI, ixN]
        · by_cases h1 : 1000000000000000000 ≤ -2 * c - 1
          · simp [ir_law_load_1, semS, semE, semA, exS, bnd, optM, pur, biM, lenM, cmpM, cmpI, truM, setTg, lstAt, putAt, intM, Cl.guard, seqIndex?, h0, h1, binM, mk2 (-2)]
          · simp [ir_law_load_1, semS, semE, semA, exS, bnd, optM, pur, biM, lenM, cmpM, cmpI, truM, setTg, lstAt, putAt, intM, Cl.guard, seqIndex?, h0, h1, binM, mk2 (-2), mk1 69621, mk1 48271, idxM, seqM, atI, ixN]
      by_cases h1 : (1000000000000000000 : Int) ≤ (if 0 ≤ c then 2 * c else -2 * c - 1)
      · rw [if_pos h1] at hp
        exact ⟨_, cs, s, seq_rt hp⟩
      · rw [if_neg h1] at hp
        obtain ⟨r, s', e⟩ := load_tail cs d ((s * 69621 + (if 0 ≤ c then 2 * c else -2 * c - 1) * 48271 + 11).fmod 2147483647) rest (some (.ref 0)) (some (.int c)) (some (.int (if 0 ≤ c then 2 * c else -2 * c - 1)))
        exact ⟨r, cs, s', by rw [seq_nx hp, e]⟩
  · simp [ir_law_load_0, semS, semE, semA, exS, bnd, optM, pur, idxM, seqM, lstAt, setTg, atI, ixN]
theorem ev_load (cells : List Int) (d s : Int) (rest : Hc) : ∃ r cells' s', g_law_load [.ref 1] (boxH cells d s rest) = .ok (.int r) (boxH cells' d s' rest) := by
  obtain ⟨r, cells', s', e⟩ := load_main cells d s rest
  exact ⟨r, cells', s', runF_rt _ e⟩
theorem fmod_lt {a b : Int} (h : 0 < b) : 0 ≤ a.fmod b ∧ a.fmod b < b := by
  rw [Int.fmod_eq_emod_of_nonneg _ (Int.le_of_lt h)]
  exact ⟨Int.emod_nonneg _ (by omega), Int.emod_lt_of_pos _ h⟩
theorem ev_draw (cells : List Int) (d s : Int) (rest : Hc) {many : Int} (h : 0 < many) (h2 : many < 2 ^ 200) : ∃ r cells' d' s', g_law_draw [.ref 1, .int many] (boxH cells d s rest) = .ok (.int r) (boxH cells' d' s' rest) ∧ 0 ≤ r ∧ r < many := by
  have e1 : ∃ cells' d' s', semS { tab := [g_law_load] } [] ir_law_draw_0 [some (D.ref 1), some (.int many), none] (boxH cells d s rest) = .nx [some (D.ref 1), some (.int many), none] (boxH cells' d' s' rest) := by
    by_cases hl : d < many
    · obtain ⟨r, cells', s', e⟩ := ev_load cells d s rest
      refine ⟨cells', r, s', ?_⟩
      simp [ir_law_draw_0, semS, semE, semA, exS, bnd, optM, pur, cmpM, ltM, truM, idxM, seqM, lstAt, atI, ixN, hl, e, putAt]
    · refine ⟨cells, d, s, ?_⟩
      simp [ir_law_draw_0, semS, semE, semA, exS, bnd, optM, pur, cmpM, ltM, truM, idxM, seqM, lstAt, atI, ixN, hl]
  obtain ⟨cells', d', s', e1⟩ := e1
  have dk : DivOk many := divOk_pos h h2
  have hn : many ≠ 0 := by omega
  refine ⟨d'.fmod many, cells', d'.fdiv many, s', ?_, (fmod_lt h).1, (fmod_lt h).2⟩
  refine runF_rt [some (D.ref 1), some (.int many), none] ?_
  unfold ir_law_draw
  rw [seq_nx e1, seq_nx (env' := [some (D.ref 1), some (.int many), some (.int (d'.fmod many))]) (h' := boxH cells' d' s' rest)]
  · rw [seq_nx (env' := [some (D.ref 1), some (.int many), some (.int (d'.fmod many))]) (h' := boxH cells' (d'.fdiv many) s' rest)]
    · refine seq_rt ?_
      simp [ir_law_draw_3, semS, semE, exS, optM, pur]
    · simp [ir_law_draw_2, semS, semE, semA, exS, bnd, optM, pur, binM, idxM, seqM, lstAt, putAt, atI, ixN, Cl.guard, dk]
  · simp [ir_law_draw_1, semS, semE, semA, exS, bnd, optM, pur, binM, biM, idxM, seqM, lstAt, setTg, atI, ixN, Cl.guard, hn]
end Cl
namespace Cl
open PySem PySem.Spec PyProof.Rows L2
@[simp] theorem eqM_int (i j : Int) (h : Hc) : eqM (.int i) (.int j) h = .ok (decide (i = j)) h := by
  simp [eqM, toPyH, toPy, SeqAt.shaped, PyData.canLay0, PyData.depth, PyData.eqv]
  rfl
@[simp] theorem eqM_bl (i j : Bool) (h : Hc) : eqM (.bl i) (.bl j) h = .ok (decide (i = j)) h := by
  simp [eqM, toPyH, toPy, SeqAt.shaped, PyData.canLay0, PyData.depth, PyData.eqv]
  cases i <;> cases j <;> rfl
theorem eqM_str {x y : Str} (hx : PyData.strOk x = true) (hy : PyData.strOk y = true) (h : Hc) : eqM (.str x) (.str y) h = .ok (decide (x = y)) h := by
  simp [eqM, toPyH, toPy, SeqAt.shaped, PyData.canLay0, PyData.depth, PyData.eqv, hx, hy]
  rfl
/-- plain data, n deep -/
def datD : Nat → D → Bool
  | _, .non => true
  | _, .bl _ => true
  | _, .int _ => true
  | _, .str x => PyData.strOk x
  | n + 1, .tup xs => decide (xs.length ≤ sizeLine) && xs.all (datD n)
  | n + 1, .fl xs => decide (xs.length ≤ sizeLine) && xs.all (datD n)
  | n + 1, .kl xs => decide (xs.length ≤ sizeLine) && xs.all (datD n)
  | _, _ => false
theorem noRefL_of : ∀ {xs : List D}, (∀ x ∈ xs, noRef x = true) → noRefL xs = true
  | [], _ => rfl
  | x :: xs, h => by
    simp only [noRefL, h x List.mem_cons_self, noRefL_of fun y hy => h y (List.mem_cons_of_mem _ hy), Bool.and_self]
theorem datD_noRef : ∀ {n : Nat} {d : D}, datD n d = true → noRef d = true := by
  intro n
  induction n with
  | zero => intro d h; cases d <;> first | rfl | (simp [datD] at h)
  | succ n ih =>
    intro d h
    cases d with
    | tup xs => simp only [datD, Bool.and_eq_true, List.all_eq_true] at h; exact noRefL_of fun x hx => ih (h.2 x hx)
    | fl xs => simp only [datD, Bool.and_eq_true, List.all_eq_true] at h; exact noRefL_of fun x hx => ih (h.2 x hx)
    | kl xs => simp only [datD, Bool.and_eq_true, List.all_eq_true] at h; exact noRefL_of fun x hx => ih (h.2 x hx)
    | _ => first | rfl | (simp [datD] at h)
theorem blsD_trues : ∀ n : Nat, blsD (List.replicate n (.bl true)) = some (List.replicate n true)
  | 0 => rfl
  | n + 1 => by simp [List.replicate_succ, blsD, blsD_trues n]
theorem rg_len {n : Nat} (h : n ≤ sizeLine) : Rg (n : Int) := by
  have z : sizeLine < 4611686018427387904 := by decide +kernel
  unfold Rg
  constructor
  · have : (0 : Int) ≤ (n : Int) := Int.natCast_nonneg n
    exact Int.le_trans (by decide) this
  · have h2 : n < 4611686018427387904 := Nat.lt_of_le_of_lt h z
    have h3 : (n : Int) < ((4611686018427387904 : Nat) : Int) := Int.ofNat_lt.mpr h2
    exact h3
theorem fm_const {α β : Type} (b : β) (l : List α) : l.filterMap (fun _ => some b) = List.replicate l.length b := by
  induction l with
  | nil => rfl
  | cons a l ih => simp [List.filterMap_cons, ih, List.replicate_succ]
/-- all the items compared alike -/
theorem same_items {g : List D → M D} {xs : List D} {a b : D} (hl : xs.length ≤ sizeLine) (ha : ∀ i h, idxM a (.int i) h = (optM (atI xs i) : M D) h) (hb : ∀ i h, idxM b (.int i) h = (optM (atI xs i) : M D) h) (la : ∀ h, lenM a h = .ok (.int xs.length) h)
    (hg : ∀ x ∈ xs, ∀ h, g [x, x] h = .ok (.bl true) h) :
    semE { tab := [g] } [] (.bi .all (.cons (.comp [2] (.nm 2) (.rng1 (.bi .len (.cons (.var 0) .nil))) .nil (.call 0 (.cons (.idx (.var 0) (.var 2)) (.cons (.idx (.var 1) (.var 2)) .nil)))) .nil)) [some a, some b, none] [] = .ok (.bl true) [] := by
  have rg : Rg (xs.length : Int) := rg_len hl
  have hsl := hl
  have key := comp_pure (tg := .nm 2) (env := [some a, some b, none]) (f := fun e => bnd (semE { tab := [g] } [] (.call 0 (.cons (.idx (.var 0) (.var 2)) (.cons (.idx (.var 1) (.var 2)) .nil))) e) fun d => pur (some d)) (h := []) (List.range xs.length) (fun (i : Nat) => D.int (0 + (i : Int))) (fun _ => some (.bl true)) (fun i hi => ?_)
  · rw [fm_const, List.length_range] at key
    have h1 : semI { tab := [g] } [] (.rng1 (.bi .len (.cons (.var 0) .nil))) [some a, some b, none] [] = .ok ⟨rangeD 0 xs.length, []⟩ [] := by
      have e0 : semE { tab := [g] } [] (.bi .len (.cons (.var 0) .nil)) [some a, some b, none] [] = .ok (.int xs.length) [] := by
        simp [semE, semA, bnd, optM, pur, biM, la]
      simp only [semI, bnd, e0, intM, pur, guard_true _ rg, Int.toNat_natCast]
    have hl2 : (rangeD 0 xs.length).length ≤ sizeLine := by simpa [rangeD] using hl
    have h2 : semN { tab := [g] } [] (.comp [2] (.nm 2) (.rng1 (.bi .len (.cons (.var 0) .nil))) .nil (.call 0 (.cons (.idx (.var 0) (.var 2)) (.cons (.idx (.var 1) (.var 2)) .nil)))) [some a, some b, none] [] = .ok (List.replicate xs.length (.bl true)) [] := by
      simp only [semN, bnd, h1, guard_true _ hl2, calmly, wipeE]
      rw [rangeD_eq]
      simp only [List.set_cons_succ, List.set_cons_zero, key]
    have h3 : semE { tab := [g] } [] (.comp [2] (.nm 2) (.rng1 (.bi .len (.cons (.var 0) .nil))) .nil (.call 0 (.cons (.idx (.var 0) (.var 2)) (.cons (.idx (.var 1) (.var 2)) .nil)))) [some a, some b, none] [] = .ok (.fl (List.replicate xs.length (.bl true))) [] := by
      simp only [semE, bnd, h2, pur]
    have h4 : semE { tab := [g] } [] (.bi .all (.cons (.comp [2] (.nm 2) (.rng1 (.bi .len (.cons (.var 0) .nil))) .nil (.call 0 (.cons (.idx (.var 0) (.var 2)) (.cons (.idx (.var 1) (.var 2)) .nil)))) .nil)) [some a, some b, none] [] =
        (bnd (bnd (semE { tab := [g] } [] (.comp [2] (.nm 2) (.rng1 (.bi .len (.cons (.var 0) .nil))) .nil (.call 0 (.cons (.idx (.var 0) (.var 2)) (.cons (.idx (.var 1) (.var 2)) .nil)))) [some a, some b, none]) fun x => pur [x]) fun xs => biM .all xs) [] := by
      rw [semE, semA, semA]
      rfl
    rw [h4]
    simp only [bnd, h3, pur, biM, seqM, blsD_trues, optM]
    simp
  · rw [List.mem_range] at hi
    have hx : atI xs (i : Int) = some xs[i] := by simp [atI, ixN, hi]
    refine ⟨[some a, some b, some (.int i)], by simp [setTg, pur], ?_⟩
    simp [semE, semA, bnd, optM, pur, ha, hb, hx, hg xs[i] (List.getElem_mem hi)]
theorem ev_same_refl : ∀ (n : Nat) (d : D), datD n d = true → p_law_same (n + 1) [d, d] = .ok (.bl true) := by
  intro n
  induction n with
  | zero =>
    intro d h
    unfold p_law_same
    refine (congrArg pureOf (runF_rt (d := .bl true) (h := []) [some d, some d, none] ?_)).trans (pureOf_ok rfl)
    cases d <;> simp [datD] at h <;> simp [ir_law_same, ir_law_same_0, ir_law_same_1, ir_law_same_2, ir_law_same_3, semS, semE, exS, bnd, optM, pur, isaM, tyM, tyName, truM, cmpM, isM, isNon, eqM_str, h]
  | succ n ih =>
    intro d h
    unfold p_law_same
    refine (congrArg pureOf (runF_rt (d := .bl true) (h := []) [some d, some d, none] ?_)).trans (pureOf_ok rfl)
    have seqs : ∀ xs : List D, xs.all (datD n) = true → ∀ x ∈ xs, ∀ h, liftP (p_law_same (n + 1)) [x, x] h = .ok (.bl true) h := fun xs ha x hx h => by
      have hd := List.all_eq_true.mp ha x hx
      exact liftP_ok (by simp [noRefL, datD_noRef hd]) (ih x hd)
    have lists : ∀ (a : D) (xs : List D) (t : String), (∀ i h, idxM a (.int i) h = (optM (atI xs i) : M D) h) → (∀ h, lenM a h = .ok (.int xs.length) h) → (t = "tuple" ∨ t = "list") → (∀ h, tyM a h = .ok t h) → xs.length ≤ sizeLine → xs.all (datD n) = true →
        semS { tab := [liftP (p_law_same (n + 1))] } [] ir_law_same [some a, some a, none] [] = .rt (.bl true) [] := fun a xs t hi hl ht hy hz hx => by
      have key := same_items (g := liftP (p_law_same (n + 1))) (xs := xs) (a := a) (b := a) hz hi hi hl (seqs xs hx)
      generalize hI : I.bi Bi.all (I.cons (I.comp [2] (Tg.nm 2) (I.rng1 (I.bi Bi.len (I.cons (I.var 0) I.nil))) I.nil (I.call 0 (I.cons (I.idx (I.var 0) (I.var 2)) (I.cons (I.idx (I.var 1) (I.var 2)) I.nil)))) I.nil) = T at key
      unfold ir_law_same
      refine seq_rt ?_
      unfold ir_law_same_0
      rw [hI]
      rcases ht with ht | ht <;> subst ht <;> simp [semS, semE, semA, exS, bnd, optM, pur, isaM, hy, truM, cmpM, biM, hl, key]
    cases d with
    | tup xs =>
      simp only [datD, Bool.and_eq_true, decide_eq_true_eq] at h
      exact lists _ xs "tuple" (fun i h => rfl) (fun h => rfl) (.inl rfl) (fun h => rfl) h.1 h.2
    | fl xs =>
      simp only [datD, Bool.and_eq_true, decide_eq_true_eq] at h
      exact lists _ xs "list" (fun i h => rfl) (fun h => rfl) (.inr rfl) (fun h => rfl) h.1 h.2
    | kl xs =>
      simp only [datD, Bool.and_eq_true, decide_eq_true_eq] at h
      exact lists _ xs "list" (fun i h => rfl) (fun h => rfl) (.inr rfl) (fun h => rfl) h.1 h.2
    | _ => (first | (simp [datD] at h; done) | (try simp [datD] at h)) <;> simp [ir_law_same, ir_law_same_0, ir_law_same_1, ir_law_same_2, ir_law_same_3, semS, semE, exS, bnd, optM, pur, isaM, tyM, tyName, truM, cmpM, isM, isNon, eqM_str, h]
end Cl
/-! To compute with the small language, 2: sizes, comprehensions, the box. -/
namespace Cl
open PySem PySem.Spec PyProof.Rows L2

/-! ### sizes: to be used with simp (disch := omega) -/
theorem gmul_r {α : Type} {i j : Int} {m : M α} (h : -18446744073709551616 < j) (h' : j < 18446744073709551616) : Cl.guard (MulOk i j) m = m := if_pos (mulOk_r h h')
theorem gmul_l {α : Type} {i j : Int} {m : M α} (h : -18446744073709551616 < i) (h' : i < 18446744073709551616) : Cl.guard (MulOk i j) m = m := if_pos (mulOk_l h h')
theorem gdiv {α : Type} {j : Int} {m : M α} (h : 0 < j) (h' : j < 1606938044258990275541962092341162602522202993782792835301376) : Cl.guard (DivOk j) m = m := if_pos (divOk_pos h h')
theorem gmod {α : Type} {j : Int} {m : M α} (h : j ≠ 0) : Cl.guard (j ≠ 0) m = m := if_pos h
theorem gmod' {α : Type} {j : Int} {m : M α} (h : ¬ j = 0) : Cl.guard (¬ j = 0) m = m := if_pos h
theorem fdiv_pos {i j : Int} (h : 0 ≤ j) : i.fdiv j = i / j := Int.fdiv_eq_ediv_of_nonneg _ h
theorem fmod_pos {i j : Int} (h : 0 ≤ j) : i.fmod j = i % j := Int.fmod_eq_emod_of_nonneg _ h
theorem grg {α : Type} {i : Int} {m : M α} (h : -4611686018427387904 ≤ i) (h' : i < 4611686018427387904) : Cl.guard (Rg i) m = m := if_pos ⟨h, h'⟩
theorem grg2 {α : Type} {i j : Int} {m : M α} (h : -4611686018427387904 ≤ i) (h' : i < 4611686018427387904) (g : -4611686018427387904 ≤ j) (g' : j < 4611686018427387904) : Cl.guard (Rg i ∧ Rg j) m = m := if_pos ⟨⟨h, h'⟩, g, g'⟩
theorem sl_big {n : Nat} (h : n ≤ 16000000) : n ≤ sizeLine := Nat.le_trans h (by decide +kernel)
theorem gsz {α : Type} {n : Nat} {m : M α} (h : n ≤ 16000000) : Cl.guard (n ≤ sizeLine) m = m := if_pos (sl_big h)
theorem gle {α : Type} {m : M α} {c : Prop} (h : c) : Cl.guard c m = m := if_pos h

/-! ### items -/
theorem atI_pos {α : Type} {xs : List α} {i : Int} (h0 : 0 ≤ i) : atI xs i = xs[i.toNat]? := by
  unfold atI ixN
  rw [if_pos h0]
  by_cases h : i < xs.length
  · rw [if_pos h]; rfl
  · rw [if_neg h]
    symm
    exact List.getElem?_eq_none_iff.mpr (by omega)

/-! ### comprehensions -/
section
variable {G : Gt} {C : List D} {own : List Nat} {tg : Tg} {src ifs elt : I} {env : Env} {h : Hc} {α β : Type}
theorem comp_map (l : List α) (emb : α → D) (f : α → D) (hs : semI G C src env h = .ok ⟨l.map emb, []⟩ h) (hl : l.length ≤ 16000000)
    (step : ∀ a ∈ l, ∃ e, setTg tg (emb a) (wipeE env own) h = .ok e h ∧ semE G C elt e h = .ok (f a) h) : semN G C (.comp own tg src .nil elt) env h = .ok (l.map f) h := by
  have key := comp_pure (tg := tg) (env := wipeE env own) (f := fun e => bnd (semE G C elt e) fun d => pur (some d)) (h := h) l emb (fun a => some (f a)) (fun a ha => by
    obtain ⟨e, e1, e2⟩ := step a ha
    exact ⟨e, e1, by simp only [bnd, e2, pur]⟩)
  have hl2 : (l.map emb).length ≤ sizeLine := by rw [List.length_map]; exact sl_big hl
  simp only [semN, bnd, hs, guard_true _ hl2, calmly, key]
  rw [List.filterMap_eq_map']
theorem comp_filter (l : List α) (emb : α → D) (p : α → Bool) (f : α → D) (hs : semI G C src env h = .ok ⟨l.map emb, []⟩ h) (hl : l.length ≤ 16000000) (hi : ifs ≠ .nil)
    (step : ∀ a ∈ l, ∃ e, setTg tg (emb a) (wipeE env own) h = .ok e h ∧ (∃ x, semE G C ifs e h = .ok x h ∧ truM x h = .ok (p a) h) ∧ (p a = true → semE G C elt e h = .ok (f a) h)) : semN G C (.comp own tg src ifs elt) env h = .ok ((l.filter p).map f) h := by
  have key := comp_pure (tg := tg) (env := wipeE env own) (f := fun e => bnd (semE G C ifs e) fun x => bnd (truM x) fun k => if k = true then bnd (semE G C elt e) fun d => pur (some d) else pur none) (h := h) l emb (fun a => if p a = true then some (f a) else none) (fun a ha => by
    obtain ⟨e, e1, ⟨x, e2, e3⟩, e4⟩ := step a ha
    refine ⟨e, e1, ?_⟩
    simp only [bnd, e2, e3]
    by_cases q : p a = true
    · simp only [q, if_true, bnd, e4 q, pur]
    · simp only [q, if_false, pur]; rfl)
  have hl2 : (l.map emb).length ≤ sizeLine := by rw [List.length_map]; exact sl_big hl
  have e : l.filterMap (fun a => if p a = true then some (f a) else none) = (l.filter p).map f := by
    clear key hs hl step hl2
    induction l with
    | nil => rfl
    | cons a l ih => by_cases q : p a = true <;> simp [List.filterMap_cons, List.filter_cons, q, ih]
  have e0 : semN G C (.comp own tg src ifs elt) env h = (bnd (semI G C src env) fun s => Cl.guard (s.items.length ≤ sizeLine) (calmly (compL tg (wipeE env own) s.dep (fun e => bnd (semE G C ifs e) fun x => bnd (truM x) fun k => if k = true then bnd (semE G C elt e) fun d => pur (some d) else pur none) s.items))) h := by
    cases ifs <;> first | exact absurd (Eq.refl I.nil) hi | (simp only [semN, bnd])
  rw [e0]
  simp only [bnd, hs, guard_true _ hl2, calmly]
  rw [key, e]
/-- a comprehension whose turns change the heap -/
theorem comp_st (I : Hc → Prop) (enc : β → D) (R : α → β → Prop) (l : List α) (emb : α → D) (h0 : Hc) (hs : semI G C src env h0 = .ok ⟨l.map emb, []⟩ h) (hl : l.length ≤ 16000000) (hI : I h)
    (step : ∀ a ∈ l, ∀ h, I h → ∃ e h1 b h2, setTg tg (emb a) (wipeE env own) h = .ok e h1 ∧ semE G C elt e h1 = .ok (enc b) h2 ∧ I h2 ∧ R a b) :
    ∃ (bs : List β) (h' : Hc), semN G C (.comp own tg src .nil elt) env h0 = .ok (bs.map enc) h' ∧ I h' ∧ bs.length = l.length ∧ ∀ (i : Nat) a b, l[i]? = some a → bs[i]? = some b → R a b := by
  have go : ∀ (l : List α), (∀ a ∈ l, ∀ h, I h → ∃ e h1 b h2, setTg tg (emb a) (wipeE env own) h = .ok e h1 ∧ semE G C elt e h1 = .ok (enc b) h2 ∧ I h2 ∧ R a b) → ∀ h, I h →
      ∃ (bs : List β) (h' : Hc), compL tg (wipeE env own) [] (fun e => bnd (semE G C elt e) fun d => pur (some d)) (l.map emb) h = .ok (bs.map enc) h' ∧ I h' ∧ bs.length = l.length ∧ ∀ (i : Nat) a b, l[i]? = some a → bs[i]? = some b → R a b := by
    intro l
    induction l with
    | nil => intro _ h hI; exact ⟨[], h, by simp only [List.map_nil, compL, depOk_nil, pur], hI, rfl, fun i a b q => by simp at q⟩
    | cons a l ih =>
      intro st h hI
      obtain ⟨e, h1, b, h2, e1, e2, hI2, r⟩ := st a List.mem_cons_self h hI
      obtain ⟨bs, h', e3, hI3, hl, rr⟩ := ih (fun x hx => st x (List.mem_cons_of_mem _ hx)) h2 hI2
      refine ⟨b :: bs, h', ?_, hI3, by simp [hl], fun i x y q1 q2 => ?_⟩
      · simp only [List.map_cons, compL, depOk_nil, bnd, e1, e2, e3, pur]
      · cases i with
        | zero => simp at q1 q2; subst q1; subst q2; exact r
        | succ i => exact rr i x y (by simpa using q1) (by simpa using q2)
  obtain ⟨bs, h', e, r⟩ := go l step h hI
  refine ⟨bs, h', ?_, r⟩
  have hl2 : (l.map emb).length ≤ sizeLine := by rw [List.length_map]; exact sl_big hl
  simp only [semN, bnd, hs, guard_true _ hl2, calmly, e]
end

/-! ### the box -/
structure Bx where
  cells : List Int
  d : Int
  s : Int
abbrev bxH (b : Bx) (rest : Hc) : Hc := boxH b.cells b.d b.s rest
theorem draw_ok (b : Bx) (rest : Hc) {many : Int} (h : 0 < many) (h2 : many < 1606938044258990275541962092341162602522202993782792835301376) : ∃ r b', g_law_draw [.ref 1, .int many] (bxH b rest) = .ok (.int r) (bxH b' rest) ∧ 0 ≤ r ∧ r < many := by
  obtain ⟨r, c, d, s, e, l, u⟩ := ev_draw b.cells b.d b.s rest h h2
  exact ⟨r, ⟨c, d, s⟩, e, l, u⟩
theorem box_ok {ns : List Int} (h : ns.length ≤ 63) : ∃ b, g_law_box [.kl (ns.map .int)] [] = .ok (.ref 1) (bxH b []) := ⟨⟨ns, 0, 4711 + ns.length⟩, ev_box h⟩

/-! ### what a statement comes to -/
def Ends (o : Out) (N : Env → Hc → Prop) (R : D → Hc → Prop) : Prop := match o with
  | .nx e h => N e h
  | .rt d h => R d h
  | _ => False
section
variable {G : Gt} {C : List D} {a b : S} {env : Env} {h : Hc} {N : Env → Hc → Prop} {R : D → Hc → Prop}
theorem ends_nx {o : Out} {e : Env} {h : Hc} (q : o = .nx e h) (n : N e h) : Ends o N R := by rw [q]; exact n
theorem ends_rt {o : Out} {d : D} {h : Hc} (q : o = .rt d h) (n : R d h) : Ends o N R := by rw [q]; exact n
theorem ends_seq (x : Ends (semS G C a env h) (fun e h => Ends (semS G C b e h) N R) R) : Ends (semS G C (.seq a b) env h) N R := by
  simp only [semS]
  generalize semS G C a env h = o at x
  cases o <;> first | exact x | exact x.elim
/-- the statement's outcome is known -/
theorem ends_step {e : Env} {h' : Hc} (q : semS G C a env h = .nx e h') (x : Ends (semS G C b e h') N R) : Ends (semS G C (.seq a b) env h) N R := ends_seq (ends_nx q x)
theorem ends_nop (n : N env h) : Ends (semS G C .nop env h) N R := by simp only [semS]; exact n
theorem Ends.imp {o : Out} {N' : Env → Hc → Prop} {R' : D → Hc → Prop} (x : Ends o N R) (n : ∀ e h, N e h → N' e h) (r : ∀ d h, R d h → R' d h) : Ends o N' R' := by
  cases o <;> first | exact n _ _ x | exact r _ _ x | exact x.elim
theorem runF_ends {s : Env → Hc → Out} {p n : Nat} {ds : List D} {hc : Hc} {P : D → Hc → Prop} (env : Env) (x : Ends (s env hc) (fun _ h => P .non h) P) (hl : ds.length = p := by rfl) (he : ds.map some ++ List.replicate (n - p) none = env := by rfl) : ∃ d h', runF s p n ds hc = .ok d h' ∧ P d h' := by
  unfold runF
  rw [if_pos hl, he]
  generalize s env hc = o at x
  cases o <;> first | exact ⟨_, _, rfl, x⟩ | exact x.elim
@[simp] theorem sameFor_const (o : Out) : (sameFor fun _ => o) = o := sameFor_of fun _ => rfl
/-- a for loop by an invariant on its turns and the box -/
theorem ends_for {tg : Tg} {bd : Env → Hc → Out} (J : Nat → Env → Hc → Prop) {items : List D}
    (step : ∀ (i : Nat) x env h, items[i]? = some x → J i env h → ∃ e1, setTg tg x env h = .ok e1 h ∧
      ((∃ e2 h2, (bd e1 h = .nx e2 h2 ∨ bd e1 h = .ct e2 h2) ∧ J (i + 1) e2 h2) ∨ (∃ e2 h2, bd e1 h = .bk e2 h2 ∧ N e2 h2) ∨ (∃ d h2, bd e1 h = .rt d h2 ∧ R d h2)))
    (fin : ∀ env h, J items.length env h → N env h) (h0 : J 0 env h) : Ends (forL tg [] bd items env h) N R :=
  for_ind J (fun o => Ends o N R) (fun i x env h q j => by
    obtain ⟨e1, e, r⟩ := step i x env h q j
    exact ⟨e1, by simpa only [depOk_nil] using e, r⟩) (fun env h j => ⟨by simp only [depOk_nil, pur], fin env h j⟩) env h h0
/-- the turn of a loop: J where it goes on, N where it breaks -/
def EndsB (o : Out) (J N : Env → Hc → Prop) (R : D → Hc → Prop) : Prop := match o with
  | .nx e h => J e h
  | .ct e h => J e h
  | .bk e h => N e h
  | .rt d h => R d h
  | _ => False
theorem Ends.toB {o : Out} {J N : Env → Hc → Prop} (x : Ends o J R) : EndsB o J N R := by
  cases o <;> first | exact x | exact x.elim
theorem endsB_seq {J N : Env → Hc → Prop} (x : Ends (semS G C a env h) (fun e h => EndsB (semS G C b e h) J N R) R) : EndsB (semS G C (.seq a b) env h) J N R := by
  simp only [semS]
  generalize semS G C a env h = o at x
  cases o <;> first | exact x | exact x.elim
theorem endsB_seq' {J N : Env → Hc → Prop} (x : match semS G C a env h with
    | .nx e h => EndsB (semS G C b e h) J N R
    | o => EndsB o J N R) : EndsB (semS G C (.seq a b) env h) J N R := by
  simp only [semS]
  generalize semS G C a env h = o at x
  cases o <;> first | exact x | exact x.elim
theorem endsB_step {J N : Env → Hc → Prop} {e : Env} {h' : Hc} (q : semS G C a env h = .nx e h') (x : EndsB (semS G C b e h') J N R) : EndsB (semS G C (.seq a b) env h) J N R := endsB_seq (ends_nx q x)
theorem ends_forB {α : Type} {tg : Tg} {src : I} {h0 : Hc} (l : List α) (emb : α → D) (hs : semI G C src env h = .ok ⟨l.map emb, []⟩ h0) (J : Nat → Env → Hc → Prop)
    (step : ∀ (i : Nat) a env h, l[i]? = some a → J i env h → ∃ e1, setTg tg (emb a) env h = .ok e1 h ∧ EndsB (semS G C b e1 h) (J (i + 1)) N R)
    (fin : ∀ env h, J l.length env h → N env h) (j0 : J 0 env h0) : Ends (semS G C (.for tg src b) env h) N R := by
  simp only [semS, exS, hs]
  refine ends_for J (fun i x env h q j => ?_) (fun env h j => fin env h (by simpa using j)) j0
  rw [List.getElem?_map] at q
  cases z : l[i]? with
  | none => rw [z] at q; simp at q
  | some a =>
    rw [z] at q
    simp at q; subst q
    obtain ⟨e1, s1, e2⟩ := step i a env h z j
    refine ⟨e1, s1, ?_⟩
    generalize semS G C b e1 h = o at e2
    cases o with
    | nx e h => exact .inl ⟨e, h, .inl rfl, e2⟩
    | ct e h => exact .inl ⟨e, h, .inr rfl, e2⟩
    | bk e h => exact .inr (.inl ⟨e, h, rfl, e2⟩)
    | rt d h => exact .inr (.inr ⟨d, h, rfl, e2⟩)
    | exc c fs e h => exact e2.elim
    | bad => exact e2.elim
/-- .. without break -/
theorem ends_forS {α : Type} {tg : Tg} {src : I} {h0 : Hc} (l : List α) (emb : α → D) (hs : semI G C src env h = .ok ⟨l.map emb, []⟩ h0) (J : Nat → Env → Hc → Prop)
    (step : ∀ (i : Nat) a env h, l[i]? = some a → J i env h → ∃ e1, setTg tg (emb a) env h = .ok e1 h ∧ Ends (semS G C b e1 h) (J (i + 1)) R)
    (fin : ∀ env h, J l.length env h → N env h) (j0 : J 0 env h0) : Ends (semS G C (.for tg src b) env h) N R :=
  ends_forB l emb hs J (fun i a env h q j => by obtain ⟨e1, s1, e2⟩ := step i a env h q j; exact ⟨e1, s1, e2.toB⟩) fin j0
/-- a while loop: J n, what is left of it -/
theorem ends_whl {t : I} {T : Env → M Bool} (hT : ∀ e h, bnd (semE G C t e) truM h = T e h := by intros; rfl) (J : Nat → Env → Hc → Prop)
    (step : ∀ n env h, J n env h → (∃ h1, bnd (semE G C t env) truM h = .ok false h1 ∧ N env h1) ∨ ∃ h1, bnd (semE G C t env) truM h = .ok true h1 ∧ EndsB (semS G C b env h1) (fun e h => ∃ m, m < n ∧ J m e h) N R) (n : Nat) (j : J n env h) :
    Ends (semS G C (.whl t b) env h) N R := by
  simp only [semS]
  refine whl_ind J (fun o => Ends o N R) (fun n env h j => ?_) n env h j
  rcases step n env h j with ⟨h1, e1, e2⟩ | ⟨h1, e1, e2⟩
  · exact .inl ⟨h1, e1, e2⟩
  · refine .inr ⟨h1, e1, ?_⟩
    generalize semS G C b env h1 = o at e2
    cases o with
    | nx e h => obtain ⟨m, l, j⟩ := e2; exact .inl ⟨e, h, m, .inl rfl, l, j⟩
    | ct e h => obtain ⟨m, l, j⟩ := e2; exact .inl ⟨e, h, m, .inr rfl, l, j⟩
    | bk e h => exact .inr (.inl ⟨e, h, rfl, e2⟩)
    | rt d h => exact .inr (.inr ⟨d, h, rfl, e2⟩)
    | exc c fs e h => exact e2.elim
    | bad => exact e2.elim
end
/-- a def that changes nothing of its caller's -/
theorem p_rt {s : Env → Hc → Out} {p n : Nat} {ds : List D} {h : Hc} {d : D} (env : Env) (e : s env [] = .rt d h) (hn : noRef d = true := by rfl) (hl : ds.length = p := by rfl) (he : ds.map some ++ List.replicate (n - p) none = env := by rfl) : pureOf (runF s p n ds []) = .ok d := by
  rw [runF_rt env e hl he, pureOf_ok hn]
theorem p_nx {s : Env → Hc → Out} {p n : Nat} {ds : List D} {h : Hc} {env' : Env} (env : Env) (e : s env [] = .nx env' h) (hl : ds.length = p := by rfl) (he : ds.map some ++ List.replicate (n - p) none = env := by rfl) : pureOf (runF s p n ds []) = .ok .non := by
  rw [runF_nx env e hl he, pureOf_ok rfl]
theorem p_exc {s : Env → Hc → Out} {p n : Nat} {ds : List D} {h : Hc} {env' : Env} {c : Addr} (env : Env) (e : s env [] = .exc c [] env' h) (hl : ds.length = p := by rfl) (he : ds.map some ++ List.replicate (n - p) none = env := by rfl) : pureOf (runF s p n ds []) = .exc c [] := by
  rw [runF_exc env e hl he]; rfl
theorem p_ends {s : Env → Hc → Out} {p n : Nat} {ds : List D} {d : D} (env : Env) (e : Ends (s env []) (fun _ _ => False) (fun x _ => x = d)) (hn : noRef d = true := by rfl) (hl : ds.length = p := by rfl) (he : ds.map some ++ List.replicate (n - p) none = env := by rfl) : pureOf (runF s p n ds []) = .ok d := by
  generalize q : s env [] = o at e
  cases o <;> first | exact e.elim | skip
  cases e
  exact p_rt env q hn hl he
theorem mapM_outD {n : Nat} {hc : Hc} : ∀ {xs : List D}, noRefL xs = true → xs.mapM (outD n hc) = some xs
  | [], _ => rfl
  | x :: xs, h => by
    simp only [noRefL, Bool.and_eq_true] at h
    rw [mapM_cons, outD_pure h.1, mapM_outD h.2]
    rfl
theorem pureOf_ref {i : Nat} {hc : Hc} {xs : List D} (h : hc[i]? = some (.lst xs)) (hn : noRefL xs = true) : pureOf (.ok (.ref i) hc) = .ok (.fl xs) := by
  have e : outD depth hc (.ref i) = some (.fl xs) := by
    show outD 6 hc (.ref i) = _
    unfold outD
    rw [if_neg (by simp [noRef])]
    simp only [h, mapM_outD hn, Option.map_some]
  simp only [pureOf, e]
/-- .. that returns a list of its own -/
theorem p_rtL {s : Env → Hc → Out} {p n : Nat} {ds : List D} {h : Hc} {i : Nat} {xs : List D} (env : Env) (e : s env [] = .rt (.ref i) h) (hx : h[i]? = some (.lst xs)) (hn : noRefL xs = true) (hl : ds.length = p := by rfl) (he : ds.map some ++ List.replicate (n - p) none = env := by rfl) : pureOf (runF s p n ds []) = .ok (.fl xs) := by
  rw [runF_rt env e hl he, pureOf_ref hx hn]
/-! ### lists in order -/
theorem sorted_ext {xs ys : List Int} (hx : xs.Pairwise (· < ·)) (hy : ys.Pairwise (· < ·)) (h : ∀ i, i ∈ xs ↔ i ∈ ys) : xs = ys := by
  induction xs generalizing ys with
  | nil =>
    cases ys with
    | nil => rfl
    | cons y ys => exact absurd ((h y).mpr List.mem_cons_self) List.not_mem_nil
  | cons x xs ih =>
    cases ys with
    | nil => exact absurd ((h x).mp List.mem_cons_self) List.not_mem_nil
    | cons y ys =>
      rw [List.pairwise_cons] at hx hy
      have exy : x = y := by
        rcases List.mem_cons.mp ((h x).mp List.mem_cons_self) with e | e
        · exact e
        · rcases List.mem_cons.mp ((h y).mpr List.mem_cons_self) with e' | e'
          · exact e'.symm
          · have a := hy.1 x e
            have b := hx.1 y e'
            omega
      subst exy
      congr 1
      refine ih hx.2 hy.2 fun i => ⟨fun m => ?_, fun m => ?_⟩
      · rcases List.mem_cons.mp ((h i).mp (List.mem_cons_of_mem _ m)) with e | e
        · have := hx.1 i m; omega
        · exact e
      · rcases List.mem_cons.mp ((h i).mpr (List.mem_cons_of_mem _ m)) with e | e
        · have := hy.1 i m; omega
        · exact e
end Cl
/-! == of plain data. -/
namespace Cl
open PySem PySem.Spec PyProof.Rows L2
/-- plain data without truth values, less than n deep -/
def datP : Nat → D → Bool
  | _, .non => true
  | _, .int _ => true
  | _, .str x => PyData.strOk x
  | n + 1, .tup xs => xs.all (datP n)
  | n + 1, .fl xs => xs.all (datP n)
  | _, _ => false
theorem datP_up {n : Nat} : ∀ {d : D}, datP n d = true → datP (n + 1) d = true := by
  induction n with
  | zero => intro d h; cases d <;> simp_all [datP]
  | succ n ih =>
    intro d h
    cases d <;> simp_all [datP] <;> exact fun x hx => ih (h x hx)
theorem eqvAll_of {ps qs : List PyData} {P : PyData → PyData → Prop} (f : ∀ p ∈ ps, ∀ q ∈ qs, PyData.eqv p q = true ↔ P p q) : PyData.eqvAll ps qs = true ↔ ps.length = qs.length ∧ ∀ (i : Nat) p q, ps[i]? = some p → qs[i]? = some q → P p q := by
  induction ps generalizing qs with
  | nil =>
    cases qs with
    | nil => simp [PyData.eqvAll]
    | cons q qs => simp [PyData.eqvAll]
  | cons p ps ih =>
    cases qs with
    | nil => simp [PyData.eqvAll]
    | cons q qs =>
      simp only [PyData.eqvAll, Bool.and_eq_true, List.length_cons]
      rw [ih fun a ha b hb => f a (List.mem_cons_of_mem _ ha) b (List.mem_cons_of_mem _ hb), f p List.mem_cons_self q List.mem_cons_self]
      constructor
      · rintro ⟨h1, h2, h3⟩
        refine ⟨by omega, fun i a b ea eb => ?_⟩
        cases i with
        | zero => simp at ea eb; subst ea; subst eb; exact h1
        | succ i => exact h3 i a b (by simpa using ea) (by simpa using eb)
      · rintro ⟨h1, h2⟩
        exact ⟨h2 0 p q rfl rfl, by omega, fun i a b ea eb => h2 (i + 1) a b (by simpa using ea) (by simpa using eb)⟩
theorem toPys_get : ∀ {xs : List D} {ps : List PyData}, toPys xs = some ps → xs.length = ps.length ∧ ∀ i : Nat, (xs[i]?).bind toPy = ps[i]?
  | [], ps, h => by simp only [toPys, Option.some.injEq] at h; subst h; simp
  | x :: xs, ps, h => by
    simp only [toPys] at h
    split at h
    · next p qs e1 e2 =>
      cases h
      obtain ⟨l, g⟩ := toPys_get e2
      refine ⟨by simp [l], fun i => ?_⟩
      cases i with
      | zero => simp [e1]
      | succ i => simpa using g i
    · cases h
theorem dat_py (n : Nat) : ∀ d : D, datP n d = true → ∃ p, toPy d = some p ∧ PyData.canLay0 p = true ∧ p.depth ≤ n := by
  induction n with
  | zero =>
    intro d h
    cases d <;> simp [datP] at h <;> simp [toPy, PyData.canLay0, PyData.depth, h]
  | succ n ih =>
    intro d h
    have hs : ∀ xs : List D, xs.all (datP n) = true → ∃ ps, toPys xs = some ps ∧ PyData.canLayAll0 ps = true ∧ PyData.depthAll ps ≤ n := by
      intro xs
      induction xs with
      | nil => intro _; exact ⟨[], by simp [toPys], by simp [PyData.canLayAll0], by simp [PyData.depthAll]⟩
      | cons x xs ihx =>
        intro h
        rw [List.all_cons, Bool.and_eq_true] at h
        obtain ⟨p, e1, e2, e3⟩ := ih x h.1
        obtain ⟨ps, f1, f2, f3⟩ := ihx h.2
        exact ⟨p :: ps, by simp [toPys, e1, f1], by simp [PyData.canLayAll0, e2, f2], by simp only [PyData.depthAll]; omega⟩
    cases d with
    | tup xs =>
      obtain ⟨ps, f1, f2, f3⟩ := hs xs (by simpa [datP] using h)
      exact ⟨.tuple ps, by simp [toPy, f1], by simpa [PyData.canLay0] using f2, by simp only [PyData.depth]; omega⟩
    | fl xs =>
      obtain ⟨ps, f1, f2, f3⟩ := hs xs (by simpa [datP] using h)
      exact ⟨.list ps, by simp [toPy, f1], by simpa [PyData.canLay0] using f2, by simp only [PyData.depth]; omega⟩
    | _ => simp [datP] at h <;> simp [toPy, PyData.canLay0, PyData.depth, h]
theorem eqv_dat (n : Nat) : ∀ (a b : D) (p q : PyData), datP n a = true → datP n b = true → toPy a = some p → toPy b = some q → (PyData.eqv p q = true ↔ a = b) := by
  induction n with
  | zero =>
    intro a b p q ha hb ea eb
    cases a <;> simp [datP] at ha <;> cases b <;> simp [datP] at hb <;> simp [toPy] at ea eb <;> subst ea <;> subst eb <;> simp [PyData.eqv]
  | succ n ih =>
    intro a b p q ha hb ea eb
    have hs : ∀ (xs ys : List D) (ps qs : List PyData), xs.all (datP n) = true → ys.all (datP n) = true → toPys xs = some ps → toPys ys = some qs → (PyData.eqvAll ps qs = true ↔ xs = ys) := by
      intro xs
      induction xs with
      | nil =>
        intro ys ps qs _ _ e1 e2
        cases ys with
        | nil => simp only [toPys, Option.some.injEq] at e1 e2; subst e1; subst e2; simp [PyData.eqvAll]
        | cons y ys =>
          obtain ⟨l, _⟩ := toPys_get e2
          simp only [toPys, Option.some.injEq] at e1; subst e1
          cases qs with
          | nil => simp at l
          | cons => simp [PyData.eqvAll]
      | cons x xs ihx =>
        intro ys ps qs h1 h2 e1 e2
        rw [List.all_cons, Bool.and_eq_true] at h1
        cases ys with
        | nil =>
          obtain ⟨l, _⟩ := toPys_get e1
          simp only [toPys, Option.some.injEq] at e2; subst e2
          cases ps with
          | nil => simp at l
          | cons => simp [PyData.eqvAll]
        | cons y ys =>
          rw [List.all_cons, Bool.and_eq_true] at h2
          obtain ⟨p, f1, _⟩ := dat_py n x h1.1
          obtain ⟨q, g1, _⟩ := dat_py n y h2.1
          simp only [toPys, f1] at e1
          simp only [toPys, g1] at e2
          cases z1 : toPys xs with
          | none => rw [z1] at e1; simp at e1
          | some ps' =>
            cases z2 : toPys ys with
            | none => rw [z2] at e2; simp at e2
            | some qs' =>
              rw [z1] at e1; rw [z2] at e2
              simp at e1 e2
              subst e1; subst e2
              simp only [PyData.eqvAll, Bool.and_eq_true, ih x y p q h1.1 h2.1 f1 g1, ihx ys ps' qs' h1.2 h2.2 z1 z2, List.cons.injEq]
    cases a with
    | tup xs =>
      obtain ⟨p', e1, _⟩ := dat_py (n + 1) (.tup xs) ha
      rw [ea] at e1; cases e1
      simp only [toPy] at ea
      cases z1 : toPys xs with
      | none => rw [z1] at ea; simp at ea
      | some ps =>
        rw [z1] at ea; simp at ea; subst ea
        cases b with
        | tup ys =>
          simp only [toPy] at eb
          cases z2 : toPys ys with
          | none => rw [z2] at eb; simp at eb
          | some qs =>
            rw [z2] at eb; simp at eb; subst eb
            simp only [PyData.eqv, hs xs ys ps qs (by simpa [datP] using ha) (by simpa [datP] using hb) z1 z2, D.tup.injEq]
        | fl ys =>
          simp only [toPy] at eb
          cases z2 : toPys ys with
          | none => rw [z2] at eb; simp at eb
          | some qs => rw [z2] at eb; simp at eb; subst eb; simp [PyData.eqv]
        | _ => simp [datP] at hb <;> simp [toPy] at eb <;> subst eb <;> simp [PyData.eqv]
    | fl xs =>
      simp only [toPy] at ea
      cases z1 : toPys xs with
      | none => rw [z1] at ea; simp at ea
      | some ps =>
        rw [z1] at ea; simp at ea; subst ea
        cases b with
        | fl ys =>
          simp only [toPy] at eb
          cases z2 : toPys ys with
          | none => rw [z2] at eb; simp at eb
          | some qs =>
            rw [z2] at eb; simp at eb; subst eb
            simp only [PyData.eqv, hs xs ys ps qs (by simpa [datP] using ha) (by simpa [datP] using hb) z1 z2, D.fl.injEq]
        | tup ys =>
          simp only [toPy] at eb
          cases z2 : toPys ys with
          | none => rw [z2] at eb; simp at eb
          | some qs => rw [z2] at eb; simp at eb; subst eb; simp [PyData.eqv]
        | _ => simp [datP] at hb <;> simp [toPy] at eb <;> subst eb <;> simp [PyData.eqv]
    | _ =>
      cases b <;> simp [datP] at ha hb <;> simp [toPy] at ea <;> subst ea <;> first
        | (simp [toPy] at eb; subst eb; simp [PyData.eqv]; done)
        | (simp only [toPy] at eb
           obtain ⟨ws, _, ew⟩ := opt_map eb
           subst ew; simp [PyData.eqv])
theorem dat_noref (n : Nat) : ∀ d : D, datP n d = true → noRef d = true := by
  induction n with
  | zero => intro d h; cases d <;> first | rfl | simp [datP] at h
  | succ n ih =>
    intro d h
    cases d with
    | tup xs => exact noRefL_of fun x hx => ih x (List.all_eq_true.mp (by simpa [datP] using h) x hx)
    | fl xs => exact noRefL_of fun x hx => ih x (List.all_eq_true.mp (by simpa [datP] using h) x hx)
    | _ => first | rfl | simp [datP] at h
open Classical in
theorem eqM_dat (n : Nat) {a b : D} (ha : datP n a = true) (hb : datP n b = true) (h : Hc) (hn : n ≤ 64 := by decide) : eqM a b h = .ok (decide (a = b)) h := by
  obtain ⟨p, e1, e2, e3⟩ := dat_py n a ha
  obtain ⟨q, f1, f2, f3⟩ := dat_py n b hb
  have k := eqv_dat n a b p q ha hb e1 f1
  have t1 : toPyH h a = some p := by
    cases a <;> first | exact e1 | simp [datP] at ha
  have t2 : toPyH h b = some q := by
    cases b <;> first | exact f1 | simp [datP] at hb
  have s1 : SeqAt.shaped p = true := by simp only [SeqAt.shaped, Bool.and_eq_true, decide_eq_true_eq]; exact ⟨e2, by omega⟩
  have s2 : SeqAt.shaped q = true := by simp only [SeqAt.shaped, Bool.and_eq_true, decide_eq_true_eq]; exact ⟨f2, by omega⟩
  unfold eqM
  rw [t1, t2]
  simp only [s1, s2, Bool.and_self, if_true]
  congr 1
  by_cases hab : a = b
  · rw [decide_eq_true hab]; exact k.mpr hab
  · rw [decide_eq_false hab]
    cases z : PyData.eqv p q with
    | false => rfl
    | true => exact absurd (k.mp z) hab
theorem datP_map {α : Type} {n : Nat} {f : α → D} (h : ∀ a, datP n (f a) = true) (l : List α) : (l.map f).all (datP n) = true := by
  rw [List.all_eq_true]
  intro d hd
  obtain ⟨a, _, rfl⟩ := List.mem_map.mp hd
  exact h a
@[simp] theorem int_map_inj {xs ys : List Int} : xs.map D.int = ys.map D.int ↔ xs = ys := by
  constructor
  · intro h
    induction xs generalizing ys with
    | nil => cases ys with
      | nil => rfl
      | cons => simp at h
    | cons x xs ih => cases ys with
      | nil => simp at h
      | cons y ys => simp at h; rw [h.1, ih h.2]
  · rintro rfl; rfl
/-- lists, tuples of ints -/
theorem eqM_ints (xs ys : List Int) (h : Hc) : eqM (.fl (xs.map .int)) (.fl (ys.map .int)) h = .ok (decide (xs = ys)) h := by
  rw [eqM_dat 1 (a := .fl (xs.map .int)) (b := .fl (ys.map .int)) (datP_map (fun _ => rfl) xs) (datP_map (fun _ => rfl) ys) h]
  congr 1
  simp
theorem eqM_ints0 (xs : List Int) (h : Hc) : eqM (.fl (xs.map .int)) (.fl []) h = .ok (decide (xs = [])) h := eqM_ints xs [] h
theorem eqM_tints (xs ys : List Int) (h : Hc) : eqM (.tup (xs.map .int)) (.tup (ys.map .int)) h = .ok (decide (xs = ys)) h := by
  rw [eqM_dat 1 (a := .tup (xs.map .int)) (b := .tup (ys.map .int)) (datP_map (fun _ => rfl) xs) (datP_map (fun _ => rfl) ys) h]
  congr 1
  simp
end Cl
namespace Cl
open PySem PySem.Spec PyProof.Rows L2
def ir_steps_to_divisor_b0 : S := (.seq (.asg (.tg (.nm 6)) (.bin .FloorDiv (.var 0) (.var 1))) (.seq (.asg (.tg (.tp [0, 1, 2, 3, 4, 5])) (.tup (.cons (.var 1) (.cons (.bin .Sub (.var 0) (.bin .Mult (.var 6) (.var 1))) (.cons (.var 4) (.cons (.var 5) (.cons (.bin .Sub (.var 2) (.bin .Mult (.var 6) (.var 4))) (.cons (.bin .Sub (.var 3) (.bin .Mult (.var 6) (.var 5))) .nil)))))))) .nop))
def ir_steps_to_divisor_2 : S := (.ret (.ite (.cmp .GtE (.var 0) (.int 0)) (.tup (.cons (.var 0) (.cons (.var 2) (.cons (.var 3) .nil)))) (.tup (.cons (.neg (.var 0)) (.cons (.neg (.var 2)) (.cons (.neg (.var 3)) .nil))))))
def ir_steps_to_divisor_1 : S := (.whl (.var 1) ir_steps_to_divisor_b0)
def ir_steps_to_divisor_0 : S := (.asg (.tg (.tp [2, 3, 4, 5])) (.tup (.cons (.int 1) (.cons (.int 0) (.cons (.int 0) (.cons (.int 1) .nil))))))
def ir_steps_to_divisor : S := (.seq ir_steps_to_divisor_0 (.seq ir_steps_to_divisor_1 (.seq ir_steps_to_divisor_2 .nop)))
noncomputable def p_steps_to_divisor : List D → PR := fun ds => pureOf (runF (semS { tab := [] } [] ir_steps_to_divisor) 2 7 ds [])

structure StI (a0 b0 a b x y u v : Int) : Prop where
  pa : 0 ≤ a
  pb : 0 ≤ b
  ab : a < 2 ^ 64
  bb : b < 2 ^ 64
  h1 : x * a0 + y * b0 = a
  h2 : u * a0 + v * b0 = b
  g : Int.gcd a b = Int.gcd a0 b0
  sg : (0 ≤ x ∧ u ≤ 0 ∧ x * b - u * a = b0) ∨ (x ≤ 0 ∧ 0 ≤ u ∧ u * a - x * b = b0)
  ux : -b0 ≤ u ∧ u ≤ b0
  xx : (x = 1 ∨ (-b0 ≤ x ∧ x ≤ b0))
theorem le_mul_pos {x b : Int} (hx : 0 ≤ x) (hb : 0 < b) : x ≤ x * b := by
  have := Int.mul_le_mul_of_nonneg_left (show (1 : Int) ≤ b by omega) hx
  omega
theorem StI.next {a0 b0 a b x y u v : Int} (h : StI a0 b0 a b x y u v) (hb : b ≠ 0) : StI a0 b0 b (a - a.fdiv b * b) u v (x - a.fdiv b * u) (y - a.fdiv b * v) ∧ (a - a.fdiv b * b).natAbs < b.natAbs := by
  have hb' : 0 < b := by have := h.pb; omega
  have e : a.fdiv b = a / b := Int.fdiv_eq_ediv_of_nonneg _ h.pb
  rw [e]
  have em : a - a / b * b = a % b := by
    have := Int.emod_def a b
    rw [this, Int.mul_comm]
  have l1 := Int.emod_nonneg a hb
  have l2 := Int.emod_lt_of_pos a hb'
  have hk : 0 ≤ a / b := Int.ediv_nonneg h.pa h.pb
  have key : ((0 ≤ u ∧ x - a / b * u ≤ 0 ∧ u * (a - a / b * b) - (x - a / b * u) * b = b0) ∨ (u ≤ 0 ∧ 0 ≤ x - a / b * u ∧ (x - a / b * u) * b - u * (a - a / b * b) = b0)) ∧ (-b0 ≤ x - a / b * u ∧ x - a / b * u ≤ b0) := by
    rcases h.sg with ⟨s1, s2, s3⟩ | ⟨s1, s2, s3⟩
    · have p : 0 ≤ a / b * (-u) := Int.mul_nonneg hk (by omega)
      have p2 : a / b * (-u) = -(a / b * u) := by grind
      have e2 : (x - a / b * u) * b - u * (a - a / b * b) = b0 := by grind
      have p3 : 0 ≤ (-u) * (a - a / b * b) := Int.mul_nonneg (by omega) (by omega)
      have p4 : (-u) * (a - a / b * b) = -(u * (a - a / b * b)) := by grind
      have p5 := le_mul_pos (x := x - a / b * u) (b := b) (by omega) hb'
      exact ⟨.inr ⟨s2, by omega, e2⟩, by omega, by omega⟩
    · have p : 0 ≤ a / b * u := Int.mul_nonneg hk (by omega)
      have e2 : u * (a - a / b * b) - (x - a / b * u) * b = b0 := by grind
      have p3 : 0 ≤ u * (a - a / b * b) := Int.mul_nonneg (by omega) (by omega)
      have p5 := le_mul_pos (x := -(x - a / b * u)) (b := b) (by omega) hb'
      have p6 : -(x - a / b * u) * b = -((x - a / b * u) * b) := by grind
      exact ⟨.inl ⟨s2, by omega, e2⟩, by omega, by omega⟩
  refine ⟨⟨h.pb, by rw [em]; exact l1, h.bb, by rw [em]; have := h.bb; omega, h.h2, ?_, ?_, by rcases key.1 with z | z; exact .inl ⟨z.1, z.2.1, by omega⟩; exact .inr ⟨z.1, z.2.1, by omega⟩, key.2, .inr h.ux⟩, by rw [em]; omega⟩
  · have := h.h1
    have := h.h2
    grind
  · rw [Int.gcd_sub_mul_right_right, Int.gcd_comm]
    exact h.g
theorem fdiv_small {a b : Int} (ha : 0 ≤ a) (hb : 0 ≤ b) (h : a < 2 ^ 64) : -(2 ^ 64) < a.fdiv b ∧ a.fdiv b < 2 ^ 64 := by
  rw [Int.fdiv_eq_ediv_of_nonneg _ hb]
  have := Int.ediv_nonneg ha hb
  have := Int.ediv_le_self b ha
  omega
theorem ev_steps {a b : Int} (ha : 0 ≤ a) (hb : 0 ≤ b) (la : a < 2 ^ 64) (lb : b < 2 ^ 64) :
    ∃ x y : Int, p_steps_to_divisor [.int a, .int b] = .ok (.tup [.int (Int.gcd a b : Nat), .int x, .int y]) ∧ x * a + y * b = (Int.gcd a b : Nat) ∧ (x = 1 ∨ (-b ≤ x ∧ x ≤ b)) := by
  have h0 : StI a b a b 1 0 0 1 := ⟨ha, hb, la, lb, by omega, by omega, rfl, .inl ⟨by omega, by omega, by omega⟩, ⟨by omega, by omega⟩, .inl rfl⟩
  have w := whl_ind (t := fun env => bnd (semE { tab := [] } [] (.var 1) env) truM) (s := semS { tab := [] } [] ir_steps_to_divisor_b0)
    (fun n env hc => ∃ a' b' x y u v o, n = b'.natAbs ∧ hc = [] ∧ env = [some (.int a'), some (.int b'), some (.int x), some (.int y), some (.int u), some (.int v), o] ∧ StI a b a' b' x y u v)
    (fun o => ∃ x y u v k, o = .nx [some (.int (Int.gcd a b : Nat)), some (.int 0), some (.int x), some (.int y), some (.int u), some (.int v), k] [] ∧ x * a + y * b = (Int.gcd a b : Nat) ∧ (x = 1 ∨ (-b ≤ x ∧ x ≤ b))) ?_ b.natAbs [some (.int a), some (.int b), some (.int 1), some (.int 0), some (.int 0), some (.int 1), none] [] ⟨a, b, 1, 0, 0, 1, none, rfl, rfl, rfl, h0⟩
  · obtain ⟨x, y, u, v, k, e, eq⟩ := w
    refine ⟨x, y, ?_, eq⟩
    have e1 : semS { tab := [] } [] ir_steps_to_divisor_1 [some (.int a), some (.int b), some (.int 1), some (.int 0), some (.int 0), some (.int 1), none] [] = _ := e
    unfold p_steps_to_divisor runF ir_steps_to_divisor
    rw [seq_nx (env' := [some (.int a), some (.int b), some (.int 1), some (.int 0), some (.int 0), some (.int 1), none]) (h' := [])]
    · rw [seq_nx e1]
      simp [ir_steps_to_divisor_2, semS, semE, semA, semN, semO, semI, exS, bnd, optM, pur, setTg, seqM, lsM, binM, binL, augM, biM, bnM, cmpM, cmpI, ltM, leM, inM, eqF, flatD, isM, Cl.isNon, truM, intM, idxM, slcM, lenM, lstAt, Cl.putAt, isaM, tyM, tyName, lsrcM, srcM, calmly, depOk_nil, sizeLine_eq, wipeE, pureOf, outD, noRef, noRefL, depth, Cl.guard]
    · simp [ir_steps_to_divisor_0, semS, semE, semA, semN, semO, semI, exS, bnd, optM, pur, setTg, seqM, lsM, binM, binL, augM, biM, bnM, cmpM, cmpI, ltM, leM, inM, eqF, flatD, isM, Cl.isNon, truM, intM, idxM, slcM, lenM, lstAt, Cl.putAt, isaM, tyM, tyName, lsrcM, srcM, calmly, depOk_nil, sizeLine_eq, wipeE, Cl.guard]
  · intro n env hc ⟨a', b', x, y, u, v, o, en, eh, ee, hI⟩
    subst en; subst eh; subst ee
    by_cases hb0 : b' = 0
    · left
      subst hb0
      refine ⟨[], by simp [semS, semE, semA, semN, semO, semI, exS, bnd, optM, pur, setTg, seqM, lsM, binM, binL, augM, biM, bnM, cmpM, cmpI, ltM, leM, inM, eqF, flatD, isM, Cl.isNon, truM, intM, idxM, slcM, lenM, lstAt, Cl.putAt, isaM, tyM, tyName, lsrcM, srcM, calmly, depOk_nil, sizeLine_eq, wipeE], x, y, u, v, o, ?_, ?_, hI.xx⟩
      · have := hI.g
        have e : (Int.gcd a b : Int) = a' := by
          rw [← this, Int.gcd_zero_right]
          have := hI.pa
          omega
        rw [e]
      · have := hI.g
        rw [← this, Int.gcd_zero_right, hI.h1]
        have := hI.pa
        omega
    · right
      obtain ⟨hn, lt⟩ := hI.next hb0
      obtain ⟨f1, f2⟩ := fdiv_small hI.pa hI.pb hI.ab
      refine ⟨[], by simp [semS, semE, semA, semN, semO, semI, exS, bnd, optM, pur, setTg, seqM, lsM, binM, binL, augM, biM, bnM, cmpM, cmpI, ltM, leM, inM, eqF, flatD, isM, Cl.isNon, truM, intM, idxM, slcM, lenM, lstAt, Cl.putAt, isaM, tyM, tyName, lsrcM, srcM, calmly, depOk_nil, sizeLine_eq, wipeE, hb0], .inl ⟨_, [], _, .inl ?_, lt, b', _, u, v, _, _, some (.int (a'.fdiv b')), rfl, rfl, rfl, hn⟩⟩
      have d1 : DivOk b' := divOk_pos (by have := hI.pb; omega) (by have := hI.bb; omega)
      have m1 : MulOk (a'.fdiv b') b' := mulOk_l f1 f2
      have m2 : MulOk (a'.fdiv b') u := mulOk_l f1 f2
      have m3 : MulOk (a'.fdiv b') v := mulOk_l f1 f2
      simp [ir_steps_to_divisor_b0, semS, semE, semA, semN, semO, semI, exS, bnd, optM, pur, setTg, seqM, lsM, binM, binL, augM, biM, bnM, cmpM, cmpI, ltM, leM, inM, eqF, flatD, isM, Cl.isNon, truM, intM, idxM, slcM, lenM, lstAt, Cl.putAt, isaM, tyM, tyName, lsrcM, srcM, calmly, depOk_nil, sizeLine_eq, wipeE, Cl.guard, d1, m1, m2, m3]
theorem gcd_emod (a n : Int) : Int.gcd (a % n) n = Int.gcd a n := by rw [Int.emod_def, Int.gcd_sub_mul_left_left]
def ir_inverse_of_2 : S := (.ret (.bin .Mod (.var 3) (.var 1)))
def ir_inverse_of_1 : S := (.ite (.cmp .NotEq (.var 2) (.int 1)) (.seq (.rse 0) .nop) .nop)
def ir_inverse_of_0 : S := (.asg (.tg (.tp [2, 3, 4])) (.call 0 (.cons (.bin .Mod (.var 0) (.var 1)) (.cons (.var 1) .nil))))
def ir_inverse_of : S := (.seq ir_inverse_of_0 (.seq ir_inverse_of_1 (.seq ir_inverse_of_2 .nop)))
def ir_times_rest_2 : S := (.ret (.tup (.cons (.bin .Mod (.bin .Mult (.bin .FloorDiv (.var 1) (.var 3)) (.var 4)) (.bin .FloorDiv (.var 2) (.var 3))) (.cons (.bin .FloorDiv (.var 2) (.var 3)) .nil))))
def ir_times_rest_1 : S := (.ite (.bin .Mod (.var 1) (.var 3)) (.seq (.ret .non) .nop) .nop)
def ir_times_rest_0 : S := (.asg (.tg (.tp [3, 4, 5])) (.call 0 (.cons (.bin .Mod (.var 0) (.var 2)) (.cons (.var 2) .nil))))
def ir_times_rest : S := (.seq ir_times_rest_0 (.seq ir_times_rest_1 (.seq ir_times_rest_2 .nop)))
noncomputable def p_inverse_of (A : Nat → Addr) : List D → PR := fun ds => pureOf (runF (semS { tab := [(liftP p_steps_to_divisor)] } [.ob (A 2)] ir_inverse_of) 2 5 ds [])
noncomputable def p_times_rest : List D → PR := fun ds => pureOf (runF (semS { tab := [(liftP p_steps_to_divisor)] } [] ir_times_rest) 3 6 ds [])

/-- the inverse, or NoAnswer -/
theorem ev_inverse (A : Nat → Addr) {a n : Int} (hn : 0 < n) (ln : n < 2 ^ 64) : ∃ f, (Int.gcd a n = 1 → (f * a) % n = 1 % n) ∧ p_inverse_of A [.int a, .int n] = if Int.gcd a n = 1 then .ok (.int (f % n)) else .exc (A 2) [] := by
  have l0 := Int.emod_nonneg a (show n ≠ 0 by omega)
  have l1 := Int.emod_lt_of_pos a hn
  obtain ⟨x, y, e, q, _⟩ := ev_steps l0 (Int.le_of_lt hn) (by omega) ln
  have hg := gcd_emod a n
  rw [hg] at e q
  refine ⟨x, fun h => ?_, ?_⟩
  · rw [h] at q
    have e1 : x * a = 1 + n * (x * (a / n) - y) := by
      have := Int.emod_add_mul_ediv a n
      grind
    rw [e1, Int.add_mul_emod_self_left]
  · by_cases h : Int.gcd a n = 1
    · rw [if_pos h]
      rw [h] at e
      refine p_rt (h := []) [some (.int a), some (.int n), none, none, none] ?_
      simp (disch := first | omega | (simp; done) | fail) [ir_inverse_of, ir_inverse_of_0, ir_inverse_of_1, ir_inverse_of_2, semS, semE, semA, semN, semO, semI, exS, bnd, optM, pur, setTg, seqM, lsM, binM, binL, augM, biM, bnM, cmpM, cmpI, ltM, leM, inM, eqF, flatD, isM, Cl.isNon, truM, intM, idxM, slcM, lenM, lstAt, Cl.putAt, isaM, tyM, tyName, lsrcM, srcM, calmly, depOk_nil, sizeLine_eq, wipeE, gmul_r, gmul_l, gdiv, gmod, gmod', fdiv_pos, fmod_pos, grg, grg2, gsz, atI_pos, liftP, noRefL, noRef, e]
    · rw [if_neg h]
      have h2 : ¬ ((Int.gcd a n : Nat) : Int) = 1 := by omega
      refine p_exc (h := []) (env' := [some (.int a), some (.int n), some (.int (Int.gcd a n : Nat)), some (.int x), some (.int y)]) [some (.int a), some (.int n), none, none, none] ?_
      simp (disch := first | omega | (simp; done) | fail) [ir_inverse_of, ir_inverse_of_0, ir_inverse_of_1, ir_inverse_of_2, semS, semE, semA, semN, semO, semI, exS, bnd, optM, pur, setTg, seqM, lsM, binM, binL, augM, biM, bnM, cmpM, cmpI, ltM, leM, inM, eqF, flatD, isM, Cl.isNon, truM, intM, idxM, slcM, lenM, lstAt, Cl.putAt, isaM, tyM, tyName, lsrcM, srcM, calmly, depOk_nil, sizeLine_eq, wipeE, gmul_r, gmul_l, gdiv, gmod, gmod', fdiv_pos, fmod_pos, grg, grg2, gsz, atI_pos, liftP, noRefL, noRef, e, h2, h]
theorem ev_times_rest {a b n : Int} (hn : 0 < n) (ln : n < 2 ^ 64) : ∃ f, n ∣ f * a - (Int.gcd a n : Nat) ∧ p_times_rest [.int a, .int b, .int n] = .ok (if b % (Int.gcd a n : Nat) = 0 then .tup [.int ((b / (Int.gcd a n : Nat) * f) % (n / (Int.gcd a n : Nat))), .int (n / (Int.gcd a n : Nat))] else .non) := by
  have l0 := Int.emod_nonneg a (show n ≠ 0 by omega)
  have l1 := Int.emod_lt_of_pos a hn
  obtain ⟨x, y, e, q, lx⟩ := ev_steps l0 (Int.le_of_lt hn) (by omega) ln
  rw [gcd_emod] at e q
  have g0 : 0 < Int.gcd a n := Nat.pos_of_ne_zero fun z => by
    have := (Int.gcd_eq_zero_iff.mp z).2
    omega
  have g0' : 0 < ((Int.gcd a n : Nat) : Int) := by omega
  have g1 : ((Int.gcd a n : Nat) : Int) ≤ n := Int.le_of_dvd hn (Int.gcd_dvd_right a n)
  have n0 : 0 < n / ((Int.gcd a n : Nat) : Int) := Int.ediv_pos_of_pos_of_dvd hn (by omega) (Int.gcd_dvd_right a n)
  have n1 : n / ((Int.gcd a n : Nat) : Int) ≤ n := Int.ediv_le_self _ (by omega)
  refine ⟨x, ⟨x * (a / n) - y, ?_⟩, ?_⟩
  · have := Int.emod_add_mul_ediv a n
    grind
  · generalize ((Int.gcd a n : Nat) : Int) = g at *
    by_cases h : b % g = 0
    · rw [if_pos h]
      refine p_rt (h := []) [some (.int a), some (.int b), some (.int n), none, none, none] ?_
      simp (disch := first | omega | (simp; done) | fail) [ir_times_rest, ir_times_rest_0, ir_times_rest_1, ir_times_rest_2, semS, semE, semA, semN, semO, semI, exS, bnd, optM, pur, setTg, seqM, lsM, binM, binL, augM, biM, bnM, cmpM, cmpI, ltM, leM, inM, eqF, flatD, isM, Cl.isNon, truM, intM, idxM, slcM, lenM, lstAt, Cl.putAt, isaM, tyM, tyName, lsrcM, srcM, calmly, depOk_nil, sizeLine_eq, wipeE, gmul_r, gmul_l, gdiv, gmod, gmod', fdiv_pos, fmod_pos, grg, grg2, gsz, atI_pos, liftP, noRefL, noRef, e, h]
    · rw [if_neg h]
      refine p_rt (h := []) [some (.int a), some (.int b), some (.int n), none, none, none] ?_
      simp (disch := first | omega | (simp; done) | fail) [ir_times_rest, ir_times_rest_0, ir_times_rest_1, ir_times_rest_2, semS, semE, semA, semN, semO, semI, exS, bnd, optM, pur, setTg, seqM, lsM, binM, binL, augM, biM, bnM, cmpM, cmpI, ltM, leM, inM, eqF, flatD, isM, Cl.isNon, truM, intM, idxM, slcM, lenM, lstAt, Cl.putAt, isaM, tyM, tyName, lsrcM, srcM, calmly, depOk_nil, sizeLine_eq, wipeE, gmul_r, gmul_l, gdiv, gmod, gmod', fdiv_pos, fmod_pos, grg, grg2, gsz, atI_pos, liftP, noRefL, noRef, e, h]
end Cl
namespace Cl
open PySem PySem.Spec PyProof.Rows L2
def ir_law_shared_b0 : S := (.seq (.par [0, 1] (.cons (.var 1) (.cons (.bin .Sub (.var 0) (.bin .Mult (.bin .FloorDiv (.var 0) (.var 1)) (.var 1))) .nil))) .nop)
def ir_law_shared_2 : S := (.ret (.var 0))
def ir_law_shared_1 : S := (.whl (.cmp .Gt (.var 1) (.int 0)) ir_law_shared_b0)
def ir_law_shared_0 : S := (.par [0, 1] (.cons (.bi .abs (.cons (.var 0) .nil)) (.cons (.bi .abs (.cons (.var 1) .nil)) .nil)))
def ir_law_shared : S := (.seq ir_law_shared_0 (.seq ir_law_shared_1 (.seq ir_law_shared_2 .nop)))
def ir_law_left_0 : S := (.ret (.bin .Sub (.var 0) (.bin .Mult (.bin .FloorDiv (.var 0) (.var 1)) (.var 1))))
def ir_law_left : S := (.seq ir_law_left_0 .nop)
noncomputable def p_law_shared : List D → PR := fun ds => pureOf (runF (semS { tab := [] } [] ir_law_shared) 2 2 ds [])
noncomputable def p_law_left : List D → PR := fun ds => pureOf (runF (semS { tab := [] } [] ir_law_left) 2 2 ds [])

theorem ev_left {a n : Int} (hn : 0 < n) (ln : n < 2 ^ 64) : p_law_left [.int a, .int n] = .ok (.int (a % n)) := by
  have e : a - a / n * n = a % n := by rw [Int.emod_def, Int.mul_comm]
  refine p_rt (h := []) [some (.int a), some (.int n)] ?_
  simp (disch := first | omega | (simp; done) | fail) [ir_law_left, ir_law_left_0, semS, semE, semA, semN, semO, semI, exS, bnd, optM, pur, setTg, seqM, lsM, binM, binL, augM, biM, bnM, cmpM, cmpI, ltM, leM, inM, eqF, flatD, isM, Cl.isNon, truM, intM, idxM, slcM, lenM, lstAt, Cl.putAt, isaM, tyM, tyName, lsrcM, srcM, calmly, depOk_nil, sizeLine_eq, wipeE, gmul_r, gmul_l, gdiv, gmod, gmod', fdiv_pos, fmod_pos, grg, grg2, gsz, atI_pos, e]
theorem ev_shared {a b : Int} (la : a.natAbs < 2 ^ 64) (lb : b.natAbs < 2 ^ 64) : p_law_shared [.int a, .int b] = .ok (.int (Int.gcd a b : Nat)) := by
  have w := whl_ind (t := fun env => bnd (semE { tab := [] } [] (.cmp .Gt (.var 1) (.int 0)) env) truM) (s := semS { tab := [] } [] ir_law_shared_b0)
    (fun n env hc => ∃ u v : Nat, v = n ∧ hc = [] ∧ env = [some (.int u), some (.int v)] ∧ Nat.gcd u v = Int.gcd a b ∧ u < 2 ^ 64 ∧ v < 2 ^ 64)
    (fun o => ∃ k, o = .nx [some (.int (Int.gcd a b : Nat)), k] []) ?_ b.natAbs [some (.int a.natAbs), some (.int b.natAbs)] [] ⟨a.natAbs, b.natAbs, rfl, rfl, rfl, rfl, la, lb⟩
  · obtain ⟨k, e⟩ := w
    have e1 : semS { tab := [] } [] ir_law_shared_1 [some (.int a.natAbs), some (.int b.natAbs)] [] = _ := e
    have e0 : semS { tab := [] } [] ir_law_shared_0 [some (.int a), some (.int b)] [] = .nx [some (.int a.natAbs), some (.int b.natAbs)] [] := by
      have q : ∀ i : Int, (if i < 0 then -i else i) = i.natAbs := fun i => by split <;> omega
      simp [ir_law_shared_0, semS, semE, semA, semN, semO, semI, exS, bnd, optM, pur, setTg, seqM, lsM, binM, binL, augM, biM, bnM, cmpM, cmpI, ltM, leM, inM, eqF, flatD, isM, Cl.isNon, truM, intM, idxM, slcM, lenM, lstAt, Cl.putAt, isaM, tyM, tyName, lsrcM, srcM, calmly, depOk_nil, sizeLine_eq, wipeE, q]
    refine p_rt (h := []) [some (.int a), some (.int b)] ?_
    unfold ir_law_shared
    rw [seq_nx e0, seq_nx e1]
    simp [ir_law_shared_2, semS, semE, semA, semN, semO, semI, exS, bnd, optM, pur, setTg, seqM, lsM, binM, binL, augM, biM, bnM, cmpM, cmpI, ltM, leM, inM, eqF, flatD, isM, Cl.isNon, truM, intM, idxM, slcM, lenM, lstAt, Cl.putAt, isaM, tyM, tyName, lsrcM, srcM, calmly, depOk_nil, sizeLine_eq, wipeE]
  · intro n env hc ⟨u, v, en, eh, ee, hg, l1, l2⟩
    subst en; subst eh; subst ee
    by_cases hb0 : v = 0
    · left
      subst hb0
      refine ⟨[], by simp [semS, semE, semA, semN, semO, semI, exS, bnd, optM, pur, setTg, seqM, lsM, binM, binL, augM, biM, bnM, cmpM, cmpI, ltM, leM, inM, eqF, flatD, isM, Cl.isNon, truM, intM, idxM, slcM, lenM, lstAt, Cl.putAt, isaM, tyM, tyName, lsrcM, srcM, calmly, depOk_nil, sizeLine_eq, wipeE], some (.int 0), ?_⟩
      rw [← hg, Nat.gcd_zero_right]
      rfl
    · right
      have hm : (u : Int) - u / v * v = ((u % v : Nat) : Int) := by
        have := Int.emod_def (u : Int) v
        rw [Int.natCast_emod, this, Int.mul_comm]
      have hq : (u : Int) / v ≤ u := Int.ediv_le_self _ (by omega)
      have hq0 : 0 ≤ (u : Int) / v := Int.ediv_nonneg (by omega) (by omega)
      have hpos : 0 < (v : Int) := by omega
      have hlt := Nat.mod_lt u (Nat.pos_of_ne_zero hb0)
      refine ⟨[], by simp [semS, semE, semA, semN, semO, semI, exS, bnd, optM, pur, setTg, seqM, lsM, binM, binL, augM, biM, bnM, cmpM, cmpI, ltM, leM, inM, eqF, flatD, isM, Cl.isNon, truM, intM, idxM, slcM, lenM, lstAt, Cl.putAt, isaM, tyM, tyName, lsrcM, srcM, calmly, depOk_nil, sizeLine_eq, wipeE]; omega, .inl ⟨[some (.int v), some (.int ((u % v : Nat) : Int))], [], u % v, .inl ?_, hlt, v, u % v, rfl, rfl, rfl, ?_, l2, by omega⟩⟩
      · simp (disch := first | omega | (simp; done) | fail) [ir_law_shared_b0, semS, semE, semA, semN, semO, semI, exS, bnd, optM, pur, setTg, seqM, lsM, binM, binL, augM, biM, bnM, cmpM, cmpI, ltM, leM, inM, eqF, flatD, isM, Cl.isNon, truM, intM, idxM, slcM, lenM, lstAt, Cl.putAt, isaM, tyM, tyName, lsrcM, srcM, calmly, depOk_nil, sizeLine_eq, wipeE, gmul_r, gmul_l, gdiv, gmod, gmod', fdiv_pos, fmod_pos, grg, grg2, gsz, atI_pos, hm]
      · rw [← hg, Nat.gcd_comm, ← Nat.gcd_rec, Nat.gcd_comm]
end Cl
/-! Primes, exponents: plain. -/
namespace Mth
def Pr (p : Nat) : Prop := 2 ≤ p ∧ ∀ d, d ∣ p → d = 1 ∨ d = p
theorem Pr.pos {p : Nat} (h : Pr p) : 0 < p := Nat.lt_of_lt_of_le (by decide) h.1
theorem exists_least {P : Nat → Prop} (h : ∃ n, P n) : ∃ n, P n ∧ ∀ m, m < n → ¬ P m := by
  obtain ⟨n, hn⟩ := h
  induction n using Nat.strongRecOn with
  | ind n ih =>
    by_cases x : ∃ m, m < n ∧ P m
    · obtain ⟨m, hm, pm⟩ := x
      exact ih m hm pm
    · exact ⟨n, hn, fun m hm pm => x ⟨m, hm, pm⟩⟩
theorem pr_of_least {n k : Nat} (hk : 2 ≤ k) (hd : k ∣ n) (hl : ∀ q, Pr q → q < k → ¬ q ∣ n) : Pr k := by
  induction k using Nat.strongRecOn with
  | ind k ih =>
    refine ⟨hk, fun d hd2 => ?_⟩
    by_cases h1 : d = 1
    · exact .inl h1
    · right
      have hk0 : 0 < k := by omega
      have hdk := Nat.le_of_dvd hk0 hd2
      have hd0 : d ≠ 0 := fun z => by subst z; rw [Nat.zero_dvd] at hd2; omega
      rcases Nat.lt_or_ge d k with hlt | hge
      · have pd := ih d hlt (by omega) (Nat.dvd_trans hd2 hd) (fun q pq hq => hl q pq (by omega))
        exact absurd (Nat.dvd_trans hd2 hd) (hl d pd hlt)
      · omega
theorem exists_pr {n : Nat} (h : 2 ≤ n) : ∃ p, Pr p ∧ p ∣ n := by
  obtain ⟨k, ⟨hk, hd⟩, hl⟩ := exists_least (P := fun k => 2 ≤ k ∧ k ∣ n) ⟨n, h, Nat.dvd_refl n⟩
  exact ⟨k, pr_of_least hk hd fun q pq hq hd2 => hl q hq ⟨pq.1, hd2⟩, hd⟩
theorem Pr.coprime {p a : Nat} (h : Pr p) (hd : ¬ p ∣ a) : Nat.Coprime p a := by
  rcases h.2 _ (Nat.gcd_dvd_left p a) with e | e
  · exact e
  · exact absurd (e ▸ Nat.gcd_dvd_right p a) hd
theorem Pr.mul {p a b : Nat} (h : Pr p) (hd : p ∣ a * b) : p ∣ a ∨ p ∣ b := by
  by_cases x : p ∣ a
  · exact .inl x
  · exact .inr ((h.coprime x).dvd_of_dvd_mul_left hd)
theorem Pr.eq {p q : Nat} (hp : Pr p) (hq : Pr q) (h : p ∣ q) : p = q := by
  rcases hq.2 p h with e | e
  · have := hp.1; omega
  · exact e
/-- how often p divides n -/
def vpF (p : Nat) : Nat → Nat → Nat
  | 0, _ => 0
  | f + 1, n => if 2 ≤ p ∧ 0 < n ∧ n % p = 0 then vpF p f (n / p) + 1 else 0
def vp (p n : Nat) : Nat := vpF p n n
theorem vpF_more {p : Nat} (hp : 2 ≤ p) : ∀ (f g n : Nat), n ≤ f → n ≤ g → vpF p f n = vpF p g n
  | 0, g, n, h, h' => by
    have : n = 0 := by omega
    subst this
    cases g <;> simp [vpF]
  | f + 1, 0, n, h, h' => by
    have : n = 0 := by omega
    subst this
    simp [vpF]
  | f + 1, g + 1, n, h, h' => by
    simp only [vpF]
    split
    · next c =>
      have : n / p < n := Nat.div_lt_self c.2.1 (by omega)
      rw [vpF_more hp f g (n / p) (by omega) (by omega)]
    · rfl
theorem vp_mul {p n : Nat} (hp : 2 ≤ p) (hn : 0 < n) : vp p (p * n) = vp p n + 1 := by
  have hpn : n < p * n := by
    have := Nat.mul_le_mul_right n hp
    omega
  unfold vp
  obtain ⟨f, hf⟩ : ∃ f, p * n = f + 1 := ⟨p * n - 1, by omega⟩
  rw [hf]
  simp only [vpF]
  rw [← hf, if_pos ⟨hp, by omega, Nat.mul_mod_right p n⟩, Nat.mul_div_cancel_left n (by omega), vpF_more hp f n n (by omega) (Nat.le_refl n)]
theorem vp_zero {p n : Nat} (h : ¬ p ∣ n) : vp p n = 0 := by
  unfold vp
  cases n with
  | zero => rfl
  | succ n =>
    simp only [vpF]
    rw [if_neg]
    intro c
    exact h (Nat.dvd_of_mod_eq_zero c.2.2)
theorem vp_dvd {p n : Nat} (h : 0 < vp p n) : p ∣ n := by
  by_cases x : p ∣ n
  · exact x
  · rw [vp_zero x] at h; omega
theorem vp_one {p : Nat} (hp : 2 ≤ p) : vp p 1 = 0 := vp_zero fun h => by have := Nat.le_of_dvd (by decide) h; omega
theorem vp_self {p : Nat} (hp : 2 ≤ p) : vp p p = 1 := by
  have := vp_mul hp (n := 1) (by decide)
  rw [Nat.mul_one, vp_one hp] at this
  exact this
/-- other primes -/
theorem vp_other {p q : Nat} (hp : Pr p) (hq : Pr q) (hne : p ≠ q) : ∀ (n : Nat), 0 < n → vp p (q * n) = vp p n := by
  intro n
  induction n using Nat.strongRecOn with
  | ind n ih =>
    intro hn
    by_cases hd : p ∣ n
    · obtain ⟨m, rfl⟩ := hd
      have hm : 0 < m := Nat.pos_of_mul_pos_left hn |> fun _ => Nat.pos_of_ne_zero fun z => by subst z; simp at hn
      have hlt : m < p * m := by
        have := Nat.mul_le_mul_right m hp.1
        omega
      rw [show q * (p * m) = p * (q * m) by rw [← Nat.mul_assoc, Nat.mul_comm q p, Nat.mul_assoc], vp_mul hp.1 (Nat.mul_pos hq.pos hm), vp_mul hp.1 hm, ih m hlt hm]
    · rw [vp_zero hd, vp_zero]
      intro h
      rcases hp.mul h with e | e
      · exact hne (hp.eq hq e)
      · exact hd e
theorem vp_pos {p n : Nat} (hp : 2 ≤ p) (hn : 0 < n) (h : p ∣ n) : 0 < vp p n := by
  obtain ⟨m, rfl⟩ := h
  rw [vp_mul hp (Nat.pos_of_ne_zero fun z => by subst z; simp at hn)]
  omega
end Mth
namespace Cl
open PySem PySem.Spec PyProof.Rows L2 Mth
def ir_first_divisor_b0 : S := (.seq (.ite (.cmp .Eq (.bin .Mod (.var 0) (.var 1)) (.int 0)) (.seq (.ret (.var 1)) .nop) .nop) (.seq (.aug 1 .Add (.int 2)) .nop))
def ir_first_divisor_3 : S := (.ret (.var 0))
def ir_first_divisor_2 : S := (.whl (.cmp .LtE (.bin .Mult (.var 1) (.var 1)) (.var 0)) ir_first_divisor_b0)
def ir_first_divisor_1 : S := (.asg (.tg (.nm 1)) (.int 3))
def ir_first_divisor_0 : S := (.ite (.cmp .Eq (.bin .Mod (.var 0) (.int 2)) (.int 0)) (.seq (.ret (.int 2)) .nop) .nop)
def ir_first_divisor : S := (.seq ir_first_divisor_0 (.seq ir_first_divisor_1 (.seq ir_first_divisor_2 (.seq ir_first_divisor_3 .nop))))
def ir_factors_b0 : S := (.seq (.aug 0 .FloorDiv (.var 2)) (.seq (.aug 3 .Add (.int 1)) .nop))
def ir_factors_b1 : S := (.seq (.par [2, 3] (.cons (.call 0 (.cons (.var 0) .nil)) (.cons (.int 0) .nil))) (.seq (.whl (.cmp .Eq (.bin .Mod (.var 0) (.var 2)) (.int 0)) ir_factors_b0) (.seq (.ex (.app (.var 1) (.tup (.cons (.var 2) (.cons (.var 3) .nil))))) .nop)))
def ir_factors_2 : S := (.ret (.bi .tuple (.cons (.var 1) .nil)))
def ir_factors_1 : S := (.whl (.cmp .Gt (.var 0) (.int 1)) ir_factors_b1)
def ir_factors_0 : S := (.asg (.tg (.nm 1)) (.trk (.lst .nil)))
def ir_factors : S := (.seq ir_factors_0 (.seq ir_factors_1 (.seq ir_factors_2 .nop)))
noncomputable def p_first_divisor : List D → PR := fun ds => pureOf (runF (semS { tab := [] } [] ir_first_divisor) 1 2 ds [])
noncomputable def p_factors : List D → PR := fun ds => pureOf (runF (semS { tab := [(liftP p_first_divisor)] } [] ir_factors) 1 4 ds [])

/-- the least divisor -/
theorem ev_first_divisor {n : Nat} (h : 2 ≤ n) (ln : n < 2 ^ 60) : ∃ p, p_first_divisor [.int n] = .ok (.int (p : Nat)) ∧ Pr p ∧ p ∣ n ∧ ∀ q, Pr q → q < p → ¬ q ∣ n := by
  have key : Ends (semS { tab := [] } [] ir_first_divisor [some (.int n), none] []) (fun _ _ => False) (fun d _ => ∃ p : Nat, d = .int p ∧ Pr p ∧ p ∣ n ∧ ∀ q, Pr q → q < p → ¬ q ∣ n) := by
    unfold ir_first_divisor
    by_cases h2 : n % 2 = 0
    · refine ends_seq (ends_rt (d := .int 2) (h := []) ?_ ⟨2, rfl, ⟨by decide, fun d hd => ?_⟩, Nat.dvd_of_mod_eq_zero h2, fun q hq hl => ?_⟩)
      · have : (n : Int) % 2 = 0 := by omega
        simp (disch := first | omega | (simp; done) | fail) [ir_first_divisor_0, semS, semE, semA, semN, semO, semI, exS, bnd, optM, pur, setTg, seqM, lsM, binM, binL, augM, biM, bnM, cmpM, cmpI, ltM, leM, inM, eqF, flatD, isM, Cl.isNon, truM, intM, idxM, slcM, lenM, lstAt, Cl.putAt, isaM, tyM, tyName, lsrcM, srcM, calmly, depOk_nil, sizeLine_eq, wipeE, gmul_r, gmul_l, gdiv, gmod, gmod', fdiv_pos, fmod_pos, grg, grg2, gsz, atI_pos, this]
      · have := Nat.le_of_dvd (by decide) hd
        have : d ≠ 0 := fun z => by subst z; simp at hd
        omega
      · have := hq.1; omega
    · have h2i : ¬ (n : Int) % 2 = 0 := by omega
      refine ends_step (e := [some (.int n), none]) (h' := []) (by simp (disch := first | omega | (simp; done) | fail) [ir_first_divisor_0, semS, semE, semA, semN, semO, semI, exS, bnd, optM, pur, setTg, seqM, lsM, binM, binL, augM, biM, bnM, cmpM, cmpI, ltM, leM, inM, eqF, flatD, isM, Cl.isNon, truM, intM, idxM, slcM, lenM, lstAt, Cl.putAt, isaM, tyM, tyName, lsrcM, srcM, calmly, depOk_nil, sizeLine_eq, wipeE, gmul_r, gmul_l, gdiv, gmod, gmod', fdiv_pos, fmod_pos, grg, grg2, gsz, atI_pos, h2i]) ?_
      refine ends_step (e := [some (.int n), some (.int (3 : Nat))]) (h' := []) (by simp [ir_first_divisor_1, semS, semE, semA, semN, semO, semI, exS, bnd, optM, pur, setTg, seqM, lsM, binM, binL, augM, biM, bnM, cmpM, cmpI, ltM, leM, inM, eqF, flatD, isM, Cl.isNon, truM, intM, idxM, slcM, lenM, lstAt, Cl.putAt, isaM, tyM, tyName, lsrcM, srcM, calmly, depOk_nil, sizeLine_eq, wipeE]) ?_
      refine ends_seq ?_
      unfold ir_first_divisor_2
      refine ends_whl (fun _ _ => rfl) (fun m e h => ∃ k : Nat, m = n + 2 - k ∧ h = [] ∧ e = [some (.int n), some (.int k)] ∧ 3 ≤ k ∧ k ≤ n ∧ k % 2 = 1 ∧ ∀ q, Pr q → q < k → ¬ q ∣ n) ?_ _ ⟨3, rfl, rfl, rfl, by omega, by omega, rfl, fun q hq hl hd => ?_⟩
      · rintro m e hc ⟨k, rfl, rfl, rfl, k3, kn, ko, kl⟩
        have lk : (k : Int) < 2 ^ 60 := by omega
        by_cases c : k * k ≤ n
        · have ci : (k : Int) * k ≤ n := by exact_mod_cast c
          refine .inr ⟨[], by simp (disch := first | omega | (simp; done) | fail) [semS, semE, semA, semN, semO, semI, exS, bnd, optM, pur, setTg, seqM, lsM, binM, binL, augM, biM, bnM, cmpM, cmpI, ltM, leM, inM, eqF, flatD, isM, Cl.isNon, truM, intM, idxM, slcM, lenM, lstAt, Cl.putAt, isaM, tyM, tyName, lsrcM, srcM, calmly, depOk_nil, sizeLine_eq, wipeE, gmul_r, gmul_l, gdiv, gmod, gmod', fdiv_pos, fmod_pos, grg, grg2, gsz, atI_pos, ci], ?_⟩
          by_cases d : n % k = 0
          · have di : (n : Int) % k = 0 := by exact_mod_cast d
            refine endsB_seq (ends_rt (d := .int k) (h := []) (by simp (disch := first | omega | (simp; done) | fail) [semS, semE, semA, semN, semO, semI, exS, bnd, optM, pur, setTg, seqM, lsM, binM, binL, augM, biM, bnM, cmpM, cmpI, ltM, leM, inM, eqF, flatD, isM, Cl.isNon, truM, intM, idxM, slcM, lenM, lstAt, Cl.putAt, isaM, tyM, tyName, lsrcM, srcM, calmly, depOk_nil, sizeLine_eq, wipeE, gmul_r, gmul_l, gdiv, gmod, gmod', fdiv_pos, fmod_pos, grg, grg2, gsz, atI_pos, di]) ⟨k, rfl, pr_of_least (by omega) (Nat.dvd_of_mod_eq_zero d) kl, Nat.dvd_of_mod_eq_zero d, kl⟩)
          · have di : ¬ (n : Int) % k = 0 := fun z => d (by exact_mod_cast z)
            refine Ends.toB (ends_step (e := [some (.int n), some (.int k)]) (h' := []) (by simp (disch := first | omega | (simp; done) | fail) [semS, semE, semA, semN, semO, semI, exS, bnd, optM, pur, setTg, seqM, lsM, binM, binL, augM, biM, bnM, cmpM, cmpI, ltM, leM, inM, eqF, flatD, isM, Cl.isNon, truM, intM, idxM, slcM, lenM, lstAt, Cl.putAt, isaM, tyM, tyName, lsrcM, srcM, calmly, depOk_nil, sizeLine_eq, wipeE, gmul_r, gmul_l, gdiv, gmod, gmod', fdiv_pos, fmod_pos, grg, grg2, gsz, atI_pos, di]) (ends_nx (e := [some (.int n), some (.int (k + 2 : Nat))]) (h := []) (by simp [semS, semE, semA, semN, semO, semI, exS, bnd, optM, pur, setTg, seqM, lsM, binM, binL, augM, biM, bnM, cmpM, cmpI, ltM, leM, inM, eqF, flatD, isM, Cl.isNon, truM, intM, idxM, slcM, lenM, lstAt, Cl.putAt, isaM, tyM, tyName, lsrcM, srcM, calmly, depOk_nil, sizeLine_eq, wipeE]) ⟨n - k, by omega, k + 2, by omega, rfl, rfl, by omega, ?_, by omega, fun q hq hl hd => ?_⟩))
            · have := Nat.mul_le_mul_left k k3
              omega
            · rcases (show q < k ∨ q = k ∨ q = k + 1 by omega) with z | z | z
              · exact kl q hq z hd
              · subst z; exact d (Nat.mod_eq_zero_of_dvd hd)
              · have h3 : 2 ∣ q := ⟨(k + 1) / 2, by omega⟩
                exact h2 (Nat.mod_eq_zero_of_dvd (Nat.dvd_trans h3 hd))
        · have ci : ¬ (k : Int) * k ≤ n := fun z => c (by exact_mod_cast z)
          refine .inl ⟨[], by simp (disch := first | omega | (simp; done) | fail) [semS, semE, semA, semN, semO, semI, exS, bnd, optM, pur, setTg, seqM, lsM, binM, binL, augM, biM, bnM, cmpM, cmpI, ltM, leM, inM, eqF, flatD, isM, Cl.isNon, truM, intM, idxM, slcM, lenM, lstAt, Cl.putAt, isaM, tyM, tyName, lsrcM, srcM, calmly, depOk_nil, sizeLine_eq, wipeE, gmul_r, gmul_l, gdiv, gmod, gmod', fdiv_pos, fmod_pos, grg, grg2, gsz, atI_pos, ci], ?_⟩
          refine ends_seq (ends_rt (d := .int n) (h := []) (by simp [ir_first_divisor_3, semS, semE, semA, semN, semO, semI, exS, bnd, optM, pur, setTg, seqM, lsM, binM, binL, augM, biM, bnM, cmpM, cmpI, ltM, leM, inM, eqF, flatD, isM, Cl.isNon, truM, intM, idxM, slcM, lenM, lstAt, Cl.putAt, isaM, tyM, tyName, lsrcM, srcM, calmly, depOk_nil, sizeLine_eq, wipeE]) ⟨n, rfl, ?_⟩)
          have hp : Pr n := by
            obtain ⟨p, hp, d, hd⟩ := exists_pr h
            have hpk : k ≤ p := Nat.le_of_not_lt fun z => kl p hp z ⟨d, hd⟩
            by_cases d1 : d = 1
            · rw [hd, d1, Nat.mul_one]; exact hp
            · have hd2 : 2 ≤ d := by
                rcases d with _ | _ | d
                · simp at hd; omega
                · exact absurd rfl d1
                · omega
              obtain ⟨r, hr, t, ht⟩ := exists_pr hd2
              have hrk : k ≤ r := Nat.le_of_not_lt fun z => kl r hr z ⟨p * t, by rw [hd, ht]; grind⟩
              have ht0 : 0 < t := Nat.pos_of_ne_zero fun z => by subst z; simp at ht; omega
              have h5 : r ≤ d := by rw [ht]; exact Nat.le_mul_of_pos_right r ht0
              have := Nat.mul_le_mul hpk (Nat.le_trans hrk h5)
              omega
          exact ⟨hp, Nat.dvd_refl n, fun q hq hl hd => by
            have := hp.2 q hd
            have := hq.1
            omega⟩
      · have := hq.1
        have : q = 2 := by omega
        subst this
        exact h2 (Nat.mod_eq_zero_of_dvd hd)
  unfold p_first_divisor
  generalize q : semS { tab := [] } [] ir_first_divisor [some (.int n), none] [] = o at key
  cases o <;> first | exact key.elim | skip
  obtain ⟨p, rfl, r⟩ := key
  exact ⟨p, p_rt _ q, r⟩
/-! ### factors -/
theorem div_step {p m : Nat} (hp : Pr p) (hm : 0 < m) (hd : p ∣ m) : 0 < m / p ∧ m / p < m ∧ vp p m = vp p (m / p) + 1 ∧ (∀ q, Pr q → q ≠ p → (q ∣ m / p ↔ q ∣ m) ∧ vp q (m / p) = vp q m) := by
  obtain ⟨k, rfl⟩ := hd
  have hk : 0 < k := Nat.pos_of_ne_zero fun z => by subst z; simp at hm
  rw [Nat.mul_div_cancel_left k hp.pos]
  refine ⟨hk, ?_, vp_mul hp.1 hk, fun q hq hne => ⟨⟨fun h => Nat.dvd_trans h (Nat.dvd_mul_left k p), fun h => ?_⟩, (vp_other hq hp hne k hk).symm⟩⟩
  · have := Nat.mul_le_mul_right k hp.1
    omega
  · rcases hq.mul h with z | z
    · exact absurd (hq.eq hp z) hne
    · exact z
structure FacI (n m : Nat) (L : List (Nat × Nat)) : Prop where
  pos : 0 < m
  le : m ≤ n
  asc : L.Pairwise fun a b => a.1 < b.1
  ok : ∀ t ∈ L, Pr t.1 ∧ t.2 = vp t.1 n ∧ 0 < t.2 ∧ ¬ t.1 ∣ m
  vps : ∀ q, Pr q → (∀ t ∈ L, t.1 ≠ q) → vp q m = vp q n
  gt : ∀ t ∈ L, ∀ q, Pr q → q ∣ m → t.1 < q
abbrev encF (L : List (Nat × Nat)) : List D := L.map fun t => D.tup [.int (t.1 : Nat), .int (t.2 : Nat)]
theorem ev_factors {n : Nat} (h : 1 ≤ n) (ln : n < 2 ^ 60) : ∃ L, p_factors [.int n] = .ok (.tup (encF L)) ∧ FacI n 1 L ∧ L.length < 60 := by
  have key : Ends (semS { tab := [liftP p_first_divisor] } [] ir_factors [some (.int n), none, none, none] []) (fun _ _ => False) (fun d _ => ∃ L, d = .tup (encF L) ∧ FacI n 1 L ∧ L.length < 60) := by
    unfold ir_factors
    refine ends_step (e := [some (.int n), some (.ref 0), none, none]) (h' := [.lst []]) (by simp (disch := first | omega | (simp; done) | fail) [ir_factors_0, semS, semE, semA, semN, semO, semI, exS, bnd, optM, pur, setTg, seqM, lsM, binM, binL, augM, biM, bnM, cmpM, cmpI, ltM, leM, inM, eqF, flatD, isM, Cl.isNon, truM, intM, idxM, slcM, lenM, lstAt, Cl.putAt, isaM, tyM, tyName, lsrcM, srcM, calmly, depOk_nil, sizeLine_eq, wipeE, gmul_r, gmul_l, gdiv, gmod, gmod', fdiv_pos, fmod_pos, grg, grg2, gsz, atI_pos]) ?_
    refine ends_seq ?_
    unfold ir_factors_1
    refine ends_whl (fun _ _ => rfl) (fun m e h => ∃ o2 o3 L, h = [.lst (encF L)] ∧ e = [some (.int m), some (.ref 0), o2, o3] ∧ 2 ^ L.length * m ≤ n ∧ FacI n m L) ?_ n ⟨none, none, [], rfl, rfl, by simp, h, Nat.le_refl n, List.Pairwise.nil, by simp, fun _ _ _ => rfl, by simp⟩
    rintro m e hc ⟨o2, o3, L, rfl, rfl, hlen, hI⟩
    have hm0 := hI.pos
    have hmn := hI.le
    by_cases c : 1 < m
    · have ci : (1 : Int) < m := by exact_mod_cast c
      refine .inr ⟨[.lst (encF L)], by simp (disch := first | omega | (simp; done) | fail) [semS, semE, semA, semN, semO, semI, exS, bnd, optM, pur, setTg, seqM, lsM, binM, binL, augM, biM, bnM, cmpM, cmpI, ltM, leM, inM, eqF, flatD, isM, Cl.isNon, truM, intM, idxM, slcM, lenM, lstAt, Cl.putAt, isaM, tyM, tyName, lsrcM, srcM, calmly, depOk_nil, sizeLine_eq, wipeE, gmul_r, gmul_l, gdiv, gmod, gmod', fdiv_pos, fmod_pos, grg, grg2, gsz, atI_pos, ci], ?_⟩
      obtain ⟨p, ep, hp, hpd, hpl⟩ := ev_first_divisor (n := m) c (by omega)
      refine Ends.toB ?_
      unfold ir_factors_b1
      refine ends_step (e := [some (.int m), some (.ref 0), some (.int p), some (.int 0)]) (h' := [.lst (encF L)]) (by simp (disch := first | omega | (simp; done) | fail) [semS, semE, semA, semN, semO, semI, exS, bnd, optM, pur, setTg, seqM, lsM, binM, binL, augM, biM, bnM, cmpM, cmpI, ltM, leM, inM, eqF, flatD, isM, Cl.isNon, truM, intM, idxM, slcM, lenM, lstAt, Cl.putAt, isaM, tyM, tyName, lsrcM, srcM, calmly, depOk_nil, sizeLine_eq, wipeE, gmul_r, gmul_l, gdiv, gmod, gmod', fdiv_pos, fmod_pos, grg, grg2, gsz, atI_pos, liftP, noRefL, noRef, ep]) ?_
      refine ends_seq ?_
      have p2 := hp.1
      have pm := Nat.le_of_dvd hm0 hpd
      refine ends_whl (N := fun e h => Ends _ _ _) (fun _ _ => rfl) (fun k e h => ∃ many : Nat, h = [.lst (encF L)] ∧ e = [some (.int k), some (.ref 0), some (.int p), some (.int many)] ∧ 0 < k ∧ k ≤ m ∧ (0 < many → 2 * k ≤ m) ∧ vp p k + many = vp p m ∧ (∀ q, Pr q → q ≠ p → (q ∣ k ↔ q ∣ m) ∧ vp q k = vp q m)) ?_ m ⟨0, rfl, rfl, hm0, Nat.le_refl m, by simp, rfl, fun q hq hne => ⟨Iff.rfl, rfl⟩⟩
      rintro k e hc ⟨many, rfl, rfl, hk0, hkm, hmk, hv, ho⟩
      by_cases d : k % p = 0
      · have di : (k : Int) % p = 0 := by exact_mod_cast d
        obtain ⟨g1, g2, g3, g4⟩ := div_step hp hk0 (Nat.dvd_of_mod_eq_zero d)
        refine .inr ⟨[.lst (encF L)], by simp (disch := first | omega | (simp; done) | fail) [semS, semE, semA, semN, semO, semI, exS, bnd, optM, pur, setTg, seqM, lsM, binM, binL, augM, biM, bnM, cmpM, cmpI, ltM, leM, inM, eqF, flatD, isM, Cl.isNon, truM, intM, idxM, slcM, lenM, lstAt, Cl.putAt, isaM, tyM, tyName, lsrcM, srcM, calmly, depOk_nil, sizeLine_eq, wipeE, gmul_r, gmul_l, gdiv, gmod, gmod', fdiv_pos, fmod_pos, grg, grg2, gsz, atI_pos, di], ?_⟩
        refine Ends.toB (ends_nx (e := [some (.int (k / p : Nat)), some (.ref 0), some (.int p), some (.int (many + 1 : Nat))]) (h := [.lst (encF L)]) (by simp (disch := first | omega | (simp; done) | fail) [ir_factors_b0, semS, semE, semA, semN, semO, semI, exS, bnd, optM, pur, setTg, seqM, lsM, binM, binL, augM, biM, bnM, cmpM, cmpI, ltM, leM, inM, eqF, flatD, isM, Cl.isNon, truM, intM, idxM, slcM, lenM, lstAt, Cl.putAt, isaM, tyM, tyName, lsrcM, srcM, calmly, depOk_nil, sizeLine_eq, wipeE, gmul_r, gmul_l, gdiv, gmod, gmod', fdiv_pos, fmod_pos, grg, grg2, gsz, atI_pos]) ⟨k / p, g2, many + 1, rfl, rfl, g1, by omega, fun _ => by have := Nat.div_mul_le_self k p; have := Nat.mul_le_mul_left (k / p) p2; omega, by omega, fun q hq hne => ⟨(g4 q hq hne).1.trans (ho q hq hne).1, (g4 q hq hne).2.trans (ho q hq hne).2⟩⟩)
      · have di : ¬ (k : Int) % p = 0 := fun z => d (by exact_mod_cast z)
        have hpk : ¬ p ∣ k := fun z => d (Nat.mod_eq_zero_of_dvd z)
        rw [vp_zero hpk, Nat.zero_add] at hv
        have hm1 := vp_pos hp.1 hm0 hpd
        refine .inl ⟨[.lst (encF L)], by simp (disch := first | omega | (simp; done) | fail) [semS, semE, semA, semN, semO, semI, exS, bnd, optM, pur, setTg, seqM, lsM, binM, binL, augM, biM, bnM, cmpM, cmpI, ltM, leM, inM, eqF, flatD, isM, Cl.isNon, truM, intM, idxM, slcM, lenM, lstAt, Cl.putAt, isaM, tyM, tyName, lsrcM, srcM, calmly, depOk_nil, sizeLine_eq, wipeE, gmul_r, gmul_l, gdiv, gmod, gmod', fdiv_pos, fmod_pos, grg, grg2, gsz, atI_pos, di], ?_⟩
        have hne : ∀ t ∈ L, t.1 ≠ p := fun t ht z => (hI.ok t ht).2.2.2 (z ▸ hpd)
        have hvn := hI.vps p hp hne
        have hk2 := hmk (by omega)
        have hlen2 : 2 ^ (L ++ [(p, many)]).length * k ≤ n := by
          rw [List.length_append, List.length_singleton, Nat.pow_succ, Nat.mul_assoc]
          exact Nat.le_trans (Nat.mul_le_mul_left _ hk2) hlen
        have hll : L.length < 60 := by
          have h1 : 2 ^ L.length ≤ 2 ^ L.length * m := Nat.le_mul_of_pos_right _ hm0
          exact (Nat.pow_lt_pow_iff_right (by decide)).mp (show 2 ^ L.length < 2 ^ 60 by omega)
        refine ends_nx (e := [some (.int k), some (.ref 0), some (.int p), some (.int many)]) (h := [.lst (encF (L ++ [(p, many)]))]) (by
          have q : ∀ m : M Unit, Cl.guard (L.length < 16777216) m = m := fun m => gle (by omega)
          simp (disch := first | omega | (simp; done) | fail) [semS, semE, semA, semN, semO, semI, exS, bnd, optM, pur, setTg, seqM, lsM, binM, binL, augM, biM, bnM, cmpM, cmpI, ltM, leM, inM, eqF, flatD, isM, Cl.isNon, truM, intM, idxM, slcM, lenM, lstAt, Cl.putAt, isaM, tyM, tyName, lsrcM, srcM, calmly, depOk_nil, sizeLine_eq, wipeE, gmul_r, gmul_l, gdiv, gmod, gmod', fdiv_pos, fmod_pos, grg, grg2, gsz, atI_pos, encF, q]) ⟨k, by omega, some (.int p), some (.int many), L ++ [(p, many)], rfl, rfl, hlen2, ?_⟩
        refine ⟨hk0, by omega, ?_, ?_, ?_, ?_⟩
        · rw [List.pairwise_append]
          refine ⟨hI.asc, by simp, fun a ha b hb => ?_⟩
          rw [List.mem_singleton] at hb; subst hb
          exact hI.gt a ha p hp hpd
        · intro t ht
          rcases List.mem_append.mp ht with ht | ht
          · obtain ⟨a1, a2, a3, a4⟩ := hI.ok t ht
            exact ⟨a1, a2, a3, fun z => a4 (((ho t.1 a1 (hne t ht)).1).mp z)⟩
          · rw [List.mem_singleton] at ht; subst ht
            exact ⟨hp, by dsimp only; omega, by dsimp only; omega, hpk⟩
        · intro q hq hnq
          have hqp : q ≠ p := fun z => hnq (p, many) (by simp) z.symm
          rw [(ho q hq hqp).2]
          exact hI.vps q hq fun t ht => hnq t (List.mem_append_left _ ht)
        · intro t ht q hq hqk
          have hqp : q ≠ p := fun z => by subst z; exact hpk hqk
          have hqm := ((ho q hq hqp).1).mp hqk
          rcases List.mem_append.mp ht with ht | ht
          · exact hI.gt t ht q hq hqm
          · rw [List.mem_singleton] at ht; subst ht
            rcases Nat.lt_trichotomy q p with z | z | z
            · exact absurd hqm (hpl q hq z)
            · exact absurd z hqp
            · exact z
    · have ci : ¬ (1 : Int) < m := fun z => c (by exact_mod_cast z)
      refine .inl ⟨[.lst (encF L)], by simp (disch := first | omega | (simp; done) | fail) [semS, semE, semA, semN, semO, semI, exS, bnd, optM, pur, setTg, seqM, lsM, binM, binL, augM, biM, bnM, cmpM, cmpI, ltM, leM, inM, eqF, flatD, isM, Cl.isNon, truM, intM, idxM, slcM, lenM, lstAt, Cl.putAt, isaM, tyM, tyName, lsrcM, srcM, calmly, depOk_nil, sizeLine_eq, wipeE, gmul_r, gmul_l, gdiv, gmod, gmod', fdiv_pos, fmod_pos, grg, grg2, gsz, atI_pos, ci], ?_⟩
      have m1 : m = 1 := by omega
      subst m1
      refine ends_seq (ends_rt (d := .tup (encF L)) (h := [.lst (encF L)]) (by simp [ir_factors_2, semS, semE, semA, semN, semO, semI, exS, bnd, optM, pur, setTg, seqM, lsM, binM, binL, augM, biM, bnM, cmpM, cmpI, ltM, leM, inM, eqF, flatD, isM, Cl.isNon, truM, intM, idxM, slcM, lenM, lstAt, Cl.putAt, isaM, tyM, tyName, lsrcM, srcM, calmly, depOk_nil, sizeLine_eq, wipeE]) ⟨L, rfl, hI, (Nat.pow_lt_pow_iff_right (show 1 < 2 by decide)).mp (show 2 ^ L.length < 2 ^ 60 by omega)⟩)
  unfold p_factors
  generalize q : semS { tab := [liftP p_first_divisor] } [] ir_factors [some (.int n), none, none, none] [] = o at key
  cases o <;> first | exact key.elim | skip
  obtain ⟨L, rfl, r⟩ := key
  exact ⟨L, p_rt _ q (noRefL_map (fun _ => rfl) L), r⟩
end Cl
/-! Sums of two squares: plain. -/
namespace Mth
theorem filter_erase_len {α : Type} [DecidableEq α] (p : α → Bool) {t : List α} {b : α} (hb : b ∈ t) (hp : p b = false) : ((t.erase b).filter p).length = (t.filter p).length := by
  have h := (List.perm_cons_erase hb).filter p
  rw [h.length_eq, List.filter_cons]
  simp [hp]
/-- an involution's fixed points -/
theorem inv_parity {α : Type} [DecidableEq α] (f : α → α) : ∀ (n : Nat) (l : List α), l.length = n → l.Nodup → (∀ a ∈ l, f a ∈ l) → (∀ a ∈ l, f (f a) = a) → (l.filter (fun a => decide (f a = a))).length % 2 = l.length % 2 := by
  intro n
  induction n using Nat.strongRecOn with
  | ind n ih =>
    intro l hl nd hf hff
    cases l with
    | nil => rfl
    | cons a t =>
      rw [List.nodup_cons] at nd
      simp only [List.length_cons] at hl
      by_cases hfa : f a = a
      · have h1 := ih t.length (by omega) t rfl nd.2 (fun b hb => by
          rcases List.mem_cons.mp (hf b (List.mem_cons_of_mem _ hb)) with e | e
          · have := hff b (List.mem_cons_of_mem _ hb)
            rw [e, hfa] at this
            exact absurd (this ▸ hb) nd.1
          · exact e) (fun b hb => hff b (List.mem_cons_of_mem _ hb))
        rw [List.filter_cons]
        simp only [hfa, decide_true, if_true, List.length_cons]
        omega
      · have hm : f a ∈ t := by
          rcases List.mem_cons.mp (hf a List.mem_cons_self) with e | e
          · exact absurd e hfa
          · exact e
        have hfin : decide (f (f a) = f a) = false := by
          rw [hff a List.mem_cons_self]
          exact decide_eq_false fun z => hfa z.symm
        have hlen : (t.erase (f a)).length = t.length - 1 := List.length_erase_of_mem hm
        have htpos : 0 < t.length := List.length_pos_of_mem hm
        have h1 := ih (t.erase (f a)).length (by omega) (t.erase (f a)) rfl (nd.2.erase _) (fun b hb => by
          have hbt := List.mem_of_mem_erase hb
          have hbn : b ≠ f a := fun z => by subst z; exact (List.Nodup.not_mem_erase nd.2) hb
          rcases List.mem_cons.mp (hf b (List.mem_cons_of_mem _ hbt)) with e | e
          · have := hff b (List.mem_cons_of_mem _ hbt)
            rw [e] at this
            exact absurd this.symm hbn
          · refine (List.mem_erase_of_ne fun z => ?_).mpr e
            have q1 := hff b (List.mem_cons_of_mem _ hbt)
            rw [z, hff a List.mem_cons_self] at q1
            subst q1
            exact nd.1 hbt) (fun b hb => hff b (List.mem_cons_of_mem _ (List.mem_of_mem_erase hb)))
        rw [filter_erase_len _ hm hfin] at h1
        rw [List.filter_cons]
        simp only [hfa, decide_false, Bool.false_eq_true, if_false, List.length_cons]
        omega
/-! ### Zagier -/
def zs (p : Nat) : List (Nat × Nat × Nat) := ((List.range (p + 1)).flatMap fun x => (List.range (p + 1)).flatMap fun y => (List.range (p + 1)).map fun z => (x, y, z)).filter fun t => decide (t.1 * t.1 + 4 * (t.2.1 * t.2.2) = p)
theorem nodup_pairs {α β : Type} {l : List α} {g : α → List β} {h : β → α} (nd : l.Nodup) (ng : ∀ a ∈ l, (g a).Nodup) (hh : ∀ a ∈ l, ∀ b ∈ g a, h b = a) : (l.flatMap g).Nodup := by
  induction l with
  | nil => simp
  | cons a l ih =>
    rw [List.nodup_cons] at nd
    rw [List.flatMap_cons, List.nodup_append]
    refine ⟨ng a List.mem_cons_self, ih nd.2 (fun b hb => ng b (List.mem_cons_of_mem _ hb)) (fun b hb => hh b (List.mem_cons_of_mem _ hb)), ?_⟩
    intro b hb c hc e
    subst e
    obtain ⟨a', ha', hb'⟩ := List.mem_flatMap.mp hc
    have e1 := hh a List.mem_cons_self b hb
    have e2 := hh a' (List.mem_cons_of_mem _ ha') b hb'
    rw [← e1, e2] at nd
    exact nd.1 ha'
theorem zs_nodup (p : Nat) : (zs p).Nodup := by
  unfold zs
  refine List.Nodup.sublist List.filter_sublist ?_
  refine nodup_pairs (h := fun t => t.1) List.nodup_range (fun x _ => nodup_pairs (h := fun t => t.2.1) List.nodup_range (fun y _ => ?_) ?_) ?_
  · rw [List.nodup_iff_pairwise_ne, List.pairwise_map]
    refine List.Pairwise.imp ?_ (List.nodup_iff_pairwise_ne.mp List.nodup_range)
    intro a b h e
    simp at e
    exact h e
  · intro y _ b hb
    obtain ⟨z, _, rfl⟩ := List.mem_map.mp hb
    rfl
  · intro x _ b hb
    obtain ⟨y, _, hb2⟩ := List.mem_flatMap.mp hb
    obtain ⟨z, _, rfl⟩ := List.mem_map.mp hb2
    rfl
theorem not_sq {p : Nat} (hp : Pr p) (x : Nat) : x * x ≠ p := fun e => by
  have h2 := hp.1
  rcases hp.2 x ⟨x, e.symm⟩ with h | h
  · subst h; omega
  · rw [h] at e
    have : p * 2 ≤ p * p := Nat.mul_le_mul_left p h2
    omega
/-- what a triple is -/
theorem zs_pos {p : Nat} (hp : Pr p) (h4 : p % 4 = 1) {x y z : Nat} (e : x * x + 4 * (y * z) = p) : 0 < x ∧ 0 < y ∧ 0 < z := by
  refine ⟨Nat.pos_of_ne_zero fun h => ?_, Nat.pos_of_ne_zero fun h => ?_, Nat.pos_of_ne_zero fun h => ?_⟩
  · subst h; omega
  · subst h; exact not_sq hp x (by omega)
  · subst h; exact not_sq hp x (by omega)
theorem zs_mem {p : Nat} (hp : Pr p) (h4 : p % 4 = 1) {x y z : Nat} : (x, y, z) ∈ zs p ↔ x * x + 4 * (y * z) = p := by
  unfold zs
  simp only [List.mem_filter, List.mem_flatMap, List.mem_map, List.mem_range, decide_eq_true_eq]
  constructor
  · exact fun h => h.2
  · intro e
    obtain ⟨hx, hy, hz⟩ := zs_pos hp h4 e
    refine ⟨⟨x, ?_, y, ?_, z, ?_, rfl⟩, e⟩
    · have := Nat.le_mul_of_pos_right x hx; omega
    · have := Nat.le_mul_of_pos_right y hz; omega
    · have := Nat.le_mul_of_pos_left z hy; omega
def zag : Nat × Nat × Nat → Nat × Nat × Nat
  | (x, y, z) => if x + z < y then (x + 2 * z, z, y - x - z) else if x < 2 * y then (2 * y - x, y, x + z - y) else (x - 2 * y, x + z - y, y)
theorem zag_on {p : Nat} (hp : Pr p) (h4 : p % 4 = 1) {x y z : Nat} (e : x * x + 4 * (y * z) = p) : (zag (x, y, z)).1 * (zag (x, y, z)).1 + 4 * ((zag (x, y, z)).2.1 * (zag (x, y, z)).2.2) = p ∧ zag (zag (x, y, z)) = (x, y, z) := by
  obtain ⟨hx, hy, hz⟩ := zs_pos hp h4 e
  by_cases c1 : x + z < y
  · obtain ⟨w, hw⟩ : ∃ w, y = x + z + w := ⟨y - x - z, by omega⟩
    have hw0 : 0 < w := by omega
    have e1 : zag (x, y, z) = (x + 2 * z, z, w) := by
      simp only [zag, if_pos c1]
      rw [show y - x - z = w by omega]
    rw [e1]
    refine ⟨by dsimp only; subst hw; grind, ?_⟩
    simp only [zag]
    rw [if_neg (by omega), if_neg (by omega)]
    simp only [Prod.mk.injEq]
    refine ⟨?_, ?_, ?_⟩ <;> first | trivial | omega
  · by_cases c2 : x < 2 * y
    · have hs : x + z ≠ y := fun q => by
        subst q
        exact not_sq hp (x + 2 * z) (by grind)
      obtain ⟨u, hu⟩ : ∃ u, x + u = 2 * y := ⟨2 * y - x, by omega⟩
      obtain ⟨v, hv⟩ : ∃ v, x + z = y + v := ⟨x + z - y, by omega⟩
      have e1 : zag (x, y, z) = (u, y, v) := by
        simp only [zag, if_neg c1, if_pos c2]
        rw [show 2 * y - x = u by omega, show x + z - y = v by omega]
      rw [e1]
      refine ⟨?_, ?_⟩
      · dsimp only
        have hu' : (u : Int) = 2 * y - x := by omega
        have hv' : (v : Int) = x + z - y := by omega
        have e' : (x : Int) * x + 4 * (y * z) = p := by exact_mod_cast e
        have : (u : Int) * u + 4 * (y * v) = p := by rw [hu', hv']; grind
        exact_mod_cast this
      · simp only [zag]
        rw [if_neg (by omega), if_pos (by omega)]
        simp only [Prod.mk.injEq]
        refine ⟨?_, ?_, ?_⟩ <;> first | trivial | omega
    · have hne : x ≠ 2 * y := fun q => by
        subst q
        have : (2 * y * (2 * y) + 4 * (y * z)) % 4 = 0 := by
          rw [show 2 * y * (2 * y) + 4 * (y * z) = 4 * (y * y + y * z) by grind]
          exact Nat.mul_mod_right 4 _
        omega
      obtain ⟨u, hu⟩ : ∃ u, x = 2 * y + u := ⟨x - 2 * y, by omega⟩
      have e1 : zag (x, y, z) = (u, y + u + z, y) := by
        simp only [zag, if_neg c1, if_neg c2]
        rw [show x - 2 * y = u by omega, show x + z - y = y + u + z by omega]
      rw [e1]
      refine ⟨by dsimp only; subst hu; grind, ?_⟩
      simp only [zag]
      rw [if_pos (by omega)]
      simp only [Prod.mk.injEq]
      refine ⟨?_, ?_, ?_⟩ <;> first | trivial | omega
theorem zag_fix {p : Nat} (hp : Pr p) (h4 : p % 4 = 1) {x y z : Nat} (e : x * x + 4 * (y * z) = p) : zag (x, y, z) = (x, y, z) ↔ (x, y, z) = (1, 1, p / 4) := by
  obtain ⟨hx, hy, hz⟩ := zs_pos hp h4 e
  constructor
  · intro h
    simp only [zag] at h
    split at h
    · simp only [Prod.mk.injEq] at h; omega
    · split at h
      · simp only [Prod.mk.injEq] at h
        have hxy : x = y := by omega
        subst hxy
        have hd : x ∣ p := ⟨x + 4 * z, by grind⟩
        rcases hp.2 x hd with h1 | h1
        · subst h1
          simp only [Prod.mk.injEq, true_and]
          omega
        · have : x * 1 ≤ x * x := Nat.mul_le_mul_left x hx
          have : 0 < x * z := Nat.mul_pos hx hz
          omega
      · simp only [Prod.mk.injEq] at h; omega
  · intro h
    simp only [Prod.mk.injEq] at h
    obtain ⟨rfl, rfl, rfl⟩ := h
    simp only [zag]
    rw [if_neg (by omega), if_pos (by omega)]
    simp only [Prod.mk.injEq]
    refine ⟨?_, ?_, ?_⟩ <;> first | trivial | omega
theorem nodup_filter_one {α : Type} {l : List α} (nd : l.Nodup) {q : α → Bool} {a : α} (ha : a ∈ l) (h : ∀ b ∈ l, q b = true ↔ b = a) : (l.filter q).length = 1 := by
  have nd2 : (l.filter q).Nodup := List.Nodup.sublist List.filter_sublist nd
  have hm : ∀ b, b ∈ l.filter q ↔ b = a := fun b => by
    rw [List.mem_filter]
    constructor
    · exact fun x => (h b x.1).mp x.2
    · rintro rfl; exact ⟨ha, (h b ha).mpr rfl⟩
  generalize l.filter q = m at nd2 hm
  cases m with
  | nil => exact absurd ((hm a).mpr rfl) List.not_mem_nil
  | cons b m =>
    cases m with
    | nil => rfl
    | cons c m =>
      have e1 := (hm b).mp List.mem_cons_self
      have e2 := (hm c).mp (List.mem_cons_of_mem _ List.mem_cons_self)
      rw [e1, e2, List.nodup_cons] at nd2
      exact absurd List.mem_cons_self nd2.1
def Sq2 (n : Nat) : Prop := ∃ x y : Nat, x * x + y * y = n
/-- Fermat -/
theorem sq2_prime {p : Nat} (hp : Pr p) (h4 : p % 4 = 1) : Sq2 p := by
  have nd := zs_nodup p
  have h1 := inv_parity zag _ (zs p) rfl nd (fun t ht => by
    obtain ⟨x, y, z⟩ := t
    exact (zs_mem hp h4).mpr (zag_on hp h4 ((zs_mem hp h4).mp ht)).1) (fun t ht => by
    obtain ⟨x, y, z⟩ := t
    exact (zag_on hp h4 ((zs_mem hp h4).mp ht)).2)
  have hone : (1, 1, p / 4) ∈ zs p := (zs_mem hp h4).mpr (by omega)
  rw [nodup_filter_one nd hone (fun t ht => by
    obtain ⟨x, y, z⟩ := t
    rw [decide_eq_true_eq]
    exact zag_fix hp h4 ((zs_mem hp h4).mp ht))] at h1
  have h2 := inv_parity (fun t : Nat × Nat × Nat => (t.1, t.2.2, t.2.1)) _ (zs p) rfl nd (fun t ht => by
    obtain ⟨x, y, z⟩ := t
    have := (zs_mem hp h4).mp ht
    exact (zs_mem hp h4).mpr (by rw [Nat.mul_comm z y]; exact this)) (fun t ht => rfl)
  have h3 : ((zs p).filter (fun t => decide ((t.1, t.2.2, t.2.1) = t))).length % 2 = 1 := by omega
  cases hz : (zs p).filter (fun t => decide ((t.1, t.2.2, t.2.1) = t)) with
  | nil => rw [hz] at h3; simp at h3
  | cons t r =>
    have ht : t ∈ (zs p).filter (fun t => decide ((t.1, t.2.2, t.2.1) = t)) := by rw [hz]; exact List.mem_cons_self
    rw [List.mem_filter, decide_eq_true_eq] at ht
    obtain ⟨x, y, z⟩ := t
    obtain ⟨h5, h6⟩ := ht
    have h7 := (zs_mem hp h4).mp h5
    simp only [Prod.mk.injEq] at h6
    obtain ⟨_, h8, _⟩ := h6
    subst h8
    exact ⟨x, 2 * z, by grind⟩
theorem sq2_mul {m n : Nat} (hm : Sq2 m) (hn : Sq2 n) : Sq2 (m * n) := by
  obtain ⟨a, b, rfl⟩ := hm
  obtain ⟨c, d, rfl⟩ := hn
  refine ⟨a * c + b * d, (a * d - b * c) + (b * c - a * d), ?_⟩
  rcases Nat.le_total (a * d) (b * c) with h | h
  · rw [Nat.sub_eq_zero_of_le h, Nat.zero_add]
    obtain ⟨t, ht⟩ := Nat.le.dest h
    rw [show b * c - a * d = t by omega]
    grind
  · rw [Nat.sub_eq_zero_of_le h, Nat.add_zero]
    obtain ⟨t, ht⟩ := Nat.le.dest h
    rw [show a * d - b * c = t by omega]
    grind
end Mth
/-! Which numbers are sums of two squares: plain. -/
namespace Mth
/-- a number that leaves 3 by 4 has such a prime -/
theorem three_prime : ∀ n : Nat, n % 4 = 3 → ∃ q, Pr q ∧ q % 4 = 3 ∧ q ∣ n := by
  intro n
  induction n using Nat.strongRecOn with
  | ind n ih =>
    intro h
    obtain ⟨p, hp, d, rfl⟩ := exists_pr (n := n) (by omega)
    by_cases h3 : p % 4 = 3
    · exact ⟨p, hp, h3, Nat.dvd_mul_right p d⟩
    · have h2 := hp.1
      have hm : p * d % 4 = (p % 4) * (d % 4) % 4 := Nat.mul_mod p d 4
      have hp4 : p % 4 < 4 := Nat.mod_lt _ (by decide)
      have hd4 : d % 4 < 4 := Nat.mod_lt _ (by decide)
      have hp1 : p % 4 = 1 ∧ d % 4 = 3 := by
        rcases (show p % 4 = 0 ∨ p % 4 = 1 ∨ p % 4 = 2 by omega) with e | e | e <;> rw [e] at hm <;> omega
      have hlt : d < p * d := by
        have := Nat.mul_le_mul_right d h2
        omega
      obtain ⟨q, hq, h4, hd⟩ := ih d hlt hp1.2
      exact ⟨q, hq, h4, Nat.dvd_trans hd (Nat.dvd_mul_left d p)⟩
theorem sq_mod4 (x : Nat) : x * x % 4 = x % 2 := by
  have : x * x % 4 = (x % 4) * (x % 4) % 4 := Nat.mul_mod x x 4
  rcases (show x % 4 = 0 ∨ x % 4 = 1 ∨ x % 4 = 2 ∨ x % 4 = 3 by omega) with e | e | e | e <;> rw [e] at this <;> omega
theorem sq_mod8 {x : Nat} (h : x % 2 = 1) : x * x % 8 = 1 := by
  have : x * x % 8 = (x % 8) * (x % 8) % 8 := Nat.mul_mod x x 8
  rcases (show x % 8 = 1 ∨ x % 8 = 3 ∨ x % 8 = 5 ∨ x % 8 = 7 by omega) with e | e | e | e <;> rw [e] at this <;> omega
theorem int_dvd_add {p a b : Int} : p ∣ a + p * b ↔ p ∣ a := Int.dvd_add_left (Int.dvd_mul_right p b)
/-- the lesser of what x leaves by p and what is lacking -/
theorem small_rest {p : Nat} (hp : 0 < p) (x : Nat) : ∃ a, 2 * a ≤ p ∧ (p ∣ a ↔ p ∣ x) ∧ ∀ c, p ∣ a * a + c ↔ p ∣ x * x + c := by
  have hm := Nat.mod_add_div x p
  have hl := Nat.mod_lt x hp
  have fin : ∀ (a : Nat) (s k : Int), (s = 1 ∨ s = -1) → (x : Int) = s * a + p * k → (p ∣ a ↔ p ∣ x) ∧ ∀ c, p ∣ a * a + c ↔ p ∣ x * x + c := by
    intro a s k hs hx
    refine ⟨?_, fun c => ?_⟩
    · rw [← Int.natCast_dvd_natCast, ← Int.natCast_dvd_natCast, hx, int_dvd_add]
      rcases hs with rfl | rfl
      · rw [Int.one_mul]
      · rw [Int.neg_mul, Int.one_mul, Int.dvd_neg]
    · rw [← Int.natCast_dvd_natCast, ← Int.natCast_dvd_natCast]
      have e : ((x * x + c : Nat) : Int) = ((a * a + c : Nat) : Int) + p * (k * (2 * s * a + p * k)) := by
        push_cast
        rw [hx]
        rcases hs with rfl | rfl <;> grind
      rw [e, int_dvd_add]
  by_cases h : 2 * (x % p) ≤ p
  · exact ⟨x % p, h, fin (x % p) 1 (x / p : Nat) (.inl rfl) (by exact_mod_cast (by omega : x = 1 * (x % p) + p * (x / p)))⟩
  · refine ⟨p - x % p, by omega, fin (p - x % p) (-1) ((x / p : Nat) + 1) (.inr rfl) ?_⟩
    have h1 : ((p - x % p : Nat) : Int) = (p : Int) - (x % p : Nat) := by omega
    have h2 : (x : Int) = (x % p : Nat) + (p : Int) * (x / p : Nat) := by exact_mod_cast hm.symm
    rw [h1]
    grind
theorem help1 {A B P m a b : Nat} (h : A + B = P) (m4 : A % 4 = a % 2) (n4 : B % 4 = b % 2) (hm : P % 4 = 3 * (m % 4) % 4) (par : a % 2 + b % 2 = 1) : m % 4 = 3 := by omega
theorem help2 {A B P m : Nat} (h : A + B = P) (e1 : A % 8 = 1) (e2 : B % 8 = 1) (hm : P % 4 = 3 * (m % 4) % 4) : m % 2 = 0 ∧ P % 8 = 2 := by omega
theorem help3 {P Q k : Nat} (h : P = 2 * Q) (h2 : P % 8 = 2) (hk : Q % 4 = 3 * (k % 4) % 4) : k % 4 = 3 := by omega
/-- a prime that leaves 3 by 4 divides both -/
theorem three_divides : ∀ p : Nat, Pr p → p % 4 = 3 → ∀ x y : Nat, p ∣ x * x + y * y → p ∣ x ∧ p ∣ y := by
  intro p
  induction p using Nat.strongRecOn with
  | ind p ih =>
    intro hp h4 x y hd
    have hp0 := hp.pos
    obtain ⟨a, ha, ia, ja⟩ := small_rest hp0 x
    obtain ⟨b, hb, ib, jb⟩ := small_rest hp0 y
    rw [← ia, ← ib]
    have hd2 : p ∣ a * a + b * b := by
      rw [ja, Nat.add_comm, jb, Nat.add_comm]
      exact hd
    by_cases ha0 : a = 0
    · subst ha0
      rw [Nat.zero_mul, Nat.zero_add] at hd2
      exact ⟨Nat.dvd_zero p, (hp.mul hd2).elim id id⟩
    · exfalso
      have hg0 : 0 < Nat.gcd a b := Nat.gcd_pos_of_pos_left _ (by omega)
      obtain ⟨a', b', hco, hea, heb⟩ : ∃ a' b', Nat.Coprime a' b' ∧ a = Nat.gcd a b * a' ∧ b = Nat.gcd a b * b' :=
        ⟨a / Nat.gcd a b, b / Nat.gcd a b, Nat.coprime_div_gcd_div_gcd hg0, (Nat.mul_div_cancel' (Nat.gcd_dvd_left a b)).symm, (Nat.mul_div_cancel' (Nat.gcd_dvd_right a b)).symm⟩
      generalize Nat.gcd a b = g at *
      have hga : g ≤ a := by
        have : g ∣ a := ⟨a', hea⟩
        exact Nat.le_of_dvd (by omega) this
      have hpg : ¬ p ∣ g := fun z => by
        have := Nat.le_of_dvd hg0 z
        omega
      have ha'a : a' ≤ a := Nat.le_of_dvd (by omega) ⟨g, by rw [hea, Nat.mul_comm]⟩
      have hb'b : b' ≤ b := by
        rw [heb]; exact Nat.le_mul_of_pos_left b' hg0
      have hd3 : p ∣ a' * a' + b' * b' := by
        have e : a * a + b * b = g * (g * (a' * a' + b' * b')) := by rw [hea, heb]; grind
        rw [e] at hd2
        rcases hp.mul hd2 with z | z
        · exact absurd z hpg
        · rcases hp.mul z with z | z
          · exact absurd z hpg
          · exact z
      obtain ⟨m, hm⟩ := hd3
      have ha1 : 0 < a' := Nat.pos_of_ne_zero fun z => by subst z; omega
      have s1 : 2 * a' ≤ p := by omega
      have s2 : 2 * b' ≤ p := by omega
      have sa : 4 * (a' * a') ≤ p * p := by
        have := Nat.mul_le_mul s1 s1
        grind
      have sb : 4 * (b' * b') ≤ p * p := by
        have := Nat.mul_le_mul s2 s2
        grind
      have hlt : m < p := by
        have h1 : 4 * (p * m) ≤ 2 * (p * p) := by rw [← hm]; omega
        rcases Nat.lt_or_ge m p with z | z
        · exact z
        · have := Nat.mul_le_mul_left p z
          have : 0 < p * p := Nat.mul_pos hp0 hp0
          omega
      have m4 := sq_mod4 a'
      have n4 := sq_mod4 b'
      have hm4 : p * m % 4 = 3 * (m % 4) % 4 := by rw [Nat.mul_mod, h4]
      have par : a' % 2 = 1 ∨ b' % 2 = 1 := by
        rcases Nat.mod_two_eq_zero_or_one a' with z | z
        · rcases Nat.mod_two_eq_zero_or_one b' with w | w
          · have : 2 ∣ 1 := by
              rw [← hco]
              exact Nat.dvd_gcd (Nat.dvd_of_mod_eq_zero z) (Nat.dvd_of_mod_eq_zero w)
            omega
          · exact .inr w
        · exact .inl z
      have key : ∃ q, Pr q ∧ q % 4 = 3 ∧ q ∣ m := by
        by_cases both : a' % 2 = 1 ∧ b' % 2 = 1
        · have e1 := sq_mod8 both.1
          have e2 := sq_mod8 both.2
          obtain ⟨hme, h2⟩ := help2 hm e1 e2 hm4
          obtain ⟨k, rfl⟩ := Nat.dvd_of_mod_eq_zero hme
          have hk4 : p * k % 4 = 3 * (k % 4) % 4 := by rw [Nat.mul_mod, h4]
          obtain ⟨q, hq, q4, qd⟩ := three_prime k (help3 (by grind) h2 hk4)
          exact ⟨q, hq, q4, Nat.dvd_trans qd (Nat.dvd_mul_left k 2)⟩
        · refine three_prime m (help1 hm m4 n4 hm4 ?_)
          rcases Nat.mod_two_eq_zero_or_one a' with z | z <;> rcases Nat.mod_two_eq_zero_or_one b' with w | w <;> rw [z, w]
          · rw [z, w] at par; simp at par
          · exact absurd ⟨z, w⟩ both
      obtain ⟨q, hq, q4, qd⟩ := key
      have hm0 : 0 < m := Nat.pos_of_ne_zero fun z => by
        subst z
        have : 0 < a' * a' := Nat.mul_pos ha1 ha1
        omega
      have hql := Nat.le_of_dvd hm0 qd
      obtain ⟨r1, r2⟩ := ih q (by omega) hq q4 a' b' (by rw [hm]; exact Nat.dvd_trans qd (Nat.dvd_mul_left m p))
      have : q ∣ 1 := by rw [← hco]; exact Nat.dvd_gcd r1 r2
      have := Nat.le_of_dvd (by decide) this
      have := hq.1
      omega
/-- an odd number of times -/
def OddP (n p : Nat) : Prop := Pr p ∧ p % 4 = 3 ∧ vp p n % 2 = 1
theorem sq2_iff : ∀ n : Nat, 0 < n → (Sq2 n ↔ ∀ p, ¬ OddP n p) := by
  intro n
  induction n using Nat.strongRecOn with
  | ind n ih =>
    intro hn
    constructor
    · rintro ⟨x, y, e⟩ p ⟨hp, h4, ho⟩
      by_cases hd : p ∣ n
      · obtain ⟨⟨x', rfl⟩, ⟨y', rfl⟩⟩ := three_divides p hp h4 x y (by rw [e]; exact hd)
        have e2 : n = p * (p * (x' * x' + y' * y')) := by rw [← e]; grind
        have hm0 : 0 < x' * x' + y' * y' := Nat.pos_of_ne_zero fun z => by rw [z] at e2; simp at e2; omega
        have hlt : x' * x' + y' * y' < n := by
          have h1 := Nat.mul_le_mul_right (x' * x' + y' * y') hp.1
          have h2 := Nat.mul_le_mul_right (p * (x' * x' + y' * y')) hp.1
          omega
        rw [e2, vp_mul hp.1 (Nat.mul_pos hp.pos hm0), vp_mul hp.1 hm0] at ho
        exact (ih _ hlt hm0).mp ⟨x', y', rfl⟩ p ⟨hp, h4, by omega⟩
      · rw [vp_zero hd] at ho; omega
    · intro h
      by_cases h1 : n = 1
      · subst h1; exact ⟨0, 1, rfl⟩
      · obtain ⟨p, hp, m, rfl⟩ := exists_pr (n := n) (by omega)
        have hm0 : 0 < m := Nat.pos_of_ne_zero fun z => by subst z; simp at hn
        have hlt : m < p * m := by
          have := Nat.mul_le_mul_right m hp.1
          omega
        by_cases h3 : p % 4 = 3
        · have hv : vp p (p * m) % 2 = 0 := by
            have := h p
            rcases Nat.mod_two_eq_zero_or_one (vp p (p * m)) with z | z
            · exact z
            · exact absurd ⟨hp, h3, z⟩ this
          rw [vp_mul hp.1 hm0] at hv
          obtain ⟨k, rfl⟩ := vp_dvd (p := p) (n := m) (by omega)
          have hk0 : 0 < k := Nat.pos_of_ne_zero fun z => by subst z; simp at hm0
          have hk : k < p * k := by
            have := Nat.mul_le_mul_right k hp.1
            omega
          obtain ⟨x, y, e⟩ := (ih k (by omega) hk0).mpr (fun q hq => by
            refine h q ⟨hq.1, hq.2.1, ?_⟩
            by_cases z : q = p
            · subst z
              rw [vp_mul hp.1 hm0, vp_mul hp.1 hk0]
              have := hq.2.2
              omega
            · rw [vp_other hq.1 hp z _ hm0, vp_other hq.1 hp z _ hk0]
              exact hq.2.2)
          exact ⟨p * x, p * y, by rw [← e]; grind⟩
        · have hp2 : Sq2 p := by
            by_cases h2 : p = 2
            · subst h2; exact ⟨1, 1, rfl⟩
            · refine sq2_prime hp ?_
              have h2' := hp.1
              rcases (show p % 4 = 0 ∨ p % 4 = 1 ∨ p % 4 = 2 by omega) with e | e | e
              · rcases hp.2 2 (Nat.dvd_of_mod_eq_zero (by omega)) with z | z <;> omega
              · exact e
              · rcases hp.2 2 (Nat.dvd_of_mod_eq_zero (by omega)) with z | z <;> omega
          refine sq2_mul hp2 ((ih m hlt hm0).mpr fun q hq => h q ⟨hq.1, hq.2.1, ?_⟩)
          have z : q ≠ p := fun z => by subst z; exact h3 hq.2.1
          rw [vp_other hq.1 hp z _ hm0]
          exact hq.2.2
end Mth
namespace Cl
open PySem PySem.Spec PyProof.Rows L2 Mth
def ir_root_under_b0 : S := (.seq (.aug 2 .Mult (.int 2)) .nop)
def ir_root_under_b1 : S := (.seq (.ite (.cmp .LtE (.bin .Mult (.bin .Add (.var 1) (.var 2)) (.bin .Add (.var 1) (.var 2))) (.var 0)) (.seq (.aug 1 .Add (.var 2)) .nop) .nop) (.seq (.aug 2 .FloorDiv (.int 2)) .nop))
def ir_root_under_4 : S := (.ret (.var 1))
def ir_root_under_3 : S := (.whl (.var 2) ir_root_under_b1)
def ir_root_under_2 : S := (.whl (.cmp .LtE (.bin .Mult (.var 2) (.var 2)) (.var 0)) ir_root_under_b0)
def ir_root_under_1 : S := (.asg (.tg (.nm 2)) (.int 1))
def ir_root_under_0 : S := (.asg (.tg (.nm 1)) (.int 0))
def ir_root_under : S := (.seq ir_root_under_0 (.seq ir_root_under_1 (.seq ir_root_under_2 (.seq ir_root_under_3 (.seq ir_root_under_4 .nop)))))
def ir_two_squares_b0 : S := (.seq (.asg (.tg (.nm 2)) (.call 0 (.cons (.bin .Sub (.var 0) (.bin .Mult (.var 1) (.var 1))) .nil))) (.seq (.ite (.cmp .Eq (.bin .Add (.bin .Mult (.var 1) (.var 1)) (.bin .Mult (.var 2) (.var 2))) (.var 0)) (.seq (.ret (.tup (.cons (.var 1) (.cons (.var 2) .nil)))) .nop) .nop) (.seq (.aug 1 .Add (.int 1)) .nop)))
def ir_two_squares_2 : S := (.ret .non)
def ir_two_squares_1 : S := (.whl (.cmp .LtE (.bin .Mult (.bin .Mult (.int 2) (.var 1)) (.var 1)) (.var 0)) ir_two_squares_b0)
def ir_two_squares_0 : S := (.asg (.tg (.nm 1)) (.int 0))
def ir_two_squares : S := (.seq ir_two_squares_0 (.seq ir_two_squares_1 (.seq ir_two_squares_2 .nop)))
def ir_odd_prime_1 : S := (.ret (.ite (.var 3) (.idx (.var 3) (.int 0)) .non))
def ir_odd_prime_0 : S := (.asg (.tg (.nm 3)) (.comp [1, 2] (.tp [1, 2]) (.call 0 (.cons (.var 0) .nil)) (.and (.cmp .Eq (.bin .Mod (.var 1) (.int 4)) (.int 3)) (.cmp .Eq (.bin .Mod (.var 2) (.int 2)) (.int 1))) (.var 1)))
def ir_odd_prime : S := (.seq ir_odd_prime_0 (.seq ir_odd_prime_1 .nop))
noncomputable def p_root_under : List D → PR := fun ds => pureOf (runF (semS { tab := [] } [] ir_root_under) 1 3 ds [])
noncomputable def p_two_squares : List D → PR := fun ds => pureOf (runF (semS { tab := [(liftP p_root_under)] } [] ir_two_squares) 1 3 ds [])
noncomputable def p_odd_prime : List D → PR := fun ds => pureOf (runF (semS { tab := [(liftP p_factors)] } [] ir_odd_prime) 1 4 ds [])

theorem ends_p {s : Env → Hc → Out} {p n : Nat} {ds : List D} {P : D → Prop} (env : Env) (x : Ends (s env []) (fun _ _ => False) (fun d _ => P d)) (hP : ∀ d, P d → noRef d = true) (hl : ds.length = p := by rfl) (he : ds.map some ++ List.replicate (n - p) none = env := by rfl) : ∃ d, pureOf (runF s p n ds []) = .ok d ∧ P d := by
  generalize q : s env [] = o at x
  cases o <;> first | exact x.elim | skip
  exact ⟨_, p_rt env q (hP _ x) hl he, x⟩
theorem ev_root {n : Nat} (ln : n < 2 ^ 60) : ∃ r : Nat, p_root_under [.int n] = .ok (.int r) ∧ r * r ≤ n ∧ n < (r + 1) * (r + 1) := by
  have key : Ends (semS { tab := [] } [] ir_root_under [some (.int n), none, none] []) (fun _ _ => False) (fun d _ => ∃ r : Nat, d = .int r ∧ r * r ≤ n ∧ n < (r + 1) * (r + 1)) := by
    unfold ir_root_under
    refine ends_step (e := [some (.int n), some (.int (0 : Nat)), none]) (h' := []) (by simp (disch := first | omega | (simp; done) | fail) [ir_root_under_0, semS, semE, semA, semN, semO, semI, exS, bnd, optM, pur, setTg, seqM, lsM, binM, binL, augM, biM, bnM, cmpM, cmpI, ltM, leM, inM, eqF, flatD, isM, Cl.isNon, truM, intM, idxM, slcM, lenM, lstAt, Cl.putAt, isaM, tyM, tyName, lsrcM, srcM, calmly, depOk_nil, sizeLine_eq, wipeE, gmul_r, gmul_l, gdiv, gmod, gmod', fdiv_pos, fmod_pos, grg, grg2, gsz, atI_pos]) ?_
    refine ends_step (e := [some (.int n), some (.int (0 : Nat)), some (.int (1 : Nat))]) (h' := []) (by simp (disch := first | omega | (simp; done) | fail) [ir_root_under_1, semS, semE, semA, semN, semO, semI, exS, bnd, optM, pur, setTg, seqM, lsM, binM, binL, augM, biM, bnM, cmpM, cmpI, ltM, leM, inM, eqF, flatD, isM, Cl.isNon, truM, intM, idxM, slcM, lenM, lstAt, Cl.putAt, isaM, tyM, tyName, lsrcM, srcM, calmly, depOk_nil, sizeLine_eq, wipeE, gmul_r, gmul_l, gdiv, gmod, gmod', fdiv_pos, fmod_pos, grg, grg2, gsz, atI_pos]) ?_
    refine ends_seq ?_
    unfold ir_root_under_2
    refine ends_whl (fun _ _ => rfl) (fun m e h => ∃ k : Nat, m = 2 * n + 2 - 2 ^ k ∧ h = [] ∧ e = [some (.int n), some (.int (0 : Nat)), some (.int (2 ^ k : Nat))] ∧ 2 ^ k ≤ 2 * n + 1 ∧ k ≤ 31) ?_ _ ⟨0, rfl, rfl, rfl, by simp, by simp⟩
    rintro m e hc ⟨k, rfl, rfl, rfl, hk, hk2⟩
    have lk : 2 ^ k ≤ 2 ^ 31 := Nat.pow_le_pow_right (by decide) hk2
    have lki : ((2 ^ k : Nat) : Int) ≤ 2 ^ 31 := by exact_mod_cast lk
    have pk : 0 < 2 ^ k := Nat.pow_pos (by decide)
    generalize hP : 2 ^ k = P at *
    by_cases c : P * P ≤ n
    · have ci : (P : Int) * P ≤ n := by exact_mod_cast c
      have hPn : P ≤ n := Nat.le_trans (Nat.le_mul_of_pos_right P pk) c
      refine .inr ⟨[], by simp (disch := first | omega | (simp; done) | fail) [semS, semE, semA, semN, semO, semI, exS, bnd, optM, pur, setTg, seqM, lsM, binM, binL, augM, biM, bnM, cmpM, cmpI, ltM, leM, inM, eqF, flatD, isM, Cl.isNon, truM, intM, idxM, slcM, lenM, lstAt, Cl.putAt, isaM, tyM, tyName, lsrcM, srcM, calmly, depOk_nil, sizeLine_eq, wipeE, gmul_r, gmul_l, gdiv, gmod, gmod', fdiv_pos, fmod_pos, grg, grg2, gsz, atI_pos, ci], ?_⟩
      refine Ends.toB (ends_nx (e := [some (.int n), some (.int (0 : Nat)), some (.int (2 ^ (k + 1) : Nat))]) (h := []) (by rw [Nat.pow_succ, hP]; simp (disch := first | omega | (simp; done) | fail) [ir_root_under_b0, semS, semE, semA, semN, semO, semI, exS, bnd, optM, pur, setTg, seqM, lsM, binM, binL, augM, biM, bnM, cmpM, cmpI, ltM, leM, inM, eqF, flatD, isM, Cl.isNon, truM, intM, idxM, slcM, lenM, lstAt, Cl.putAt, isaM, tyM, tyName, lsrcM, srcM, calmly, depOk_nil, sizeLine_eq, wipeE, gmul_r, gmul_l, gdiv, gmod, gmod', fdiv_pos, fmod_pos, grg, grg2, gsz, atI_pos]) ⟨2 * n + 2 - 2 ^ (k + 1), by rw [Nat.pow_succ, hP]; omega, k + 1, rfl, rfl, rfl, by rw [Nat.pow_succ, hP]; omega, ?_⟩)
      have h1 : 2 ^ (2 * k) ≤ n := by rw [Nat.mul_comm, Nat.pow_mul, Nat.pow_two, hP]; exact c
      have h2 : 2 * k < 60 := (Nat.pow_lt_pow_iff_right (show 1 < 2 by decide)).mp (by omega)
      omega
    · have ci : ¬ (P : Int) * P ≤ n := fun z => c (by exact_mod_cast z)
      refine .inl ⟨[], by simp (disch := first | omega | (simp; done) | fail) [semS, semE, semA, semN, semO, semI, exS, bnd, optM, pur, setTg, seqM, lsM, binM, binL, augM, biM, bnM, cmpM, cmpI, ltM, leM, inM, eqF, flatD, isM, Cl.isNon, truM, intM, idxM, slcM, lenM, lstAt, Cl.putAt, isaM, tyM, tyName, lsrcM, srcM, calmly, depOk_nil, sizeLine_eq, wipeE, gmul_r, gmul_l, gdiv, gmod, gmod', fdiv_pos, fmod_pos, grg, grg2, gsz, atI_pos, ci], ?_⟩
      refine ends_seq ?_
      unfold ir_root_under_3
      refine ends_whl (fun _ _ => rfl) (fun m e h => ∃ f s : Nat, s = m ∧ h = [] ∧ e = [some (.int n), some (.int f), some (.int s)] ∧ f * f ≤ n ∧ f < 2 ^ 31 ∧ ((∃ k, s = 2 ^ k ∧ k ≤ 31 ∧ n < (f + 2 * s) * (f + 2 * s)) ∨ (s = 0 ∧ n < (f + 1) * (f + 1)))) ?_ P ⟨0, P, rfl, rfl, rfl, by simp, by decide, .inl ⟨k, hP.symm, hk2, by
        have : P * P ≤ (0 + 2 * P) * (0 + 2 * P) := Nat.mul_le_mul (by omega) (by omega)
        omega⟩⟩
      rintro m e hc ⟨f, s, rfl, rfl, rfl, hf, hfl, hs⟩
      by_cases s0 : s = 0
      · subst s0
        refine .inl ⟨[], by simp (disch := first | omega | (simp; done) | fail) [semS, semE, semA, semN, semO, semI, exS, bnd, optM, pur, setTg, seqM, lsM, binM, binL, augM, biM, bnM, cmpM, cmpI, ltM, leM, inM, eqF, flatD, isM, Cl.isNon, truM, intM, idxM, slcM, lenM, lstAt, Cl.putAt, isaM, tyM, tyName, lsrcM, srcM, calmly, depOk_nil, sizeLine_eq, wipeE, gmul_r, gmul_l, gdiv, gmod, gmod', fdiv_pos, fmod_pos, grg, grg2, gsz, atI_pos], ?_⟩
        refine ends_seq (ends_rt (d := .int f) (h := []) (by simp (disch := first | omega | (simp; done) | fail) [ir_root_under_4, semS, semE, semA, semN, semO, semI, exS, bnd, optM, pur, setTg, seqM, lsM, binM, binL, augM, biM, bnM, cmpM, cmpI, ltM, leM, inM, eqF, flatD, isM, Cl.isNon, truM, intM, idxM, slcM, lenM, lstAt, Cl.putAt, isaM, tyM, tyName, lsrcM, srcM, calmly, depOk_nil, sizeLine_eq, wipeE, gmul_r, gmul_l, gdiv, gmod, gmod', fdiv_pos, fmod_pos, grg, grg2, gsz, atI_pos]) ⟨f, rfl, hf, ?_⟩)
        rcases hs with ⟨k, e, _⟩ | ⟨_, h⟩
        · have : 0 < 2 ^ k := Nat.pow_pos (by decide)
          omega
        · exact h
      · refine .inr ⟨[], by simp (disch := first | omega | (simp; done) | fail) [semS, semE, semA, semN, semO, semI, exS, bnd, optM, pur, setTg, seqM, lsM, binM, binL, augM, biM, bnM, cmpM, cmpI, ltM, leM, inM, eqF, flatD, isM, Cl.isNon, truM, intM, idxM, slcM, lenM, lstAt, Cl.putAt, isaM, tyM, tyName, lsrcM, srcM, calmly, depOk_nil, sizeLine_eq, wipeE, gmul_r, gmul_l, gdiv, gmod, gmod', fdiv_pos, fmod_pos, grg, grg2, gsz, atI_pos, s0], ?_⟩
        obtain ⟨k', rfl, hk', hn'⟩ : ∃ k, s = 2 ^ k ∧ k ≤ 31 ∧ n < (f + 2 * s) * (f + 2 * s) := by
          rcases hs with h | h
          · exact h
          · exact absurd h.1 s0
        have lk : 2 ^ k' ≤ 2 ^ 31 := Nat.pow_le_pow_right (by decide) hk'
        have lki : ((2 ^ k' : Nat) : Int) ≤ 2 ^ 31 := by exact_mod_cast lk
        have hlt : 2 ^ k' / 2 < 2 ^ k' := Nat.div_lt_self (Nat.pow_pos (by decide)) (by decide)
        have next : ∀ g : Nat, g * g ≤ n → n < (g + 2 ^ k') * (g + 2 ^ k') → (∃ k, 2 ^ k' / 2 = 2 ^ k ∧ k ≤ 31 ∧ n < (g + 2 * (2 ^ k' / 2)) * (g + 2 * (2 ^ k' / 2))) ∨ (2 ^ k' / 2 = 0 ∧ n < (g + 1) * (g + 1)) := by
          intro g h1 h2
          cases k' with
          | zero => exact .inr ⟨rfl, h2⟩
          | succ j =>
            have e : 2 ^ (j + 1) / 2 = 2 ^ j := by rw [Nat.pow_succ]; exact Nat.mul_div_cancel _ (by decide)
            refine .inl ⟨j, e, by omega, ?_⟩
            rw [e]
            rw [Nat.pow_succ, Nat.mul_comm (2 ^ j)] at h2
            exact h2
        generalize hP : 2 ^ k' = s at *
        have gl : ∀ g : Nat, g * g ≤ n → g < 2 ^ 31 := fun g hg => by
          rcases Nat.lt_or_ge g (2 ^ 31) with z | z
          · exact z
          · have := Nat.mul_le_mul z z; omega
        by_cases c : (f + s) * (f + s) ≤ n
        · have ci : ((f : Int) + s) * (f + s) ≤ n := by exact_mod_cast c
          refine Ends.toB (ends_nx (e := [some (.int n), some (.int (f + s : Nat)), some (.int (s / 2 : Nat))]) (h := []) (by simp (disch := first | omega | (simp; done) | fail) [ir_root_under_b1, semS, semE, semA, semN, semO, semI, exS, bnd, optM, pur, setTg, seqM, lsM, binM, binL, augM, biM, bnM, cmpM, cmpI, ltM, leM, inM, eqF, flatD, isM, Cl.isNon, truM, intM, idxM, slcM, lenM, lstAt, Cl.putAt, isaM, tyM, tyName, lsrcM, srcM, calmly, depOk_nil, sizeLine_eq, wipeE, gmul_r, gmul_l, gdiv, gmod, gmod', fdiv_pos, fmod_pos, grg, grg2, gsz, atI_pos, ci]) ⟨s / 2, hlt, f + s, s / 2, rfl, rfl, rfl, c, gl _ c, next _ c ?_⟩)
          rw [show f + s + s = f + 2 * s by omega]; exact hn'
        · have ci : ¬ ((f : Int) + s) * (f + s) ≤ n := fun z => c (by exact_mod_cast z)
          exact Ends.toB (ends_nx (e := [some (.int n), some (.int f), some (.int (s / 2 : Nat))]) (h := []) (by simp (disch := first | omega | (simp; done) | fail) [ir_root_under_b1, semS, semE, semA, semN, semO, semI, exS, bnd, optM, pur, setTg, seqM, lsM, binM, binL, augM, biM, bnM, cmpM, cmpI, ltM, leM, inM, eqF, flatD, isM, Cl.isNon, truM, intM, idxM, slcM, lenM, lstAt, Cl.putAt, isaM, tyM, tyName, lsrcM, srcM, calmly, depOk_nil, sizeLine_eq, wipeE, gmul_r, gmul_l, gdiv, gmod, gmod', fdiv_pos, fmod_pos, grg, grg2, gsz, atI_pos, ci]) ⟨s / 2, hlt, f, s / 2, rfl, rfl, rfl, hf, gl _ hf, next _ hf (by omega)⟩)
  obtain ⟨d, e, r, rfl, h⟩ := ends_p (p := 1) (n := 3) (ds := [.int n]) (P := fun d => ∃ r : Nat, d = .int r ∧ r * r ≤ n ∧ n < (r + 1) * (r + 1)) _ key (by rintro d ⟨r, rfl, _⟩; rfl)
  exact ⟨r, e, h⟩
/-- the first pair -/
def IsTwo (n : Nat) : Option (Nat × Nat) → Prop
  | some (x, y) => x * x + y * y = n ∧ x ≤ y ∧ ∀ a b, a < x → a * a + b * b ≠ n
  | none => ¬ Sq2 n
def encTwo : Option (Nat × Nat) → D
  | some (x, y) => .tup [.int (x : Nat), .int (y : Nat)]
  | none => .non
theorem sq_le {a b : Nat} (h : a * a ≤ b * b) : a ≤ b := by
  rcases Nat.lt_or_ge b a with z | z
  · have := Nat.mul_lt_mul'' z z
    omega
  · exact z
theorem isTwo_uniq {n : Nat} {r s : Option (Nat × Nat)} (h : IsTwo n r) (h' : IsTwo n s) : r = s := by
  cases r with
  | none =>
    cases s with
    | none => rfl
    | some t => exact absurd ⟨t.1, t.2, h'.1⟩ h
  | some t =>
    obtain ⟨x, y⟩ := t
    cases s with
    | none => exact absurd ⟨x, y, h.1⟩ h'
    | some u =>
      obtain ⟨x', y'⟩ := u
      obtain ⟨h1, h2, h3⟩ := h
      obtain ⟨k1, k2, k3⟩ := h'
      have ex : x = x' := by
        rcases Nat.lt_trichotomy x x' with z | z | z
        · exact absurd h1 (k3 x y z)
        · exact z
        · exact absurd k1 (h3 x' y' z)
      subst ex
      have ey : y = y' := Nat.le_antisymm (sq_le (by omega)) (sq_le (by omega))
      rw [ey]
theorem ev_two {n : Nat} (ln : n < 2 ^ 60) : ∃ r, p_two_squares [.int n] = .ok (encTwo r) ∧ IsTwo n r := by
  have key : Ends (semS { tab := [liftP p_root_under] } [] ir_two_squares [some (.int n), none, none] []) (fun _ _ => False) (fun d _ => ∃ r, d = encTwo r ∧ IsTwo n r) := by
    unfold ir_two_squares
    refine ends_step (e := [some (.int n), some (.int (0 : Nat)), none]) (h' := []) (by simp (disch := first | omega | (simp; done) | fail) [ir_two_squares_0, semS, semE, semA, semN, semO, semI, exS, bnd, optM, pur, setTg, seqM, lsM, binM, binL, augM, biM, bnM, cmpM, cmpI, ltM, leM, inM, eqF, flatD, isM, Cl.isNon, truM, intM, idxM, slcM, lenM, lstAt, Cl.putAt, isaM, tyM, tyName, lsrcM, srcM, calmly, depOk_nil, sizeLine_eq, wipeE, gmul_r, gmul_l, gdiv, gmod, gmod', fdiv_pos, fmod_pos, grg, grg2, gsz, atI_pos]) ?_
    refine ends_seq ?_
    unfold ir_two_squares_1
    refine ends_whl (fun _ _ => rfl) (fun m e h => ∃ (x : Nat) (o : Option D), m = n + 1 - x ∧ h = [] ∧ e = [some (.int n), some (.int x), o] ∧ x ≤ n + 1 ∧ x ≤ 2 ^ 31 ∧ ∀ a b, a < x → a * a + b * b ≠ n) ?_ _ ⟨0, none, rfl, rfl, rfl, by omega, by omega, fun a b h => by omega⟩
    rintro m e hc ⟨x, o, rfl, rfl, rfl, hx, hx2, hn⟩
    by_cases c : 2 * x * x ≤ n
    · have ci : (2 : Int) * x * x ≤ n := by exact_mod_cast c
      have cx : x * x + x * x ≤ n := by rw [Nat.mul_assoc] at c; omega
      have hxn : x * x ≤ n := by omega
      have hxi : (x : Int) * x ≤ n := by exact_mod_cast hxn
      have hxb : x ≤ n := by
        by_cases z : x = 0
        · omega
        · exact Nat.le_trans (Nat.le_mul_of_pos_right x (by omega)) hxn
      refine .inr ⟨[], by simp (disch := first | omega | (simp; done) | fail) [semS, semE, semA, semN, semO, semI, exS, bnd, optM, pur, setTg, seqM, lsM, binM, binL, augM, biM, bnM, cmpM, cmpI, ltM, leM, inM, eqF, flatD, isM, Cl.isNon, truM, intM, idxM, slcM, lenM, lstAt, Cl.putAt, isaM, tyM, tyName, lsrcM, srcM, calmly, depOk_nil, sizeLine_eq, wipeE, gmul_r, gmul_l, gdiv, gmod, gmod', fdiv_pos, fmod_pos, grg, grg2, gsz, atI_pos, ci], ?_⟩
      have ea : (n : Int) - x * x = ((n - x * x : Nat) : Int) := by omega
      obtain ⟨y, ey, y1, y2⟩ := ev_root (n := n - x * x) (by omega)
      have yl : y < 2 ^ 31 := by
        rcases Nat.lt_or_ge y (2 ^ 31) with z | z
        · exact z
        · have := Nat.mul_le_mul z z; omega
      have xl : x < 2 ^ 31 := by
        rcases Nat.lt_or_ge x (2 ^ 31) with z | z
        · exact z
        · have := Nat.mul_le_mul z z; omega
      unfold ir_two_squares_b0
      refine Ends.toB (ends_step (e := [some (.int n), some (.int x), some (.int y)]) (h' := []) (by simp (disch := first | omega | (simp; done) | fail) [semS, semE, semA, semN, semO, semI, exS, bnd, optM, pur, setTg, seqM, lsM, binM, binL, augM, biM, bnM, cmpM, cmpI, ltM, leM, inM, eqF, flatD, isM, Cl.isNon, truM, intM, idxM, slcM, lenM, lstAt, Cl.putAt, isaM, tyM, tyName, lsrcM, srcM, calmly, depOk_nil, sizeLine_eq, wipeE, gmul_r, gmul_l, gdiv, gmod, gmod', fdiv_pos, fmod_pos, grg, grg2, gsz, atI_pos, liftP, noRefL, noRef, ea, ey]) ?_)
      by_cases d : x * x + y * y = n
      · have di : (x : Int) * x + y * y = n := by exact_mod_cast d
        exact ends_seq (ends_rt (d := encTwo (some (x, y))) (h := []) (by simp (disch := first | omega | (simp; done) | fail) [semS, semE, semA, semN, semO, semI, exS, bnd, optM, pur, setTg, seqM, lsM, binM, binL, augM, biM, bnM, cmpM, cmpI, ltM, leM, inM, eqF, flatD, isM, Cl.isNon, truM, intM, idxM, slcM, lenM, lstAt, Cl.putAt, isaM, tyM, tyName, lsrcM, srcM, calmly, depOk_nil, sizeLine_eq, wipeE, gmul_r, gmul_l, gdiv, gmod, gmod', fdiv_pos, fmod_pos, grg, grg2, gsz, atI_pos, di, encTwo]) ⟨some (x, y), rfl, d, sq_le (by omega), hn⟩)
      · have di : ¬ (x : Int) * x + y * y = n := fun z => d (by exact_mod_cast z)
        refine ends_step (e := [some (.int n), some (.int x), some (.int y)]) (h' := []) (by simp (disch := first | omega | (simp; done) | fail) [semS, semE, semA, semN, semO, semI, exS, bnd, optM, pur, setTg, seqM, lsM, binM, binL, augM, biM, bnM, cmpM, cmpI, ltM, leM, inM, eqF, flatD, isM, Cl.isNon, truM, intM, idxM, slcM, lenM, lstAt, Cl.putAt, isaM, tyM, tyName, lsrcM, srcM, calmly, depOk_nil, sizeLine_eq, wipeE, gmul_r, gmul_l, gdiv, gmod, gmod', fdiv_pos, fmod_pos, grg, grg2, gsz, atI_pos, di]) ?_
        refine ends_nx (e := [some (.int n), some (.int (x + 1 : Nat)), some (.int y)]) (h := []) (by simp (disch := first | omega | (simp; done) | fail) [semS, semE, semA, semN, semO, semI, exS, bnd, optM, pur, setTg, seqM, lsM, binM, binL, augM, biM, bnM, cmpM, cmpI, ltM, leM, inM, eqF, flatD, isM, Cl.isNon, truM, intM, idxM, slcM, lenM, lstAt, Cl.putAt, isaM, tyM, tyName, lsrcM, srcM, calmly, depOk_nil, sizeLine_eq, wipeE, gmul_r, gmul_l, gdiv, gmod, gmod', fdiv_pos, fmod_pos, grg, grg2, gsz, atI_pos]) ⟨n + 1 - (x + 1), by omega, x + 1, _, rfl, rfl, rfl, by omega, by omega, fun a b hab e => ?_⟩
        by_cases z : a = x
        · subst z
          have h1 : b * b = n - a * a := by omega
          have h2 : b ≤ y := by
            rcases Nat.lt_or_ge y b with z | z
            · have := Nat.mul_le_mul z z
              simp only [Nat.succ_eq_add_one] at this
              omega
            · exact z
          have h3 : y ≤ b := sq_le (by omega)
          have h4 : b = y := by omega
          subst h4
          exact d e
        · exact hn a b (by omega) e
    · have ci : ¬ (2 : Int) * x * x ≤ n := fun z => c (by exact_mod_cast z)
      refine .inl ⟨[], by simp (disch := first | omega | (simp; done) | fail) [semS, semE, semA, semN, semO, semI, exS, bnd, optM, pur, setTg, seqM, lsM, binM, binL, augM, biM, bnM, cmpM, cmpI, ltM, leM, inM, eqF, flatD, isM, Cl.isNon, truM, intM, idxM, slcM, lenM, lstAt, Cl.putAt, isaM, tyM, tyName, lsrcM, srcM, calmly, depOk_nil, sizeLine_eq, wipeE, gmul_r, gmul_l, gdiv, gmod, gmod', fdiv_pos, fmod_pos, grg, grg2, gsz, atI_pos, ci], ?_⟩
      refine ends_seq (ends_rt (d := .non) (h := []) (by simp (disch := first | omega | (simp; done) | fail) [ir_two_squares_2, semS, semE, semA, semN, semO, semI, exS, bnd, optM, pur, setTg, seqM, lsM, binM, binL, augM, biM, bnM, cmpM, cmpI, ltM, leM, inM, eqF, flatD, isM, Cl.isNon, truM, intM, idxM, slcM, lenM, lstAt, Cl.putAt, isaM, tyM, tyName, lsrcM, srcM, calmly, depOk_nil, sizeLine_eq, wipeE, gmul_r, gmul_l, gdiv, gmod, gmod', fdiv_pos, fmod_pos, grg, grg2, gsz, atI_pos]) ⟨none, rfl, ?_⟩)
      rintro ⟨a, b, e⟩
      rw [Nat.mul_assoc] at c
      have small : ∀ t : Nat, 2 * (t * t) ≤ n → t < x := fun t ht => by
        rcases Nat.lt_or_ge t x with z | z
        · exact z
        · have := Nat.mul_le_mul z z; omega
      rcases Nat.le_total (a * a) (b * b) with z | z
      · exact hn a b (small a (by omega)) e
      · exact hn b a (small b (by omega)) (by omega)
  obtain ⟨d, e, r, rfl, h⟩ := ends_p (p := 1) (n := 3) (ds := [.int n]) (P := fun d => ∃ r, d = encTwo r ∧ IsTwo n r) _ key (by rintro d ⟨r, rfl, _⟩; rcases r with _ | ⟨x, y⟩ <;> rfl)
  exact ⟨r, e, h⟩
/-- the least odd prime that leaves 3 -/
def IsOdd (n : Nat) : Option Nat → Prop
  | some p => OddP n p ∧ ∀ q, q < p → ¬ OddP n q
  | none => ∀ q, ¬ OddP n q
theorem isOdd_uniq {n : Nat} {r s : Option Nat} (h : IsOdd n r) (h' : IsOdd n s) : r = s := by
  cases r with
  | none =>
    cases s with
    | none => rfl
    | some t => exact absurd h'.1 (h t)
  | some t =>
    cases s with
    | none => exact absurd h.1 (h' t)
    | some u =>
      rcases Nat.lt_trichotomy t u with z | z | z
      · exact absurd h.1 (h'.2 t z)
      · rw [z]
      · exact absurd h'.1 (h.2 u z)
def encOdd : Option Nat → D
  | some p => .int (p : Nat)
  | none => .non
theorem ev_odd {n : Nat} (h : 1 ≤ n) (ln : n < 2 ^ 60) : ∃ r, p_odd_prime [.int n] = .ok (encOdd r) ∧ IsOdd n r := by
  obtain ⟨L, e, hI, hl60⟩ := ev_factors h ln
  have hlen : L.length ≤ 16000000 := by omega
  have k := comp_filter (G := { tab := [liftP p_factors] }) (C := []) (own := [1, 2]) (tg := .tp [1, 2]) (src := .call 0 (.cons (.var 0) .nil)) (ifs := .and (.cmp .Eq (.bin .Mod (.var 1) (.int 4)) (.int 3)) (.cmp .Eq (.bin .Mod (.var 2) (.int 2)) (.int 1))) (elt := .var 1) (env := [some (.int n), none, none, none]) (h := [])
    L (fun t => D.tup [.int (t.1 : Nat), .int (t.2 : Nat)]) (fun t => decide (t.1 % 4 = 3) && decide (t.2 % 2 = 1)) (fun t => .int (t.1 : Nat)) (by simp (disch := first | omega | (simp; done) | fail) [semS, semE, semA, semN, semO, semI, exS, bnd, optM, pur, setTg, seqM, lsM, binM, binL, augM, biM, bnM, cmpM, cmpI, ltM, leM, inM, eqF, flatD, isM, Cl.isNon, truM, intM, idxM, slcM, lenM, lstAt, Cl.putAt, isaM, tyM, tyName, lsrcM, srcM, calmly, depOk_nil, sizeLine_eq, wipeE, gmul_r, gmul_l, gdiv, gmod, gmod', fdiv_pos, fmod_pos, grg, grg2, gsz, atI_pos, liftP, noRefL, noRef, e]) hlen (by simp) (fun t ht => by
      refine ⟨[some (.int n), some (.int t.1), some (.int t.2), none], by simp (disch := first | omega | (simp; done) | fail) [semS, semE, semA, semN, semO, semI, exS, bnd, optM, pur, setTg, seqM, lsM, binM, binL, augM, biM, bnM, cmpM, cmpI, ltM, leM, inM, eqF, flatD, isM, Cl.isNon, truM, intM, idxM, slcM, lenM, lstAt, Cl.putAt, isaM, tyM, tyName, lsrcM, srcM, calmly, depOk_nil, sizeLine_eq, wipeE, gmul_r, gmul_l, gdiv, gmod, gmod', fdiv_pos, fmod_pos, grg, grg2, gsz, atI_pos, gle], ⟨.bl (decide (t.1 % 4 = 3) && decide (t.2 % 2 = 1)), ?_, by simp [semS, semE, semA, semN, semO, semI, exS, bnd, optM, pur, setTg, seqM, lsM, binM, binL, augM, biM, bnM, cmpM, cmpI, ltM, leM, inM, eqF, flatD, isM, Cl.isNon, truM, intM, idxM, slcM, lenM, lstAt, Cl.putAt, isaM, tyM, tyName, lsrcM, srcM, calmly, depOk_nil, sizeLine_eq, wipeE]⟩, fun _ => by simp [semS, semE, semA, semN, semO, semI, exS, bnd, optM, pur, setTg, seqM, lsM, binM, binL, augM, biM, bnM, cmpM, cmpI, ltM, leM, inM, eqF, flatD, isM, Cl.isNon, truM, intM, idxM, slcM, lenM, lstAt, Cl.putAt, isaM, tyM, tyName, lsrcM, srcM, calmly, depOk_nil, sizeLine_eq, wipeE]⟩
      by_cases c : t.1 % 4 = 3
      · have ci : (t.1 : Int) % 4 = 3 := by omega
        by_cases d : t.2 % 2 = 1
        · have di : (t.2 : Int) % 2 = 1 := by omega
          simp (disch := first | omega | (simp; done) | fail) [semS, semE, semA, semN, semO, semI, exS, bnd, optM, pur, setTg, seqM, lsM, binM, binL, augM, biM, bnM, cmpM, cmpI, ltM, leM, inM, eqF, flatD, isM, Cl.isNon, truM, intM, idxM, slcM, lenM, lstAt, Cl.putAt, isaM, tyM, tyName, lsrcM, srcM, calmly, depOk_nil, sizeLine_eq, wipeE, gmul_r, gmul_l, gdiv, gmod, gmod', fdiv_pos, fmod_pos, grg, grg2, gsz, atI_pos, c, d, ci, di]
        · have di : ¬ (t.2 : Int) % 2 = 1 := by omega
          simp (disch := first | omega | (simp; done) | fail) [semS, semE, semA, semN, semO, semI, exS, bnd, optM, pur, setTg, seqM, lsM, binM, binL, augM, biM, bnM, cmpM, cmpI, ltM, leM, inM, eqF, flatD, isM, Cl.isNon, truM, intM, idxM, slcM, lenM, lstAt, Cl.putAt, isaM, tyM, tyName, lsrcM, srcM, calmly, depOk_nil, sizeLine_eq, wipeE, gmul_r, gmul_l, gdiv, gmod, gmod', fdiv_pos, fmod_pos, grg, grg2, gsz, atI_pos, c, d, ci, di]
      · have ci : ¬ (t.1 : Int) % 4 = 3 := by omega
        simp (disch := first | omega | (simp; done) | fail) [semS, semE, semA, semN, semO, semI, exS, bnd, optM, pur, setTg, seqM, lsM, binM, binL, augM, biM, bnM, cmpM, cmpI, ltM, leM, inM, eqF, flatD, isM, Cl.isNon, truM, intM, idxM, slcM, lenM, lstAt, Cl.putAt, isaM, tyM, tyName, lsrcM, srcM, calmly, depOk_nil, sizeLine_eq, wipeE, gmul_r, gmul_l, gdiv, gmod, gmod', fdiv_pos, fmod_pos, grg, grg2, gsz, atI_pos, c, ci])
  refine ⟨((L.filter fun t => decide (t.1 % 4 = 3) && decide (t.2 % 2 = 1)).map (·.1)).head?, ?_, ?_⟩
  · refine p_rt (h := []) [some (.int n), none, none, none] ?_ (by cases ((L.filter fun t => decide (t.1 % 4 = 3) && decide (t.2 % 2 = 1)).map (·.1)).head? <;> rfl)
    generalize hL : (L.filter fun t => decide (t.1 % 4 = 3) && decide (t.2 % 2 = 1)) = M at *
    cases M with
    | nil => simp (disch := first | omega | (simp; done) | fail) [ir_odd_prime, ir_odd_prime_0, ir_odd_prime_1, semS, semE, semA, semO, semI, exS, bnd, optM, pur, setTg, seqM, lsM, binM, binL, augM, biM, bnM, cmpM, cmpI, ltM, leM, inM, eqF, flatD, isM, Cl.isNon, truM, intM, idxM, slcM, lenM, lstAt, Cl.putAt, isaM, tyM, tyName, lsrcM, srcM, calmly, depOk_nil, sizeLine_eq, wipeE, gmul_r, gmul_l, gdiv, gmod, gmod', fdiv_pos, fmod_pos, grg, grg2, gsz, atI_pos, k, encOdd]
    | cons t M => simp (disch := first | omega | (simp; done) | fail) [ir_odd_prime, ir_odd_prime_0, ir_odd_prime_1, semS, semE, semA, semO, semI, exS, bnd, optM, pur, setTg, seqM, lsM, binM, binL, augM, biM, bnM, cmpM, cmpI, ltM, leM, inM, eqF, flatD, isM, Cl.isNon, truM, intM, idxM, slcM, lenM, lstAt, Cl.putAt, isaM, tyM, tyName, lsrcM, srcM, calmly, depOk_nil, sizeLine_eq, wipeE, gmul_r, gmul_l, gdiv, gmod, gmod', fdiv_pos, fmod_pos, grg, grg2, gsz, atI_pos, k, encOdd]
  · have mem : ∀ q, OddP n q ↔ q ∈ (L.filter fun t => decide (t.1 % 4 = 3) && decide (t.2 % 2 = 1)).map (·.1) := by
      intro q
      simp only [List.mem_map, List.mem_filter, Bool.and_eq_true, decide_eq_true_eq]
      constructor
      · rintro ⟨hq, h4, ho⟩
        by_cases x : ∃ t ∈ L, t.1 = q
        · obtain ⟨t, ht, rfl⟩ := x
          exact ⟨t, ⟨ht, h4, by rw [(hI.ok t ht).2.1]; exact ho⟩, rfl⟩
        · have := hI.vps q hq fun t ht z => x ⟨t, ht, z⟩
          rw [vp_one hq.1] at this
          omega
      · rintro ⟨t, ⟨ht, h4, ho⟩, rfl⟩
        obtain ⟨a1, a2, _⟩ := hI.ok t ht
        exact ⟨a1, h4, by rw [← a2]; exact ho⟩
    have asc : ((L.filter fun t => decide (t.1 % 4 = 3) && decide (t.2 % 2 = 1)).map (·.1)).Pairwise (· < ·) := List.pairwise_map.mpr (hI.asc.filter _)
    generalize ((L.filter fun t => decide (t.1 % 4 = 3) && decide (t.2 % 2 = 1)).map (·.1)) = M at *
    cases M with
    | nil => exact fun q hq => absurd ((mem q).mp hq) List.not_mem_nil
    | cons t M =>
      refine ⟨(mem t).mpr List.mem_cons_self, fun q hl hq => ?_⟩
      rw [List.pairwise_cons] at asc
      rcases List.mem_cons.mp ((mem q).mp hq) with z | z
      · omega
      · have := asc.1 q z; omega
end Cl
/-! Signs of squares after Gauss, Schering, Eisenstein: plain. -/
namespace Mth
/-! ### sums -/
def S (h : Nat) (f : Nat → Nat) : Nat := ((List.range h).map f).sum
theorem S_zero (f : Nat → Nat) : S 0 f = 0 := rfl
theorem S_succ (h : Nat) (f : Nat → Nat) : S (h + 1) f = S h f + f h := by
  unfold S
  rw [List.range_succ, List.map_append, List.sum_append]
  simp
theorem S_add (h : Nat) (f g : Nat → Nat) : S h (fun k => f k + g k) = S h f + S h g := by
  induction h with
  | zero => rfl
  | succ h ih => rw [S_succ, S_succ, S_succ, ih]; omega
theorem S_mul (h c : Nat) (f : Nat → Nat) : S h (fun k => c * f k) = c * S h f := by
  induction h with
  | zero => rfl
  | succ h ih => rw [S_succ, S_succ, ih, Nat.mul_add]
theorem S_const (h c : Nat) : S h (fun _ => c) = h * c := by
  induction h with
  | zero => simp [S_zero]
  | succ h ih => rw [S_succ, ih, Nat.succ_mul]
theorem S_congr {h : Nat} {f g : Nat → Nat} (e : ∀ k, k < h → f k = g k) : S h f = S h g := by
  induction h with
  | zero => rfl
  | succ h ih => rw [S_succ, S_succ, ih (fun k hk => e k (by omega)), e h (by omega)]
theorem S_mod {h : Nat} {f g : Nat → Nat} (e : ∀ k, k < h → f k % 2 = g k % 2) : S h f % 2 = S h g % 2 := by
  induction h with
  | zero => rfl
  | succ h ih =>
    rw [S_succ, S_succ]
    have := ih (fun k hk => e k (by omega))
    have := e h (by omega)
    omega
theorem S_swap (h g : Nat) (f : Nat → Nat → Nat) : S h (fun k => S g (fun j => f k j)) = S g (fun j => S h (fun k => f k j)) := by
  induction h with
  | zero =>
    simp only [S_zero]
    rw [S_const]; simp
  | succ h ih =>
    rw [S_succ, ih, ← S_add]
    exact S_congr fun j _ => by rw [S_succ]
theorem perm_of {α : Type} [DecidableEq α] : ∀ {l m : List α}, l.Nodup → (∀ a ∈ l, a ∈ m) → m.length ≤ l.length → l.Perm m
  | [], m, _, _, hl => by
    have : m = [] := List.length_eq_zero_iff.mp (by simpa using hl)
    subst this; exact List.Perm.nil
  | a :: l, m, nd, hs, hl => by
    rw [List.nodup_cons] at nd
    have hm := hs a List.mem_cons_self
    have h1 : l.Perm (m.erase a) := perm_of nd.2 (fun b hb => (List.mem_erase_of_ne (fun z => by subst z; exact nd.1 hb)).mpr (hs b (List.mem_cons_of_mem _ hb))) (by
      rw [List.length_erase_of_mem hm]
      simp at hl; omega)
    exact (h1.cons a).trans (List.perm_cons_erase hm).symm
/-- a sum over a permutation -/
theorem S_perm {h : Nat} {p : Nat → Nat} (hp : ∀ k, k < h → p k < h) (inj : ∀ j k, j < h → k < h → p j = p k → j = k) (f : Nat → Nat) : S h (fun k => f (p k)) = S h f := by
  have h1 : ((List.range h).map p).Perm (List.range h) := by
    refine perm_of ?_ ?_ (by simp)
    · rw [List.nodup_iff_pairwise_ne, List.pairwise_map]
      refine List.Pairwise.imp_of_mem ?_ (List.nodup_iff_pairwise_ne.mp List.nodup_range)
      intro a b ha hb hne e
      exact hne (inj a b (List.mem_range.mp ha) (List.mem_range.mp hb) e)
    · intro a ha
      obtain ⟨k, hk, rfl⟩ := List.mem_map.mp ha
      exact List.mem_range.mpr (hp k (List.mem_range.mp hk))
  unfold S
  have := (h1.map f).sum_nat
  rw [List.map_map] at this
  exact this
/-! ### the sign -/
/-- odd n: half of it -/
def hf (n : Nat) : Nat := (n - 1) / 2
/-- what a (k + 1) leaves; is it in the upper half; the nearer one, less 1 -/
def rs (a n k : Nat) : Nat := a * (k + 1) % n
def up (a n k : Nat) : Nat := if hf n < rs a n k then 1 else 0
def nr (a n k : Nat) : Nat := (if hf n < rs a n k then n - rs a n k else rs a n k) - 1
def NN (a n : Nat) : Nat := S (hf n) (up a n)
section
variable {a b n : Nat}
theorem hf_odd (ho : n % 2 = 1) : n = 2 * hf n + 1 := by unfold hf; omega
theorem rs_pos (ho : n % 2 = 1) (hc : Nat.gcd a n = 1) {k : Nat} (hk : k < hf n) : 0 < rs a n k ∧ rs a n k < n := by
  have hn := hf_odd ho
  refine ⟨Nat.pos_of_ne_zero fun z => ?_, Nat.mod_lt _ (by omega)⟩
  have h1 : n ∣ a * (k + 1) := Nat.dvd_of_mod_eq_zero z
  have h2 : n ∣ k + 1 := Nat.Coprime.dvd_of_dvd_mul_left (Nat.Coprime.symm hc) h1
  have := Nat.le_of_dvd (by omega) h2
  omega
/-- a (k + 1) is, but for a sign, the nearer one -/
theorem nr_lt (ho : n % 2 = 1) (hc : Nat.gcd a n = 1) {k : Nat} (hk : k < hf n) : nr a n k < hf n := by
  have hn := hf_odd ho
  have := rs_pos ho hc hk
  unfold nr
  split <;> omega
theorem rs_nr (ho : n % 2 = 1) (hc : Nat.gcd a n = 1) {k : Nat} (hk : k < hf n) : (up a n k = 0 ∧ rs a n k = nr a n k + 1) ∨ (up a n k = 1 ∧ rs a n k + (nr a n k + 1) = n) := by
  have hn := hf_odd ho
  have := rs_pos ho hc hk
  unfold nr up
  split
  · right; exact ⟨rfl, by omega⟩
  · left; exact ⟨rfl, by omega⟩
theorem nr_inj (ho : n % 2 = 1) (hc : Nat.gcd a n = 1) {j k : Nat} (hj : j < hf n) (hk : k < hf n) (e : nr a n j = nr a n k) : j = k := by
  have hn := hf_odd ho
  have co : ∀ x : Int, (n : Int) ∣ a * x → (n : Int) ∣ x := fun x hx => by
    rw [← Int.natAbs_dvd_natAbs, Int.natAbs_mul] at hx
    rw [← Int.natAbs_dvd_natAbs]
    exact Nat.Coprime.dvd_of_dvd_mul_left (Nat.Coprime.symm hc) hx
  have q : ∀ k : Nat, (a : Int) * ((k : Int) + 1) = rs a n k + n * (a * (k + 1) / n : Nat) := fun k => by
    have := Nat.mod_add_div (a * (k + 1)) n
    unfold rs
    exact_mod_cast this.symm
  have small : ∀ x : Int, (n : Int) ∣ x → -(n : Int) < x → x < n → x = 0 := fun x hx l u => by
    obtain ⟨t, rfl⟩ := hx
    have : t = 0 := by
      rcases Int.lt_trichotomy t 0 with z | z | z
      · have : (n : Int) * t ≤ n * (-1) := Int.mul_le_mul_of_nonneg_left (by omega) (by omega)
        omega
      · exact z
      · have : (n : Int) * 1 ≤ n * t := Int.mul_le_mul_of_nonneg_left (by omega) (by omega)
        omega
    rw [this, Int.mul_zero]
  have qj := q j
  have qk := q k
  rcases rs_nr ho hc hj with ⟨_, h1⟩ | ⟨_, h1⟩ <;> rcases rs_nr ho hc hk with ⟨_, h2⟩ | ⟨_, h2⟩
  · have d : (n : Int) ∣ (j : Int) - k := co _ ⟨(a * (j + 1) / n : Nat) - (a * (k + 1) / n : Nat), by
      have : (rs a n j : Int) = rs a n k := by omega
      grind⟩
    have := small _ d (by omega) (by omega)
    omega
  · have d : (n : Int) ∣ (j : Int) + k + 2 := co _ ⟨(a * (j + 1) / n : Nat) + (a * (k + 1) / n : Nat) + 1, by
      have : (rs a n j : Int) = n - rs a n k := by omega
      grind⟩
    have := small _ d (by omega) (by omega)
    omega
  · have d : (n : Int) ∣ (j : Int) + k + 2 := co _ ⟨(a * (j + 1) / n : Nat) + (a * (k + 1) / n : Nat) + 1, by
      have : (rs a n j : Int) = n - rs a n k := by omega
      grind⟩
    have := small _ d (by omega) (by omega)
    omega
  · have d : (n : Int) ∣ (j : Int) - k := co _ ⟨(a * (j + 1) / n : Nat) - (a * (k + 1) / n : Nat), by
      have : (rs a n j : Int) = rs a n k := by omega
      grind⟩
    have := small _ d (by omega) (by omega)
    omega
theorem S_nr (ho : n % 2 = 1) (hc : Nat.gcd a n = 1) (f : Nat → Nat) : S (hf n) (fun k => f (nr a n k)) = S (hf n) f :=
  S_perm (fun k hk => nr_lt ho hc hk) (fun j k hj hk => nr_inj ho hc hj hk) f
/-- products -/
theorem up_mul (ho : n % 2 = 1) (ha : Nat.gcd a n = 1) (hb : Nat.gcd b n = 1) {k : Nat} (hk : k < hf n) : up (a * b) n k % 2 = (up b n k + up a n (nr b n k)) % 2 := by
  have hn := hf_odd ho
  have hab : Nat.gcd (a * b) n = 1 := Nat.Coprime.mul_left ha hb
  have hj := nr_lt ho hb hk
  have p1 := rs_pos ho hab hk
  have p2 := rs_pos ho ha hj
  have e1 : rs (a * b) n k = a * rs b n k % n := by
    unfold rs
    rw [Nat.mul_assoc, Nat.mul_mod_mod]
  rcases rs_nr ho hb hk with ⟨u, h⟩ | ⟨u, h⟩
  · rw [u]
    have e2 : rs (a * b) n k = rs a n (nr b n k) := by rw [e1, h]; rfl
    unfold up
    rw [e2]
    omega
  · rw [u]
    have e2 : rs (a * b) n k + rs a n (nr b n k) = n := by
      have d : n ∣ a * rs b n k + a * (nr b n k + 1) := ⟨a, by rw [← Nat.mul_add, h, Nat.mul_comm]⟩
      have d2 : n ∣ rs (a * b) n k + rs a n (nr b n k) := by
        rw [Nat.dvd_iff_mod_eq_zero, e1]
        unfold rs at d ⊢
        rw [← Nat.add_mod]
        exact Nat.mod_eq_zero_of_dvd d
      obtain ⟨t, ht⟩ := d2
      have : t = 1 := by
        rcases t with _ | _ | t
        · omega
        · rfl
        · have : n * 2 ≤ n * (t + 1 + 1) := Nat.mul_le_mul_left n (by omega)
          omega
      rw [ht, this, Nat.mul_one]
    unfold up
    split <;> split <;> omega
theorem NN_mul (ho : n % 2 = 1) (ha : Nat.gcd a n = 1) (hb : Nat.gcd b n = 1) : NN (a * b) n % 2 = (NN a n + NN b n) % 2 := by
  unfold NN
  rw [S_mod (fun k hk => up_mul ho ha hb hk), S_add, S_nr ho hb (up a n), Nat.add_comm]
theorem NN_mod (a n : Nat) : NN (a % n) n = NN a n := by
  unfold NN
  refine S_congr fun k _ => ?_
  unfold up rs
  rw [Nat.mod_mul_mod]
/-! ### 2, -1 -/
theorem S_le (h c : Nat) (hc : c ≤ h) : S h (fun k => if k < c then 1 else 0) = c := by
  induction h with
  | zero => simp [S_zero]; omega
  | succ h ih =>
    rw [S_succ]
    by_cases z : c ≤ h
    · rw [ih z, if_neg (by omega)]; rfl
    · have : c = h + 1 := by omega
      subst this
      rw [S_congr (g := fun _ => 1) (fun k hk => if_pos (by omega)), S_const, if_pos (by omega)]
      omega
theorem NN_two (ho : n % 2 = 1) : NN 2 n % 2 = if n % 8 = 1 ∨ n % 8 = 7 then 0 else 1 := by
  have hn := hf_odd ho
  have e : NN 2 n + hf n / 2 = hf n := by
    have h1 : S (hf n) (fun k => up 2 n k + if k < hf n / 2 then 1 else 0) = S (hf n) (fun _ => 1) := by
      refine S_congr fun k hk => ?_
      have h2 : rs 2 n k = 2 * (k + 1) := Nat.mod_eq_of_lt (by omega)
      unfold up
      rw [h2]
      split <;> split <;> omega
    rw [S_add, S_const, S_le _ _ (by omega)] at h1
    unfold NN
    omega
  have hh : hf n = (n - 1) / 2 := rfl
  split <;> omega
theorem NN_neg (ho : n % 2 = 1) : NN (n - 1) n = hf n := by
  have hn := hf_odd ho
  unfold NN
  rw [S_congr (g := fun _ => 1) (fun k hk => ?_), S_const, Nat.mul_one]
  have h2 : rs (n - 1) n k = n - (k + 1) := by
    unfold rs
    obtain ⟨m, hm⟩ : ∃ m, n = m + 1 := ⟨n - 1, by omega⟩
    have : (n - 1) * (k + 1) = (n - (k + 1)) + n * k := by
      obtain ⟨d, hd⟩ : ∃ d, n = d + (k + 1) := ⟨n - (k + 1), by omega⟩
      rw [show n - (k + 1) = d by omega, show n - 1 = d + k by omega]
      rw [hd]
      grind
    rw [this, Nat.add_mul_mod_self_left]
    exact Nat.mod_eq_of_lt (by omega)
  unfold up
  rw [h2, if_pos (by omega)]
/-! ### Eisenstein -/
theorem NN_floor (ho : n % 2 = 1) (ao : a % 2 = 1) (hc : Nat.gcd a n = 1) : NN a n % 2 = S (hf n) (fun k => a * (k + 1) / n) % 2 := by
  have hn := hf_odd ho
  have e1 : S (hf n) (fun k => a * (k + 1)) = n * S (hf n) (fun k => a * (k + 1) / n) + S (hf n) (rs a n) := by
    rw [← S_mul, ← S_add]
    exact S_congr fun k _ => (Nat.div_add_mod (a * (k + 1)) n).symm
  have e2 : S (hf n) (rs a n) % 2 = (S (hf n) (fun k => k + 1) + NN a n) % 2 := by
    have : S (hf n) (rs a n) % 2 = S (hf n) (fun k => (nr a n k + 1) + up a n k) % 2 := S_mod fun k hk => by
      rcases rs_nr ho hc hk with ⟨u, h⟩ | ⟨u, h⟩ <;> omega
    rw [this, S_add, S_nr ho hc (fun k => k + 1)]
    rfl
  rw [S_mul] at e1
  generalize S (hf n) (fun k => k + 1) = A at *
  generalize S (hf n) (fun k => a * (k + 1) / n) = B at *
  generalize S (hf n) (rs a n) = C at *
  generalize NN a n = D at *
  have e3 : a * A % 2 = A % 2 := by rw [Nat.mul_mod, ao]; omega
  have e4 : n * B % 2 = B % 2 := by rw [Nat.mul_mod, ho]; omega
  omega
/-- how many j there are with (j + 1) n < x -/
theorem count_below (hn : 0 < n) {x : Nat} (hx : ¬ n ∣ x) : ∀ H : Nat, x / n ≤ H → S H (fun j => if (j + 1) * n < x then 1 else 0) = x / n := by
  intro H hH
  rw [← S_le H (x / n) hH]
  refine S_congr fun j _ => ?_
  have h1 := Nat.div_add_mod x n
  have h2 := Nat.mod_lt x hn
  have h3 : x % n ≠ 0 := fun z => hx (Nat.dvd_of_mod_eq_zero z)
  have key : (j + 1) * n < x ↔ j < x / n := by
    constructor
    · intro h
      rcases Nat.lt_or_ge j (x / n) with z | z
      · exact z
      · have := Nat.mul_le_mul_left n (show x / n + 1 ≤ j + 1 by omega)
        have e : (j + 1) * n = n * (j + 1) := Nat.mul_comm _ _
        rw [Nat.mul_add] at this
        omega
    · intro h
      have := Nat.mul_le_mul_left n (show j + 1 ≤ x / n by omega)
      have e : (j + 1) * n = n * (j + 1) := Nat.mul_comm _ _
      omega
  by_cases z : j < x / n
  · rw [if_pos z, if_pos (key.mpr z)]
  · rw [if_neg z, if_neg (fun w => z (key.mp w))]
theorem floor_le {m : Nat} (ho : n % 2 = 1) (mo : m % 2 = 1) {k : Nat} (hk : k < hf n) : m * (k + 1) / n ≤ hf m := by
  have hn := hf_odd ho
  have hm := hf_odd mo
  have h1 : 2 * (m * (k + 1)) < m * n := by
    have := Nat.mul_lt_mul_of_pos_left (show 2 * (k + 1) < n by omega) (show 0 < m by omega)
    rw [show m * (2 * (k + 1)) = 2 * (m * (k + 1)) by grind] at this
    exact this
  have h2 : m * (k + 1) < n * (hf m + 1) := by
    have : 2 * (n * (hf m + 1)) = n * (m + 1) := by
      rw [show n * (m + 1) = n * (2 * hf m + 1 + 1) by rw [← hm]]
      grind
    have e : n * (m + 1) = m * n + n := by grind
    omega
  have := Nat.div_lt_of_lt_mul h2
  omega
theorem lattice {m : Nat} (ho : n % 2 = 1) (mo : m % 2 = 1) (hc : Nat.gcd m n = 1) : S (hf n) (fun k => m * (k + 1) / n) + S (hf m) (fun j => n * (j + 1) / m) = hf n * hf m := by
  have hn := hf_odd ho
  have hm := hf_odd mo
  have nd : ∀ k, k < hf n → ¬ n ∣ m * (k + 1) := fun k hk hd => by
    have h2 := Nat.Coprime.dvd_of_dvd_mul_left (Nat.Coprime.symm hc) hd
    have := Nat.le_of_dvd (by omega) h2
    omega
  have md : ∀ j, j < hf m → ¬ m ∣ n * (j + 1) := fun j hj hd => by
    have h2 := Nat.Coprime.dvd_of_dvd_mul_left hc hd
    have := Nat.le_of_dvd (by omega) h2
    omega
  have e1 : S (hf n) (fun k => m * (k + 1) / n) = S (hf n) (fun k => S (hf m) (fun j => if (j + 1) * n < m * (k + 1) then 1 else 0)) :=
    S_congr fun k hk => (count_below (by omega) (nd k hk) (hf m) (floor_le ho mo hk)).symm
  have e2 : S (hf m) (fun j => n * (j + 1) / m) = S (hf n) (fun k => S (hf m) (fun j => if (k + 1) * m < n * (j + 1) then 1 else 0)) := by
    rw [S_swap]
    exact S_congr fun j hj => (count_below (by omega) (md j hj) (hf n) (floor_le mo ho hj)).symm
  rw [e1, e2, ← S_add]
  rw [S_congr (g := fun _ => hf m) (fun k hk => ?_), S_const]
  rw [← S_add, S_congr (g := fun _ => 1) (fun j hj => ?_), S_const, Nat.mul_one]
  have ne : (j + 1) * n ≠ m * (k + 1) := fun z => nd k hk ⟨j + 1, by rw [← z, Nat.mul_comm]⟩
  have q1 : (k + 1) * m = m * (k + 1) := Nat.mul_comm _ _
  have q2 : n * (j + 1) = (j + 1) * n := Nat.mul_comm _ _
  rw [q1, q2]
  split <;> split <;> omega
/-- turning round -/
theorem NN_round {m : Nat} (ho : n % 2 = 1) (mo : m % 2 = 1) (hc : Nat.gcd m n = 1) : (NN m n + NN n m) % 2 = if m % 4 = 3 ∧ n % 4 = 3 then 1 else 0 := by
  have h1 := NN_floor ho mo hc
  have h2 := NN_floor mo ho (by rw [Nat.gcd_comm]; exact hc)
  have h3 := lattice ho mo hc
  have h4 : hf n * hf m % 2 = (hf n % 2) * (hf m % 2) % 2 := Nat.mul_mod _ _ _
  have a1 : hf n % 2 = if n % 4 = 3 then 1 else 0 := by unfold hf; split <;> omega
  have a2 : hf m % 2 = if m % 4 = 3 then 1 else 0 := by unfold hf; split <;> omega
  rw [a1, a2] at h4
  by_cases c1 : m % 4 = 3 <;> by_cases c2 : n % 4 = 3 <;> simp [c1, c2] at h4 ⊢ <;> omega
end
/-! ### the sign as an integer -/
def sg (k : Nat) : Int := if k % 2 = 0 then 1 else -1
theorem sg_add (j k : Nat) : sg (j + k) = sg j * sg k := by
  unfold sg
  split <;> split <;> split <;> first | rfl | omega
theorem sg_congr {j k : Nat} (h : j % 2 = k % 2) : sg j = sg k := by unfold sg; rw [h]
def jac (a n : Nat) : Int := if Nat.gcd a n = 1 then sg (NN a n) else 0
section
variable {a b n : Nat}
theorem jac_mod (a n : Nat) : jac (a % n) n = jac a n := by
  unfold jac
  rw [NN_mod]
  have : Nat.gcd (a % n) n = Nat.gcd a n := by rw [← Nat.gcd_rec, Nat.gcd_comm]
  simp only [this]
theorem jac_mul (ho : n % 2 = 1) : jac (a * b) n = jac a n * jac b n := by
  unfold jac
  by_cases ha : Nat.gcd a n = 1
  · by_cases hb : Nat.gcd b n = 1
    · rw [if_pos ha, if_pos hb, if_pos (Nat.Coprime.mul_left ha hb), ← sg_add]
      exact sg_congr (NN_mul ho ha hb)
    · rw [if_neg hb, Int.mul_zero, if_neg]
      exact fun h => hb (Nat.Coprime.coprime_mul_left h)
  · rw [if_neg ha, Int.zero_mul, if_neg]
    exact fun h => ha (Nat.Coprime.coprime_mul_right h)
theorem jac_two (ho : n % 2 = 1) : jac 2 n = if n % 8 = 1 ∨ n % 8 = 7 then 1 else -1 := by
  have hc : Nat.gcd 2 n = 1 := by
    rw [Nat.gcd_rec, ho]; rfl
  unfold jac
  rw [if_pos hc]
  have := NN_two ho
  unfold sg
  split <;> split <;> simp_all
theorem jac_round {m : Nat} (ho : n % 2 = 1) (mo : m % 2 = 1) : jac m n = if m % 4 = 3 ∧ n % 4 = 3 then - jac n m else jac n m := by
  unfold jac
  simp only [Nat.gcd_comm n m]
  by_cases hc : Nat.gcd m n = 1
  · rw [if_pos hc, if_pos hc]
    have := NN_round ho mo hc
    unfold sg
    split at this <;> split <;> split <;> first | rfl | omega
  · rw [if_neg hc, if_neg hc]
    split <;> rfl
theorem jac_zero (n : Nat) : jac 0 n = if n = 1 then 1 else 0 := by
  unfold jac
  simp only [Nat.gcd_zero_left]
  by_cases h : n = 1
  · subst h; rfl
  · rw [if_neg h, if_neg h]
theorem jac_neg (ho : n % 2 = 1) : jac (n - 1) n = if n % 4 = 1 then 1 else -1 := by
  have hc : Nat.gcd (n - 1) n = 1 := by
    obtain ⟨m, rfl⟩ : ∃ m, n = m + 1 := ⟨n - 1, by omega⟩
    show Nat.gcd m (m + 1) = 1
    simp
  unfold jac
  rw [if_pos hc, NN_neg ho]
  unfold sg hf
  split <;> split <;> first | rfl | omega
theorem jac_vals (a n : Nat) : jac a n = 0 ∨ jac a n = 1 ∨ jac a n = -1 := by
  unfold jac sg
  split
  · split
    · exact .inr (.inl rfl)
    · exact .inr (.inr rfl)
  · exact .inl rfl
theorem jac_eq_zero : jac a n = 0 ↔ Nat.gcd a n ≠ 1 := by
  unfold jac sg
  split <;> (try split) <;> simp_all
end
/-- of an integer -/
def jacI (a : Int) (n : Nat) : Int := jac (a % n).toNat n
section
variable {n : Nat} {a b : Int}
theorem jacI_cast (a n : Nat) : jacI (a : Int) n = jac a n := by
  unfold jacI
  rw [show ((a : Int) % (n : Int)).toNat = a % n by rw [← Int.natCast_emod]; rfl, jac_mod]
theorem jacI_congr (h : a % n = b % n) : jacI a n = jacI b n := by unfold jacI; rw [h]
theorem jacI_mul (ho : n % 2 = 1) : jacI (a * b) n = jacI a n * jacI b n := by
  have n0 : (n : Int) ≠ 0 := by omega
  have e : jacI (a * b) n = jacI (((a % n).toNat * (b % n).toNat : Nat) : Int) n := by
    refine jacI_congr ?_
    have h1 : (((a % n).toNat : Nat) : Int) = a % n := Int.toNat_of_nonneg (Int.emod_nonneg _ n0)
    have h2 : (((b % n).toNat : Nat) : Int) = b % n := Int.toNat_of_nonneg (Int.emod_nonneg _ n0)
    rw [Int.natCast_mul, h1, h2, ← Int.mul_emod]
  rw [e, jacI_cast, jac_mul ho]
  rfl
theorem jacI_vals (a : Int) (n : Nat) : jacI a n = 0 ∨ jacI a n = 1 ∨ jacI a n = -1 := jac_vals _ _
theorem jacI_eq_zero (hn : 0 < n) : jacI a n = 0 ↔ Int.gcd a n ≠ 1 := by
  unfold jacI
  rw [jac_eq_zero]
  have h1 : (((a % n).toNat : Nat) : Int) = a % n := Int.toNat_of_nonneg (Int.emod_nonneg _ (by omega))
  have h2 : Nat.gcd (a % n).toNat n = Int.gcd a n := by
    have : Int.gcd (((a % n).toNat : Nat) : Int) n = Int.gcd a n := by rw [h1, Int.emod_def, Int.gcd_sub_mul_left_left]
    rw [← this]; rfl
  rw [h2]
theorem jacI_neg (ho : n % 2 = 1) : jacI (-1) n = if n % 4 = 1 then 1 else -1 := by
  by_cases h : n = 1
  · subst h; rfl
  · have e : jacI (-1) n = jacI ((n - 1 : Nat) : Int) n := by
      refine jacI_congr ?_
      have : ((n - 1 : Nat) : Int) = -1 + n := by omega
      rw [this, Int.add_emod_right]
    rw [e, jacI_cast, jac_neg ho]
end
end Mth
namespace Cl
open PySem PySem.Spec PyProof.Rows L2 Mth
def ir_sign_of_b0 : S := (.seq (.aug 0 .FloorDiv (.int 2)) (.seq (.ite (.cmp .In (.bin .Mod (.var 1) (.int 8)) (.tup (.cons (.int 3) (.cons (.int 5) .nil)))) (.seq (.asg (.tg (.nm 2)) (.neg (.var 2))) .nop) .nop) .nop))
def ir_sign_of_b1 : S := (.seq (.whl (.cmp .Eq (.bin .Mod (.var 0) (.int 2)) (.int 0)) ir_sign_of_b0) (.seq (.par [0, 1] (.cons (.var 1) (.cons (.var 0) .nil))) (.seq (.ite (.and (.cmp .Eq (.bin .Mod (.var 0) (.int 4)) (.int 3)) (.cmp .Eq (.bin .Mod (.var 1) (.int 4)) (.int 3))) (.seq (.asg (.tg (.nm 2)) (.neg (.var 2))) .nop) .nop) (.seq (.aug 0 .Mod (.var 1)) .nop))))
def ir_sign_of_2 : S := (.ret (.ite (.cmp .Eq (.var 1) (.int 1)) (.var 2) (.int 0)))
def ir_sign_of_1 : S := (.whl (.var 0) ir_sign_of_b1)
def ir_sign_of_0 : S := (.par [0, 2] (.cons (.bin .Mod (.var 0) (.var 1)) (.cons (.int 1) .nil)))
def ir_sign_of : S := (.seq ir_sign_of_0 (.seq ir_sign_of_1 (.seq ir_sign_of_2 .nop)))
noncomputable def p_sign_of : List D → PR := fun ds => pureOf (runF (semS { tab := [] } [] ir_sign_of) 2 3 ds [])

theorem jac_half {t m : Nat} (mo : m % 2 = 1) : jac (2 * t) m = (if m % 8 = 3 ∨ m % 8 = 5 then -1 else 1) * jac t m := by
  rw [jac_mul mo, jac_two mo]
  by_cases h : m % 8 = 3 ∨ m % 8 = 5
  · rw [if_pos h, if_neg (by omega)]
  · rw [if_neg h, if_pos (by omega)]
theorem ev_sign {a : Int} {n : Nat} (ho : n % 2 = 1) (ln : n < 2 ^ 60) : p_sign_of [.int a, .int n] = .ok (.int (jacI a n)) := by
  refine p_ends [some (.int a), some (.int n), none] ?_
  unfold ir_sign_of
  have n0 : 0 < n := by omega
  have hpos := Int.emod_nonneg a (show (n : Int) ≠ 0 by omega)
  have hlt := Int.emod_lt_of_pos a (show (0 : Int) < n by omega)
  obtain ⟨a0, ha0⟩ := Int.eq_ofNat_of_zero_le hpos
  have hj : jacI a n = jac a0 n := by rw [← jacI_cast]; exact jacI_congr (by rw [← ha0, Int.emod_emod_of_dvd _ (Int.dvd_refl _)])
  rw [hj]
  refine ends_step (e := [some (.int a0), some (.int n), some (.int 1)]) (h' := []) (by simp (disch := first | omega | (simp; done) | fail) [ir_sign_of_0, semS, semE, semA, semN, semO, semI, exS, bnd, optM, pur, setTg, seqM, lsM, binM, binL, augM, biM, bnM, cmpM, cmpI, ltM, leM, inM, eqF, flatD, isM, Cl.isNon, truM, intM, idxM, slcM, lenM, lstAt, Cl.putAt, isaM, tyM, tyName, lsrcM, srcM, calmly, depOk_nil, sizeLine_eq, wipeE, gmul_r, gmul_l, gdiv, gmod, gmod', fdiv_pos, fmod_pos, grg, grg2, gsz, atI_pos, ha0]) ?_
  refine ends_seq ?_
  unfold ir_sign_of_1
  refine ends_whl (fun _ _ => rfl) (fun k e h => ∃ (m : Nat) (s : Int), h = [] ∧ e = [some (.int k), some (.int m), some (.int s)] ∧ m % 2 = 1 ∧ k < m ∧ m ≤ n ∧ s * jac k m = jac a0 n) ?_ a0 ⟨n, 1, rfl, rfl, ho, by omega, Nat.le_refl n, Int.one_mul _⟩
  rintro k e hc ⟨m, s, rfl, rfl, mo, hkm, hmn, hs⟩
  by_cases k0 : k = 0
  · subst k0
    refine .inl ⟨[], by simp (disch := first | omega | (simp; done) | fail) [semS, semE, semA, semN, semO, semI, exS, bnd, optM, pur, setTg, seqM, lsM, binM, binL, augM, biM, bnM, cmpM, cmpI, ltM, leM, inM, eqF, flatD, isM, Cl.isNon, truM, intM, idxM, slcM, lenM, lstAt, Cl.putAt, isaM, tyM, tyName, lsrcM, srcM, calmly, depOk_nil, sizeLine_eq, wipeE, gmul_r, gmul_l, gdiv, gmod, gmod', fdiv_pos, fmod_pos, grg, grg2, gsz, atI_pos], ?_⟩
    rw [jac_zero] at hs
    by_cases m1 : m = 1
    · rw [if_pos m1, Int.mul_one] at hs
      refine ends_seq (ends_rt (d := .int s) (h := []) (by simp (disch := first | omega | (simp; done) | fail) [ir_sign_of_2, semS, semE, semA, semN, semO, semI, exS, bnd, optM, pur, setTg, seqM, lsM, binM, binL, augM, biM, bnM, cmpM, cmpI, ltM, leM, inM, eqF, flatD, isM, Cl.isNon, truM, intM, idxM, slcM, lenM, lstAt, Cl.putAt, isaM, tyM, tyName, lsrcM, srcM, calmly, depOk_nil, sizeLine_eq, wipeE, gmul_r, gmul_l, gdiv, gmod, gmod', fdiv_pos, fmod_pos, grg, grg2, gsz, atI_pos, m1]) (by rw [hs]))
    · rw [if_neg m1, Int.mul_zero] at hs
      have m1i : ¬ (m : Int) = 1 := by omega
      refine ends_seq (ends_rt (d := .int 0) (h := []) (by simp (disch := first | omega | (simp; done) | fail) [ir_sign_of_2, semS, semE, semA, semN, semO, semI, exS, bnd, optM, pur, setTg, seqM, lsM, binM, binL, augM, biM, bnM, cmpM, cmpI, ltM, leM, inM, eqF, flatD, isM, Cl.isNon, truM, intM, idxM, slcM, lenM, lstAt, Cl.putAt, isaM, tyM, tyName, lsrcM, srcM, calmly, depOk_nil, sizeLine_eq, wipeE, gmul_r, gmul_l, gdiv, gmod, gmod', fdiv_pos, fmod_pos, grg, grg2, gsz, atI_pos, m1i]) (by rw [← hs]))
  · refine .inr ⟨[], by simp (disch := first | omega | (simp; done) | fail) [semS, semE, semA, semN, semO, semI, exS, bnd, optM, pur, setTg, seqM, lsM, binM, binL, augM, biM, bnM, cmpM, cmpI, ltM, leM, inM, eqF, flatD, isM, Cl.isNon, truM, intM, idxM, slcM, lenM, lstAt, Cl.putAt, isaM, tyM, tyName, lsrcM, srcM, calmly, depOk_nil, sizeLine_eq, wipeE, gmul_r, gmul_l, gdiv, gmod, gmod', fdiv_pos, fmod_pos, grg, grg2, gsz, atI_pos, k0], ?_⟩
    refine Ends.toB ?_
    unfold ir_sign_of_b1
    refine ends_seq ?_
    refine ends_whl (N := fun e h => Ends _ _ _) (fun _ _ => rfl) (fun t e h => ∃ (s : Int), h = [] ∧ e = [some (.int t), some (.int m), some (.int s)] ∧ 0 < t ∧ t ≤ k ∧ s * jac t m = jac a0 n) ?_ k ⟨s, rfl, rfl, by omega, Nat.le_refl k, hs⟩
    rintro t e hc ⟨s, rfl, rfl, ht0, htk, hs⟩
    by_cases te : t % 2 = 0
    · have tei : (t : Int) % 2 = 0 := by omega
      refine .inr ⟨[], by simp (disch := first | omega | (simp; done) | fail) [semS, semE, semA, semN, semO, semI, exS, bnd, optM, pur, setTg, seqM, lsM, binM, binL, augM, biM, bnM, cmpM, cmpI, ltM, leM, inM, eqF, flatD, isM, Cl.isNon, truM, intM, idxM, slcM, lenM, lstAt, Cl.putAt, isaM, tyM, tyName, lsrcM, srcM, calmly, depOk_nil, sizeLine_eq, wipeE, gmul_r, gmul_l, gdiv, gmod, gmod', fdiv_pos, fmod_pos, grg, grg2, gsz, atI_pos, tei], ?_⟩
      have e2 : t = 2 * (t / 2) := by omega
      rw [e2, jac_half mo] at hs
      have ed : (t : Int) / 2 = ((t / 2 : Nat) : Int) := by omega
      by_cases c : m % 8 = 3 ∨ m % 8 = 5
      · rw [if_pos c] at hs
        have ci : (3 : Int) = (m : Int) % 8 ∨ (5 : Int) = (m : Int) % 8 := by omega
        refine Ends.toB (ends_nx (e := [some (.int (t / 2 : Nat)), some (.int m), some (.int (-s))]) (h := []) (by simp (disch := first | omega | (simp; done) | fail) [ir_sign_of_b0, semS, semE, semA, semN, semO, semI, exS, bnd, optM, pur, setTg, seqM, lsM, binM, binL, augM, biM, bnM, cmpM, cmpI, ltM, leM, inM, eqF, flatD, isM, Cl.isNon, truM, intM, idxM, slcM, lenM, lstAt, Cl.putAt, isaM, tyM, tyName, lsrcM, srcM, calmly, depOk_nil, sizeLine_eq, wipeE, gmul_r, gmul_l, gdiv, gmod, gmod', fdiv_pos, fmod_pos, grg, grg2, gsz, atI_pos, ci]) ⟨t / 2, by omega, -s, rfl, rfl, by omega, by omega, by rw [← hs]; grind⟩)
      · rw [if_neg c, Int.one_mul] at hs
        have ci : ¬ ((3 : Int) = (m : Int) % 8 ∨ (5 : Int) = (m : Int) % 8) := by omega
        have c1 : ¬ ((3 : Int) = (m : Int) % 8) := by omega
        have c2 : ¬ ((5 : Int) = (m : Int) % 8) := by omega
        refine Ends.toB (ends_nx (e := [some (.int (t / 2 : Nat)), some (.int m), some (.int s)]) (h := []) (by simp (disch := first | omega | (simp; done) | fail) [ir_sign_of_b0, semS, semE, semA, semN, semO, semI, exS, bnd, optM, pur, setTg, seqM, lsM, binM, binL, augM, biM, bnM, cmpM, cmpI, ltM, leM, inM, eqF, flatD, isM, Cl.isNon, truM, intM, idxM, slcM, lenM, lstAt, Cl.putAt, isaM, tyM, tyName, lsrcM, srcM, calmly, depOk_nil, sizeLine_eq, wipeE, gmul_r, gmul_l, gdiv, gmod, gmod', fdiv_pos, fmod_pos, grg, grg2, gsz, atI_pos, c1, c2]) ⟨t / 2, by omega, s, rfl, rfl, by omega, by omega, hs⟩)
    · have tei : ¬ (t : Int) % 2 = 0 := by omega
      refine .inl ⟨[], by simp (disch := first | omega | (simp; done) | fail) [semS, semE, semA, semN, semO, semI, exS, bnd, optM, pur, setTg, seqM, lsM, binM, binL, augM, biM, bnM, cmpM, cmpI, ltM, leM, inM, eqF, flatD, isM, Cl.isNon, truM, intM, idxM, slcM, lenM, lstAt, Cl.putAt, isaM, tyM, tyName, lsrcM, srcM, calmly, depOk_nil, sizeLine_eq, wipeE, gmul_r, gmul_l, gdiv, gmod, gmod', fdiv_pos, fmod_pos, grg, grg2, gsz, atI_pos, tei], ?_⟩
      have to : t % 2 = 1 := by omega
      refine ends_step (e := [some (.int m), some (.int t), some (.int s)]) (h' := []) (by simp (disch := first | omega | (simp; done) | fail) [semS, semE, semA, semN, semO, semI, exS, bnd, optM, pur, setTg, seqM, lsM, binM, binL, augM, biM, bnM, cmpM, cmpI, ltM, leM, inM, eqF, flatD, isM, Cl.isNon, truM, intM, idxM, slcM, lenM, lstAt, Cl.putAt, isaM, tyM, tyName, lsrcM, srcM, calmly, depOk_nil, sizeLine_eq, wipeE, gmul_r, gmul_l, gdiv, gmod, gmod', fdiv_pos, fmod_pos, grg, grg2, gsz, atI_pos]) ?_
      have hr := jac_round mo to
      have hm := jac_mod m t
      have hlt2 := Nat.mod_lt m ht0
      by_cases c : t % 4 = 3 ∧ m % 4 = 3
      · rw [if_pos c] at hr
        have c1 : (t : Int) % 4 = 3 := by omega
        have c2 : (m : Int) % 4 = 3 := by omega
        refine ends_step (e := [some (.int m), some (.int t), some (.int (-s))]) (h' := []) (by simp (disch := first | omega | (simp; done) | fail) [semS, semE, semA, semN, semO, semI, exS, bnd, optM, pur, setTg, seqM, lsM, binM, binL, augM, biM, bnM, cmpM, cmpI, ltM, leM, inM, eqF, flatD, isM, Cl.isNon, truM, intM, idxM, slcM, lenM, lstAt, Cl.putAt, isaM, tyM, tyName, lsrcM, srcM, calmly, depOk_nil, sizeLine_eq, wipeE, gmul_r, gmul_l, gdiv, gmod, gmod', fdiv_pos, fmod_pos, grg, grg2, gsz, atI_pos, c1, c2]) ?_
        refine ends_nx (e := [some (.int (m % t : Nat)), some (.int t), some (.int (-s))]) (h := []) (by simp (disch := first | omega | (simp; done) | fail) [semS, semE, semA, semN, semO, semI, exS, bnd, optM, pur, setTg, seqM, lsM, binM, binL, augM, biM, bnM, cmpM, cmpI, ltM, leM, inM, eqF, flatD, isM, Cl.isNon, truM, intM, idxM, slcM, lenM, lstAt, Cl.putAt, isaM, tyM, tyName, lsrcM, srcM, calmly, depOk_nil, sizeLine_eq, wipeE, gmul_r, gmul_l, gdiv, gmod, gmod', fdiv_pos, fmod_pos, grg, grg2, gsz, atI_pos]) ⟨m % t, by omega, t, -s, rfl, rfl, to, hlt2, by omega, ?_⟩
        rw [hm, ← hs, hr]; grind
      · rw [if_neg c] at hr
        refine ends_step (e := [some (.int m), some (.int t), some (.int s)]) (h' := []) (by
          by_cases c2 : m % 4 = 3
          · have c1 : ¬ (t : Int) % 4 = 3 := by omega
            have c2 : (m : Int) % 4 = 3 := by omega
            simp (disch := first | omega | (simp; done) | fail) [semS, semE, semA, semN, semO, semI, exS, bnd, optM, pur, setTg, seqM, lsM, binM, binL, augM, biM, bnM, cmpM, cmpI, ltM, leM, inM, eqF, flatD, isM, Cl.isNon, truM, intM, idxM, slcM, lenM, lstAt, Cl.putAt, isaM, tyM, tyName, lsrcM, srcM, calmly, depOk_nil, sizeLine_eq, wipeE, gmul_r, gmul_l, gdiv, gmod, gmod', fdiv_pos, fmod_pos, grg, grg2, gsz, atI_pos, c1, c2]
          · have c2 : ¬ (m : Int) % 4 = 3 := by omega
            simp (disch := first | omega | (simp; done) | fail) [semS, semE, semA, semN, semO, semI, exS, bnd, optM, pur, setTg, seqM, lsM, binM, binL, augM, biM, bnM, cmpM, cmpI, ltM, leM, inM, eqF, flatD, isM, Cl.isNon, truM, intM, idxM, slcM, lenM, lstAt, Cl.putAt, isaM, tyM, tyName, lsrcM, srcM, calmly, depOk_nil, sizeLine_eq, wipeE, gmul_r, gmul_l, gdiv, gmod, gmod', fdiv_pos, fmod_pos, grg, grg2, gsz, atI_pos, c2]) ?_
        refine ends_nx (e := [some (.int (m % t : Nat)), some (.int t), some (.int s)]) (h := []) (by simp (disch := first | omega | (simp; done) | fail) [semS, semE, semA, semN, semO, semI, exS, bnd, optM, pur, setTg, seqM, lsM, binM, binL, augM, biM, bnM, cmpM, cmpI, ltM, leM, inM, eqF, flatD, isM, Cl.isNon, truM, intM, idxM, slcM, lenM, lstAt, Cl.putAt, isaM, tyM, tyName, lsrcM, srcM, calmly, depOk_nil, sizeLine_eq, wipeE, gmul_r, gmul_l, gdiv, gmod, gmod', fdiv_pos, fmod_pos, grg, grg2, gsz, atI_pos]) ⟨m % t, by omega, t, s, rfl, rfl, to, hlt2, by omega, ?_⟩
        rw [hm, ← hs, hr]
end Cl
/-! Chips on a land: plain. -/
namespace Mth
abbrev Ways := List (Nat × Nat)
/-- what firing y takes from v -/
def tk (y : Nat → Int) (v : Nat) (p : Nat × Nat) : Int := (if p.1 = v then y p.1 - y p.2 else 0) + (if p.2 = v then y p.2 - y p.1 else 0)
def LL (ws : Ways) (y : Nat → Int) (v : Nat) : Int := (ws.map (tk y v)).sum
def dg (v : Nat) (p : Nat × Nat) : Int := (if p.1 = v then 1 else 0) + (if p.2 = v then 1 else 0)
def deg (ws : Ways) (v : Nat) : Int := (ws.map (dg v)).sum
theorem LL_cons (p : Nat × Nat) (ws : Ways) (y : Nat → Int) (v : Nat) : LL (p :: ws) y v = tk y v p + LL ws y v := by simp [LL]
theorem deg_cons (p : Nat × Nat) (ws : Ways) (v : Nat) : deg (p :: ws) v = dg v p + deg ws v := by simp [deg]
theorem dg_nonneg (v : Nat) (p : Nat × Nat) : 0 ≤ dg v p := by unfold dg; split <;> split <;> omega
theorem deg_nonneg (ws : Ways) (v : Nat) : 0 ≤ deg ws v := by
  induction ws with
  | nil => simp [deg]
  | cons p ws ih => rw [deg_cons]; have := dg_nonneg v p; omega
theorem LL_add (ws : Ways) (x y : Nat → Int) (v : Nat) : LL ws (fun u => x u + y u) v = LL ws x v + LL ws y v := by
  induction ws with
  | nil => simp [LL]
  | cons p ws ih =>
    rw [LL_cons, LL_cons, LL_cons, ih]
    have : tk (fun u => x u + y u) v p = tk x v p + tk y v p := by unfold tk; dsimp only; split <;> split <;> omega
    omega
theorem LL_sub (ws : Ways) (x y : Nat → Int) (v : Nat) : LL ws (fun u => x u - y u) v = LL ws x v - LL ws y v := by
  have h := LL_add ws (fun u => x u - y u) y v
  have e : (fun u => (x u - y u) + y u) = x := by funext u; omega
  rw [e] at h
  omega
theorem LL_mul (ws : Ways) (t : Int) (y : Nat → Int) (v : Nat) : LL ws (fun u => t * y u) v = t * LL ws y v := by
  induction ws with
  | nil => simp [LL]
  | cons p ws ih =>
    rw [LL_cons, LL_cons, ih, Int.mul_add]
    have : tk (fun u => t * y u) v p = t * tk y v p := by unfold tk; split <;> split <;> grind
    omega
theorem LL_congr {ws : Ways} {x y : Nat → Int} {v n : Nat} (hw : ∀ p ∈ ws, p.1 < n ∧ p.2 < n) (h : ∀ u, u < n → x u = y u) : LL ws x v = LL ws y v := by
  induction ws with
  | nil => rfl
  | cons p ws ih =>
    obtain ⟨h1, h2⟩ := hw p List.mem_cons_self
    rw [LL_cons, LL_cons, ih fun q hq => hw q (List.mem_cons_of_mem _ hq)]
    unfold tk
    rw [h _ h1, h _ h2]
theorem LL_zero (ws : Ways) (v : Nat) : LL ws (fun _ => 0) v = 0 := by
  induction ws with
  | nil => rfl
  | cons p ws ih => rw [LL_cons, ih]; unfold tk; dsimp only; split <;> split <;> omega
/-- where y is beyond x, v gives away at most its own ways' more -/
theorem LL_le {ws : Ways} {x y : Nat → Int} (h : ∀ u, x u ≤ y u) (v : Nat) : LL ws y v ≤ LL ws x v + (y v - x v) * deg ws v := by
  induction ws with
  | nil => simp [LL, deg]
  | cons p ws ih =>
    rw [LL_cons, LL_cons, deg_cons, Int.mul_add]
    have h1 := h p.1
    have h2 := h p.2
    have : tk y v p ≤ tk x v p + (y v - x v) * dg v p := by
      unfold tk dg
      by_cases a : p.1 = v <;> by_cases b : p.2 = v <;> simp only [a, b, if_true, if_false] <;> (try subst a) <;> (try subst b) <;> grind
    omega
/-- y brings all places but home to rest -/
structure Stab (n : Nat) (ws : Ways) (c y : Nat → Int) : Prop where
  nn : ∀ v, 0 ≤ y v
  home : y 0 = 0
  rest : ∀ v, 1 ≤ v → v < n → c v - LL ws y v < deg ws v
/-- x is legal: below all that bring to rest -/
structure Legal (n : Nat) (ws : Ways) (c x : Nat → Int) : Prop where
  nn : ∀ v, 0 ≤ x v
  home : x 0 = 0
  low : ∀ y, Stab n ws c y → ∀ v, x v ≤ y v
theorem Legal.zero (n : Nat) (ws : Ways) (c : Nat → Int) : Legal n ws c (fun _ => 0) := ⟨fun _ => Int.le_refl 0, rfl, fun y h v => h.nn v⟩
def bump (x : Nat → Int) (v : Nat) (m : Int) : Nat → Int := fun u => if u = v then x u + m else x u
/-- firing v m times where it has as many chips -/
theorem Legal.fire {n : Nat} {ws : Ways} {c x : Nat → Int} (h : Legal n ws c x) {v : Nat} {m : Int} (h1 : 1 ≤ v) (hn : v < n) (hm : 0 ≤ m) (hc : m * deg ws v ≤ c v - LL ws x v) : Legal n ws c (bump x v m) := by
  refine ⟨fun u => ?_, ?_, fun y hy u => ?_⟩
  · unfold bump; have := h.nn u; split <;> omega
  · unfold bump; rw [if_neg (by omega)]; exact h.home
  · have hl := h.low y hy
    unfold bump
    split
    · next e =>
      subst e
      rcases Int.lt_or_le (y u) (x u + m) with z | z
      · exfalso
        have k1 := LL_le hl (ws := ws) u
        have k2 := hy.rest u h1 hn
        have k3 := deg_nonneg ws u
        have k4 := hl u
        have k5 : (y u - x u + 1) * deg ws u ≤ m * deg ws u := Int.mul_le_mul_of_nonneg_right (by omega) k3
        rw [Int.add_mul, Int.one_mul] at k5
        omega
      · exact z
    · exact hl u
/-- the least way to rest -/
structure IsRest (n : Nat) (ws : Ways) (c x : Nat → Int) : Prop where
  legal : Legal n ws c x
  stab : Stab n ws c x
theorem IsRest.uniq {n : Nat} {ws : Ways} {c x y : Nat → Int} (h : IsRest n ws c x) (h' : IsRest n ws c y) : x = y := by
  funext v
  exact Int.le_antisymm (h.legal.low y h'.stab v) (h'.legal.low x h.stab v)
/-- chips may be put on before or behind resting -/
theorem IsRest.more {n : Nat} {ws : Ways} {c x m z w : Nat → Int} (hm : ∀ v, 0 ≤ m v) (h : IsRest n ws c x) (hz : IsRest n ws (fun v => c v + m v) z) (hw : IsRest n ws (fun v => c v - LL ws x v + m v) w) : z = fun v => x v + w v := by
  have s1 : Stab n ws (fun v => c v + m v) (fun v => x v + w v) := ⟨fun v => by have := h.stab.nn v; have := hw.stab.nn v; omega, by have := h.stab.home; have := hw.stab.home; omega, fun v h1 h2 => by
    have := hw.stab.rest v h1 h2
    rw [LL_add]; omega⟩
  have s2 : Stab n ws c z := ⟨hz.stab.nn, hz.stab.home, fun v h1 h2 => by
    have := hz.stab.rest v h1 h2
    have := hm v
    omega⟩
  have s3 : Stab n ws (fun v => c v - LL ws x v + m v) (fun v => z v - x v) := ⟨fun v => by have := h.legal.low z s2 v; omega, by have := h.stab.home; have := hz.stab.home; omega, fun v h1 h2 => by
    have := hz.stab.rest v h1 h2
    rw [LL_sub]; omega⟩
  funext v
  have a := hz.legal.low _ s1 v
  have b := hw.legal.low _ s3 v
  omega
/-! ### there is a way to rest -/
def hh (B n v : Nat) : Int := (B : Int) ^ n - (B : Int) ^ (n - v)
theorem pow_step {B n v : Nat} (h1 : 1 ≤ v) (hn : v ≤ n) : (B : Int) ^ (n - (v - 1)) = B * (B : Int) ^ (n - v) := by
  rw [show n - (v - 1) = (n - v) + 1 by omega, Int.pow_succ, Int.mul_comm]
theorem pow_pos' {B : Nat} (hB : 1 ≤ B) (k : Nat) : (1 : Int) ≤ (B : Int) ^ k := by
  have : 0 < B ^ k := Nat.pow_pos hB
  have e : ((B ^ k : Nat) : Int) = (B : Int) ^ k := by push_cast; rfl
  omega
theorem pow_mono' {B : Nat} (hB : 1 ≤ B) {j k : Nat} (h : j ≤ k) : (B : Int) ^ j ≤ (B : Int) ^ k := by
  have : B ^ j ≤ B ^ k := Nat.pow_le_pow_right hB h
  have e1 : ((B ^ j : Nat) : Int) = (B : Int) ^ j := by push_cast; rfl
  have e2 : ((B ^ k : Nat) : Int) = (B : Int) ^ k := by push_cast; rfl
  omega
theorem tk_hh {B n v : Nat} {p : Nat × Nat} (hB : 1 ≤ B) (hp : p.1 < p.2) (hv : v ≤ n) : -((B : Int) ^ (n - v)) ≤ tk (hh B n) v p ∧ (p.2 = v → ((B : Int) - 1) * (B : Int) ^ (n - v) ≤ tk (hh B n) v p) := by
  have g := pow_pos' hB (n - v)
  have low : ∀ u, 1 ≤ (B : Int) ^ (n - u) := fun u => pow_pos' hB _
  unfold tk hh
  by_cases a : p.1 = v
  · have b : ¬ p.2 = v := by omega
    have := low p.2
    simp only [a, b, if_true, if_false]
    exact ⟨by omega, fun z => absurd z (by simp)⟩
  · by_cases b : p.2 = v
    · have e : (B : Int) ^ (n - (v - 1)) ≤ (B : Int) ^ (n - p.1) := pow_mono' hB (by omega)
      rw [pow_step (by omega) hv] at e
      simp only [a, b, if_true, if_false]
      refine ⟨?_, fun _ => ?_⟩
      · have : (B : Int) ^ (n - v) ≤ B * (B : Int) ^ (n - v) := by
          have := Int.mul_le_mul_of_nonneg_right (show (1 : Int) ≤ B by omega) (show 0 ≤ (B : Int) ^ (n - v) by omega)
          omega
        omega
      · rw [Int.sub_mul, Int.one_mul]; omega
    · simp only [a, b, if_false]
      exact ⟨by omega, fun z => absurd z (by simp)⟩
theorem LL_hh {B n v : Nat} {ws : Ways} (hB : ws.length + 2 ≤ B) (hw : ∀ p ∈ ws, p.1 < p.2) (hv : v ≤ n) (hs : ∃ p ∈ ws, p.2 = v) : 1 ≤ LL ws (hh B n) v := by
  have g := pow_pos' (B := B) (by omega) (n - v)
  have low : ∀ ws : Ways, (∀ p ∈ ws, p.1 < p.2) → -((ws.length : Int) * (B : Int) ^ (n - v)) ≤ LL ws (hh B n) v := by
    intro ws hw
    induction ws with
    | nil => simp [LL]
    | cons p ws ih =>
      have h1 := ih fun q hq => hw q (List.mem_cons_of_mem _ hq)
      have h2 := (tk_hh (B := B) (v := v) (n := n) (by omega) (hw p List.mem_cons_self) hv).1
      rw [LL_cons, List.length_cons]
      push_cast
      rw [Int.add_mul, Int.one_mul]
      omega
  have main : ∀ ws : Ways, (∀ p ∈ ws, p.1 < p.2) → (∃ p ∈ ws, p.2 = v) → ((B : Int) - ws.length) * (B : Int) ^ (n - v) ≤ LL ws (hh B n) v := by
    intro ws hw hs
    induction ws with
    | nil => obtain ⟨p, hp, _⟩ := hs; cases hp
    | cons p ws ih =>
      have t := tk_hh (B := B) (v := v) (n := n) (by omega) (hw p List.mem_cons_self) hv
      rw [LL_cons, List.length_cons]
      push_cast
      by_cases e : p.2 = v
      · have h1 := low ws fun q hq => hw q (List.mem_cons_of_mem _ hq)
        have h2 := t.2 e
        rw [Int.sub_mul] at h2 ⊢
        rw [Int.one_mul] at h2
        rw [Int.add_mul, Int.one_mul]
        omega
      · have h1 := ih (fun q hq => hw q (List.mem_cons_of_mem _ hq)) (by
          obtain ⟨q, hq, eq⟩ := hs
          rcases List.mem_cons.mp hq with z | z
          · subst z; exact absurd eq e
          · exact ⟨q, z, eq⟩)
        have h2 := t.1
        rw [Int.sub_mul] at h1 ⊢
        rw [Int.add_mul, Int.one_mul]
        omega
  have h := main ws hw hs
  have h2 : 2 * (B : Int) ^ (n - v) ≤ ((B : Int) - ws.length) * (B : Int) ^ (n - v) := Int.mul_le_mul_of_nonneg_right (by omega) (by omega)
  omega
theorem deg_pos {ws : Ways} {v : Nat} (hs : ∃ p ∈ ws, p.2 = v) : 1 ≤ deg ws v := by
  induction ws with
  | nil => obtain ⟨p, hp, _⟩ := hs; cases hp
  | cons p ws ih =>
    rw [deg_cons]
    have h1 := dg_nonneg v p
    have h2 := deg_nonneg ws v
    by_cases e : p.2 = v
    · have : 1 ≤ dg v p := by unfold dg; rw [if_pos e]; split <;> omega
      omega
    · have := ih (by
        obtain ⟨q, hq, eq⟩ := hs
        rcases List.mem_cons.mp hq with z | z
        · subst z; exact absurd eq e
        · exact ⟨q, z, eq⟩)
      omega
/-- each place has a way to an earlier one -/
structure Land (n : Nat) (ws : Ways) : Prop where
  lt : ∀ p ∈ ws, p.1 < p.2 ∧ p.2 < n
  up : ∀ v, 1 ≤ v → v < n → ∃ p ∈ ws, p.2 = v
theorem exists_stab {n : Nat} {ws : Ways} (hl : Land n ws) (c : Nat → Int) : ∃ y, Stab n ws c y := by
  -- a bound of all chips
  obtain ⟨t, ht0, ht⟩ : ∃ t : Int, 0 ≤ t ∧ ∀ v, v < n → c v ≤ t := by
    induction n with
    | zero => exact ⟨0, Int.le_refl 0, fun v h => by omega⟩
    | succ n ih =>
      have : ∀ n : Nat, ∃ t : Int, 0 ≤ t ∧ ∀ v, v < n → c v ≤ t := by
        intro n
        induction n with
        | zero => exact ⟨0, Int.le_refl 0, fun v h => by omega⟩
        | succ n ih =>
          obtain ⟨t, h0, h1⟩ := ih
          refine ⟨max t (c n), by omega, fun v hv => ?_⟩
          by_cases e : v = n
          · subst e; omega
          · have := h1 v (by omega); omega
      exact this (n + 1)
  have hlt : ∀ p ∈ ws, p.1 < p.2 := fun p hp => (hl.lt p hp).1
  refine ⟨fun v => if v ≤ n then t * hh (ws.length + 2) n v else 0, fun v => ?_, ?_, fun v h1 hn => ?_⟩
  · split
    · refine Int.mul_nonneg ht0 ?_
      unfold hh
      have := pow_mono' (B := ws.length + 2) (by omega) (show n - v ≤ n by omega)
      omega
    · exact Int.le_refl 0
  · simp [hh]
  · have e : LL ws (fun v => if v ≤ n then t * hh (ws.length + 2) n v else 0) v = t * LL ws (hh (ws.length + 2) n) v := by
      rw [← LL_mul]
      refine LL_congr (n := n) (fun p hp => by have := hl.lt p hp; omega) fun u hu => ?_
      rw [if_pos (by omega)]
    rw [e]
    have h2 := LL_hh (B := ws.length + 2) (n := n) (v := v) (ws := ws) (Nat.le_refl _) hlt (by omega) (hl.up v h1 hn)
    have h3 := deg_pos (hl.up v h1 hn)
    have h4 := Int.mul_le_mul_of_nonneg_left h2 ht0
    have h5 := ht v hn
    omega
/-! ### the fire table -/
def ent (p : Nat × Nat) (i j : Nat) : Int := (if p.1 = i ∧ p.1 = j then 1 else 0) + (if p.2 = i ∧ p.2 = j then 1 else 0) - (if p.1 = i ∧ p.2 = j then 1 else 0) - (if p.2 = i ∧ p.1 = j then 1 else 0)
def tabF (ws : Ways) (i j : Nat) : Int := (ws.map fun p => ent p i j).sum
theorem tabF_cons (p : Nat × Nat) (ws : Ways) (i j : Nat) : tabF (p :: ws) i j = ent p i j + tabF ws i j := by simp [tabF]
theorem tabF_snoc (ws : Ways) (p : Nat × Nat) (i j : Nat) : tabF (ws ++ [p]) i j = tabF ws i j + ent p i j := by simp [tabF]
theorem tab_diag {ws : Ways} (h : ∀ p ∈ ws, p.1 < p.2) (v : Nat) : tabF ws v v = deg ws v := by
  induction ws with
  | nil => rfl
  | cons p ws ih =>
    rw [tabF_cons, deg_cons, ih fun q hq => h q (List.mem_cons_of_mem _ hq)]
    have := h p List.mem_cons_self
    congr 1
    unfold ent dg
    by_cases a : p.1 = v <;> by_cases b : p.2 = v <;> simp [a, b]
    omega
theorem tab_bump (ws : Ways) (x : Nat → Int) (i : Nat) (m : Int) (v : Nat) : LL ws (bump x i m) v = LL ws x v + m * tabF ws i v := by
  induction ws with
  | nil => simp [LL, tabF]
  | cons p ws ih =>
    rw [LL_cons, LL_cons, tabF_cons, ih, Int.mul_add]
    have : tk (bump x i m) v p = tk x v p + m * ent p i v := by
      unfold tk bump ent
      by_cases a : p.1 = v <;> by_cases b : p.2 = v <;> by_cases c : p.1 = i <;> by_cases d : p.2 = i <;> simp only [a, b, c, d, if_true, if_false, and_self, and_true, true_and, and_false, false_and] <;> grind
    omega
theorem ent_bound (p : Nat × Nat) (i j : Nat) : -2 ≤ ent p i j ∧ ent p i j ≤ 2 := by
  unfold ent
  split <;> split <;> split <;> split <;> omega
theorem tab_bound (ws : Ways) (i j : Nat) : -(2 * (ws.length : Int)) ≤ tabF ws i j ∧ tabF ws i j ≤ 2 * ws.length := by
  induction ws with
  | nil => simp [tabF]
  | cons p ws ih =>
    rw [tabF_cons, List.length_cons]
    have := ent_bound p i j
    push_cast
    omega
theorem deg_bound (ws : Ways) (v : Nat) : deg ws v ≤ 2 * ws.length := by
  induction ws with
  | nil => simp [deg]
  | cons p ws ih =>
    rw [deg_cons, List.length_cons]
    have : dg v p ≤ 2 := by unfold dg; split <;> split <;> omega
    push_cast
    omega
theorem LL_snoc (ws : Ways) (p : Nat × Nat) (y : Nat → Int) (v : Nat) : LL (ws ++ [p]) y v = LL ws y v + tk y v p := by simp [LL]
theorem nodup_le : ∀ (n : Nat) (W : List Nat), W.Nodup → (∀ w ∈ W, w < n) → W.length ≤ n
  | 0, W, _, h => by
    cases W with
    | nil => simp
    | cons w W => exact absurd (h w List.mem_cons_self) (by omega)
  | n + 1, W, nd, h => by
    have h1 := nodup_le n (W.erase n) (nd.erase n) (fun w hw => by
      have h2 := h w (List.mem_of_mem_erase hw)
      have h3 : w ≠ n := fun z => by subst z; exact nd.not_mem_erase hw
      omega)
    have h4 := List.length_erase (a := n) (l := W)
    split at h4 <;> omega
end Mth
namespace Cl
open PySem PySem.Spec PyProof.Rows L2 Mth
def ir_fire_table_b0 : S := (.seq (.augS (.idx (.var 4) (.var 5)) (.var 5) .Add (.int 1)) (.seq (.augS (.idx (.var 4) (.var 6)) (.var 6) .Add (.int 1)) (.seq (.augS (.idx (.var 4) (.var 5)) (.var 6) .Sub (.int 1)) (.seq (.augS (.idx (.var 4) (.var 6)) (.var 5) .Sub (.int 1)) .nop))))
def ir_fire_table_3 : S := (.ret (.bi .tuple (.cons (.comp [7] (.nm 7) (.var 4) .nil (.bi .tuple (.cons (.var 7) .nil))) .nil)))
def ir_fire_table_2 : S := (.for (.tp [5, 6]) (.var 2) ir_fire_table_b0)
def ir_fire_table_1 : S := (.asg (.tg (.nm 4)) (.comp [3] (.nm 3) (.rng1 (.var 1)) .nil (.trk (.binL .Mult (.lst (.cons (.int 0) .nil)) (.var 1)))))
def ir_fire_table_0 : S := (.asg (.tg (.tp [1, 2])) (.var 0))
def ir_fire_table : S := (.seq ir_fire_table_0 (.seq ir_fire_table_1 (.seq ir_fire_table_2 (.seq ir_fire_table_3 .nop))))
def ir_degrees_1 : S := (.ret (.bi .tuple (.cons (.comp [2] (.nm 2) (.rng1 (.idx (.var 0) (.int 0))) .nil (.idx (.idx (.var 1) (.var 2)) (.var 2))) .nil)))
def ir_degrees_0 : S := (.asg (.tg (.nm 1)) (.call 0 (.cons (.var 0) .nil)))
def ir_degrees : S := (.seq ir_degrees_0 (.seq ir_degrees_1 .nop))
def ir_is_resting_0 : S := (.ret (.bi .all (.cons (.comp [2, 3] (.tp [2, 3]) (.zip (.slc (.var 1) (.int 1) .nil) (.slc (.call 0 (.cons (.var 0) .nil)) (.int 1) .nil)) .nil (.chain .LtE .Lt (.int 0) (.var 2) (.var 3))) .nil)))
def ir_is_resting : S := (.seq ir_is_resting_0 .nop)
def ir_rested_b0 : S := (.seq (.augS (.var 4) (.var 9) .Sub (.bin .Mult (.var 8) (.idx (.idx (.var 2) (.var 6)) (.var 9)))) .nop)
def ir_rested_b1 : S := (.seq (.asg (.tg (.nm 6)) (.pop (.var 7))) (.seq (.asg (.tg (.nm 8)) (.bin .FloorDiv (.idx (.var 4) (.var 6)) (.idx (.var 3) (.var 6)))) (.seq (.ite (.cmp .Gt (.var 8) (.int 0)) (.seq (.augS (.var 5) (.var 6) .Add (.var 8)) (.seq (.for (.nm 9) (.rng1 (.idx (.var 0) (.int 0))) ir_rested_b0) (.seq (.ex (.ext (.var 7) (.comp [9] (.nm 9) (.rng2 (.int 1) (.idx (.var 0) (.int 0))) (.and (.cmp .GtE (.idx (.var 4) (.var 9)) (.idx (.var 3) (.var 9))) (.cmp .NotIn (.var 9) (.var 7))) (.var 9)))) .nop))) .nop) .nop)))
def ir_rested_4 : S := (.ret (.tup (.cons (.bi .tuple (.cons (.var 4) .nil)) (.cons (.bi .tuple (.cons (.var 5) .nil)) .nil))))
def ir_rested_3 : S := (.whl (.var 7) ir_rested_b1)
def ir_rested_2 : S := (.asg (.tg (.nm 7)) (.trk (.comp [6] (.nm 6) (.rng2 (.int 1) (.idx (.var 0) (.int 0))) (.cmp .GtE (.idx (.var 4) (.var 6)) (.idx (.var 3) (.var 6))) (.var 6))))
def ir_rested_1 : S := (.asg (.tg (.tp [4, 5])) (.tup (.cons (.trk (.bn .list (.cons (.var 1) .nil))) (.cons (.trk (.binL .Mult (.lst (.cons (.int 0) .nil)) (.idx (.var 0) (.int 0)))) .nil))))
def ir_rested_0 : S := (.asg (.tg (.tp [2, 3])) (.tup (.cons (.call 0 (.cons (.var 0) .nil)) (.cons (.call 1 (.cons (.var 0) .nil)) .nil))))
def ir_rested : S := (.seq ir_rested_0 (.seq ir_rested_1 (.seq ir_rested_2 (.seq ir_rested_3 (.seq ir_rested_4 .nop)))))
noncomputable def p_fire_table : List D → PR := fun ds => pureOf (runF (semS { tab := [] } [] ir_fire_table) 1 8 ds [])
noncomputable def p_degrees : List D → PR := fun ds => pureOf (runF (semS { tab := [(liftP p_fire_table)] } [] ir_degrees) 1 3 ds [])
noncomputable def p_is_resting : List D → PR := fun ds => pureOf (runF (semS { tab := [(liftP p_degrees)] } [] ir_is_resting) 2 4 ds [])
noncomputable def p_rested : List D → PR := fun ds => pureOf (runF (semS { tab := [(liftP p_fire_table), (liftP p_degrees)] } [] ir_rested) 2 10 ds [])

/-- a comprehension whose turns are told by their number -/
theorem comp_ix {G : Gt} {C : List D} {own : List Nat} {tg : Tg} {src elt : I} {env : Env} {h : Hc} {α : Type} (I : Nat → Hc → Prop) (g : α → D) (l : List α) (emb : α → D) (h0 : Hc) (hs : semI G C src env h0 = .ok ⟨l.map emb, []⟩ h) (hl : l.length ≤ 16000000) (hI : I 0 h)
    (step : ∀ (i : Nat) a h, l[i]? = some a → I i h → ∃ e h1 h2, setTg tg (emb a) (wipeE env own) h = .ok e h1 ∧ semE G C elt e h1 = .ok (g a) h2 ∧ I (i + 1) h2) :
    ∃ h', semN G C (.comp own tg src .nil elt) env h0 = .ok (l.map g) h' ∧ I l.length h' := by
  have go : ∀ (l' : List α) (k : Nat), (∀ (i : Nat) a h, l'[i]? = some a → I (k + i) h → ∃ e h1 h2, setTg tg (emb a) (wipeE env own) h = .ok e h1 ∧ semE G C elt e h1 = .ok (g a) h2 ∧ I (k + i + 1) h2) → ∀ h, I k h →
      ∃ h', compL tg (wipeE env own) [] (fun e => bnd (semE G C elt e) fun d => pur (some d)) (l'.map emb) h = .ok (l'.map g) h' ∧ I (k + l'.length) h' := by
    intro l'
    induction l' with
    | nil => intro k _ h hI; exact ⟨h, by simp only [List.map_nil, compL, depOk_nil, pur], hI⟩
    | cons a l' ih =>
      intro k st h hI
      obtain ⟨e, h1, h2, e1, e2, hI2⟩ := st 0 a h rfl hI
      obtain ⟨h', e3, hI3⟩ := ih (k + 1) (fun i b h q j => by
        have := st (i + 1) b h (by simpa using q) (by rw [show k + (i + 1) = k + 1 + i by omega]; exact j)
        rw [show k + (i + 1) + 1 = k + 1 + i + 1 by omega] at this
        exact this) h2 hI2
      refine ⟨h', ?_, by rw [List.length_cons, show k + (l'.length + 1) = k + 1 + l'.length by omega]; exact hI3⟩
      simp only [List.map_cons, compL, depOk_nil, bnd, e1, e2, e3, pur]
  obtain ⟨h', e, r⟩ := go l 0 (fun i a h q j => by
    rw [Nat.zero_add] at j ⊢
    exact step i a h q j) h hI
  rw [Nat.zero_add] at r
  refine ⟨h', ?_, r⟩
  have hl2 : (l.map emb).length ≤ sizeLine := by rw [List.length_map]; exact sl_big hl
  simp only [semN, bnd, hs, guard_true _ hl2, calmly, e]
/-! ### rows and tables of numbers -/
def rowD (n : Nat) (f : Nat → Int) : List D := (List.range n).map fun j => D.int (f j)
def tabD (n : Nat) (F : Nat → Nat → Int) : List D := (List.range n).map fun i => D.tup (rowD n (F i))
def matH (n : Nat) (F : Nat → Nat → Int) : Hc := (List.range n).map fun i => O.lst (rowD n (F i))
@[simp] theorem rowD_len (n : Nat) (f : Nat → Int) : (rowD n f).length = n := by simp [rowD]
@[simp] theorem tabD_len (n : Nat) (F : Nat → Nat → Int) : (tabD n F).length = n := by simp [tabD]
@[simp] theorem noRef_rowD (n : Nat) (f : Nat → Int) : noRefL (rowD n f) = true := noRefL_map (fun _ => rfl) _
@[simp] theorem noRef_tabD (n : Nat) (F : Nat → Nat → Int) : noRefL (tabD n F) = true := noRefL_map (fun _ => by simp [noRef]) _
theorem rowD_get {n : Nat} {f : Nat → Int} {j : Nat} (h : j < n) : (rowD n f)[j]? = some (.int (f j)) := by simp [rowD, h]
theorem tabD_get {n : Nat} {F : Nat → Nat → Int} {j : Nat} (h : j < n) : (tabD n F)[j]? = some (.tup (rowD n (F j))) := by simp [tabD, h]
theorem matH_get {n : Nat} {F : Nat → Nat → Int} {i : Nat} (h : i < n) : (matH n F)[i]? = some (.lst (rowD n (F i))) := by simp [matH, h]
theorem rowD_congr {n : Nat} {f g : Nat → Int} (h : ∀ j, j < n → f j = g j) : rowD n f = rowD n g := by
  unfold rowD
  exact List.map_congr_left fun j hj => by rw [h j (List.mem_range.mp hj)]
theorem atI_row {n : Nat} {f : Nat → Int} {j : Nat} (h : j < n) : atI (rowD n f) (j : Int) = some (.int (f j)) := by
  rw [Cl.atI_pos (by omega)]; exact rowD_get h
theorem atI_tab {n : Nat} {F : Nat → Nat → Int} {j : Nat} (h : j < n) : atI (tabD n F) (j : Int) = some (.tup (rowD n (F j))) := by
  rw [Cl.atI_pos (by omega)]; exact tabD_get h
theorem ixN_nat {n j : Nat} (h : j < n) : ixN n (j : Int) = some j := by
  unfold ixN
  rw [if_pos (by omega), if_pos (by omega)]; rfl
theorem rowD_set {n : Nat} {f : Nat → Int} {j : Nat} {v : Int} (h : j < n) : (rowD n f).set j (.int v) = rowD n (fun k => if k = j then v else f k) := by
  apply List.ext_getElem?
  intro k
  rw [List.getElem?_set]
  by_cases e : j = k
  · subst e
    simp [rowD, h]
  · rw [if_neg e]
    by_cases hk : k < n
    · rw [rowD_get hk, rowD_get hk, if_neg (fun z => e z.symm)]
    · simp [rowD, hk]
def upd2 (F : Nat → Nat → Int) (a b : Nat) (v : Int) : Nat → Nat → Int := fun i j => if i = a ∧ j = b then v else F i j
theorem matH_set {n : Nat} {F : Nat → Nat → Int} {a b : Nat} {v : Int} (ha : a < n) (hb : b < n) : (matH n F).set a (.lst ((rowD n (F a)).set b (.int v))) = matH n (upd2 F a b v) := by
  apply List.ext_getElem?
  intro k
  rw [List.getElem?_set]
  by_cases e : a = k
  · subst e
    rw [if_pos rfl, if_pos (by simp [matH, ha]), matH_get ha, rowD_set hb]
    congr 2
    exact rowD_congr fun j _ => by unfold upd2; simp
  · rw [if_neg e]
    by_cases hk : k < n
    · rw [matH_get hk, matH_get hk]
      congr 2
      exact rowD_congr fun j _ => by unfold upd2; rw [if_neg (fun z => e z.1.symm)]
    · simp [matH, hk]
@[simp] theorem matH_len (n : Nat) (F : Nat → Nat → Int) : (matH n F).length = n := by simp [matH]
theorem rep_flat1 {α : Type} (n : Nat) (d : α) : (List.replicate n [d]).flatten = List.replicate n d := by
  induction n with
  | zero => rfl
  | succ n ih => rw [List.replicate_succ, List.flatten_cons, ih]; rfl
theorem rowD_zero (n : Nat) : List.replicate n (D.int 0) = rowD n (fun _ => 0) := by
  unfold rowD
  apply List.ext_getElem?
  intro k
  by_cases h : k < n <;> simp [h]
abbrev encW (ws : Ways) : D := .tup (ws.map fun p => D.tup [.int p.1, .int p.2])
abbrev encLand (n : Nat) (ws : Ways) : D := .tup [.int n, encW ws]
theorem noRef_encW (ws : Ways) : noRefL (ws.map fun p => D.tup [.int p.1, .int p.2]) = true := noRefL_map (fun _ => rfl) _
theorem noRef_land (n : Nat) (ws : Ways) : noRef (encLand n ws) = true := by simp [noRef, noRefL, noRef_encW]
/-- one cell of the table -/
theorem aug_cell {G : Gt} {n a b : Nat} {F : Nat → Nat → Int} {env : Env} {x y : Nat} {c : Int} {o : Operator} (ha : a < n) (hb : b < n) (h4 : env[4]? = some (some (.fl ((List.range n).map fun i => D.ref i)))) (hx : env[x]? = some (some (.int a))) (hy : env[y]? = some (some (.int b)))
    (ho : ∀ h, augM o (.int (F a b)) (.int 1) h = .ok (.int (F a b + c)) h) : semS G [] (.augS (.idx (.var 4) (.var x)) (.var y) o (.int 1)) env (matH n F) = .nx env (matH n (upd2 F a b (F a b + c))) := by
  have g1 : atI ((List.range n).map fun i => D.ref i) (a : Int) = some (.ref a) := by rw [Cl.atI_pos (by omega)]; simp [ha]
  simp only [semS, semE, exS, bnd, h4, hx, hy, optM, Option.bind_some, id, pur, idxM, seqM, g1, lstAt, matH_get ha, atI_row hb, ho, rowD_len, ixN_nat hb, Cl.putAt, matH_len, ha, if_true, matH_set ha hb]
theorem table_step {F : Nat → Nat → Int} {p : Nat × Nat} (hp : p.1 < p.2) :
    upd2 (upd2 (upd2 (upd2 F p.1 p.1 (F p.1 p.1 + 1)) p.2 p.2 (upd2 F p.1 p.1 (F p.1 p.1 + 1) p.2 p.2 + 1)) p.1 p.2 (upd2 (upd2 F p.1 p.1 (F p.1 p.1 + 1)) p.2 p.2 (upd2 F p.1 p.1 (F p.1 p.1 + 1) p.2 p.2 + 1) p.1 p.2 + -1)) p.2 p.1
      (upd2 (upd2 (upd2 F p.1 p.1 (F p.1 p.1 + 1)) p.2 p.2 (upd2 F p.1 p.1 (F p.1 p.1 + 1) p.2 p.2 + 1)) p.1 p.2 (upd2 (upd2 F p.1 p.1 (F p.1 p.1 + 1)) p.2 p.2 (upd2 F p.1 p.1 (F p.1 p.1 + 1) p.2 p.2 + 1) p.1 p.2 + -1) p.2 p.1 + -1) = fun i j => F i j + ent p i j := by
  obtain ⟨a, b⟩ := p
  dsimp only at hp ⊢
  have hab : a ≠ b := by omega
  have hba : b ≠ a := by omega
  funext i j
  unfold upd2 ent
  dsimp only
  by_cases i1 : i = a <;> by_cases i2 : i = b <;> by_cases j1 : j = a <;> by_cases j2 : j = b <;> (try subst i1) <;> (try subst i2) <;> (try subst j1) <;> (try subst j2) <;> simp_all <;> omega
theorem ev_fire {n : Nat} {ws : Ways} (hn : n ≤ 1000) (hw : ∀ p ∈ ws, p.1 < p.2 ∧ p.2 < n) (hl : ws.length ≤ 10000) : p_fire_table [encLand n ws] = .ok (.tup (tabD n (tabF ws))) := by
  refine p_ends [some (encLand n ws), none, none, none, none, none, none, none] ?_ (noRef_tabD _ _)
  unfold ir_fire_table
  refine ends_step (e := [some (encLand n ws), some (.int n), some (encW ws), none, none, none, none, none]) (h' := []) (by simp (disch := first | omega | (simp; done) | fail) [ir_fire_table_0, semS, semE, semA, semN, semO, semI, exS, bnd, optM, pur, setTg, seqM, lsM, binM, binL, augM, biM, bnM, cmpM, cmpI, ltM, leM, inM, eqF, flatD, isM, Cl.isNon, truM, intM, idxM, slcM, lenM, lstAt, Cl.putAt, isaM, tyM, tyName, lsrcM, srcM, calmly, depOk_nil, sizeLine_eq, wipeE, gmul_r, gmul_l, gdiv, gmod, gmod', fdiv_pos, fmod_pos, grg, grg2, gsz, atI_pos, gle]) ?_
  obtain ⟨h1, e1, r1⟩ := comp_ix (G := { tab := [] }) (C := []) (own := [3]) (tg := .nm 3) (src := .rng1 (.var 1)) (elt := .trk (.binL .Mult (.lst (.cons (.int 0) .nil)) (.var 1))) (env := [some (encLand n ws), some (.int n), some (encW ws), none, none, none, none, none]) (h := [])
    (fun k h => h = (List.range k).map (fun _ => O.lst (List.replicate n (.int 0)))) (fun i => D.ref i) (List.range n) (fun i : Nat => D.int (0 + (i : Int))) [] (by simp (disch := first | omega | (simp; done) | fail) [semS, semE, semA, semN, semO, semI, exS, bnd, optM, pur, setTg, seqM, lsM, binM, binL, augM, biM, bnM, cmpM, cmpI, ltM, leM, inM, eqF, flatD, isM, Cl.isNon, truM, intM, idxM, slcM, lenM, lstAt, Cl.putAt, isaM, tyM, tyName, lsrcM, srcM, calmly, depOk_nil, sizeLine_eq, wipeE, gmul_r, gmul_l, gdiv, gmod, gmod', fdiv_pos, fmod_pos, grg, grg2, gsz, atI_pos, rangeD_eq]) (by simp; omega) rfl (fun i a h hi hh => by
      subst hh
      have ha : a = i ∧ i < n := by
        rw [List.getElem?_eq_some_iff] at hi
        obtain ⟨h1, h2⟩ := hi
        simp at h1 h2
        omega
      obtain ⟨rfl, hi⟩ := ha
      refine ⟨[some (encLand n ws), some (.int n), some (encW ws), some (.int a), none, none, none, none], (List.range a).map (fun _ => O.lst (List.replicate n (.int 0))), (List.range (a + 1)).map (fun _ => O.lst (List.replicate n (.int 0))), by simp [semS, semE, semA, semN, semO, semI, exS, bnd, optM, pur, setTg, seqM, lsM, binM, binL, augM, biM, bnM, cmpM, cmpI, ltM, leM, inM, eqF, flatD, isM, Cl.isNon, truM, intM, idxM, slcM, lenM, lstAt, Cl.putAt, isaM, tyM, tyName, lsrcM, srcM, calmly, depOk_nil, sizeLine_eq, wipeE], ?_, rfl⟩
      have g : ∀ m : M (List D), Cl.guard (-9223372036854775808 ≤ (n : Int) ∧ (n : Int) < 9223372036854775808 ∧ 1 * n ≤ 16777216) m = m := fun m => gle (by omega)
      have rep := rep_flat1 n (D.int 0)
      simp (disch := first | omega | (simp; done) | fail) [semS, semE, semA, semN, semO, semI, exS, bnd, optM, pur, setTg, seqM, lsM, binM, binL, augM, biM, bnM, cmpM, cmpI, ltM, leM, inM, eqF, flatD, isM, Cl.isNon, truM, intM, idxM, slcM, lenM, lstAt, Cl.putAt, isaM, tyM, tyName, lsrcM, srcM, calmly, depOk_nil, sizeLine_eq, wipeE, gmul_r, gmul_l, gdiv, gmod, gmod', fdiv_pos, fmod_pos, grg, grg2, gsz, atI_pos, g, rep, List.range_succ])
  have r1 : h1 = matH n (fun _ _ => 0) := by
    rw [r1, List.length_range]
    unfold matH
    rw [rowD_zero]
  subst r1
  refine ends_step (e := [some (encLand n ws), some (.int n), some (encW ws), none, some (.fl ((List.range n).map fun i => D.ref i)), none, none, none]) (h' := matH n (fun _ _ => 0)) (by simp (disch := first | omega | (simp; done) | fail) [ir_fire_table_1, semS, semE, semA, semO, semI, exS, bnd, optM, pur, setTg, seqM, lsM, binM, binL, augM, biM, bnM, cmpM, cmpI, ltM, leM, inM, eqF, flatD, isM, Cl.isNon, truM, intM, idxM, slcM, lenM, lstAt, Cl.putAt, isaM, tyM, tyName, lsrcM, srcM, calmly, depOk_nil, sizeLine_eq, wipeE, gmul_r, gmul_l, gdiv, gmod, gmod', fdiv_pos, fmod_pos, grg, grg2, gsz, atI_pos, e1]) ?_
  refine ends_seq ?_
  unfold ir_fire_table_2
  refine ends_forS ws (fun p => D.tup [.int p.1, .int p.2]) (h0 := matH n (fun _ _ => 0)) (by simp (disch := first | omega | (simp; done) | fail) [semS, semE, semA, semN, semO, semI, exS, bnd, optM, pur, setTg, seqM, lsM, binM, binL, augM, biM, bnM, cmpM, cmpI, ltM, leM, inM, eqF, flatD, isM, Cl.isNon, truM, intM, idxM, slcM, lenM, lstAt, Cl.putAt, isaM, tyM, tyName, lsrcM, srcM, calmly, depOk_nil, sizeLine_eq, wipeE, gmul_r, gmul_l, gdiv, gmod, gmod', fdiv_pos, fmod_pos, grg, grg2, gsz, atI_pos]) (fun k e h => h = matH n (tabF (ws.take k)) ∧ ∃ o5 o6, e = [some (encLand n ws), some (.int n), some (encW ws), none, some (.fl ((List.range n).map fun i => D.ref i)), o5, o6, none]) ?_ ?_ ⟨rfl, none, none, rfl⟩
  · rintro k p env h hi ⟨rfl, o5, o6, rfl⟩
    have hp := hw p (List.mem_of_getElem? hi)
    have hk : k < ws.length := by
      rcases Nat.lt_or_ge k ws.length with z | z
      · exact z
      · rw [List.getElem?_eq_none_iff.mpr z] at hi; cases hi
    refine ⟨[some (encLand n ws), some (.int n), some (encW ws), none, some (.fl ((List.range n).map fun i => D.ref i)), some (.int p.1), some (.int p.2), none], by simp (disch := first | omega | (simp; done) | fail) [semS, semE, semA, semN, semO, semI, exS, bnd, optM, pur, setTg, seqM, lsM, binM, binL, augM, biM, bnM, cmpM, cmpI, ltM, leM, inM, eqF, flatD, isM, Cl.isNon, truM, intM, idxM, slcM, lenM, lstAt, Cl.putAt, isaM, tyM, tyName, lsrcM, srcM, calmly, depOk_nil, sizeLine_eq, wipeE, gmul_r, gmul_l, gdiv, gmod, gmod', fdiv_pos, fmod_pos, grg, grg2, gsz, atI_pos, gle], ?_⟩
    have et : tabF (ws.take (k + 1)) = fun i j => tabF (ws.take k) i j + ent p i j := by
      funext i j
      rw [List.take_succ, hi]
      exact tabF_snoc _ _ _ _
    rw [et]
    generalize tabF (ws.take k) = F
    unfold ir_fire_table_b0
    refine ends_step (aug_cell (c := 1) (a := p.1) (b := p.1) (by omega) (by omega) rfl rfl rfl (fun h => by simp [augM, binM, pur])) ?_
    refine ends_step (aug_cell (c := 1) (a := p.2) (b := p.2) (by omega) (by omega) rfl rfl rfl (fun h => by simp [augM, binM, pur])) ?_
    refine ends_step (aug_cell (c := -1) (a := p.1) (b := p.2) (by omega) (by omega) rfl rfl rfl (fun h => by simp [augM, binM, pur]; omega)) ?_
    refine ends_step (aug_cell (c := -1) (a := p.2) (b := p.1) (by omega) (by omega) rfl rfl rfl (fun h => by simp [augM, binM, pur]; omega)) ?_
    refine ends_nop ⟨?_, _, _, rfl⟩
    rw [table_step hp.1]
  · rintro env h ⟨rfl, o5, o6, rfl⟩
    rw [List.take_length]
    have k := comp_map (G := { tab := [] }) (C := []) (own := [7]) (tg := .nm 7) (src := .var 4) (elt := .bi .tuple (.cons (.var 7) .nil)) (env := [some (encLand n ws), some (.int n), some (encW ws), none, some (.fl ((List.range n).map fun i => D.ref i)), o5, o6, none]) (h := matH n (tabF ws))
      (List.range n) (fun i => D.ref i) (fun i => D.tup (rowD n (tabF ws i))) (by simp (disch := first | omega | (simp; done) | fail) [semS, semE, semA, semN, semO, semI, exS, bnd, optM, pur, setTg, seqM, lsM, binM, binL, augM, biM, bnM, cmpM, cmpI, ltM, leM, inM, eqF, flatD, isM, Cl.isNon, truM, intM, idxM, slcM, lenM, lstAt, Cl.putAt, isaM, tyM, tyName, lsrcM, srcM, calmly, depOk_nil, sizeLine_eq, wipeE, gmul_r, gmul_l, gdiv, gmod, gmod', fdiv_pos, fmod_pos, grg, grg2, gsz, atI_pos]) (by simp; omega) (fun i hi => by
        rw [List.mem_range] at hi
        refine ⟨[some (encLand n ws), some (.int n), some (encW ws), none, some (.fl ((List.range n).map fun i => D.ref i)), o5, o6, some (.ref i)], by simp [semS, semE, semA, semN, semO, semI, exS, bnd, optM, pur, setTg, seqM, lsM, binM, binL, augM, biM, bnM, cmpM, cmpI, ltM, leM, inM, eqF, flatD, isM, Cl.isNon, truM, intM, idxM, slcM, lenM, lstAt, Cl.putAt, isaM, tyM, tyName, lsrcM, srcM, calmly, depOk_nil, sizeLine_eq, wipeE], ?_⟩
        simp (disch := first | omega | (simp; done) | fail) [semS, semE, semA, semN, semO, semI, exS, bnd, optM, pur, setTg, seqM, lsM, binM, binL, augM, biM, bnM, cmpM, cmpI, ltM, leM, inM, eqF, flatD, isM, Cl.isNon, truM, intM, idxM, slcM, lenM, lstAt, Cl.putAt, isaM, tyM, tyName, lsrcM, srcM, calmly, depOk_nil, sizeLine_eq, wipeE, gmul_r, gmul_l, gdiv, gmod, gmod', fdiv_pos, fmod_pos, grg, grg2, gsz, atI_pos, matH_get hi])
    refine ends_seq (ends_rt (d := .tup (tabD n (tabF ws))) (h := matH n (tabF ws)) ?_ rfl)
    simp (disch := first | omega | (simp; done) | fail) [ir_fire_table_3, semS, semE, semA, semO, semI, exS, bnd, optM, pur, setTg, seqM, lsM, binM, binL, augM, biM, bnM, cmpM, cmpI, ltM, leM, inM, eqF, flatD, isM, Cl.isNon, truM, intM, idxM, slcM, lenM, lstAt, Cl.putAt, isaM, tyM, tyName, lsrcM, srcM, calmly, depOk_nil, sizeLine_eq, wipeE, gmul_r, gmul_l, gdiv, gmod, gmod', fdiv_pos, fmod_pos, grg, grg2, gsz, atI_pos, k, tabD]
theorem ev_degrees {n : Nat} {ws : Ways} (hn : n ≤ 1000) (hw : ∀ p ∈ ws, p.1 < p.2 ∧ p.2 < n) (hl : ws.length ≤ 10000) : p_degrees [encLand n ws] = .ok (.tup (rowD n (deg ws))) := by
  have e1 := ev_fire hn hw hl
  refine p_ends [some (encLand n ws), none, none] ?_ (noRef_rowD _ _)
  unfold ir_degrees
  refine ends_step (e := [some (encLand n ws), some (.tup (tabD n (tabF ws))), none]) (h' := []) (by simp (disch := first | omega | (simp; done) | fail) [ir_degrees_0, semS, semE, semA, semN, semO, semI, exS, bnd, optM, pur, setTg, seqM, lsM, binM, binL, augM, biM, bnM, cmpM, cmpI, ltM, leM, inM, eqF, flatD, isM, Cl.isNon, truM, intM, idxM, slcM, lenM, lstAt, Cl.putAt, isaM, tyM, tyName, lsrcM, srcM, calmly, depOk_nil, sizeLine_eq, wipeE, gmul_r, gmul_l, gdiv, gmod, gmod', fdiv_pos, fmod_pos, grg, grg2, gsz, atI_pos, liftP, noRefL, noRef_land, e1]) ?_
  have k := comp_map (G := { tab := [liftP p_fire_table] }) (C := []) (own := [2]) (tg := .nm 2) (src := .rng1 (.idx (.var 0) (.int 0))) (elt := .idx (.idx (.var 1) (.var 2)) (.var 2)) (env := [some (encLand n ws), some (.tup (tabD n (tabF ws))), none]) (h := [])
    (List.range n) (fun i : Nat => D.int (0 + (i : Int))) (fun i => D.int (deg ws i)) (by simp (disch := first | omega | (simp; done) | fail) [semS, semE, semA, semN, semO, semI, exS, bnd, optM, pur, setTg, seqM, lsM, binM, binL, augM, biM, bnM, cmpM, cmpI, ltM, leM, inM, eqF, flatD, isM, Cl.isNon, truM, intM, idxM, slcM, lenM, lstAt, Cl.putAt, isaM, tyM, tyName, lsrcM, srcM, calmly, depOk_nil, sizeLine_eq, wipeE, gmul_r, gmul_l, gdiv, gmod, gmod', fdiv_pos, fmod_pos, grg, grg2, gsz, atI_pos, rangeD_eq]) (by simp; omega) (fun i hi => by
      rw [List.mem_range] at hi
      refine ⟨[some (encLand n ws), some (.tup (tabD n (tabF ws))), some (.int i)], by simp [semS, semE, semA, semN, semO, semI, exS, bnd, optM, pur, setTg, seqM, lsM, binM, binL, augM, biM, bnM, cmpM, cmpI, ltM, leM, inM, eqF, flatD, isM, Cl.isNon, truM, intM, idxM, slcM, lenM, lstAt, Cl.putAt, isaM, tyM, tyName, lsrcM, srcM, calmly, depOk_nil, sizeLine_eq, wipeE], ?_⟩
      have d := tab_diag (fun p hp => (hw p hp).1) i
      simp only [semE, bnd, optM, pur, idxM, seqM, List.getElem?_cons_succ, List.getElem?_cons_zero, Option.bind_some, id, atI_tab hi, atI_row hi, d])
  refine ends_seq (ends_rt (d := .tup (rowD n (deg ws))) (h := []) ?_ rfl)
  simp (disch := first | omega | (simp; done) | fail) [ir_degrees_1, semS, semE, semA, semO, semI, exS, bnd, optM, pur, setTg, seqM, lsM, binM, binL, augM, biM, bnM, cmpM, cmpI, ltM, leM, inM, eqF, flatD, isM, Cl.isNon, truM, intM, idxM, slcM, lenM, lstAt, Cl.putAt, isaM, tyM, tyName, lsrcM, srcM, calmly, depOk_nil, sizeLine_eq, wipeE, gmul_r, gmul_l, gdiv, gmod, gmod', fdiv_pos, fmod_pos, grg, grg2, gsz, atI_pos, k, rowD]
/-! ### coming to rest -/
abbrev natsD (W : List Nat) : List D := W.map fun w => D.int (w : Nat)
theorem ends_ite {G : Gt} {C : List D} {t : I} {a b : S} {env : Env} {h h1 : Hc} {k : Bool} {N : Env → Hc → Prop} {R : D → Hc → Prop} (q : bnd (semE G C t env) truM h = .ok k h1) (x : Ends (if k = true then semS G C a env h1 else semS G C b env h1) N R) : Ends (semS G C (.ite t a b) env h) N R := by
  simp only [semS, exS, q]; exact x
theorem any_nats (W : List Nat) (v : Nat) : (natsD W).any (fun y => eqF y (.int v)) = decide (v ∈ W) := by
  induction W with
  | nil => simp
  | cons w W ih =>
    simp only [natsD, List.map_cons, List.any_cons] at ih ⊢
    rw [ih]
    by_cases e : w = v
    · subst e; simp [eqF]
    · have e2 : ¬ (w : Int) = v := by omega
      have e3 : ¬ v = w := fun z => e z.symm
      simp [eqF, e2, e3]
theorem flat_nats (W : List Nat) : (natsD W).all flatD = true := by
  rw [List.all_eq_true]
  intro d hd
  obtain ⟨w, _, rfl⟩ := List.mem_map.mp hd
  rfl
theorem S_bump {n v : Nat} {x Y : Nat → Int} {m : Int} (hv : v < n) (hm : 1 ≤ m) (h : x v + m ≤ Y v) : Mth.S n (fun u => (Y u - bump x v m u).toNat) < Mth.S n (fun u => (Y u - x u).toNat) := by
  induction n with
  | zero => omega
  | succ n ih =>
    rw [S_succ, S_succ]
    by_cases e : v = n
    · subst e
      have h1 : Mth.S v (fun u => (Y u - bump x v m u).toNat) = Mth.S v (fun u => (Y u - x u).toNat) := S_congr fun k hk => by
        unfold Mth.bump; rw [if_neg (by omega)]
      rw [h1]
      unfold Mth.bump
      rw [if_pos rfl]
      omega
    · have := ih (by omega)
      have h1 : bump x v m n = x n := by unfold Mth.bump; rw [if_neg (fun z => e z.symm)]
      rw [h1]; omega
structure RstI (n : Nat) (ws : Ways) (c x : Nat → Int) (W : List Nat) : Prop where
  legal : Legal n ws c x
  nd : W.Nodup
  inn : ∀ w ∈ W, 1 ≤ w ∧ w < n
  all : ∀ v, 1 ≤ v → v < n → deg ws v ≤ c v - LL ws x v → v ∈ W
  nn : ∀ v, 1 ≤ v → v < n → 0 ≤ c v - LL ws x v
theorem ev_rested {n : Nat} {ws : Ways} {c : Nat → Int} (hn1 : 1 ≤ n) (hn : n ≤ 1000) (hL : Land n ws) (hl : ws.length ≤ 10000) (hc : ∀ v, 1 ≤ v → v < n → 0 ≤ c v) :
    ∃ x, IsRest n ws c x ∧ (∀ v, 1 ≤ v → v < n → 0 ≤ c v - LL ws x v) ∧ p_rested [encLand n ws, .tup (rowD n c)] = .ok (.tup [.tup (rowD n fun v => c v - LL ws x v), .tup (rowD n x)]) := by
  obtain ⟨Y, hY⟩ := exists_stab hL c
  have e1 := ev_fire hn hL.lt hl
  have e2 := ev_degrees hn hL.lt hl
  have key : Ends (semS { tab := [liftP p_fire_table, liftP p_degrees] } [] ir_rested [some (encLand n ws), some (.tup (rowD n c)), none, none, none, none, none, none, none, none] []) (fun _ _ => False)
      (fun d _ => ∃ x, IsRest n ws c x ∧ (∀ v, 1 ≤ v → v < n → 0 ≤ c v - LL ws x v) ∧ d = .tup [.tup (rowD n fun v => c v - LL ws x v), .tup (rowD n x)]) := by
    unfold ir_rested
    refine ends_step (e := [some (encLand n ws), some (.tup (rowD n c)), some (.tup (tabD n (tabF ws))), some (.tup (rowD n (deg ws))), none, none, none, none, none, none]) (h' := []) (by simp (disch := first | omega | (simp; done) | fail) [ir_rested_0, semS, semE, semA, semN, semO, semI, exS, bnd, optM, pur, setTg, seqM, lsM, binM, binL, augM, biM, bnM, cmpM, cmpI, ltM, leM, inM, eqF, flatD, isM, Cl.isNon, truM, intM, idxM, slcM, lenM, lstAt, Cl.putAt, isaM, tyM, tyName, lsrcM, srcM, calmly, depOk_nil, sizeLine_eq, wipeE, gmul_r, gmul_l, gdiv, gmod, gmod', fdiv_pos, fmod_pos, grg, grg2, gsz, atI_pos, gle, liftP, noRefL, noRef_land, e1, e2]) ?_
    have gz : ∀ m : M (List D), Cl.guard (-9223372036854775808 ≤ (n : Int) ∧ (n : Int) < 9223372036854775808 ∧ 1 * n ≤ 16777216) m = m := fun m => gle (by omega)
    have rep := rep_flat1 n (D.int 0)
    have rz := rowD_zero n
    refine ends_step (e := [some (encLand n ws), some (.tup (rowD n c)), some (.tup (tabD n (tabF ws))), some (.tup (rowD n (deg ws))), some (.ref 0), some (.ref 1), none, none, none, none]) (h' := [.lst (rowD n c), .lst (rowD n fun _ => 0)]) (by simp (disch := first | omega | (simp; done) | fail) [ir_rested_1, semS, semE, semA, semN, semO, semI, exS, bnd, optM, pur, setTg, seqM, lsM, binM, binL, augM, biM, bnM, cmpM, cmpI, ltM, leM, inM, eqF, flatD, isM, Cl.isNon, truM, intM, idxM, slcM, lenM, lstAt, Cl.putAt, isaM, tyM, tyName, lsrcM, srcM, calmly, depOk_nil, sizeLine_eq, wipeE, gmul_r, gmul_l, gdiv, gmod, gmod', fdiv_pos, fmod_pos, grg, grg2, gsz, atI_pos, gle, gz, rep, rz]) ?_
    have k := comp_filter (G := { tab := [liftP p_fire_table, liftP p_degrees] }) (C := []) (own := [6]) (tg := .nm 6) (src := .rng2 (.int 1) (.idx (.var 0) (.int 0))) (ifs := .cmp .GtE (.idx (.var 4) (.var 6)) (.idx (.var 3) (.var 6))) (elt := .var 6)
      (env := [some (encLand n ws), some (.tup (rowD n c)), some (.tup (tabD n (tabF ws))), some (.tup (rowD n (deg ws))), some (.ref 0), some (.ref 1), none, none, none, none]) (h := [.lst (rowD n c), .lst (rowD n fun _ => 0)])
      (List.range (n - 1)) (fun i : Nat => D.int (1 + (i : Int))) (fun i => decide (deg ws (i + 1) ≤ c (i + 1))) (fun i => D.int ((i + 1 : Nat) : Int)) (by
        have e : ((n : Int) - 1).toNat = n - 1 := by omega
        simp (disch := first | omega | (simp; done) | fail) [semS, semE, semA, semN, semO, semI, exS, bnd, optM, pur, setTg, seqM, lsM, binM, binL, augM, biM, bnM, cmpM, cmpI, ltM, leM, inM, eqF, flatD, isM, Cl.isNon, truM, intM, idxM, slcM, lenM, lstAt, Cl.putAt, isaM, tyM, tyName, lsrcM, srcM, calmly, depOk_nil, sizeLine_eq, wipeE, gmul_r, gmul_l, gdiv, gmod, gmod', fdiv_pos, fmod_pos, grg, grg2, gsz, atI_pos, rangeD_eq, e]) (by simp; omega) (by simp) (fun i hi => by
        rw [List.mem_range] at hi
        have hi2 : i + 1 < n := by omega
        have ei : (1 + (i : Int)) = ((i + 1 : Nat) : Int) := by omega
        refine ⟨[some (encLand n ws), some (.tup (rowD n c)), some (.tup (tabD n (tabF ws))), some (.tup (rowD n (deg ws))), some (.ref 0), some (.ref 1), some (.int ((i + 1 : Nat) : Int)), none, none, none], by rw [ei]; simp [semS, semE, semA, semN, semO, semI, exS, bnd, optM, pur, setTg, seqM, lsM, binM, binL, augM, biM, bnM, cmpM, cmpI, ltM, leM, inM, eqF, flatD, isM, Cl.isNon, truM, intM, idxM, slcM, lenM, lstAt, Cl.putAt, isaM, tyM, tyName, lsrcM, srcM, calmly, depOk_nil, sizeLine_eq, wipeE], ⟨.bl (decide (deg ws (i + 1) ≤ c (i + 1))), ?_, by simp [semS, semE, semA, semN, semO, semI, exS, bnd, optM, pur, setTg, seqM, lsM, binM, binL, augM, biM, bnM, cmpM, cmpI, ltM, leM, inM, eqF, flatD, isM, Cl.isNon, truM, intM, idxM, slcM, lenM, lstAt, Cl.putAt, isaM, tyM, tyName, lsrcM, srcM, calmly, depOk_nil, sizeLine_eq, wipeE]⟩, fun _ => by simp [semS, semE, semA, semN, semO, semI, exS, bnd, optM, pur, setTg, seqM, lsM, binM, binL, augM, biM, bnM, cmpM, cmpI, ltM, leM, inM, eqF, flatD, isM, Cl.isNon, truM, intM, idxM, slcM, lenM, lstAt, Cl.putAt, isaM, tyM, tyName, lsrcM, srcM, calmly, depOk_nil, sizeLine_eq, wipeE]⟩
        simp only [semE, bnd, optM, pur, idxM, seqM, lstAt, cmpM, cmpI, List.getElem?_cons_succ, List.getElem?_cons_zero, Option.bind_some, id, atI_row hi2])
    have emap : ((List.range (n - 1)).filter fun i => decide (deg ws (i + 1) ≤ c (i + 1))).map (fun i => D.int ((i + 1 : Nat) : Int)) = natsD (((List.range (n - 1)).filter fun i => decide (deg ws (i + 1) ≤ c (i + 1))).map (· + 1)) := by
      simp [natsD, List.map_map, Function.comp]
    rw [emap] at k
    have hW0 : RstI n ws c (fun _ => 0) (((List.range (n - 1)).filter fun i => decide (deg ws (i + 1) ≤ c (i + 1))).map (· + 1)) := by
      refine ⟨Legal.zero n ws c, ?_, fun w hw => ?_, fun v h1 h2 h3 => ?_, fun v h1 h2 => by rw [LL_zero]; have := hc v h1 h2; omega⟩
      · rw [List.nodup_iff_pairwise_ne, List.pairwise_map]
        exact ((List.nodup_iff_pairwise_ne.mp List.nodup_range).filter _).imp fun h e => h (by omega)
      · obtain ⟨i, hi, rfl⟩ := List.mem_map.mp hw
        have := List.mem_range.mp (List.mem_filter.mp hi).1
        omega
      · rw [LL_zero] at h3
        refine List.mem_map.mpr ⟨v - 1, List.mem_filter.mpr ⟨List.mem_range.mpr (by omega), ?_⟩, by omega⟩
        rw [show v - 1 + 1 = v by omega]
        simp; omega
    generalize (((List.range (n - 1)).filter fun i => decide (deg ws (i + 1) ≤ c (i + 1))).map (· + 1)) = W0 at k hW0
    refine ends_step (e := [some (encLand n ws), some (.tup (rowD n c)), some (.tup (tabD n (tabF ws))), some (.tup (rowD n (deg ws))), some (.ref 0), some (.ref 1), none, some (.ref 2), none, none]) (h' := [.lst (rowD n c), .lst (rowD n fun _ => 0), .lst (natsD W0)]) (by simp (disch := first | omega | (simp; done) | fail) [ir_rested_2, semS, semE, semA, semO, semI, exS, bnd, optM, pur, setTg, seqM, lsM, binM, binL, augM, biM, bnM, cmpM, cmpI, ltM, leM, inM, eqF, flatD, isM, Cl.isNon, truM, intM, idxM, slcM, lenM, lstAt, Cl.putAt, isaM, tyM, tyName, lsrcM, srcM, calmly, depOk_nil, sizeLine_eq, wipeE, gmul_r, gmul_l, gdiv, gmod, gmod', fdiv_pos, fmod_pos, grg, grg2, gsz, atI_pos, k]) ?_
    refine ends_seq ?_
    unfold ir_rested_3
    refine ends_whl (fun _ _ => rfl) (fun m e h => ∃ (x : Nat → Int) (W : List Nat) (o6 o8 o9 : Option D), m = Mth.S n (fun v => (Y v - x v).toNat) * (n + 1) + W.length ∧ h = [.lst (rowD n fun v => c v - LL ws x v), .lst (rowD n x), .lst (natsD W)] ∧
      e = [some (encLand n ws), some (.tup (rowD n c)), some (.tup (tabD n (tabF ws))), some (.tup (rowD n (deg ws))), some (.ref 0), some (.ref 1), o6, some (.ref 2), o8, o9] ∧ RstI n ws c x W) ?_ _ ⟨fun _ => 0, W0, none, none, none, rfl, by
        congr 2
        exact rowD_congr fun j _ => by rw [LL_zero]; omega, rfl, hW0⟩
    rintro m e hh ⟨x, W, o6, o8, o9, rfl, rfl, rfl, hI⟩
    rcases List.eq_nil_or_concat W with hW | ⟨W', w, hW⟩
    · subst hW
      refine .inl ⟨[.lst (rowD n fun v => c v - LL ws x v), .lst (rowD n x), .lst []], by simp (disch := first | omega | (simp; done) | fail) [semS, semE, semA, semN, semO, semI, exS, bnd, optM, pur, setTg, seqM, lsM, binM, binL, augM, biM, bnM, cmpM, cmpI, ltM, leM, inM, eqF, flatD, isM, Cl.isNon, truM, intM, idxM, slcM, lenM, lstAt, Cl.putAt, isaM, tyM, tyName, lsrcM, srcM, calmly, depOk_nil, sizeLine_eq, wipeE, gmul_r, gmul_l, gdiv, gmod, gmod', fdiv_pos, fmod_pos, grg, grg2, gsz, atI_pos], ?_⟩
      refine ends_seq (ends_rt (d := .tup [.tup (rowD n fun v => c v - LL ws x v), .tup (rowD n x)]) (h := [.lst (rowD n fun v => c v - LL ws x v), .lst (rowD n x), .lst []]) (by simp (disch := first | omega | (simp; done) | fail) [ir_rested_4, semS, semE, semA, semN, semO, semI, exS, bnd, optM, pur, setTg, seqM, lsM, binM, binL, augM, biM, bnM, cmpM, cmpI, ltM, leM, inM, eqF, flatD, isM, Cl.isNon, truM, intM, idxM, slcM, lenM, lstAt, Cl.putAt, isaM, tyM, tyName, lsrcM, srcM, calmly, depOk_nil, sizeLine_eq, wipeE, gmul_r, gmul_l, gdiv, gmod, gmod', fdiv_pos, fmod_pos, grg, grg2, gsz, atI_pos]) ⟨x, ⟨hI.legal, hI.legal.nn, hI.legal.home, fun v h1 h2 => ?_⟩, hI.nn, rfl⟩)
      rcases Int.lt_or_le (c v - LL ws x v) (deg ws v) with z | z
      · exact z
      · exact absurd (hI.all v h1 h2 z) List.not_mem_nil
    · rw [List.concat_eq_append] at hW
      subst hW
      have hw := hI.inn w (by simp)
      have hnd := hI.nd
      rw [List.nodup_append] at hnd
      have hwW : w ∉ W' := fun z => hnd.2.2 w z w (by simp) rfl
      have hWlen : W'.length ≤ n := nodup_le n W' hnd.1 fun v hv => (hI.inn v (List.mem_append_left _ hv)).2
      have dw := deg_pos (hL.up w hw.1 hw.2)
      have dwb := deg_bound ws w
      have hcw := hI.nn w hw.1 hw.2
      refine .inr ⟨[.lst (rowD n fun v => c v - LL ws x v), .lst (rowD n x), .lst (natsD (W' ++ [w]))], by simp (disch := first | omega | (simp; done) | fail) [semS, semE, semA, semN, semO, semI, exS, bnd, optM, pur, setTg, seqM, lsM, binM, binL, augM, biM, bnM, cmpM, cmpI, ltM, leM, inM, eqF, flatD, isM, Cl.isNon, truM, intM, idxM, slcM, lenM, lstAt, Cl.putAt, isaM, tyM, tyName, lsrcM, srcM, calmly, depOk_nil, sizeLine_eq, wipeE, gmul_r, gmul_l, gdiv, gmod, gmod', fdiv_pos, fmod_pos, grg, grg2, gsz, atI_pos, natsD], ?_⟩
      refine Ends.toB ?_
      unfold ir_rested_b1
      have hlast : (natsD (W' ++ [w]))[(natsD (W' ++ [w])).length - 1]? = some (.int (w : Nat)) := by simp [natsD]
      have hdrop : (natsD (W' ++ [w])).dropLast = natsD W' := by simp [natsD]
      refine ends_step (e := [some (encLand n ws), some (.tup (rowD n c)), some (.tup (tabD n (tabF ws))), some (.tup (rowD n (deg ws))), some (.ref 0), some (.ref 1), some (.int w), some (.ref 2), o8, o9]) (h' := [.lst (rowD n fun v => c v - LL ws x v), .lst (rowD n x), .lst (natsD W')]) (by
        simp only [semS, exS, semE, bnd, optM, pur, setTg, lstAt, Cl.putAt, List.getElem?_cons_succ, List.getElem?_cons_zero, Option.bind_some, id, hlast, hdrop]
        rfl) ?_
      obtain ⟨many, hmany⟩ : ∃ many, many = (c w - LL ws x w) / deg ws w := ⟨_, rfl⟩
      refine ends_step (e := [some (encLand n ws), some (.tup (rowD n c)), some (.tup (tabD n (tabF ws))), some (.tup (rowD n (deg ws))), some (.ref 0), some (.ref 1), some (.int w), some (.ref 2), some (.int many), o9]) (h' := [.lst (rowD n fun v => c v - LL ws x v), .lst (rowD n x), .lst (natsD W')]) (by
        have q : Cl.guard (DivOk (deg ws w)) (pur (D.int ((c w - LL ws x w).fdiv (deg ws w)))) = pur (D.int many) := by
          rw [gdiv (by omega) (by omega), fdiv_pos (by omega), hmany]
        simp only [semS, exS, semE, bnd, optM, pur, setTg, lstAt, idxM, seqM, binM, List.getElem?_cons_succ, List.getElem?_cons_zero, Option.bind_some, id, atI_row hw.2, q]
        rfl) ?_
      have hm0 : 0 ≤ many := by rw [hmany]; exact Int.ediv_nonneg hcw (by omega)
      have hmul : many * deg ws w ≤ c w - LL ws x w := by rw [hmany]; exact Int.ediv_mul_le _ (by omega)
      by_cases hm : 0 < many
      · have hx2 := hI.legal.fire hw.1 hw.2 hm0 hmul
        have tb := fun j => tab_bound ws w j
        have elp : ∀ v, c v - LL ws (bump x w many) v = c v - LL ws x v - many * tabF ws w v := fun v => by rw [tab_bump]; omega
        have hnw : ∀ v, v ≠ w → tabF ws w v ≤ 0 := fun v hv => by
          have : ∀ ws : Ways, tabF ws w v ≤ 0 := fun ws => by
            induction ws with
            | nil => simp [tabF]
            | cons p ws ih =>
              rw [tabF_cons]
              have : ent p w v ≤ 0 := by
                unfold ent
                have hv' : w ≠ v := fun z => hv z.symm
                rw [if_neg (by omega), if_neg (by omega)]
                split <;> split <;> omega
              omega
          exact this ws
        -- counts, then all places
        refine ends_seq (ends_ite (k := true) (h1 := [.lst (rowD n fun v => c v - LL ws x v), .lst (rowD n x), .lst (natsD W')]) (by simp (disch := first | omega | (simp; done) | fail) [semS, semE, semA, semN, semO, semI, exS, bnd, optM, pur, setTg, seqM, lsM, binM, binL, augM, biM, bnM, cmpM, cmpI, ltM, leM, inM, eqF, flatD, isM, Cl.isNon, truM, intM, idxM, slcM, lenM, lstAt, Cl.putAt, isaM, tyM, tyName, lsrcM, srcM, calmly, depOk_nil, sizeLine_eq, wipeE, gmul_r, gmul_l, gdiv, gmod, gmod', fdiv_pos, fmod_pos, grg, grg2, gsz, atI_pos, hm]) ?_)
        rw [if_pos rfl]
        refine ends_step (e := [some (encLand n ws), some (.tup (rowD n c)), some (.tup (tabD n (tabF ws))), some (.tup (rowD n (deg ws))), some (.ref 0), some (.ref 1), some (.int w), some (.ref 2), some (.int many), o9]) (h' := [.lst (rowD n fun v => c v - LL ws x v), .lst (rowD n (bump x w many)), .lst (natsD W')]) (by
          have eb : (rowD n x).set w (.int (x w + many)) = rowD n (bump x w many) := by
            rw [rowD_set hw.2]
            exact rowD_congr fun j _ => by unfold Mth.bump; split <;> simp_all
          simp only [semS, exS, semE, bnd, optM, pur, lstAt, idxM, seqM, augM, binM, Cl.putAt, List.getElem?_cons_succ, List.getElem?_cons_zero, Option.bind_some, id, atI_row hw.2, rowD_len, ixN_nat hw.2, eb]
          rfl) ?_
        refine ends_seq ?_
        refine ends_forS (List.range n) (fun i : Nat => D.int (0 + (i : Int))) (h0 := [.lst (rowD n fun v => c v - LL ws x v), .lst (rowD n (bump x w many)), .lst (natsD W')]) (by simp (disch := first | omega | (simp; done) | fail) [semS, semE, semA, semN, semO, semI, exS, bnd, optM, pur, setTg, seqM, lsM, binM, binL, augM, biM, bnM, cmpM, cmpI, ltM, leM, inM, eqF, flatD, isM, Cl.isNon, truM, intM, idxM, slcM, lenM, lstAt, Cl.putAt, isaM, tyM, tyName, lsrcM, srcM, calmly, depOk_nil, sizeLine_eq, wipeE, gmul_r, gmul_l, gdiv, gmod, gmod', fdiv_pos, fmod_pos, grg, grg2, gsz, atI_pos, rangeD_eq])
          (fun k e h => h = [.lst (rowD n fun v => if v < k then c v - LL ws (bump x w many) v else c v - LL ws x v), .lst (rowD n (bump x w many)), .lst (natsD W')] ∧ ∃ o9, e = [some (encLand n ws), some (.tup (rowD n c)), some (.tup (tabD n (tabF ws))), some (.tup (rowD n (deg ws))), some (.ref 0), some (.ref 1), some (.int w), some (.ref 2), some (.int many), o9]) ?_ ?_ ⟨by simp, _, rfl⟩
        · rintro k a env h hi ⟨rfl, o9, rfl⟩
          have ha : a = k ∧ k < n := by
            rw [List.getElem?_eq_some_iff] at hi
            obtain ⟨h1, h2⟩ := hi
            simp at h1 h2
            omega
          obtain ⟨rfl, hk⟩ := ha
          refine ⟨[some (encLand n ws), some (.tup (rowD n c)), some (.tup (tabD n (tabF ws))), some (.tup (rowD n (deg ws))), some (.ref 0), some (.ref 1), some (.int w), some (.ref 2), some (.int many), some (.int a)], by simp [semS, semE, semA, semN, semO, semI, exS, bnd, optM, pur, setTg, seqM, lsM, binM, binL, augM, biM, bnM, cmpM, cmpI, ltM, leM, inM, eqF, flatD, isM, Cl.isNon, truM, intM, idxM, slcM, lenM, lstAt, Cl.putAt, isaM, tyM, tyName, lsrcM, srcM, calmly, depOk_nil, sizeLine_eq, wipeE], ?_⟩
          have t1 := tb a
          have q : Cl.guard (Cl.MulOk many (tabF ws w a)) (pur (D.int (many * tabF ws w a))) = pur (D.int (many * tabF ws w a)) := gmul_r (by omega) (by omega)
          have eb : (rowD n fun v => if v < a then c v - LL ws (bump x w many) v else c v - LL ws x v).set a (.int (c a - LL ws x a - many * tabF ws w a)) = rowD n fun v => if v < a + 1 then c v - LL ws (bump x w many) v else c v - LL ws x v := by
            rw [rowD_set hk]
            refine rowD_congr fun j _ => ?_
            have := elp j
            by_cases z : j = a
            · subst z; simp; omega
            · by_cases z2 : j < a
              · simp [z, z2, show j < a + 1 by omega]
              · simp [z, z2, show ¬ j < a + 1 by omega]
          refine ends_nx (e := [some (encLand n ws), some (.tup (rowD n c)), some (.tup (tabD n (tabF ws))), some (.tup (rowD n (deg ws))), some (.ref 0), some (.ref 1), some (.int w), some (.ref 2), some (.int many), some (.int a)]) (h := [.lst (rowD n fun v => if v < a + 1 then c v - LL ws (bump x w many) v else c v - LL ws x v), .lst (rowD n (bump x w many)), .lst (natsD W')]) ?_ ⟨rfl, _, rfl⟩
          simp only [ir_rested_b0, semS, exS, semE, bnd, optM, pur, lstAt, idxM, seqM, augM, binM, Cl.putAt, List.getElem?_cons_succ, List.getElem?_cons_zero, Option.bind_some, id, atI_row hk, atI_tab hw.2, rowD_len, ixN_nat hk, q, Nat.lt_irrefl, if_false, eb]
          rfl
        · rintro env h ⟨rfl, o9, rfl⟩
          rw [List.length_range]
          have er : (rowD n fun v => if v < n then c v - LL ws (bump x w many) v else c v - LL ws x v) = rowD n fun v => c v - LL ws (bump x w many) v := rowD_congr fun j hj => by rw [if_pos hj]
          rw [er]
          have k := comp_filter (G := { tab := [liftP p_fire_table, liftP p_degrees] }) (C := []) (own := [9]) (tg := .nm 9) (src := .rng2 (.int 1) (.idx (.var 0) (.int 0))) (ifs := .and (.cmp .GtE (.idx (.var 4) (.var 9)) (.idx (.var 3) (.var 9))) (.cmp .NotIn (.var 9) (.var 7))) (elt := .var 9)
            (env := [some (encLand n ws), some (.tup (rowD n c)), some (.tup (tabD n (tabF ws))), some (.tup (rowD n (deg ws))), some (.ref 0), some (.ref 1), some (.int w), some (.ref 2), some (.int many), o9]) (h := [.lst (rowD n fun v => c v - LL ws (bump x w many) v), .lst (rowD n (bump x w many)), .lst (natsD W')])
            (List.range (n - 1)) (fun i : Nat => D.int (1 + (i : Int))) (fun i => decide (deg ws (i + 1) ≤ c (i + 1) - LL ws (bump x w many) (i + 1)) && !decide (i + 1 ∈ W')) (fun i => D.int ((i + 1 : Nat) : Int)) (by
              have e : ((n : Int) - 1).toNat = n - 1 := by omega
              simp (disch := first | omega | (simp; done) | fail) [semS, semE, semA, semN, semO, semI, exS, bnd, optM, pur, setTg, seqM, lsM, binM, binL, augM, biM, bnM, cmpM, cmpI, ltM, leM, inM, eqF, flatD, isM, Cl.isNon, truM, intM, idxM, slcM, lenM, lstAt, Cl.putAt, isaM, tyM, tyName, lsrcM, srcM, calmly, depOk_nil, sizeLine_eq, wipeE, gmul_r, gmul_l, gdiv, gmod, gmod', fdiv_pos, fmod_pos, grg, grg2, gsz, atI_pos, rangeD_eq, e]) (by simp; omega) (by simp) (fun i hi => by
              rw [List.mem_range] at hi
              have hi2 : i + 1 < n := by omega
              have ei : (1 + (i : Int)) = ((i + 1 : Nat) : Int) := by omega
              have an := any_nats W' (i + 1)
              have fn := flat_nats W'
              refine ⟨[some (encLand n ws), some (.tup (rowD n c)), some (.tup (tabD n (tabF ws))), some (.tup (rowD n (deg ws))), some (.ref 0), some (.ref 1), some (.int w), some (.ref 2), some (.int many), some (.int ((i + 1 : Nat) : Int))], by rw [ei]; simp [semS, semE, semA, semN, semO, semI, exS, bnd, optM, pur, setTg, seqM, lsM, binM, binL, augM, biM, bnM, cmpM, cmpI, ltM, leM, inM, eqF, flatD, isM, Cl.isNon, truM, intM, idxM, slcM, lenM, lstAt, Cl.putAt, isaM, tyM, tyName, lsrcM, srcM, calmly, depOk_nil, sizeLine_eq, wipeE], ⟨.bl (decide (deg ws (i + 1) ≤ c (i + 1) - LL ws (bump x w many) (i + 1)) && !decide (i + 1 ∈ W')), ?_, by simp [semS, semE, semA, semN, semO, semI, exS, bnd, optM, pur, setTg, seqM, lsM, binM, binL, augM, biM, bnM, cmpM, cmpI, ltM, leM, inM, eqF, flatD, isM, Cl.isNon, truM, intM, idxM, slcM, lenM, lstAt, Cl.putAt, isaM, tyM, tyName, lsrcM, srcM, calmly, depOk_nil, sizeLine_eq, wipeE]⟩, fun _ => by simp [semS, semE, semA, semN, semO, semI, exS, bnd, optM, pur, setTg, seqM, lsM, binM, binL, augM, biM, bnM, cmpM, cmpI, ltM, leM, inM, eqF, flatD, isM, Cl.isNon, truM, intM, idxM, slcM, lenM, lstAt, Cl.putAt, isaM, tyM, tyName, lsrcM, srcM, calmly, depOk_nil, sizeLine_eq, wipeE]⟩
              by_cases z : deg ws (i + 1) ≤ c (i + 1) - LL ws (bump x w many) (i + 1)
              · simp only [semE, bnd, optM, pur, idxM, seqM, lstAt, cmpM, cmpI, truM, inM, flatD, List.getElem?_cons_succ, List.getElem?_cons_zero, Option.bind_some, id, atI_row hi2, z, decide_true, if_true, an, fn, true_and, Bool.true_and]
                try rfl
              · simp only [semE, bnd, optM, pur, idxM, seqM, lstAt, cmpM, cmpI, truM, List.getElem?_cons_succ, List.getElem?_cons_zero, Option.bind_some, id, atI_row hi2, z, decide_false, Bool.false_and]
                try rfl)
          have emap : ((List.range (n - 1)).filter fun i => decide (deg ws (i + 1) ≤ c (i + 1) - LL ws (bump x w many) (i + 1)) && !decide (i + 1 ∈ W')).map (fun i => D.int ((i + 1 : Nat) : Int)) = natsD (((List.range (n - 1)).filter fun i => decide (deg ws (i + 1) ≤ c (i + 1) - LL ws (bump x w many) (i + 1)) && !decide (i + 1 ∈ W')).map (· + 1)) := by
            simp [natsD, List.map_map, Function.comp]
          rw [emap] at k
          have hV : ∀ v, v ∈ ((List.range (n - 1)).filter fun i => decide (deg ws (i + 1) ≤ c (i + 1) - LL ws (bump x w many) (i + 1)) && !decide (i + 1 ∈ W')).map (· + 1) ↔ 1 ≤ v ∧ v < n ∧ deg ws v ≤ c v - LL ws (bump x w many) v ∧ v ∉ W' := by
            intro v
            simp only [List.mem_map, List.mem_filter, List.mem_range, Bool.and_eq_true, decide_eq_true_eq, Bool.not_eq_true', decide_eq_false_iff_not]
            constructor
            · rintro ⟨i, ⟨h1, h2, h3⟩, rfl⟩
              exact ⟨by omega, by omega, h2, h3⟩
            · rintro ⟨h1, h2, h3, h4⟩
              refine ⟨v - 1, ⟨by omega, ?_, ?_⟩, by omega⟩ <;> rw [show v - 1 + 1 = v by omega] <;> assumption
          have hVnd : (((List.range (n - 1)).filter fun i => decide (deg ws (i + 1) ≤ c (i + 1) - LL ws (bump x w many) (i + 1)) && !decide (i + 1 ∈ W')).map (· + 1)).Nodup := by
            rw [List.nodup_iff_pairwise_ne, List.pairwise_map]
            exact ((List.nodup_iff_pairwise_ne.mp List.nodup_range).filter _).imp fun h e => h (by omega)
          generalize (((List.range (n - 1)).filter fun i => decide (deg ws (i + 1) ≤ c (i + 1) - LL ws (bump x w many) (i + 1)) && !decide (i + 1 ∈ W')).map (· + 1)) = V at k hV hVnd
          have hnd2 : (W' ++ V).Nodup := by
            rw [List.nodup_append]
            refine ⟨hnd.1, hVnd, fun a ha b hb e => ?_⟩
            subst e
            exact ((hV a).mp hb).2.2.2 ha
          have hin2 : ∀ v ∈ W' ++ V, 1 ≤ v ∧ v < n := fun v hv => by
            rcases List.mem_append.mp hv with z | z
            · exact hI.inn v (List.mem_append_left _ z)
            · exact ⟨((hV v).mp z).1, ((hV v).mp z).2.1⟩
          have hlen2 := nodup_le n (W' ++ V) hnd2 fun v hv => (hin2 v hv).2
          rw [List.length_append] at hlen2
          have q2 : ∀ m : M D, Cl.guard ((natsD W').length + (natsD V).length ≤ sizeLine) m = m := fun m => gle (by rw [sizeLine_eq]; simp [natsD]; omega)
          refine ends_step (e := [some (encLand n ws), some (.tup (rowD n c)), some (.tup (tabD n (tabF ws))), some (.tup (rowD n (deg ws))), some (.ref 0), some (.ref 1), some (.int w), some (.ref 2), some (.int many), o9]) (h' := [.lst (rowD n fun v => c v - LL ws (bump x w many) v), .lst (rowD n (bump x w many)), .lst (natsD (W' ++ V))]) (by
            simp only [semS, exS, semE, bnd, optM, pur, lstAt, k, Cl.putAt, List.getElem?_cons_succ, List.getElem?_cons_zero, Option.bind_some, id, q2]
            simp [natsD]) (ends_nop (ends_nop ⟨_, ?_, bump x w many, W' ++ V, _, _, _, rfl, rfl, rfl, hx2, hnd2, hin2, fun v h1 h2 h3 => ?_, fun v h1 h2 => ?_⟩))
          · have hb := S_bump (Y := Y) (x := x) hw.2 (show 1 ≤ many by omega) (by
              have := hx2.low Y hY w
              unfold Mth.bump at this
              rw [if_pos rfl] at this
              exact this)
            have := Nat.mul_le_mul_right (n + 1) hb
            rw [Nat.succ_mul] at this
            rw [List.length_append]
            omega
          · by_cases z : v ∈ W'
            · exact List.mem_append_left _ z
            · exact List.mem_append_right _ ((hV v).mpr ⟨h1, h2, h3, z⟩)
          · rw [elp v]
            have h5 := hI.nn v h1 h2
            by_cases z : v = w
            · subst z
              rw [tab_diag (fun p hp => (hL.lt p hp).1)]
              omega
            · have h6 := Int.mul_le_mul_of_nonneg_left (hnw v z) hm0
              omega
      · have hm1 : ¬ 0 < many := hm
        refine ends_step (e := [some (encLand n ws), some (.tup (rowD n c)), some (.tup (tabD n (tabF ws))), some (.tup (rowD n (deg ws))), some (.ref 0), some (.ref 1), some (.int w), some (.ref 2), some (.int many), o9]) (h' := [.lst (rowD n fun v => c v - LL ws x v), .lst (rowD n x), .lst (natsD W')]) (by simp (disch := first | omega | (simp; done) | fail) [semS, semE, semA, semN, semO, semI, exS, bnd, optM, pur, setTg, seqM, lsM, binM, binL, augM, biM, bnM, cmpM, cmpI, ltM, leM, inM, eqF, flatD, isM, Cl.isNon, truM, intM, idxM, slcM, lenM, lstAt, Cl.putAt, isaM, tyM, tyName, lsrcM, srcM, calmly, depOk_nil, sizeLine_eq, wipeE, gmul_r, gmul_l, gdiv, gmod, gmod', fdiv_pos, fmod_pos, grg, grg2, gsz, atI_pos, hm1]) (ends_nop ⟨_, ?_, x, W', _, _, _, rfl, rfl, rfl, hI.legal, hnd.1, fun v hv => hI.inn v (List.mem_append_left _ hv), fun v h1 h2 h3 => ?_, hI.nn⟩)
        · simp
        · rcases List.mem_append.mp (hI.all v h1 h2 h3) with z | z
          · exact z
          · exfalso
            rw [List.mem_singleton] at z
            subst z
            have : 1 ≤ many := by rw [hmany]; exact (Int.le_ediv_iff_mul_le (by omega)).mpr (by omega)
            omega
  obtain ⟨d, e, x, h1, h2, rfl⟩ := ends_p (p := 2) (n := 10) (ds := [encLand n ws, .tup (rowD n c)]) (P := fun d => ∃ x, IsRest n ws c x ∧ (∀ v, 1 ≤ v → v < n → 0 ≤ c v - LL ws x v) ∧ d = .tup [.tup (rowD n fun v => c v - LL ws x v), .tup (rowD n x)]) _ key (by rintro d ⟨x, _, _, rfl⟩; simp [noRef, noRefL])
  exact ⟨x, h1, h2, e⟩
/-! ### is it at rest -/
theorem cut_tail (xs : List D) : cutD xs (some 1) none = xs.drop 1 := by
  unfold cutD
  rw [show HT.sIx xs.length 0 (some 1) = min 1 xs.length from HT.sIx_nat xs.length _ 1, HT.sIx_none]
  cases xs with
  | nil => rfl
  | cons x xs => simp
theorem zip_rows (n : Nat) (c d : Nat → Int) : (((rowD n c).drop 1).zip ((rowD n d).drop 1)).map (fun p => D.tup [p.1, p.2]) = (List.range (n - 1)).map fun i => D.tup [.int (c (i + 1)), .int (d (i + 1))] := by
  apply List.ext_getElem?
  intro k
  by_cases h : k < n - 1
  · have h2 : 1 + k < n := by omega
    simp [List.getElem?_zip_eq_some, List.zip, List.getElem?_zipWith, rowD, h, h2, Nat.add_comm 1 k]
  · have h2 : ¬ 1 + k < n := by omega
    simp [List.zip, List.getElem?_zipWith, rowD, h, h2]
def isR (n : Nat) (ws : Ways) (c : Nat → Int) : Bool := (List.range (n - 1)).all fun i => decide (0 ≤ c (i + 1)) && decide (c (i + 1) < deg ws (i + 1))
theorem blsD_rng (f : Nat → Bool) : ∀ l : List Nat, blsD (l.map fun a => D.bl (f a)) = some (l.map f)
  | [] => rfl
  | a :: l => by simp only [List.map_cons, blsD, blsD_rng f l, Option.map_some]
theorem all_map_id (l : List Nat) (f : Nat → Bool) : (l.map f).all id = l.all f := by
  rw [List.all_map]; rfl
theorem ev_is_resting {n : Nat} {ws : Ways} {c : Nat → Int} (hn : n ≤ 1000) (hw : ∀ p ∈ ws, p.1 < p.2 ∧ p.2 < n) (hl : ws.length ≤ 10000) : p_is_resting [encLand n ws, .tup (rowD n c)] = .ok (.bl (isR n ws c)) := by
  have e1 := ev_degrees hn hw hl
  refine p_ends [some (encLand n ws), some (.tup (rowD n c)), none, none] ?_
  unfold ir_is_resting
  have k := comp_map (G := { tab := [liftP p_degrees] }) (C := []) (own := [2, 3]) (tg := .tp [2, 3]) (src := .zip (.slc (.var 1) (.int 1) .nil) (.slc (.call 0 (.cons (.var 0) .nil)) (.int 1) .nil)) (elt := .chain .LtE .Lt (.int 0) (.var 2) (.var 3)) (env := [some (encLand n ws), some (.tup (rowD n c)), none, none]) (h := [])
    (List.range (n - 1)) (fun i => D.tup [.int (c (i + 1)), .int (deg ws (i + 1))]) (fun i => .bl (decide (0 ≤ c (i + 1)) && decide (c (i + 1) < deg ws (i + 1)))) (by
      have z := zip_rows n c (deg ws)
      rw [List.drop_one, List.drop_one] at z
      simp (disch := first | omega | (simp; done) | fail) [semS, semE, semA, semN, semO, semI, exS, bnd, optM, pur, setTg, seqM, lsM, binM, binL, augM, biM, bnM, cmpM, cmpI, ltM, leM, inM, eqF, flatD, isM, Cl.isNon, truM, intM, idxM, slcM, lenM, lstAt, Cl.putAt, isaM, tyM, tyName, lsrcM, srcM, calmly, depOk_nil, sizeLine_eq, wipeE, gmul_r, gmul_l, gdiv, gmod, gmod', fdiv_pos, fmod_pos, grg, grg2, gsz, atI_pos, liftP, noRefL, noRef_land, e1, pairM, cut_tail, z]) (by simp; omega) (fun i hi => by
      refine ⟨[some (encLand n ws), some (.tup (rowD n c)), some (.int (c (i + 1))), some (.int (deg ws (i + 1)))], by simp (disch := first | omega | (simp; done) | fail) [semS, semE, semA, semN, semO, semI, exS, bnd, optM, pur, setTg, seqM, lsM, binM, binL, augM, biM, bnM, cmpM, cmpI, ltM, leM, inM, eqF, flatD, isM, Cl.isNon, truM, intM, idxM, slcM, lenM, lstAt, Cl.putAt, isaM, tyM, tyName, lsrcM, srcM, calmly, depOk_nil, sizeLine_eq, wipeE, gmul_r, gmul_l, gdiv, gmod, gmod', fdiv_pos, fmod_pos, grg, grg2, gsz, atI_pos, gle], ?_⟩
      by_cases z : 0 ≤ c (i + 1)
      · simp (disch := first | omega | (simp; done) | fail) [semS, semE, semA, semN, semO, semI, exS, bnd, optM, pur, setTg, seqM, lsM, binM, binL, augM, biM, bnM, cmpM, cmpI, ltM, leM, inM, eqF, flatD, isM, Cl.isNon, truM, intM, idxM, slcM, lenM, lstAt, Cl.putAt, isaM, tyM, tyName, lsrcM, srcM, calmly, depOk_nil, sizeLine_eq, wipeE, gmul_r, gmul_l, gdiv, gmod, gmod', fdiv_pos, fmod_pos, grg, grg2, gsz, atI_pos, z]
      · simp (disch := first | omega | (simp; done) | fail) [semS, semE, semA, semN, semO, semI, exS, bnd, optM, pur, setTg, seqM, lsM, binM, binL, augM, biM, bnM, cmpM, cmpI, ltM, leM, inM, eqF, flatD, isM, Cl.isNon, truM, intM, idxM, slcM, lenM, lstAt, Cl.putAt, isaM, tyM, tyName, lsrcM, srcM, calmly, depOk_nil, sizeLine_eq, wipeE, gmul_r, gmul_l, gdiv, gmod, gmod', fdiv_pos, fmod_pos, grg, grg2, gsz, atI_pos, z])
  have kb := blsD_rng (fun i => decide (0 ≤ c (i + 1)) && decide (c (i + 1) < deg ws (i + 1))) (List.range (n - 1))
  have ka := all_map_id (List.range (n - 1)) (fun i => decide (0 ≤ c (i + 1)) && decide (c (i + 1) < deg ws (i + 1)))
  refine ends_seq (ends_rt (d := .bl (isR n ws c)) (h := []) ?_ rfl)
  simp (disch := first | omega | (simp; done) | fail) [ir_is_resting_0, semS, semE, semA, semO, semI, exS, bnd, optM, pur, setTg, seqM, lsM, binM, binL, augM, biM, bnM, cmpM, cmpI, ltM, leM, inM, eqF, flatD, isM, Cl.isNon, truM, intM, idxM, slcM, lenM, lstAt, Cl.putAt, isaM, tyM, tyName, lsrcM, srcM, calmly, depOk_nil, sizeLine_eq, wipeE, gmul_r, gmul_l, gdiv, gmod, gmod', fdiv_pos, fmod_pos, grg, grg2, gsz, atI_pos, k, kb, isR]
  try rfl
end Cl
namespace Cl
open PySem PySem.Spec PyProof.Rows L2 Mth
def ir_law_land_b0 : S := (.seq (.ex (.app (.var 3) (.tup (.cons (.call 0 (.cons (.var 0) (.cons (.var 4) .nil))) (.cons (.var 4) .nil))))) .nop)
def ir_law_land_b1 : S := (.seq (.par [4, 6] (.cons (.call 0 (.cons (.var 0) (.cons (.var 2) .nil))) (.cons (.call 0 (.cons (.var 0) (.cons (.var 2) .nil))) .nil))) (.seq (.ite (.cmp .NotEq (.var 4) (.var 6)) (.seq (.ex (.app (.var 3) (.tup (.cons (.bi .min2 (.cons (.var 4) (.cons (.var 6) .nil))) (.cons (.bi .max2 (.cons (.var 4) (.cons (.var 6) .nil))) .nil))))) .nop) .nop) .nop))
def ir_law_land_3 : S := (.ret (.tup (.cons (.var 2) (.cons (.bi .tuple (.cons (.bn .sortP (.cons (.var 3) .nil)) .nil)) .nil))))
def ir_law_land_2 : S := (.for (.nm 5) (.rng1 (.ite (.cmp .Gt (.var 2) (.int 1)) (.call 0 (.cons (.var 0) (.cons (.bin .Add (.var 2) (.int 2)) .nil))) (.int 0))) ir_law_land_b1)
def ir_law_land_1 : S := (.for (.nm 4) (.rng2 (.int 1) (.var 2)) ir_law_land_b0)
def ir_law_land_0 : S := (.par [2, 3] (.cons (.bin .Add (.int 1) (.call 0 (.cons (.var 0) (.cons (.var 1) .nil)))) (.cons (.trk (.lst .nil)) .nil)))
def ir_law_land : S := (.seq ir_law_land_0 (.seq ir_law_land_1 (.seq ir_law_land_2 (.seq ir_law_land_3 .nop))))
def ir_law_own_0 : S := (.ret (.comp [1] (.nm 1) (.rng1 (.idx (.var 0) (.int 0))) .nil (.bi .len (.cons (.comp [2] (.nm 2) (.idx (.var 0) (.int 1)) (.cmp .In (.var 1) (.var 2)) (.var 2)) .nil))))
def ir_law_own : S := (.seq ir_law_own_0 .nop)
def ir_law_fired_b0 : S := (.seq (.asg (.sub (.var 3) (.var 4)) (.bin .Add (.bin .Sub (.idx (.var 3) (.var 4)) (.idx (.var 2) (.var 4))) (.idx (.var 2) (.var 5)))) (.seq (.asg (.sub (.var 3) (.var 5)) (.bin .Add (.bin .Sub (.idx (.var 3) (.var 5)) (.idx (.var 2) (.var 5))) (.idx (.var 2) (.var 4)))) .nop))
def ir_law_fired_2 : S := (.ret (.bi .tuple (.cons (.var 3) .nil)))
def ir_law_fired_1 : S := (.for (.tp [4, 5]) (.idx (.var 0) (.int 1)) ir_law_fired_b0)
def ir_law_fired_0 : S := (.asg (.tg (.nm 3)) (.trk (.bn .list (.cons (.var 1) .nil))))
def ir_law_fired : S := (.seq ir_law_fired_0 (.seq ir_law_fired_1 (.seq ir_law_fired_2 .nop)))
noncomputable def g_law_land : List D → M D := runF (semS { tab := [g_law_draw] } [] ir_law_land) 2 7
noncomputable def p_law_own : List D → PR := fun ds => pureOf (runF (semS { tab := [] } [] ir_law_own) 1 3 ds [])
noncomputable def p_law_fired : List D → PR := fun ds => pureOf (runF (semS { tab := [] } [] ir_law_fired) 3 6 ds [])

theorem deg_len {ws : Ways} (hw : ∀ p ∈ ws, p.1 < p.2) (v : Nat) : ((ws.filter fun t => (decide (t.1 = v) || decide (t.2 = v))).length : Int) = deg ws v := by
  induction ws with
  | nil => rfl
  | cons p ws ih =>
    have hp := hw p List.mem_cons_self
    have ih := ih fun q hq => hw q (List.mem_cons_of_mem _ hq)
    rw [deg_cons, ← ih, List.filter_cons]
    unfold dg
    by_cases a : p.1 = v
    · have b : ¬ p.2 = v := by omega
      simp [a, b]; omega
    · by_cases b : p.2 = v
      · simp [a, b]; omega
      · simp [a, b]
theorem ev_own {n : Nat} {ws : Ways} (hn : n ≤ 1000) (hw : ∀ p ∈ ws, p.1 < p.2 ∧ p.2 < n) (hl : ws.length ≤ 10000) : p_law_own [encLand n ws] = .ok (.fl (rowD n (deg ws))) := by
  refine p_ends [some (encLand n ws), none, none] ?_ (noRef_rowD _ _)
  unfold ir_law_own
  have k := comp_map (G := { tab := [] }) (C := []) (own := [1]) (tg := .nm 1) (src := .rng1 (.idx (.var 0) (.int 0))) (elt := .bi .len (.cons (.comp [2] (.nm 2) (.idx (.var 0) (.int 1)) (.cmp .In (.var 1) (.var 2)) (.var 2)) .nil)) (env := [some (encLand n ws), none, none]) (h := [])
    (List.range n) (fun i : Nat => D.int (0 + (i : Int))) (fun i => D.int (deg ws i)) (by simp (disch := first | omega | (simp; done) | fail) [semS, semE, semA, semN, semO, semI, exS, bnd, optM, pur, setTg, seqM, lsM, binM, binL, augM, biM, bnM, cmpM, cmpI, ltM, leM, inM, eqF, flatD, isM, Cl.isNon, truM, intM, idxM, slcM, lenM, lstAt, Cl.putAt, isaM, tyM, tyName, lsrcM, srcM, calmly, depOk_nil, sizeLine_eq, wipeE, gmul_r, gmul_l, gdiv, gmod, gmod', fdiv_pos, fmod_pos, grg, grg2, gsz, atI_pos, rangeD_eq]) (by simp; omega) (fun i hi => by
      refine ⟨[some (encLand n ws), some (.int i), none], by simp [semS, semE, semA, semN, semO, semI, exS, bnd, optM, pur, setTg, seqM, lsM, binM, binL, augM, biM, bnM, cmpM, cmpI, ltM, leM, inM, eqF, flatD, isM, Cl.isNon, truM, intM, idxM, slcM, lenM, lstAt, Cl.putAt, isaM, tyM, tyName, lsrcM, srcM, calmly, depOk_nil, sizeLine_eq, wipeE], ?_⟩
      have k2 := comp_filter (G := { tab := [] }) (C := []) (own := [2]) (tg := .nm 2) (src := .idx (.var 0) (.int 1)) (ifs := .cmp .In (.var 1) (.var 2)) (elt := .var 2) (env := [some (encLand n ws), some (.int i), none]) (h := [])
        ws (fun p => D.tup [.int p.1, .int p.2]) (fun t => (decide (t.1 = i) || decide (t.2 = i))) (fun p => D.tup [.int p.1, .int p.2]) (by simp (disch := first | omega | (simp; done) | fail) [semS, semE, semA, semN, semO, semI, exS, bnd, optM, pur, setTg, seqM, lsM, binM, binL, augM, biM, bnM, cmpM, cmpI, ltM, leM, inM, eqF, flatD, isM, Cl.isNon, truM, intM, idxM, slcM, lenM, lstAt, Cl.putAt, isaM, tyM, tyName, lsrcM, srcM, calmly, depOk_nil, sizeLine_eq, wipeE, gmul_r, gmul_l, gdiv, gmod, gmod', fdiv_pos, fmod_pos, grg, grg2, gsz, atI_pos]) (by omega) (by simp) (fun t ht => by
          refine ⟨[some (encLand n ws), some (.int i), some (.tup [.int t.1, .int t.2])], by simp [semS, semE, semA, semN, semO, semI, exS, bnd, optM, pur, setTg, seqM, lsM, binM, binL, augM, biM, bnM, cmpM, cmpI, ltM, leM, inM, eqF, flatD, isM, Cl.isNon, truM, intM, idxM, slcM, lenM, lstAt, Cl.putAt, isaM, tyM, tyName, lsrcM, srcM, calmly, depOk_nil, sizeLine_eq, wipeE], ⟨.bl (decide (t.1 = i) || decide (t.2 = i)), ?_, by simp [semS, semE, semA, semN, semO, semI, exS, bnd, optM, pur, setTg, seqM, lsM, binM, binL, augM, biM, bnM, cmpM, cmpI, ltM, leM, inM, eqF, flatD, isM, Cl.isNon, truM, intM, idxM, slcM, lenM, lstAt, Cl.putAt, isaM, tyM, tyName, lsrcM, srcM, calmly, depOk_nil, sizeLine_eq, wipeE]⟩, fun _ => by simp [semS, semE, semA, semN, semO, semI, exS, bnd, optM, pur, setTg, seqM, lsM, binM, binL, augM, biM, bnM, cmpM, cmpI, ltM, leM, inM, eqF, flatD, isM, Cl.isNon, truM, intM, idxM, slcM, lenM, lstAt, Cl.putAt, isaM, tyM, tyName, lsrcM, srcM, calmly, depOk_nil, sizeLine_eq, wipeE]⟩
          have e1 : ((t.1 : Int) = (i : Int)) ↔ t.1 = i := by omega
          have e2 : ((t.2 : Int) = (i : Int)) ↔ t.2 = i := by omega
          by_cases z1 : t.1 = i
          · by_cases z2 : t.2 = i
            · simp (disch := first | omega | (simp; done) | fail) [semS, semE, semA, semN, semO, semI, exS, bnd, optM, pur, setTg, seqM, lsM, binM, binL, augM, biM, bnM, cmpM, cmpI, ltM, leM, inM, eqF, flatD, isM, Cl.isNon, truM, intM, idxM, slcM, lenM, lstAt, Cl.putAt, isaM, tyM, tyName, lsrcM, srcM, calmly, depOk_nil, sizeLine_eq, wipeE, gmul_r, gmul_l, gdiv, gmod, gmod', fdiv_pos, fmod_pos, grg, grg2, gsz, atI_pos, z1, z2, gle]
            · have q2 : ¬ (t.2 : Int) = i := fun z => z2 (e2.mp z)
              simp (disch := first | omega | (simp; done) | fail) [semS, semE, semA, semN, semO, semI, exS, bnd, optM, pur, setTg, seqM, lsM, binM, binL, augM, biM, bnM, cmpM, cmpI, ltM, leM, inM, eqF, flatD, isM, Cl.isNon, truM, intM, idxM, slcM, lenM, lstAt, Cl.putAt, isaM, tyM, tyName, lsrcM, srcM, calmly, depOk_nil, sizeLine_eq, wipeE, gmul_r, gmul_l, gdiv, gmod, gmod', fdiv_pos, fmod_pos, grg, grg2, gsz, atI_pos, z1, z2, q2, gle]
          · have q1 : ¬ (t.1 : Int) = i := fun z => z1 (e1.mp z)
            by_cases z2 : t.2 = i
            · simp (disch := first | omega | (simp; done) | fail) [semS, semE, semA, semN, semO, semI, exS, bnd, optM, pur, setTg, seqM, lsM, binM, binL, augM, biM, bnM, cmpM, cmpI, ltM, leM, inM, eqF, flatD, isM, Cl.isNon, truM, intM, idxM, slcM, lenM, lstAt, Cl.putAt, isaM, tyM, tyName, lsrcM, srcM, calmly, depOk_nil, sizeLine_eq, wipeE, gmul_r, gmul_l, gdiv, gmod, gmod', fdiv_pos, fmod_pos, grg, grg2, gsz, atI_pos, z1, z2, q1, gle]
            · have q2 : ¬ (t.2 : Int) = i := fun z => z2 (e2.mp z)
              simp (disch := first | omega | (simp; done) | fail) [semS, semE, semA, semN, semO, semI, exS, bnd, optM, pur, setTg, seqM, lsM, binM, binL, augM, biM, bnM, cmpM, cmpI, ltM, leM, inM, eqF, flatD, isM, Cl.isNon, truM, intM, idxM, slcM, lenM, lstAt, Cl.putAt, isaM, tyM, tyName, lsrcM, srcM, calmly, depOk_nil, sizeLine_eq, wipeE, gmul_r, gmul_l, gdiv, gmod, gmod', fdiv_pos, fmod_pos, grg, grg2, gsz, atI_pos, z1, z2, q1, q2, gle])
      have dl := deg_len (fun p hp => (hw p hp).1) i
      simp (disch := first | omega | (simp; done) | fail) [semS, semE, semA, semO, semI, exS, bnd, optM, pur, setTg, seqM, lsM, binM, binL, augM, biM, bnM, cmpM, cmpI, ltM, leM, inM, eqF, flatD, isM, Cl.isNon, truM, intM, idxM, slcM, lenM, lstAt, Cl.putAt, isaM, tyM, tyName, lsrcM, srcM, calmly, depOk_nil, sizeLine_eq, wipeE, gmul_r, gmul_l, gdiv, gmod, gmod', fdiv_pos, fmod_pos, grg, grg2, gsz, atI_pos, k2, dl])
  refine ends_seq (ends_rt (d := .fl (rowD n (deg ws))) (h := []) ?_ rfl)
  simp (disch := first | omega | (simp; done) | fail) [ir_law_own_0, semS, semE, semA, semO, semI, exS, bnd, optM, pur, setTg, seqM, lsM, binM, binL, augM, biM, bnM, cmpM, cmpI, ltM, leM, inM, eqF, flatD, isM, Cl.isNon, truM, intM, idxM, slcM, lenM, lstAt, Cl.putAt, isaM, tyM, tyName, lsrcM, srcM, calmly, depOk_nil, sizeLine_eq, wipeE, gmul_r, gmul_l, gdiv, gmod, gmod', fdiv_pos, fmod_pos, grg, grg2, gsz, atI_pos, k, rowD]
theorem ev_lfired {n : Nat} {ws : Ways} {c y : Nat → Int} {cs : D} (hn : n ≤ 1000) (hw : ∀ p ∈ ws, p.1 < p.2 ∧ p.2 < n) (hl : ws.length ≤ 10000) (hcs : cs = .tup (rowD n y) ∨ cs = .fl (rowD n y)) :
    p_law_fired [encLand n ws, .tup (rowD n c), cs] = .ok (.tup (rowD n fun v => c v - LL ws y v)) := by
  have hs : seqM cs = pur (rowD n y) := by rcases hcs with e | e <;> subst e <;> rfl
  have hix : ∀ (j : Nat) h, j < n → idxM cs (.int j) h = .ok (.int (y j)) h := fun j h hj => by
    rcases hcs with e | e <;> subst e <;> simp only [idxM, seqM, bnd, pur, atI_row hj, optM]
  refine p_ends [some (encLand n ws), some (.tup (rowD n c)), some cs, none, none, none] ?_ (noRef_rowD _ _)
  unfold ir_law_fired
  refine ends_step (e := [some (encLand n ws), some (.tup (rowD n c)), some cs, some (.ref 0), none, none]) (h' := [.lst (rowD n c)]) (by simp (disch := first | omega | (simp; done) | fail) [ir_law_fired_0, semS, semE, semA, semN, semO, semI, exS, bnd, optM, pur, setTg, seqM, lsM, binM, binL, augM, biM, bnM, cmpM, cmpI, ltM, leM, inM, eqF, flatD, isM, Cl.isNon, truM, intM, idxM, slcM, lenM, lstAt, Cl.putAt, isaM, tyM, tyName, lsrcM, srcM, calmly, depOk_nil, sizeLine_eq, wipeE, gmul_r, gmul_l, gdiv, gmod, gmod', fdiv_pos, fmod_pos, grg, grg2, gsz, atI_pos]) ?_
  refine ends_seq ?_
  unfold ir_law_fired_1
  refine ends_forS ws (fun p => D.tup [.int p.1, .int p.2]) (h0 := [.lst (rowD n c)]) (by simp (disch := first | omega | (simp; done) | fail) [semS, semE, semA, semN, semO, semI, exS, bnd, optM, pur, setTg, seqM, lsM, binM, binL, augM, biM, bnM, cmpM, cmpI, ltM, leM, inM, eqF, flatD, isM, Cl.isNon, truM, intM, idxM, slcM, lenM, lstAt, Cl.putAt, isaM, tyM, tyName, lsrcM, srcM, calmly, depOk_nil, sizeLine_eq, wipeE, gmul_r, gmul_l, gdiv, gmod, gmod', fdiv_pos, fmod_pos, grg, grg2, gsz, atI_pos]) (fun k e h => h = [.lst (rowD n fun v => c v - LL (ws.take k) y v)] ∧ ∃ o4 o5, e = [some (encLand n ws), some (.tup (rowD n c)), some cs, some (.ref 0), o4, o5]) ?_ ?_ ⟨by
    congr 2
    exact rowD_congr fun j _ => by simp [LL], none, none, rfl⟩
  · rintro k p env h hi ⟨rfl, o4, o5, rfl⟩
    have hp := hw p (List.mem_of_getElem? hi)
    refine ⟨[some (encLand n ws), some (.tup (rowD n c)), some cs, some (.ref 0), some (.int p.1), some (.int p.2)], by simp (disch := first | omega | (simp; done) | fail) [semS, semE, semA, semN, semO, semI, exS, bnd, optM, pur, setTg, seqM, lsM, binM, binL, augM, biM, bnM, cmpM, cmpI, ltM, leM, inM, eqF, flatD, isM, Cl.isNon, truM, intM, idxM, slcM, lenM, lstAt, Cl.putAt, isaM, tyM, tyName, lsrcM, srcM, calmly, depOk_nil, sizeLine_eq, wipeE, gmul_r, gmul_l, gdiv, gmod, gmod', fdiv_pos, fmod_pos, grg, grg2, gsz, atI_pos, gle], ?_⟩
    have et : ∀ v, LL (ws.take (k + 1)) y v = LL (ws.take k) y v + tk y v p := fun v => by
      rw [List.take_succ, hi]; exact LL_snoc _ _ _ _
    generalize LL (ws.take k) y = F at *
    have p1 : p.1 < n := by omega
    have ne : p.1 ≠ p.2 := by omega
    have i1 := hix p.1
    have i2 := hix p.2
    unfold ir_law_fired_b0
    refine ends_step (e := [some (encLand n ws), some (.tup (rowD n c)), some cs, some (.ref 0), some (.int p.1), some (.int p.2)]) (h' := [.lst (rowD n fun v => if v = p.1 then c p.1 - F p.1 - y p.1 + y p.2 else c v - F v)]) (by
      simp only [semS, exS, semE, bnd, optM, pur, lstAt, binM, Cl.putAt, List.getElem?_cons_succ, List.getElem?_cons_zero, Option.bind_some, id, fun h => hix p.1 h p1, fun h => hix p.2 h hp.2, rowD_len, ixN_nat p1, rowD_set p1]
      simp only [idxM, seqM, bnd, lstAt, List.getElem?_cons_zero, optM, pur, atI_row p1, fun h => hix p.1 h p1, fun h => hix p.2 h hp.2, rowD_len, ixN_nat p1, rowD_set p1]
      simp) ?_
    refine ends_step (e := [some (encLand n ws), some (.tup (rowD n c)), some cs, some (.ref 0), some (.int p.1), some (.int p.2)]) (h' := [.lst (rowD n fun v => c v - LL (ws.take (k + 1)) y v)]) ?_ (ends_nop ⟨rfl, _, _, rfl⟩)
    have eb : (rowD n fun v => if v = p.1 then c p.1 - F p.1 - y p.1 + y p.2 else c v - F v).set p.2 (.int (c p.2 - F p.2 - y p.2 + y p.1)) = rowD n fun v => c v - LL (ws.take (k + 1)) y v := by
      rw [rowD_set hp.2]
      refine rowD_congr fun v _ => ?_
      rw [et v]
      unfold tk
      have ne2 : p.2 ≠ p.1 := fun z => ne z.symm
      by_cases a : v = p.2
      · subst a; simp [ne]; omega
      · by_cases b : v = p.1
        · subst b; simp [a, ne2]; omega
        · have a2 : ¬ p.2 = v := fun z => a z.symm
          have b2 : ¬ p.1 = v := fun z => b z.symm
          simp [a, b, a2, b2]
    have ne2 : ¬ p.2 = p.1 := fun z => ne z.symm
    have g1 : atI (rowD n fun v => if v = p.1 then c p.1 - F p.1 - y p.1 + y p.2 else c v - F v) (p.2 : Int) = some (.int (c p.2 - F p.2)) := by
      rw [atI_row hp.2, if_neg ne2]
    simp only [semS, exS, semE, bnd, optM, pur, lstAt, binM, Cl.putAt, List.getElem?_cons_succ, List.getElem?_cons_zero, Option.bind_some, id, fun h => hix p.1 h p1, fun h => hix p.2 h hp.2, rowD_len, ixN_nat hp.2]
    simp only [idxM, seqM, bnd, lstAt, List.getElem?_cons_zero, optM, pur, g1, fun h => hix p.1 h p1, fun h => hix p.2 h hp.2, rowD_len, ixN_nat hp.2, eb]
    simp
  · rintro env h ⟨rfl, o4, o5, rfl⟩
    rw [List.take_length]
    exact ends_seq (ends_rt (d := .tup (rowD n fun v => c v - LL ws y v)) (h := [.lst (rowD n fun v => c v - LL ws y v)]) (by simp (disch := first | omega | (simp; done) | fail) [ir_law_fired_2, semS, semE, semA, semN, semO, semI, exS, bnd, optM, pur, setTg, seqM, lsM, binM, binL, augM, biM, bnM, cmpM, cmpI, ltM, leM, inM, eqF, flatD, isM, Cl.isNon, truM, intM, idxM, slcM, lenM, lstAt, Cl.putAt, isaM, tyM, tyName, lsrcM, srcM, calmly, depOk_nil, sizeLine_eq, wipeE, gmul_r, gmul_l, gdiv, gmod, gmod', fdiv_pos, fmod_pos, grg, grg2, gsz, atI_pos]) rfl)
theorem lstAt_end (b : Bx) (rest : Hc) (xs : List D) : lstAt (rest.length + 2) (bxH b (rest ++ [.lst xs])) = .ok xs (bxH b (rest ++ [.lst xs])) := by
  simp [lstAt, boxH]
theorem putAt_end (b : Bx) (rest : Hc) (xs ys : List D) : Cl.putAt (rest.length + 2) (.lst ys) (bxH b (rest ++ [.lst xs])) = .ok () (bxH b (rest ++ [.lst ys])) := by
  simp [Cl.putAt, boxH]
theorem eqM_nats0 (W : List Nat) (h : Hc) : eqM (.fl (natsD W)) (.fl []) h = .ok (decide (W = [])) h := by
  rw [eqM_dat 1 (a := .fl (natsD W)) (b := .fl []) (datP_map (fun _ => rfl) W) rfl h]
  congr 1
  cases W <;> simp [natsD]
theorem tab_nonpos {w v : Nat} (hv : v ≠ w) : ∀ ws : Ways, tabF ws w v ≤ 0
  | [] => by simp [tabF]
  | p :: ws => by
    rw [tabF_cons]
    have h1 := tab_nonpos hv ws
    have : ent p w v ≤ 0 := by
      unfold ent
      have hv' : w ≠ v := fun z => hv z.symm
      rw [if_neg (by omega), if_neg (by omega)]
      split <;> split <;> omega
    omega
theorem sem_app {G : Gt} {C : List D} {env : Cl.Env} {i : Nat} {x : I} {y : D} {b b' : Bx} {rest : Hc} {xs : List D} (hv : env[i]? = some (some (.ref (rest.length + 2)))) (hx : semE G C x env (bxH b (rest ++ [.lst xs])) = .ok y (bxH b' (rest ++ [.lst xs]))) (hl : xs.length < 16000000) :
    semS G C (.ex (.app (.var i) x)) env (bxH b (rest ++ [.lst xs])) = .nx env (bxH b' (rest ++ [.lst (xs ++ [y])])) := by
  have hl2 : xs.length < sizeLine := Nat.lt_of_lt_of_le hl (by decide +kernel)
  simp only [semS, exS, semE, bnd, optM, pur, hv, Option.bind_some, id, lstAt_end, hx, gle hl2, putAt_end]
abbrev encs (ws : Ways) : List D := ws.map fun p => D.tup [.int p.1, .int p.2]
theorem pairsD_encs (ws : Ways) : pairsD (encs ws) = some (ws.map fun p => ((p.1 : Int), (p.2 : Int))) := by
  induction ws with
  | nil => rfl
  | cons p ws ih =>
    simp only [encs] at ih
    simp only [encs, List.map_cons, pairsD, ih, Option.map_some]
def WSorted (ws : Ways) : Prop := ws.Pairwise (fun a b => a.1 < b.1 ∨ (a.1 = b.1 ∧ a.2 ≤ b.2))
theorem sort_ways (ws : Ways) : ∃ ws' : Ways, ws'.Perm ws ∧ ws'.Pairwise (fun a b => a.1 < b.1 ∨ (a.1 = b.1 ∧ a.2 ≤ b.2)) ∧ ((ws.map fun p => ((p.1 : Int), (p.2 : Int))).mergeSort pairLe).map encP = encs ws' := by
  have hp := List.mergeSort_perm (ws.map fun p => ((p.1 : Int), (p.2 : Int))) pairLe
  have hs : ((ws.map fun p => ((p.1 : Int), (p.2 : Int))).mergeSort pairLe).Pairwise (fun a b => pairLe a b = true) := by
    refine List.pairwise_mergeSort (fun a b c h1 h2 => ?_) (fun a b => ?_) _
    · simp only [pairLe, decide_eq_true_eq] at h1 h2 ⊢
      omega
    · simp only [pairLe, Bool.or_eq_true, decide_eq_true_eq]
      omega
  generalize (ws.map fun p => ((p.1 : Int), (p.2 : Int))).mergeSort pairLe = L at hp hs
  have hn : ∀ p ∈ L, 0 ≤ p.1 ∧ 0 ≤ p.2 := fun p hp2 => by
    obtain ⟨q, _, rfl⟩ := List.mem_map.mp ((hp.mem_iff).mp hp2)
    exact ⟨by simp, by simp⟩
  refine ⟨L.map fun p => (p.1.toNat, p.2.toNat), ?_, ?_, ?_⟩
  · have := hp.map fun p : Int × Int => (p.1.toNat, p.2.toNat)
    rw [List.map_map] at this
    have e : ws.map ((fun p : Int × Int => (p.1.toNat, p.2.toNat)) ∘ fun p : Nat × Nat => ((p.1 : Int), (p.2 : Int))) = ws := by
      conv => rhs; rw [← List.map_id ws]
      refine List.map_congr_left fun p _ => ?_
      simp
    rwa [e] at this
  · rw [List.pairwise_map]
    refine hs.imp_of_mem fun {a b} ha hb h => ?_
    simp only [pairLe, decide_eq_true_eq] at h
    have h1 := hn a ha
    have h2 := hn b hb
    simp only
    omega
  · unfold encs
    rw [List.map_map]
    refine List.map_congr_left fun p hp2 => ?_
    obtain ⟨q, _, rfl⟩ := List.mem_map.mp ((hp.mem_iff).mp hp2)
    simp [encP]
theorem same_ok {d : D} (h : datD 5 d = true) : p_law_same 6 [d, d] = .ok (.bl true) := ev_same_refl 5 d h
theorem ints_row (bs : List Int) : bs.map D.int = rowD bs.length fun i => bs.getD i 0 := by
  unfold rowD
  apply List.ext_getElem?
  intro k
  by_cases h : k < bs.length <;> simp [h]
theorem datD_row (k : Nat) (n : Nat) (f : Nat → Int) : (rowD n f).all (datD k) = true := by
  unfold rowD
  rw [List.all_map, List.all_eq_true]
  intro i _
  cases k <;> rfl
theorem datP_row (k : Nat) (n : Nat) (f : Nat → Int) : (rowD n f).all (datP k) = true := by
  unfold rowD
  rw [List.all_map, List.all_eq_true]
  intro i _
  cases k <;> rfl
theorem leastI_mem : ∀ {xs : List Int}, xs ≠ [] → leastI xs ∈ xs
  | [], h => absurd rfl h
  | [x], _ => by simp [leastI]
  | x :: y :: r, _ => by
    have := leastI_mem (xs := y :: r) (by simp)
    unfold leastI
    split
    · exact List.mem_cons_self
    · exact List.mem_cons_of_mem _ this
theorem intsD_row (n : Nat) (f : Nat → Int) : intsD (rowD n f) = some ((List.range n).map f) := by
  unfold rowD
  have : ∀ l : List Nat, intsD (l.map fun j => D.int (f j)) = some (l.map f) := fun l => by
    induction l with
    | nil => rfl
    | cons a l ih => simp only [List.map_cons, intsD, ih, Option.map_some]
  exact this _
theorem isR_true {n : Nat} {ws : Ways} {c : Nat → Int} (h : ∀ v, 1 ≤ v → v < n → 0 ≤ c v ∧ c v < deg ws v) : isR n ws c = true := by
  unfold isR
  rw [List.all_eq_true]
  intro i hi
  rw [List.mem_range] at hi
  have := h (i + 1) (by omega) (by omega)
  simp [this.1, this.2]
theorem IsRest.zero {n : Nat} {ws : Ways} {c : Nat → Int} (h : ∀ v, 1 ≤ v → v < n → c v < deg ws v) : IsRest n ws c fun _ => 0 :=
  ⟨Legal.zero n ws c, fun _ => Int.le_refl 0, rfl, fun v h1 h2 => by rw [LL_zero]; have := h v h1 h2; omega⟩
theorem tup_cong {n : Nat} {f g : Nat → Int} (h : ∀ j, j < n → f j = g j) : (D.tup (rowD n f)) = D.tup (rowD n g) := by rw [rowD_congr h]
theorem LL_rep (m : Nat) (p : Nat × Nat) (y : Nat → Int) (v : Nat) : LL (List.replicate m p) y v = m * tk y v p := by
  induction m with
  | zero => simp [LL]
  | succ m ih => rw [List.replicate_succ, LL_cons, ih, Int.natCast_succ, Int.add_mul, Int.one_mul, Int.add_comm]
theorem deg_rep (m : Nat) (p : Nat × Nat) (v : Nat) : deg (List.replicate m p) v = m * dg v p := by
  induction m with
  | zero => simp [deg]
  | succ m ih => rw [List.replicate_succ, deg_cons, ih, Int.natCast_succ, Int.add_mul, Int.one_mul, Int.add_comm]
theorem sum_one (n a : Nat) (t : Int) : ((List.range n).map fun v => if a = v then t else 0).sum = if a < n then t else 0 := by
  induction n with
  | zero => rfl
  | succ n ih =>
    rw [List.range_succ, List.map_append, List.sum_append, ih]
    simp only [List.map_cons, List.map_nil, List.sum_cons, List.sum_nil, Int.add_zero]
    by_cases h : a < n
    · rw [if_pos h, if_neg (by omega), if_pos (by omega), Int.add_zero]
    · by_cases h2 : a = n
      · rw [if_neg h, if_pos h2, if_pos (by omega), Int.zero_add]
      · rw [if_neg h, if_neg h2, if_neg (by omega), Int.add_zero]
theorem sum_add (l : List Nat) (f g : Nat → Int) : (l.map fun v => f v + g v).sum = (l.map f).sum + (l.map g).sum := by
  induction l with
  | nil => rfl
  | cons a l ih => simp only [List.map_cons, List.sum_cons, ih]; omega
theorem sum_LL {n : Nat} : ∀ {ws : Ways} (_ : ∀ p ∈ ws, p.1 < p.2 ∧ p.2 < n) (y : Nat → Int), ((List.range n).map (LL ws y)).sum = 0
  | [], _, y => by
    have : ∀ l : List Nat, (l.map (LL [] y)).sum = 0 := fun l => by
      induction l with
      | nil => rfl
      | cons a l ih => rw [List.map_cons, List.sum_cons, ih]; rfl
    exact this _
  | p :: ws, h, y => by
    have ih := sum_LL (fun q hq => h q (List.mem_cons_of_mem _ hq)) y
    have hp := h p List.mem_cons_self
    have e : (List.range n).map (LL (p :: ws) y) = (List.range n).map fun v => ((if p.1 = v then y p.1 - y p.2 else 0) + (if p.2 = v then y p.2 - y p.1 else 0)) + LL ws y v :=
      List.map_congr_left fun v _ => by rw [LL_cons]; rfl
    rw [e, sum_add, sum_add, ih, sum_one, sum_one, if_pos (by omega), if_pos (by omega)]
    omega
theorem sum_end {n : Nat} {ws : Ways} (h : ∀ p ∈ ws, p.1 < p.2 ∧ p.2 < n) (c y : Nat → Int) : ((List.range n).map fun v => c v - LL ws y v).sum = ((List.range n).map c).sum := by
  have e := sum_add (List.range n) (fun v => c v - LL ws y v) (LL ws y)
  rw [sum_LL h] at e
  have e2 : ((List.range n).map fun v => c v - LL ws y v + LL ws y v) = (List.range n).map c := List.map_congr_left fun v _ => by omega
  rw [e2] at e
  omega
theorem cons_row (a : Int) (bs : List Int) : D.int a :: bs.map D.int = rowD (bs.length + 1) fun i => (a :: bs).getD i 0 := by
  have := ints_row (a :: bs)
  rw [List.map_cons, List.length_cons] at this
  exact this
theorem getD_nn {bs : List Int} (h : ∀ i (hi : i < bs.length), 0 ≤ bs[i]) (v : Nat) : 0 ≤ bs.getD v 0 := by
  rw [List.getD_eq_getElem?_getD]
  rcases Nat.lt_or_ge v bs.length with z | z
  · rw [List.getElem?_eq_getElem z]; exact h v z
  · rw [List.getElem?_eq_none z]; exact Int.le_refl 0
theorem atI_last {n : Nat} (hn : 1 ≤ n) (f : Nat → Int) : atI (rowD n f) (-1) = some (.int (f (n - 1))) := by
  have : ixN n (-1) = some (n - 1) := by
    unfold ixN
    rw [if_neg (by omega)]
    simp
    omega
  unfold atI
  rw [rowD_len, this]
  exact rowD_get (by omega)
theorem draws_ok {G : Gt} {own : List Nat} {j : Nat} {src el : I} {env : Cl.Env} {b : Bx} {rest : Hc} {k : Nat} {st : Int} (lo hi : Int)
    (hs : semI G [] src env (bxH b rest) = .ok ⟨(List.range k).map fun i : Nat => D.int (st + (i : Int)), []⟩ (bxH b rest)) (hk : k ≤ 1000)
    (step : ∀ (i : Nat) (b : Bx), i < k → ∃ e r b', setTg (.nm j) (.int (st + (i : Int))) (wipeE env own) (bxH b rest) = .ok e (bxH b rest) ∧ semE G [] el e (bxH b rest) = .ok (.int r) (bxH b' rest) ∧ lo ≤ r ∧ r ≤ hi) :
    ∃ (bs : List Int) (b' : Bx), semN G [] (.comp own (.nm j) src .nil el) env (bxH b rest) = .ok (bs.map D.int) (bxH b' rest) ∧ bs.length = k ∧ ∀ i (hi2 : i < bs.length), lo ≤ bs[i] ∧ bs[i] ≤ hi := by
  obtain ⟨bs, h2, ec, ⟨b3, rfl⟩, hlen, hbs⟩ := comp_st (β := Int) (G := G) (C := []) (own := own) (tg := .nm j) (src := src) (elt := el) (env := env)
      (fun h => ∃ b, h = bxH b rest) .int (fun _ i => lo ≤ i ∧ i ≤ hi) (List.range k) (fun i : Nat => D.int (st + (i : Int))) (bxH b rest) hs (by simp; omega) ⟨b, rfl⟩ (fun a ha h ⟨b, hb⟩ => by
        subst hb
        rw [List.mem_range] at ha
        obtain ⟨e, r, b', e1, e2, l, u⟩ := step a b ha
        exact ⟨e, _, r, _, e1, e2, ⟨b', rfl⟩, l, u⟩)
  rw [List.length_range] at hlen
  refine ⟨bs, b3, ec, hlen, fun i hi2 => ?_⟩
  exact hbs i i bs[i] (by rw [List.getElem?_range (by omega)]) (List.getElem?_eq_getElem hi2)
theorem ev_lland {most : Nat} (hm1 : 1 ≤ most) (hm8 : most ≤ 8) (b : Bx) (rest : Hc) : ∃ n ws b' rest', 1 ≤ n ∧ n ≤ most ∧ Land n ws ∧ ws.length ≤ 2 * n ∧ WSorted ws ∧ g_law_land [.ref 1, .int most] (bxH b rest) = .ok (encLand n ws) (bxH b' rest') := by
  have key : ∃ d h', g_law_land [.ref 1, .int most] (bxH b rest) = .ok d h' ∧ ∃ n ws b' rest', 1 ≤ n ∧ n ≤ most ∧ Land n ws ∧ ws.length ≤ 2 * n ∧ WSorted ws ∧ d = encLand n ws ∧ h' = bxH b' rest' := by
    refine runF_ends (P := fun d h' => ∃ n ws b' rest', 1 ≤ n ∧ n ≤ most ∧ Land n ws ∧ ws.length ≤ 2 * n ∧ WSorted ws ∧ d = encLand n ws ∧ h' = bxH b' rest') [some (.ref 1), some (.int most), none, none, none, none, none] ?_
    unfold ir_law_land
    obtain ⟨r, b1, er, r0, r1⟩ := draw_ok b rest (many := (most : Int)) (by omega) (by omega)
    obtain ⟨n, hn⟩ : ∃ n : Nat, (n : Int) = 1 + r := ⟨(1 + r).toNat, by omega⟩
    have n1 : 1 ≤ n := by omega
    have n6 : n ≤ most := by omega
    refine ends_step (e := [some (.ref 1), some (.int most), some (.int n), some (.ref (rest.length + 2)), none, none, none]) (h' := bxH b1 (rest ++ [.lst []])) (by simp (disch := first | omega | (simp; done) | fail) [ir_law_land_0, semS, semE, semA, semN, semO, semI, exS, bnd, optM, pur, setTg, seqM, lsM, binM, binL, augM, biM, bnM, cmpM, cmpI, ltM, leM, inM, eqF, flatD, isM, Cl.isNon, truM, intM, idxM, slcM, lenM, lstAt, Cl.putAt, isaM, tyM, tyName, lsrcM, srcM, calmly, depOk_nil, sizeLine_eq, wipeE, gmul_r, gmul_l, gdiv, gmod, gmod', fdiv_pos, fmod_pos, grg, grg2, gsz, atI_pos, er, hn]) ?_
    refine ends_seq ?_
    unfold ir_law_land_1
    have e1 : ((n : Int) - 1).toNat = n - 1 := by omega
    refine ends_forS (List.range (n - 1)) (fun i : Nat => D.int (1 + (i : Int))) (h0 := bxH b1 (rest ++ [.lst []])) (by simp (disch := first | omega | (simp; done) | fail) [semS, semE, semA, semN, semO, semI, exS, bnd, optM, pur, setTg, seqM, lsM, binM, binL, augM, biM, bnM, cmpM, cmpI, ltM, leM, inM, eqF, flatD, isM, Cl.isNon, truM, intM, idxM, slcM, lenM, lstAt, Cl.putAt, isaM, tyM, tyName, lsrcM, srcM, calmly, depOk_nil, sizeLine_eq, wipeE, gmul_r, gmul_l, gdiv, gmod, gmod', fdiv_pos, fmod_pos, grg, grg2, gsz, atI_pos, rangeD_eq, e1, grg2]) (fun k e h => ∃ (ws : Ways) (b : Bx) (o4 : Option D), ws.length = k ∧ (∀ p ∈ ws, p.1 < p.2 ∧ p.2 < k + 1) ∧ (∀ v, 1 ≤ v → v < k + 1 → ∃ p ∈ ws, p.2 = v) ∧ h = bxH b (rest ++ [.lst (encs ws)]) ∧ e = [some (.ref 1), some (.int most), some (.int n), some (.ref (rest.length + 2)), o4, none, none]) ?_ ?_ ⟨[], b1, none, rfl, by simp, fun v h1 h2 => by omega, rfl, rfl⟩
    · rintro k i env h hi ⟨ws, b, o4, hlen, hw, hu, rfl, rfl⟩
      have hk : k < n - 1 := by
        have := (List.getElem?_eq_some_iff.mp hi).1
        simpa using this
      obtain rfl : k = i := by
        rw [List.getElem?_range hk] at hi
        exact Option.some.inj hi
      refine ⟨[some (.ref 1), some (.int most), some (.int n), some (.ref (rest.length + 2)), some (.int (1 + (k : Int))), none, none], by simp [semS, semE, semA, semN, semO, semI, exS, bnd, optM, pur, setTg, seqM, lsM, binM, binL, augM, biM, bnM, cmpM, cmpI, ltM, leM, inM, eqF, flatD, isM, Cl.isNon, truM, intM, idxM, slcM, lenM, lstAt, Cl.putAt, isaM, tyM, tyName, lsrcM, srcM, calmly, depOk_nil, sizeLine_eq, wipeE], ?_⟩
      obtain ⟨r, b2, er, r0, r1⟩ := draw_ok b (rest ++ [.lst (encs ws)]) (many := 1 + (k : Int)) (by omega) (by omega)
      obtain ⟨r, rfl⟩ := Int.eq_ofNat_of_zero_le r0
      unfold ir_law_land_b0
      refine ends_step (e := [some (.ref 1), some (.int most), some (.int n), some (.ref (rest.length + 2)), some (.int (1 + (k : Int))), none, none]) (h' := bxH b2 (rest ++ [.lst (encs (ws ++ [(r, k + 1)]))])) (by
        have := sem_app (G := { tab := [g_law_draw] }) (C := []) (i := 3) (x := .tup (.cons (.call 0 (.cons (.var 0) (.cons (.var 4) .nil))) (.cons (.var 4) .nil))) (y := .tup [.int r, .int (1 + (k : Int))]) (env := [some (.ref 1), some (.int most), some (.int n), some (.ref (rest.length + 2)), some (.int (1 + (k : Int))), none, none]) (b := b) (b' := b2) (rest := rest) (xs := encs ws) rfl (by simp (disch := first | omega | (simp; done) | fail) [semS, semE, semA, semN, semO, semI, exS, bnd, optM, pur, setTg, seqM, lsM, binM, binL, augM, biM, bnM, cmpM, cmpI, ltM, leM, inM, eqF, flatD, isM, Cl.isNon, truM, intM, idxM, slcM, lenM, lstAt, Cl.putAt, isaM, tyM, tyName, lsrcM, srcM, calmly, depOk_nil, sizeLine_eq, wipeE, gmul_r, gmul_l, gdiv, gmod, gmod', fdiv_pos, fmod_pos, grg, grg2, gsz, atI_pos, er]) (by simp; omega)
        rw [this]
        simp only [encs, List.map_append, List.map_cons, List.map_nil]
        rw [show ((k + 1 : Nat) : Int) = 1 + (k : Int) by omega]) ?_
      refine ends_nop ⟨ws ++ [(r, k + 1)], b2, _, by simp [hlen], fun p hp => ?_, fun v h1 h2 => ?_, rfl, rfl⟩
      · rcases List.mem_append.mp hp with z | z
        · have := hw p z
          omega
        · rw [List.mem_singleton] at z
          subst z
          exact ⟨by show r < k + 1; omega, by show k + 1 < k + 1 + 1; omega⟩
      · rcases Nat.lt_or_ge v (k + 1) with z | z
        · obtain ⟨p, hp, e⟩ := hu v h1 z
          exact ⟨p, List.mem_append_left _ hp, e⟩
        · exact ⟨(r, k + 1), by simp, by show k + 1 = v; omega⟩
    · rintro env h ⟨ws, b, o4, hlen, hw, hu, rfl, rfl⟩
      rw [List.length_range] at hlen hw hu
      have e0 : n - 1 + 1 = n := by omega
      rw [e0] at hw hu
      have hsrc : ∃ (m : Nat) (b2 : Bx), m ≤ n + 1 ∧ semI { tab := [g_law_draw] } [] (.rng1 (.ite (.cmp .Gt (.var 2) (.int 1)) (.call 0 (.cons (.var 0) (.cons (.bin .Add (.var 2) (.int 2)) .nil))) (.int 0))) [some (.ref 1), some (.int most), some (.int n), some (.ref (rest.length + 2)), o4, none, none] (bxH b (rest ++ [.lst (encs ws)])) = .ok ⟨(List.range m).map fun i : Nat => D.int (0 + (i : Int)), []⟩ (bxH b2 (rest ++ [.lst (encs ws)])) := by
        by_cases z : n = 1
        · exact ⟨0, b, by omega, by simp (disch := first | omega | (simp; done) | fail) [semS, semE, semA, semN, semO, semI, exS, bnd, optM, pur, setTg, seqM, lsM, binM, binL, augM, biM, bnM, cmpM, cmpI, ltM, leM, inM, eqF, flatD, isM, Cl.isNon, truM, intM, idxM, slcM, lenM, lstAt, Cl.putAt, isaM, tyM, tyName, lsrcM, srcM, calmly, depOk_nil, sizeLine_eq, wipeE, gmul_r, gmul_l, gdiv, gmod, gmod', fdiv_pos, fmod_pos, grg, grg2, gsz, atI_pos, z, rangeD_eq]⟩
        · have z1 : (1 : Int) < n := by omega
          obtain ⟨r, b2, er, r0, r1⟩ := draw_ok b (rest ++ [.lst (encs ws)]) (many := (n : Int) + 2) (by omega) (by omega)
          obtain ⟨r, rfl⟩ := Int.eq_ofNat_of_zero_le r0
          exact ⟨r, b2, by omega, by
            have q : Cl.Rg (r : Int) := by constructor <;> omega
            simp (disch := first | omega | (simp; done) | fail) [semS, semE, semA, semN, semO, semI, exS, bnd, optM, pur, setTg, seqM, lsM, binM, binL, augM, biM, bnM, cmpM, cmpI, ltM, leM, inM, eqF, flatD, isM, Cl.isNon, truM, intM, idxM, slcM, lenM, lstAt, Cl.putAt, isaM, tyM, tyName, lsrcM, srcM, calmly, depOk_nil, sizeLine_eq, wipeE, gmul_r, gmul_l, gdiv, gmod, gmod', fdiv_pos, fmod_pos, grg, grg2, gsz, atI_pos, z1, er, rangeD_eq, gle q]⟩
      obtain ⟨m, b2, hm, es⟩ := hsrc
      refine ends_seq ?_
      unfold ir_law_land_2
      refine ends_forS (List.range m) (fun i : Nat => D.int (0 + (i : Int))) es (fun k e h => ∃ (ws : Ways) (b : Bx) (o4 o5 o6 : Option D), ws.length ≤ n - 1 + k ∧ Land n ws ∧ h = bxH b (rest ++ [.lst (encs ws)]) ∧ e = [some (.ref 1), some (.int most), some (.int n), some (.ref (rest.length + 2)), o4, o5, o6]) ?_ ?_ ⟨ws, b2, _, _, _, by omega, ⟨hw, hu⟩, rfl, rfl⟩
      · clear hw hu hlen es
        rintro k i env h hi ⟨ws, b, o4, o5, o6, hlen, hL, rfl, rfl⟩
        have hk : k < m := by
          have := (List.getElem?_eq_some_iff.mp hi).1
          simpa using this
        refine ⟨[some (.ref 1), some (.int most), some (.int n), some (.ref (rest.length + 2)), o4, some (.int i), o6], by simp [semS, semE, semA, semN, semO, semI, exS, bnd, optM, pur, setTg, seqM, lsM, binM, binL, augM, biM, bnM, cmpM, cmpI, ltM, leM, inM, eqF, flatD, isM, Cl.isNon, truM, intM, idxM, slcM, lenM, lstAt, Cl.putAt, isaM, tyM, tyName, lsrcM, srcM, calmly, depOk_nil, sizeLine_eq, wipeE], ?_⟩
        obtain ⟨r, b2, er, r0, r1⟩ := draw_ok b (rest ++ [.lst (encs ws)]) (many := (n : Int)) (by omega) (by omega)
        obtain ⟨t, b3, et, t0, t1⟩ := draw_ok b2 (rest ++ [.lst (encs ws)]) (many := (n : Int)) (by omega) (by omega)
        obtain ⟨r, rfl⟩ := Int.eq_ofNat_of_zero_le r0
        obtain ⟨t, rfl⟩ := Int.eq_ofNat_of_zero_le t0
        unfold ir_law_land_b1
        refine ends_step (e := [some (.ref 1), some (.int most), some (.int n), some (.ref (rest.length + 2)), some (.int r), some (.int i), some (.int t)]) (h' := bxH b3 (rest ++ [.lst (encs ws)])) (by simp (disch := first | omega | (simp; done) | fail) [semS, semE, semA, semN, semO, semI, exS, bnd, optM, pur, setTg, seqM, lsM, binM, binL, augM, biM, bnM, cmpM, cmpI, ltM, leM, inM, eqF, flatD, isM, Cl.isNon, truM, intM, idxM, slcM, lenM, lstAt, Cl.putAt, isaM, tyM, tyName, lsrcM, srcM, calmly, depOk_nil, sizeLine_eq, wipeE, gmul_r, gmul_l, gdiv, gmod, gmod', fdiv_pos, fmod_pos, grg, grg2, gsz, atI_pos, er, et]) ?_
        by_cases z : r = t
        · refine ends_step (e := [some (.ref 1), some (.int most), some (.int n), some (.ref (rest.length + 2)), some (.int r), some (.int i), some (.int t)]) (h' := bxH b3 (rest ++ [.lst (encs ws)])) (by simp (disch := first | omega | (simp; done) | fail) [semS, semE, semA, semN, semO, semI, exS, bnd, optM, pur, setTg, seqM, lsM, binM, binL, augM, biM, bnM, cmpM, cmpI, ltM, leM, inM, eqF, flatD, isM, Cl.isNon, truM, intM, idxM, slcM, lenM, lstAt, Cl.putAt, isaM, tyM, tyName, lsrcM, srcM, calmly, depOk_nil, sizeLine_eq, wipeE, gmul_r, gmul_l, gdiv, gmod, gmod', fdiv_pos, fmod_pos, grg, grg2, gsz, atI_pos, z]) ?_
          exact ends_nop ⟨ws, b3, _, _, _, by omega, hL, rfl, rfl⟩
        · have zi : ¬ (r : Int) = t := by omega
          refine ends_seq (ends_ite (k := true) (h1 := bxH b3 (rest ++ [.lst (encs ws)])) (by simp (disch := first | omega | (simp; done) | fail) [semS, semE, semA, semN, semO, semI, exS, bnd, optM, pur, setTg, seqM, lsM, binM, binL, augM, biM, bnM, cmpM, cmpI, ltM, leM, inM, eqF, flatD, isM, Cl.isNon, truM, intM, idxM, slcM, lenM, lstAt, Cl.putAt, isaM, tyM, tyName, lsrcM, srcM, calmly, depOk_nil, sizeLine_eq, wipeE, gmul_r, gmul_l, gdiv, gmod, gmod', fdiv_pos, fmod_pos, grg, grg2, gsz, atI_pos, zi]) ?_)
          rw [if_pos rfl]
          have mm : (if (t : Int) < r then (t : Int) else r) = (min r t : Nat) := by split <;> omega
          have mx : (if (t : Int) > r then (t : Int) else r) = (max r t : Nat) := by split <;> omega
          refine ends_step (e := [some (.ref 1), some (.int most), some (.int n), some (.ref (rest.length + 2)), some (.int r), some (.int i), some (.int t)]) (h' := bxH b3 (rest ++ [.lst (encs (ws ++ [(min r t, max r t)]))])) (by
            have := sem_app (G := { tab := [g_law_draw] }) (C := []) (i := 3) (x := .tup (.cons (.bi .min2 (.cons (.var 4) (.cons (.var 6) .nil))) (.cons (.bi .max2 (.cons (.var 4) (.cons (.var 6) .nil))) .nil))) (y := .tup [.int (min r t : Nat), .int (max r t : Nat)]) (env := [some (.ref 1), some (.int most), some (.int n), some (.ref (rest.length + 2)), some (.int r), some (.int i), some (.int t)]) (b := b3) (b' := b3) (rest := rest) (xs := encs ws) rfl (by
              rw [← mm, ← mx]
              simp (disch := first | omega | (simp; done) | fail) [semS, semE, semA, semN, semO, semI, exS, bnd, optM, pur, setTg, seqM, lsM, binM, binL, augM, biM, bnM, cmpM, cmpI, ltM, leM, inM, eqF, flatD, isM, Cl.isNon, truM, intM, idxM, slcM, lenM, lstAt, Cl.putAt, isaM, tyM, tyName, lsrcM, srcM, calmly, depOk_nil, sizeLine_eq, wipeE, gmul_r, gmul_l, gdiv, gmod, gmod', fdiv_pos, fmod_pos, grg, grg2, gsz, atI_pos]) (by simp; omega)
            rw [this]
            simp only [encs, List.map_append, List.map_cons, List.map_nil]) ?_
          refine ends_nop (ends_nop ⟨ws ++ [(min r t, max r t)], b3, _, _, _, by simp; omega, ⟨fun p hp => ?_, fun v h1 h2 => ?_⟩, rfl, rfl⟩)
          · rcases List.mem_append.mp hp with q | q
            · exact hL.lt p q
            · rw [List.mem_singleton] at q
              subst q
              exact ⟨by show min r t < max r t; omega, by show max r t < n; omega⟩
          · obtain ⟨p, hp, e⟩ := hL.up v h1 h2
            exact ⟨p, List.mem_append_left _ hp, e⟩
      · clear hw hu hlen es
        rintro env h ⟨ws, b, o4, o5, o6, hlen, hL, rfl, rfl⟩
        rw [List.length_range] at hlen
        obtain ⟨ws', hp, hpw, hs⟩ := sort_ways ws
        have hlen' := hp.length_eq
        refine ends_seq (ends_rt (d := encLand n ws') (h := bxH b (rest ++ [.lst (encs ws)])) ?_ ⟨n, ws', b, _, n1, n6, ⟨fun p q => hL.lt p ((hp.mem_iff).mp q), fun v h1 h2 => by
          obtain ⟨p, q, e⟩ := hL.up v h1 h2
          exact ⟨p, (hp.mem_iff).mpr q, e⟩⟩, by omega, hpw, rfl, rfl⟩)
        have g : (ws.map fun p => ((p.1 : Int), (p.2 : Int))).length < 64 ∧ ∀ p ∈ ws.map fun p => ((p.1 : Int), (p.2 : Int)), 0 ≤ p.1 ∧ 0 ≤ p.2 := by
          refine ⟨by rw [List.length_map]; omega, fun p hp => ?_⟩
          obtain ⟨q, _, rfl⟩ := List.mem_map.mp hp
          exact ⟨by simp, by simp⟩
        have l1 := lstAt_end b rest (encs ws)
        have hb : bnM .sortP [.ref (rest.length + 2)] (bxH b (rest ++ [.lst (encs ws)])) = .ok (encs ws') (bxH b (rest ++ [.lst (encs ws)])) := by
          simp only [bnM, seqM, bnd, l1, optM, pairsD_encs, gle g, hs, pur]
        simp only [ir_law_land_3, semS, exS, semE, semA, semN, bnd, optM, pur, List.getElem?_cons_succ, List.getElem?_cons_zero, Option.bind_some, id, hb, biM, seqM]
        simp (disch := first | omega | (simp; done) | fail) [gmul_r, gmul_l, gdiv, gmod, gmod', fdiv_pos, fmod_pos, grg, grg2, gsz, atI_pos, pur]
  obtain ⟨d, h', e, n, ws, b', rest', h1, h2, h3, h4, h5, rfl, rfl⟩ := key
  exact ⟨n, ws, b', rest', h1, h2, h3, h4, h5, e⟩
end Cl
namespace Cl
open PySem PySem.Spec PyProof.Rows L2 Mth
def ir_law_bent_5 : S := (.ret (.idx (.lst (.cons (.int 0) (.cons (.int 1) (.cons .non (.cons (.bl true) (.cons (.bl false) (.cons (.str "a") (.cons (.tup .nil) (.cons (.neg (.int 1)) .nil))))))))) (.var 3)))
def ir_law_bent_4 : S := (.ite (.isa (.var 1) ["str"]) (.seq .never .nop) .nop)
def ir_law_bent_3 : S := (.ite (.and (.isa (.var 1) ["int"]) (.not (.isa (.var 1) ["bool"]))) (.seq (.ret (.idx (.lst (.cons (.bin .Add (.var 1) (.int 1)) (.cons (.bin .Sub (.var 1) (.int 1)) (.cons (.neg (.var 1)) (.cons (.cmp .Eq (.var 1) (.int 1)) (.cons .non (.cons (.bi .str (.cons (.var 1) .nil)) (.cons (.tup (.cons (.var 1) .nil)) (.cons (.bin .Add (.var 1) (.int 1001)) .nil))))))))) (.var 3))) .nop) .nop)
def ir_law_bent_2 : S := (.ite (.isa (.var 1) ["tuple"]) (.seq (.ret (.idx (.lst (.cons (.bin .Add (.var 1) (.slc (.var 1) .nil (.int 1))) (.cons (.slc (.var 1) (.int 1) .nil) (.cons (.rev (.var 1)) (.cons (.bin .Add (.var 1) (.tup (.cons (.int 0) .nil))) (.cons (.bin .Add (.slc (.var 1) .nil (.int 1)) (.var 1)) (.cons (.slc (.var 1) .nil (.neg (.int 1))) (.cons .non (.cons (.slc (.var 1) .nil (.int 1)) .nil))))))))) (.var 3))) .nop) .nop)
def ir_law_bent_1 : S := (.asg (.tg (.nm 3)) (.call 0 (.cons (.var 0) (.cons (.int 8) .nil))))
def ir_law_bent_0 : S := (.ite (.and (.isa (.var 1) ["tuple"]) (.and (.cmp .Gt (.bi .len (.cons (.var 1) .nil)) (.int 0)) (.cmp .Gt (.call 0 (.cons (.var 0) (.cons (.int 5) .nil))) (.int 0)))) (.seq (.asg (.tg (.nm 2)) (.call 0 (.cons (.var 0) (.cons (.bi .len (.cons (.var 1) .nil)) .nil)))) (.seq (.ret (.bin .Add (.bin .Add (.slc (.var 1) .nil (.var 2)) (.tup (.cons (.call 1 (.cons (.var 0) (.cons (.idx (.var 1) (.var 2)) .nil))) .nil))) (.slc (.var 1) (.bin .Add (.var 2) (.int 1)) .nil))) .nop)) .nop)
def ir_law_bent : S := (.seq ir_law_bent_0 (.seq ir_law_bent_1 (.seq ir_law_bent_2 (.seq ir_law_bent_3 (.seq ir_law_bent_4 (.seq ir_law_bent_5 .nop))))))
noncomputable def g_law_bent : Nat → List D → M D
  | 0 => fun _ _ => .bad
  | n + 1 => runF (semS { tab := [g_law_draw, (g_law_bent n)] } [] ir_law_bent) 2 4

/-- plain data without lists -/
def plD : Nat → D → Bool
  | _, .non => true
  | _, .bl _ => true
  | _, .int _ => true
  | _, .str _ => true
  | n + 1, .tup xs => decide (xs.length ≤ 4000) && xs.all (plD n)
  | _, _ => false
/-- plain data without texts, not great -/
def plI : Nat → D → Bool
  | _, .non => true
  | _, .bl _ => true
  | _, .int i => decide (i.natAbs.log2 < 1900)
  | n + 1, .tup xs => decide (xs.length ≤ 1000) && xs.all (plI n)
  | _, _ => false
theorem plI_plD : ∀ {n : Nat} {d : D}, plI n d = true → plD n d = true := by
  intro n
  induction n with
  | zero => intro d h; cases d <;> simp_all [plI, plD]
  | succ n ih =>
    intro d h
    cases d <;> simp_all [plI, plD]
    omega
theorem plD_up : ∀ {n : Nat} {d : D}, plD n d = true → plD (n + 1) d = true := by
  intro n
  induction n with
  | zero => intro d h; cases d <;> simp_all [plD]
  | succ n ih =>
    intro d h
    cases d <;> simp_all [plD] <;> exact fun x hx => ih (h.2 x hx)
theorem plD_noRef : ∀ {n : Nat} {d : D}, plD n d = true → noRef d = true := by
  intro n
  induction n with
  | zero => intro d h; cases d <;> simp_all [plD, noRef]
  | succ n ih =>
    intro d h
    cases d <;> simp_all [plD, noRef]
    exact noRefL_of fun x hx => ih (h.2 x hx)
theorem cut_mem {xs : List D} {lo hi : Option Int} {x : D} (h : x ∈ cutD xs lo hi) : x ∈ xs := List.mem_of_mem_drop (List.mem_of_mem_take h)
theorem cut_le (xs : List D) (lo hi : Option Int) : (cutD xs lo hi).length ≤ xs.length := by
  unfold cutD
  rw [List.length_take, List.length_drop]
  omega
theorem cut_plD {n : Nat} {xs : List D} (h : ∀ x ∈ xs, plD n x = true) (lo hi : Option Int) : ∀ x ∈ cutD xs lo hi, plD n x = true := fun x hx => h x (cut_mem hx)
theorem bent_leaf {n m : Nat} {v : D} (hv : v = .non ∨ (∃ k, v = .bl k) ∨ ∃ i : Int, v = .int i ∧ i.natAbs.log2 < 1900) (b : Bx) (rest : Hc) : ∃ v' b', g_law_bent (m + 1) [.ref 1, v] (bxH b rest) = .ok v' (bxH b' rest) ∧ plD (n + 1) v' = true := by
  have key : ∃ d h', g_law_bent (m + 1) [.ref 1, v] (bxH b rest) = .ok d h' ∧ ∃ b', h' = bxH b' rest ∧ plD (n + 1) d = true := by
    refine runF_ends (P := fun d h' => ∃ b', h' = bxH b' rest ∧ plD (n + 1) d = true) [some (.ref 1), some v, none, none] ?_
    unfold ir_law_bent
    refine ends_step (e := [some (.ref 1), some v, none, none]) (h' := bxH b rest) (by
      rcases hv with rfl | ⟨k, rfl⟩ | ⟨i, rfl, _⟩ <;> simp (disch := first | omega | (simp; done) | fail) [ir_law_bent_0, semS, semE, semA, semN, semO, semI, exS, bnd, optM, pur, setTg, seqM, lsM, binM, binL, augM, biM, bnM, cmpM, cmpI, ltM, leM, inM, eqF, flatD, isM, Cl.isNon, truM, intM, idxM, slcM, lenM, lstAt, Cl.putAt, isaM, tyM, tyName, lsrcM, srcM, calmly, depOk_nil, sizeLine_eq, wipeE, gmul_r, gmul_l, gdiv, gmod, gmod', fdiv_pos, fmod_pos, grg, grg2, gsz, atI_pos]) ?_
    obtain ⟨r, b1, e1, l1, u1⟩ := draw_ok b rest (many := 8) (by decide) (by decide)
    refine ends_step (e := [some (.ref 1), some v, none, some (.int r)]) (h' := bxH b1 rest) (by simp (disch := first | omega | (simp; done) | fail) [ir_law_bent_1, semS, semE, semA, semN, semO, semI, exS, bnd, optM, pur, setTg, seqM, lsM, binM, binL, augM, biM, bnM, cmpM, cmpI, ltM, leM, inM, eqF, flatD, isM, Cl.isNon, truM, intM, idxM, slcM, lenM, lstAt, Cl.putAt, isaM, tyM, tyName, lsrcM, srcM, calmly, depOk_nil, sizeLine_eq, wipeE, gmul_r, gmul_l, gdiv, gmod, gmod', fdiv_pos, fmod_pos, grg, grg2, gsz, atI_pos, e1]) ?_
    refine ends_step (e := [some (.ref 1), some v, none, some (.int r)]) (h' := bxH b1 rest) (by
      rcases hv with rfl | ⟨k, rfl⟩ | ⟨i, rfl, _⟩ <;> simp (disch := first | omega | (simp; done) | fail) [ir_law_bent_2, semS, semE, semA, semN, semO, semI, exS, bnd, optM, pur, setTg, seqM, lsM, binM, binL, augM, biM, bnM, cmpM, cmpI, ltM, leM, inM, eqF, flatD, isM, Cl.isNon, truM, intM, idxM, slcM, lenM, lstAt, Cl.putAt, isaM, tyM, tyName, lsrcM, srcM, calmly, depOk_nil, sizeLine_eq, wipeE, gmul_r, gmul_l, gdiv, gmod, gmod', fdiv_pos, fmod_pos, grg, grg2, gsz, atI_pos]) ?_
    have r8 : r = 0 ∨ r = 1 ∨ r = 2 ∨ r = 3 ∨ r = 4 ∨ r = 5 ∨ r = 6 ∨ r = 7 := by omega
    rcases hv with rfl | ⟨k, rfl⟩ | ⟨i, rfl, hi⟩
    · refine ends_step (e := [some (.ref 1), some .non, none, some (.int r)]) (h' := bxH b1 rest) (by simp (disch := first | omega | (simp; done) | fail) [ir_law_bent_3, semS, semE, semA, semN, semO, semI, exS, bnd, optM, pur, setTg, seqM, lsM, binM, binL, augM, biM, bnM, cmpM, cmpI, ltM, leM, inM, eqF, flatD, isM, Cl.isNon, truM, intM, idxM, slcM, lenM, lstAt, Cl.putAt, isaM, tyM, tyName, lsrcM, srcM, calmly, depOk_nil, sizeLine_eq, wipeE, gmul_r, gmul_l, gdiv, gmod, gmod', fdiv_pos, fmod_pos, grg, grg2, gsz, atI_pos]) ?_
      refine ends_step (e := [some (.ref 1), some .non, none, some (.int r)]) (h' := bxH b1 rest) (by simp (disch := first | omega | (simp; done) | fail) [ir_law_bent_4, semS, semE, semA, semN, semO, semI, exS, bnd, optM, pur, setTg, seqM, lsM, binM, binL, augM, biM, bnM, cmpM, cmpI, ltM, leM, inM, eqF, flatD, isM, Cl.isNon, truM, intM, idxM, slcM, lenM, lstAt, Cl.putAt, isaM, tyM, tyName, lsrcM, srcM, calmly, depOk_nil, sizeLine_eq, wipeE, gmul_r, gmul_l, gdiv, gmod, gmod', fdiv_pos, fmod_pos, grg, grg2, gsz, atI_pos]) ?_
      refine ends_seq ?_
      rcases r8 with e | e | e | e | e | e | e | e <;> subst e
      · exact ends_rt (d := .int 0) (h := bxH b1 rest) (by simp (disch := first | omega | (simp; done) | fail) [ir_law_bent_5, semS, semE, semA, semN, semO, semI, exS, bnd, optM, pur, setTg, seqM, lsM, binM, binL, augM, biM, bnM, cmpM, cmpI, ltM, leM, inM, eqF, flatD, isM, Cl.isNon, truM, intM, idxM, slcM, lenM, lstAt, Cl.putAt, isaM, tyM, tyName, lsrcM, srcM, calmly, depOk_nil, sizeLine_eq, wipeE, gmul_r, gmul_l, gdiv, gmod, gmod', fdiv_pos, fmod_pos, grg, grg2, gsz, atI_pos]) ⟨b1, rfl, by cases n <;> simp [plD]⟩
      · exact ends_rt (d := .int 1) (h := bxH b1 rest) (by simp (disch := first | omega | (simp; done) | fail) [ir_law_bent_5, semS, semE, semA, semN, semO, semI, exS, bnd, optM, pur, setTg, seqM, lsM, binM, binL, augM, biM, bnM, cmpM, cmpI, ltM, leM, inM, eqF, flatD, isM, Cl.isNon, truM, intM, idxM, slcM, lenM, lstAt, Cl.putAt, isaM, tyM, tyName, lsrcM, srcM, calmly, depOk_nil, sizeLine_eq, wipeE, gmul_r, gmul_l, gdiv, gmod, gmod', fdiv_pos, fmod_pos, grg, grg2, gsz, atI_pos]) ⟨b1, rfl, by cases n <;> simp [plD]⟩
      · exact ends_rt (d := .non) (h := bxH b1 rest) (by simp (disch := first | omega | (simp; done) | fail) [ir_law_bent_5, semS, semE, semA, semN, semO, semI, exS, bnd, optM, pur, setTg, seqM, lsM, binM, binL, augM, biM, bnM, cmpM, cmpI, ltM, leM, inM, eqF, flatD, isM, Cl.isNon, truM, intM, idxM, slcM, lenM, lstAt, Cl.putAt, isaM, tyM, tyName, lsrcM, srcM, calmly, depOk_nil, sizeLine_eq, wipeE, gmul_r, gmul_l, gdiv, gmod, gmod', fdiv_pos, fmod_pos, grg, grg2, gsz, atI_pos]) ⟨b1, rfl, by cases n <;> simp [plD]⟩
      · exact ends_rt (d := .bl true) (h := bxH b1 rest) (by simp (disch := first | omega | (simp; done) | fail) [ir_law_bent_5, semS, semE, semA, semN, semO, semI, exS, bnd, optM, pur, setTg, seqM, lsM, binM, binL, augM, biM, bnM, cmpM, cmpI, ltM, leM, inM, eqF, flatD, isM, Cl.isNon, truM, intM, idxM, slcM, lenM, lstAt, Cl.putAt, isaM, tyM, tyName, lsrcM, srcM, calmly, depOk_nil, sizeLine_eq, wipeE, gmul_r, gmul_l, gdiv, gmod, gmod', fdiv_pos, fmod_pos, grg, grg2, gsz, atI_pos]) ⟨b1, rfl, by cases n <;> simp [plD]⟩
      · exact ends_rt (d := .bl false) (h := bxH b1 rest) (by simp (disch := first | omega | (simp; done) | fail) [ir_law_bent_5, semS, semE, semA, semN, semO, semI, exS, bnd, optM, pur, setTg, seqM, lsM, binM, binL, augM, biM, bnM, cmpM, cmpI, ltM, leM, inM, eqF, flatD, isM, Cl.isNon, truM, intM, idxM, slcM, lenM, lstAt, Cl.putAt, isaM, tyM, tyName, lsrcM, srcM, calmly, depOk_nil, sizeLine_eq, wipeE, gmul_r, gmul_l, gdiv, gmod, gmod', fdiv_pos, fmod_pos, grg, grg2, gsz, atI_pos]) ⟨b1, rfl, by cases n <;> simp [plD]⟩
      · exact ends_rt (d := .str (("a" : String) : Str)) (h := bxH b1 rest) (by simp (disch := first | omega | (simp; done) | fail) [ir_law_bent_5, semS, semE, semA, semN, semO, semI, exS, bnd, optM, pur, setTg, seqM, lsM, binM, binL, augM, biM, bnM, cmpM, cmpI, ltM, leM, inM, eqF, flatD, isM, Cl.isNon, truM, intM, idxM, slcM, lenM, lstAt, Cl.putAt, isaM, tyM, tyName, lsrcM, srcM, calmly, depOk_nil, sizeLine_eq, wipeE, gmul_r, gmul_l, gdiv, gmod, gmod', fdiv_pos, fmod_pos, grg, grg2, gsz, atI_pos]) ⟨b1, rfl, by cases n <;> simp [plD]⟩
      · exact ends_rt (d := .tup []) (h := bxH b1 rest) (by simp (disch := first | omega | (simp; done) | fail) [ir_law_bent_5, semS, semE, semA, semN, semO, semI, exS, bnd, optM, pur, setTg, seqM, lsM, binM, binL, augM, biM, bnM, cmpM, cmpI, ltM, leM, inM, eqF, flatD, isM, Cl.isNon, truM, intM, idxM, slcM, lenM, lstAt, Cl.putAt, isaM, tyM, tyName, lsrcM, srcM, calmly, depOk_nil, sizeLine_eq, wipeE, gmul_r, gmul_l, gdiv, gmod, gmod', fdiv_pos, fmod_pos, grg, grg2, gsz, atI_pos]) ⟨b1, rfl, by cases n <;> simp [plD]⟩
      · exact ends_rt (d := .int (-1)) (h := bxH b1 rest) (by simp (disch := first | omega | (simp; done) | fail) [ir_law_bent_5, semS, semE, semA, semN, semO, semI, exS, bnd, optM, pur, setTg, seqM, lsM, binM, binL, augM, biM, bnM, cmpM, cmpI, ltM, leM, inM, eqF, flatD, isM, Cl.isNon, truM, intM, idxM, slcM, lenM, lstAt, Cl.putAt, isaM, tyM, tyName, lsrcM, srcM, calmly, depOk_nil, sizeLine_eq, wipeE, gmul_r, gmul_l, gdiv, gmod, gmod', fdiv_pos, fmod_pos, grg, grg2, gsz, atI_pos]) ⟨b1, rfl, by cases n <;> simp [plD]⟩
    · refine ends_step (e := [some (.ref 1), some (.bl k), none, some (.int r)]) (h' := bxH b1 rest) (by simp (disch := first | omega | (simp; done) | fail) [ir_law_bent_3, semS, semE, semA, semN, semO, semI, exS, bnd, optM, pur, setTg, seqM, lsM, binM, binL, augM, biM, bnM, cmpM, cmpI, ltM, leM, inM, eqF, flatD, isM, Cl.isNon, truM, intM, idxM, slcM, lenM, lstAt, Cl.putAt, isaM, tyM, tyName, lsrcM, srcM, calmly, depOk_nil, sizeLine_eq, wipeE, gmul_r, gmul_l, gdiv, gmod, gmod', fdiv_pos, fmod_pos, grg, grg2, gsz, atI_pos]) ?_
      refine ends_step (e := [some (.ref 1), some (.bl k), none, some (.int r)]) (h' := bxH b1 rest) (by simp (disch := first | omega | (simp; done) | fail) [ir_law_bent_4, semS, semE, semA, semN, semO, semI, exS, bnd, optM, pur, setTg, seqM, lsM, binM, binL, augM, biM, bnM, cmpM, cmpI, ltM, leM, inM, eqF, flatD, isM, Cl.isNon, truM, intM, idxM, slcM, lenM, lstAt, Cl.putAt, isaM, tyM, tyName, lsrcM, srcM, calmly, depOk_nil, sizeLine_eq, wipeE, gmul_r, gmul_l, gdiv, gmod, gmod', fdiv_pos, fmod_pos, grg, grg2, gsz, atI_pos]) ?_
      refine ends_seq ?_
      rcases r8 with e | e | e | e | e | e | e | e <;> subst e
      · exact ends_rt (d := .int 0) (h := bxH b1 rest) (by simp (disch := first | omega | (simp; done) | fail) [ir_law_bent_5, semS, semE, semA, semN, semO, semI, exS, bnd, optM, pur, setTg, seqM, lsM, binM, binL, augM, biM, bnM, cmpM, cmpI, ltM, leM, inM, eqF, flatD, isM, Cl.isNon, truM, intM, idxM, slcM, lenM, lstAt, Cl.putAt, isaM, tyM, tyName, lsrcM, srcM, calmly, depOk_nil, sizeLine_eq, wipeE, gmul_r, gmul_l, gdiv, gmod, gmod', fdiv_pos, fmod_pos, grg, grg2, gsz, atI_pos]) ⟨b1, rfl, by cases n <;> simp [plD]⟩
      · exact ends_rt (d := .int 1) (h := bxH b1 rest) (by simp (disch := first | omega | (simp; done) | fail) [ir_law_bent_5, semS, semE, semA, semN, semO, semI, exS, bnd, optM, pur, setTg, seqM, lsM, binM, binL, augM, biM, bnM, cmpM, cmpI, ltM, leM, inM, eqF, flatD, isM, Cl.isNon, truM, intM, idxM, slcM, lenM, lstAt, Cl.putAt, isaM, tyM, tyName, lsrcM, srcM, calmly, depOk_nil, sizeLine_eq, wipeE, gmul_r, gmul_l, gdiv, gmod, gmod', fdiv_pos, fmod_pos, grg, grg2, gsz, atI_pos]) ⟨b1, rfl, by cases n <;> simp [plD]⟩
      · exact ends_rt (d := .non) (h := bxH b1 rest) (by simp (disch := first | omega | (simp; done) | fail) [ir_law_bent_5, semS, semE, semA, semN, semO, semI, exS, bnd, optM, pur, setTg, seqM, lsM, binM, binL, augM, biM, bnM, cmpM, cmpI, ltM, leM, inM, eqF, flatD, isM, Cl.isNon, truM, intM, idxM, slcM, lenM, lstAt, Cl.putAt, isaM, tyM, tyName, lsrcM, srcM, calmly, depOk_nil, sizeLine_eq, wipeE, gmul_r, gmul_l, gdiv, gmod, gmod', fdiv_pos, fmod_pos, grg, grg2, gsz, atI_pos]) ⟨b1, rfl, by cases n <;> simp [plD]⟩
      · exact ends_rt (d := .bl true) (h := bxH b1 rest) (by simp (disch := first | omega | (simp; done) | fail) [ir_law_bent_5, semS, semE, semA, semN, semO, semI, exS, bnd, optM, pur, setTg, seqM, lsM, binM, binL, augM, biM, bnM, cmpM, cmpI, ltM, leM, inM, eqF, flatD, isM, Cl.isNon, truM, intM, idxM, slcM, lenM, lstAt, Cl.putAt, isaM, tyM, tyName, lsrcM, srcM, calmly, depOk_nil, sizeLine_eq, wipeE, gmul_r, gmul_l, gdiv, gmod, gmod', fdiv_pos, fmod_pos, grg, grg2, gsz, atI_pos]) ⟨b1, rfl, by cases n <;> simp [plD]⟩
      · exact ends_rt (d := .bl false) (h := bxH b1 rest) (by simp (disch := first | omega | (simp; done) | fail) [ir_law_bent_5, semS, semE, semA, semN, semO, semI, exS, bnd, optM, pur, setTg, seqM, lsM, binM, binL, augM, biM, bnM, cmpM, cmpI, ltM, leM, inM, eqF, flatD, isM, Cl.isNon, truM, intM, idxM, slcM, lenM, lstAt, Cl.putAt, isaM, tyM, tyName, lsrcM, srcM, calmly, depOk_nil, sizeLine_eq, wipeE, gmul_r, gmul_l, gdiv, gmod, gmod', fdiv_pos, fmod_pos, grg, grg2, gsz, atI_pos]) ⟨b1, rfl, by cases n <;> simp [plD]⟩
      · exact ends_rt (d := .str (("a" : String) : Str)) (h := bxH b1 rest) (by simp (disch := first | omega | (simp; done) | fail) [ir_law_bent_5, semS, semE, semA, semN, semO, semI, exS, bnd, optM, pur, setTg, seqM, lsM, binM, binL, augM, biM, bnM, cmpM, cmpI, ltM, leM, inM, eqF, flatD, isM, Cl.isNon, truM, intM, idxM, slcM, lenM, lstAt, Cl.putAt, isaM, tyM, tyName, lsrcM, srcM, calmly, depOk_nil, sizeLine_eq, wipeE, gmul_r, gmul_l, gdiv, gmod, gmod', fdiv_pos, fmod_pos, grg, grg2, gsz, atI_pos]) ⟨b1, rfl, by cases n <;> simp [plD]⟩
      · exact ends_rt (d := .tup []) (h := bxH b1 rest) (by simp (disch := first | omega | (simp; done) | fail) [ir_law_bent_5, semS, semE, semA, semN, semO, semI, exS, bnd, optM, pur, setTg, seqM, lsM, binM, binL, augM, biM, bnM, cmpM, cmpI, ltM, leM, inM, eqF, flatD, isM, Cl.isNon, truM, intM, idxM, slcM, lenM, lstAt, Cl.putAt, isaM, tyM, tyName, lsrcM, srcM, calmly, depOk_nil, sizeLine_eq, wipeE, gmul_r, gmul_l, gdiv, gmod, gmod', fdiv_pos, fmod_pos, grg, grg2, gsz, atI_pos]) ⟨b1, rfl, by cases n <;> simp [plD]⟩
      · exact ends_rt (d := .int (-1)) (h := bxH b1 rest) (by simp (disch := first | omega | (simp; done) | fail) [ir_law_bent_5, semS, semE, semA, semN, semO, semI, exS, bnd, optM, pur, setTg, seqM, lsM, binM, binL, augM, biM, bnM, cmpM, cmpI, ltM, leM, inM, eqF, flatD, isM, Cl.isNon, truM, intM, idxM, slcM, lenM, lstAt, Cl.putAt, isaM, tyM, tyName, lsrcM, srcM, calmly, depOk_nil, sizeLine_eq, wipeE, gmul_r, gmul_l, gdiv, gmod, gmod', fdiv_pos, fmod_pos, grg, grg2, gsz, atI_pos]) ⟨b1, rfl, by cases n <;> simp [plD]⟩
    · have g : i.natAbs.log2 < 1920 := by omega
      refine ends_seq ?_
      rcases r8 with e | e | e | e | e | e | e | e <;> subst e
      · exact ends_rt (d := .int (i + 1)) (h := bxH b1 rest) (by simp (disch := first | omega | (simp; done) | fail) [ir_law_bent_3, semS, semE, semA, semN, semO, semI, exS, bnd, optM, pur, setTg, seqM, lsM, binM, binL, augM, biM, bnM, cmpM, cmpI, ltM, leM, inM, eqF, flatD, isM, Cl.isNon, truM, intM, idxM, slcM, lenM, lstAt, Cl.putAt, isaM, tyM, tyName, lsrcM, srcM, calmly, depOk_nil, sizeLine_eq, wipeE, gmul_r, gmul_l, gdiv, gmod, gmod', fdiv_pos, fmod_pos, grg, grg2, gsz, atI_pos, gle g]) ⟨b1, rfl, by cases n <;> simp [plD]⟩
      · exact ends_rt (d := .int (i - 1)) (h := bxH b1 rest) (by simp (disch := first | omega | (simp; done) | fail) [ir_law_bent_3, semS, semE, semA, semN, semO, semI, exS, bnd, optM, pur, setTg, seqM, lsM, binM, binL, augM, biM, bnM, cmpM, cmpI, ltM, leM, inM, eqF, flatD, isM, Cl.isNon, truM, intM, idxM, slcM, lenM, lstAt, Cl.putAt, isaM, tyM, tyName, lsrcM, srcM, calmly, depOk_nil, sizeLine_eq, wipeE, gmul_r, gmul_l, gdiv, gmod, gmod', fdiv_pos, fmod_pos, grg, grg2, gsz, atI_pos, gle g]) ⟨b1, rfl, by cases n <;> simp [plD]⟩
      · exact ends_rt (d := .int (-i)) (h := bxH b1 rest) (by simp (disch := first | omega | (simp; done) | fail) [ir_law_bent_3, semS, semE, semA, semN, semO, semI, exS, bnd, optM, pur, setTg, seqM, lsM, binM, binL, augM, biM, bnM, cmpM, cmpI, ltM, leM, inM, eqF, flatD, isM, Cl.isNon, truM, intM, idxM, slcM, lenM, lstAt, Cl.putAt, isaM, tyM, tyName, lsrcM, srcM, calmly, depOk_nil, sizeLine_eq, wipeE, gmul_r, gmul_l, gdiv, gmod, gmod', fdiv_pos, fmod_pos, grg, grg2, gsz, atI_pos, gle g]) ⟨b1, rfl, by cases n <;> simp [plD]⟩
      · exact ends_rt (d := .bl (decide (i = 1))) (h := bxH b1 rest) (by simp (disch := first | omega | (simp; done) | fail) [ir_law_bent_3, semS, semE, semA, semN, semO, semI, exS, bnd, optM, pur, setTg, seqM, lsM, binM, binL, augM, biM, bnM, cmpM, cmpI, ltM, leM, inM, eqF, flatD, isM, Cl.isNon, truM, intM, idxM, slcM, lenM, lstAt, Cl.putAt, isaM, tyM, tyName, lsrcM, srcM, calmly, depOk_nil, sizeLine_eq, wipeE, gmul_r, gmul_l, gdiv, gmod, gmod', fdiv_pos, fmod_pos, grg, grg2, gsz, atI_pos, gle g]) ⟨b1, rfl, by cases n <;> simp [plD]⟩
      · exact ends_rt (d := .non) (h := bxH b1 rest) (by simp (disch := first | omega | (simp; done) | fail) [ir_law_bent_3, semS, semE, semA, semN, semO, semI, exS, bnd, optM, pur, setTg, seqM, lsM, binM, binL, augM, biM, bnM, cmpM, cmpI, ltM, leM, inM, eqF, flatD, isM, Cl.isNon, truM, intM, idxM, slcM, lenM, lstAt, Cl.putAt, isaM, tyM, tyName, lsrcM, srcM, calmly, depOk_nil, sizeLine_eq, wipeE, gmul_r, gmul_l, gdiv, gmod, gmod', fdiv_pos, fmod_pos, grg, grg2, gsz, atI_pos, gle g]) ⟨b1, rfl, by cases n <;> simp [plD]⟩
      · exact ends_rt (d := .str ((toString i : String) : Str)) (h := bxH b1 rest) (by simp (disch := first | omega | (simp; done) | fail) [ir_law_bent_3, semS, semE, semA, semN, semO, semI, exS, bnd, optM, pur, setTg, seqM, lsM, binM, binL, augM, biM, bnM, cmpM, cmpI, ltM, leM, inM, eqF, flatD, isM, Cl.isNon, truM, intM, idxM, slcM, lenM, lstAt, Cl.putAt, isaM, tyM, tyName, lsrcM, srcM, calmly, depOk_nil, sizeLine_eq, wipeE, gmul_r, gmul_l, gdiv, gmod, gmod', fdiv_pos, fmod_pos, grg, grg2, gsz, atI_pos, gle g]) ⟨b1, rfl, by cases n <;> simp [plD]⟩
      · exact ends_rt (d := .tup [.int i]) (h := bxH b1 rest) (by simp (disch := first | omega | (simp; done) | fail) [ir_law_bent_3, semS, semE, semA, semN, semO, semI, exS, bnd, optM, pur, setTg, seqM, lsM, binM, binL, augM, biM, bnM, cmpM, cmpI, ltM, leM, inM, eqF, flatD, isM, Cl.isNon, truM, intM, idxM, slcM, lenM, lstAt, Cl.putAt, isaM, tyM, tyName, lsrcM, srcM, calmly, depOk_nil, sizeLine_eq, wipeE, gmul_r, gmul_l, gdiv, gmod, gmod', fdiv_pos, fmod_pos, grg, grg2, gsz, atI_pos, gle g]) ⟨b1, rfl, by cases n <;> simp [plD]⟩
      · exact ends_rt (d := .int (i + 1001)) (h := bxH b1 rest) (by simp (disch := first | omega | (simp; done) | fail) [ir_law_bent_3, semS, semE, semA, semN, semO, semI, exS, bnd, optM, pur, setTg, seqM, lsM, binM, binL, augM, biM, bnM, cmpM, cmpI, ltM, leM, inM, eqF, flatD, isM, Cl.isNon, truM, intM, idxM, slcM, lenM, lstAt, Cl.putAt, isaM, tyM, tyName, lsrcM, srcM, calmly, depOk_nil, sizeLine_eq, wipeE, gmul_r, gmul_l, gdiv, gmod, gmod', fdiv_pos, fmod_pos, grg, grg2, gsz, atI_pos, gle g]) ⟨b1, rfl, by cases n <;> simp [plD]⟩
  obtain ⟨d, h', e, b', rfl, hp⟩ := key
  exact ⟨d, b', e, hp⟩
theorem ev_bent : ∀ (n : Nat) (v : D) (_ : plI n v = true) (b : Bx) (rest : Hc), ∃ v' b', g_law_bent (n + 1) [.ref 1, v] (bxH b rest) = .ok v' (bxH b' rest) ∧ plD (n + 1) v' = true
  | n, .non, _, b, rest => bent_leaf (.inl rfl) b rest
  | n, .bl k, _, b, rest => bent_leaf (.inr (.inl ⟨k, rfl⟩)) b rest
  | n, .int i, h, b, rest => bent_leaf (.inr (.inr ⟨i, rfl, by cases n <;> simpa [plI] using h⟩)) b rest
  | 0, .tup xs, h, _, _ => by simp [plI] at h
  | 0, .str _, h, _, _ => by simp [plI] at h
  | n + 1, .str _, h, _, _ => by simp [plI] at h
  | 0, .kl _, h, _, _ => by simp [plI] at h
  | n + 1, .kl _, h, _, _ => by simp [plI] at h
  | 0, .fl _, h, _, _ => by simp [plI] at h
  | n + 1, .fl _, h, _, _ => by simp [plI] at h
  | 0, .ref _, h, _, _ => by simp [plI] at h
  | n + 1, .ref _, h, _, _ => by simp [plI] at h
  | 0, .ob _, h, _, _ => by simp [plI] at h
  | 0, .ty _, h, _, _ => by simp [plI] at h
  | n + 1, .ty _, h, _, _ => by simp [plI] at h
  | n + 1, .ob _, h, _, _ => by simp [plI] at h
  | n + 1, .tup xs, h, b, rest => by
    simp only [plI, Bool.and_eq_true, decide_eq_true_eq, List.all_eq_true] at h
    have hd : ∀ x ∈ xs, plD n x = true := fun x hx => plI_plD (h.2 x hx)
    have hd1 : ∀ x ∈ xs, plD (n + 1) x = true := fun x hx => plD_up (hd x hx)
    have hl := h.1
    have key : ∃ d h', g_law_bent (n + 2) [.ref 1, .tup xs] (bxH b rest) = .ok d h' ∧ ∃ b', h' = bxH b' rest ∧ plD (n + 2) d = true := by
      refine runF_ends (P := fun d h' => ∃ b', h' = bxH b' rest ∧ plD (n + 2) d = true) [some (.ref 1), some (.tup xs), none, none] ?_
      unfold ir_law_bent
      have hc : ∃ k b1, bnd (semE { tab := [g_law_draw, g_law_bent (n + 1)] } [] (.and (.isa (.var 1) ["tuple"]) (.and (.cmp .Gt (.bi .len (.cons (.var 1) .nil)) (.int 0)) (.cmp .Gt (.call 0 (.cons (.var 0) (.cons (.int 5) .nil))) (.int 0)))) [some (.ref 1), some (.tup xs), none, none]) truM (bxH b rest) = .ok k (bxH b1 rest) ∧ (k = true → 0 < xs.length) := by
        by_cases z : 0 < xs.length
        · obtain ⟨r, b1, e1, l1, u1⟩ := draw_ok b rest (many := 5) (by decide) (by decide)
          exact ⟨decide (0 < r), b1, by
            have : (0 : Int) < xs.length := by omega
            simp (disch := first | omega | (simp; done) | fail) [semS, semE, semA, semN, semO, semI, exS, bnd, optM, pur, setTg, seqM, lsM, binM, binL, augM, biM, bnM, cmpM, cmpI, ltM, leM, inM, eqF, flatD, isM, Cl.isNon, truM, intM, idxM, slcM, lenM, lstAt, Cl.putAt, isaM, tyM, tyName, lsrcM, srcM, calmly, depOk_nil, sizeLine_eq, wipeE, gmul_r, gmul_l, gdiv, gmod, gmod', fdiv_pos, fmod_pos, grg, grg2, gsz, atI_pos, z, e1], fun _ => z⟩
        · exact ⟨false, b, by
            have : xs = [] := List.length_eq_zero_iff.mp (by omega)
            subst this
            simp (disch := first | omega | (simp; done) | fail) [semS, semE, semA, semN, semO, semI, exS, bnd, optM, pur, setTg, seqM, lsM, binM, binL, augM, biM, bnM, cmpM, cmpI, ltM, leM, inM, eqF, flatD, isM, Cl.isNon, truM, intM, idxM, slcM, lenM, lstAt, Cl.putAt, isaM, tyM, tyName, lsrcM, srcM, calmly, depOk_nil, sizeLine_eq, wipeE, gmul_r, gmul_l, gdiv, gmod, gmod', fdiv_pos, fmod_pos, grg, grg2, gsz, atI_pos], fun z => by cases z⟩
      obtain ⟨k, b1, ek, hk⟩ := hc
      refine ends_seq (ends_ite ek ?_)
      by_cases z : k = true
      · rw [if_pos z]
        have hp := hk z
        obtain ⟨r, b2, e2, l2, u2⟩ := draw_ok b1 rest (many := (xs.length : Int)) (by omega) (by omega)
        obtain ⟨r, rfl⟩ := Int.eq_ofNat_of_zero_le l2
        have hr : r < xs.length := by omega
        obtain ⟨v', b3, e3, hv'⟩ := ev_bent n xs[r] (h.2 _ (List.getElem_mem hr)) b2 rest
        refine ends_step (e := [some (.ref 1), some (.tup xs), some (.int r), none]) (h' := bxH b2 rest) (by simp (disch := first | omega | (simp; done) | fail) [semS, semE, semA, semN, semO, semI, exS, bnd, optM, pur, setTg, seqM, lsM, binM, binL, augM, biM, bnM, cmpM, cmpI, ltM, leM, inM, eqF, flatD, isM, Cl.isNon, truM, intM, idxM, slcM, lenM, lstAt, Cl.putAt, isaM, tyM, tyName, lsrcM, srcM, calmly, depOk_nil, sizeLine_eq, wipeE, gmul_r, gmul_l, gdiv, gmod, gmod', fdiv_pos, fmod_pos, grg, grg2, gsz, atI_pos, e2]) ?_
        have c1 := cut_le xs none (some (r : Int))
        have c2 := cut_le xs (some ((r : Int) + 1)) none
        have g1 : (cutD xs none (some (r : Int))).length + 1 ≤ 16777216 := by omega
        have g2 : (cutD xs none (some (r : Int))).length + 1 + (cutD xs (some ((r : Int) + 1)) none).length ≤ 16777216 := by omega
        refine ends_seq (ends_rt (d := .tup (cutD xs none (some (r : Int)) ++ [v'] ++ cutD xs (some ((r : Int) + 1)) none)) (h := bxH b3 rest) (by
          simp (disch := first | omega | (simp; done) | fail) [semS, semE, semA, semN, semO, semI, exS, bnd, optM, pur, setTg, seqM, lsM, binM, binL, augM, biM, bnM, cmpM, cmpI, ltM, leM, inM, eqF, flatD, isM, Cl.isNon, truM, intM, idxM, slcM, lenM, lstAt, Cl.putAt, isaM, tyM, tyName, lsrcM, srcM, calmly, depOk_nil, sizeLine_eq, wipeE, gmul_r, gmul_l, gdiv, gmod, gmod', fdiv_pos, fmod_pos, grg, grg2, gsz, atI_pos, hr, e3, g1, g2, gle]) ⟨b3, rfl, ?_⟩)
        simp only [plD, Bool.and_eq_true, decide_eq_true_eq, List.all_eq_true]
        refine ⟨by simp; omega, fun x hx => ?_⟩
        rcases List.mem_append.mp hx with hx | hx
        · rcases List.mem_append.mp hx with hx | hx
          · exact hd1 x (cut_mem hx)
          · rw [List.mem_singleton] at hx; subst hx; exact hv'
        · exact hd1 x (cut_mem hx)
      · rw [if_neg z]
        refine ends_nop ?_
        obtain ⟨r, b2, e2, l2, u2⟩ := draw_ok b1 rest (many := 8) (by decide) (by decide)
        refine ends_step (e := [some (.ref 1), some (.tup xs), none, some (.int r)]) (h' := bxH b2 rest) (by simp (disch := first | omega | (simp; done) | fail) [ir_law_bent_1, semS, semE, semA, semN, semO, semI, exS, bnd, optM, pur, setTg, seqM, lsM, binM, binL, augM, biM, bnM, cmpM, cmpI, ltM, leM, inM, eqF, flatD, isM, Cl.isNon, truM, intM, idxM, slcM, lenM, lstAt, Cl.putAt, isaM, tyM, tyName, lsrcM, srcM, calmly, depOk_nil, sizeLine_eq, wipeE, gmul_r, gmul_l, gdiv, gmod, gmod', fdiv_pos, fmod_pos, grg, grg2, gsz, atI_pos, e2]) ?_
        have r8 : r = 0 ∨ r = 1 ∨ r = 2 ∨ r = 3 ∨ r = 4 ∨ r = 5 ∨ r = 6 ∨ r = 7 := by omega
        refine ends_seq ?_
        have c1 := cut_le xs none (some 1)
        have c2 := cut_le xs (some 1) none
        have c3 := cut_le xs none (some (-1))
        have g1 : xs.length + (cutD xs none (some 1)).length ≤ 16777216 := by omega
        have g2 : (cutD xs none (some 1)).length + xs.length ≤ 16777216 := by omega
        have g3 : xs.length + 1 ≤ 16777216 := by omega
        have fin : ∀ ys : List D, ys.length ≤ 4000 → (∀ x ∈ ys, plD (n + 1) x = true) → ∃ b', bxH b2 rest = bxH b' rest ∧ plD (n + 2) (.tup ys) = true := fun ys q1 q2 => ⟨b2, rfl, by
          simp only [plD, Bool.and_eq_true, decide_eq_true_eq, List.all_eq_true]
          exact ⟨q1, q2⟩⟩
        have am : ∀ {as bs : List D}, (∀ x ∈ as, plD (n + 1) x = true) → (∀ x ∈ bs, plD (n + 1) x = true) → ∀ x ∈ as ++ bs, plD (n + 1) x = true := fun q1 q2 x hx => by
          rcases List.mem_append.mp hx with hx | hx
          · exact q1 x hx
          · exact q2 x hx
        have hc1 : ∀ lo hi, ∀ x ∈ cutD xs lo hi, plD (n + 1) x = true := fun lo hi x hx => hd1 x (cut_mem hx)
        rcases r8 with e | e | e | e | e | e | e | e <;> subst e
        · exact ends_rt (d := .tup (xs ++ cutD xs none (some 1))) (h := bxH b2 rest) (by simp (disch := first | omega | (simp; done) | fail) [ir_law_bent_2, semS, semE, semA, semN, semO, semI, exS, bnd, optM, pur, setTg, seqM, lsM, binM, binL, augM, biM, bnM, cmpM, cmpI, ltM, leM, inM, eqF, flatD, isM, Cl.isNon, truM, intM, idxM, slcM, lenM, lstAt, Cl.putAt, isaM, tyM, tyName, lsrcM, srcM, calmly, depOk_nil, sizeLine_eq, wipeE, revM, gmul_r, gmul_l, gdiv, gmod, gmod', fdiv_pos, fmod_pos, grg, grg2, gsz, atI_pos, g1, g2, g3, gle]) (fin _ (by simp; omega) (am hd1 (hc1 _ _)))
        · exact ends_rt (d := .tup (cutD xs (some 1) none)) (h := bxH b2 rest) (by simp (disch := first | omega | (simp; done) | fail) [ir_law_bent_2, semS, semE, semA, semN, semO, semI, exS, bnd, optM, pur, setTg, seqM, lsM, binM, binL, augM, biM, bnM, cmpM, cmpI, ltM, leM, inM, eqF, flatD, isM, Cl.isNon, truM, intM, idxM, slcM, lenM, lstAt, Cl.putAt, isaM, tyM, tyName, lsrcM, srcM, calmly, depOk_nil, sizeLine_eq, wipeE, revM, gmul_r, gmul_l, gdiv, gmod, gmod', fdiv_pos, fmod_pos, grg, grg2, gsz, atI_pos, g1, g2, g3, gle]) (fin _ (by omega) (hc1 _ _))
        · exact ends_rt (d := .tup xs.reverse) (h := bxH b2 rest) (by simp (disch := first | omega | (simp; done) | fail) [ir_law_bent_2, semS, semE, semA, semN, semO, semI, exS, bnd, optM, pur, setTg, seqM, lsM, binM, binL, augM, biM, bnM, cmpM, cmpI, ltM, leM, inM, eqF, flatD, isM, Cl.isNon, truM, intM, idxM, slcM, lenM, lstAt, Cl.putAt, isaM, tyM, tyName, lsrcM, srcM, calmly, depOk_nil, sizeLine_eq, wipeE, revM, gmul_r, gmul_l, gdiv, gmod, gmod', fdiv_pos, fmod_pos, grg, grg2, gsz, atI_pos, g1, g2, g3, gle]) (fin _ (by simp; omega) fun x hx => hd1 x (List.mem_reverse.mp hx))
        · exact ends_rt (d := .tup (xs ++ [.int 0])) (h := bxH b2 rest) (by simp (disch := first | omega | (simp; done) | fail) [ir_law_bent_2, semS, semE, semA, semN, semO, semI, exS, bnd, optM, pur, setTg, seqM, lsM, binM, binL, augM, biM, bnM, cmpM, cmpI, ltM, leM, inM, eqF, flatD, isM, Cl.isNon, truM, intM, idxM, slcM, lenM, lstAt, Cl.putAt, isaM, tyM, tyName, lsrcM, srcM, calmly, depOk_nil, sizeLine_eq, wipeE, revM, gmul_r, gmul_l, gdiv, gmod, gmod', fdiv_pos, fmod_pos, grg, grg2, gsz, atI_pos, g1, g2, g3, gle]) (fin _ (by simp; omega) (am hd1 fun x hx => by rw [List.mem_singleton] at hx; subst hx; rfl))
        · exact ends_rt (d := .tup (cutD xs none (some 1) ++ xs)) (h := bxH b2 rest) (by simp (disch := first | omega | (simp; done) | fail) [ir_law_bent_2, semS, semE, semA, semN, semO, semI, exS, bnd, optM, pur, setTg, seqM, lsM, binM, binL, augM, biM, bnM, cmpM, cmpI, ltM, leM, inM, eqF, flatD, isM, Cl.isNon, truM, intM, idxM, slcM, lenM, lstAt, Cl.putAt, isaM, tyM, tyName, lsrcM, srcM, calmly, depOk_nil, sizeLine_eq, wipeE, revM, gmul_r, gmul_l, gdiv, gmod, gmod', fdiv_pos, fmod_pos, grg, grg2, gsz, atI_pos, g1, g2, g3, gle]) (fin _ (by simp; omega) (am (hc1 _ _) hd1))
        · exact ends_rt (d := .tup (cutD xs none (some (-1)))) (h := bxH b2 rest) (by simp (disch := first | omega | (simp; done) | fail) [ir_law_bent_2, semS, semE, semA, semN, semO, semI, exS, bnd, optM, pur, setTg, seqM, lsM, binM, binL, augM, biM, bnM, cmpM, cmpI, ltM, leM, inM, eqF, flatD, isM, Cl.isNon, truM, intM, idxM, slcM, lenM, lstAt, Cl.putAt, isaM, tyM, tyName, lsrcM, srcM, calmly, depOk_nil, sizeLine_eq, wipeE, revM, gmul_r, gmul_l, gdiv, gmod, gmod', fdiv_pos, fmod_pos, grg, grg2, gsz, atI_pos, g1, g2, g3, gle]) (fin _ (by omega) (hc1 _ _))
        · exact ends_rt (d := .non) (h := bxH b2 rest) (by simp (disch := first | omega | (simp; done) | fail) [ir_law_bent_2, semS, semE, semA, semN, semO, semI, exS, bnd, optM, pur, setTg, seqM, lsM, binM, binL, augM, biM, bnM, cmpM, cmpI, ltM, leM, inM, eqF, flatD, isM, Cl.isNon, truM, intM, idxM, slcM, lenM, lstAt, Cl.putAt, isaM, tyM, tyName, lsrcM, srcM, calmly, depOk_nil, sizeLine_eq, wipeE, revM, gmul_r, gmul_l, gdiv, gmod, gmod', fdiv_pos, fmod_pos, grg, grg2, gsz, atI_pos, g1, g2, g3, gle]) ⟨b2, rfl, rfl⟩
        · exact ends_rt (d := .tup (cutD xs none (some 1))) (h := bxH b2 rest) (by simp (disch := first | omega | (simp; done) | fail) [ir_law_bent_2, semS, semE, semA, semN, semO, semI, exS, bnd, optM, pur, setTg, seqM, lsM, binM, binL, augM, biM, bnM, cmpM, cmpI, ltM, leM, inM, eqF, flatD, isM, Cl.isNon, truM, intM, idxM, slcM, lenM, lstAt, Cl.putAt, isaM, tyM, tyName, lsrcM, srcM, calmly, depOk_nil, sizeLine_eq, wipeE, revM, gmul_r, gmul_l, gdiv, gmod, gmod', fdiv_pos, fmod_pos, grg, grg2, gsz, atI_pos, g1, g2, g3, gle]) (fin _ (by omega) (hc1 _ _))
    obtain ⟨d, h', e, b', rfl, hp⟩ := key
    exact ⟨d, b', e, hp⟩
end Cl
namespace Cl
open PySem PySem.Spec PyProof.Rows L2 Mth
def ir_is_whole_0 : S := (.ret (.and (.isa (.var 0) ["int"]) (.not (.isa (.var 0) ["bool"]))))
def ir_is_whole : S := (.seq ir_is_whole_0 .nop)
def ir_is_number_0 : S := (.ret (.and (.call 0 (.cons (.var 0) .nil)) (.chain .LtE .LtE (.var 1) (.var 0) (.var 2))))
def ir_is_number : S := (.seq ir_is_number_0 .nop)
noncomputable def p_is_whole : List D → PR := fun ds => pureOf (runF (semS { tab := [] } [] ir_is_whole) 1 1 ds [])
noncomputable def p_is_number : List D → PR := fun ds => pureOf (runF (semS { tab := [(liftP p_is_whole)] } [] ir_is_number) 3 3 ds [])

theorem plD_cases {n : Nat} {v : D} (h : plD n v = true) : v = .non ∨ (∃ k, v = .bl k) ∨ (∃ i, v = .int i) ∨ (∃ x, v = .str x) ∨ ∃ m xs, n = m + 1 ∧ v = .tup xs ∧ xs.length ≤ 4000 ∧ ∀ x ∈ xs, plD m x = true := by
  cases v with
  | non => exact .inl rfl
  | bl k => exact .inr (.inl ⟨k, rfl⟩)
  | int i => exact .inr (.inr (.inl ⟨i, rfl⟩))
  | str x => exact .inr (.inr (.inr (.inl ⟨x, rfl⟩)))
  | tup xs =>
    cases n with
    | zero => simp [plD] at h
    | succ m =>
      simp only [plD, Bool.and_eq_true, decide_eq_true_eq, List.all_eq_true] at h
      exact .inr (.inr (.inr (.inr ⟨m, xs, rfl, rfl, h⟩)))
  | _ => cases n <;> simp [plD] at h
def isI : D → Bool
  | .int _ => true
  | _ => false
def numB (lo hi : Int) : D → Bool
  | .int i => decide (lo ≤ i ∧ i ≤ hi)
  | _ => false
theorem ev_is_whole {n : Nat} {v : D} (h : plD n v = true) : p_is_whole [v] = .ok (.bl (isI v)) := by
  refine p_ends [some v] ?_
  unfold ir_is_whole
  refine ends_seq (ends_rt (h := []) ?_ rfl)
  rcases plD_cases h with rfl | ⟨k, rfl⟩ | ⟨i, rfl⟩ | ⟨x, rfl⟩ | ⟨m, xs, rfl, rfl, _, _⟩ <;> simp (disch := first | omega | (simp; done) | fail) [ir_is_whole_0, semS, semE, semA, semN, semO, semI, exS, bnd, optM, pur, setTg, seqM, lsM, binM, binL, augM, biM, bnM, cmpM, cmpI, ltM, leM, inM, eqF, flatD, isM, Cl.isNon, truM, intM, idxM, slcM, lenM, lstAt, Cl.putAt, isaM, tyM, tyName, lsrcM, srcM, calmly, depOk_nil, sizeLine_eq, wipeE, gmul_r, gmul_l, gdiv, gmod, gmod', fdiv_pos, fmod_pos, grg, grg2, gsz, atI_pos, isI]
theorem ev_is_number {n : Nat} {v : D} (h : plD n v = true) (lo hi : Int) : p_is_number [v, .int lo, .int hi] = .ok (.bl (numB lo hi v)) := by
  have e1 := ev_is_whole h
  have nr := plD_noRef h
  refine p_ends [some v, some (.int lo), some (.int hi)] ?_
  unfold ir_is_number
  refine ends_seq (ends_rt (h := []) ?_ rfl)
  rcases plD_cases h with rfl | ⟨k, rfl⟩ | ⟨i, rfl⟩ | ⟨x, rfl⟩ | ⟨m, xs, rfl, rfl, _, _⟩
  · simp (disch := first | omega | (simp; done) | fail) [ir_is_number_0, semS, semE, semA, semN, semO, semI, exS, bnd, optM, pur, setTg, seqM, lsM, binM, binL, augM, biM, bnM, cmpM, cmpI, ltM, leM, inM, eqF, flatD, isM, Cl.isNon, truM, intM, idxM, slcM, lenM, lstAt, Cl.putAt, isaM, tyM, tyName, lsrcM, srcM, calmly, depOk_nil, sizeLine_eq, wipeE, gmul_r, gmul_l, gdiv, gmod, gmod', fdiv_pos, fmod_pos, grg, grg2, gsz, atI_pos, liftP, noRefL, noRef, e1, isI, numB]
  · simp (disch := first | omega | (simp; done) | fail) [ir_is_number_0, semS, semE, semA, semN, semO, semI, exS, bnd, optM, pur, setTg, seqM, lsM, binM, binL, augM, biM, bnM, cmpM, cmpI, ltM, leM, inM, eqF, flatD, isM, Cl.isNon, truM, intM, idxM, slcM, lenM, lstAt, Cl.putAt, isaM, tyM, tyName, lsrcM, srcM, calmly, depOk_nil, sizeLine_eq, wipeE, gmul_r, gmul_l, gdiv, gmod, gmod', fdiv_pos, fmod_pos, grg, grg2, gsz, atI_pos, liftP, noRefL, noRef, e1, isI, numB]
  · by_cases z : lo ≤ i <;> simp (disch := first | omega | (simp; done) | fail) [ir_is_number_0, semS, semE, semA, semN, semO, semI, exS, bnd, optM, pur, setTg, seqM, lsM, binM, binL, augM, biM, bnM, cmpM, cmpI, ltM, leM, inM, eqF, flatD, isM, Cl.isNon, truM, intM, idxM, slcM, lenM, lstAt, Cl.putAt, isaM, tyM, tyName, lsrcM, srcM, calmly, depOk_nil, sizeLine_eq, wipeE, gmul_r, gmul_l, gdiv, gmod, gmod', fdiv_pos, fmod_pos, grg, grg2, gsz, atI_pos, liftP, noRefL, noRef, e1, isI, numB, z]
  · simp (disch := first | omega | (simp; done) | fail) [ir_is_number_0, semS, semE, semA, semN, semO, semI, exS, bnd, optM, pur, setTg, seqM, lsM, binM, binL, augM, biM, bnM, cmpM, cmpI, ltM, leM, inM, eqF, flatD, isM, Cl.isNon, truM, intM, idxM, slcM, lenM, lstAt, Cl.putAt, isaM, tyM, tyName, lsrcM, srcM, calmly, depOk_nil, sizeLine_eq, wipeE, gmul_r, gmul_l, gdiv, gmod, gmod', fdiv_pos, fmod_pos, grg, grg2, gsz, atI_pos, liftP, noRefL, noRef, e1, isI, numB]
  · simp [noRef] at nr
    simp (disch := first | omega | (simp; done) | fail) [ir_is_number_0, semS, semE, semA, semN, semO, semI, exS, bnd, optM, pur, setTg, seqM, lsM, binM, binL, augM, biM, bnM, cmpM, cmpI, ltM, leM, inM, eqF, flatD, isM, Cl.isNon, truM, intM, idxM, slcM, lenM, lstAt, Cl.putAt, isaM, tyM, tyName, lsrcM, srcM, calmly, depOk_nil, sizeLine_eq, wipeE, gmul_r, gmul_l, gdiv, gmod, gmod', fdiv_pos, fmod_pos, grg, grg2, gsz, atI_pos, liftP, noRefL, noRef, e1, isI, numB, nr]
end Cl
namespace Mth
/-! ### who hangs together -/
def adj (ws : Ways) (i j : Nat) : Prop := (min i j, max i j) ∈ ws
inductive Reach (ws : Ways) : Nat → Prop
  | zero : Reach ws 0
  | step {i j : Nat} : Reach ws i → adj ws i j → Reach ws j
def Conn (n : Nat) (ws : Ways) : Prop := ∀ v, v < n → Reach ws v
theorem subset_len : ∀ (A B : List Nat), A.Nodup → (∀ x ∈ A, x ∈ B) → A.length ≤ B.length
  | [], _, _, _ => by simp
  | a :: A, B, h, s => by
    have ha := s a List.mem_cons_self
    have h1 := List.nodup_cons.mp h
    have := subset_len A (B.erase a) h1.2 fun x hx => (List.mem_erase_of_ne (fun e => h1.1 (by subst e; exact hx))).mpr (s x (List.mem_cons_of_mem _ hx))
    rw [List.length_erase_of_mem ha] at this
    have hp := List.length_pos_of_mem ha
    rw [List.length_cons]
    omega
structure Grp (n : Nat) (ws : Ways) (W : List Nat) : Prop where
  nd : W.Nodup
  lt : ∀ w ∈ W, w < n
  rch : ∀ w ∈ W, Reach ws w
  zero : 0 ∈ W
def Closed (n : Nat) (ws : Ways) (W : List Nat) : Prop := ∀ i ∈ W, ∀ j, j < n → adj ws i j → j ∈ W
theorem Grp.le {n : Nat} {ws : Ways} {W : List Nat} (h : Grp n ws W) : W.length ≤ n := nodup_le n W h.nd h.lt
theorem Grp.full {n : Nat} {ws : Ways} {W : List Nat} (hw : ∀ p ∈ ws, p.1 < p.2 ∧ p.2 < n) (h : Grp n ws W) (hc : Closed n ws W) : W.length = n ↔ Conn n ws := by
  have all : ∀ v, Reach ws v → v ∈ W := fun v r => by
    induction r with
    | zero => exact h.zero
    | step r a ih =>
      refine hc _ ih _ ?_ a
      have := hw _ a
      simp only at this
      omega
  constructor
  · intro e v hv
    rcases Classical.em (v ∈ W) with m | m
    · exact h.rch v m
    · have nd : (v :: W).Nodup := List.nodup_cons.mpr ⟨m, h.nd⟩
      have := nodup_le n (v :: W) nd fun w hw => by
        rcases List.mem_cons.mp hw with rfl | hw
        · exact hv
        · exact h.lt w hw
      rw [List.length_cons] at this
      omega
  · intro c
    have := subset_len (List.range n) W List.nodup_range fun x hx => all x (c x (List.mem_range.mp hx))
    rw [List.length_range] at this
    have := h.le
    omega
theorem Grp.one {n : Nat} {ws : Ways} (hn : 1 ≤ n) : Grp n ws [0] := ⟨by simp, fun w h => by simp at h; omega, fun w h => by simp at h; subst h; exact .zero, by simp⟩
/-- one turn of the search -/
theorem Grp.ext {n : Nat} {ws : Ways} {W : List Nat} {i : Nat} (h : Grp n ws W) (hi : i ∈ W) :
    Grp n ws (W ++ (List.range n).filter fun j => decide (j ∉ W) && decide ((min i j, max i j) ∈ ws)) := by
  refine ⟨?_, fun w hw => ?_, fun w hw => ?_, List.mem_append_left _ h.zero⟩
  · rw [List.nodup_append]
    refine ⟨h.nd, List.nodup_range.filter _, fun a ha b hb e => ?_⟩
    subst e
    simp only [List.mem_filter, Bool.and_eq_true, decide_eq_true_eq] at hb
    exact hb.2.1 ha
  · rcases List.mem_append.mp hw with m | m
    · exact h.lt w m
    · exact List.mem_range.mp (List.mem_filter.mp m).1
  · rcases List.mem_append.mp hw with m | m
    · exact h.rch w m
    · simp only [List.mem_filter, Bool.and_eq_true, decide_eq_true_eq] at m
      exact .step (h.rch i hi) m.2.2
/-! ### by rounds over the ways -/
def rnd1 (W : List Nat) (p : Nat × Nat) : List Nat := if decide (p.1 ∈ W) ≠ decide (p.2 ∈ W) then W ++ [if p.1 ∈ W then p.2 else p.1] else W
def rnd (ws : Ways) (W : List Nat) : List Nat := ws.foldl rnd1 W
def rnds (ws : Ways) : Nat → List Nat
  | 0 => [0]
  | k + 1 => rnd ws (rnds ws k)
theorem rnd1_len (W : List Nat) (p : Nat × Nat) : W.length ≤ (rnd1 W p).length := by unfold rnd1; split <;> simp
theorem rnd_len : ∀ (ws : Ways) (W : List Nat), W.length ≤ (rnd ws W).length
  | [], _ => Nat.le_refl _
  | p :: ws, W => Nat.le_trans (rnd1_len W p) (rnd_len ws (rnd1 W p))
theorem adj_way {ws : Ways} {p : Nat × Nat} (h : p ∈ ws) (l : p.1 < p.2) : adj ws p.1 p.2 ∧ adj ws p.2 p.1 := by
  unfold adj
  rw [Nat.min_eq_left (by omega), Nat.max_eq_right (by omega), Nat.min_eq_right (by omega), Nat.max_eq_left (by omega)]
  exact ⟨h, h⟩
theorem Grp.rnd1 {n : Nat} {ws : Ways} {W : List Nat} {p : Nat × Nat} (h : Grp n ws W) (hp : p ∈ ws) (l : p.1 < p.2) (l2 : p.2 < n) : Grp n ws (rnd1 W p) := by
  unfold Mth.rnd1
  split
  · rename_i hne
    have a := adj_way hp l
    have key : ∀ q, q ∉ W → q < n → Reach ws q → Grp n ws (W ++ [q]) := fun q h1 h2 h3 =>
      ⟨by
        rw [List.nodup_append]
        exact ⟨h.nd, by simp, fun x hx y hy e => by simp at hy; subst hy; subst e; exact h1 hx⟩, fun w hw => by
        rcases List.mem_append.mp hw with m | m
        · exact h.lt w m
        · simp at m; omega, fun w hw => by
        rcases List.mem_append.mp hw with m | m
        · exact h.rch w m
        · simp at m; subst m; exact h3, List.mem_append_left _ h.zero⟩
    by_cases m : p.1 ∈ W
    · rw [if_pos m]
      have m2 : p.2 ∉ W := fun z => hne (by simp [m, z])
      exact key _ m2 l2 (.step (h.rch _ m) a.1)
    · rw [if_neg m]
      have m2 : p.2 ∈ W := by
        rcases Classical.em (p.2 ∈ W) with z | z
        · exact z
        · exact absurd (by simp [m, z]) hne
      exact key _ m (by omega) (.step (h.rch _ m2) a.2)
  · exact h
theorem Grp.rnd {n : Nat} {ws : Ways} (hw : ∀ p ∈ ws, p.1 < p.2 ∧ p.2 < n) : ∀ (vs : Ways) (W : List Nat), (∀ p ∈ vs, p ∈ ws) → Grp n ws W → Grp n ws (rnd vs W)
  | [], _, _, h => h
  | p :: vs, W, s, h => Grp.rnd hw vs (Mth.rnd1 W p) (fun q hq => s q (List.mem_cons_of_mem _ hq)) (h.rnd1 (s p List.mem_cons_self) (hw p (s p List.mem_cons_self)).1 (hw p (s p List.mem_cons_self)).2)
/-- a round adds, or all is closed -/
theorem rnd_or : ∀ (vs : Ways) (W : List Nat), (rnd vs W).length > W.length ∨ (rnd vs W = W ∧ ∀ p ∈ vs, (p.1 ∈ W ↔ p.2 ∈ W))
  | [], W => .inr ⟨rfl, by simp⟩
  | p :: vs, W => by
    by_cases h : decide (p.1 ∈ W) ≠ decide (p.2 ∈ W)
    · left
      have := rnd_len vs (rnd1 W p)
      have e : (rnd1 W p).length = W.length + 1 := by unfold rnd1; rw [if_pos h]; simp
      show (rnd vs (rnd1 W p)).length > W.length
      omega
    · have e : rnd1 W p = W := by unfold rnd1; rw [if_neg h]
      have h2 : (p.1 ∈ W ↔ p.2 ∈ W) := by
        have : decide (p.1 ∈ W) = decide (p.2 ∈ W) := by simpa using h
        by_cases a : p.1 ∈ W <;> by_cases b : p.2 ∈ W <;> simp_all
      rcases rnd_or vs W with z | ⟨z1, z2⟩
      · left
        show (rnd vs (rnd1 W p)).length > W.length
        rw [e]; exact z
      · right
        refine ⟨by show rnd vs (rnd1 W p) = W; rw [e]; exact z1, fun q hq => ?_⟩
        rcases List.mem_cons.mp hq with rfl | hq
        · exact h2
        · exact z2 q hq
theorem rnds_or (ws : Ways) : ∀ k, (rnds ws k).length ≥ k + 1 ∨ ∀ p ∈ ws, (p.1 ∈ rnds ws k ↔ p.2 ∈ rnds ws k)
  | 0 => .inl (by simp [rnds])
  | k + 1 => by
    rcases rnd_or ws (rnds ws k) with z | ⟨z1, z2⟩
    · rcases rnds_or ws k with y | y
      · left
        show (rnd ws (rnds ws k)).length ≥ _
        omega
      · right
        have e : rnd ws (rnds ws k) = rnds ws k := by
          have : ∀ vs : Ways, (∀ p ∈ vs, (p.1 ∈ rnds ws k ↔ p.2 ∈ rnds ws k)) → rnd vs (rnds ws k) = rnds ws k := fun vs => by
            induction vs with
            | nil => intro _; rfl
            | cons p vs ih =>
              intro h
              have e : rnd1 (rnds ws k) p = rnds ws k := by
                unfold rnd1
                rw [if_neg]
                have := h p List.mem_cons_self
                by_cases a : p.1 ∈ rnds ws k
                · simp [a, this.mp a]
                · have b : p.2 ∉ rnds ws k := fun b => a (this.mpr b)
                  simp [a, b]
              show rnd vs (rnd1 (rnds ws k) p) = _
              rw [e]
              exact ih fun q hq => h q (List.mem_cons_of_mem _ hq)
          exact this ws y
        show ∀ p ∈ ws, (p.1 ∈ rnd ws (rnds ws k) ↔ p.2 ∈ rnd ws (rnds ws k))
        rw [e]; exact y
    · right
      show ∀ p ∈ ws, (p.1 ∈ rnd ws (rnds ws k) ↔ p.2 ∈ rnd ws (rnds ws k))
      rw [z1]; exact z2
theorem Grp.rnds {n : Nat} {ws : Ways} (hn : 1 ≤ n) (hw : ∀ p ∈ ws, p.1 < p.2 ∧ p.2 < n) : ∀ k, Grp n ws (rnds ws k)
  | 0 => Grp.one hn
  | k + 1 => Grp.rnd hw ws _ (fun _ h => h) (Grp.rnds hn hw k)
theorem rnds_full {n : Nat} {ws : Ways} (hn : 1 ≤ n) (hw : ∀ p ∈ ws, p.1 < p.2 ∧ p.2 < n) : (rnds ws n).length = n ↔ Conn n ws := by
  have g := Grp.rnds hn hw n
  have c : ∀ p ∈ ws, (p.1 ∈ Mth.rnds ws n ↔ p.2 ∈ Mth.rnds ws n) := by
    rcases rnds_or ws n with z | z
    · have := g.le; omega
    · exact z
  refine g.full hw fun i hi j _ a => ?_
  have := c _ a
  simp only at this
  rcases Nat.le_total i j with l | l
  · rw [Nat.min_eq_left l, Nat.max_eq_right l] at this; exact this.mp hi
  · rw [Nat.min_eq_right l, Nat.max_eq_left l] at this; exact this.mpr hi
/-- the ways of the papers' order -/
def wayLe (a b : Nat × Nat) : Bool := decide (a.1 < b.1 ∨ (a.1 = b.1 ∧ a.2 ≤ b.2))
def Asc (ws : Ways) : Prop := ∀ k (h : k + 1 < ws.length), wayLe ws[k] ws[k + 1] = true
end Mth
namespace Cl
open PySem PySem.Spec PyProof.Rows L2 Mth
def ir_is_way_1 : S := (.ret (.cmp .Lt (.idx (.var 1) (.int 0)) (.idx (.var 1) (.int 1))))
def ir_is_way_0 : S := (.ite (.or (.not (.isa (.var 1) ["tuple"])) (.or (.cmp .NotEq (.bi .len (.cons (.var 1) .nil)) (.int 2)) (.not (.bi .all (.cons (.comp [2] (.nm 2) (.var 1) .nil (.call 0 (.cons (.var 2) (.cons (.int 0) (.cons (.bin .Sub (.var 0) (.int 1)) .nil))))) .nil))))) (.seq (.ret (.bl false)) .nop) .nop)
def ir_is_way : S := (.seq ir_is_way_0 (.seq ir_is_way_1 .nop))
def ir_is_land_b0 : S := (.seq (.asg (.tg (.nm 7)) (.idx (.var 5) (.var 6))) (.seq (.ex (.ext (.var 5) (.comp [8] (.nm 8) (.rng1 (.var 1)) (.and (.cmp .NotIn (.var 8) (.var 5)) (.cmp .In (.tup (.cons (.bi .min2 (.cons (.var 7) (.cons (.var 8) .nil))) (.cons (.bi .max2 (.cons (.var 7) (.cons (.var 8) .nil))) .nil))) (.var 2))) (.var 8)))) (.seq (.aug 6 .Add (.int 1)) .nop)))
def ir_is_land_6 : S := (.ret (.cmp .Eq (.bi .len (.cons (.var 5) .nil)) (.var 1)))
def ir_is_land_5 : S := (.whl (.cmp .Lt (.var 6) (.bi .len (.cons (.var 5) .nil))) ir_is_land_b0)
def ir_is_land_4 : S := (.asg (.tg (.tp [5, 6])) (.tup (.cons (.trk (.lst (.cons (.int 0) .nil))) (.cons (.int 0) .nil))))
def ir_is_land_3 : S := (.ite (.not (.bi .all (.cons (.comp [4] (.nm 4) (.rng1 (.bin .Sub (.bi .len (.cons (.var 2) .nil)) (.int 1))) .nil (.cmp .LtE (.idx (.var 2) (.var 4)) (.idx (.var 2) (.bin .Add (.var 4) (.int 1))))) .nil))) (.seq (.ret (.bl false)) .nop) .nop)
def ir_is_land_2 : S := (.ite (.or (.not (.isa (.var 2) ["tuple"])) (.or (.cmp .Gt (.bi .len (.cons (.var 2) .nil)) (.glb 1)) (.not (.bi .all (.cons (.comp [3] (.nm 3) (.var 2) .nil (.call 1 (.cons (.var 1) (.cons (.var 3) .nil)))) .nil))))) (.seq (.ret (.bl false)) .nop) .nop)
def ir_is_land_1 : S := (.asg (.tg (.tp [1, 2])) (.var 0))
def ir_is_land_0 : S := (.ite (.or (.not (.isa (.var 0) ["tuple"])) (.or (.cmp .NotEq (.bi .len (.cons (.var 0) .nil)) (.int 2)) (.not (.call 0 (.cons (.idx (.var 0) (.int 0)) (.cons (.int 1) (.cons (.glb 0) .nil))))))) (.seq (.ret (.bl false)) .nop) .nop)
def ir_is_land : S := (.seq ir_is_land_0 (.seq ir_is_land_1 (.seq ir_is_land_2 (.seq ir_is_land_3 (.seq ir_is_land_4 (.seq ir_is_land_5 (.seq ir_is_land_6 .nop)))))))
noncomputable def p_is_way : List D → PR := fun ds => pureOf (runF (semS { tab := [(liftP p_is_number)] } [] ir_is_way) 2 3 ds [])
noncomputable def p_is_land : List D → PR := fun ds => pureOf (runF (semS { tab := [(liftP p_is_number), (liftP p_is_way)] } [.int 8, .int 20] ir_is_land) 1 9 ds [])

def wayB (n : Int) : D → Bool
  | .tup [.int a, .int b] => decide (0 ≤ a ∧ a < b ∧ b ≤ n - 1)
  | _ => false
theorem numB_iff {lo hi : Int} {v : D} : numB lo hi v = true ↔ ∃ i, v = .int i ∧ lo ≤ i ∧ i ≤ hi := by
  cases v <;> simp [numB]
theorem two_of {xs : List D} (h : xs.length = 2) : ∃ a b, xs = [a, b] := by
  rcases xs with _ | ⟨a, _ | ⟨b, _ | ⟨c, r⟩⟩⟩ <;> simp at h
  exact ⟨a, b, rfl⟩
theorem ev_is_way {k : Nat} {v : D} (h : plD k v = true) (n : Int) : p_is_way [.int n, v] = .ok (.bl (wayB n v)) := by
  have nr := plD_noRef h
  refine p_ends [some (.int n), some v, none] ?_
  unfold ir_is_way
  rcases plD_cases h with rfl | ⟨k, rfl⟩ | ⟨i, rfl⟩ | ⟨x, rfl⟩ | ⟨m, xs, rfl, rfl, hl, hx⟩
  · exact ends_seq (ends_rt (d := .bl false) (h := []) (by simp (disch := first | omega | (simp; done) | fail) [ir_is_way_0, semS, semE, semA, semN, semO, semI, exS, bnd, optM, pur, setTg, seqM, lsM, binM, binL, augM, biM, bnM, cmpM, cmpI, ltM, leM, inM, eqF, flatD, isM, Cl.isNon, truM, intM, idxM, slcM, lenM, lstAt, Cl.putAt, isaM, tyM, tyName, lsrcM, srcM, calmly, depOk_nil, sizeLine_eq, wipeE, gmul_r, gmul_l, gdiv, gmod, gmod', fdiv_pos, fmod_pos, grg, grg2, gsz, atI_pos]) rfl)
  · exact ends_seq (ends_rt (d := .bl false) (h := []) (by simp (disch := first | omega | (simp; done) | fail) [ir_is_way_0, semS, semE, semA, semN, semO, semI, exS, bnd, optM, pur, setTg, seqM, lsM, binM, binL, augM, biM, bnM, cmpM, cmpI, ltM, leM, inM, eqF, flatD, isM, Cl.isNon, truM, intM, idxM, slcM, lenM, lstAt, Cl.putAt, isaM, tyM, tyName, lsrcM, srcM, calmly, depOk_nil, sizeLine_eq, wipeE, gmul_r, gmul_l, gdiv, gmod, gmod', fdiv_pos, fmod_pos, grg, grg2, gsz, atI_pos]) rfl)
  · exact ends_seq (ends_rt (d := .bl false) (h := []) (by simp (disch := first | omega | (simp; done) | fail) [ir_is_way_0, semS, semE, semA, semN, semO, semI, exS, bnd, optM, pur, setTg, seqM, lsM, binM, binL, augM, biM, bnM, cmpM, cmpI, ltM, leM, inM, eqF, flatD, isM, Cl.isNon, truM, intM, idxM, slcM, lenM, lstAt, Cl.putAt, isaM, tyM, tyName, lsrcM, srcM, calmly, depOk_nil, sizeLine_eq, wipeE, gmul_r, gmul_l, gdiv, gmod, gmod', fdiv_pos, fmod_pos, grg, grg2, gsz, atI_pos]) rfl)
  · exact ends_seq (ends_rt (d := .bl false) (h := []) (by simp (disch := first | omega | (simp; done) | fail) [ir_is_way_0, semS, semE, semA, semN, semO, semI, exS, bnd, optM, pur, setTg, seqM, lsM, binM, binL, augM, biM, bnM, cmpM, cmpI, ltM, leM, inM, eqF, flatD, isM, Cl.isNon, truM, intM, idxM, slcM, lenM, lstAt, Cl.putAt, isaM, tyM, tyName, lsrcM, srcM, calmly, depOk_nil, sizeLine_eq, wipeE, gmul_r, gmul_l, gdiv, gmod, gmod', fdiv_pos, fmod_pos, grg, grg2, gsz, atI_pos]) rfl)
  · by_cases z : xs.length = 2
    · obtain ⟨a, b, rfl⟩ := two_of z
      have ha := hx a (by simp)
      have hb := hx b (by simp)
      have ea := ev_is_number ha 0 (n - 1)
      have eb := ev_is_number hb 0 (n - 1)
      have na := plD_noRef ha
      have nb := plD_noRef hb
      have k1 := comp_map (G := { tab := [liftP p_is_number] }) (C := []) (own := [2]) (tg := .nm 2) (src := .var 1) (elt := .call 0 (.cons (.var 2) (.cons (.int 0) (.cons (.bin .Sub (.var 0) (.int 1)) .nil)))) (env := [some (.int n), some (.tup [a, b]), none]) (h := [])
        [a, b] id (fun d => .bl (numB 0 (n - 1) d)) (by simp (disch := first | omega | (simp; done) | fail) [semS, semE, semA, semN, semO, semI, exS, bnd, optM, pur, setTg, seqM, lsM, binM, binL, augM, biM, bnM, cmpM, cmpI, ltM, leM, inM, eqF, flatD, isM, Cl.isNon, truM, intM, idxM, slcM, lenM, lstAt, Cl.putAt, isaM, tyM, tyName, lsrcM, srcM, calmly, depOk_nil, sizeLine_eq, wipeE, gmul_r, gmul_l, gdiv, gmod, gmod', fdiv_pos, fmod_pos, grg, grg2, gsz, atI_pos]) (by simp) (fun d hd => by
          have hd' := hx d hd
          refine ⟨[some (.int n), some (.tup [a, b]), some d], by simp [semS, semE, semA, semN, semO, semI, exS, bnd, optM, pur, setTg, seqM, lsM, binM, binL, augM, biM, bnM, cmpM, cmpI, ltM, leM, inM, eqF, flatD, isM, Cl.isNon, truM, intM, idxM, slcM, lenM, lstAt, Cl.putAt, isaM, tyM, tyName, lsrcM, srcM, calmly, depOk_nil, sizeLine_eq, wipeE], ?_⟩
          simp (disch := first | omega | (simp; done) | fail) [semS, semE, semA, semN, semO, semI, exS, bnd, optM, pur, setTg, seqM, lsM, binM, binL, augM, biM, bnM, cmpM, cmpI, ltM, leM, inM, eqF, flatD, isM, Cl.isNon, truM, intM, idxM, slcM, lenM, lstAt, Cl.putAt, isaM, tyM, tyName, lsrcM, srcM, calmly, depOk_nil, sizeLine_eq, wipeE, gmul_r, gmul_l, gdiv, gmod, gmod', fdiv_pos, fmod_pos, grg, grg2, gsz, atI_pos, liftP, noRefL, noRef, plD_noRef hd', ev_is_number hd'])
      simp only [List.map_cons, List.map_nil] at k1
      by_cases q : (numB 0 (n - 1) a && numB 0 (n - 1) b) = true
      · rw [Bool.and_eq_true] at q
        obtain ⟨i, rfl, i1, i2⟩ := numB_iff.mp q.1
        obtain ⟨j, rfl, j1, j2⟩ := numB_iff.mp q.2
        refine ends_step (e := [some (.int n), some (.tup [.int i, .int j]), none]) (h' := []) (by simp (disch := first | omega | (simp; done) | fail) [ir_is_way_0, semS, semE, semA, semO, semI, exS, bnd, optM, pur, setTg, seqM, lsM, binM, binL, augM, biM, bnM, cmpM, cmpI, ltM, leM, inM, eqF, flatD, isM, Cl.isNon, truM, intM, idxM, slcM, lenM, lstAt, Cl.putAt, isaM, tyM, tyName, lsrcM, srcM, calmly, depOk_nil, sizeLine_eq, wipeE, gmul_r, gmul_l, gdiv, gmod, gmod', fdiv_pos, fmod_pos, grg, grg2, gsz, atI_pos, k1, q.1, q.2, blsD]) ?_
        refine ends_seq (ends_rt (d := .bl (wayB n (.tup [.int i, .int j]))) (h := []) ?_ rfl)
        by_cases y : i < j <;> simp (disch := first | omega | (simp; done) | fail) [ir_is_way_1, semS, semE, semA, semN, semO, semI, exS, bnd, optM, pur, setTg, seqM, lsM, binM, binL, augM, biM, bnM, cmpM, cmpI, ltM, leM, inM, eqF, flatD, isM, Cl.isNon, truM, intM, idxM, slcM, lenM, lstAt, Cl.putAt, isaM, tyM, tyName, lsrcM, srcM, calmly, depOk_nil, sizeLine_eq, wipeE, gmul_r, gmul_l, gdiv, gmod, gmod', fdiv_pos, fmod_pos, grg, grg2, gsz, atI_pos, wayB, y] <;> omega
      · have f : wayB n (.tup [a, b]) = false := by
          cases a <;> cases b <;> simp [wayB]
          rename_i i j
          intro h1 h2
          simp [numB] at q
          by_cases y : j ≤ n - 1
          · have := q h1 (by omega) (by omega)
            omega
          · omega
        rw [f]
        refine ends_seq (ends_rt (d := .bl false) (h := []) ?_ rfl)
        rw [Bool.not_eq_true, Bool.and_eq_false_iff] at q
        rcases q with q | q <;> simp (disch := first | omega | (simp; done) | fail) [ir_is_way_0, semS, semE, semA, semO, semI, exS, bnd, optM, pur, setTg, seqM, lsM, binM, binL, augM, biM, bnM, cmpM, cmpI, ltM, leM, inM, eqF, flatD, isM, Cl.isNon, truM, intM, idxM, slcM, lenM, lstAt, Cl.putAt, isaM, tyM, tyName, lsrcM, srcM, calmly, depOk_nil, sizeLine_eq, wipeE, gmul_r, gmul_l, gdiv, gmod, gmod', fdiv_pos, fmod_pos, grg, grg2, gsz, atI_pos, k1, q, blsD]
    · have zi : ¬ (xs.length : Int) = 2 := by omega
      have f : wayB n (.tup xs) = false := by
        rcases xs with _ | ⟨a, _ | ⟨b, _ | ⟨c, r⟩⟩⟩
        · rfl
        · cases a <;> rfl
        · exact absurd rfl z
        · cases a <;> cases b <;> rfl
      rw [f]
      exact ends_seq (ends_rt (d := .bl false) (h := []) (by simp (disch := first | omega | (simp; done) | fail) [ir_is_way_0, semS, semE, semA, semN, semO, semI, exS, bnd, optM, pur, setTg, seqM, lsM, binM, binL, augM, biM, bnM, cmpM, cmpI, ltM, leM, inM, eqF, flatD, isM, Cl.isNon, truM, intM, idxM, slcM, lenM, lstAt, Cl.putAt, isaM, tyM, tyName, lsrcM, srcM, calmly, depOk_nil, sizeLine_eq, wipeE, gmul_r, gmul_l, gdiv, gmod, gmod', fdiv_pos, fmod_pos, grg, grg2, gsz, atI_pos, zi]) rfl)
theorem ways_of {n : Nat} : ∀ {xs : List D}, (∀ x ∈ xs, wayB n x = true) → ∃ ws : Ways, xs = encs ws ∧ ∀ p ∈ ws, p.1 < p.2 ∧ p.2 < n
  | [], _ => ⟨[], rfl, by simp⟩
  | x :: xs, h => by
    obtain ⟨ws, rfl, hw⟩ := ways_of (xs := xs) fun y hy => h y (List.mem_cons_of_mem _ hy)
    have hx := h x List.mem_cons_self
    have : ∃ i j : Int, x = .tup [.int i, .int j] ∧ 0 ≤ i ∧ i < j ∧ j ≤ (n : Int) - 1 := by
      unfold wayB at hx
      split at hx
      · rename_i i j
        exact ⟨i, j, rfl, by simpa using hx⟩
      · cases hx
    obtain ⟨i, j, rfl, h1, h2, h3⟩ := this
    refine ⟨(i.toNat, j.toNat) :: ws, ?_, fun p hp => ?_⟩
    · have e1 : ((i.toNat : Nat) : Int) = i := by omega
      have e2 : ((j.toNat : Nat) : Int) = j := by omega
      simp [encs, e1, e2]
    · rcases List.mem_cons.mp hp with rfl | hp
      · exact ⟨by show i.toNat < j.toNat; omega, by show j.toNat < n; omega⟩
      · exact hw p hp
theorem wayB_of {n : Nat} {ws : Ways} (h : ∀ p ∈ ws, p.1 < p.2 ∧ p.2 < n) : ∀ x ∈ encs ws, wayB n x = true := fun x hx => by
  obtain ⟨p, hp, rfl⟩ := List.mem_map.mp hx
  have := h p hp
  simp [wayB]
  omega
def wlA (ws : Ways) (k : Nat) : Bool := wayLe (ws.getD k (0, 0)) (ws.getD (k + 1) (0, 0))
def ascB (ws : Ways) : Bool := (List.range (ws.length - 1)).all (wlA ws)
theorem lex_way (a b : Nat × Nat) : (!HT.lexLt [(b.1 : Int), b.2] [(a.1 : Int), a.2]) = wayLe a b := by
  unfold HT.lexLt HT.lexLt HT.lexLt wayLe
  by_cases h1 : (b.1 : Int) = a.1
  · by_cases h2 : (b.2 : Int) = a.2
    · rw [if_pos h1, if_pos h2]
      have : a.1 < b.1 ∨ a.1 = b.1 ∧ a.2 ≤ b.2 := by omega
      simp [this]
    · rw [if_pos h1, if_neg h2]
      by_cases h3 : (b.2 : Int) < a.2
      · have : ¬ (a.1 < b.1 ∨ a.1 = b.1 ∧ a.2 ≤ b.2) := by omega
        rw [decide_eq_true h3, decide_eq_false this]; rfl
      · have : a.1 < b.1 ∨ a.1 = b.1 ∧ a.2 ≤ b.2 := by omega
        rw [decide_eq_false h3, decide_eq_true this]; rfl
  · rw [if_neg h1]
    by_cases h3 : (b.1 : Int) < a.1
    · have : ¬ (a.1 < b.1 ∨ a.1 = b.1 ∧ a.2 ≤ b.2) := by omega
      rw [decide_eq_true h3, decide_eq_false this]; rfl
    · have : a.1 < b.1 ∨ a.1 = b.1 ∧ a.2 ≤ b.2 := by omega
      rw [decide_eq_false h3, decide_eq_true this]; rfl
theorem leM_way (a b : Nat × Nat) (h : Hc) : leM (.tup [.int a.1, .int a.2]) (.tup [.int b.1, .int b.2]) h = .ok (wayLe a b) h := by
  rw [← lex_way]
  rfl
theorem toPys_encs (ws : Ways) : toPys (encs ws) = some (ws.map fun p => PyData.tuple [.int p.1, .int p.2]) := by
  induction ws with
  | nil => rfl
  | cons p ws ih =>
    simp only [encs] at ih
    simp only [encs, List.map_cons, toPys, toPy, ih, Option.map_some]
theorem in_ways (ws : Ways) (a b : Nat) (h : Hc) : inM (.tup [.int a, .int b]) (.tup (encs ws)) h = .ok (decide ((a, b) ∈ ws)) h := by
  unfold inM
  have e1 : toPy (.tup [.int a, .int b]) = some (.tuple [.int a, .int b]) := rfl
  have sh : ∀ a b : Int, SeqAt.shaped (.tuple [.int a, .int b]) = true := fun _ _ => rfl
  have all : (ws.map fun p => PyData.tuple [.int p.1, .int p.2]).all SeqAt.shaped = true := by
    rw [List.all_map, List.all_eq_true]; intro p _; exact sh _ _
  simp only [e1, toPys_encs, sh, all, Bool.and_self, if_true]
  congr 1
  clear all
  induction ws with
  | nil => simp
  | cons p ws ih =>
    rw [List.map_cons, List.any_cons, ih]
    obtain ⟨c, d⟩ := p
    by_cases h1 : c = a
    · subst h1
      by_cases h2 : d = b
      · subst h2; simp [PyData.eqv, PyData.eqvAll]
      · have h3 : ¬ b = d := fun z => h2 z.symm
        have h4 : ¬ (d : Int) = b := by omega
        simp [PyData.eqv, PyData.eqvAll, h3, h4]
    · have h3 : ¬ a = c := fun z => h1 z.symm
      have h4 : ¬ (c : Int) = a := by omega
      simp [PyData.eqv, PyData.eqvAll, h3, h4]
/-- what is a land -/
structure LandW (n : Nat) (ws : Ways) : Prop where
  one : 1 ≤ n
  most : n ≤ 8
  few : ws.length ≤ 20
  lt : ∀ p ∈ ws, p.1 < p.2 ∧ p.2 < n
  asc : ascB ws = true
  conn : Conn n ws
def LandV (v : D) : Prop := ∃ n ws, v = encLand n ws ∧ LandW n ws
open Classical in
noncomputable def landB (v : D) : Bool := decide (LandV v)
theorem landB_false {v : D} (h : ¬ LandV v) : landB v = false := by unfold landB; exact @decide_eq_false _ (Classical.propDecidable _) h
theorem encs_inj {ws vs : Ways} (h : encs ws = encs vs) : ws = vs := by
  induction ws generalizing vs with
  | nil => cases vs <;> simp_all [encs]
  | cons p ws ih =>
    cases vs with
    | nil => simp [encs] at h
    | cons q vs =>
      simp only [encs, List.map_cons, List.cons.injEq, D.tup.injEq, D.int.injEq] at h
      have := ih h.2
      obtain ⟨p1, p2⟩ := p
      obtain ⟨q1, q2⟩ := q
      simp only at h
      have e1 : p1 = q1 := by omega
      have e2 : p2 = q2 := by omega
      rw [this, e1, e2]
theorem landV_iff {n : Nat} {ws : Ways} : LandV (encLand n ws) ↔ LandW n ws := by
  constructor
  · rintro ⟨m, vs, e, h⟩
    simp only [encLand, encW, D.tup.injEq, List.cons.injEq, D.int.injEq, and_true] at e
    have e1 : n = m := by omega
    have e2 := encs_inj e.2
    subst e1; subst e2
    exact h
  · exact fun h => ⟨n, ws, rfl, h⟩
theorem ev_asc {G : Gt} {C : List D} {env : Cl.Env} {h : Hc} {n : Nat} {ws : Ways} {i j : Nat} (hij : i ≠ j) (hj : j < env.length) (h2 : env[i]? = some (some (.tup (encs ws)))) (hl : ws.length ≤ 10000) :
    semN G C (.comp [j] (.nm j) (.rng1 (.bin .Sub (.bi .len (.cons (.var i) .nil)) (.int 1))) .nil (.cmp .LtE (.idx (.var i) (.var j)) (.idx (.var i) (.bin .Add (.var j) (.int 1))))) env h = .ok ((List.range (ws.length - 1)).map fun k => .bl (wlA ws k)) h := by
  have e1 : (((ws.length : Nat) : Int) - 1).toNat = ws.length - 1 := by omega
  refine comp_map (List.range (ws.length - 1)) (fun k : Nat => D.int (0 + (k : Int))) _ (by simp (disch := first | omega | (simp; done) | fail) [semS, semE, semA, semN, semO, semI, exS, bnd, optM, pur, setTg, seqM, lsM, binM, binL, augM, biM, bnM, cmpM, cmpI, ltM, leM, inM, eqF, flatD, isM, Cl.isNon, truM, intM, idxM, slcM, lenM, lstAt, Cl.putAt, isaM, tyM, tyName, lsrcM, srcM, calmly, depOk_nil, sizeLine_eq, wipeE, gmul_r, gmul_l, gdiv, gmod, gmod', fdiv_pos, fmod_pos, grg, grg2, gsz, atI_pos, h2, rangeD_eq, e1, grg]) (by simp; omega) (fun k hk => ?_)
  rw [List.mem_range] at hk
  have hk1 : k < ws.length := by omega
  have hk2 : k + 1 < ws.length := by omega
  have g1 : atI (encs ws) (k : Int) = some (.tup [.int (ws.getD k (0, 0)).1, .int (ws.getD k (0, 0)).2]) := by
    rw [Cl.atI_pos (by omega)]; simp [encs, hk1]
  have g2 : atI (encs ws) ((k : Int) + 1) = some (.tup [.int (ws.getD (k + 1) (0, 0)).1, .int (ws.getD (k + 1) (0, 0)).2]) := by
    rw [Cl.atI_pos (by omega), show ((k : Int) + 1).toNat = k + 1 by omega]; simp [encs, hk2]
  refine ⟨(wipeE env [j]).set j (some (.int k)), by simp [setTg, pur], ?_⟩
  have w1 : ((wipeE env [j]).set j (some (D.int k)))[i]? = some (some (.tup (encs ws))) := by
    rw [List.getElem?_set_ne (Ne.symm hij)]
    simp [wipeE, h2, hij, Ne.symm hij]
  have w2 : ((wipeE env [j]).set j (some (D.int k)))[j]? = some (some (.int k)) := by
    rw [List.getElem?_set_self]
    simp [wipeE, hj]
  simp only [semE, bnd, optM, pur, w1, w2, Option.bind_some, id, idxM, seqM, g1, g2, binM, cmpM, leM_way]
  rfl
theorem blsD_fun {α : Type} (f : α → Bool) : ∀ l : List α, blsD (l.map fun a => D.bl (f a)) = some (l.map f)
  | [] => rfl
  | a :: l => by simp only [List.map_cons, blsD, blsD_fun f l, Option.map_some]
theorem all_id {α : Type} (l : List α) (f : α → Bool) : (l.map f).all id = l.all f := by rw [List.all_map]; rfl
theorem sem_ext {G : Gt} {C : List D} {env : Cl.Env} {i r : Nat} {x : I} {xs ys : List D} {hc : Hc} (hv : env[i]? = some (some (.ref r))) (h1 : hc[r]? = some (.lst xs)) (hx : semE G C x env hc = .ok (.fl ys) hc) (hl : xs.length + ys.length ≤ 16777216) :
    semS G C (.ex (.ext (.var i) x)) env hc = .nx env (hc.set r (.lst (xs ++ ys))) := by
  have hl2 : xs.length + ys.length ≤ sizeLine := by rw [sizeLine_eq]; exact hl
  have hr : r < hc.length := (List.getElem?_eq_some_iff.mp h1).1
  simp only [semS, exS, semE, bnd, optM, pur, hv, Option.bind_some, id, lstAt, h1, hx, gle hl2, Cl.putAt, if_pos hr]
theorem ev_is_land {k : Nat} {v : D} (h : plD k v = true) : p_is_land [v] = .ok (.bl (landB v)) := by
  have nr := plD_noRef h
  refine p_ends [some v, none, none, none, none, none, none, none, none] ?_
  unfold ir_is_land
  rcases plD_cases h with rfl | ⟨k, rfl⟩ | ⟨i, rfl⟩ | ⟨x, rfl⟩ | ⟨m, xs, rfl, rfl, hl, hx⟩
  · rw [landB_false (by rintro ⟨n, ws, e, _⟩; cases e)]
    exact ends_seq (ends_rt (d := .bl false) (h := []) (by simp (disch := first | omega | (simp; done) | fail) [ir_is_land_0, semS, semE, semA, semN, semO, semI, exS, bnd, optM, pur, setTg, seqM, lsM, binM, binL, augM, biM, bnM, cmpM, cmpI, ltM, leM, inM, eqF, flatD, isM, Cl.isNon, truM, intM, idxM, slcM, lenM, lstAt, Cl.putAt, isaM, tyM, tyName, lsrcM, srcM, calmly, depOk_nil, sizeLine_eq, wipeE, gmul_r, gmul_l, gdiv, gmod, gmod', fdiv_pos, fmod_pos, grg, grg2, gsz, atI_pos]) rfl)
  · rw [landB_false (by rintro ⟨n, ws, e, _⟩; cases e)]
    exact ends_seq (ends_rt (d := .bl false) (h := []) (by simp (disch := first | omega | (simp; done) | fail) [ir_is_land_0, semS, semE, semA, semN, semO, semI, exS, bnd, optM, pur, setTg, seqM, lsM, binM, binL, augM, biM, bnM, cmpM, cmpI, ltM, leM, inM, eqF, flatD, isM, Cl.isNon, truM, intM, idxM, slcM, lenM, lstAt, Cl.putAt, isaM, tyM, tyName, lsrcM, srcM, calmly, depOk_nil, sizeLine_eq, wipeE, gmul_r, gmul_l, gdiv, gmod, gmod', fdiv_pos, fmod_pos, grg, grg2, gsz, atI_pos]) rfl)
  · rw [landB_false (by rintro ⟨n, ws, e, _⟩; cases e)]
    exact ends_seq (ends_rt (d := .bl false) (h := []) (by simp (disch := first | omega | (simp; done) | fail) [ir_is_land_0, semS, semE, semA, semN, semO, semI, exS, bnd, optM, pur, setTg, seqM, lsM, binM, binL, augM, biM, bnM, cmpM, cmpI, ltM, leM, inM, eqF, flatD, isM, Cl.isNon, truM, intM, idxM, slcM, lenM, lstAt, Cl.putAt, isaM, tyM, tyName, lsrcM, srcM, calmly, depOk_nil, sizeLine_eq, wipeE, gmul_r, gmul_l, gdiv, gmod, gmod', fdiv_pos, fmod_pos, grg, grg2, gsz, atI_pos]) rfl)
  · rw [landB_false (by rintro ⟨n, ws, e, _⟩; cases e)]
    exact ends_seq (ends_rt (d := .bl false) (h := []) (by simp (disch := first | omega | (simp; done) | fail) [ir_is_land_0, semS, semE, semA, semN, semO, semI, exS, bnd, optM, pur, setTg, seqM, lsM, binM, binL, augM, biM, bnM, cmpM, cmpI, ltM, leM, inM, eqF, flatD, isM, Cl.isNon, truM, intM, idxM, slcM, lenM, lstAt, Cl.putAt, isaM, tyM, tyName, lsrcM, srcM, calmly, depOk_nil, sizeLine_eq, wipeE, gmul_r, gmul_l, gdiv, gmod, gmod', fdiv_pos, fmod_pos, grg, grg2, gsz, atI_pos]) rfl)
  by_cases z : xs.length = 2
  rotate_left
  · have zi : ¬ (xs.length : Int) = 2 := by omega
    rw [landB_false (by rintro ⟨n, ws, e, _⟩; cases e; exact z rfl)]
    exact ends_seq (ends_rt (d := .bl false) (h := []) (by simp (disch := first | omega | (simp; done) | fail) [ir_is_land_0, semS, semE, semA, semN, semO, semI, exS, bnd, optM, pur, setTg, seqM, lsM, binM, binL, augM, biM, bnM, cmpM, cmpI, ltM, leM, inM, eqF, flatD, isM, Cl.isNon, truM, intM, idxM, slcM, lenM, lstAt, Cl.putAt, isaM, tyM, tyName, lsrcM, srcM, calmly, depOk_nil, sizeLine_eq, wipeE, gmul_r, gmul_l, gdiv, gmod, gmod', fdiv_pos, fmod_pos, grg, grg2, gsz, atI_pos, zi]) rfl)
  obtain ⟨a, wv, rfl⟩ := two_of z
  have ha := hx a (by simp)
  have hb := hx wv (by simp)
  have ea := ev_is_number ha 1 8
  have na := plD_noRef ha
  have nb := plD_noRef hb
  by_cases q : numB 1 8 a = true
  rotate_left
  · rw [Bool.not_eq_true] at q
    rw [landB_false (by
      rintro ⟨n, ws, e, hL⟩
      cases e
      have := hL.one
      have := hL.most
      simp [numB] at q
      omega)]
    exact ends_seq (ends_rt (d := .bl false) (h := []) (by simp (disch := first | omega | (simp; done) | fail) [ir_is_land_0, semS, semE, semA, semN, semO, semI, exS, bnd, optM, pur, setTg, seqM, lsM, binM, binL, augM, biM, bnM, cmpM, cmpI, ltM, leM, inM, eqF, flatD, isM, Cl.isNon, truM, intM, idxM, slcM, lenM, lstAt, Cl.putAt, isaM, tyM, tyName, lsrcM, srcM, calmly, depOk_nil, sizeLine_eq, wipeE, gmul_r, gmul_l, gdiv, gmod, gmod', fdiv_pos, fmod_pos, grg, grg2, gsz, atI_pos, liftP, noRefL, noRef, na, ea, q]) rfl)
  rw [q] at ea
  obtain ⟨i, rfl, i1, i2⟩ := numB_iff.mp q
  obtain ⟨n, rfl⟩ := Int.eq_ofNat_of_zero_le (show 0 ≤ i by omega)
  refine ends_step (e := [some (.tup [.int n, wv]), none, none, none, none, none, none, none, none]) (h' := []) (by simp (disch := first | omega | (simp; done) | fail) [ir_is_land_0, semS, semE, semA, semN, semO, semI, exS, bnd, optM, pur, setTg, seqM, lsM, binM, binL, augM, biM, bnM, cmpM, cmpI, ltM, leM, inM, eqF, flatD, isM, Cl.isNon, truM, intM, idxM, slcM, lenM, lstAt, Cl.putAt, isaM, tyM, tyName, lsrcM, srcM, calmly, depOk_nil, sizeLine_eq, wipeE, gmul_r, gmul_l, gdiv, gmod, gmod', fdiv_pos, fmod_pos, grg, grg2, gsz, atI_pos, liftP, noRefL, noRef, ea]) ?_
  refine ends_step (e := [some (.tup [.int n, wv]), some (.int n), some wv, none, none, none, none, none, none]) (h' := []) (by simp (disch := first | omega | (simp; done) | fail) [ir_is_land_1, semS, semE, semA, semN, semO, semI, exS, bnd, optM, pur, setTg, seqM, lsM, binM, binL, augM, biM, bnM, cmpM, cmpI, ltM, leM, inM, eqF, flatD, isM, Cl.isNon, truM, intM, idxM, slcM, lenM, lstAt, Cl.putAt, isaM, tyM, tyName, lsrcM, srcM, calmly, depOk_nil, sizeLine_eq, wipeE, gmul_r, gmul_l, gdiv, gmod, gmod', fdiv_pos, fmod_pos, grg, grg2, gsz, atI_pos]) ?_
  rcases plD_cases hb with rfl | ⟨k, rfl⟩ | ⟨i, rfl⟩ | ⟨x, rfl⟩ | ⟨m2, wl, rfl, rfl, hl2, hx2⟩
  · rw [landB_false (by rintro ⟨n, ws, e, _⟩; cases e)]
    exact ends_seq (ends_rt (d := .bl false) (h := []) (by simp (disch := first | omega | (simp; done) | fail) [ir_is_land_2, semS, semE, semA, semN, semO, semI, exS, bnd, optM, pur, setTg, seqM, lsM, binM, binL, augM, biM, bnM, cmpM, cmpI, ltM, leM, inM, eqF, flatD, isM, Cl.isNon, truM, intM, idxM, slcM, lenM, lstAt, Cl.putAt, isaM, tyM, tyName, lsrcM, srcM, calmly, depOk_nil, sizeLine_eq, wipeE, gmul_r, gmul_l, gdiv, gmod, gmod', fdiv_pos, fmod_pos, grg, grg2, gsz, atI_pos]) rfl)
  · rw [landB_false (by rintro ⟨n, ws, e, _⟩; cases e)]
    exact ends_seq (ends_rt (d := .bl false) (h := []) (by simp (disch := first | omega | (simp; done) | fail) [ir_is_land_2, semS, semE, semA, semN, semO, semI, exS, bnd, optM, pur, setTg, seqM, lsM, binM, binL, augM, biM, bnM, cmpM, cmpI, ltM, leM, inM, eqF, flatD, isM, Cl.isNon, truM, intM, idxM, slcM, lenM, lstAt, Cl.putAt, isaM, tyM, tyName, lsrcM, srcM, calmly, depOk_nil, sizeLine_eq, wipeE, gmul_r, gmul_l, gdiv, gmod, gmod', fdiv_pos, fmod_pos, grg, grg2, gsz, atI_pos]) rfl)
  · rw [landB_false (by rintro ⟨n, ws, e, _⟩; cases e)]
    exact ends_seq (ends_rt (d := .bl false) (h := []) (by simp (disch := first | omega | (simp; done) | fail) [ir_is_land_2, semS, semE, semA, semN, semO, semI, exS, bnd, optM, pur, setTg, seqM, lsM, binM, binL, augM, biM, bnM, cmpM, cmpI, ltM, leM, inM, eqF, flatD, isM, Cl.isNon, truM, intM, idxM, slcM, lenM, lstAt, Cl.putAt, isaM, tyM, tyName, lsrcM, srcM, calmly, depOk_nil, sizeLine_eq, wipeE, gmul_r, gmul_l, gdiv, gmod, gmod', fdiv_pos, fmod_pos, grg, grg2, gsz, atI_pos]) rfl)
  · rw [landB_false (by rintro ⟨n, ws, e, _⟩; cases e)]
    exact ends_seq (ends_rt (d := .bl false) (h := []) (by simp (disch := first | omega | (simp; done) | fail) [ir_is_land_2, semS, semE, semA, semN, semO, semI, exS, bnd, optM, pur, setTg, seqM, lsM, binM, binL, augM, biM, bnM, cmpM, cmpI, ltM, leM, inM, eqF, flatD, isM, Cl.isNon, truM, intM, idxM, slcM, lenM, lstAt, Cl.putAt, isaM, tyM, tyName, lsrcM, srcM, calmly, depOk_nil, sizeLine_eq, wipeE, gmul_r, gmul_l, gdiv, gmod, gmod', fdiv_pos, fmod_pos, grg, grg2, gsz, atI_pos]) rfl)
  by_cases z20 : wl.length ≤ 20
  rotate_left
  · have zi : (20 : Int) < wl.length := by omega
    rw [landB_false (by
      rintro ⟨n, ws, e, hL⟩
      cases e
      have := hL.few
      simp at z20
      omega)]
    exact ends_seq (ends_rt (d := .bl false) (h := []) (by simp (disch := first | omega | (simp; done) | fail) [ir_is_land_2, semS, semE, semA, semN, semO, semI, exS, bnd, optM, pur, setTg, seqM, lsM, binM, binL, augM, biM, bnM, cmpM, cmpI, ltM, leM, inM, eqF, flatD, isM, Cl.isNon, truM, intM, idxM, slcM, lenM, lstAt, Cl.putAt, isaM, tyM, tyName, lsrcM, srcM, calmly, depOk_nil, sizeLine_eq, wipeE, gmul_r, gmul_l, gdiv, gmod, gmod', fdiv_pos, fmod_pos, grg, grg2, gsz, atI_pos, zi]) rfl)
  have zi : ¬ (20 : Int) < wl.length := by omega
  have k1 := comp_map (G := { tab := [liftP p_is_number, liftP p_is_way] }) (C := [.int 8, .int 20]) (own := [3]) (tg := .nm 3) (src := .var 2) (elt := .call 1 (.cons (.var 1) (.cons (.var 3) .nil))) (env := [some (.tup [.int n, .tup wl]), some (.int n), some (.tup wl), none, none, none, none, none, none]) (h := [])
    wl id (fun d => .bl (wayB n d)) (by simp (disch := first | omega | (simp; done) | fail) [semS, semE, semA, semN, semO, semI, exS, bnd, optM, pur, setTg, seqM, lsM, binM, binL, augM, biM, bnM, cmpM, cmpI, ltM, leM, inM, eqF, flatD, isM, Cl.isNon, truM, intM, idxM, slcM, lenM, lstAt, Cl.putAt, isaM, tyM, tyName, lsrcM, srcM, calmly, depOk_nil, sizeLine_eq, wipeE, gmul_r, gmul_l, gdiv, gmod, gmod', fdiv_pos, fmod_pos, grg, grg2, gsz, atI_pos]) (by omega) (fun d hd => by
      have hd' := hx2 d hd
      refine ⟨[some (.tup [.int n, .tup wl]), some (.int n), some (.tup wl), some d, none, none, none, none, none], by simp [semS, semE, semA, semN, semO, semI, exS, bnd, optM, pur, setTg, seqM, lsM, binM, binL, augM, biM, bnM, cmpM, cmpI, ltM, leM, inM, eqF, flatD, isM, Cl.isNon, truM, intM, idxM, slcM, lenM, lstAt, Cl.putAt, isaM, tyM, tyName, lsrcM, srcM, calmly, depOk_nil, sizeLine_eq, wipeE], ?_⟩
      simp (disch := first | omega | (simp; done) | fail) [semS, semE, semA, semN, semO, semI, exS, bnd, optM, pur, setTg, seqM, lsM, binM, binL, augM, biM, bnM, cmpM, cmpI, ltM, leM, inM, eqF, flatD, isM, Cl.isNon, truM, intM, idxM, slcM, lenM, lstAt, Cl.putAt, isaM, tyM, tyName, lsrcM, srcM, calmly, depOk_nil, sizeLine_eq, wipeE, gmul_r, gmul_l, gdiv, gmod, gmod', fdiv_pos, fmod_pos, grg, grg2, gsz, atI_pos, liftP, noRefL, noRef, plD_noRef hd', ev_is_way hd'])
  have kb := blsD_fun (fun d => wayB n d) wl
  have ka := all_id wl (fun d => wayB n d)
  by_cases q2 : wl.all (fun d => wayB n d) = true
  rotate_left
  · rw [Bool.not_eq_true] at q2
    rw [landB_false (by
      rintro ⟨n', ws, e, hL⟩
      simp only [encLand, encW, D.tup.injEq, List.cons.injEq, D.int.injEq, and_true] at e
      have e1 : n = n' := by omega
      subst e1
      have e2 : wl = encs ws := e.2
      have : wl.all (fun d => wayB n d) = true := by
        rw [List.all_eq_true, e2]
        exact wayB_of hL.lt
      rw [q2] at this
      cases this)]
    rw [q2] at ka
    exact ends_seq (ends_rt (d := .bl false) (h := []) (by simp (disch := first | omega | (simp; done) | fail) [ir_is_land_2, semS, semE, semA, semO, semI, exS, bnd, optM, pur, setTg, seqM, lsM, binM, binL, augM, biM, bnM, cmpM, cmpI, ltM, leM, inM, eqF, flatD, isM, Cl.isNon, truM, intM, idxM, slcM, lenM, lstAt, Cl.putAt, isaM, tyM, tyName, lsrcM, srcM, calmly, depOk_nil, sizeLine_eq, wipeE, gmul_r, gmul_l, gdiv, gmod, gmod', fdiv_pos, fmod_pos, grg, grg2, gsz, atI_pos, zi, k1, kb, ka]) rfl)
  rw [q2] at ka
  refine ends_step (e := [some (.tup [.int n, .tup wl]), some (.int n), some (.tup wl), none, none, none, none, none, none]) (h' := []) (by simp (disch := first | omega | (simp; done) | fail) [ir_is_land_2, semS, semE, semA, semO, semI, exS, bnd, optM, pur, setTg, seqM, lsM, binM, binL, augM, biM, bnM, cmpM, cmpI, ltM, leM, inM, eqF, flatD, isM, Cl.isNon, truM, intM, idxM, slcM, lenM, lstAt, Cl.putAt, isaM, tyM, tyName, lsrcM, srcM, calmly, depOk_nil, sizeLine_eq, wipeE, gmul_r, gmul_l, gdiv, gmod, gmod', fdiv_pos, fmod_pos, grg, grg2, gsz, atI_pos, zi, k1, kb, ka]) ?_
  obtain ⟨ws, rfl, hw⟩ := ways_of (n := n) (List.all_eq_true.mp q2)
  clear k1 kb ka q2
  have hlw : ws.length ≤ 20 := by simpa [encs] using z20
  have k2 := ev_asc (G := { tab := [liftP p_is_number, liftP p_is_way] }) (C := [.int 8, .int 20]) (env := [some (.tup [.int n, .tup (encs ws)]), some (.int n), some (.tup (encs ws)), none, none, none, none, none, none]) (h := []) (i := 2) (j := 4) (n := n) (ws := ws) (by decide) (by simp) rfl (by omega)
  have kb := blsD_fun (wlA ws) (List.range (ws.length - 1))
  have ka := all_id (List.range (ws.length - 1)) (wlA ws)
  have ka : ((List.range (ws.length - 1)).map (wlA ws)).all id = ascB ws := ka
  by_cases q3 : ascB ws = true
  rotate_left
  · rw [Bool.not_eq_true] at q3
    rw [landB_false (fun hL => by
      have := (landV_iff.mp hL).asc
      rw [q3] at this
      cases this)]
    rw [q3] at ka
    exact ends_seq (ends_rt (d := .bl false) (h := []) (by simp (disch := first | omega | (simp; done) | fail) [ir_is_land_3, semS, semE, semA, semO, semI, exS, bnd, optM, pur, setTg, seqM, lsM, binM, binL, augM, biM, bnM, cmpM, cmpI, ltM, leM, inM, eqF, flatD, isM, Cl.isNon, truM, intM, idxM, slcM, lenM, lstAt, Cl.putAt, isaM, tyM, tyName, lsrcM, srcM, calmly, depOk_nil, sizeLine_eq, wipeE, gmul_r, gmul_l, gdiv, gmod, gmod', fdiv_pos, fmod_pos, grg, grg2, gsz, atI_pos, k2, kb, ka]) rfl)
  rw [q3] at ka
  refine ends_step (e := [some (.tup [.int n, .tup (encs ws)]), some (.int n), some (.tup (encs ws)), none, none, none, none, none, none]) (h' := []) (by simp (disch := first | omega | (simp; done) | fail) [ir_is_land_3, semS, semE, semA, semO, semI, exS, bnd, optM, pur, setTg, seqM, lsM, binM, binL, augM, biM, bnM, cmpM, cmpI, ltM, leM, inM, eqF, flatD, isM, Cl.isNon, truM, intM, idxM, slcM, lenM, lstAt, Cl.putAt, isaM, tyM, tyName, lsrcM, srcM, calmly, depOk_nil, sizeLine_eq, wipeE, gmul_r, gmul_l, gdiv, gmod, gmod', fdiv_pos, fmod_pos, grg, grg2, gsz, atI_pos, k2, kb, ka]) ?_
  clear k2 kb ka
  have n1 : 1 ≤ n := by omega
  refine ends_step (e := [some (.tup [.int n, .tup (encs ws)]), some (.int n), some (.tup (encs ws)), none, none, some (.ref 0), some (.int 0), none, none]) (h' := [.lst (natsD [0])]) (by simp (disch := first | omega | (simp; done) | fail) [ir_is_land_4, semS, semE, semA, semN, semO, semI, exS, bnd, optM, pur, setTg, seqM, lsM, binM, binL, augM, biM, bnM, cmpM, cmpI, ltM, leM, inM, eqF, flatD, isM, Cl.isNon, truM, intM, idxM, slcM, lenM, lstAt, Cl.putAt, isaM, tyM, tyName, lsrcM, srcM, calmly, depOk_nil, sizeLine_eq, wipeE, gmul_r, gmul_l, gdiv, gmod, gmod', fdiv_pos, fmod_pos, grg, grg2, gsz, atI_pos, natsD]) ?_
  refine ends_seq ?_
  unfold ir_is_land_5
  refine ends_whl (fun _ _ => rfl) (fun m e h => ∃ (W : List Nat) (at' : Nat) (o7 o8 : Option D), m = n - at' ∧ at' ≤ W.length ∧ Grp n ws W ∧ (∀ k i, k < at' → W[k]? = some i → ∀ j, j < n → adj ws i j → j ∈ W) ∧ h = [.lst (natsD W)] ∧
    e = [some (.tup [.int n, .tup (encs ws)]), some (.int n), some (.tup (encs ws)), none, none, some (.ref 0), some (.int at'), o7, o8]) ?_ _ ⟨[0], 0, none, none, rfl, by simp, Grp.one n1, fun k i hk => by omega, rfl, rfl⟩
  rintro m e hh ⟨W, at', o7, o8, rfl, hat, hG, hC, rfl, rfl⟩
  have lW : (natsD W).length = W.length := by simp [natsD]
  by_cases q4 : at' < W.length
  · have qi : (at' : Int) < W.length := by omega
    refine .inr ⟨[.lst (natsD W)], by simp (disch := first | omega | (simp; done) | fail) [semS, semE, semA, semN, semO, semI, exS, bnd, optM, pur, setTg, seqM, lsM, binM, binL, augM, biM, bnM, cmpM, cmpI, ltM, leM, inM, eqF, flatD, isM, Cl.isNon, truM, intM, idxM, slcM, lenM, lstAt, Cl.putAt, isaM, tyM, tyName, lsrcM, srcM, calmly, depOk_nil, sizeLine_eq, wipeE, gmul_r, gmul_l, gdiv, gmod, gmod', fdiv_pos, fmod_pos, grg, grg2, gsz, atI_pos, lW, qi], ?_⟩
    refine Ends.toB ?_
    unfold ir_is_land_b0
    obtain ⟨i, hi, hi2⟩ : ∃ i, W[at']? = some i ∧ W[at'] = i := ⟨W[at'], List.getElem?_eq_getElem q4, rfl⟩
    have hiW := List.mem_of_getElem? hi
    have gi : (natsD W)[at']? = some (.int (i : Nat)) := by simp only [natsD, List.getElem?_map, hi, Option.map_some]
    have hle := hG.le
    refine ends_step (e := [some (.tup [.int n, .tup (encs ws)]), some (.int n), some (.tup (encs ws)), none, none, some (.ref 0), some (.int at'), some (.int i), o8]) (h' := [.lst (natsD W)]) (by simp (disch := first | omega | (simp; done) | fail) [semS, semE, semA, semN, semO, semI, exS, bnd, optM, pur, setTg, seqM, lsM, binM, binL, augM, biM, bnM, cmpM, cmpI, ltM, leM, inM, eqF, flatD, isM, Cl.isNon, truM, intM, idxM, slcM, lenM, lstAt, Cl.putAt, isaM, tyM, tyName, lsrcM, srcM, calmly, depOk_nil, sizeLine_eq, wipeE, gmul_r, gmul_l, gdiv, gmod, gmod', fdiv_pos, fmod_pos, grg, grg2, gsz, atI_pos, gi, hi2]) ?_
    have k3 := comp_filter (G := { tab := [liftP p_is_number, liftP p_is_way] }) (C := [.int 8, .int 20]) (own := [8]) (tg := .nm 8) (src := .rng1 (.var 1)) (ifs := .and (.cmp .NotIn (.var 8) (.var 5)) (.cmp .In (.tup (.cons (.bi .min2 (.cons (.var 7) (.cons (.var 8) .nil))) (.cons (.bi .max2 (.cons (.var 7) (.cons (.var 8) .nil))) .nil))) (.var 2))) (elt := .var 8)
      (env := [some (.tup [.int n, .tup (encs ws)]), some (.int n), some (.tup (encs ws)), none, none, some (.ref 0), some (.int at'), some (.int i), o8]) (h := [.lst (natsD W)])
      (List.range n) (fun j : Nat => D.int (0 + (j : Int))) (fun j => decide (j ∉ W) && decide ((min i j, max i j) ∈ ws)) (fun j => D.int (j : Nat)) (by simp (disch := first | omega | (simp; done) | fail) [semS, semE, semA, semN, semO, semI, exS, bnd, optM, pur, setTg, seqM, lsM, binM, binL, augM, biM, bnM, cmpM, cmpI, ltM, leM, inM, eqF, flatD, isM, Cl.isNon, truM, intM, idxM, slcM, lenM, lstAt, Cl.putAt, isaM, tyM, tyName, lsrcM, srcM, calmly, depOk_nil, sizeLine_eq, wipeE, gmul_r, gmul_l, gdiv, gmod, gmod', fdiv_pos, fmod_pos, grg, grg2, gsz, atI_pos, rangeD_eq]) (by simp; omega) (by simp) (fun j hj => by
        refine ⟨[some (.tup [.int n, .tup (encs ws)]), some (.int n), some (.tup (encs ws)), none, none, some (.ref 0), some (.int at'), some (.int i), some (.int j)], by simp [semS, semE, semA, semN, semO, semI, exS, bnd, optM, pur, setTg, seqM, lsM, binM, binL, augM, biM, bnM, cmpM, cmpI, ltM, leM, inM, eqF, flatD, isM, Cl.isNon, truM, intM, idxM, slcM, lenM, lstAt, Cl.putAt, isaM, tyM, tyName, lsrcM, srcM, calmly, depOk_nil, sizeLine_eq, wipeE], ⟨.bl (decide (j ∉ W) && decide ((min i j, max i j) ∈ ws)), ?_, by simp [semS, semE, semA, semN, semO, semI, exS, bnd, optM, pur, setTg, seqM, lsM, binM, binL, augM, biM, bnM, cmpM, cmpI, ltM, leM, inM, eqF, flatD, isM, Cl.isNon, truM, intM, idxM, slcM, lenM, lstAt, Cl.putAt, isaM, tyM, tyName, lsrcM, srcM, calmly, depOk_nil, sizeLine_eq, wipeE]⟩, fun _ => by simp [semS, semE, semA, semN, semO, semI, exS, bnd, optM, pur, setTg, seqM, lsM, binM, binL, augM, biM, bnM, cmpM, cmpI, ltM, leM, inM, eqF, flatD, isM, Cl.isNon, truM, intM, idxM, slcM, lenM, lstAt, Cl.putAt, isaM, tyM, tyName, lsrcM, srcM, calmly, depOk_nil, sizeLine_eq, wipeE]⟩
        have mn : (if (j : Int) < i then (j : Int) else i) = (min i j : Nat) := by split <;> omega
        have mx : (if (j : Int) > i then (j : Int) else i) = (max i j : Nat) := by split <;> omega
        have iw := in_ways ws (min i j) (max i j) [.lst (natsD W)]
        have im : inM (.int j) (.ref 0) [.lst (natsD W)] = .ok (decide (j ∈ W)) [.lst (natsD W)] := by
          have := any_nats W j
          have f := flat_nats W
          simp only [inM, List.getElem?_cons_zero, flatD, f, and_self, if_true, this]
        simp only [semE, semA, biM, bnd, optM, pur, cmpM, truM, List.getElem?_cons_succ, List.getElem?_cons_zero, Option.bind_some, id, im, mn, mx]
        by_cases y : j ∈ W
        · simp [y, pur]
        · have mn2 : (if j < i then (j : Int) else i) = (min i j : Nat) := by split <;> omega
          have mx2 : (if i < j then (j : Int) else i) = (max i j : Nat) := by split <;> omega
          simp (disch := first | omega | (simp; done) | fail) [y, gmul_r, gmul_l, gdiv, gmod, gmod', fdiv_pos, fmod_pos, grg, grg2, gsz, atI_pos, pur, mn2, mx2]
          simp only [iw, bnd, pur])
    generalize hF : (List.range n).filter (fun j => decide (j ∉ W) && decide ((min i j, max i j) ∈ ws)) = F at k3
    have hG2 := hG.ext hiW
    rw [hF] at hG2
    have k3 : semN _ _ _ _ _ = .ok (natsD F) _ := k3
    have lF := hG2.le
    rw [List.length_append] at lF
    have gF : (natsD W).length + (natsD F).length ≤ 16777216 := by simp [natsD]; omega
    have na2 : natsD W ++ natsD F = natsD (W ++ F) := by simp [natsD]
    refine ends_step (e := [some (.tup [.int n, .tup (encs ws)]), some (.int n), some (.tup (encs ws)), none, none, some (.ref 0), some (.int at'), some (.int i), o8]) (h' := [.lst (natsD (W ++ F))]) (by
      have k4 : semE { tab := [liftP p_is_number, liftP p_is_way] } [.int 8, .int 20] (.comp [8] (.nm 8) (.rng1 (.var 1)) (.and (.cmp .NotIn (.var 8) (.var 5)) (.cmp .In (.tup (.cons (.bi .min2 (.cons (.var 7) (.cons (.var 8) .nil))) (.cons (.bi .max2 (.cons (.var 7) (.cons (.var 8) .nil))) .nil))) (.var 2))) (.var 8)) [some (.tup [.int n, .tup (encs ws)]), some (.int n), some (.tup (encs ws)), none, none, some (.ref 0), some (.int at'), some (.int i), o8] [.lst (natsD W)] = .ok (.fl (natsD F)) [.lst (natsD W)] := by
        simp only [semE, bnd, k3, pur]
      have gx := sem_ext (G := { tab := [liftP p_is_number, liftP p_is_way] }) (C := [.int 8, .int 20]) (i := 5) (r := 0) (xs := natsD W) (hc := [.lst (natsD W)]) rfl rfl k4 gF
      rw [gx, na2]
      rfl) ?_
    refine ends_step (e := [some (.tup [.int n, .tup (encs ws)]), some (.int n), some (.tup (encs ws)), none, none, some (.ref 0), some (.int (at' + 1 : Nat)), some (.int i), o8]) (h' := [.lst (natsD (W ++ F))]) (by
      simp (disch := first | omega | (simp; done) | fail) [semS, semE, semA, semN, semO, semI, exS, bnd, optM, pur, setTg, seqM, lsM, binM, binL, augM, biM, bnM, cmpM, cmpI, ltM, leM, inM, eqF, flatD, isM, Cl.isNon, truM, intM, idxM, slcM, lenM, lstAt, Cl.putAt, isaM, tyM, tyName, lsrcM, srcM, calmly, depOk_nil, sizeLine_eq, wipeE, gmul_r, gmul_l, gdiv, gmod, gmod', fdiv_pos, fmod_pos, grg, grg2, gsz, atI_pos]) ?_
    refine ends_nop ⟨n - (at' + 1), by omega, W ++ F, at' + 1, _, _, rfl, by rw [List.length_append]; omega, hG2, fun k i' hk hi' j hj ha => ?_, rfl, rfl⟩
    rw [List.getElem?_append_left (by omega)] at hi'
    rcases Nat.lt_or_ge k at' with y | y
    · exact List.mem_append_left _ (hC k i' y hi' j hj ha)
    · obtain rfl : k = at' := by omega
      rw [hi] at hi'
      cases hi'
      by_cases y : j ∈ W
      · exact List.mem_append_left _ y
      · refine List.mem_append_right _ ?_
        rw [← hF, List.mem_filter, List.mem_range]
        have ha : (min i j, max i j) ∈ ws := ha
        exact ⟨hj, by simp [y, ha]⟩
  · have qi : ¬ (at' : Int) < W.length := by omega
    refine .inl ⟨[.lst (natsD W)], by simp (disch := first | omega | (simp; done) | fail) [semS, semE, semA, semN, semO, semI, exS, bnd, optM, pur, setTg, seqM, lsM, binM, binL, augM, biM, bnM, cmpM, cmpI, ltM, leM, inM, eqF, flatD, isM, Cl.isNon, truM, intM, idxM, slcM, lenM, lstAt, Cl.putAt, isaM, tyM, tyName, lsrcM, srcM, calmly, depOk_nil, sizeLine_eq, wipeE, gmul_r, gmul_l, gdiv, gmod, gmod', fdiv_pos, fmod_pos, grg, grg2, gsz, atI_pos, lW, qi], ?_⟩
    obtain rfl : at' = W.length := by omega
    have hc : Closed n ws W := fun i hi j hj ha => by
      obtain ⟨k, hk, e⟩ := List.getElem_of_mem hi
      exact hC k i hk (by rw [List.getElem?_eq_getElem hk, e]) j hj ha
    have hf := hG.full hw hc
    have eb : landB (.tup [.int n, .tup (encs ws)]) = decide (W.length = n) := by
      by_cases y : W.length = n
      · rw [decide_eq_true y]
        unfold landB
        exact @decide_eq_true _ (Classical.propDecidable _) (landV_iff.mpr ⟨n1, by omega, hlw, hw, q3, hf.mp y⟩)
      · rw [decide_eq_false y]
        exact landB_false fun hL => y (hf.mpr (landV_iff.mp hL).conn)
    rw [eb]
    refine ends_seq (ends_rt (d := .bl (decide (W.length = n))) (h := [.lst (natsD W)]) ?_ rfl)
    by_cases y : W.length = n
    · have yi : (W.length : Int) = n := by omega
      simp (disch := first | omega | (simp; done) | fail) [ir_is_land_6, semS, semE, semA, semN, semO, semI, exS, bnd, optM, pur, setTg, seqM, lsM, binM, binL, augM, biM, bnM, cmpM, cmpI, ltM, leM, inM, eqF, flatD, isM, Cl.isNon, truM, intM, idxM, slcM, lenM, lstAt, Cl.putAt, isaM, tyM, tyName, lsrcM, srcM, calmly, depOk_nil, sizeLine_eq, wipeE, gmul_r, gmul_l, gdiv, gmod, gmod', fdiv_pos, fmod_pos, grg, grg2, gsz, atI_pos, lW, yi, y]
    · have yi : ¬ (W.length : Int) = n := by omega
      simp (disch := first | omega | (simp; done) | fail) [ir_is_land_6, semS, semE, semA, semN, semO, semI, exS, bnd, optM, pur, setTg, seqM, lsM, binM, binL, augM, biM, bnM, cmpM, cmpI, ltM, leM, inM, eqF, flatD, isM, Cl.isNon, truM, intM, idxM, slcM, lenM, lstAt, Cl.putAt, isaM, tyM, tyName, lsrcM, srcM, calmly, depOk_nil, sizeLine_eq, wipeE, gmul_r, gmul_l, gdiv, gmod, gmod', fdiv_pos, fmod_pos, grg, grg2, gsz, atI_pos, lW, yi, y]
end Cl
namespace Cl
open PySem PySem.Spec PyProof.Rows L2 Mth
def ir_dot_0 : S := (.ret (.bi .sum (.cons (.comp [2, 3] (.tp [2, 3]) (.zip (.var 0) (.var 1)) .nil (.bin .Mult (.var 2) (.var 3))) .nil)))
def ir_dot : S := (.seq ir_dot_0 .nop)
def ir_times_row_0 : S := (.ret (.bi .tuple (.cons (.comp [2] (.nm 2) (.var 0) .nil (.call 0 (.cons (.var 2) (.cons (.var 1) .nil)))) .nil)))
def ir_times_row : S := (.seq ir_times_row_0 .nop)
def ir_fired_0 : S := (.ret (.bi .tuple (.cons (.comp [3, 4] (.tp [3, 4]) (.zip (.var 1) (.call 0 (.cons (.call 1 (.cons (.var 0) .nil)) (.cons (.var 2) .nil)))) .nil (.bin .Sub (.var 3) (.var 4))) .nil)))
def ir_fired : S := (.seq ir_fired_0 .nop)
noncomputable def p_dot : List D → PR := fun ds => pureOf (runF (semS { tab := [] } [] ir_dot) 2 4 ds [])
noncomputable def p_times_row : List D → PR := fun ds => pureOf (runF (semS { tab := [(liftP p_dot)] } [] ir_times_row) 2 3 ds [])
noncomputable def p_fired : List D → PR := fun ds => pureOf (runF (semS { tab := [(liftP p_times_row), (liftP p_fire_table)] } [] ir_fired) 3 5 ds [])

theorem zip_rows0 (n : Nat) (f g : Nat → Int) : (rowD n f).zip (rowD n g) = (List.range n).map fun j => (D.int (f j), D.int (g j)) := by
  unfold rowD
  apply List.ext_getElem?
  intro k
  by_cases h : k < n <;> simp [h]
theorem ev_dot {n : Nat} {f g : Nat → Int} {a b : D} (hn : n ≤ 10000) (ha : a = .tup (rowD n f)) (hb : b = .tup (rowD n g)) (hf : ∀ j, j < n → MulOk (f j) (g j)) :
    p_dot [a, b] = .ok (.int ((List.range n).map fun j => f j * g j).sum) := by
  refine p_ends [some a, some b, none, none] ?_
  unfold ir_dot
  have k := comp_map (G := { tab := [] }) (C := []) (own := [2, 3]) (tg := .tp [2, 3]) (src := .zip (.var 0) (.var 1)) (elt := .bin .Mult (.var 2) (.var 3)) (env := [some a, some b, none, none]) (h := [])
    (List.range n) (fun j => D.tup [.int (f j), .int (g j)]) (fun j => D.int (f j * g j)) (by
      have z := zip_rows0 n f g
      subst ha; subst hb; simp (disch := first | omega | (simp; done) | fail) [semS, semE, semA, semN, semO, semI, exS, bnd, optM, pur, setTg, seqM, lsM, binM, binL, augM, biM, bnM, cmpM, cmpI, ltM, leM, inM, eqF, flatD, isM, Cl.isNon, truM, intM, idxM, slcM, lenM, lstAt, Cl.putAt, isaM, tyM, tyName, lsrcM, srcM, calmly, depOk_nil, sizeLine_eq, wipeE, gmul_r, gmul_l, gdiv, gmod, gmod', fdiv_pos, fmod_pos, grg, grg2, gsz, atI_pos, pairM, z]) (by simp; omega) (fun j hj => by
      rw [List.mem_range] at hj
      exact ⟨[some a, some b, some (.int (f j)), some (.int (g j))], by simp (disch := first | omega | (simp; done) | fail) [semS, semE, semA, semN, semO, semI, exS, bnd, optM, pur, setTg, seqM, lsM, binM, binL, augM, biM, bnM, cmpM, cmpI, ltM, leM, inM, eqF, flatD, isM, Cl.isNon, truM, intM, idxM, slcM, lenM, lstAt, Cl.putAt, isaM, tyM, tyName, lsrcM, srcM, calmly, depOk_nil, sizeLine_eq, wipeE, gmul_r, gmul_l, gdiv, gmod, gmod', fdiv_pos, fmod_pos, grg, grg2, gsz, atI_pos, gle], by simp (disch := first | omega | (simp; done) | fail) [semS, semE, semA, semN, semO, semI, exS, bnd, optM, pur, setTg, seqM, lsM, binM, binL, augM, biM, bnM, cmpM, cmpI, ltM, leM, inM, eqF, flatD, isM, Cl.isNon, truM, intM, idxM, slcM, lenM, lstAt, Cl.putAt, isaM, tyM, tyName, lsrcM, srcM, calmly, depOk_nil, sizeLine_eq, wipeE, gle (hf j hj)]⟩)
  have k : _ = Res.ok (rowD n fun j => f j * g j) _ := k
  have i1 := intsD_row n fun j => f j * g j
  exact ends_seq (ends_rt (d := .int ((List.range n).map fun j => f j * g j).sum) (h := []) (by simp (disch := first | omega | (simp; done) | fail) [ir_dot_0, semS, semE, semA, semO, semI, exS, bnd, optM, pur, setTg, seqM, lsM, binM, binL, augM, biM, bnM, cmpM, cmpI, ltM, leM, inM, eqF, flatD, isM, Cl.isNon, truM, intM, idxM, slcM, lenM, lstAt, Cl.putAt, isaM, tyM, tyName, lsrcM, srcM, calmly, depOk_nil, sizeLine_eq, wipeE, gmul_r, gmul_l, gdiv, gmod, gmod', fdiv_pos, fmod_pos, grg, grg2, gsz, atI_pos, k, i1]) rfl)
theorem ev_times_row {m n : Nat} {F : Nat → Nat → Int} {y : Nat → Int} {b : D} (hn : n ≤ 10000) (hm : m ≤ 10000) (hb : b = .tup (rowD n y)) (hf : ∀ i j, i < m → j < n → MulOk (F i j) (y j)) :
    p_times_row [.tup ((List.range m).map fun i => D.tup (rowD n (F i))), b] = .ok (.tup (rowD m fun i => ((List.range n).map fun j => F i j * y j).sum)) := by
  have nb : noRef b = true := by subst hb; simp [noRef]
  refine p_ends [some (.tup ((List.range m).map fun i => D.tup (rowD n (F i)))), some b, none] ?_ (noRef_rowD _ _)
  unfold ir_times_row
  have k := comp_map (G := { tab := [liftP p_dot] }) (C := []) (own := [2]) (tg := .nm 2) (src := .var 0) (elt := .call 0 (.cons (.var 2) (.cons (.var 1) .nil))) (env := [some (.tup ((List.range m).map fun i => D.tup (rowD n (F i)))), some b, none]) (h := [])
    (List.range m) (fun i => D.tup (rowD n (F i))) (fun i => D.int ((List.range n).map fun j => F i j * y j).sum) (by simp (disch := first | omega | (simp; done) | fail) [semS, semE, semA, semN, semO, semI, exS, bnd, optM, pur, setTg, seqM, lsM, binM, binL, augM, biM, bnM, cmpM, cmpI, ltM, leM, inM, eqF, flatD, isM, Cl.isNon, truM, intM, idxM, slcM, lenM, lstAt, Cl.putAt, isaM, tyM, tyName, lsrcM, srcM, calmly, depOk_nil, sizeLine_eq, wipeE, gmul_r, gmul_l, gdiv, gmod, gmod', fdiv_pos, fmod_pos, grg, grg2, gsz, atI_pos]) (by simp; omega) (fun i hi => by
      rw [List.mem_range] at hi
      have e := ev_dot (f := F i) (g := y) hn rfl hb (fun j hj => hf i j hi hj)
      exact ⟨[some (.tup ((List.range m).map fun i => D.tup (rowD n (F i)))), some b, some (.tup (rowD n (F i)))], by simp [semS, semE, semA, semN, semO, semI, exS, bnd, optM, pur, setTg, seqM, lsM, binM, binL, augM, biM, bnM, cmpM, cmpI, ltM, leM, inM, eqF, flatD, isM, Cl.isNon, truM, intM, idxM, slcM, lenM, lstAt, Cl.putAt, isaM, tyM, tyName, lsrcM, srcM, calmly, depOk_nil, sizeLine_eq, wipeE], by simp (disch := first | omega | (simp; done) | fail) [semS, semE, semA, semN, semO, semI, exS, bnd, optM, pur, setTg, seqM, lsM, binM, binL, augM, biM, bnM, cmpM, cmpI, ltM, leM, inM, eqF, flatD, isM, Cl.isNon, truM, intM, idxM, slcM, lenM, lstAt, Cl.putAt, isaM, tyM, tyName, lsrcM, srcM, calmly, depOk_nil, sizeLine_eq, wipeE, gmul_r, gmul_l, gdiv, gmod, gmod', fdiv_pos, fmod_pos, grg, grg2, gsz, atI_pos, liftP, noRefL, noRef, nb, e]⟩)
  have k : _ = Res.ok (rowD m fun i => ((List.range n).map fun j => F i j * y j).sum) _ := k
  exact ends_seq (ends_rt (d := .tup (rowD m fun i => ((List.range n).map fun j => F i j * y j).sum)) (h := []) (by simp (disch := first | omega | (simp; done) | fail) [ir_times_row_0, semS, semE, semA, semO, semI, exS, bnd, optM, pur, setTg, seqM, lsM, binM, binL, augM, biM, bnM, cmpM, cmpI, ltM, leM, inM, eqF, flatD, isM, Cl.isNon, truM, intM, idxM, slcM, lenM, lstAt, Cl.putAt, isaM, tyM, tyName, lsrcM, srcM, calmly, depOk_nil, sizeLine_eq, wipeE, gmul_r, gmul_l, gdiv, gmod, gmod', fdiv_pos, fmod_pos, grg, grg2, gsz, atI_pos, k]) rfl)
theorem ent_sum {n i : Nat} {p : Nat × Nat} (h : p.1 < p.2 ∧ p.2 < n) (y : Nat → Int) : ((List.range n).map fun j => ent p i j * y j).sum = tk y i p := by
  have e : (List.range n).map (fun j => ent p i j * y j) = (List.range n).map fun j => (if p.1 = j then ((if p.1 = i then 1 else 0) - (if p.2 = i then 1 else 0)) * y p.1 else 0) + (if p.2 = j then ((if p.2 = i then 1 else 0) - (if p.1 = i then 1 else 0)) * y p.2 else 0) := by
    refine List.map_congr_left fun j _ => ?_
    unfold ent
    by_cases a : p.1 = j
    · have b : ¬ p.2 = j := by omega
      subst a
      by_cases c : p.1 = i
      · have d : ¬ p.2 = i := by omega
        simp [b, c, d]
      · have c2 : ¬ i = p.1 := fun z => c z.symm
        by_cases d : p.2 = i <;> simp [b, c, c2, d]
    · by_cases b : p.2 = j
      · subst b
        by_cases c : p.1 = i
        · have d : ¬ p.2 = i := by omega
          have d2 : ¬ i = p.2 := by omega
          simp [a, c, d, d2]
        · by_cases d : p.2 = i <;> simp [a, c, d]
      · simp [a, b]
  rw [e, sum_add, sum_one, sum_one, if_pos (by omega), if_pos h.2]
  unfold tk
  by_cases c : p.1 = i
  · have d : ¬ p.2 = i := by omega
    simp [c, d]; omega
  · by_cases d : p.2 = i <;> simp [c, d]; omega
theorem tab_LL {n : Nat} (y : Nat → Int) (i : Nat) : ∀ {ws : Ways} (_ : ∀ p ∈ ws, p.1 < p.2 ∧ p.2 < n), ((List.range n).map fun j => tabF ws i j * y j).sum = LL ws y i
  | [], _ => by
    have : ∀ l : List Nat, (l.map fun j => tabF [] i j * y j).sum = 0 := fun l => by
      induction l with
      | nil => rfl
      | cons a l ih => rw [List.map_cons, List.sum_cons, ih]; simp [tabF]
    exact this _
  | p :: ws, h => by
    have ih := tab_LL y i fun q hq => h q (List.mem_cons_of_mem _ hq)
    have e : (List.range n).map (fun j => tabF (p :: ws) i j * y j) = (List.range n).map fun j => ent p i j * y j + tabF ws i j * y j := List.map_congr_left fun j _ => by rw [tabF_cons, Int.add_mul]
    rw [e, sum_add, ih, ent_sum (h p List.mem_cons_self), LL_cons]
theorem ev_fired {n : Nat} {ws : Ways} {c y : Nat → Int} {b : D} (hn : n ≤ 1000) (hw : ∀ p ∈ ws, p.1 < p.2 ∧ p.2 < n) (hl : ws.length ≤ 10000) (hb : b = .tup (rowD n y)) :
    p_fired [encLand n ws, .tup (rowD n c), b] = .ok (.tup (rowD n fun v => c v - LL ws y v)) := by
  have nb : noRef b = true := by subst hb; simp [noRef]
  have e1 := ev_fire hn hw hl
  have e2 := ev_times_row (m := n) (n := n) (F := tabF ws) (y := y) (b := b) (by omega) (by omega) hb (fun i j _ _ => .inl (.inl (by have := tab_bound ws i j; omega)))
  have q : (rowD n fun i => ((List.range n).map fun j => tabF ws i j * y j).sum) = rowD n fun v => LL ws y v := rowD_congr fun i _ => tab_LL y i hw
  rw [q] at e2
  have e2 : p_times_row [.tup (tabD n (tabF ws)), b] = _ := e2
  refine p_ends [some (encLand n ws), some (.tup (rowD n c)), some b, none, none] ?_ (noRef_rowD _ _)
  unfold ir_fired
  have k := comp_map (G := { tab := [liftP p_times_row, liftP p_fire_table] }) (C := []) (own := [3, 4]) (tg := .tp [3, 4]) (src := .zip (.var 1) (.call 0 (.cons (.call 1 (.cons (.var 0) .nil)) (.cons (.var 2) .nil)))) (elt := .bin .Sub (.var 3) (.var 4)) (env := [some (encLand n ws), some (.tup (rowD n c)), some b, none, none]) (h := [])
    (List.range n) (fun j => D.tup [.int (c j), .int (LL ws y j)]) (fun j => D.int (c j - LL ws y j)) (by
      have z := zip_rows0 n c (LL ws y)
      have z : (rowD n c).zip (rowD n fun v => LL ws y v) = _ := z
      simp (disch := first | omega | (simp; done) | fail) [semS, semE, semA, semN, semO, semI, exS, bnd, optM, pur, setTg, seqM, lsM, binM, binL, augM, biM, bnM, cmpM, cmpI, ltM, leM, inM, eqF, flatD, isM, Cl.isNon, truM, intM, idxM, slcM, lenM, lstAt, Cl.putAt, isaM, tyM, tyName, lsrcM, srcM, calmly, depOk_nil, sizeLine_eq, wipeE, gmul_r, gmul_l, gdiv, gmod, gmod', fdiv_pos, fmod_pos, grg, grg2, gsz, atI_pos, pairM, z, liftP, noRefL, noRef, noRef_land, noRef_encW, nb, e1, e2]) (by simp; omega) (fun j hj => by
      exact ⟨[some (encLand n ws), some (.tup (rowD n c)), some b, some (.int (c j)), some (.int (LL ws y j))], by simp (disch := first | omega | (simp; done) | fail) [semS, semE, semA, semN, semO, semI, exS, bnd, optM, pur, setTg, seqM, lsM, binM, binL, augM, biM, bnM, cmpM, cmpI, ltM, leM, inM, eqF, flatD, isM, Cl.isNon, truM, intM, idxM, slcM, lenM, lstAt, Cl.putAt, isaM, tyM, tyName, lsrcM, srcM, calmly, depOk_nil, sizeLine_eq, wipeE, gmul_r, gmul_l, gdiv, gmod, gmod', fdiv_pos, fmod_pos, grg, grg2, gsz, atI_pos, gle], by simp (disch := first | omega | (simp; done) | fail) [semS, semE, semA, semN, semO, semI, exS, bnd, optM, pur, setTg, seqM, lsM, binM, binL, augM, biM, bnM, cmpM, cmpI, ltM, leM, inM, eqF, flatD, isM, Cl.isNon, truM, intM, idxM, slcM, lenM, lstAt, Cl.putAt, isaM, tyM, tyName, lsrcM, srcM, calmly, depOk_nil, sizeLine_eq, wipeE, gmul_r, gmul_l, gdiv, gmod, gmod', fdiv_pos, fmod_pos, grg, grg2, gsz, atI_pos]⟩)
  have k : _ = Res.ok (rowD n fun v => c v - LL ws y v) _ := k
  exact ends_seq (ends_rt (d := .tup (rowD n fun v => c v - LL ws y v)) (h := []) (by simp (disch := first | omega | (simp; done) | fail) [ir_fired_0, semS, semE, semA, semO, semI, exS, bnd, optM, pur, setTg, seqM, lsM, binM, binL, augM, biM, bnM, cmpM, cmpI, ltM, leM, inM, eqF, flatD, isM, Cl.isNon, truM, intM, idxM, slcM, lenM, lstAt, Cl.putAt, isaM, tyM, tyName, lsrcM, srcM, calmly, depOk_nil, sizeLine_eq, wipeE, gmul_r, gmul_l, gdiv, gmod, gmod', fdiv_pos, fmod_pos, grg, grg2, gsz, atI_pos, k]) rfl)
end Cl

namespace K58
open PySem PySem.Spec PyProof.Rows L2 Cl
def ck_is_whole : Ck := { N := ["value"], fs := [], gs := [] }
abbrev st_is_whole : Stmt := PySem.Challenge.pw_wholeanswers_k58_lands_and_firing.main.body.getD 1 (.Pass ⟨0, 0, 0, 0⟩)
theorem ok_is_whole : chkB chkAll ck_is_whole ir_is_whole (defScope st_is_whole) (defBody st_is_whole) = true := by decide +kernel
theorem sc_is_whole : FnScope ck_is_whole.N ["value"] (defScope st_is_whole) := ⟨rfl, rfl, rfl, by decide +kernel, rfl, by decide +kernel, by decide +kernel⟩
def ck_is_number : Ck := { N := ["value", "least", "most"], fs := ["is_whole"], gs := [] }
abbrev st_is_number : Stmt := PySem.Challenge.pw_wholeanswers_k58_lands_and_firing.main.body.getD 2 (.Pass ⟨0, 0, 0, 0⟩)
theorem ok_is_number : chkB chkAll ck_is_number ir_is_number (defScope st_is_number) (defBody st_is_number) = true := by decide +kernel
theorem sc_is_number : FnScope ck_is_number.N ["value", "least", "most"] (defScope st_is_number) := ⟨rfl, rfl, rfl, by decide +kernel, rfl, by decide +kernel, by decide +kernel⟩
def ck_dot : Ck := { N := ["one", "other", "a", "b"], fs := [], gs := [] }
abbrev st_dot : Stmt := PySem.Challenge.pw_wholeanswers_k58_lands_and_firing.main.body.getD 4 (.Pass ⟨0, 0, 0, 0⟩)
theorem ok_dot : chkB chkAll ck_dot ir_dot (defScope st_dot) (defBody st_dot) = true := by decide +kernel
theorem sc_dot : FnScope ck_dot.N ["one", "other"] (defScope st_dot) := ⟨rfl, rfl, rfl, by decide +kernel, rfl, by decide +kernel, by decide +kernel⟩
def ck_times_row : Ck := { N := ["table", "row", "one"], fs := ["dot"], gs := [] }
abbrev st_times_row : Stmt := PySem.Challenge.pw_wholeanswers_k58_lands_and_firing.main.body.getD 5 (.Pass ⟨0, 0, 0, 0⟩)
theorem ok_times_row : chkB chkAll ck_times_row ir_times_row (defScope st_times_row) (defBody st_times_row) = true := by decide +kernel
theorem sc_times_row : FnScope ck_times_row.N ["table", "row"] (defScope st_times_row) := ⟨rfl, rfl, rfl, by decide +kernel, rfl, by decide +kernel, by decide +kernel⟩
def ck_is_way : Ck := { N := ["n", "value", "i"], fs := ["is_number"], gs := [] }
abbrev st_is_way : Stmt := PySem.Challenge.pw_wholeanswers_k58_lands_and_firing.main.body.getD 9 (.Pass ⟨0, 0, 0, 0⟩)
theorem ok_is_way : chkB chkAll ck_is_way ir_is_way (defScope st_is_way) (defBody st_is_way) = true := by decide +kernel
theorem sc_is_way : FnScope ck_is_way.N ["n", "value"] (defScope st_is_way) := ⟨rfl, rfl, rfl, by decide +kernel, rfl, by decide +kernel, by decide +kernel⟩
def ck_is_land : Ck := { N := ["value", "n", "ways", "way", "k", "group", "at", "i", "j"], fs := ["is_number", "is_way"], gs := ["MAX_PLACES", "MAX_WAYS"] }
abbrev st_is_land : Stmt := PySem.Challenge.pw_wholeanswers_k58_lands_and_firing.main.body.getD 10 (.Pass ⟨0, 0, 0, 0⟩)
theorem ok_is_land : chkB chkAll ck_is_land ir_is_land (defScope st_is_land) (defBody st_is_land) = true := by decide +kernel
theorem sc_is_land : FnScope ck_is_land.N ["value"] (defScope st_is_land) := ⟨rfl, rfl, rfl, by decide +kernel, rfl, by decide +kernel, by decide +kernel⟩
def ck_fire_table : Ck := { N := ["land", "n", "ways", "_", "rows", "i", "j", "row"], fs := [], gs := [] }
abbrev st_fire_table : Stmt := PySem.Challenge.pw_wholeanswers_k58_lands_and_firing.main.body.getD 11 (.Pass ⟨0, 0, 0, 0⟩)
theorem ok_fire_table : chkB chkAll ck_fire_table ir_fire_table (defScope st_fire_table) (defBody st_fire_table) = true := by decide +kernel
theorem sc_fire_table : FnScope ck_fire_table.N ["land"] (defScope st_fire_table) := ⟨rfl, rfl, rfl, by decide +kernel, rfl, by decide +kernel, by decide +kernel⟩
def ck_degrees : Ck := { N := ["land", "table", "i"], fs := ["fire_table"], gs := [] }
abbrev st_degrees : Stmt := PySem.Challenge.pw_wholeanswers_k58_lands_and_firing.main.body.getD 12 (.Pass ⟨0, 0, 0, 0⟩)
theorem ok_degrees : chkB chkAll ck_degrees ir_degrees (defScope st_degrees) (defBody st_degrees) = true := by decide +kernel
theorem sc_degrees : FnScope ck_degrees.N ["land"] (defScope st_degrees) := ⟨rfl, rfl, rfl, by decide +kernel, rfl, by decide +kernel, by decide +kernel⟩
def ck_fired : Ck := { N := ["land", "setting", "counts", "a", "b"], fs := ["times_row", "fire_table"], gs := [] }
abbrev st_fired : Stmt := PySem.Challenge.pw_wholeanswers_k58_lands_and_firing.main.body.getD 13 (.Pass ⟨0, 0, 0, 0⟩)
theorem ok_fired : chkB chkAll ck_fired ir_fired (defScope st_fired) (defBody st_fired) = true := by decide +kernel
theorem sc_fired : FnScope ck_fired.N ["land", "setting", "counts"] (defScope st_fired) := ⟨rfl, rfl, rfl, by decide +kernel, rfl, by decide +kernel, by decide +kernel⟩
def ck_law_box : Ck := { N := ["script"], fs := [], gs := [] }
abbrev st_law_box : Stmt := PySem.Challenge.pw_wholeanswers_k58_lands_and_firing.main.body.getD 15 (.Pass ⟨0, 0, 0, 0⟩)
theorem ok_law_box : chkB chkAll ck_law_box ir_law_box (defScope st_law_box) (defBody st_law_box) = true := by decide +kernel
theorem sc_law_box : FnScope ck_law_box.N ["script"] (defScope st_law_box) := ⟨rfl, rfl, rfl, by decide +kernel, rfl, by decide +kernel, by decide +kernel⟩
def ck_law_load : Ck := { N := ["box", "cells", "cell", "size", "first", "second"], fs := [], gs := [] }
abbrev st_law_load : Stmt := PySem.Challenge.pw_wholeanswers_k58_lands_and_firing.main.body.getD 16 (.Pass ⟨0, 0, 0, 0⟩)
theorem ok_law_load : chkB chkAll ck_law_load ir_law_load (defScope st_law_load) (defBody st_law_load) = true := by decide +kernel
theorem sc_law_load : FnScope ck_law_load.N ["box"] (defScope st_law_load) := ⟨rfl, rfl, rfl, by decide +kernel, rfl, by decide +kernel, by decide +kernel⟩
def ck_law_draw : Ck := { N := ["box", "many", "digit"], fs := ["_law_load"], gs := [] }
abbrev st_law_draw : Stmt := PySem.Challenge.pw_wholeanswers_k58_lands_and_firing.main.body.getD 17 (.Pass ⟨0, 0, 0, 0⟩)
theorem ok_law_draw : chkB chkAll ck_law_draw ir_law_draw (defScope st_law_draw) (defBody st_law_draw) = true := by decide +kernel
theorem sc_law_draw : FnScope ck_law_draw.N ["box", "many"] (defScope st_law_draw) := ⟨rfl, rfl, rfl, by decide +kernel, rfl, by decide +kernel, by decide +kernel⟩
def ck_law_same : Ck := { N := ["a", "b", "k"], fs := ["_law_same"], gs := [] }
abbrev st_law_same : Stmt := PySem.Challenge.pw_wholeanswers_k58_lands_and_firing.main.body.getD 18 (.Pass ⟨0, 0, 0, 0⟩)
theorem ok_law_same : chkB chkAll ck_law_same ir_law_same (defScope st_law_same) (defBody st_law_same) = true := by decide +kernel
theorem sc_law_same : FnScope ck_law_same.N ["a", "b"] (defScope st_law_same) := ⟨rfl, rfl, rfl, by decide +kernel, rfl, by decide +kernel, by decide +kernel⟩
def ck_law_bent : Ck := { N := ["box", "value", "at", "pick"], fs := ["_law_draw", "_law_bent"], gs := [] }
abbrev st_law_bent : Stmt := PySem.Challenge.pw_wholeanswers_k58_lands_and_firing.main.body.getD 19 (.Pass ⟨0, 0, 0, 0⟩)
theorem ok_law_bent : chkB chkAll ck_law_bent ir_law_bent (defScope st_law_bent) (defBody st_law_bent) = true := by decide +kernel
theorem sc_law_bent : FnScope ck_law_bent.N ["box", "value"] (defScope st_law_bent) := ⟨rfl, rfl, rfl, by decide +kernel, rfl, by decide +kernel, by decide +kernel⟩
def ck_law_land : Ck := { N := ["box", "most", "n", "roads", "i", "step", "j"], fs := ["_law_draw"], gs := [] }
abbrev st_law_land : Stmt := PySem.Challenge.pw_wholeanswers_k58_lands_and_firing.main.body.getD 20 (.Pass ⟨0, 0, 0, 0⟩)
theorem ok_law_land : chkB chkAll ck_law_land ir_law_land (defScope st_law_land) (defBody st_law_land) = true := by decide +kernel
theorem sc_law_land : FnScope ck_law_land.N ["box", "most"] (defScope st_law_land) := ⟨rfl, rfl, rfl, by decide +kernel, rfl, by decide +kernel, by decide +kernel⟩
def ck_law_own : Ck := { N := ["land", "i", "way"], fs := [], gs := [] }
abbrev st_law_own : Stmt := PySem.Challenge.pw_wholeanswers_k58_lands_and_firing.main.body.getD 21 (.Pass ⟨0, 0, 0, 0⟩)
theorem ok_law_own : chkB chkAll ck_law_own ir_law_own (defScope st_law_own) (defBody st_law_own) = true := by decide +kernel
theorem sc_law_own : FnScope ck_law_own.N ["land"] (defScope st_law_own) := ⟨rfl, rfl, rfl, by decide +kernel, rfl, by decide +kernel, by decide +kernel⟩
def ir_law_ways_0 : S := (.ret (.bi .len (.cons (.comp [3] (.nm 3) (.idx (.var 0) (.int 1)) (.cmp .Eq (.var 3) (.tup (.cons (.bi .min2 (.cons (.var 1) (.cons (.var 2) .nil))) (.cons (.bi .max2 (.cons (.var 1) (.cons (.var 2) .nil))) .nil)))) (.var 3)) .nil)))
def ir_law_ways : S := (.seq ir_law_ways_0 .nop)
def ck_law_ways : Ck := { N := ["land", "i", "j", "way"], fs := [], gs := [] }
abbrev st_law_ways : Stmt := PySem.Challenge.pw_wholeanswers_k58_lands_and_firing.main.body.getD 22 (.Pass ⟨0, 0, 0, 0⟩)
theorem ok_law_ways : chkB chkAll ck_law_ways ir_law_ways (defScope st_law_ways) (defBody st_law_ways) = true := by decide +kernel
theorem sc_law_ways : FnScope ck_law_ways.N ["land", "i", "j"] (defScope st_law_ways) := ⟨rfl, rfl, rfl, by decide +kernel, rfl, by decide +kernel, by decide +kernel⟩
def ck_law_fired : Ck := { N := ["land", "setting", "counts", "found", "i", "j"], fs := [], gs := [] }
abbrev st_law_fired : Stmt := PySem.Challenge.pw_wholeanswers_k58_lands_and_firing.main.body.getD 23 (.Pass ⟨0, 0, 0, 0⟩)
theorem ok_law_fired : chkB chkAll ck_law_fired ir_law_fired (defScope st_law_fired) (defBody st_law_fired) = true := by decide +kernel
theorem sc_law_fired : FnScope ck_law_fired.N ["land", "setting", "counts"] (defScope st_law_fired) := ⟨rfl, rfl, rfl, by decide +kernel, rfl, by decide +kernel, by decide +kernel⟩
def ir_law_is_land_b0 : S := (.seq (.ite (.or (.not (.bi .all (.cons (.comp [4] (.nm 4) (.var 3) .nil (.and (.isa (.var 4) ["int"]) (.and (.not (.isa (.var 4) ["bool"])) (.chain .LtE .Lt (.int 0) (.var 4) (.var 1))))) .nil))) (.cmp .GtE (.idx (.var 3) (.int 0)) (.idx (.var 3) (.int 1)))) (.seq (.ret (.bl false)) .nop) .nop) .nop)
def ir_law_is_land_b1 : S := (.seq (.ite (.cmp .NotEq (.cmp .In (.var 4) (.var 6)) (.cmp .In (.var 8) (.var 6))) (.seq (.ex (.app (.var 6) (.ite (.cmp .In (.var 4) (.var 6)) (.var 8) (.var 4)))) .nop) .nop) .nop)
def ir_law_is_land_b2 : S := (.seq (.for (.tp [4, 8]) (.var 2) ir_law_is_land_b1) .nop)
def ir_law_is_land_7 : S := (.ret (.cmp .Eq (.bi .len (.cons (.var 6) .nil)) (.var 1)))
def ir_law_is_land_6 : S := (.for (.nm 7) (.rng1 (.var 1)) ir_law_is_land_b2)
def ir_law_is_land_5 : S := (.asg (.tg (.nm 6)) (.trk (.lst (.cons (.int 0) .nil))))
def ir_law_is_land_4 : S := (.ite (.not (.bi .all (.cons (.comp [5] (.nm 5) (.rng1 (.bin .Sub (.bi .len (.cons (.var 2) .nil)) (.int 1))) .nil (.cmp .LtE (.idx (.var 2) (.var 5)) (.idx (.var 2) (.bin .Add (.var 5) (.int 1))))) .nil))) (.seq (.ret (.bl false)) .nop) .nop)
def ir_law_is_land_3 : S := (.for (.nm 3) (.var 2) ir_law_is_land_b0)
def ir_law_is_land_2 : S := (.ite (.or (.not (.isa (.var 2) ["tuple"])) (.or (.cmp .Gt (.bi .len (.cons (.var 2) .nil)) (.int 20)) (.not (.bi .all (.cons (.comp [3] (.nm 3) (.var 2) .nil (.and (.isa (.var 3) ["tuple"]) (.cmp .Eq (.bi .len (.cons (.var 3) .nil)) (.int 2)))) .nil))))) (.seq (.ret (.bl false)) .nop) .nop)
def ir_law_is_land_1 : S := (.asg (.tg (.tp [1, 2])) (.var 0))
def ir_law_is_land_0 : S := (.ite (.or (.not (.isa (.var 0) ["tuple"])) (.or (.cmp .NotEq (.bi .len (.cons (.var 0) .nil)) (.int 2)) (.or (.not (.isa (.idx (.var 0) (.int 0)) ["int"])) (.or (.isa (.idx (.var 0) (.int 0)) ["bool"]) (.not (.chain .LtE .LtE (.int 1) (.idx (.var 0) (.int 0)) (.int 8))))))) (.seq (.ret (.bl false)) .nop) .nop)
def ir_law_is_land : S := (.seq ir_law_is_land_0 (.seq ir_law_is_land_1 (.seq ir_law_is_land_2 (.seq ir_law_is_land_3 (.seq ir_law_is_land_4 (.seq ir_law_is_land_5 (.seq ir_law_is_land_6 (.seq ir_law_is_land_7 .nop))))))))
def ck_law_is_land : Ck := { N := ["value", "n", "roads", "way", "i", "k", "there", "step", "j"], fs := [], gs := [] }
abbrev st_law_is_land : Stmt := PySem.Challenge.pw_wholeanswers_k58_lands_and_firing.main.body.getD 24 (.Pass ⟨0, 0, 0, 0⟩)
theorem ok_law_is_land : chkB chkAll ck_law_is_land ir_law_is_land (defScope st_law_is_land) (defBody st_law_is_land) = true := by decide +kernel
theorem sc_law_is_land : FnScope ck_law_is_land.N ["value"] (defScope st_law_is_land) := ⟨rfl, rfl, rfl, by decide +kernel, rfl, by decide +kernel, by decide +kernel⟩
def ir_law_fine_b0 : S := (.seq (.asg (.tg (.nm 9)) (.bi .tuple (.cons (.comp [4] (.nm 4) (.rng1 (.var 2)) .nil (.bin .Sub (.call 6 (.cons (.var 0) (.cons (.int 41) .nil))) (.int 20))) .nil))) (.seq (.asg (.tg (.nm 10)) (.bi .tuple (.cons (.comp [4] (.nm 4) (.rng1 (.var 2)) .nil (.bin .Sub (.call 6 (.cons (.var 0) (.cons (.idx (.lst (.cons (.int 3) (.cons (.int 21) .nil))) (.bin .FloorDiv (.var 8) (.int 2))) .nil))) (.idx (.lst (.cons (.int 0) (.cons (.int 10) .nil))) (.bin .FloorDiv (.var 8) (.int 2))))) .nil))) (.seq (.asg (.tg (.nm 11)) (.call 7 (.cons (.var 1) (.cons (.var 9) (.cons (.var 10) .nil))))) (.seq (.ite (.or (.not (.call 2 (.cons (.call 8 (.cons (.var 1) (.cons (.var 9) (.cons (.var 10) .nil)))) (.cons (.var 11) .nil)))) (.cmp .NotEq (.bi .sum (.cons (.var 11) .nil)) (.bi .sum (.cons (.var 9) .nil)))) (.seq (.ret (.bl false)) .nop) .nop) (.seq (.ite (.or (.not (.call 2 (.cons (.call 8 (.cons (.var 1) (.cons (.var 11) (.cons (.bi .tuple (.cons (.comp [12] (.nm 12) (.var 10) .nil (.bin .Sub (.int 0) (.var 12))) .nil)) .nil)))) (.cons (.var 9) .nil)))) (.not (.call 2 (.cons (.call 8 (.cons (.var 1) (.cons (.var 9) (.cons (.bin .Mult (.tup (.cons (.int 7) .nil)) (.var 2)) .nil)))) (.cons (.var 9) .nil))))) (.seq (.ret (.bl false)) .nop) .nop) .nop)))))
def ir_law_fine_5 : S := (.ret (.bl true))
def ir_law_fine_4 : S := (.for (.nm 8) (.rng1 (.int 4)) ir_law_fine_b0)
def ir_law_fine_3 : S := (.ite (.or (.not (.call 2 (.cons (.call 5 (.cons (.var 1) .nil)) (.cons (.var 6) .nil)))) (.bi .any (.cons (.comp [7] (.nm 7) (.var 6) .nil (.cmp .NotEq (.bi .sum (.cons (.var 7) .nil)) (.int 0))) .nil))) (.seq (.ret (.bl false)) .nop) .nop)
def ir_law_fine_2 : S := (.asg (.tg (.nm 6)) (.bi .tuple (.cons (.comp [4] (.nm 4) (.rng1 (.var 2)) .nil (.bi .tuple (.cons (.comp [5] (.nm 5) (.rng1 (.var 2)) .nil (.ite (.cmp .Eq (.var 4) (.var 5)) (.idx (.var 3) (.var 4)) (.bin .Sub (.int 0) (.call 4 (.cons (.var 1) (.cons (.var 4) (.cons (.var 5) .nil))))))) .nil))) .nil)))
def ir_law_fine_1 : S := (.ite (.or (.cmp .IsNot (.call 1 (.cons (.var 1) .nil)) (.bl true)) (.not (.call 2 (.cons (.call 3 (.cons (.var 1) .nil)) (.cons (.bi .tuple (.cons (.var 3) .nil)) .nil))))) (.seq (.ret (.bl false)) .nop) .nop)
def ir_law_fine_0 : S := (.asg (.tg (.tp [2, 3])) (.tup (.cons (.idx (.var 1) (.int 0)) (.cons (.call 0 (.cons (.var 1) .nil)) .nil))))
def ir_law_fine : S := (.seq ir_law_fine_0 (.seq ir_law_fine_1 (.seq ir_law_fine_2 (.seq ir_law_fine_3 (.seq ir_law_fine_4 (.seq ir_law_fine_5 .nop))))))
def ck_law_fine : Ck := { N := ["box", "land", "n", "own", "i", "j", "table", "row", "turn", "setting", "counts", "due", "one"], fs := ["_law_own", "is_land", "_law_same", "degrees", "_law_ways", "fire_table", "_law_draw", "_law_fired", "fired"], gs := [] }
abbrev st_law_fine : Stmt := PySem.Challenge.pw_wholeanswers_k58_lands_and_firing.main.body.getD 25 (.Pass ⟨0, 0, 0, 0⟩)
theorem ok_law_fine : chkB chkAll ck_law_fine ir_law_fine (defScope st_law_fine) (defBody st_law_fine) = true := by decide +kernel
theorem sc_law_fine : FnScope ck_law_fine.N ["box", "land"] (defScope st_law_fine) := ⟨rfl, rfl, rfl, by decide +kernel, rfl, by decide +kernel, by decide +kernel⟩
def ir_law_b0 : S := (.seq (.ite (.not (.call 4 (.cons (.call 5 (.cons (.var 7) .nil)) (.cons (.call 6 (.cons (.var 7) .nil)) .nil)))) (.seq (.ret (.bl false)) .nop) .nop) .nop)
def ir_law_b1 : S := (.seq (.asg (.tg (.nm 3)) (.call 1 (.cons (.var 1) (.cons (.idx (.lst (.cons (.int 6) (.cons (.int 8) .nil))) (.var 2)) .nil)))) (.seq (.ite (.not (.call 2 (.cons (.var 1) (.cons (.var 3) .nil)))) (.seq (.ret (.bl false)) .nop) .nop) (.seq (.asg (.tg (.tp [4, 5])) (.var 3)) (.seq (.asg (.tg (.nm 6)) (.lst (.cons (.var 3) (.cons (.tup (.cons (.var 4) (.cons (.rev (.var 5)) .nil))) (.cons (.tup (.cons (.var 4) (.cons (.slc (.var 5) (.int 1) .nil) .nil))) (.cons (.tup (.cons (.bin .Add (.var 4) (.int 1)) (.cons (.var 5) .nil))) (.cons (.tup (.cons (.var 4) (.cons (.bin .Add (.var 5) (.slc (.var 5) (.neg (.int 1)) .nil)) .nil))) (.cons (.tup (.cons (.bi .max2 (.cons (.int 1) (.cons (.bin .Sub (.var 4) (.int 1)) .nil))) (.cons (.var 5) .nil))) (.cons (.var 5) (.cons (.var 4) (.cons .non (.cons (.tup (.cons (.var 4) (.cons (.var 5) (.cons (.tup .nil) .nil)))) (.cons (.tup (.cons (.bl true) (.cons (.tup .nil) .nil))) (.cons (.tup (.cons (.int 1) (.cons (.tup .nil) .nil))) (.cons (.tup (.cons (.int 0) (.cons (.tup .nil) .nil))) (.cons (.tup (.cons (.int 2) (.cons (.tup .nil) .nil))) .nil)))))))))))))))) (.seq (.for (.nm 7) (.binL .Add (.var 6) (.comp [8] (.nm 8) (.rng1 (.int 10)) .nil (.call 3 (.cons (.var 1) (.cons (.var 3) .nil))))) ir_law_b0) .nop)))))
def ir_law_6 : S := (.ret (.and (.call 2 (.cons (.var 1) (.cons (.var 9) .nil))) (.and (.call 2 (.cons (.var 1) (.cons (.tup (.cons (.int 1) (.cons (.tup .nil) .nil))) .nil))) (.cmp .Is (.call 5 (.cons (.tup (.cons (.int 4) (.cons (.tup (.cons (.tup (.cons (.int 0) (.cons (.int 1) .nil))) (.cons (.tup (.cons (.int 2) (.cons (.int 3) .nil))) .nil))) .nil))) .nil)) (.bl false)))))
def ir_law_5 : S := (.ite (.or (.cmp .IsNot (.call 5 (.cons (.var 9) .nil)) (.bl true)) (.or (.cmp .IsNot (.call 5 (.cons (.tup (.cons (.int 2) (.cons (.bin .Mult (.tup (.cons (.tup (.cons (.int 0) (.cons (.int 1) .nil))) .nil)) (.int 21)) .nil))) .nil)) (.bl false)) (.or (.cmp .IsNot (.call 5 (.cons (.tup (.cons (.int 8) (.cons (.slc (.var 10) .nil (.int 7)) .nil))) .nil)) (.bl true)) (.cmp .IsNot (.call 5 (.cons (.tup (.cons (.int 9) (.cons (.var 10) .nil))) .nil)) (.bl false))))) (.seq (.ret (.bl false)) .nop) .nop)
def ir_law_4 : S := (.asg (.tg (.nm 10)) (.bi .tuple (.cons (.comp [8] (.nm 8) (.rng1 (.int 8)) .nil (.tup (.cons (.var 8) (.cons (.bin .Add (.var 8) (.int 1)) .nil)))) .nil)))
def ir_law_3 : S := (.asg (.tg (.nm 9)) (.tup (.cons (.int 2) (.cons (.bin .Mult (.tup (.cons (.tup (.cons (.int 0) (.cons (.int 1) .nil))) .nil)) (.int 20)) .nil))))
def ir_law_2 : S := (.for (.nm 2) (.rng1 (.int 2)) ir_law_b1)
def ir_law_1 : S := (.ite (.cmp .NotEq (.tup (.cons (.glb 0) (.cons (.glb 1) .nil))) (.tup (.cons (.int 8) (.cons (.int 20) .nil)))) (.seq (.ret (.bl false)) .nop) .nop)
def ir_law_0 : S := (.asg (.tg (.nm 1)) (.call 0 (.cons (.var 0) .nil)))
def ir_law : S := (.seq ir_law_0 (.seq ir_law_1 (.seq ir_law_2 (.seq ir_law_3 (.seq ir_law_4 (.seq ir_law_5 (.seq ir_law_6 .nop)))))))
def ck_law : Ck := { N := ["script", "box", "turn", "land", "n", "roads", "values", "value", "k", "twenty", "row"], fs := ["_law_box", "_law_land", "_law_fine", "_law_bent", "_law_same", "is_land", "_law_is_land"], gs := ["MAX_PLACES", "MAX_WAYS"] }
abbrev st_law : Stmt := PySem.Challenge.pw_wholeanswers_k58_lands_and_firing.main.body.getD 26 (.Pass ⟨0, 0, 0, 0⟩)
theorem ok_law : chkB chkAll ck_law ir_law (defScope st_law) (defBody st_law) = true := by decide +kernel
theorem sc_law : FnScope ck_law.N ["script"] (defScope st_law) := ⟨rfl, rfl, rfl, by decide +kernel, rfl, by decide +kernel, by decide +kernel⟩
end K58
namespace K58
open PySem PySem.Spec PyProof.Rows L2 Cl
noncomputable def p_law_ways : List D → PR := fun ds => pureOf (runF (semS { tab := [] } [] ir_law_ways) 3 4 ds [])
noncomputable def p_law_is_land : List D → PR := fun ds => pureOf (runF (semS { tab := [] } [] ir_law_is_land) 1 9 ds [])
noncomputable def g_law_fine : List D → M D := runF (semS { tab := [(liftP p_law_own), (liftP p_is_land), (liftP (p_law_same 6)), (liftP p_degrees), (liftP p_law_ways), (liftP p_fire_table), g_law_draw, (liftP p_law_fired), (liftP p_fired)] } [] ir_law_fine) 2 13
noncomputable def g_law : List D → M D := runF (semS { tab := [g_law_box, g_law_land, g_law_fine, (g_law_bent 6), (liftP (p_law_same 6)), (liftP p_is_land), (liftP p_law_is_land)] } [.int 8, .int 20] ir_law) 1 11
end K58
namespace K58
open PySem PySem.Spec PyProof.Rows L2 Cl Mth
def cnt (ws : Ways) (i j : Nat) : Nat := (ws.filter fun p => decide (p = (min i j, max i j))).length
theorem tab_cnt {i j : Nat} (hij : i ≠ j) : ∀ {ws : Ways} (_ : ∀ p ∈ ws, p.1 < p.2), tabF ws i j = 0 - (cnt ws i j : Int)
  | [], _ => rfl
  | p :: ws, h => by
    have ih := tab_cnt hij fun q hq => h q (List.mem_cons_of_mem _ hq)
    have hp := h p List.mem_cons_self
    rw [tabF_cons, ih]
    unfold cnt
    rw [List.filter_cons]
    obtain ⟨a, b⟩ := p
    simp only at hp
    by_cases e : (a, b) = (min i j, max i j)
    · have e1 : a = min i j := congrArg Prod.fst e
      have e2 : b = max i j := congrArg Prod.snd e
      have : ent (a, b) i j = -1 := by
        unfold ent
        simp only
        rcases Nat.lt_or_ge i j with l | l
        · have q1 : a = i := by omega
          have q2 : b = j := by omega
          have q3 : ¬ a = j := by omega
          have q4 : ¬ b = i := by omega
          simp [q1, q2, hij, Ne.symm hij]
        · have q1 : a = j := by omega
          have q2 : b = i := by omega
          simp [q1, q2, hij, Ne.symm hij]
      rw [this, if_pos (decide_eq_true e), List.length_cons]
      omega
    · have : ent (a, b) i j = 0 := by
        unfold ent
        simp only
        have n1 : ¬ (a = i ∧ b = j) := fun z => e (by rw [z.1, z.2]; have := z.1; have := z.2; congr 1 <;> omega)
        have n2 : ¬ (b = i ∧ a = j) := fun z => e (by rw [z.1, z.2]; have := z.1; have := z.2; congr 1 <;> omega)
        have n3 : ¬ (a = i ∧ a = j) := fun z => hij (z.1.symm.trans z.2)
        have n4 : ¬ (b = i ∧ b = j) := fun z => hij (z.1.symm.trans z.2)
        rw [if_neg n1, if_neg n2, if_neg n3, if_neg n4]
        rfl
      rw [this, if_neg (by simpa using e)]
      omega
theorem ev_law_ways {n i j : Nat} {ws : Ways} (hl : ws.length ≤ 10000) : p_law_ways [encLand n ws, .int i, .int j] = .ok (.int (cnt ws i j)) := by
  refine p_ends [some (encLand n ws), some (.int i), some (.int j), none] ?_
  unfold ir_law_ways
  have mn : (if (j : Int) < i then (j : Int) else i) = (min i j : Nat) := by split <;> omega
  have mx : (if (j : Int) > i then (j : Int) else i) = (max i j : Nat) := by split <;> omega
  have k := comp_filter (G := { tab := [] }) (C := []) (own := [3]) (tg := .nm 3) (src := .idx (.var 0) (.int 1)) (ifs := .cmp .Eq (.var 3) (.tup (.cons (.bi .min2 (.cons (.var 1) (.cons (.var 2) .nil))) (.cons (.bi .max2 (.cons (.var 1) (.cons (.var 2) .nil))) .nil)))) (elt := .var 3) (env := [some (encLand n ws), some (.int i), some (.int j), none]) (h := [])
    ws (fun p => D.tup [.int p.1, .int p.2]) (fun p => decide (p = (min i j, max i j))) (fun p => D.tup [.int p.1, .int p.2]) (by simp (disch := first | omega | (simp; done) | fail) [semS, semE, semA, semN, semO, semI, exS, bnd, optM, pur, setTg, seqM, lsM, binM, binL, augM, biM, bnM, cmpM, cmpI, ltM, leM, inM, eqF, flatD, isM, Cl.isNon, truM, intM, idxM, slcM, lenM, lstAt, Cl.putAt, isaM, tyM, tyName, lsrcM, srcM, calmly, depOk_nil, sizeLine_eq, wipeE, gmul_r, gmul_l, gdiv, gmod, gmod', fdiv_pos, fmod_pos, grg, grg2, gsz, atI_pos]) (by omega) (by simp) (fun p hp => by
      refine ⟨[some (encLand n ws), some (.int i), some (.int j), some (.tup [.int p.1, .int p.2])], by simp [semS, semE, semA, semN, semO, semI, exS, bnd, optM, pur, setTg, seqM, lsM, binM, binL, augM, biM, bnM, cmpM, cmpI, ltM, leM, inM, eqF, flatD, isM, Cl.isNon, truM, intM, idxM, slcM, lenM, lstAt, Cl.putAt, isaM, tyM, tyName, lsrcM, srcM, calmly, depOk_nil, sizeLine_eq, wipeE], ⟨.bl (decide (p = (min i j, max i j))), ?_, by simp [semS, semE, semA, semN, semO, semI, exS, bnd, optM, pur, setTg, seqM, lsM, binM, binL, augM, biM, bnM, cmpM, cmpI, ltM, leM, inM, eqF, flatD, isM, Cl.isNon, truM, intM, idxM, slcM, lenM, lstAt, Cl.putAt, isaM, tyM, tyName, lsrcM, srcM, calmly, depOk_nil, sizeLine_eq, wipeE]⟩, fun _ => by simp [semS, semE, semA, semN, semO, semI, exS, bnd, optM, pur, setTg, seqM, lsM, binM, binL, augM, biM, bnM, cmpM, cmpI, ltM, leM, inM, eqF, flatD, isM, Cl.isNon, truM, intM, idxM, slcM, lenM, lstAt, Cl.putAt, isaM, tyM, tyName, lsrcM, srcM, calmly, depOk_nil, sizeLine_eq, wipeE]⟩
      have e1 : eqM (.tup [.int p.1, .int p.2]) (.tup [.int (min i j : Nat), .int (max i j : Nat)]) [] = .ok (decide (p = (min i j, max i j))) [] := by
        rw [eqM_dat 4 (by simp [datP]) (by simp [datP])]
        congr 1
        obtain ⟨a, b⟩ := p
        refine decide_eq_decide.mpr ?_
        simp only [D.tup.injEq, List.cons.injEq, D.int.injEq, and_true, Prod.mk.injEq]
        omega
      have gz : ∀ m : M D, Cl.guard ([D.int (min i j : Nat), D.int (max i j : Nat)].length ≤ sizeLine) m = m := fun m => gle (by rw [sizeLine_eq]; simp)
      simp only [semE, semA, biM, bnd, optM, pur, cmpM, List.getElem?_cons_succ, List.getElem?_cons_zero, Option.bind_some, id, mn, mx, gz, e1])
  refine ends_seq (ends_rt (d := .int (cnt ws i j)) (h := []) ?_ rfl)
  have kl : ((ws.filter fun p => decide (p = (min i j, max i j))).map fun p => D.tup [.int p.1, .int p.2]).length = cnt ws i j := by rw [List.length_map]; rfl
  generalize ((ws.filter fun p => decide (p = (min i j, max i j))).map fun p => D.tup [.int p.1, .int p.2]) = L at k kl
  simp (disch := first | omega | (simp; done) | fail) [ir_law_ways_0, semS, semE, semA, semO, semI, exS, bnd, optM, pur, setTg, seqM, lsM, binM, binL, augM, biM, bnM, cmpM, cmpI, ltM, leM, inM, eqF, flatD, isM, Cl.isNon, truM, intM, idxM, slcM, lenM, lstAt, Cl.putAt, isaM, tyM, tyName, lsrcM, srcM, calmly, depOk_nil, sizeLine_eq, wipeE, gmul_r, gmul_l, gdiv, gmod, gmod', fdiv_pos, fmod_pos, grg, grg2, gsz, atI_pos, k, kl]
theorem sem_app0 {G : Gt} {C : List D} {env : Cl.Env} {i r : Nat} {x : I} {y : D} {xs : List D} {hc : Hc} (hv : env[i]? = some (some (.ref r))) (h1 : hc[r]? = some (.lst xs)) (hx : semE G C x env hc = .ok y hc) (hl : xs.length < 16777216) :
    semS G C (.ex (.app (.var i) x)) env hc = .nx env (hc.set r (.lst (xs ++ [y]))) := by
  have hl2 : xs.length < sizeLine := by rw [sizeLine_eq]; exact hl
  have hr : r < hc.length := (List.getElem?_eq_some_iff.mp h1).1
  simp only [semS, exS, semE, bnd, optM, pur, hv, Option.bind_some, id, lstAt, h1, hx, gle hl2, Cl.putAt, if_pos hr]
theorem in_nats (W : List Nat) (j : Nat) : inM (.int j) (.ref 0) [.lst (natsD W)] = .ok (decide (j ∈ W)) [.lst (natsD W)] := by
  have := any_nats W j
  have f := flat_nats W
  simp only [inM, List.getElem?_cons_zero, flatD, f, and_self, if_true, this]
def pr2 : D → Bool
  | .tup xs => decide (xs.length = 2)
  | _ => false
theorem wayB_pr2 {n : Int} {d : D} (h : wayB n d = true) : pr2 d = true := by
  unfold wayB at h
  split at h
  · rfl
  · cases h
theorem ev_law_is_land {k : Nat} {v : D} (h : plD k v = true) : p_law_is_land [v] = .ok (.bl (landB v)) := by
  have nr := plD_noRef h
  refine p_ends [some v, none, none, none, none, none, none, none, none] ?_
  unfold ir_law_is_land
  rcases plD_cases h with rfl | ⟨k, rfl⟩ | ⟨i, rfl⟩ | ⟨x, rfl⟩ | ⟨m, xs, rfl, rfl, hl, hx⟩
  · rw [landB_false (by rintro ⟨n, ws, e, _⟩; cases e)]
    exact ends_seq (ends_rt (d := .bl false) (h := []) (by simp (disch := first | omega | (simp; done) | fail) [ir_law_is_land_0, semS, semE, semA, semN, semO, semI, exS, bnd, optM, pur, setTg, seqM, lsM, binM, binL, augM, biM, bnM, cmpM, cmpI, ltM, leM, inM, eqF, flatD, isM, Cl.isNon, truM, intM, idxM, slcM, lenM, lstAt, Cl.putAt, isaM, tyM, tyName, lsrcM, srcM, calmly, depOk_nil, sizeLine_eq, wipeE, gmul_r, gmul_l, gdiv, gmod, gmod', fdiv_pos, fmod_pos, grg, grg2, gsz, atI_pos]) rfl)
  · rw [landB_false (by rintro ⟨n, ws, e, _⟩; cases e)]
    exact ends_seq (ends_rt (d := .bl false) (h := []) (by simp (disch := first | omega | (simp; done) | fail) [ir_law_is_land_0, semS, semE, semA, semN, semO, semI, exS, bnd, optM, pur, setTg, seqM, lsM, binM, binL, augM, biM, bnM, cmpM, cmpI, ltM, leM, inM, eqF, flatD, isM, Cl.isNon, truM, intM, idxM, slcM, lenM, lstAt, Cl.putAt, isaM, tyM, tyName, lsrcM, srcM, calmly, depOk_nil, sizeLine_eq, wipeE, gmul_r, gmul_l, gdiv, gmod, gmod', fdiv_pos, fmod_pos, grg, grg2, gsz, atI_pos]) rfl)
  · rw [landB_false (by rintro ⟨n, ws, e, _⟩; cases e)]
    exact ends_seq (ends_rt (d := .bl false) (h := []) (by simp (disch := first | omega | (simp; done) | fail) [ir_law_is_land_0, semS, semE, semA, semN, semO, semI, exS, bnd, optM, pur, setTg, seqM, lsM, binM, binL, augM, biM, bnM, cmpM, cmpI, ltM, leM, inM, eqF, flatD, isM, Cl.isNon, truM, intM, idxM, slcM, lenM, lstAt, Cl.putAt, isaM, tyM, tyName, lsrcM, srcM, calmly, depOk_nil, sizeLine_eq, wipeE, gmul_r, gmul_l, gdiv, gmod, gmod', fdiv_pos, fmod_pos, grg, grg2, gsz, atI_pos]) rfl)
  · rw [landB_false (by rintro ⟨n, ws, e, _⟩; cases e)]
    exact ends_seq (ends_rt (d := .bl false) (h := []) (by simp (disch := first | omega | (simp; done) | fail) [ir_law_is_land_0, semS, semE, semA, semN, semO, semI, exS, bnd, optM, pur, setTg, seqM, lsM, binM, binL, augM, biM, bnM, cmpM, cmpI, ltM, leM, inM, eqF, flatD, isM, Cl.isNon, truM, intM, idxM, slcM, lenM, lstAt, Cl.putAt, isaM, tyM, tyName, lsrcM, srcM, calmly, depOk_nil, sizeLine_eq, wipeE, gmul_r, gmul_l, gdiv, gmod, gmod', fdiv_pos, fmod_pos, grg, grg2, gsz, atI_pos]) rfl)
  by_cases z : xs.length = 2
  rotate_left
  · have zi : ¬ (xs.length : Int) = 2 := by omega
    rw [landB_false (by rintro ⟨n, ws, e, _⟩; cases e; exact z rfl)]
    exact ends_seq (ends_rt (d := .bl false) (h := []) (by simp (disch := first | omega | (simp; done) | fail) [ir_law_is_land_0, semS, semE, semA, semN, semO, semI, exS, bnd, optM, pur, setTg, seqM, lsM, binM, binL, augM, biM, bnM, cmpM, cmpI, ltM, leM, inM, eqF, flatD, isM, Cl.isNon, truM, intM, idxM, slcM, lenM, lstAt, Cl.putAt, isaM, tyM, tyName, lsrcM, srcM, calmly, depOk_nil, sizeLine_eq, wipeE, gmul_r, gmul_l, gdiv, gmod, gmod', fdiv_pos, fmod_pos, grg, grg2, gsz, atI_pos, zi]) rfl)
  obtain ⟨a, wv, rfl⟩ := two_of z
  have ha := hx a (by simp)
  have hb := hx wv (by simp)
  by_cases q : numB 1 8 a = true
  rotate_left
  · rw [Bool.not_eq_true] at q
    rw [landB_false (by
      rintro ⟨n, ws, e, hL⟩
      cases e
      have := hL.one
      have := hL.most
      simp [numB] at q
      omega)]
    refine ends_seq (ends_rt (d := .bl false) (h := []) ?_ rfl)
    rcases plD_cases ha with rfl | ⟨k, rfl⟩ | ⟨i, rfl⟩ | ⟨x, rfl⟩ | ⟨m, xs, rfl, rfl, _, _⟩
    · simp (disch := first | omega | (simp; done) | fail) [ir_law_is_land_0, semS, semE, semA, semN, semO, semI, exS, bnd, optM, pur, setTg, seqM, lsM, binM, binL, augM, biM, bnM, cmpM, cmpI, ltM, leM, inM, eqF, flatD, isM, Cl.isNon, truM, intM, idxM, slcM, lenM, lstAt, Cl.putAt, isaM, tyM, tyName, lsrcM, srcM, calmly, depOk_nil, sizeLine_eq, wipeE, gmul_r, gmul_l, gdiv, gmod, gmod', fdiv_pos, fmod_pos, grg, grg2, gsz, atI_pos]
    · simp (disch := first | omega | (simp; done) | fail) [ir_law_is_land_0, semS, semE, semA, semN, semO, semI, exS, bnd, optM, pur, setTg, seqM, lsM, binM, binL, augM, biM, bnM, cmpM, cmpI, ltM, leM, inM, eqF, flatD, isM, Cl.isNon, truM, intM, idxM, slcM, lenM, lstAt, Cl.putAt, isaM, tyM, tyName, lsrcM, srcM, calmly, depOk_nil, sizeLine_eq, wipeE, gmul_r, gmul_l, gdiv, gmod, gmod', fdiv_pos, fmod_pos, grg, grg2, gsz, atI_pos]
    · simp only [numB, decide_eq_false_iff_not] at q
      by_cases y : 1 ≤ i
      · have y2 : ¬ i ≤ 8 := fun y2 => q ⟨y, y2⟩
        simp (disch := first | omega | (simp; done) | fail) [ir_law_is_land_0, semS, semE, semA, semN, semO, semI, exS, bnd, optM, pur, setTg, seqM, lsM, binM, binL, augM, biM, bnM, cmpM, cmpI, ltM, leM, inM, eqF, flatD, isM, Cl.isNon, truM, intM, idxM, slcM, lenM, lstAt, Cl.putAt, isaM, tyM, tyName, lsrcM, srcM, calmly, depOk_nil, sizeLine_eq, wipeE, gmul_r, gmul_l, gdiv, gmod, gmod', fdiv_pos, fmod_pos, grg, grg2, gsz, atI_pos, y, y2]
      · simp (disch := first | omega | (simp; done) | fail) [ir_law_is_land_0, semS, semE, semA, semN, semO, semI, exS, bnd, optM, pur, setTg, seqM, lsM, binM, binL, augM, biM, bnM, cmpM, cmpI, ltM, leM, inM, eqF, flatD, isM, Cl.isNon, truM, intM, idxM, slcM, lenM, lstAt, Cl.putAt, isaM, tyM, tyName, lsrcM, srcM, calmly, depOk_nil, sizeLine_eq, wipeE, gmul_r, gmul_l, gdiv, gmod, gmod', fdiv_pos, fmod_pos, grg, grg2, gsz, atI_pos, y]
    · simp (disch := first | omega | (simp; done) | fail) [ir_law_is_land_0, semS, semE, semA, semN, semO, semI, exS, bnd, optM, pur, setTg, seqM, lsM, binM, binL, augM, biM, bnM, cmpM, cmpI, ltM, leM, inM, eqF, flatD, isM, Cl.isNon, truM, intM, idxM, slcM, lenM, lstAt, Cl.putAt, isaM, tyM, tyName, lsrcM, srcM, calmly, depOk_nil, sizeLine_eq, wipeE, gmul_r, gmul_l, gdiv, gmod, gmod', fdiv_pos, fmod_pos, grg, grg2, gsz, atI_pos]
    · simp (disch := first | omega | (simp; done) | fail) [ir_law_is_land_0, semS, semE, semA, semN, semO, semI, exS, bnd, optM, pur, setTg, seqM, lsM, binM, binL, augM, biM, bnM, cmpM, cmpI, ltM, leM, inM, eqF, flatD, isM, Cl.isNon, truM, intM, idxM, slcM, lenM, lstAt, Cl.putAt, isaM, tyM, tyName, lsrcM, srcM, calmly, depOk_nil, sizeLine_eq, wipeE, gmul_r, gmul_l, gdiv, gmod, gmod', fdiv_pos, fmod_pos, grg, grg2, gsz, atI_pos]
  obtain ⟨i, rfl, i1, i2⟩ := numB_iff.mp q
  obtain ⟨n, rfl⟩ := Int.eq_ofNat_of_zero_le (show 0 ≤ i by omega)
  refine ends_step (e := [some (.tup [.int n, wv]), none, none, none, none, none, none, none, none]) (h' := []) (by simp (disch := first | omega | (simp; done) | fail) [ir_law_is_land_0, semS, semE, semA, semN, semO, semI, exS, bnd, optM, pur, setTg, seqM, lsM, binM, binL, augM, biM, bnM, cmpM, cmpI, ltM, leM, inM, eqF, flatD, isM, Cl.isNon, truM, intM, idxM, slcM, lenM, lstAt, Cl.putAt, isaM, tyM, tyName, lsrcM, srcM, calmly, depOk_nil, sizeLine_eq, wipeE, gmul_r, gmul_l, gdiv, gmod, gmod', fdiv_pos, fmod_pos, grg, grg2, gsz, atI_pos, i1, i2]) ?_
  refine ends_step (e := [some (.tup [.int n, wv]), some (.int n), some wv, none, none, none, none, none, none]) (h' := []) (by simp (disch := first | omega | (simp; done) | fail) [ir_law_is_land_1, semS, semE, semA, semN, semO, semI, exS, bnd, optM, pur, setTg, seqM, lsM, binM, binL, augM, biM, bnM, cmpM, cmpI, ltM, leM, inM, eqF, flatD, isM, Cl.isNon, truM, intM, idxM, slcM, lenM, lstAt, Cl.putAt, isaM, tyM, tyName, lsrcM, srcM, calmly, depOk_nil, sizeLine_eq, wipeE, gmul_r, gmul_l, gdiv, gmod, gmod', fdiv_pos, fmod_pos, grg, grg2, gsz, atI_pos]) ?_
  rcases plD_cases hb with rfl | ⟨k, rfl⟩ | ⟨i, rfl⟩ | ⟨x, rfl⟩ | ⟨m2, wl, rfl, rfl, hl2, hx2⟩
  · rw [landB_false (by rintro ⟨n, ws, e, _⟩; cases e)]
    exact ends_seq (ends_rt (d := .bl false) (h := []) (by simp (disch := first | omega | (simp; done) | fail) [ir_law_is_land_2, semS, semE, semA, semN, semO, semI, exS, bnd, optM, pur, setTg, seqM, lsM, binM, binL, augM, biM, bnM, cmpM, cmpI, ltM, leM, inM, eqF, flatD, isM, Cl.isNon, truM, intM, idxM, slcM, lenM, lstAt, Cl.putAt, isaM, tyM, tyName, lsrcM, srcM, calmly, depOk_nil, sizeLine_eq, wipeE, gmul_r, gmul_l, gdiv, gmod, gmod', fdiv_pos, fmod_pos, grg, grg2, gsz, atI_pos]) rfl)
  · rw [landB_false (by rintro ⟨n, ws, e, _⟩; cases e)]
    exact ends_seq (ends_rt (d := .bl false) (h := []) (by simp (disch := first | omega | (simp; done) | fail) [ir_law_is_land_2, semS, semE, semA, semN, semO, semI, exS, bnd, optM, pur, setTg, seqM, lsM, binM, binL, augM, biM, bnM, cmpM, cmpI, ltM, leM, inM, eqF, flatD, isM, Cl.isNon, truM, intM, idxM, slcM, lenM, lstAt, Cl.putAt, isaM, tyM, tyName, lsrcM, srcM, calmly, depOk_nil, sizeLine_eq, wipeE, gmul_r, gmul_l, gdiv, gmod, gmod', fdiv_pos, fmod_pos, grg, grg2, gsz, atI_pos]) rfl)
  · rw [landB_false (by rintro ⟨n, ws, e, _⟩; cases e)]
    exact ends_seq (ends_rt (d := .bl false) (h := []) (by simp (disch := first | omega | (simp; done) | fail) [ir_law_is_land_2, semS, semE, semA, semN, semO, semI, exS, bnd, optM, pur, setTg, seqM, lsM, binM, binL, augM, biM, bnM, cmpM, cmpI, ltM, leM, inM, eqF, flatD, isM, Cl.isNon, truM, intM, idxM, slcM, lenM, lstAt, Cl.putAt, isaM, tyM, tyName, lsrcM, srcM, calmly, depOk_nil, sizeLine_eq, wipeE, gmul_r, gmul_l, gdiv, gmod, gmod', fdiv_pos, fmod_pos, grg, grg2, gsz, atI_pos]) rfl)
  · rw [landB_false (by rintro ⟨n, ws, e, _⟩; cases e)]
    exact ends_seq (ends_rt (d := .bl false) (h := []) (by simp (disch := first | omega | (simp; done) | fail) [ir_law_is_land_2, semS, semE, semA, semN, semO, semI, exS, bnd, optM, pur, setTg, seqM, lsM, binM, binL, augM, biM, bnM, cmpM, cmpI, ltM, leM, inM, eqF, flatD, isM, Cl.isNon, truM, intM, idxM, slcM, lenM, lstAt, Cl.putAt, isaM, tyM, tyName, lsrcM, srcM, calmly, depOk_nil, sizeLine_eq, wipeE, gmul_r, gmul_l, gdiv, gmod, gmod', fdiv_pos, fmod_pos, grg, grg2, gsz, atI_pos]) rfl)
  by_cases z20 : wl.length ≤ 20
  rotate_left
  · have zi : (20 : Int) < wl.length := by omega
    rw [landB_false (by
      rintro ⟨n, ws, e, hL⟩
      cases e
      have := hL.few
      simp at z20
      omega)]
    exact ends_seq (ends_rt (d := .bl false) (h := []) (by simp (disch := first | omega | (simp; done) | fail) [ir_law_is_land_2, semS, semE, semA, semN, semO, semI, exS, bnd, optM, pur, setTg, seqM, lsM, binM, binL, augM, biM, bnM, cmpM, cmpI, ltM, leM, inM, eqF, flatD, isM, Cl.isNon, truM, intM, idxM, slcM, lenM, lstAt, Cl.putAt, isaM, tyM, tyName, lsrcM, srcM, calmly, depOk_nil, sizeLine_eq, wipeE, gmul_r, gmul_l, gdiv, gmod, gmod', fdiv_pos, fmod_pos, grg, grg2, gsz, atI_pos, zi]) rfl)
  have zi : ¬ (20 : Int) < wl.length := by omega
  have notLand : wl.all (fun d => wayB n d) = false → landB (.tup [.int n, .tup wl]) = false := fun q2 => landB_false (by
      rintro ⟨n', ws, e, hL⟩
      simp only [encLand, encW, D.tup.injEq, List.cons.injEq, D.int.injEq, and_true] at e
      have e1 : n = n' := by omega
      subst e1
      have e2 : wl = encs ws := e.2
      have : wl.all (fun d => wayB n d) = true := by
        rw [List.all_eq_true, e2]
        exact wayB_of hL.lt
      rw [q2] at this
      cases this)
  have k1 := comp_map (G := { tab := [] }) (C := []) (own := [3]) (tg := .nm 3) (src := .var 2) (elt := .and (.isa (.var 3) ["tuple"]) (.cmp .Eq (.bi .len (.cons (.var 3) .nil)) (.int 2))) (env := [some (.tup [.int n, .tup wl]), some (.int n), some (.tup wl), none, none, none, none, none, none]) (h := [])
    wl id (fun d => .bl (pr2 d)) (by simp (disch := first | omega | (simp; done) | fail) [semS, semE, semA, semN, semO, semI, exS, bnd, optM, pur, setTg, seqM, lsM, binM, binL, augM, biM, bnM, cmpM, cmpI, ltM, leM, inM, eqF, flatD, isM, Cl.isNon, truM, intM, idxM, slcM, lenM, lstAt, Cl.putAt, isaM, tyM, tyName, lsrcM, srcM, calmly, depOk_nil, sizeLine_eq, wipeE, gmul_r, gmul_l, gdiv, gmod, gmod', fdiv_pos, fmod_pos, grg, grg2, gsz, atI_pos]) (by omega) (fun d hd => by
      have hd' := hx2 d hd
      refine ⟨[some (.tup [.int n, .tup wl]), some (.int n), some (.tup wl), some d, none, none, none, none, none], by simp [semS, semE, semA, semN, semO, semI, exS, bnd, optM, pur, setTg, seqM, lsM, binM, binL, augM, biM, bnM, cmpM, cmpI, ltM, leM, inM, eqF, flatD, isM, Cl.isNon, truM, intM, idxM, slcM, lenM, lstAt, Cl.putAt, isaM, tyM, tyName, lsrcM, srcM, calmly, depOk_nil, sizeLine_eq, wipeE], ?_⟩
      rcases plD_cases hd' with rfl | ⟨k, rfl⟩ | ⟨i, rfl⟩ | ⟨x, rfl⟩ | ⟨m, xs, rfl, rfl, _, _⟩
      · simp (disch := first | omega | (simp; done) | fail) [semS, semE, semA, semN, semO, semI, exS, bnd, optM, pur, setTg, seqM, lsM, binM, binL, augM, biM, bnM, cmpM, cmpI, ltM, leM, inM, eqF, flatD, isM, Cl.isNon, truM, intM, idxM, slcM, lenM, lstAt, Cl.putAt, isaM, tyM, tyName, lsrcM, srcM, calmly, depOk_nil, sizeLine_eq, wipeE, gmul_r, gmul_l, gdiv, gmod, gmod', fdiv_pos, fmod_pos, grg, grg2, gsz, atI_pos, pr2]
      · simp (disch := first | omega | (simp; done) | fail) [semS, semE, semA, semN, semO, semI, exS, bnd, optM, pur, setTg, seqM, lsM, binM, binL, augM, biM, bnM, cmpM, cmpI, ltM, leM, inM, eqF, flatD, isM, Cl.isNon, truM, intM, idxM, slcM, lenM, lstAt, Cl.putAt, isaM, tyM, tyName, lsrcM, srcM, calmly, depOk_nil, sizeLine_eq, wipeE, gmul_r, gmul_l, gdiv, gmod, gmod', fdiv_pos, fmod_pos, grg, grg2, gsz, atI_pos, pr2]
      · simp (disch := first | omega | (simp; done) | fail) [semS, semE, semA, semN, semO, semI, exS, bnd, optM, pur, setTg, seqM, lsM, binM, binL, augM, biM, bnM, cmpM, cmpI, ltM, leM, inM, eqF, flatD, isM, Cl.isNon, truM, intM, idxM, slcM, lenM, lstAt, Cl.putAt, isaM, tyM, tyName, lsrcM, srcM, calmly, depOk_nil, sizeLine_eq, wipeE, gmul_r, gmul_l, gdiv, gmod, gmod', fdiv_pos, fmod_pos, grg, grg2, gsz, atI_pos, pr2]
      · simp (disch := first | omega | (simp; done) | fail) [semS, semE, semA, semN, semO, semI, exS, bnd, optM, pur, setTg, seqM, lsM, binM, binL, augM, biM, bnM, cmpM, cmpI, ltM, leM, inM, eqF, flatD, isM, Cl.isNon, truM, intM, idxM, slcM, lenM, lstAt, Cl.putAt, isaM, tyM, tyName, lsrcM, srcM, calmly, depOk_nil, sizeLine_eq, wipeE, gmul_r, gmul_l, gdiv, gmod, gmod', fdiv_pos, fmod_pos, grg, grg2, gsz, atI_pos, pr2]
      · by_cases y : xs.length = 2
        · have yi : (xs.length : Int) = 2 := by omega
          simp (disch := first | omega | (simp; done) | fail) [semS, semE, semA, semN, semO, semI, exS, bnd, optM, pur, setTg, seqM, lsM, binM, binL, augM, biM, bnM, cmpM, cmpI, ltM, leM, inM, eqF, flatD, isM, Cl.isNon, truM, intM, idxM, slcM, lenM, lstAt, Cl.putAt, isaM, tyM, tyName, lsrcM, srcM, calmly, depOk_nil, sizeLine_eq, wipeE, gmul_r, gmul_l, gdiv, gmod, gmod', fdiv_pos, fmod_pos, grg, grg2, gsz, atI_pos, pr2, y, yi]
        · have yi : ¬ (xs.length : Int) = 2 := by omega
          simp (disch := first | omega | (simp; done) | fail) [semS, semE, semA, semN, semO, semI, exS, bnd, optM, pur, setTg, seqM, lsM, binM, binL, augM, biM, bnM, cmpM, cmpI, ltM, leM, inM, eqF, flatD, isM, Cl.isNon, truM, intM, idxM, slcM, lenM, lstAt, Cl.putAt, isaM, tyM, tyName, lsrcM, srcM, calmly, depOk_nil, sizeLine_eq, wipeE, gmul_r, gmul_l, gdiv, gmod, gmod', fdiv_pos, fmod_pos, grg, grg2, gsz, atI_pos, pr2, y, yi])
  have kb := blsD_fun (fun d => pr2 d) wl
  have ka := all_id wl (fun d => pr2 d)
  by_cases q2 : wl.all (fun d => pr2 d) = true
  rotate_left
  · rw [Bool.not_eq_true] at q2
    rw [notLand (by
      rw [List.all_eq_false] at q2 ⊢
      obtain ⟨d, hd, e⟩ := q2
      exact ⟨d, hd, fun y => e (wayB_pr2 y)⟩)]
    rw [q2] at ka
    exact ends_seq (ends_rt (d := .bl false) (h := []) (by simp (disch := first | omega | (simp; done) | fail) [ir_law_is_land_2, semS, semE, semA, semO, semI, exS, bnd, optM, pur, setTg, seqM, lsM, binM, binL, augM, biM, bnM, cmpM, cmpI, ltM, leM, inM, eqF, flatD, isM, Cl.isNon, truM, intM, idxM, slcM, lenM, lstAt, Cl.putAt, isaM, tyM, tyName, lsrcM, srcM, calmly, depOk_nil, sizeLine_eq, wipeE, gmul_r, gmul_l, gdiv, gmod, gmod', fdiv_pos, fmod_pos, grg, grg2, gsz, atI_pos, zi, k1, kb, ka]) rfl)
  rw [q2] at ka
  refine ends_step (e := [some (.tup [.int n, .tup wl]), some (.int n), some (.tup wl), none, none, none, none, none, none]) (h' := []) (by simp (disch := first | omega | (simp; done) | fail) [ir_law_is_land_2, semS, semE, semA, semO, semI, exS, bnd, optM, pur, setTg, seqM, lsM, binM, binL, augM, biM, bnM, cmpM, cmpI, ltM, leM, inM, eqF, flatD, isM, Cl.isNon, truM, intM, idxM, slcM, lenM, lstAt, Cl.putAt, isaM, tyM, tyName, lsrcM, srcM, calmly, depOk_nil, sizeLine_eq, wipeE, gmul_r, gmul_l, gdiv, gmod, gmod', fdiv_pos, fmod_pos, grg, grg2, gsz, atI_pos, zi, k1, kb, ka]) ?_
  clear k1 kb ka
  refine ends_seq ?_
  unfold ir_law_is_land_3
  refine ends_forS wl id (h0 := []) (by simp (disch := first | omega | (simp; done) | fail) [semS, semE, semA, semN, semO, semI, exS, bnd, optM, pur, setTg, seqM, lsM, binM, binL, augM, biM, bnM, cmpM, cmpI, ltM, leM, inM, eqF, flatD, isM, Cl.isNon, truM, intM, idxM, slcM, lenM, lstAt, Cl.putAt, isaM, tyM, tyName, lsrcM, srcM, calmly, depOk_nil, sizeLine_eq, wipeE, gmul_r, gmul_l, gdiv, gmod, gmod', fdiv_pos, fmod_pos, grg, grg2, gsz, atI_pos]) (fun k e h => h = [] ∧ (∀ j d, j < k → wl[j]? = some d → wayB n d = true) ∧ ∃ o3, e = [some (.tup [.int n, .tup wl]), some (.int n), some (.tup wl), o3, none, none, none, none, none]) ?_ ?_ ⟨rfl, fun j d hj => by omega, none, rfl⟩
  · rintro k d env h hi ⟨rfl, hC, o3, rfl⟩
    have hdm := List.mem_of_getElem? hi
    have hd := hx2 d hdm
    have hp := List.all_eq_true.mp q2 d hdm
    obtain ⟨xs, rfl, hxs⟩ : ∃ xs, d = .tup xs ∧ xs.length = 2 := by
      unfold pr2 at hp
      split at hp
      · exact ⟨_, rfl, by simpa using hp⟩
      · cases hp
    obtain ⟨a, b, rfl⟩ := two_of hxs
    have hab : plD k a = true ∨ True := .inr trivial
    obtain ⟨m3, hm3⟩ : ∃ m3, ∀ x ∈ [a, b], plD m3 x = true := by
      rcases plD_cases hd with e | ⟨k, e⟩ | ⟨i, e⟩ | ⟨x, e⟩ | ⟨m3, xs', _, e, _, hx3⟩
      · cases e
      · cases e
      · cases e
      · cases e
      · cases e
        exact ⟨m3, hx3⟩
    refine ⟨[some (.tup [.int n, .tup wl]), some (.int n), some (.tup wl), some (.tup [a, b]), none, none, none, none, none], by simp [semS, semE, semA, semN, semO, semI, exS, bnd, optM, pur, setTg, seqM, lsM, binM, binL, augM, biM, bnM, cmpM, cmpI, ltM, leM, inM, eqF, flatD, isM, Cl.isNon, truM, intM, idxM, slcM, lenM, lstAt, Cl.putAt, isaM, tyM, tyName, lsrcM, srcM, calmly, depOk_nil, sizeLine_eq, wipeE], ?_⟩
    unfold ir_law_is_land_b0
    have k1 := comp_map (G := { tab := [] }) (C := []) (own := [4]) (tg := .nm 4) (src := .var 3) (elt := .and (.isa (.var 4) ["int"]) (.and (.not (.isa (.var 4) ["bool"])) (.chain .LtE .Lt (.int 0) (.var 4) (.var 1)))) (env := [some (.tup [.int n, .tup wl]), some (.int n), some (.tup wl), some (.tup [a, b]), none, none, none, none, none]) (h := [])
      [a, b] id (fun d => .bl (numB 0 (n - 1) d)) (by simp (disch := first | omega | (simp; done) | fail) [semS, semE, semA, semN, semO, semI, exS, bnd, optM, pur, setTg, seqM, lsM, binM, binL, augM, biM, bnM, cmpM, cmpI, ltM, leM, inM, eqF, flatD, isM, Cl.isNon, truM, intM, idxM, slcM, lenM, lstAt, Cl.putAt, isaM, tyM, tyName, lsrcM, srcM, calmly, depOk_nil, sizeLine_eq, wipeE, gmul_r, gmul_l, gdiv, gmod, gmod', fdiv_pos, fmod_pos, grg, grg2, gsz, atI_pos]) (by simp) (fun d hd => by
        refine ⟨[some (.tup [.int n, .tup wl]), some (.int n), some (.tup wl), some (.tup [a, b]), some d, none, none, none, none], by simp [semS, semE, semA, semN, semO, semI, exS, bnd, optM, pur, setTg, seqM, lsM, binM, binL, augM, biM, bnM, cmpM, cmpI, ltM, leM, inM, eqF, flatD, isM, Cl.isNon, truM, intM, idxM, slcM, lenM, lstAt, Cl.putAt, isaM, tyM, tyName, lsrcM, srcM, calmly, depOk_nil, sizeLine_eq, wipeE], ?_⟩
        rcases plD_cases (hm3 d hd) with rfl | ⟨k, rfl⟩ | ⟨i, rfl⟩ | ⟨x, rfl⟩ | ⟨m, xs, rfl, rfl, _, _⟩
        · simp (disch := first | omega | (simp; done) | fail) [semS, semE, semA, semN, semO, semI, exS, bnd, optM, pur, setTg, seqM, lsM, binM, binL, augM, biM, bnM, cmpM, cmpI, ltM, leM, inM, eqF, flatD, isM, Cl.isNon, truM, intM, idxM, slcM, lenM, lstAt, Cl.putAt, isaM, tyM, tyName, lsrcM, srcM, calmly, depOk_nil, sizeLine_eq, wipeE, gmul_r, gmul_l, gdiv, gmod, gmod', fdiv_pos, fmod_pos, grg, grg2, gsz, atI_pos, numB]
        · simp (disch := first | omega | (simp; done) | fail) [semS, semE, semA, semN, semO, semI, exS, bnd, optM, pur, setTg, seqM, lsM, binM, binL, augM, biM, bnM, cmpM, cmpI, ltM, leM, inM, eqF, flatD, isM, Cl.isNon, truM, intM, idxM, slcM, lenM, lstAt, Cl.putAt, isaM, tyM, tyName, lsrcM, srcM, calmly, depOk_nil, sizeLine_eq, wipeE, gmul_r, gmul_l, gdiv, gmod, gmod', fdiv_pos, fmod_pos, grg, grg2, gsz, atI_pos, numB]
        · by_cases y : 0 ≤ i
          · by_cases y2 : i < n
            · have y3 : i ≤ (n : Int) - 1 := by omega
              simp (disch := first | omega | (simp; done) | fail) [semS, semE, semA, semN, semO, semI, exS, bnd, optM, pur, setTg, seqM, lsM, binM, binL, augM, biM, bnM, cmpM, cmpI, ltM, leM, inM, eqF, flatD, isM, Cl.isNon, truM, intM, idxM, slcM, lenM, lstAt, Cl.putAt, isaM, tyM, tyName, lsrcM, srcM, calmly, depOk_nil, sizeLine_eq, wipeE, gmul_r, gmul_l, gdiv, gmod, gmod', fdiv_pos, fmod_pos, grg, grg2, gsz, atI_pos, numB, y, y2, y3]
            · have y3 : ¬ i ≤ (n : Int) - 1 := by omega
              simp (disch := first | omega | (simp; done) | fail) [semS, semE, semA, semN, semO, semI, exS, bnd, optM, pur, setTg, seqM, lsM, binM, binL, augM, biM, bnM, cmpM, cmpI, ltM, leM, inM, eqF, flatD, isM, Cl.isNon, truM, intM, idxM, slcM, lenM, lstAt, Cl.putAt, isaM, tyM, tyName, lsrcM, srcM, calmly, depOk_nil, sizeLine_eq, wipeE, gmul_r, gmul_l, gdiv, gmod, gmod', fdiv_pos, fmod_pos, grg, grg2, gsz, atI_pos, numB, y, y2, y3]
          · simp (disch := first | omega | (simp; done) | fail) [semS, semE, semA, semN, semO, semI, exS, bnd, optM, pur, setTg, seqM, lsM, binM, binL, augM, biM, bnM, cmpM, cmpI, ltM, leM, inM, eqF, flatD, isM, Cl.isNon, truM, intM, idxM, slcM, lenM, lstAt, Cl.putAt, isaM, tyM, tyName, lsrcM, srcM, calmly, depOk_nil, sizeLine_eq, wipeE, gmul_r, gmul_l, gdiv, gmod, gmod', fdiv_pos, fmod_pos, grg, grg2, gsz, atI_pos, numB, y]
        · simp (disch := first | omega | (simp; done) | fail) [semS, semE, semA, semN, semO, semI, exS, bnd, optM, pur, setTg, seqM, lsM, binM, binL, augM, biM, bnM, cmpM, cmpI, ltM, leM, inM, eqF, flatD, isM, Cl.isNon, truM, intM, idxM, slcM, lenM, lstAt, Cl.putAt, isaM, tyM, tyName, lsrcM, srcM, calmly, depOk_nil, sizeLine_eq, wipeE, gmul_r, gmul_l, gdiv, gmod, gmod', fdiv_pos, fmod_pos, grg, grg2, gsz, atI_pos, numB]
        · simp (disch := first | omega | (simp; done) | fail) [semS, semE, semA, semN, semO, semI, exS, bnd, optM, pur, setTg, seqM, lsM, binM, binL, augM, biM, bnM, cmpM, cmpI, ltM, leM, inM, eqF, flatD, isM, Cl.isNon, truM, intM, idxM, slcM, lenM, lstAt, Cl.putAt, isaM, tyM, tyName, lsrcM, srcM, calmly, depOk_nil, sizeLine_eq, wipeE, gmul_r, gmul_l, gdiv, gmod, gmod', fdiv_pos, fmod_pos, grg, grg2, gsz, atI_pos, numB])
    simp only [List.map_cons, List.map_nil] at k1
    by_cases hw : wayB n (.tup [a, b]) = true
    · obtain ⟨i, j, e, h1, h2, h3⟩ : ∃ i j : Int, D.tup [a, b] = .tup [.int i, .int j] ∧ 0 ≤ i ∧ i < j ∧ j ≤ (n : Int) - 1 := by
        unfold wayB at hw
        split at hw
        · rename_i i j e
          exact ⟨i, j, e, by simpa using hw⟩
        · cases hw
      cases e
      have b1 : numB 0 (n - 1) (.int i) = true := by simp [numB]; omega
      have b2 : numB 0 (n - 1) (.int j) = true := by simp [numB]; omega
      have b3 : ¬ j ≤ i := by omega
      refine ends_step (e := [some (.tup [.int n, .tup wl]), some (.int n), some (.tup wl), some (.tup [.int i, .int j]), none, none, none, none, none]) (h' := []) (by simp (disch := first | omega | (simp; done) | fail) [semS, semE, semA, semO, semI, exS, bnd, optM, pur, setTg, seqM, lsM, binM, binL, augM, biM, bnM, cmpM, cmpI, ltM, leM, inM, eqF, flatD, isM, Cl.isNon, truM, intM, idxM, slcM, lenM, lstAt, Cl.putAt, isaM, tyM, tyName, lsrcM, srcM, calmly, depOk_nil, sizeLine_eq, wipeE, gmul_r, gmul_l, gdiv, gmod, gmod', fdiv_pos, fmod_pos, grg, grg2, gsz, atI_pos, k1, b1, b2, b3, blsD]) ?_
      refine ends_nop ⟨rfl, fun j' d' hj' hd' => ?_, _, rfl⟩
      rcases Nat.lt_or_ge j' k with y | y
      · exact hC j' d' y hd'
      · obtain rfl : j' = k := by omega
        rw [hi] at hd'
        cases hd'
        exact hw
    · rw [Bool.not_eq_true] at hw
      rw [notLand (by
        rw [List.all_eq_false]
        exact ⟨_, hdm, by simp [hw]⟩)]
      refine ends_seq (ends_rt (d := .bl false) (h := []) ?_ rfl)
      by_cases q : (numB 0 (n - 1) a && numB 0 (n - 1) b) = true
      · rw [Bool.and_eq_true] at q
        obtain ⟨i, rfl, i1, i2⟩ := numB_iff.mp q.1
        obtain ⟨j, rfl, j1, j2⟩ := numB_iff.mp q.2
        have b3 : j ≤ i := by
          simp [wayB] at hw
          by_cases y : i < j
          · have := hw i1 y
            omega
          · omega
        simp (disch := first | omega | (simp; done) | fail) [semS, semE, semA, semO, semI, exS, bnd, optM, pur, setTg, seqM, lsM, binM, binL, augM, biM, bnM, cmpM, cmpI, ltM, leM, inM, eqF, flatD, isM, Cl.isNon, truM, intM, idxM, slcM, lenM, lstAt, Cl.putAt, isaM, tyM, tyName, lsrcM, srcM, calmly, depOk_nil, sizeLine_eq, wipeE, gmul_r, gmul_l, gdiv, gmod, gmod', fdiv_pos, fmod_pos, grg, grg2, gsz, atI_pos, k1, q.1, q.2, b3, blsD]
      · rw [Bool.not_eq_true, Bool.and_eq_false_iff] at q
        rcases q with q | q <;> simp (disch := first | omega | (simp; done) | fail) [semS, semE, semA, semO, semI, exS, bnd, optM, pur, setTg, seqM, lsM, binM, binL, augM, biM, bnM, cmpM, cmpI, ltM, leM, inM, eqF, flatD, isM, Cl.isNon, truM, intM, idxM, slcM, lenM, lstAt, Cl.putAt, isaM, tyM, tyName, lsrcM, srcM, calmly, depOk_nil, sizeLine_eq, wipeE, gmul_r, gmul_l, gdiv, gmod, gmod', fdiv_pos, fmod_pos, grg, grg2, gsz, atI_pos, k1, q, blsD]
  · rintro env h ⟨rfl, hC, o3, rfl⟩
    have q3 : ∀ x ∈ wl, wayB n x = true := fun x hx => by
      obtain ⟨j, hj, e⟩ := List.getElem_of_mem hx
      exact hC j x hj (by rw [List.getElem?_eq_getElem hj, e])
    clear hC notLand
    obtain ⟨ws, rfl, hw⟩ := ways_of (n := n) q3
    have hlw : ws.length ≤ 20 := by simpa [encs] using z20
    have k2 := ev_asc (G := { tab := [] }) (C := []) (env := [some (.tup [.int n, .tup (encs ws)]), some (.int n), some (.tup (encs ws)), o3, none, none, none, none, none]) (h := []) (i := 2) (j := 5) (n := n) (ws := ws) (by decide) (by simp) rfl (by omega)
    have kb := blsD_fun (wlA ws) (List.range (ws.length - 1))
    have ka := all_id (List.range (ws.length - 1)) (wlA ws)
    have ka : ((List.range (ws.length - 1)).map (wlA ws)).all id = ascB ws := ka
    by_cases q3 : ascB ws = true
    rotate_left
    · rw [Bool.not_eq_true] at q3
      rw [landB_false (fun hL => by
        have := (landV_iff.mp hL).asc
        rw [q3] at this
        cases this)]
      rw [q3] at ka
      exact ends_seq (ends_rt (d := .bl false) (h := []) (by simp (disch := first | omega | (simp; done) | fail) [ir_law_is_land_4, semS, semE, semA, semO, semI, exS, bnd, optM, pur, setTg, seqM, lsM, binM, binL, augM, biM, bnM, cmpM, cmpI, ltM, leM, inM, eqF, flatD, isM, Cl.isNon, truM, intM, idxM, slcM, lenM, lstAt, Cl.putAt, isaM, tyM, tyName, lsrcM, srcM, calmly, depOk_nil, sizeLine_eq, wipeE, gmul_r, gmul_l, gdiv, gmod, gmod', fdiv_pos, fmod_pos, grg, grg2, gsz, atI_pos, k2, kb, ka]) rfl)
    rw [q3] at ka
    refine ends_step (e := [some (.tup [.int n, .tup (encs ws)]), some (.int n), some (.tup (encs ws)), o3, none, none, none, none, none]) (h' := []) (by simp (disch := first | omega | (simp; done) | fail) [ir_law_is_land_4, semS, semE, semA, semO, semI, exS, bnd, optM, pur, setTg, seqM, lsM, binM, binL, augM, biM, bnM, cmpM, cmpI, ltM, leM, inM, eqF, flatD, isM, Cl.isNon, truM, intM, idxM, slcM, lenM, lstAt, Cl.putAt, isaM, tyM, tyName, lsrcM, srcM, calmly, depOk_nil, sizeLine_eq, wipeE, gmul_r, gmul_l, gdiv, gmod, gmod', fdiv_pos, fmod_pos, grg, grg2, gsz, atI_pos, k2, kb, ka]) ?_
    clear k2 kb ka
    have n1 : 1 ≤ n := by omega
    refine ends_step (e := [some (.tup [.int n, .tup (encs ws)]), some (.int n), some (.tup (encs ws)), o3, none, none, some (.ref 0), none, none]) (h' := [.lst (natsD [0])]) (by simp (disch := first | omega | (simp; done) | fail) [ir_law_is_land_5, semS, semE, semA, semN, semO, semI, exS, bnd, optM, pur, setTg, seqM, lsM, binM, binL, augM, biM, bnM, cmpM, cmpI, ltM, leM, inM, eqF, flatD, isM, Cl.isNon, truM, intM, idxM, slcM, lenM, lstAt, Cl.putAt, isaM, tyM, tyName, lsrcM, srcM, calmly, depOk_nil, sizeLine_eq, wipeE, gmul_r, gmul_l, gdiv, gmod, gmod', fdiv_pos, fmod_pos, grg, grg2, gsz, atI_pos, natsD]) ?_
    refine ends_seq ?_
    unfold ir_law_is_land_6
    refine ends_forS (List.range n) (fun i : Nat => D.int (0 + (i : Int))) (h0 := [.lst (natsD [0])]) (by simp (disch := first | omega | (simp; done) | fail) [semS, semE, semA, semN, semO, semI, exS, bnd, optM, pur, setTg, seqM, lsM, binM, binL, augM, biM, bnM, cmpM, cmpI, ltM, leM, inM, eqF, flatD, isM, Cl.isNon, truM, intM, idxM, slcM, lenM, lstAt, Cl.putAt, isaM, tyM, tyName, lsrcM, srcM, calmly, depOk_nil, sizeLine_eq, wipeE, gmul_r, gmul_l, gdiv, gmod, gmod', fdiv_pos, fmod_pos, grg, grg2, gsz, atI_pos, rangeD_eq]) (fun k e h => h = [.lst (natsD (rnds ws k))] ∧ ∃ o4 o7 o8, e = [some (.tup [.int n, .tup (encs ws)]), some (.int n), some (.tup (encs ws)), o3, o4, none, some (.ref 0), o7, o8]) ?_ ?_ ⟨rfl, none, none, none, rfl⟩
    · rintro k i env h hi ⟨rfl, o4, o7, o8, rfl⟩
      refine ⟨[some (.tup [.int n, .tup (encs ws)]), some (.int n), some (.tup (encs ws)), o3, o4, none, some (.ref 0), some (.int i), o8], by simp [semS, semE, semA, semN, semO, semI, exS, bnd, optM, pur, setTg, seqM, lsM, binM, binL, augM, biM, bnM, cmpM, cmpI, ltM, leM, inM, eqF, flatD, isM, Cl.isNon, truM, intM, idxM, slcM, lenM, lstAt, Cl.putAt, isaM, tyM, tyName, lsrcM, srcM, calmly, depOk_nil, sizeLine_eq, wipeE], ?_⟩
      unfold ir_law_is_land_b2
      have hG := Grp.rnds n1 hw k
      refine ends_seq ?_
      refine ends_forS ws (fun p => D.tup [.int p.1, .int p.2]) (h0 := [.lst (natsD (rnds ws k))]) (by simp (disch := first | omega | (simp; done) | fail) [semS, semE, semA, semN, semO, semI, exS, bnd, optM, pur, setTg, seqM, lsM, binM, binL, augM, biM, bnM, cmpM, cmpI, ltM, leM, inM, eqF, flatD, isM, Cl.isNon, truM, intM, idxM, slcM, lenM, lstAt, Cl.putAt, isaM, tyM, tyName, lsrcM, srcM, calmly, depOk_nil, sizeLine_eq, wipeE, gmul_r, gmul_l, gdiv, gmod, gmod', fdiv_pos, fmod_pos, grg, grg2, gsz, atI_pos]) (fun t e h => h = [.lst (natsD (rnd (ws.take t) (rnds ws k)))] ∧ ∃ o4 o8, e = [some (.tup [.int n, .tup (encs ws)]), some (.int n), some (.tup (encs ws)), o3, o4, none, some (.ref 0), some (.int i), o8]) ?_ ?_ ⟨rfl, _, _, rfl⟩
      · rintro t p env h hp ⟨rfl, o4, o8, rfl⟩
        have hpm := List.mem_of_getElem? hp
        refine ⟨[some (.tup [.int n, .tup (encs ws)]), some (.int n), some (.tup (encs ws)), o3, some (.int p.1), none, some (.ref 0), some (.int i), some (.int p.2)], by simp (disch := first | omega | (simp; done) | fail) [semS, semE, semA, semN, semO, semI, exS, bnd, optM, pur, setTg, seqM, lsM, binM, binL, augM, biM, bnM, cmpM, cmpI, ltM, leM, inM, eqF, flatD, isM, Cl.isNon, truM, intM, idxM, slcM, lenM, lstAt, Cl.putAt, isaM, tyM, tyName, lsrcM, srcM, calmly, depOk_nil, sizeLine_eq, wipeE, gmul_r, gmul_l, gdiv, gmod, gmod', fdiv_pos, fmod_pos, grg, grg2, gsz, atI_pos, gle], ?_⟩
        have hG2 := Grp.rnd hw (ws.take t) (rnds ws k) (fun q hq => List.mem_of_mem_take hq) hG
        have et : rnd (ws.take (t + 1)) (rnds ws k) = rnd1 (rnd (ws.take t) (rnds ws k)) p := by
          rw [List.take_succ, hp]
          unfold rnd
          rw [List.foldl_append]; rfl
        rw [et]
        generalize rnd (ws.take t) (rnds ws k) = W at hG2
        have hle := hG2.le
        have i1 := in_nats W p.1
        have i2 := in_nats W p.2
        have lW : (natsD W).length = W.length := by simp [natsD]
        unfold ir_law_is_land_b1
        by_cases y : decide (p.1 ∈ W) = decide (p.2 ∈ W)
        · have er : rnd1 W p = W := by unfold rnd1; rw [if_neg (by simpa using y)]
          rw [er]
          refine ends_step (e := [some (.tup [.int n, .tup (encs ws)]), some (.int n), some (.tup (encs ws)), o3, some (.int p.1), none, some (.ref 0), some (.int i), some (.int p.2)]) (h' := [.lst (natsD W)]) (by
            simp only [semS, exS, semE, bnd, optM, pur, cmpM, truM, List.getElem?_cons_succ, List.getElem?_cons_zero, Option.bind_some, id, i1, i2, eqM_bl, y]
            simp) ?_
          exact ends_nop ⟨rfl, _, _, rfl⟩
        · have er : rnd1 W p = W ++ [if p.1 ∈ W then p.2 else p.1] := by unfold rnd1; rw [if_pos y]
          rw [er]
          refine ends_seq (ends_ite (k := true) (h1 := [.lst (natsD W)]) (by
            simp only [semE, bnd, optM, pur, cmpM, truM, List.getElem?_cons_succ, List.getElem?_cons_zero, Option.bind_some, id, i1, i2, eqM_bl]
            simp [y]) ?_)
          rw [if_pos rfl]
          have ax := sem_app0 (G := { tab := [] }) (C := []) (env := [some (.tup [.int n, .tup (encs ws)]), some (.int n), some (.tup (encs ws)), o3, some (.int p.1), none, some (.ref 0), some (.int i), some (.int p.2)]) (i := 6) (r := 0) (x := .ite (.cmp .In (.var 4) (.var 6)) (.var 8) (.var 4)) (y := .int (if p.1 ∈ W then p.2 else p.1 : Nat)) (xs := natsD W) (hc := [.lst (natsD W)]) rfl rfl (by
            by_cases u : p.1 ∈ W
            · simp only [semE, bnd, optM, pur, cmpM, truM, List.getElem?_cons_succ, List.getElem?_cons_zero, Option.bind_some, id, i1]
              simp [u, pur]
            · simp only [semE, bnd, optM, pur, cmpM, truM, List.getElem?_cons_succ, List.getElem?_cons_zero, Option.bind_some, id, i1]
              simp [u, pur]) (by rw [lW]; omega)
          refine ends_step (e := [some (.tup [.int n, .tup (encs ws)]), some (.int n), some (.tup (encs ws)), o3, some (.int p.1), none, some (.ref 0), some (.int i), some (.int p.2)]) (h' := [.lst (natsD (W ++ [if p.1 ∈ W then p.2 else p.1]))]) (by
            rw [ax]
            simp [natsD]) ?_
          exact ends_nop (ends_nop ⟨rfl, _, _, rfl⟩)
      · rintro env h ⟨rfl, o4, o8, rfl⟩
        rw [List.take_length]
        exact ends_nop ⟨rfl, _, _, _, rfl⟩
    · rintro env h ⟨rfl, o4, o7, o8, rfl⟩
      rw [List.length_range]
      have hf := rnds_full n1 hw
      have lW : (natsD (rnds ws n)).length = (rnds ws n).length := by simp [natsD]
      generalize rnds ws n = W at hf lW
      have eb : landB (.tup [.int n, .tup (encs ws)]) = decide (W.length = n) := by
        by_cases y : W.length = n
        · rw [decide_eq_true y]
          unfold landB
          exact @decide_eq_true _ (Classical.propDecidable _) (landV_iff.mpr ⟨n1, by omega, hlw, hw, q3, hf.mp y⟩)
        · rw [decide_eq_false y]
          exact landB_false fun hL => y (hf.mpr (landV_iff.mp hL).conn)
      rw [eb]
      refine ends_seq (ends_rt (d := .bl (decide (W.length = n))) (h := [.lst (natsD W)]) ?_ rfl)
      by_cases y : W.length = n
      · have yi : (W.length : Int) = n := by omega
        simp (disch := first | omega | (simp; done) | fail) [ir_law_is_land_7, semS, semE, semA, semN, semO, semI, exS, bnd, optM, pur, setTg, seqM, lsM, binM, binL, augM, biM, bnM, cmpM, cmpI, ltM, leM, inM, eqF, flatD, isM, Cl.isNon, truM, intM, idxM, slcM, lenM, lstAt, Cl.putAt, isaM, tyM, tyName, lsrcM, srcM, calmly, depOk_nil, sizeLine_eq, wipeE, gmul_r, gmul_l, gdiv, gmod, gmod', fdiv_pos, fmod_pos, grg, grg2, gsz, atI_pos, lW, yi, y]
      · have yi : ¬ (W.length : Int) = n := by omega
        simp (disch := first | omega | (simp; done) | fail) [ir_law_is_land_7, semS, semE, semA, semN, semO, semI, exS, bnd, optM, pur, setTg, seqM, lsM, binM, binL, augM, biM, bnM, cmpM, cmpI, ltM, leM, inM, eqF, flatD, isM, Cl.isNon, truM, intM, idxM, slcM, lenM, lstAt, Cl.putAt, isaM, tyM, tyName, lsrcM, srcM, calmly, depOk_nil, sizeLine_eq, wipeE, gmul_r, gmul_l, gdiv, gmod, gmod', fdiv_pos, fmod_pos, grg, grg2, gsz, atI_pos, lW, yi, y]
theorem LL_const {ws : Ways} (t : Int) (v : Nat) : LL ws (fun _ => t) v = 0 := by
  induction ws with
  | nil => rfl
  | cons p ws ih =>
    rw [LL_cons, ih]
    unfold tk
    simp
theorem LandV.mk {n : Nat} {ws : Ways} (h : LandW n ws) : landB (encLand n ws) = true := by
  unfold landB
  exact @decide_eq_true _ (Classical.propDecidable _) (landV_iff.mpr h)
theorem land_conn {n : Nat} {ws : Ways} (h : Land n ws) : Conn n ws := by
  intro v
  induction v using Nat.strongRecOn with
  | ind v ih =>
    intro hv
    rcases Nat.eq_zero_or_pos v with rfl | z
    · exact .zero
    · obtain ⟨p, hp, e⟩ := h.up v z hv
      have l := h.lt p hp
      have := ih p.1 (by omega) (by omega)
      rw [← e]
      exact .step this (adj_way hp l.1).1
theorem asc_of {ws : Ways} (h : WSorted ws) : ascB ws = true := by
  unfold ascB
  rw [List.all_eq_true]
  intro k hk
  rw [List.mem_range] at hk
  have hk1 : k < ws.length := by omega
  have hk2 : k + 1 < ws.length := by omega
  have := List.pairwise_iff_getElem.mp h k (k + 1) hk1 hk2 (by omega)
  unfold wlA wayLe
  rw [List.getD_eq_getElem?_getD, List.getD_eq_getElem?_getD, List.getElem?_eq_getElem hk1, List.getElem?_eq_getElem hk2]
  exact decide_eq_true this
theorem land_ok {n : Nat} {ws : Ways} (n1 : 1 ≤ n) (n8 : n ≤ 8) (h : Land n ws) (hl : ws.length ≤ 20) (hs : ascB ws = true) : LandW n ws := ⟨n1, n8, hl, h.lt, hs, land_conn h⟩
theorem plD_land {n k : Nat} {ws : Ways} (hl : ws.length ≤ 4000) : plD (k + 3) (encLand n ws) = true := by
  simp [plD, encLand, encW, hl]
theorem blsD_false : ∀ l : List Nat, blsD (l.map fun _ => D.bl false) = some (l.map fun _ => false) := fun l => blsD_fun (fun _ => false) l
theorem any_false : ∀ l : List Nat, (l.map fun _ => false).any id = false := fun l => by
  induction l with
  | nil => rfl
  | cons a l ih => rw [List.map_cons, List.any_cons, ih]; rfl
theorem ev_lfine {n : Nat} {ws : Ways} (hW : LandW n ws) (b : Bx) (rest : Hc) : ∃ b', g_law_fine [.ref 1, encLand n ws] (bxH b rest) = .ok (.bl true) (bxH b' rest) := by
  have key : ∃ d h', g_law_fine [.ref 1, encLand n ws] (bxH b rest) = .ok d h' ∧ ∃ b', d = .bl true ∧ h' = bxH b' rest := by
    refine runF_ends (P := fun d h' => ∃ b', d = .bl true ∧ h' = bxH b' rest) [some (.ref 1), some (encLand n ws), none, none, none, none, none, none, none, none, none, none, none] ?_
    unfold ir_law_fine
    have n1 := hW.one
    have n8 := hW.most
    have hlt := hW.lt
    have hfew := hW.few
    have e1 := ev_own (show n ≤ 1000 by omega) hlt (by omega)
    have e2 := ev_is_land (plD_land (n := n) (k := 0) (ws := ws) (by omega))
    rw [LandV.mk hW] at e2
    have e3 := ev_degrees (show n ≤ 1000 by omega) hlt (by omega)
    have e4 := ev_fire (show n ≤ 1000 by omega) hlt (by omega)
    have s1 := same_ok (d := .tup (rowD n (deg ws))) (by simp [datD, sizeLine_eq, datD_row]; omega)
    have s2 := same_ok (d := .tup (tabD n (tabF ws))) (by
      simp only [datD, Bool.and_eq_true, decide_eq_true_eq, List.all_eq_true, sizeLine_eq]
      refine ⟨by simp; omega, fun x hx => ?_⟩
      obtain ⟨i, _, rfl⟩ := List.mem_map.mp hx
      simp [datD, sizeLine_eq, datD_row]; omega)
    refine ends_step (e := [some (.ref 1), some (encLand n ws), some (.int n), some (.fl (rowD n (deg ws))), none, none, none, none, none, none, none, none, none]) (h' := bxH b rest) (by simp (disch := first | omega | (simp; done) | fail) [ir_law_fine_0, semS, semE, semA, semN, semO, semI, exS, bnd, optM, pur, setTg, seqM, lsM, binM, binL, augM, biM, bnM, cmpM, cmpI, ltM, leM, inM, eqF, flatD, isM, Cl.isNon, truM, intM, idxM, slcM, lenM, lstAt, Cl.putAt, isaM, tyM, tyName, lsrcM, srcM, calmly, depOk_nil, sizeLine_eq, wipeE, gmul_r, gmul_l, gdiv, gmod, gmod', fdiv_pos, fmod_pos, grg, grg2, gsz, atI_pos, liftP, noRefL, noRef_land, noRef_encW, noRef, e1]) ?_
    refine ends_step (e := [some (.ref 1), some (encLand n ws), some (.int n), some (.fl (rowD n (deg ws))), none, none, none, none, none, none, none, none, none]) (h' := bxH b rest) (by simp (disch := first | omega | (simp; done) | fail) [ir_law_fine_1, semS, semE, semA, semN, semO, semI, exS, bnd, optM, pur, setTg, seqM, lsM, binM, binL, augM, biM, bnM, cmpM, cmpI, ltM, leM, inM, eqF, flatD, isM, Cl.isNon, truM, intM, idxM, slcM, lenM, lstAt, Cl.putAt, isaM, tyM, tyName, lsrcM, srcM, calmly, depOk_nil, sizeLine_eq, wipeE, gmul_r, gmul_l, gdiv, gmod, gmod', fdiv_pos, fmod_pos, grg, grg2, gsz, atI_pos, liftP, noRefL, noRef_land, noRef_encW, noRef, noRef_rowD, e2, e3, s1]) ?_
    have row : ∀ i, i < n → semN { tab := [liftP p_law_own, liftP p_is_land, liftP (p_law_same 6), liftP p_degrees, liftP p_law_ways, liftP p_fire_table, g_law_draw, liftP p_law_fired, liftP p_fired] } [] (.comp [5] (.nm 5) (.rng1 (.var 2)) .nil (.ite (.cmp .Eq (.var 4) (.var 5)) (.idx (.var 3) (.var 4)) (.bin .Sub (.int 0) (.call 4 (.cons (.var 1) (.cons (.var 4) (.cons (.var 5) .nil))))))) [some (.ref 1), some (encLand n ws), some (.int n), some (.fl (rowD n (deg ws))), some (.int i), none, none, none, none, none, none, none, none] (bxH b rest) = .ok (rowD n (tabF ws i)) (bxH b rest) := fun i hi => by
      have k := comp_map (G := { tab := [liftP p_law_own, liftP p_is_land, liftP (p_law_same 6), liftP p_degrees, liftP p_law_ways, liftP p_fire_table, g_law_draw, liftP p_law_fired, liftP p_fired] }) (C := []) (own := [5]) (tg := .nm 5) (src := .rng1 (.var 2)) (elt := .ite (.cmp .Eq (.var 4) (.var 5)) (.idx (.var 3) (.var 4)) (.bin .Sub (.int 0) (.call 4 (.cons (.var 1) (.cons (.var 4) (.cons (.var 5) .nil)))))) (env := [some (.ref 1), some (encLand n ws), some (.int n), some (.fl (rowD n (deg ws))), some (.int i), none, none, none, none, none, none, none, none]) (h := bxH b rest)
        (List.range n) (fun j : Nat => D.int (0 + (j : Int))) (fun j => D.int (tabF ws i j)) (by simp (disch := first | omega | (simp; done) | fail) [semS, semE, semA, semN, semO, semI, exS, bnd, optM, pur, setTg, seqM, lsM, binM, binL, augM, biM, bnM, cmpM, cmpI, ltM, leM, inM, eqF, flatD, isM, Cl.isNon, truM, intM, idxM, slcM, lenM, lstAt, Cl.putAt, isaM, tyM, tyName, lsrcM, srcM, calmly, depOk_nil, sizeLine_eq, wipeE, gmul_r, gmul_l, gdiv, gmod, gmod', fdiv_pos, fmod_pos, grg, grg2, gsz, atI_pos, rangeD_eq]) (by simp; omega) (fun j hj => by
          refine ⟨[some (.ref 1), some (encLand n ws), some (.int n), some (.fl (rowD n (deg ws))), some (.int i), some (.int j), none, none, none, none, none, none, none], by simp [semS, semE, semA, semN, semO, semI, exS, bnd, optM, pur, setTg, seqM, lsM, binM, binL, augM, biM, bnM, cmpM, cmpI, ltM, leM, inM, eqF, flatD, isM, Cl.isNon, truM, intM, idxM, slcM, lenM, lstAt, Cl.putAt, isaM, tyM, tyName, lsrcM, srcM, calmly, depOk_nil, sizeLine_eq, wipeE], ?_⟩
          by_cases y : i = j
          · subst y
            have td := tab_diag (fun p hp => (hlt p hp).1) i
            simp (disch := first | omega | (simp; done) | fail) [semS, semE, semA, semN, semO, semI, exS, bnd, optM, pur, setTg, seqM, lsM, binM, binL, augM, biM, bnM, cmpM, cmpI, ltM, leM, inM, eqF, flatD, isM, Cl.isNon, truM, intM, idxM, slcM, lenM, lstAt, Cl.putAt, isaM, tyM, tyName, lsrcM, srcM, calmly, depOk_nil, sizeLine_eq, wipeE, gmul_r, gmul_l, gdiv, gmod, gmod', fdiv_pos, fmod_pos, grg, grg2, gsz, atI_pos, rowD_get hi, td]
          · have yi : ¬ (i : Int) = j := by omega
            have tc := tab_cnt y fun p hp => (hlt p hp).1
            have ew := ev_law_ways (n := n) (i := i) (j := j) (ws := ws) (by omega)
            rw [tc]
            simp (disch := first | omega | (simp; done) | fail) [semS, semE, semA, semN, semO, semI, exS, bnd, optM, pur, setTg, seqM, lsM, binM, binL, augM, biM, bnM, cmpM, cmpI, ltM, leM, inM, eqF, flatD, isM, Cl.isNon, truM, intM, idxM, slcM, lenM, lstAt, Cl.putAt, isaM, tyM, tyName, lsrcM, srcM, calmly, depOk_nil, sizeLine_eq, wipeE, gmul_r, gmul_l, gdiv, gmod, gmod', fdiv_pos, fmod_pos, grg, grg2, gsz, atI_pos, yi, liftP, noRefL, noRef_land, noRef_encW, noRef, ew])
      exact k
    have k2 := comp_map (G := { tab := [liftP p_law_own, liftP p_is_land, liftP (p_law_same 6), liftP p_degrees, liftP p_law_ways, liftP p_fire_table, g_law_draw, liftP p_law_fired, liftP p_fired] }) (C := []) (own := [4]) (tg := .nm 4) (src := .rng1 (.var 2)) (elt := .bi .tuple (.cons (.comp [5] (.nm 5) (.rng1 (.var 2)) .nil (.ite (.cmp .Eq (.var 4) (.var 5)) (.idx (.var 3) (.var 4)) (.bin .Sub (.int 0) (.call 4 (.cons (.var 1) (.cons (.var 4) (.cons (.var 5) .nil))))))) .nil)) (env := [some (.ref 1), some (encLand n ws), some (.int n), some (.fl (rowD n (deg ws))), none, none, none, none, none, none, none, none, none]) (h := bxH b rest)
      (List.range n) (fun i : Nat => D.int (0 + (i : Int))) (fun i => D.tup (rowD n (tabF ws i))) (by simp (disch := first | omega | (simp; done) | fail) [semS, semE, semA, semN, semO, semI, exS, bnd, optM, pur, setTg, seqM, lsM, binM, binL, augM, biM, bnM, cmpM, cmpI, ltM, leM, inM, eqF, flatD, isM, Cl.isNon, truM, intM, idxM, slcM, lenM, lstAt, Cl.putAt, isaM, tyM, tyName, lsrcM, srcM, calmly, depOk_nil, sizeLine_eq, wipeE, gmul_r, gmul_l, gdiv, gmod, gmod', fdiv_pos, fmod_pos, grg, grg2, gsz, atI_pos, rangeD_eq]) (by simp; omega) (fun i hi => by
        rw [List.mem_range] at hi
        refine ⟨[some (.ref 1), some (encLand n ws), some (.int n), some (.fl (rowD n (deg ws))), some (.int i), none, none, none, none, none, none, none, none], by simp [semS, semE, semA, semN, semO, semI, exS, bnd, optM, pur, setTg, seqM, lsM, binM, binL, augM, biM, bnM, cmpM, cmpI, ltM, leM, inM, eqF, flatD, isM, Cl.isNon, truM, intM, idxM, slcM, lenM, lstAt, Cl.putAt, isaM, tyM, tyName, lsrcM, srcM, calmly, depOk_nil, sizeLine_eq, wipeE], ?_⟩
        simp only [semE, semA, bnd, row i hi, pur, biM, seqM])
    have k2 : _ = Res.ok (tabD n (tabF ws)) _ := k2
    refine ends_step (e := [some (.ref 1), some (encLand n ws), some (.int n), some (.fl (rowD n (deg ws))), none, none, some (.tup (tabD n (tabF ws))), none, none, none, none, none, none]) (h' := bxH b rest) (by simp (disch := first | omega | (simp; done) | fail) [ir_law_fine_2, semS, semE, semA, semO, semI, exS, bnd, optM, pur, setTg, seqM, lsM, binM, binL, augM, biM, bnM, cmpM, cmpI, ltM, leM, inM, eqF, flatD, isM, Cl.isNon, truM, intM, idxM, slcM, lenM, lstAt, Cl.putAt, isaM, tyM, tyName, lsrcM, srcM, calmly, depOk_nil, sizeLine_eq, wipeE, gmul_r, gmul_l, gdiv, gmod, gmod', fdiv_pos, fmod_pos, grg, grg2, gsz, atI_pos, k2]) ?_
    have k3 := comp_map (G := { tab := [liftP p_law_own, liftP p_is_land, liftP (p_law_same 6), liftP p_degrees, liftP p_law_ways, liftP p_fire_table, g_law_draw, liftP p_law_fired, liftP p_fired] }) (C := []) (own := [7]) (tg := .nm 7) (src := .var 6) (elt := .cmp .NotEq (.bi .sum (.cons (.var 7) .nil)) (.int 0)) (env := [some (.ref 1), some (encLand n ws), some (.int n), some (.fl (rowD n (deg ws))), none, none, some (.tup (tabD n (tabF ws))), none, none, none, none, none, none]) (h := bxH b rest)
      (List.range n) (fun i => D.tup (rowD n (tabF ws i))) (fun i => D.bl false) (by simp (disch := first | omega | (simp; done) | fail) [semS, semE, semA, semN, semO, semI, exS, bnd, optM, pur, setTg, seqM, lsM, binM, binL, augM, biM, bnM, cmpM, cmpI, ltM, leM, inM, eqF, flatD, isM, Cl.isNon, truM, intM, idxM, slcM, lenM, lstAt, Cl.putAt, isaM, tyM, tyName, lsrcM, srcM, calmly, depOk_nil, sizeLine_eq, wipeE, gmul_r, gmul_l, gdiv, gmod, gmod', fdiv_pos, fmod_pos, grg, grg2, gsz, atI_pos, tabD]) (by simp; omega) (fun i hi => by
        refine ⟨[some (.ref 1), some (encLand n ws), some (.int n), some (.fl (rowD n (deg ws))), none, none, some (.tup (tabD n (tabF ws))), some (.tup (rowD n (tabF ws i))), none, none, none, none, none], by simp [semS, semE, semA, semN, semO, semI, exS, bnd, optM, pur, setTg, seqM, lsM, binM, binL, augM, biM, bnM, cmpM, cmpI, ltM, leM, inM, eqF, flatD, isM, Cl.isNon, truM, intM, idxM, slcM, lenM, lstAt, Cl.putAt, isaM, tyM, tyName, lsrcM, srcM, calmly, depOk_nil, sizeLine_eq, wipeE], ?_⟩
        have i1 := intsD_row n (tabF ws i)
        have z : ((List.range n).map (tabF ws i)).sum = 0 := by
          have := tab_LL (fun _ => (1 : Int)) i hlt
          simp only [Int.mul_one] at this
          rw [this, LL_const]
        simp (disch := first | omega | (simp; done) | fail) [semS, semE, semA, semN, semO, semI, exS, bnd, optM, pur, setTg, seqM, lsM, binM, binL, augM, biM, bnM, cmpM, cmpI, ltM, leM, inM, eqF, flatD, isM, Cl.isNon, truM, intM, idxM, slcM, lenM, lstAt, Cl.putAt, isaM, tyM, tyName, lsrcM, srcM, calmly, depOk_nil, sizeLine_eq, wipeE, gmul_r, gmul_l, gdiv, gmod, gmod', fdiv_pos, fmod_pos, grg, grg2, gsz, atI_pos, i1, z])
    have b1 := blsD_false (List.range n)
    have b2 := any_false (List.range n)
    refine ends_step (e := [some (.ref 1), some (encLand n ws), some (.int n), some (.fl (rowD n (deg ws))), none, none, some (.tup (tabD n (tabF ws))), none, none, none, none, none, none]) (h' := bxH b rest) (by simp (disch := first | omega | (simp; done) | fail) [ir_law_fine_3, semS, semE, semA, semO, semI, exS, bnd, optM, pur, setTg, seqM, lsM, binM, binL, augM, biM, bnM, cmpM, cmpI, ltM, leM, inM, eqF, flatD, isM, Cl.isNon, truM, intM, idxM, slcM, lenM, lstAt, Cl.putAt, isaM, tyM, tyName, lsrcM, srcM, calmly, depOk_nil, sizeLine_eq, wipeE, gmul_r, gmul_l, gdiv, gmod, gmod', fdiv_pos, fmod_pos, grg, grg2, gsz, atI_pos, liftP, noRefL, noRef_land, noRef_encW, noRef, e4, s2, k3, b1, b2]) ?_
    clear k2 k3 row s1 s2 e2 e3
    refine ends_seq ?_
    unfold ir_law_fine_4
    refine ends_forS (List.range 4) (fun i : Nat => D.int (0 + (i : Int))) (h0 := bxH b rest) (by simp (disch := first | omega | (simp; done) | fail) [semS, semE, semA, semN, semO, semI, exS, bnd, optM, pur, setTg, seqM, lsM, binM, binL, augM, biM, bnM, cmpM, cmpI, ltM, leM, inM, eqF, flatD, isM, Cl.isNon, truM, intM, idxM, slcM, lenM, lstAt, Cl.putAt, isaM, tyM, tyName, lsrcM, srcM, calmly, depOk_nil, sizeLine_eq, wipeE, gmul_r, gmul_l, gdiv, gmod, gmod', fdiv_pos, fmod_pos, grg, grg2, gsz, atI_pos, rangeD_eq]) (fun _ e h => ∃ b o8 o9 o10 o11, h = bxH b rest ∧ e = [some (.ref 1), some (encLand n ws), some (.int n), some (.fl (rowD n (deg ws))), none, none, some (.tup (tabD n (tabF ws))), none, o8, o9, o10, o11, none]) ?_ ?_ ⟨b, none, none, none, none, rfl, rfl⟩
    · rintro k a env h hi ⟨b, o8, o9, o10, o11, rfl, rfl⟩
      have ha : a < 4 := by
        have := List.mem_of_getElem? hi
        simpa using this
      refine ⟨[some (.ref 1), some (encLand n ws), some (.int n), some (.fl (rowD n (deg ws))), none, none, some (.tup (tabD n (tabF ws))), none, some (.int a), o9, o10, o11, none], by simp [semS, semE, semA, semN, semO, semI, exS, bnd, optM, pur, setTg, seqM, lsM, binM, binL, augM, biM, bnM, cmpM, cmpI, ltM, leM, inM, eqF, flatD, isM, Cl.isNon, truM, intM, idxM, slcM, lenM, lstAt, Cl.putAt, isaM, tyM, tyName, lsrcM, srcM, calmly, depOk_nil, sizeLine_eq, wipeE], ?_⟩
      unfold ir_law_fine_b0
      obtain ⟨cs, b1, ec, hlen, _⟩ := draws_ok (G := { tab := [liftP p_law_own, liftP p_is_land, liftP (p_law_same 6), liftP p_degrees, liftP p_law_ways, liftP p_fire_table, g_law_draw, liftP p_law_fired, liftP p_fired] }) (own := [4]) (j := 4) (src := .rng1 (.var 2)) (el := .bin .Sub (.call 6 (.cons (.var 0) (.cons (.int 41) .nil))) (.int 20)) (env := [some (.ref 1), some (encLand n ws), some (.int n), some (.fl (rowD n (deg ws))), none, none, some (.tup (tabD n (tabF ws))), none, some (.int a), o9, o10, o11, none]) (b := b) (rest := rest) (k := n) (st := 0) (-20) 41 (by simp (disch := first | omega | (simp; done) | fail) [semS, semE, semA, semN, semO, semI, exS, bnd, optM, pur, setTg, seqM, lsM, binM, binL, augM, biM, bnM, cmpM, cmpI, ltM, leM, inM, eqF, flatD, isM, Cl.isNon, truM, intM, idxM, slcM, lenM, lstAt, Cl.putAt, isaM, tyM, tyName, lsrcM, srcM, calmly, depOk_nil, sizeLine_eq, wipeE, gmul_r, gmul_l, gdiv, gmod, gmod', fdiv_pos, fmod_pos, grg, grg2, gsz, atI_pos, rangeD_eq]) (by omega) (fun i b hi => by
        obtain ⟨t, b', e, l, u⟩ := draw_ok b rest (many := 41) (by decide) (by decide)
        exact ⟨[some (.ref 1), some (encLand n ws), some (.int n), some (.fl (rowD n (deg ws))), some (.int i), none, some (.tup (tabD n (tabF ws))), none, some (.int a), o9, o10, o11, none], t - 20, b', by simp [semS, semE, semA, semN, semO, semI, exS, bnd, optM, pur, setTg, seqM, lsM, binM, binL, augM, biM, bnM, cmpM, cmpI, ltM, leM, inM, eqF, flatD, isM, Cl.isNon, truM, intM, idxM, slcM, lenM, lstAt, Cl.putAt, isaM, tyM, tyName, lsrcM, srcM, calmly, depOk_nil, sizeLine_eq, wipeE], by simp (disch := first | omega | (simp; done) | fail) [semS, semE, semA, semN, semO, semI, exS, bnd, optM, pur, setTg, seqM, lsM, binM, binL, augM, biM, bnM, cmpM, cmpI, ltM, leM, inM, eqF, flatD, isM, Cl.isNon, truM, intM, idxM, slcM, lenM, lstAt, Cl.putAt, isaM, tyM, tyName, lsrcM, srcM, calmly, depOk_nil, sizeLine_eq, wipeE, gmul_r, gmul_l, gdiv, gmod, gmod', fdiv_pos, fmod_pos, grg, grg2, gsz, atI_pos, e], by omega, by omega⟩)
      have ec2 := ints_row cs
      rw [hlen] at ec2
      generalize (fun i => cs.getD i 0) = c at ec2
      refine ends_step (e := [some (.ref 1), some (encLand n ws), some (.int n), some (.fl (rowD n (deg ws))), none, none, some (.tup (tabD n (tabF ws))), none, some (.int a), some (.tup (rowD n c)), o10, o11, none]) (h' := bxH b1 rest) (by simp (disch := first | omega | (simp; done) | fail) [semS, semE, semA, semO, semI, exS, bnd, optM, pur, setTg, seqM, lsM, binM, binL, augM, biM, bnM, cmpM, cmpI, ltM, leM, inM, eqF, flatD, isM, Cl.isNon, truM, intM, idxM, slcM, lenM, lstAt, Cl.putAt, isaM, tyM, tyName, lsrcM, srcM, calmly, depOk_nil, sizeLine_eq, wipeE, gmul_r, gmul_l, gdiv, gmod, gmod', fdiv_pos, fmod_pos, grg, grg2, gsz, atI_pos, ec, ec2]) ?_
      obtain ⟨m, off, q1, q2, m0, m1, f0, f1⟩ : ∃ m off : Int, [D.int 3, D.int 21][a / 2]'(by simp; omega) = .int m ∧ [D.int 0, D.int 10][a / 2]'(by simp; omega) = .int off ∧ 0 < m ∧ m < 100 ∧ 0 ≤ off ∧ off ≤ 10 := by
        rcases (show a = 0 ∨ a = 1 ∨ a = 2 ∨ a = 3 by omega) with e | e | e | e <;> subst e <;> exact ⟨_, _, rfl, rfl, by decide, by decide, by decide, by decide⟩
      have a2 : a / 2 < 2 := by omega
      have fd : ((a : Int)).fdiv 2 = ((a / 2 : Nat) : Int) := by rw [Int.fdiv_eq_ediv_of_nonneg _ (by omega)]; omega
      obtain ⟨ys, b2, ed, hlen2, _⟩ := draws_ok (G := { tab := [liftP p_law_own, liftP p_is_land, liftP (p_law_same 6), liftP p_degrees, liftP p_law_ways, liftP p_fire_table, g_law_draw, liftP p_law_fired, liftP p_fired] }) (own := [4]) (j := 4) (src := .rng1 (.var 2)) (el := .bin .Sub (.call 6 (.cons (.var 0) (.cons (.idx (.lst (.cons (.int 3) (.cons (.int 21) .nil))) (.bin .FloorDiv (.var 8) (.int 2))) .nil))) (.idx (.lst (.cons (.int 0) (.cons (.int 10) .nil))) (.bin .FloorDiv (.var 8) (.int 2)))) (env := [some (.ref 1), some (encLand n ws), some (.int n), some (.fl (rowD n (deg ws))), none, none, some (.tup (tabD n (tabF ws))), none, some (.int a), some (.tup (rowD n c)), o10, o11, none]) (b := b1) (rest := rest) (k := n) (st := 0) (-10) 100 (by simp (disch := first | omega | (simp; done) | fail) [semS, semE, semA, semN, semO, semI, exS, bnd, optM, pur, setTg, seqM, lsM, binM, binL, augM, biM, bnM, cmpM, cmpI, ltM, leM, inM, eqF, flatD, isM, Cl.isNon, truM, intM, idxM, slcM, lenM, lstAt, Cl.putAt, isaM, tyM, tyName, lsrcM, srcM, calmly, depOk_nil, sizeLine_eq, wipeE, gmul_r, gmul_l, gdiv, gmod, gmod', fdiv_pos, fmod_pos, grg, grg2, gsz, atI_pos, rangeD_eq]) (by omega) (fun i b hi => by
        obtain ⟨t, b', e, l, u⟩ := draw_ok b rest (many := m) m0 (by omega)
        have g1 : atI [D.int 3, D.int 21] ((a / 2 : Nat) : Int) = some (.int m) := by
          rw [Cl.atI_pos (by omega), ← q1, Int.toNat_natCast]; exact List.getElem?_eq_getElem _
        have g2 : atI [D.int 0, D.int 10] ((a / 2 : Nat) : Int) = some (.int off) := by
          rw [Cl.atI_pos (by omega), ← q2, Int.toNat_natCast]; exact List.getElem?_eq_getElem _
        have gd : ∀ z : M D, Cl.guard (DivOk 2) z = z := fun z => gdiv (by decide) (by decide)
        have gl : ∀ (x y : D) (z : M (List D)), Cl.guard ([x, y].length ≤ sizeLine) z = z := fun x y z => gle (by rw [sizeLine_eq]; simp)
        refine ⟨[some (.ref 1), some (encLand n ws), some (.int n), some (.fl (rowD n (deg ws))), some (.int i), none, some (.tup (tabD n (tabF ws))), none, some (.int a), some (.tup (rowD n c)), o10, o11, none], t - off, b', by simp [semS, semE, semA, semN, semO, semI, exS, bnd, optM, pur, setTg, seqM, lsM, binM, binL, augM, biM, bnM, cmpM, cmpI, ltM, leM, inM, eqF, flatD, isM, Cl.isNon, truM, intM, idxM, slcM, lenM, lstAt, Cl.putAt, isaM, tyM, tyName, lsrcM, srcM, calmly, depOk_nil, sizeLine_eq, wipeE], ?_, by omega, by omega⟩
        simp only [semE, semA, semN, bnd, optM, pur, binM, idxM, seqM, List.getElem?_cons_succ, List.getElem?_cons_zero, Option.bind_some, id, gd, fd, gl, g1, g2, e])
      have ed2 := ints_row ys
      rw [hlen2] at ed2
      generalize (fun i => ys.getD i 0) = y at ed2
      refine ends_step (e := [some (.ref 1), some (encLand n ws), some (.int n), some (.fl (rowD n (deg ws))), none, none, some (.tup (tabD n (tabF ws))), none, some (.int a), some (.tup (rowD n c)), some (.tup (rowD n y)), o11, none]) (h' := bxH b2 rest) (by
        simp only [semS, exS, semE, semA, bnd, optM, pur, setTg, biM, seqM, ed, ed2]
        simp) ?_
      have f1 := ev_lfired (c := c) (y := y) (show n ≤ 1000 by omega) hlt (by omega) (.inl rfl)
      have f2 := ev_fired (c := c) (y := y) (show n ≤ 1000 by omega) hlt (by omega) rfl
      have nC := noRef_rowD n c
      have nY := noRef_rowD n y
      refine ends_step (e := [some (.ref 1), some (encLand n ws), some (.int n), some (.fl (rowD n (deg ws))), none, none, some (.tup (tabD n (tabF ws))), none, some (.int a), some (.tup (rowD n c)), some (.tup (rowD n y)), some (.tup (rowD n fun v => c v - LL ws y v)), none]) (h' := bxH b2 rest) (by simp (disch := first | omega | (simp; done) | fail) [semS, semE, semA, semN, semO, semI, exS, bnd, optM, pur, setTg, seqM, lsM, binM, binL, augM, biM, bnM, cmpM, cmpI, ltM, leM, inM, eqF, flatD, isM, Cl.isNon, truM, intM, idxM, slcM, lenM, lstAt, Cl.putAt, isaM, tyM, tyName, lsrcM, srcM, calmly, depOk_nil, sizeLine_eq, wipeE, gmul_r, gmul_l, gdiv, gmod, gmod', fdiv_pos, fmod_pos, grg, grg2, gsz, atI_pos, liftP, noRefL, noRef_land, noRef_encW, noRef, nC, nY, f1]) ?_
      have i1 := intsD_row n fun v => c v - LL ws y v
      have i2 := intsD_row n c
      have i3 := sum_end hlt c y
      have nE := noRef_rowD n fun v => c v - LL ws y v
      have sE := same_ok (d := .tup (rowD n fun v => c v - LL ws y v)) (by simp [datD, sizeLine_eq, datD_row]; omega)
      have sC := same_ok (d := .tup (rowD n c)) (by simp [datD, sizeLine_eq, datD_row]; omega)
      refine ends_step (e := [some (.ref 1), some (encLand n ws), some (.int n), some (.fl (rowD n (deg ws))), none, none, some (.tup (tabD n (tabF ws))), none, some (.int a), some (.tup (rowD n c)), some (.tup (rowD n y)), some (.tup (rowD n fun v => c v - LL ws y v)), none]) (h' := bxH b2 rest) (by simp (disch := first | omega | (simp; done) | fail) [semS, semE, semA, semN, semO, semI, exS, bnd, optM, pur, setTg, seqM, lsM, binM, binL, augM, biM, bnM, cmpM, cmpI, ltM, leM, inM, eqF, flatD, isM, Cl.isNon, truM, intM, idxM, slcM, lenM, lstAt, Cl.putAt, isaM, tyM, tyName, lsrcM, srcM, calmly, depOk_nil, sizeLine_eq, wipeE, gmul_r, gmul_l, gdiv, gmod, gmod', fdiv_pos, fmod_pos, grg, grg2, gsz, atI_pos, liftP, noRefL, noRef_land, noRef_encW, noRef, nC, nY, nE, f2, sE, i1, i2, i3]) ?_
      have f3 := ev_fired (c := fun v => c v - LL ws y v) (y := fun v => 0 - y v) (show n ≤ 1000 by omega) hlt (by omega) rfl
      have q3 : (rowD n fun v => c v - LL ws y v - LL ws (fun v => 0 - y v) v) = rowD n c := rowD_congr fun v _ => by
        rw [LL_sub ws (fun _ => 0) y, LL_zero]; omega
      rw [q3] at f3
      have f4 := ev_fired (c := c) (y := fun _ => 7) (show n ≤ 1000 by omega) hlt (by omega) rfl
      have q4 : (rowD n fun v => c v - LL ws (fun _ => 7) v) = rowD n c := rowD_congr fun v _ => by
        rw [LL_const]; omega
      rw [q4] at f4
      have rep := rep_flat1 n (D.int 7)
      have r7 : List.replicate n (D.int 7) = rowD n fun _ => 7 := by
        unfold rowD
        apply List.ext_getElem?
        intro k
        by_cases h : k < n <;> simp [h]
      have gt : ∀ m : M D, Cl.guard (1 ≤ (n : Int) ∧ (n : Int) ≤ 1000) m = m := fun m => gle (by omega)
      have k5 := comp_map (G := { tab := [liftP p_law_own, liftP p_is_land, liftP (p_law_same 6), liftP p_degrees, liftP p_law_ways, liftP p_fire_table, g_law_draw, liftP p_law_fired, liftP p_fired] }) (C := []) (own := [12]) (tg := .nm 12) (src := .var 10) (elt := .bin .Sub (.int 0) (.var 12)) (env := [some (.ref 1), some (encLand n ws), some (.int n), some (.fl (rowD n (deg ws))), none, none, some (.tup (tabD n (tabF ws))), none, some (.int a), some (.tup (rowD n c)), some (.tup (rowD n y)), some (.tup (rowD n fun v => c v - LL ws y v)), none]) (h := bxH b2 rest)
        (List.range n) (fun i => D.int (y i)) (fun i => D.int (0 - y i)) (by simp (disch := first | omega | (simp; done) | fail) [semS, semE, semA, semN, semO, semI, exS, bnd, optM, pur, setTg, seqM, lsM, binM, binL, augM, biM, bnM, cmpM, cmpI, ltM, leM, inM, eqF, flatD, isM, Cl.isNon, truM, intM, idxM, slcM, lenM, lstAt, Cl.putAt, isaM, tyM, tyName, lsrcM, srcM, calmly, depOk_nil, sizeLine_eq, wipeE, gmul_r, gmul_l, gdiv, gmod, gmod', fdiv_pos, fmod_pos, grg, grg2, gsz, atI_pos, rowD]) (by simp; omega) (fun i hi => by
          exact ⟨[some (.ref 1), some (encLand n ws), some (.int n), some (.fl (rowD n (deg ws))), none, none, some (.tup (tabD n (tabF ws))), none, some (.int a), some (.tup (rowD n c)), some (.tup (rowD n y)), some (.tup (rowD n fun v => c v - LL ws y v)), some (.int (y i))], by simp [semS, semE, semA, semN, semO, semI, exS, bnd, optM, pur, setTg, seqM, lsM, binM, binL, augM, biM, bnM, cmpM, cmpI, ltM, leM, inM, eqF, flatD, isM, Cl.isNon, truM, intM, idxM, slcM, lenM, lstAt, Cl.putAt, isaM, tyM, tyName, lsrcM, srcM, calmly, depOk_nil, sizeLine_eq, wipeE], by simp (disch := first | omega | (simp; done) | fail) [semS, semE, semA, semN, semO, semI, exS, bnd, optM, pur, setTg, seqM, lsM, binM, binL, augM, biM, bnM, cmpM, cmpI, ltM, leM, inM, eqF, flatD, isM, Cl.isNon, truM, intM, idxM, slcM, lenM, lstAt, Cl.putAt, isaM, tyM, tyName, lsrcM, srcM, calmly, depOk_nil, sizeLine_eq, wipeE, gmul_r, gmul_l, gdiv, gmod, gmod', fdiv_pos, fmod_pos, grg, grg2, gsz, atI_pos]⟩)
      have k5 : _ = Res.ok (rowD n fun v => 0 - y v) _ := k5
      have nN := noRef_rowD n fun v => 0 - y v
      have n7 := noRef_rowD n fun _ => 7
      simp only [Int.zero_sub] at f3 k5 nN
      refine ends_step (e := [some (.ref 1), some (encLand n ws), some (.int n), some (.fl (rowD n (deg ws))), none, none, some (.tup (tabD n (tabF ws))), none, some (.int a), some (.tup (rowD n c)), some (.tup (rowD n y)), some (.tup (rowD n fun v => c v - LL ws y v)), none]) (h' := bxH b2 rest) (by simp (disch := first | omega | (simp; done) | fail) [semS, semE, semA, semO, semI, exS, bnd, optM, pur, setTg, seqM, lsM, binM, binL, augM, biM, bnM, cmpM, cmpI, ltM, leM, inM, eqF, flatD, isM, Cl.isNon, truM, intM, idxM, slcM, lenM, lstAt, Cl.putAt, isaM, tyM, tyName, lsrcM, srcM, calmly, depOk_nil, sizeLine_eq, wipeE, gmul_r, gmul_l, gdiv, gmod, gmod', fdiv_pos, fmod_pos, grg, grg2, gsz, atI_pos, liftP, noRefL, noRef_land, noRef_encW, noRef, nC, nY, nE, nN, n7, k5, f3, sC, rep, r7, gt, f4]) ?_
      exact ends_nop ⟨b2, _, _, _, _, rfl, rfl⟩
    · rintro env h ⟨b, o8, o9, o10, o11, rfl, rfl⟩
      exact ends_seq (ends_rt (d := .bl true) (h := bxH b rest) (by simp (disch := first | omega | (simp; done) | fail) [ir_law_fine_5, semS, semE, semA, semN, semO, semI, exS, bnd, optM, pur, setTg, seqM, lsM, binM, binL, augM, biM, bnM, cmpM, cmpI, ltM, leM, inM, eqF, flatD, isM, Cl.isNon, truM, intM, idxM, slcM, lenM, lstAt, Cl.putAt, isaM, tyM, tyName, lsrcM, srcM, calmly, depOk_nil, sizeLine_eq, wipeE, gmul_r, gmul_l, gdiv, gmod, gmod', fdiv_pos, fmod_pos, grg, grg2, gsz, atI_pos]) ⟨b, rfl, rfl⟩)
  obtain ⟨d, h', e, b', rfl, rfl⟩ := key
  exact ⟨b', e⟩
theorem semN_binL {G : Gt} {C : List D} {env : Cl.Env} {a b : I} {xs ys : List D} {h h1 h2 : Hc} (ha : semE G C a env h = .ok (.fl xs) h1) (hb : semE G C b env h1 = .ok (.fl ys) h2) (hl : xs.length + ys.length ≤ 16777216) : semN G C (.binL .Add a b) env h = .ok (xs ++ ys) h2 := by
  have hl2 : xs.length + ys.length ≤ sizeLine := by rw [sizeLine_eq]; exact hl
  simp only [semN, bnd, ha, hb, binL, lsM, pur, gle hl2]
theorem the_law (ns : List Int) (hl : ns.length ≤ 63) : ∃ hc, g_law [.kl (ns.map .int)] [] = .ok (.bl true) hc := by
  obtain ⟨b0, eb⟩ := box_ok hl
  have key : ∃ d h', g_law [.kl (ns.map .int)] [] = .ok d h' ∧ d = .bl true := by
    refine runF_ends (P := fun d _ => d = .bl true) [some (.kl (ns.map .int)), none, none, none, none, none, none, none, none, none, none] ?_
    generalize (D.kl (ns.map .int)) = sc at *
    unfold ir_law
    refine ends_step (e := [some sc, some (.ref 1), none, none, none, none, none, none, none, none, none]) (h' := bxH b0 []) (by simp [ir_law_0, semS, semE, semA, semN, semO, semI, exS, bnd, optM, pur, setTg, seqM, lsM, binM, binL, augM, biM, bnM, cmpM, cmpI, ltM, leM, inM, eqF, flatD, isM, Cl.isNon, truM, intM, idxM, slcM, lenM, lstAt, Cl.putAt, isaM, tyM, tyName, lsrcM, srcM, calmly, depOk_nil, sizeLine_eq, wipeE, eb]) ?_
    have q1 : ∀ h, eqM (.tup [.int 8, .int 20]) (.tup [.int 8, .int 20]) h = .ok true h := fun h => by
      rw [eqM_dat 4 (by simp [datP]) (by simp [datP])]; simp
    refine ends_step (e := [some sc, some (.ref 1), none, none, none, none, none, none, none, none, none]) (h' := bxH b0 []) (by simp (disch := first | omega | (simp; done) | fail) [ir_law_1, semS, semE, semA, semN, semO, semI, exS, bnd, optM, pur, setTg, seqM, lsM, binM, binL, augM, biM, bnM, cmpM, cmpI, ltM, leM, inM, eqF, flatD, isM, Cl.isNon, truM, intM, idxM, slcM, lenM, lstAt, Cl.putAt, isaM, tyM, tyName, lsrcM, srcM, calmly, depOk_nil, sizeLine_eq, wipeE, gmul_r, gmul_l, gdiv, gmod, gmod', fdiv_pos, fmod_pos, grg, grg2, gsz, atI_pos, q1]) ?_
    refine ends_seq ?_
    unfold ir_law_2
    refine ends_forS (List.range 2) (fun i : Nat => D.int (0 + (i : Int))) (h0 := bxH b0 []) (by simp (disch := first | omega | (simp; done) | fail) [semS, semE, semA, semN, semO, semI, exS, bnd, optM, pur, setTg, seqM, lsM, binM, binL, augM, biM, bnM, cmpM, cmpI, ltM, leM, inM, eqF, flatD, isM, Cl.isNon, truM, intM, idxM, slcM, lenM, lstAt, Cl.putAt, isaM, tyM, tyName, lsrcM, srcM, calmly, depOk_nil, sizeLine_eq, wipeE, gmul_r, gmul_l, gdiv, gmod, gmod', fdiv_pos, fmod_pos, grg, grg2, gsz, atI_pos, rangeD_eq]) (fun _ e h => ∃ b rest o2 o3 o4 o5 o6 o7, e = [some sc, some (.ref 1), o2, o3, o4, o5, o6, o7, none, none, none] ∧ h = bxH b rest) ?_ ?_ ⟨b0, [], none, none, none, none, none, none, rfl, rfl⟩
    · rintro k a env h hi ⟨b, rest, o2, o3, o4, o5, o6, o7, rfl, rfl⟩
      have ha : a < 2 := by
        have := List.mem_of_getElem? hi
        simpa using this
      refine ⟨[some sc, some (.ref 1), some (.int a), o3, o4, o5, o6, o7, none, none, none], by simp [semS, semE, semA, semN, semO, semI, exS, bnd, optM, pur, setTg, seqM, lsM, binM, binL, augM, biM, bnM, cmpM, cmpI, ltM, leM, inM, eqF, flatD, isM, Cl.isNon, truM, intM, idxM, slcM, lenM, lstAt, Cl.putAt, isaM, tyM, tyName, lsrcM, srcM, calmly, depOk_nil, sizeLine_eq, wipeE], ?_⟩
      unfold ir_law_b1
      obtain ⟨most, hq, m1, m8⟩ : ∃ most : Nat, [D.int 6, D.int 8][a]'(by simp; omega) = .int most ∧ 1 ≤ most ∧ most ≤ 8 := by
        rcases (show a = 0 ∨ a = 1 by omega) with e | e <;> subst e
        · exact ⟨6, rfl, by decide, by decide⟩
        · exact ⟨8, rfl, by decide, by decide⟩
      obtain ⟨n, ws, b1, r1, n1, n8, hL, hl, hS, e1⟩ := ev_lland m1 m8 b rest
      refine ends_step (e := [some sc, some (.ref 1), some (.int a), some (encLand n ws), o4, o5, o6, o7, none, none, none]) (h' := bxH b1 r1) (by simp (disch := first | omega | (simp; done) | fail) [semS, semE, semA, semN, semO, semI, exS, bnd, optM, pur, setTg, seqM, lsM, binM, binL, augM, biM, bnM, cmpM, cmpI, ltM, leM, inM, eqF, flatD, isM, Cl.isNon, truM, intM, idxM, slcM, lenM, lstAt, Cl.putAt, isaM, tyM, tyName, lsrcM, srcM, calmly, depOk_nil, sizeLine_eq, wipeE, gmul_r, gmul_l, gdiv, gmod, gmod', fdiv_pos, fmod_pos, grg, grg2, gsz, atI_pos, hq, e1]) ?_
      have hW := land_ok n1 (by omega) hL (by omega) (asc_of hS)
      obtain ⟨b2, e2⟩ := ev_lfine hW b1 r1
      refine ends_step (e := [some sc, some (.ref 1), some (.int a), some (encLand n ws), o4, o5, o6, o7, none, none, none]) (h' := bxH b2 r1) (by simp (disch := first | omega | (simp; done) | fail) [semS, semE, semA, semN, semO, semI, exS, bnd, optM, pur, setTg, seqM, lsM, binM, binL, augM, biM, bnM, cmpM, cmpI, ltM, leM, inM, eqF, flatD, isM, Cl.isNon, truM, intM, idxM, slcM, lenM, lstAt, Cl.putAt, isaM, tyM, tyName, lsrcM, srcM, calmly, depOk_nil, sizeLine_eq, wipeE, gmul_r, gmul_l, gdiv, gmod, gmod', fdiv_pos, fmod_pos, grg, grg2, gsz, atI_pos, e2]) ?_
      refine ends_step (e := [some sc, some (.ref 1), some (.int a), some (encLand n ws), some (.int n), some (.tup (encs ws)), o6, o7, none, none, none]) (h' := bxH b2 r1) (by simp (disch := first | omega | (simp; done) | fail) [semS, semE, semA, semN, semO, semI, exS, bnd, optM, pur, setTg, seqM, lsM, binM, binL, augM, biM, bnM, cmpM, cmpI, ltM, leM, inM, eqF, flatD, isM, Cl.isNon, truM, intM, idxM, slcM, lenM, lstAt, Cl.putAt, isaM, tyM, tyName, lsrcM, srcM, calmly, depOk_nil, sizeLine_eq, wipeE, gmul_r, gmul_l, gdiv, gmod, gmod', fdiv_pos, fmod_pos, grg, grg2, gsz, atI_pos]) ?_
      have lW : (encs ws).length = ws.length := by simp [encs]
      have c1 := cut_le (encs ws) (some (-1)) none
      have c2 := cut_le (encs ws) (some 1) none
      have g1 : (encs ws).length + (cutD (encs ws) (some (-1)) none).length ≤ 16777216 := by omega
      refine ends_step (e := [some sc, some (.ref 1), some (.int a), some (encLand n ws), some (.int n), some (.tup (encs ws)), some (.fl [encLand n ws, .tup [.int n, .tup (encs ws).reverse], .tup [.int n, .tup (cutD (encs ws) (some 1) none)], .tup [.int (n + 1), .tup (encs ws)], .tup [.int n, .tup (encs ws ++ cutD (encs ws) (some (-1)) none)], .tup [.int (if (n : Int) - 1 > 1 then n - 1 else 1), .tup (encs ws)], .tup (encs ws), .int n, .non, .tup [.int n, .tup (encs ws), .tup []], .tup [.bl true, .tup []], .tup [.int 1, .tup []], .tup [.int 0, .tup []], .tup [.int 2, .tup []]]), o7, none, none, none]) (h' := bxH b2 r1) (by simp (disch := first | omega | (simp; done) | fail) [semS, semE, semA, semN, semO, semI, exS, bnd, optM, pur, setTg, seqM, lsM, binM, binL, augM, biM, bnM, cmpM, cmpI, ltM, leM, inM, eqF, flatD, isM, Cl.isNon, truM, intM, idxM, slcM, lenM, lstAt, Cl.putAt, isaM, tyM, tyName, lsrcM, srcM, calmly, depOk_nil, sizeLine_eq, wipeE, revM, gmul_r, gmul_l, gdiv, gmod, gmod', fdiv_pos, fmod_pos, grg, grg2, gsz, atI_pos, g1, gle]) ?_
      have pm : ∀ x ∈ encs ws, plD 4 x = true := fun x hx => by
        obtain ⟨p, _, rfl⟩ := List.mem_map.mp hx
        simp [plD]
      have pt : ∀ ys : List D, ys.length ≤ 4000 → (∀ x ∈ ys, plD 4 x = true) → plD 5 (.tup ys) = true := fun ys h1 h2 => by
        simp only [plD, Bool.and_eq_true, decide_eq_true_eq, List.all_eq_true]
        exact ⟨h1, h2⟩
      have p2 : ∀ x y : D, plD 5 x = true → plD 5 y = true → plD 6 (.tup [x, y]) = true := fun x y h1 h2 => by
        simp [plD.eq_def 6, h1, h2]
      have pi : ∀ (k : Nat) (i : Int), plD k (.int i) = true := fun k i => by cases k <;> rfl
      have pe : plD 5 (.tup (encs ws)) = true := pt _ (by omega) pm
      have hv : ∀ v ∈ [encLand n ws, .tup [.int n, .tup (encs ws).reverse], .tup [.int n, .tup (cutD (encs ws) (some 1) none)], .tup [.int (n + 1), .tup (encs ws)], .tup [.int n, .tup (encs ws ++ cutD (encs ws) (some (-1)) none)], .tup [.int (if (n : Int) - 1 > 1 then n - 1 else 1), .tup (encs ws)], .tup (encs ws), .int n, .non, .tup [.int n, .tup (encs ws), .tup []], .tup [.bl true, .tup []], .tup [.int 1, .tup []], .tup [.int 0, .tup []], .tup [.int 2, .tup []]], plD 6 v = true := by
        intro v hv
        simp only [List.mem_cons, List.not_mem_nil, or_false] at hv
        rcases hv with rfl | rfl | rfl | rfl | rfl | rfl | rfl | rfl | rfl | rfl | rfl | rfl | rfl | rfl
        · exact p2 _ _ (pi _ _) pe
        · exact p2 _ _ (pi _ _) (pt _ (by simp; omega) fun x hx => pm x (List.mem_reverse.mp hx))
        · exact p2 _ _ (pi _ _) (pt _ (by omega) fun x hx => pm x (cut_mem hx))
        · exact p2 _ _ (pi _ _) pe
        · exact p2 _ _ (pi _ _) (pt _ (by rw [List.length_append]; omega) fun x hx => by
            rcases List.mem_append.mp hx with hx | hx
            · exact pm x hx
            · exact pm x (cut_mem hx))
        · exact p2 _ _ (pi _ _) pe
        · exact plD_up pe
        · rfl
        · rfl
        · simp only [plD.eq_def 6, List.all_cons, List.all_nil, pi, pe, Bool.and_true, Bool.true_and, Bool.and_eq_true, decide_eq_true_eq]
          exact ⟨by simp, by simp [plD]⟩
        · rfl
        · rfl
        · rfl
        · rfl
      have hvl : ([encLand n ws, .tup [.int n, .tup (encs ws).reverse], .tup [.int n, .tup (cutD (encs ws) (some 1) none)], .tup [.int (n + 1), .tup (encs ws)], .tup [.int n, .tup (encs ws ++ cutD (encs ws) (some (-1)) none)], .tup [.int (if (n : Int) - 1 > 1 then n - 1 else 1), .tup (encs ws)], .tup (encs ws), .int n, .non, .tup [.int n, .tup (encs ws), .tup []], .tup [.bl true, .tup []], .tup [.int 1, .tup []], .tup [.int 0, .tup []], .tup [.int 2, .tup []]] : List D).length = 14 := rfl
      generalize [encLand n ws, .tup [.int n, .tup (encs ws).reverse], .tup [.int n, .tup (cutD (encs ws) (some 1) none)], .tup [.int (n + 1), .tup (encs ws)], .tup [.int n, .tup (encs ws ++ cutD (encs ws) (some (-1)) none)], .tup [.int (if (n : Int) - 1 > 1 then n - 1 else 1), .tup (encs ws)], .tup (encs ws), .int n, .non, .tup [.int n, .tup (encs ws), .tup []], .tup [.bl true, .tup []], .tup [.int 1, .tup []], .tup [.int 0, .tup []], .tup [.int 2, .tup []]] = vals at hv hvl
      have pI : plI 5 (encLand n ws) = true := by
        simp only [encLand, encW, plI, List.all_cons, List.all_nil, Bool.and_true, Bool.and_eq_true, decide_eq_true_eq, List.all_eq_true]
        refine ⟨by simp, ?_, by simp; omega, fun x hx => ?_⟩
        · rw [Int.natAbs_natCast]
          exact Nat.lt_trans (log2_lt (k := 4) (by omega) (by decide)) (by decide)
        · obtain ⟨p, hp, rfl⟩ := List.mem_map.mp hx
          have := hL.lt p hp
          have l1 : (p.1 : Int).natAbs.log2 < 1900 := by
            rw [Int.natAbs_natCast]
            exact Nat.lt_trans (log2_lt (k := 4) (by omega) (by decide)) (by decide)
          have l2 : (p.2 : Int).natAbs.log2 < 1900 := by
            rw [Int.natAbs_natCast]
            exact Nat.lt_trans (log2_lt (k := 4) (by omega) (by decide)) (by decide)
          simp only [plI, List.all_cons, List.all_nil, Bool.and_true, Bool.and_eq_true, decide_eq_true_eq]
          exact ⟨by simp, l1, l2⟩
      obtain ⟨bs, h3, ec, ⟨b3, rfl⟩, hlen, hbs⟩ := comp_st (β := D) (G := { tab := [g_law_box, g_law_land, g_law_fine, g_law_bent 6, liftP (p_law_same 6), liftP p_is_land, liftP p_law_is_land] }) (C := [.int 8, .int 20]) (own := [8]) (tg := .nm 8) (src := .rng1 (.int 10)) (elt := .call 3 (.cons (.var 1) (.cons (.var 3) .nil))) (env := [some sc, some (.ref 1), some (.int a), some (encLand n ws), some (.int n), some (.tup (encs ws)), some (.fl vals), o7, none, none, none])
        (fun h => ∃ b, h = bxH b r1) id (fun _ d => plD 6 d = true) (List.range 10) (fun i : Nat => D.int (0 + (i : Int))) (bxH b2 r1) (by simp (disch := first | omega | (simp; done) | fail) [semS, semE, semA, semN, semO, semI, exS, bnd, optM, pur, setTg, seqM, lsM, binM, binL, augM, biM, bnM, cmpM, cmpI, ltM, leM, inM, eqF, flatD, isM, Cl.isNon, truM, intM, idxM, slcM, lenM, lstAt, Cl.putAt, isaM, tyM, tyName, lsrcM, srcM, calmly, depOk_nil, sizeLine_eq, wipeE, gmul_r, gmul_l, gdiv, gmod, gmod', fdiv_pos, fmod_pos, grg, grg2, gsz, atI_pos, rangeD_eq]) (by simp) ⟨b2, rfl⟩ (fun a' ha' h ⟨b, hb⟩ => by
          subst hb
          obtain ⟨v', b', e, hv'⟩ := ev_bent 5 (encLand n ws) pI b r1
          exact ⟨[some sc, some (.ref 1), some (.int a), some (encLand n ws), some (.int n), some (.tup (encs ws)), some (.fl vals), o7, some (.int a'), none, none], bxH b r1, v', bxH b' r1, by simp [semS, semE, semA, semN, semO, semI, exS, bnd, optM, pur, setTg, seqM, lsM, binM, binL, augM, biM, bnM, cmpM, cmpI, ltM, leM, inM, eqF, flatD, isM, Cl.isNon, truM, intM, idxM, slcM, lenM, lstAt, Cl.putAt, isaM, tyM, tyName, lsrcM, srcM, calmly, depOk_nil, sizeLine_eq, wipeE], by simp (disch := first | omega | (simp; done) | fail) [semS, semE, semA, semN, semO, semI, exS, bnd, optM, pur, setTg, seqM, lsM, binM, binL, augM, biM, bnM, cmpM, cmpI, ltM, leM, inM, eqF, flatD, isM, Cl.isNon, truM, intM, idxM, slcM, lenM, lstAt, Cl.putAt, isaM, tyM, tyName, lsrcM, srcM, calmly, depOk_nil, sizeLine_eq, wipeE, gmul_r, gmul_l, gdiv, gmod, gmod', fdiv_pos, fmod_pos, grg, grg2, gsz, atI_pos, e], ⟨b', rfl⟩, hv'⟩)
      rw [List.map_id] at ec
      rw [List.length_range] at hlen
      have hb2 : ∀ v ∈ bs, plD 6 v = true := fun v hv2 => by
        obtain ⟨j, hj, e⟩ := List.getElem_of_mem hv2
        exact hbs j j v (by rw [List.getElem?_range (by omega)]) (by rw [List.getElem?_eq_getElem hj, e])
      have eb2 : semE { tab := [g_law_box, g_law_land, g_law_fine, g_law_bent 6, liftP (p_law_same 6), liftP p_is_land, liftP p_law_is_land] } [.int 8, .int 20] (.comp [8] (.nm 8) (.rng1 (.int 10)) .nil (.call 3 (.cons (.var 1) (.cons (.var 3) .nil)))) [some sc, some (.ref 1), some (.int a), some (encLand n ws), some (.int n), some (.tup (encs ws)), some (.fl vals), o7, none, none, none] (bxH b2 r1) = .ok (.fl bs) (bxH b3 r1) := by simp only [semE, bnd, ec, pur]
      have ea2 : semE { tab := [g_law_box, g_law_land, g_law_fine, g_law_bent 6, liftP (p_law_same 6), liftP p_is_land, liftP p_law_is_land] } [.int 8, .int 20] (.var 6) [some sc, some (.ref 1), some (.int a), some (encLand n ws), some (.int n), some (.tup (encs ws)), some (.fl vals), o7, none, none, none] (bxH b2 r1) = .ok (.fl vals) (bxH b2 r1) := by simp only [semE, List.getElem?_cons_succ, List.getElem?_cons_zero, Option.bind_some, id, optM, pur]
      have en2 := semN_binL ea2 eb2 (by omega)
      refine ends_seq ?_
      refine ends_forS (vals ++ bs) id (h0 := bxH b3 r1) (by
        simp only [semI, semE, bnd, en2, pur, srcM, seqM, List.map_id]) (fun _ e h => ∃ o7, h = bxH b3 r1 ∧ e = [some sc, some (.ref 1), some (.int a), some (encLand n ws), some (.int n), some (.tup (encs ws)), some (.fl vals), o7, none, none, none]) ?_ ?_ ⟨_, rfl, rfl⟩
      · rintro j d env h hd ⟨o7, rfl, rfl⟩
        have hp : plD 6 d = true := by
          rcases List.mem_append.mp (List.mem_of_getElem? hd) with y | y
          · exact hv d y
          · exact hb2 d y
        have f1 := ev_is_land hp
        have f2 := ev_law_is_land hp
        have f3 := same_ok (d := .bl (landB d)) rfl
        have nr := plD_noRef hp
        refine ⟨[some sc, some (.ref 1), some (.int a), some (encLand n ws), some (.int n), some (.tup (encs ws)), some (.fl vals), some d, none, none, none], by simp [semS, semE, semA, semN, semO, semI, exS, bnd, optM, pur, setTg, seqM, lsM, binM, binL, augM, biM, bnM, cmpM, cmpI, ltM, leM, inM, eqF, flatD, isM, Cl.isNon, truM, intM, idxM, slcM, lenM, lstAt, Cl.putAt, isaM, tyM, tyName, lsrcM, srcM, calmly, depOk_nil, sizeLine_eq, wipeE], ?_⟩
        unfold ir_law_b0
        refine ends_step (e := [some sc, some (.ref 1), some (.int a), some (encLand n ws), some (.int n), some (.tup (encs ws)), some (.fl vals), some d, none, none, none]) (h' := bxH b3 r1) (by simp (disch := first | omega | (simp; done) | fail) [semS, semE, semA, semN, semO, semI, exS, bnd, optM, pur, setTg, seqM, lsM, binM, binL, augM, biM, bnM, cmpM, cmpI, ltM, leM, inM, eqF, flatD, isM, Cl.isNon, truM, intM, idxM, slcM, lenM, lstAt, Cl.putAt, isaM, tyM, tyName, lsrcM, srcM, calmly, depOk_nil, sizeLine_eq, wipeE, gmul_r, gmul_l, gdiv, gmod, gmod', fdiv_pos, fmod_pos, grg, grg2, gsz, atI_pos, liftP, noRefL, noRef, nr, f1, f2, f3]) ?_
        exact ends_nop ⟨_, rfl, rfl⟩
      · rintro env h ⟨o7, rfl, rfl⟩
        exact ends_nop ⟨b3, r1, _, _, _, _, _, _, rfl, rfl⟩
    · rintro env h ⟨b, rest, o2, o3, o4, o5, o6, o7, rfl, rfl⟩
      have rep := rep_flat1 20 (D.tup [.int 0, .int 1])
      have rep1 := rep_flat1 21 (D.tup [.int 0, .int 1])
      have er : ∀ m : Nat, encs (List.replicate m (0, 1)) = List.replicate m (D.tup [.int 0, .int 1]) := fun m => by simp [encs]
      have lt2 : ∀ m, 1 ≤ m → Land 2 (List.replicate m (0, 1)) := fun m hm => ⟨fun p hp => by rw [List.eq_of_mem_replicate hp]; decide, fun v h1 h2 => ⟨(0, 1), by simp; omega, by show 1 = v; omega⟩⟩
      have w20 : LandW 2 (List.replicate 20 (0, 1)) := land_ok (by decide) (by decide) (lt2 20 (by decide)) (by decide) (by decide)
      have w1 : LandW 1 [] := land_ok (by decide) (by decide) ⟨fun p hp => by simp at hp, fun v h1 h2 => by omega⟩ (by decide) (by decide)
      have w8 : LandW 8 ((List.range 7).map fun k => (k, k + 1)) := land_ok (by decide) (by decide) ⟨fun p hp => by
        obtain ⟨k, hk, rfl⟩ := List.mem_map.mp hp
        rw [List.mem_range] at hk
        exact ⟨by show k < k + 1; omega, by show k + 1 < 8; omega⟩, fun v h1 h2 => ⟨(v - 1, v - 1 + 1), List.mem_map.mpr ⟨v - 1, by rw [List.mem_range]; omega, rfl⟩, by show v - 1 + 1 = v; omega⟩⟩ (by decide) (by decide)
      have t1 : p_is_land [.tup [.int 2, .tup (List.replicate 20 (D.tup [.int 0, .int 1]))]] = .ok (.bl true) := by
        have e := ev_is_land (plD_land (n := 2) (k := 0) (ws := List.replicate 20 (0, 1)) (by decide))
        rw [LandV.mk w20] at e
        exact e
      have t2 : p_is_land [.tup [.int 2, .tup (List.replicate 21 (D.tup [.int 0, .int 1]))]] = .ok (.bl false) := by
        have e := ev_is_land (plD_land (n := 2) (k := 0) (ws := List.replicate 21 (0, 1)) (by decide))
        rw [landB_false (fun hL => by
          have := (landV_iff.mp hL).few
          simp at this)] at e
        exact e
      have t3 : p_is_land [.tup [.int 8, .tup (encs ((List.range 7).map fun k => (k, k + 1)))]] = .ok (.bl true) := by
        have e := ev_is_land (plD_land (n := 8) (k := 0) (ws := (List.range 7).map fun k => (k, k + 1)) (by decide))
        rw [LandV.mk w8] at e
        exact e
      have t4 : p_is_land [.tup [.int 9, .tup (encs ((List.range 8).map fun k => (k, k + 1)))]] = .ok (.bl false) := by
        have e := ev_is_land (plD_land (n := 9) (k := 0) (ws := (List.range 8).map fun k => (k, k + 1)) (by decide))
        rw [landB_false (fun hL => by
          have := (landV_iff.mp hL).most
          omega)] at e
        exact e
      have t5 : p_is_land [.tup [.int 4, .tup [.tup [.int 0, .int 1], .tup [.int 2, .int 3]]]] = .ok (.bl false) := by
        have e := ev_is_land (plD_land (n := 4) (k := 0) (ws := [(0, 1), (2, 3)]) (by decide))
        rw [landB_false (fun hL => by
          have hc := (landV_iff.mp hL).conn
          have hw := (landV_iff.mp hL).lt
          have g : Grp 4 [(0, 1), (2, 3)] [0, 1] := ⟨by decide, by decide, fun w hw => by
            simp at hw
            rcases hw with rfl | rfl
            · exact .zero
            · exact .step .zero (by unfold adj; decide), by decide⟩
          have cl : Closed 4 [(0, 1), (2, 3)] [0, 1] := by
            intro i hi j hj ha
            unfold adj at ha
            simp at hi
            rcases hi with rfl | rfl <;> rcases (show j = 0 ∨ j = 1 ∨ j = 2 ∨ j = 3 by omega) with rfl | rfl | rfl | rfl <;> first | decide | (exact absurd ha (by decide))
          have := (g.full hw cl).mpr hc
          simp at this)] at e
        exact e
      refine ends_step (e := [some sc, some (.ref 1), o2, o3, o4, o5, o6, o7, none, some (.tup [.int 2, .tup (List.replicate 20 (D.tup [.int 0, .int 1]))]), none]) (h' := bxH b rest) (by simp (disch := first | omega | (simp; done) | fail) [ir_law_3, semS, semE, semA, semN, semO, semI, exS, bnd, optM, pur, setTg, seqM, lsM, binM, binL, augM, biM, bnM, cmpM, cmpI, ltM, leM, inM, eqF, flatD, isM, Cl.isNon, truM, intM, idxM, slcM, lenM, lstAt, Cl.putAt, isaM, tyM, tyName, lsrcM, srcM, calmly, depOk_nil, sizeLine_eq, wipeE, gmul_r, gmul_l, gdiv, gmod, gmod', fdiv_pos, fmod_pos, grg, grg2, gsz, atI_pos, rep]) ?_
      have k1 := comp_map (G := { tab := [g_law_box, g_law_land, g_law_fine, g_law_bent 6, liftP (p_law_same 6), liftP p_is_land, liftP p_law_is_land] }) (C := [.int 8, .int 20]) (own := [8]) (tg := .nm 8) (src := .rng1 (.int 8)) (elt := .tup (.cons (.var 8) (.cons (.bin .Add (.var 8) (.int 1)) .nil))) (env := [some sc, some (.ref 1), o2, o3, o4, o5, o6, o7, none, some (.tup [.int 2, .tup (List.replicate 20 (D.tup [.int 0, .int 1]))]), none]) (h := bxH b rest)
        (List.range 8) (fun i : Nat => D.int (0 + (i : Int))) (fun i : Nat => D.tup [.int i, .int (i + 1 : Nat)]) (by simp (disch := first | omega | (simp; done) | fail) [semS, semE, semA, semN, semO, semI, exS, bnd, optM, pur, setTg, seqM, lsM, binM, binL, augM, biM, bnM, cmpM, cmpI, ltM, leM, inM, eqF, flatD, isM, Cl.isNon, truM, intM, idxM, slcM, lenM, lstAt, Cl.putAt, isaM, tyM, tyName, lsrcM, srcM, calmly, depOk_nil, sizeLine_eq, wipeE, gmul_r, gmul_l, gdiv, gmod, gmod', fdiv_pos, fmod_pos, grg, grg2, gsz, atI_pos, rangeD_eq, -List.reduceReplicate]) (by simp) (fun i hi => ⟨[some sc, some (.ref 1), o2, o3, o4, o5, o6, o7, some (.int i), some (.tup [.int 2, .tup (List.replicate 20 (D.tup [.int 0, .int 1]))]), none], by simp [semS, semE, semA, semN, semO, semI, exS, bnd, optM, pur, setTg, seqM, lsM, binM, binL, augM, biM, bnM, cmpM, cmpI, ltM, leM, inM, eqF, flatD, isM, Cl.isNon, truM, intM, idxM, slcM, lenM, lstAt, Cl.putAt, isaM, tyM, tyName, lsrcM, srcM, calmly, depOk_nil, sizeLine_eq, wipeE, -List.reduceReplicate], by simp (disch := first | omega | (simp; done) | fail) [semS, semE, semA, semN, semO, semI, exS, bnd, optM, pur, setTg, seqM, lsM, binM, binL, augM, biM, bnM, cmpM, cmpI, ltM, leM, inM, eqF, flatD, isM, Cl.isNon, truM, intM, idxM, slcM, lenM, lstAt, Cl.putAt, isaM, tyM, tyName, lsrcM, srcM, calmly, depOk_nil, sizeLine_eq, wipeE, gmul_r, gmul_l, gdiv, gmod, gmod', fdiv_pos, fmod_pos, grg, grg2, gsz, atI_pos, -List.reduceReplicate]⟩)
      have k2 : (List.range 8).map (fun i : Nat => D.tup [.int i, .int (i + 1 : Nat)]) = encs ((List.range 8).map fun k => (k, k + 1)) := by
        unfold encs; rw [List.map_map]; rfl
      rw [k2] at k1
      have ck : cutD (encs ((List.range 8).map fun k => (k, k + 1))) none (some 7) = encs ((List.range 7).map fun k => (k, k + 1)) := rfl
      have n8 : noRefL (encs ((List.range 8).map fun k => (k, k + 1))) = true := noRef_encW _
      have n7 : noRefL (encs ((List.range 7).map fun k => (k, k + 1))) = true := noRef_encW _
      have n20 : noRefL (List.replicate 20 (D.tup [.int 0, .int 1])) = true := rfl
      have n21 : noRefL (List.replicate 21 (D.tup [.int 0, .int 1])) = true := rfl
      generalize encs ((List.range 8).map fun k => (k, k + 1)) = r8 at k1 ck n8 t4
      generalize encs ((List.range 7).map fun k => (k, k + 1)) = r7 at ck n7 t3
      refine ends_step (e := [some sc, some (.ref 1), o2, o3, o4, o5, o6, o7, none, some (.tup [.int 2, .tup (List.replicate 20 (D.tup [.int 0, .int 1]))]), some (.tup r8)]) (h' := bxH b rest) (by simp (disch := first | omega | (simp; done) | fail) [ir_law_4, semS, semE, semA, semO, semI, exS, bnd, optM, pur, setTg, seqM, lsM, binM, binL, augM, biM, bnM, cmpM, cmpI, ltM, leM, inM, eqF, flatD, isM, Cl.isNon, truM, intM, idxM, slcM, lenM, lstAt, Cl.putAt, isaM, tyM, tyName, lsrcM, srcM, calmly, depOk_nil, sizeLine_eq, wipeE, gmul_r, gmul_l, gdiv, gmod, gmod', fdiv_pos, fmod_pos, grg, grg2, gsz, atI_pos, k1, -List.reduceReplicate]) ?_
      obtain ⟨b1, e1⟩ := ev_lfine w20 b rest
      obtain ⟨b2, e2⟩ := ev_lfine w1 b1 rest
      have e1 : g_law_fine [.ref 1, .tup [.int 2, .tup (List.replicate 20 (D.tup [.int 0, .int 1]))]] (bxH b rest) = .ok (.bl true) (bxH b1 rest) := e1
      have e2 : g_law_fine [.ref 1, .tup [.int 1, .tup []]] (bxH b1 rest) = .ok (.bl true) (bxH b2 rest) := e2
      refine ends_step (e := [some sc, some (.ref 1), o2, o3, o4, o5, o6, o7, none, some (.tup [.int 2, .tup (List.replicate 20 (D.tup [.int 0, .int 1]))]), some (.tup r8)]) (h' := bxH b rest) (by simp (disch := first | omega | (simp; done) | fail) [ir_law_5, semS, semE, semA, semN, semO, semI, exS, bnd, optM, pur, setTg, seqM, lsM, binM, binL, augM, biM, bnM, cmpM, cmpI, ltM, leM, inM, eqF, flatD, isM, Cl.isNon, truM, intM, idxM, slcM, lenM, lstAt, Cl.putAt, isaM, tyM, tyName, lsrcM, srcM, calmly, depOk_nil, sizeLine_eq, wipeE, gmul_r, gmul_l, gdiv, gmod, gmod', fdiv_pos, fmod_pos, grg, grg2, gsz, atI_pos, liftP, noRefL, noRef, n20, n21, n7, n8, rep1, ck, t1, t2, t3, t4, -List.reduceReplicate]) ?_
      exact ends_seq (ends_rt (d := .bl true) (h := bxH b2 rest) (by simp (disch := first | omega | (simp; done) | fail) [ir_law_6, semS, semE, semA, semN, semO, semI, exS, bnd, optM, pur, setTg, seqM, lsM, binM, binL, augM, biM, bnM, cmpM, cmpI, ltM, leM, inM, eqF, flatD, isM, Cl.isNon, truM, intM, idxM, slcM, lenM, lstAt, Cl.putAt, isaM, tyM, tyName, lsrcM, srcM, calmly, depOk_nil, sizeLine_eq, wipeE, gmul_r, gmul_l, gdiv, gmod, gmod', fdiv_pos, fmod_pos, grg, grg2, gsz, atI_pos, liftP, noRefL, noRef, e1, e2, t5, -List.reduceReplicate]) rfl)
  obtain ⟨d, h', e, rfl⟩ := key
  exact ⟨h', e⟩
end K58
namespace K58
open PySem PySem.Spec PyProof.Rows L2 Cl
/-- what the top has written -/
structure T (K : PySem.W.Frag) (mg : Str → Option Value) (A : Nat → Addr) : Prop where
  nb : ∀ x ∈ bNames, mg x = none
  f_is_whole : FF K mg "is_whole" st_is_whole ["value"]
  f_is_number : FF K mg "is_number" st_is_number ["value", "least", "most"]
  f_dot : FF K mg "dot" st_dot ["one", "other"]
  f_times_row : FF K mg "times_row" st_times_row ["table", "row"]
  f_is_way : FF K mg "is_way" st_is_way ["n", "value"]
  f_is_land : FF K mg "is_land" st_is_land ["value"]
  f_fire_table : FF K mg "fire_table" st_fire_table ["land"]
  f_degrees : FF K mg "degrees" st_degrees ["land"]
  f_fired : FF K mg "fired" st_fired ["land", "setting", "counts"]
  f_law_box : FF K mg "_law_box" st_law_box ["script"]
  f_law_load : FF K mg "_law_load" st_law_load ["box"]
  f_law_draw : FF K mg "_law_draw" st_law_draw ["box", "many"]
  f_law_same : FF K mg "_law_same" st_law_same ["a", "b"]
  f_law_bent : FF K mg "_law_bent" st_law_bent ["box", "value"]
  f_law_land : FF K mg "_law_land" st_law_land ["box", "most"]
  f_law_own : FF K mg "_law_own" st_law_own ["land"]
  f_law_ways : FF K mg "_law_ways" st_law_ways ["land", "i", "j"]
  f_law_fired : FF K mg "_law_fired" st_law_fired ["land", "setting", "counts"]
  f_law_is_land : FF K mg "_law_is_land" st_law_is_land ["value"]
  f_law_fine : FF K mg "_law_fine" st_law_fine ["box", "land"]
  f_law : FF K mg "law" st_law ["script"]
  v_MAX_PLACES : ∃ t, mg "MAX_PLACES" = some (.int 8 t)
  v_MAX_WAYS : ∃ t, mg "MAX_WAYS" = some (.int 20 t)
section
variable {P : Program} {w : World} {K : PySem.W.Frag} {mg : Str → Option Value} {base : Heap} {A : Nat → Addr}
theorem at_is_whole (t : T K mg A) : FnAt P w K mg base 1 "is_whole" (liftP p_is_whole) := (fnAt t.f_is_whole sc_is_whole ok_is_whole t.nb fs_none cf_nil rfl).imp lift_sub
theorem at_is_number (t : T K mg A) : FnAt P w K mg base 2 "is_number" (liftP p_is_number) := (fnAt t.f_is_number sc_is_number ok_is_number t.nb (fs_cons ((at_is_whole t).mono (by decide)) fs_none) cf_nil rfl).imp lift_sub
theorem at_dot (t : T K mg A) : FnAt P w K mg base 1 "dot" (liftP p_dot) := (fnAt t.f_dot sc_dot ok_dot t.nb fs_none cf_nil rfl).imp lift_sub
theorem at_times_row (t : T K mg A) : FnAt P w K mg base 2 "times_row" (liftP p_times_row) := (fnAt t.f_times_row sc_times_row ok_times_row t.nb (fs_cons ((at_dot t).mono (by decide)) fs_none) cf_nil rfl).imp lift_sub
theorem at_is_way (t : T K mg A) : FnAt P w K mg base 3 "is_way" (liftP p_is_way) := (fnAt t.f_is_way sc_is_way ok_is_way t.nb (fs_cons ((at_is_number t).mono (by decide)) fs_none) cf_nil rfl).imp lift_sub
theorem cf_is_land (t : T K mg A) : ClsF K mg ck_is_land [.int 8, .int 20] := by
  refine ⟨(gcs_cons (gc_intE t.v_MAX_PLACES) (gcs_cons (gc_intE t.v_MAX_WAYS) gcs_nil)), fun j h a q => ?_, fun j k h a q => ?_, fun j ks b h a q => ?_⟩
  · simp [ck_is_land] at h
  · simp [ck_is_land] at h
  · simp [ck_is_land] at h
theorem at_is_land (t : T K mg A) : FnAt P w K mg base 4 "is_land" (liftP p_is_land) := (fnAt t.f_is_land sc_is_land ok_is_land t.nb (fs_cons ((at_is_number t).mono (by decide)) (fs_cons ((at_is_way t).mono (by decide)) fs_none)) (cf_is_land t) rfl).imp lift_sub
theorem at_fire_table (t : T K mg A) : FnAt P w K mg base 1 "fire_table" (liftP p_fire_table) := (fnAt t.f_fire_table sc_fire_table ok_fire_table t.nb fs_none cf_nil rfl).imp lift_sub
theorem at_degrees (t : T K mg A) : FnAt P w K mg base 2 "degrees" (liftP p_degrees) := (fnAt t.f_degrees sc_degrees ok_degrees t.nb (fs_cons ((at_fire_table t).mono (by decide)) fs_none) cf_nil rfl).imp lift_sub
theorem at_fired (t : T K mg A) : FnAt P w K mg base 3 "fired" (liftP p_fired) := (fnAt t.f_fired sc_fired ok_fired t.nb (fs_cons ((at_times_row t).mono (by decide)) (fs_cons ((at_fire_table t).mono (by decide)) fs_none)) cf_nil rfl).imp lift_sub
theorem at_law_box (t : T K mg A) : FnAt P w K mg base 1 "_law_box" g_law_box := fnAt t.f_law_box sc_law_box ok_law_box t.nb fs_none cf_nil rfl
theorem at_law_load (t : T K mg A) : FnAt P w K mg base 1 "_law_load" g_law_load := fnAt t.f_law_load sc_law_load ok_law_load t.nb fs_none cf_nil rfl
theorem at_law_draw (t : T K mg A) : FnAt P w K mg base 2 "_law_draw" g_law_draw := fnAt t.f_law_draw sc_law_draw ok_law_draw t.nb (fs_cons ((at_law_load t).mono (by decide)) fs_none) cf_nil rfl
theorem at_law_same_n (t : T K mg A) : ∀ n : Nat, FnAt P w K mg base (0 + n) "_law_same" (liftP (p_law_same n))
  | 0 => (fnAt_bad t.f_law_same).imp (Sub.of_eq fun ds hc h => absurd (by unfold liftP; split <;> (try rfl) <;> (split <;> rfl)) h)
  | n + 1 => (fnAt t.f_law_same sc_law_same ok_law_same t.nb (fs_cons (at_law_same_n t n) fs_none) cf_nil rfl).imp lift_sub
theorem at_law_same (t : T K mg A) : FnAt P w K mg base 6 "_law_same" (liftP (p_law_same 6)) := at_law_same_n t 6
theorem at_law_bent_n (t : T K mg A) : ∀ n : Nat, FnAt P w K mg base (2 + n) "_law_bent" (g_law_bent n)
  | 0 => fnAt_bad t.f_law_bent
  | n + 1 => fnAt t.f_law_bent sc_law_bent ok_law_bent t.nb (fs_cons ((at_law_draw t).mono (Nat.le_trans (by decide) (Nat.le_add_right 2 n))) (fs_cons (at_law_bent_n t n) fs_none)) cf_nil rfl
theorem at_law_bent (t : T K mg A) : FnAt P w K mg base 8 "_law_bent" (g_law_bent 6) := at_law_bent_n t 6
theorem at_law_land (t : T K mg A) : FnAt P w K mg base 3 "_law_land" g_law_land := fnAt t.f_law_land sc_law_land ok_law_land t.nb (fs_cons ((at_law_draw t).mono (by decide)) fs_none) cf_nil rfl
theorem at_law_own (t : T K mg A) : FnAt P w K mg base 1 "_law_own" (liftP p_law_own) := (fnAt t.f_law_own sc_law_own ok_law_own t.nb fs_none cf_nil rfl).imp lift_sub
theorem at_law_ways (t : T K mg A) : FnAt P w K mg base 1 "_law_ways" (liftP p_law_ways) := (fnAt t.f_law_ways sc_law_ways ok_law_ways t.nb fs_none cf_nil rfl).imp lift_sub
theorem at_law_fired (t : T K mg A) : FnAt P w K mg base 1 "_law_fired" (liftP p_law_fired) := (fnAt t.f_law_fired sc_law_fired ok_law_fired t.nb fs_none cf_nil rfl).imp lift_sub
theorem at_law_is_land (t : T K mg A) : FnAt P w K mg base 1 "_law_is_land" (liftP p_law_is_land) := (fnAt t.f_law_is_land sc_law_is_land ok_law_is_land t.nb fs_none cf_nil rfl).imp lift_sub
theorem at_law_fine (t : T K mg A) : FnAt P w K mg base 7 "_law_fine" g_law_fine := fnAt t.f_law_fine sc_law_fine ok_law_fine t.nb (fs_cons ((at_law_own t).mono (by decide)) (fs_cons ((at_is_land t).mono (by decide)) (fs_cons ((at_law_same t).mono (by decide)) (fs_cons ((at_degrees t).mono (by decide)) (fs_cons ((at_law_ways t).mono (by decide)) (fs_cons ((at_fire_table t).mono (by decide)) (fs_cons ((at_law_draw t).mono (by decide)) (fs_cons ((at_law_fired t).mono (by decide)) (fs_cons ((at_fired t).mono (by decide)) fs_none))))))))) cf_nil rfl
theorem cf_law (t : T K mg A) : ClsF K mg ck_law [.int 8, .int 20] := by
  refine ⟨(gcs_cons (gc_intE t.v_MAX_PLACES) (gcs_cons (gc_intE t.v_MAX_WAYS) gcs_nil)), fun j h a q => ?_, fun j k h a q => ?_, fun j ks b h a q => ?_⟩
  · simp [ck_law] at h
  · simp [ck_law] at h
  · simp [ck_law] at h
theorem ok_the_law {fa : Addr} {fd : FuncData} (t : T K mg A) (F : Fun K "law" "law" st_law fa fd) : FnOk P w K mg base (L2.CX P w) 9 fa fd ["script"] (spC K g_law) := fnOk F sc_law ok_law t.nb (fs_cons ((at_law_box t).mono (by decide)) (fs_cons ((at_law_land t).mono (by decide)) (fs_cons ((at_law_fine t).mono (by decide)) (fs_cons ((at_law_bent t).mono (by decide)) (fs_cons ((at_law_same t).mono (by decide)) (fs_cons ((at_is_land t).mono (by decide)) (fs_cons ((at_law_is_land t).mono (by decide)) fs_none))))))) (cf_law t) rfl
end
theorem all_mk {l : PySem.W.OpenLaw} {w : World} {K : PySem.W.Frag} {h : Heap} {mg : Str → Option Value} {fa : Addr} (X : K.In h) (G : h.Ns mainGlobals mg) (hfa : mg "law" = some (.ref fa))
    {f0 : Addr} {od0 an0 : Option Addr} {sl0 : Array (Option Value)} {oc0 kV0 dc0 pm0 cd0 ct0 : Value}
    {f1 : Addr} {od1 an1 : Option Addr} {sl1 : Array (Option Value)} {oc1 kV1 dc1 pm1 cd1 ct1 : Value}
    {f2 : Addr} {od2 an2 : Option Addr} {sl2 : Array (Option Value)} {oc2 kV2 dc2 pm2 cd2 ct2 : Value}
    {f3 : Addr} {od3 an3 : Option Addr} {sl3 : Array (Option Value)} {oc3 kV3 dc3 pm3 cd3 ct3 : Value}
    {f4 : Addr} {od4 an4 : Option Addr} {sl4 : Array (Option Value)} {oc4 kV4 dc4 pm4 cd4 ct4 : Value}
    {f5 : Addr} {od5 an5 : Option Addr} {sl5 : Array (Option Value)} {oc5 kV5 dc5 pm5 cd5 ct5 : Value}
    {f6 : Addr} {od6 an6 : Option Addr} {sl6 : Array (Option Value)} {oc6 kV6 dc6 pm6 cd6 ct6 : Value}
    {f7 : Addr} {od7 an7 : Option Addr} {sl7 : Array (Option Value)} {oc7 kV7 dc7 pm7 cd7 ct7 : Value}
    {f8 : Addr} {od8 an8 : Option Addr} {sl8 : Array (Option Value)} {oc8 kV8 dc8 pm8 cd8 ct8 : Value}
    {f9 : Addr} {od9 an9 : Option Addr} {sl9 : Array (Option Value)} {oc9 kV9 dc9 pm9 cd9 ct9 : Value}
    {f10 : Addr} {od10 an10 : Option Addr} {sl10 : Array (Option Value)} {oc10 kV10 dc10 pm10 cd10 ct10 : Value}
    {f11 : Addr} {od11 an11 : Option Addr} {sl11 : Array (Option Value)} {oc11 kV11 dc11 pm11 cd11 ct11 : Value}
    {f12 : Addr} {od12 an12 : Option Addr} {sl12 : Array (Option Value)} {oc12 kV12 dc12 pm12 cd12 ct12 : Value}
    {f13 : Addr} {od13 an13 : Option Addr} {sl13 : Array (Option Value)} {oc13 kV13 dc13 pm13 cd13 ct13 : Value}
    {f14 : Addr} {od14 an14 : Option Addr} {sl14 : Array (Option Value)} {oc14 kV14 dc14 pm14 cd14 ct14 : Value}
    {f15 : Addr} {od15 an15 : Option Addr} {sl15 : Array (Option Value)} {oc15 kV15 dc15 pm15 cd15 ct15 : Value}
    {f16 : Addr} {od16 an16 : Option Addr} {sl16 : Array (Option Value)} {oc16 kV16 dc16 pm16 cd16 ct16 : Value}
    {f17 : Addr} {od17 an17 : Option Addr} {sl17 : Array (Option Value)} {oc17 kV17 dc17 pm17 cd17 ct17 : Value}
    {f18 : Addr} {od18 an18 : Option Addr} {sl18 : Array (Option Value)} {oc18 kV18 dc18 pm18 cd18 ct18 : Value}
    {f19 : Addr} {od19 an19 : Option Addr} {sl19 : Array (Option Value)} {oc19 kV19 dc19 pm19 cd19 ct19 : Value}
    {f20 : Addr} {od20 an20 : Option Addr} {sl20 : Array (Option Value)} {oc20 kV20 dc20 pm20 cd20 ct20 : Value}
    {w0 : Tok}
    {w1 : Tok}
    (a0 : PySem.W.nsIn K mainGlobals "is_whole" = some (some (.ref f0)))
    (l0 : K.lookup f0 = some ⟨oc0, od0, .func (PySem.W.fnOf "is_whole" "is_whole" (defArgs st_is_whole) (defBody st_is_whole) (defScope st_is_whole) .none kV0 dc0 pm0 an0 cd0 ct0), sl0⟩)
    (c0 : PySem.W.codeIn K cd0 "is_whole" = true)
    (k0 : PySem.W.keepIn K (.ref f0) = true)
    (a1 : PySem.W.nsIn K mainGlobals "is_number" = some (some (.ref f1)))
    (l1 : K.lookup f1 = some ⟨oc1, od1, .func (PySem.W.fnOf "is_number" "is_number" (defArgs st_is_number) (defBody st_is_number) (defScope st_is_number) .none kV1 dc1 pm1 an1 cd1 ct1), sl1⟩)
    (c1 : PySem.W.codeIn K cd1 "is_number" = true)
    (k1 : PySem.W.keepIn K (.ref f1) = true)
    (a2 : PySem.W.nsIn K mainGlobals "dot" = some (some (.ref f2)))
    (l2 : K.lookup f2 = some ⟨oc2, od2, .func (PySem.W.fnOf "dot" "dot" (defArgs st_dot) (defBody st_dot) (defScope st_dot) .none kV2 dc2 pm2 an2 cd2 ct2), sl2⟩)
    (c2 : PySem.W.codeIn K cd2 "dot" = true)
    (k2 : PySem.W.keepIn K (.ref f2) = true)
    (a3 : PySem.W.nsIn K mainGlobals "times_row" = some (some (.ref f3)))
    (l3 : K.lookup f3 = some ⟨oc3, od3, .func (PySem.W.fnOf "times_row" "times_row" (defArgs st_times_row) (defBody st_times_row) (defScope st_times_row) .none kV3 dc3 pm3 an3 cd3 ct3), sl3⟩)
    (c3 : PySem.W.codeIn K cd3 "times_row" = true)
    (k3 : PySem.W.keepIn K (.ref f3) = true)
    (a4 : PySem.W.nsIn K mainGlobals "is_way" = some (some (.ref f4)))
    (l4 : K.lookup f4 = some ⟨oc4, od4, .func (PySem.W.fnOf "is_way" "is_way" (defArgs st_is_way) (defBody st_is_way) (defScope st_is_way) .none kV4 dc4 pm4 an4 cd4 ct4), sl4⟩)
    (c4 : PySem.W.codeIn K cd4 "is_way" = true)
    (k4 : PySem.W.keepIn K (.ref f4) = true)
    (a5 : PySem.W.nsIn K mainGlobals "is_land" = some (some (.ref f5)))
    (l5 : K.lookup f5 = some ⟨oc5, od5, .func (PySem.W.fnOf "is_land" "is_land" (defArgs st_is_land) (defBody st_is_land) (defScope st_is_land) .none kV5 dc5 pm5 an5 cd5 ct5), sl5⟩)
    (c5 : PySem.W.codeIn K cd5 "is_land" = true)
    (k5 : PySem.W.keepIn K (.ref f5) = true)
    (a6 : PySem.W.nsIn K mainGlobals "fire_table" = some (some (.ref f6)))
    (l6 : K.lookup f6 = some ⟨oc6, od6, .func (PySem.W.fnOf "fire_table" "fire_table" (defArgs st_fire_table) (defBody st_fire_table) (defScope st_fire_table) .none kV6 dc6 pm6 an6 cd6 ct6), sl6⟩)
    (c6 : PySem.W.codeIn K cd6 "fire_table" = true)
    (k6 : PySem.W.keepIn K (.ref f6) = true)
    (a7 : PySem.W.nsIn K mainGlobals "degrees" = some (some (.ref f7)))
    (l7 : K.lookup f7 = some ⟨oc7, od7, .func (PySem.W.fnOf "degrees" "degrees" (defArgs st_degrees) (defBody st_degrees) (defScope st_degrees) .none kV7 dc7 pm7 an7 cd7 ct7), sl7⟩)
    (c7 : PySem.W.codeIn K cd7 "degrees" = true)
    (k7 : PySem.W.keepIn K (.ref f7) = true)
    (a8 : PySem.W.nsIn K mainGlobals "fired" = some (some (.ref f8)))
    (l8 : K.lookup f8 = some ⟨oc8, od8, .func (PySem.W.fnOf "fired" "fired" (defArgs st_fired) (defBody st_fired) (defScope st_fired) .none kV8 dc8 pm8 an8 cd8 ct8), sl8⟩)
    (c8 : PySem.W.codeIn K cd8 "fired" = true)
    (k8 : PySem.W.keepIn K (.ref f8) = true)
    (a9 : PySem.W.nsIn K mainGlobals "_law_box" = some (some (.ref f9)))
    (l9 : K.lookup f9 = some ⟨oc9, od9, .func (PySem.W.fnOf "_law_box" "_law_box" (defArgs st_law_box) (defBody st_law_box) (defScope st_law_box) .none kV9 dc9 pm9 an9 cd9 ct9), sl9⟩)
    (c9 : PySem.W.codeIn K cd9 "_law_box" = true)
    (k9 : PySem.W.keepIn K (.ref f9) = true)
    (a10 : PySem.W.nsIn K mainGlobals "_law_load" = some (some (.ref f10)))
    (l10 : K.lookup f10 = some ⟨oc10, od10, .func (PySem.W.fnOf "_law_load" "_law_load" (defArgs st_law_load) (defBody st_law_load) (defScope st_law_load) .none kV10 dc10 pm10 an10 cd10 ct10), sl10⟩)
    (c10 : PySem.W.codeIn K cd10 "_law_load" = true)
    (k10 : PySem.W.keepIn K (.ref f10) = true)
    (a11 : PySem.W.nsIn K mainGlobals "_law_draw" = some (some (.ref f11)))
    (l11 : K.lookup f11 = some ⟨oc11, od11, .func (PySem.W.fnOf "_law_draw" "_law_draw" (defArgs st_law_draw) (defBody st_law_draw) (defScope st_law_draw) .none kV11 dc11 pm11 an11 cd11 ct11), sl11⟩)
    (c11 : PySem.W.codeIn K cd11 "_law_draw" = true)
    (k11 : PySem.W.keepIn K (.ref f11) = true)
    (a12 : PySem.W.nsIn K mainGlobals "_law_same" = some (some (.ref f12)))
    (l12 : K.lookup f12 = some ⟨oc12, od12, .func (PySem.W.fnOf "_law_same" "_law_same" (defArgs st_law_same) (defBody st_law_same) (defScope st_law_same) .none kV12 dc12 pm12 an12 cd12 ct12), sl12⟩)
    (c12 : PySem.W.codeIn K cd12 "_law_same" = true)
    (k12 : PySem.W.keepIn K (.ref f12) = true)
    (a13 : PySem.W.nsIn K mainGlobals "_law_bent" = some (some (.ref f13)))
    (l13 : K.lookup f13 = some ⟨oc13, od13, .func (PySem.W.fnOf "_law_bent" "_law_bent" (defArgs st_law_bent) (defBody st_law_bent) (defScope st_law_bent) .none kV13 dc13 pm13 an13 cd13 ct13), sl13⟩)
    (c13 : PySem.W.codeIn K cd13 "_law_bent" = true)
    (k13 : PySem.W.keepIn K (.ref f13) = true)
    (a14 : PySem.W.nsIn K mainGlobals "_law_land" = some (some (.ref f14)))
    (l14 : K.lookup f14 = some ⟨oc14, od14, .func (PySem.W.fnOf "_law_land" "_law_land" (defArgs st_law_land) (defBody st_law_land) (defScope st_law_land) .none kV14 dc14 pm14 an14 cd14 ct14), sl14⟩)
    (c14 : PySem.W.codeIn K cd14 "_law_land" = true)
    (k14 : PySem.W.keepIn K (.ref f14) = true)
    (a15 : PySem.W.nsIn K mainGlobals "_law_own" = some (some (.ref f15)))
    (l15 : K.lookup f15 = some ⟨oc15, od15, .func (PySem.W.fnOf "_law_own" "_law_own" (defArgs st_law_own) (defBody st_law_own) (defScope st_law_own) .none kV15 dc15 pm15 an15 cd15 ct15), sl15⟩)
    (c15 : PySem.W.codeIn K cd15 "_law_own" = true)
    (k15 : PySem.W.keepIn K (.ref f15) = true)
    (a16 : PySem.W.nsIn K mainGlobals "_law_ways" = some (some (.ref f16)))
    (l16 : K.lookup f16 = some ⟨oc16, od16, .func (PySem.W.fnOf "_law_ways" "_law_ways" (defArgs st_law_ways) (defBody st_law_ways) (defScope st_law_ways) .none kV16 dc16 pm16 an16 cd16 ct16), sl16⟩)
    (c16 : PySem.W.codeIn K cd16 "_law_ways" = true)
    (k16 : PySem.W.keepIn K (.ref f16) = true)
    (a17 : PySem.W.nsIn K mainGlobals "_law_fired" = some (some (.ref f17)))
    (l17 : K.lookup f17 = some ⟨oc17, od17, .func (PySem.W.fnOf "_law_fired" "_law_fired" (defArgs st_law_fired) (defBody st_law_fired) (defScope st_law_fired) .none kV17 dc17 pm17 an17 cd17 ct17), sl17⟩)
    (c17 : PySem.W.codeIn K cd17 "_law_fired" = true)
    (k17 : PySem.W.keepIn K (.ref f17) = true)
    (a18 : PySem.W.nsIn K mainGlobals "_law_is_land" = some (some (.ref f18)))
    (l18 : K.lookup f18 = some ⟨oc18, od18, .func (PySem.W.fnOf "_law_is_land" "_law_is_land" (defArgs st_law_is_land) (defBody st_law_is_land) (defScope st_law_is_land) .none kV18 dc18 pm18 an18 cd18 ct18), sl18⟩)
    (c18 : PySem.W.codeIn K cd18 "_law_is_land" = true)
    (k18 : PySem.W.keepIn K (.ref f18) = true)
    (a19 : PySem.W.nsIn K mainGlobals "_law_fine" = some (some (.ref f19)))
    (l19 : K.lookup f19 = some ⟨oc19, od19, .func (PySem.W.fnOf "_law_fine" "_law_fine" (defArgs st_law_fine) (defBody st_law_fine) (defScope st_law_fine) .none kV19 dc19 pm19 an19 cd19 ct19), sl19⟩)
    (c19 : PySem.W.codeIn K cd19 "_law_fine" = true)
    (k19 : PySem.W.keepIn K (.ref f19) = true)
    (a20 : PySem.W.nsIn K mainGlobals "law" = some (some (.ref f20)))
    (l20 : K.lookup f20 = some ⟨oc20, od20, .func (PySem.W.fnOf "law" "law" (defArgs st_law) (defBody st_law) (defScope st_law) .none kV20 dc20 pm20 an20 cd20 ct20), sl20⟩)
    (c20 : PySem.W.codeIn K cd20 "law" = true)
    (k20 : PySem.W.keepIn K (.ref f20) = true)
    (z0 : PySem.W.nsIn K mainGlobals "len" = some none)
    (z1 : PySem.W.nsIn K mainGlobals "abs" = some none)
    (z2 : PySem.W.nsIn K mainGlobals "min" = some none)
    (z3 : PySem.W.nsIn K mainGlobals "max" = some none)
    (z4 : PySem.W.nsIn K mainGlobals "sum" = some none)
    (z5 : PySem.W.nsIn K mainGlobals "all" = some none)
    (z6 : PySem.W.nsIn K mainGlobals "any" = some none)
    (z7 : PySem.W.nsIn K mainGlobals "int" = some none)
    (z8 : PySem.W.nsIn K mainGlobals "str" = some none)
    (z9 : PySem.W.nsIn K mainGlobals "tuple" = some none)
    (z10 : PySem.W.nsIn K mainGlobals "ord" = some none)
    (z11 : PySem.W.nsIn K mainGlobals "chr" = some none)
    (z12 : PySem.W.nsIn K mainGlobals "bool" = some none)
    (z13 : PySem.W.nsIn K mainGlobals "list" = some none)
    (z14 : PySem.W.nsIn K mainGlobals "sorted" = some none)
    (z15 : PySem.W.nsIn K mainGlobals "isinstance" = some none)
    (z16 : PySem.W.nsIn K mainGlobals "range" = some none)
    (z17 : PySem.W.nsIn K mainGlobals "zip" = some none)
    (z18 : PySem.W.nsIn K mainGlobals "enumerate" = some none)
    (z19 : PySem.W.nsIn K mainGlobals "dict" = some none)
    (v0 : PySem.W.nsIn K mainGlobals "MAX_PLACES" = some (some (.int 8 w0)))
    (v1 : PySem.W.nsIn K mainGlobals "MAX_WAYS" = some (some (.int 20 w1)))
    : ∃ fd : FuncData, (∀ (s : Shared) (v : Value), BindsTo s fd ⟨[v], []⟩ [("script", v)]) ∧ ∀ base : Heap, K.In base → base.Ns mainGlobals mg → FnOk l.prog w K mg base (L2.CX l.prog w) 9 fa fd ["script"] (specLaw K) := by
  have e := hfa.symm.trans (PySem.W.mg_of X G a20)
  cases e
  have t : T K mg (fun i => ([0, 0, 0, 0, 0, 0] : List Addr).getD i 0) := by
    refine ⟨?_, ?_, ?_, ?_, ?_, ?_, ?_, ?_, ?_, ?_, ?_, ?_, ?_, ?_, ?_, ?_, ?_, ?_, ?_, ?_, ?_, ?_, ?_, ?_⟩
    · intro x hx
      simp only [bNames, List.mem_cons, List.not_mem_nil, or_false] at hx
      rcases hx with hx | hx | hx | hx | hx | hx | hx | hx | hx | hx | hx | hx | hx | hx | hx | hx | hx | hx | hx | hx
      · rw [hx]; exact PySem.W.mg_none_of X G z0
      · rw [hx]; exact PySem.W.mg_none_of X G z1
      · rw [hx]; exact PySem.W.mg_none_of X G z2
      · rw [hx]; exact PySem.W.mg_none_of X G z3
      · rw [hx]; exact PySem.W.mg_none_of X G z4
      · rw [hx]; exact PySem.W.mg_none_of X G z5
      · rw [hx]; exact PySem.W.mg_none_of X G z6
      · rw [hx]; exact PySem.W.mg_none_of X G z7
      · rw [hx]; exact PySem.W.mg_none_of X G z8
      · rw [hx]; exact PySem.W.mg_none_of X G z9
      · rw [hx]; exact PySem.W.mg_none_of X G z10
      · rw [hx]; exact PySem.W.mg_none_of X G z11
      · rw [hx]; exact PySem.W.mg_none_of X G z12
      · rw [hx]; exact PySem.W.mg_none_of X G z13
      · rw [hx]; exact PySem.W.mg_none_of X G z14
      · rw [hx]; exact PySem.W.mg_none_of X G z15
      · rw [hx]; exact PySem.W.mg_none_of X G z16
      · rw [hx]; exact PySem.W.mg_none_of X G z17
      · rw [hx]; exact PySem.W.mg_none_of X G z18
      · rw [hx]; exact PySem.W.mg_none_of X G z19
    · exact (ff_mk X G a0 l0 c0 k0 (fun _ _ _ _ _ _ us hl => match us, hl with | [_], _ => rfl))
    · exact (ff_mk X G a1 l1 c1 k1 (fun _ _ _ _ _ _ us hl => match us, hl with | [_, _, _], _ => rfl))
    · exact (ff_mk X G a2 l2 c2 k2 (fun _ _ _ _ _ _ us hl => match us, hl with | [_, _], _ => rfl))
    · exact (ff_mk X G a3 l3 c3 k3 (fun _ _ _ _ _ _ us hl => match us, hl with | [_, _], _ => rfl))
    · exact (ff_mk X G a4 l4 c4 k4 (fun _ _ _ _ _ _ us hl => match us, hl with | [_, _], _ => rfl))
    · exact (ff_mk X G a5 l5 c5 k5 (fun _ _ _ _ _ _ us hl => match us, hl with | [_], _ => rfl))
    · exact (ff_mk X G a6 l6 c6 k6 (fun _ _ _ _ _ _ us hl => match us, hl with | [_], _ => rfl))
    · exact (ff_mk X G a7 l7 c7 k7 (fun _ _ _ _ _ _ us hl => match us, hl with | [_], _ => rfl))
    · exact (ff_mk X G a8 l8 c8 k8 (fun _ _ _ _ _ _ us hl => match us, hl with | [_, _, _], _ => rfl))
    · exact (ff_mk X G a9 l9 c9 k9 (fun _ _ _ _ _ _ us hl => match us, hl with | [_], _ => rfl))
    · exact (ff_mk X G a10 l10 c10 k10 (fun _ _ _ _ _ _ us hl => match us, hl with | [_], _ => rfl))
    · exact (ff_mk X G a11 l11 c11 k11 (fun _ _ _ _ _ _ us hl => match us, hl with | [_, _], _ => rfl))
    · exact (ff_mk X G a12 l12 c12 k12 (fun _ _ _ _ _ _ us hl => match us, hl with | [_, _], _ => rfl))
    · exact (ff_mk X G a13 l13 c13 k13 (fun _ _ _ _ _ _ us hl => match us, hl with | [_, _], _ => rfl))
    · exact (ff_mk X G a14 l14 c14 k14 (fun _ _ _ _ _ _ us hl => match us, hl with | [_, _], _ => rfl))
    · exact (ff_mk X G a15 l15 c15 k15 (fun _ _ _ _ _ _ us hl => match us, hl with | [_], _ => rfl))
    · exact (ff_mk X G a16 l16 c16 k16 (fun _ _ _ _ _ _ us hl => match us, hl with | [_, _, _], _ => rfl))
    · exact (ff_mk X G a17 l17 c17 k17 (fun _ _ _ _ _ _ us hl => match us, hl with | [_, _, _], _ => rfl))
    · exact (ff_mk X G a18 l18 c18 k18 (fun _ _ _ _ _ _ us hl => match us, hl with | [_], _ => rfl))
    · exact (ff_mk X G a19 l19 c19 k19 (fun _ _ _ _ _ _ us hl => match us, hl with | [_, _], _ => rfl))
    · exact (ff_mk X G a20 l20 c20 k20 (fun _ _ _ _ _ _ us hl => match us, hl with | [_], _ => rfl))
    · exact ⟨_, PySem.W.mg_of X G v0⟩
    · exact ⟨_, PySem.W.mg_of X G v1⟩
  have F := fun_mk (st := st_law) l20 c20 k20
  exact ⟨_, fun s v => .of_eq rfl, fun base _ _ => (ok_the_law t F).imp (specLaw_le (the_law))⟩
end K58
open PySem PySem.W PyProof.Rows
set_option maxHeartbeats 0 in
theorem PySem.Challenge.cw_wholeanswers_k58_lands_and_firing_holds : PySem.Challenge.rw_wholeanswers_k58_lands_and_firing.Holds := by
  w_on; o_law; k_head; (case hw => w_witness2)
  k_fill
  refine L2.walk_of (l := PySem.Challenge.rw_wholeanswers_k58_lands_and_firing) (n := 63) (k := 9) (x := "script") (CX := fun w => L2.CX PySem.Challenge.rw_wholeanswers_k58_lands_and_firing.prog w) (sp := fun w => Cl.specLaw _) rfl (by decide) rfl ⟨rfl, by decide, by decide⟩ (fun w h Y => PySem.W.kIn_of Y) ?F (fun w H a ns hl ho hS => Cl.specLaw_of H a ns hl ho hS) (fun w H s e s1 h => Cl.cx_none H s e s1 h)
  case F =>
    intro w mg fa h KX G hmg
    refine' K58.all_mk KX G hmg ?a0 ?l0 ?c0 ?k0 ?a1 ?l1 ?c1 ?k1 ?a2 ?l2 ?c2 ?k2 ?a3 ?l3 ?c3 ?k3 ?a4 ?l4 ?c4 ?k4 ?a5 ?l5 ?c5 ?k5 ?a6 ?l6 ?c6 ?k6 ?a7 ?l7 ?c7 ?k7 ?a8 ?l8 ?c8 ?k8 ?a9 ?l9 ?c9 ?k9 ?a10 ?l10 ?c10 ?k10 ?a11 ?l11 ?c11 ?k11 ?a12 ?l12 ?c12 ?k12 ?a13 ?l13 ?c13 ?k13 ?a14 ?l14 ?c14 ?k14 ?a15 ?l15 ?c15 ?k15 ?a16 ?l16 ?c16 ?k16 ?a17 ?l17 ?c17 ?k17 ?a18 ?l18 ?c18 ?k18 ?a19 ?l19 ?c19 ?k19 ?a20 ?l20 ?c20 ?k20 ?z0 ?z1 ?z2 ?z3 ?z4 ?z5 ?z6 ?z7 ?z8 ?z9 ?z10 ?z11 ?z12 ?z13 ?z14 ?z15 ?z16 ?z17 ?z18 ?z19 ?v0 ?v1
    (case a0 => k_is)
    (case l0 => k_is)
    (case c0 => k_is)
    (case k0 => k_is)
    (case a1 => k_is)
    (case l1 => k_is)
    (case c1 => k_is)
    (case k1 => k_is)
    (case a2 => k_is)
    (case l2 => k_is)
    (case c2 => k_is)
    (case k2 => k_is)
    (case a3 => k_is)
    (case l3 => k_is)
    (case c3 => k_is)
    (case k3 => k_is)
    (case a4 => k_is)
    (case l4 => k_is)
    (case c4 => k_is)
    (case k4 => k_is)
    (case a5 => k_is)
    (case l5 => k_is)
    (case c5 => k_is)
    (case k5 => k_is)
    (case a6 => k_is)
    (case l6 => k_is)
    (case c6 => k_is)
    (case k6 => k_is)
    (case a7 => k_is)
    (case l7 => k_is)
    (case c7 => k_is)
    (case k7 => k_is)
    (case a8 => k_is)
    (case l8 => k_is)
    (case c8 => k_is)
    (case k8 => k_is)
    (case a9 => k_is)
    (case l9 => k_is)
    (case c9 => k_is)
    (case k9 => k_is)
    (case a10 => k_is)
    (case l10 => k_is)
    (case c10 => k_is)
    (case k10 => k_is)
    (case a11 => k_is)
    (case l11 => k_is)
    (case c11 => k_is)
    (case k11 => k_is)
    (case a12 => k_is)
    (case l12 => k_is)
    (case c12 => k_is)
    (case k12 => k_is)
    (case a13 => k_is)
    (case l13 => k_is)
    (case c13 => k_is)
    (case k13 => k_is)
    (case a14 => k_is)
    (case l14 => k_is)
    (case c14 => k_is)
    (case k14 => k_is)
    (case a15 => k_is)
    (case l15 => k_is)
    (case c15 => k_is)
    (case k15 => k_is)
    (case a16 => k_is)
    (case l16 => k_is)
    (case c16 => k_is)
    (case k16 => k_is)
    (case a17 => k_is)
    (case l17 => k_is)
    (case c17 => k_is)
    (case k17 => k_is)
    (case a18 => k_is)
    (case l18 => k_is)
    (case c18 => k_is)
    (case k18 => k_is)
    (case a19 => k_is)
    (case l19 => k_is)
    (case c19 => k_is)
    (case k19 => k_is)
    (case a20 => k_is)
    (case l20 => k_is)
    (case c20 => k_is)
    (case k20 => k_is)
    (case z0 => k_is)
    (case z1 => k_is)
    (case z2 => k_is)
    (case z3 => k_is)
    (case z4 => k_is)
    (case z5 => k_is)
    (case z6 => k_is)
    (case z7 => k_is)
    (case z8 => k_is)
    (case z9 => k_is)
    (case z10 => k_is)
    (case z11 => k_is)
    (case z12 => k_is)
    (case z13 => k_is)
    (case z14 => k_is)
    (case z15 => k_is)
    (case z16 => k_is)
    (case z17 => k_is)
    (case z18 => k_is)
    (case z19 => k_is)
    (case v0 => k_is)
    (case v1 => k_is)
