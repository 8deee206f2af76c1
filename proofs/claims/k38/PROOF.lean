import PyProof.Rows.All
import Wide.All
import OpenK.AllK
import Wide.FinOn
import HandS.ForMost
import HandS.ForExc
import HandS.Wide
import HandS.Zip
import HandS.IsInst
import HandS.Conv
import HandS.Flow
import HandS.Style
import HandS.TupAny
import HandS.SortInts
import HandS.TupSets
import HandS.TupMul
import HandS.ExcOwn
import HandS.ExcIs
import HandS.WideMore
import HandS.Codes
import KE.KTupSum
import HandS.More
import HandS.Dict
import HandS.CallLocal
import HandS.WordsExc
import HandS.HeadNt
import PySem.Challenge.RW_wholeanswers_k38_whole_remainders_togeth
set_option Elab.async false
set_option linter.all false
set_option maxRecDepth 100000
set_option maxHeartbeats 4000000
/-! The clean domain: values without a heap but for lists that change; how they stand in the abstract heap of the hand layer. -/
namespace Cl
open PySem PySem.Spec PyProof.Rows L2
inductive D where
  | non | bl (b : Bool) | int (i : Int) | str (x : Str)
  | tup (xs : List D)
  /-- a list that nobody changes; one that stands locked or written -/
  | fl (xs : List D) | kl (xs : List D)
  /-- the i-th changing thing -/
  | ref (i : Nat)
  /-- a def, a class -/
  | ob (a : Addr)
  | ty (n : String)
instance : Inhabited D := ⟨.non⟩
/-- changing things -/
inductive O where
  | lst (xs : List D)
  | dct (kvs : List (Key × D))
  | ins (C : Addr) (fs : List (Str × D))
abbrev Hc := List O
/-- the addresses of the changing things; addresses that no unchanging list may have -/
structure Tk where
  ρ : List Addr
  κ : List Addr
  /-- .. that a caller's lists have: they stand -/
  α : Addr → Prop
abbrev Env := List (Option D)
/-- a list that is untracked; one that is locked or written -/
def SqF (T : Tk) (H : Hp) (a : Addr) (xs : List V) : Prop := H a = some (.lst xs) ∧ a ∉ T.ρ ∧ a ∉ T.κ
def SqK (K : PySem.W.Frag) (T : Tk) (H : Hp) (a : Addr) (xs : List V) : Prop :=
  ((∃ o, H a = some (.frz o (.lst xs))) ∨ (H a = some (.lst xs) ∧ T.α a)) ∨
    ∃ (o : Obj) (its : Array Value) (n : Nat), K.lookup a = some o ∧ o.cls = .type "list" ∧ o.dict = none ∧ o.data = .seq its n ∧ its.size ≤ sizeLine ∧ Vals xs its.toList
theorem SqF.sq {K : PySem.W.Frag} {T : Tk} {H : Hp} {a : Addr} {xs : List V} (h : SqF T H a xs) : SqL K H a xs := .inl (.inl h.1)
theorem SqK.sq {K : PySem.W.Frag} {T : Tk} {H : Hp} {a : Addr} {xs : List V} (h : SqK K T H a xs) : SqL K H a xs := by
  rcases h with (h | h) | h
  · exact .inl (.inr h)
  · exact .inl (.inl h.1)
  · exact .inr h
mutual
def Rep (K : PySem.W.Frag) (T : Tk) (H : Hp) : D → V → Prop
  | .non, v => v = .non
  | .bl b, v => v = .bl b
  | .int i, v => v = .int i
  | .str x, v => v = .str x
  | .tup xs, v => ∃ a vs, v = .ref a ∧ SqT K H a vs ∧ vs.length ≤ sizeLine ∧ RepL K T H xs vs
  | .fl xs, v => ∃ a vs, v = .ref a ∧ SqF T H a vs ∧ vs.length ≤ sizeLine ∧ RepL K T H xs vs
  | .kl xs, v => ∃ a vs, v = .ref a ∧ SqK K T H a vs ∧ vs.length ≤ sizeLine ∧ RepL K T H xs vs
  | .ref i, v => ∃ a, v = .ref a ∧ T.ρ[i]? = some a
  | .ob a, v => v = .ref a
  | .ty n, v => v = .ty n
def RepL (K : PySem.W.Frag) (T : Tk) (H : Hp) : List D → List V → Prop
  | [], vs => vs = []
  | d :: ds, vs => ∃ v r, vs = v :: r ∧ Rep K T H d v ∧ RepL K T H ds r
end
/-- the attributes, the pairs of a dict -/
def RepKV {κ : Type} (K : PySem.W.Frag) (T : Tk) (H : Hp) : List (κ × D) → List (κ × V) → Prop
  | [], vs => vs = []
  | (k, d) :: ds, vs => ∃ v r, vs = (k, v) :: r ∧ Rep K T H d v ∧ RepKV K T H ds r
def RepO (K : PySem.W.Frag) (T : Tk) (H : Hp) : O → Addr → Prop
  | .lst xs, a => ∃ vs, H a = some (.lst vs) ∧ vs.length ≤ sizeLine ∧ RepL K T H xs vs
  | .dct kvs, a => ∃ ws, H a = some (.dK ws) ∧ ws.length ≤ sizeLine ∧ RepKV K T H kvs ws
  | .ins C fs, a => ∃ dx ws, H a = some (.ins C dx ws) ∧ ws.length ≤ 1000 ∧ RepKV K T H fs ws
def tracked : HO → Prop
  | .lst _ => True
  | .dK _ => True
  | .ins _ _ _ => True
  | _ => False
structure Wd (K : PySem.W.Frag) (T : Tk) (hc : Hc) (H : Hp) : Prop where
  nd : T.ρ.Nodup
  len : T.ρ.length = hc.length
  obj : ∀ (i : Nat) o, hc[i]? = some o → ∃ a, T.ρ[i]? = some a ∧ RepO K T H o a
  gh : ∀ a ∈ T.κ, a ∉ T.ρ ∧ ∃ o, H a = some o ∧ tracked o
  al : ∀ a, T.α a → a ∉ T.ρ ∧ ∃ o, H a = some o
/-- what came about: new tracked things; all that was not tracked here stands -/
structure Ext (T : Tk) (H : Hp) (T' : Tk) (H' : Hp) : Prop where
  pre : ∃ l, T'.ρ = T.ρ ++ l
  gh : T'.κ = T.κ
  al : T'.α = T.α
  fr : ∀ b o, H b = some o → b ∉ T.ρ → H' b = some o
  new : ∀ b ∈ T'.ρ, b ∈ T.ρ ∨ H b = none
/-- .. where some addresses were hidden -/
structure ExtG (T : Tk) (H : Hp) (T' : Tk) (H' : Hp) : Prop where
  pre : ∃ l, T'.ρ = T.ρ ++ l
  gk : ∀ b ∈ T'.κ, b ∈ T.κ ∨ b ∈ T.ρ ∨ H b = none
  al : T'.α = T.α
  fr : ∀ b o, H b = some o → b ∉ T.ρ → H' b = some o
  new : ∀ b ∈ T'.ρ, b ∈ T.ρ ∨ H b = none
def EnvR (K : PySem.W.Frag) (T : Tk) (H : Hp) (env : Env) (σ : L2.St) : Prop :=
  σ.length = env.length ∧ ∀ (i : Nat) d, env[i]? = some (some d) → ∃ v, σ[i]? = some (some v) ∧ Rep K T H d v
section
variable {K : PySem.W.Frag} {T T' T1 T2 : Tk} {H H' H1 H2 : Hp} {hc hc' : Hc}
theorem Ext.refl (T : Tk) (H : Hp) : Ext T H T H := ⟨⟨[], by simp⟩, rfl, rfl, fun _ _ h _ => h, fun _ h => .inl h⟩
theorem Ext.trans (a : Ext T H T1 H1) (b : Ext T1 H1 T2 H2) : Ext T H T2 H2 := by
  refine ⟨?_, b.gh.trans a.gh, b.al.trans a.al, fun c o h n => ?_, fun c h => ?_⟩
  · obtain ⟨l, e⟩ := a.pre
    obtain ⟨m, e'⟩ := b.pre
    exact ⟨l ++ m, by rw [e', e, List.append_assoc]⟩
  · refine b.fr c o (a.fr c o h n) fun hm => ?_
    rcases a.new c hm with z | z
    · exact n z
    · rw [h] at z; cases z
  · rcases b.new c h with z | z
    · exact a.new c z
    · cases q : H c with
      | none => exact .inr rfl
      | some o =>
        by_cases m : c ∈ T.ρ
        · exact .inl m
        · rw [a.fr c o q m] at z; cases z
theorem Ext.g (e : Ext T H T' H') : ExtG T H T' H' := ⟨e.pre, fun b h => .inl (by rw [← e.gh]; exact h), e.al, e.fr, e.new⟩
theorem ExtG.trans (a : ExtG T H T1 H1) (b : ExtG T1 H1 T2 H2) : ExtG T H T2 H2 := by
  have st : ∀ c, c ∈ T.ρ ∨ H c = none ∨ ∃ o, H1 c = some o := fun c => by
    cases q : H c with
    | none => exact .inr (.inl rfl)
    | some o =>
      by_cases m : c ∈ T.ρ
      · exact .inl m
      · exact .inr (.inr ⟨o, a.fr c o q m⟩)
  refine ⟨?_, fun c h => ?_, b.al.trans a.al, fun c o h n => ?_, fun c h => ?_⟩
  · obtain ⟨l, e⟩ := a.pre
    obtain ⟨m, e'⟩ := b.pre
    exact ⟨l ++ m, by rw [e', e, List.append_assoc]⟩
  · rcases b.gk c h with z | z | z
    · exact a.gk c z
    · rcases a.new c z with z | z
      · exact .inr (.inl z)
      · exact .inr (.inr z)
    · rcases st c with m | m | ⟨o, m⟩
      · exact .inr (.inl m)
      · exact .inr (.inr m)
      · rw [m] at z; cases z
  · refine b.fr c o (a.fr c o h n) fun hm => ?_
    rcases a.new c hm with z | z
    · exact n z
    · rw [h] at z; cases z
  · rcases b.new c h with z | z
    · exact a.new c z
    · rcases st c with m | m | ⟨o, m⟩
      · exact .inl m
      · exact .inr m
      · rw [m] at z; cases z
theorem ExtG.get (e : ExtG T H T' H') {i : Nat} {a : Addr} (h : T.ρ[i]? = some a) : T'.ρ[i]? = some a := by
  obtain ⟨l, e'⟩ := e.pre
  have hi : i < T.ρ.length := by
    rcases Nat.lt_or_ge i T.ρ.length with z | z
    · exact z
    · rw [List.getElem?_eq_none_iff.mpr z] at h; cases h
  rw [e', List.getElem?_append_left hi]; exact h
theorem Ext.get (e : Ext T H T' H') {i : Nat} {a : Addr} (h : T.ρ[i]? = some a) : T'.ρ[i]? = some a := e.g.get h
theorem Wd.trk (w : Wd K T hc H) {a : Addr} (h : a ∈ T.ρ) : ∃ o, H a = some o ∧ tracked o := by
  obtain ⟨i, hi, e⟩ := List.mem_iff_getElem.mp h
  have h2 : i < hc.length := w.len ▸ hi
  obtain ⟨b, hb, r⟩ := w.obj i hc[i] (List.getElem?_eq_getElem h2)
  have eb : b = a := by
    rw [List.getElem?_eq_getElem hi, e] at hb
    exact (Option.some.inj hb).symm
  subst eb
  cases q : hc[i] with
  | lst xs => rw [q] at r; obtain ⟨vs, e, _⟩ := r; exact ⟨_, e, trivial⟩
  | dct xs => rw [q] at r; obtain ⟨vs, e, _⟩ := r; exact ⟨_, e, trivial⟩
  | ins C fs => rw [q] at r; obtain ⟨dx, vs, e, _⟩ := r; exact ⟨_, e, trivial⟩
theorem Wd.notin (w : Wd K T hc H) {a : Addr} {o : HO} (h : H a = some o) (n : ¬ tracked o) : a ∉ T.ρ := fun m => by
  obtain ⟨o', e, t⟩ := w.trk m
  rw [h] at e; cases e; exact n t
theorem Wd.none_notin (w : Wd K T hc H) {a : Addr} (h : H a = none) : a ∉ T.ρ := fun m => by
  obtain ⟨o', e, t⟩ := w.trk m
  rw [h] at e; cases e
theorem Wd.none_al (w : Wd K T hc H) {a : Addr} (h : H a = none) : ¬ T.α a := fun m => by
  obtain ⟨_, o', e⟩ := w.al a m
  rw [h] at e; cases e
theorem Wd.none_gh (w : Wd K T hc H) {a : Addr} (h : H a = none) : a ∉ T.κ := fun m => by
  obtain ⟨_, o', e, t⟩ := w.gh a m
  rw [h] at e; cases e
theorem sqT_ext (w : Wd K T hc H) (e : ExtG T H T' H') {a : Addr} {vs : List V} (h : SqT K H a vs) : SqT K H' a vs := by
  rcases h with (h | ⟨o, h⟩) | h
  · exact .inl (.inl (e.fr _ _ h (w.notin h id)))
  · exact .inl (.inr ⟨o, e.fr _ _ h (w.notin h id)⟩)
  · exact .inr h
theorem sqF_ext (e : ExtG T H T' H') {a : Addr} {vs : List V} (h : SqF T H a vs) : SqF T' H' a vs := by
  obtain ⟨h, n, g⟩ := h
  refine ⟨e.fr _ _ h n, fun m => ?_, fun m => ?_⟩
  · rcases e.new _ m with z | z
    · exact n z
    · rw [h] at z; cases z
  · rcases e.gk _ m with z | z | z
    · exact g z
    · exact n z
    · rw [h] at z; cases z
theorem sqK_ext (w : Wd K T hc H) (e : ExtG T H T' H') {a : Addr} {vs : List V} (h : SqK K T H a vs) : SqK K T' H' a vs := by
  rcases h with (⟨o, h⟩ | h) | h
  · exact .inl (.inl ⟨o, e.fr _ _ h (w.notin h id)⟩)
  · exact .inl (.inr ⟨e.fr _ _ h.1 (w.al a h.2).1, by rw [e.al]; exact h.2⟩)
  · exact .inr h
mutual
theorem Rep.extG (w : Wd K T hc H) (e : ExtG T H T' H') : ∀ (d : D) (v : V), Rep K T H d v → Rep K T' H' d v
  | .non, _, h => h
  | .bl _, _, h => h
  | .int _, _, h => h
  | .str _, _, h => h
  | .ob _, _, h => h
  | .ty _, _, h => h
  | .ref i, v, h => by
    simp only [Rep] at h ⊢
    obtain ⟨a, q, r⟩ := h
    exact ⟨a, q, e.get r⟩
  | .tup xs, v, h => by
    simp only [Rep] at h ⊢
    obtain ⟨a, vs, q, s, l, r⟩ := h
    exact ⟨a, vs, q, sqT_ext w e s, l, RepL.extG w e xs vs r⟩
  | .fl xs, v, h => by
    simp only [Rep] at h ⊢
    obtain ⟨a, vs, q, s, l, r⟩ := h
    exact ⟨a, vs, q, sqF_ext e s, l, RepL.extG w e xs vs r⟩
  | .kl xs, v, h => by
    simp only [Rep] at h ⊢
    obtain ⟨a, vs, q, s, l, r⟩ := h
    exact ⟨a, vs, q, sqK_ext w e s, l, RepL.extG w e xs vs r⟩
theorem RepL.extG (w : Wd K T hc H) (e : ExtG T H T' H') : ∀ (ds : List D) (vs : List V), RepL K T H ds vs → RepL K T' H' ds vs
  | [], _, h => h
  | d :: ds, vs, h => by
    simp only [RepL] at h ⊢
    obtain ⟨v, r, q, a, b⟩ := h
    exact ⟨v, r, q, Rep.extG w e d v a, RepL.extG w e ds r b⟩
end
theorem RepKV.extG {κ : Type} (w : Wd K T hc H) (e : ExtG T H T' H') : ∀ (ds : List (κ × D)) (vs : List (κ × V)), RepKV K T H ds vs → RepKV K T' H' ds vs
  | [], _, h => h
  | (k, d) :: ds, vs, h => by
    simp only [RepKV] at h ⊢
    obtain ⟨v, r, q, a, b⟩ := h
    exact ⟨v, r, q, Rep.extG w e d v a, RepKV.extG w e ds r b⟩
theorem EnvR.extG (w : Wd K T hc H) (e : ExtG T H T' H') {env : Env} {σ : L2.St} (h : EnvR K T H env σ) : EnvR K T' H' env σ :=
  ⟨h.1, fun i d q => let ⟨v, a, b⟩ := h.2 i d q; ⟨v, a, Rep.extG w e d v b⟩⟩
theorem Rep.ext (w : Wd K T hc H) (e : Ext T H T' H') (d : D) (v : V) (h : Rep K T H d v) : Rep K T' H' d v := Rep.extG w e.g d v h
theorem RepL.ext (w : Wd K T hc H) (e : Ext T H T' H') (ds : List D) (vs : List V) (h : RepL K T H ds vs) : RepL K T' H' ds vs := RepL.extG w e.g ds vs h
theorem RepKV.ext {κ : Type} (w : Wd K T hc H) (e : Ext T H T' H') (ds : List (κ × D)) (vs : List (κ × V)) (h : RepKV K T H ds vs) : RepKV K T' H' ds vs := RepKV.extG w e.g ds vs h
theorem EnvR.ext (w : Wd K T hc H) (e : Ext T H T' H') {env : Env} {σ : L2.St} (h : EnvR K T H env σ) : EnvR K T' H' env σ := EnvR.extG w e.g h
/-! lists of values -/
theorem RepL.length : ∀ {ds : List D} {vs : List V}, RepL K T H ds vs → vs.length = ds.length
  | [], _, h => by simp only [RepL] at h; rw [h]; rfl
  | d :: ds, vs, h => by
    simp only [RepL] at h
    obtain ⟨v, r, q, a, b⟩ := h
    rw [q, List.length_cons, List.length_cons, RepL.length b]
theorem RepL.nil : RepL K T H [] [] := by simp only [RepL]
theorem RepL.cons {d : D} {v : V} {ds : List D} {vs : List V} (a : Rep K T H d v) (b : RepL K T H ds vs) : RepL K T H (d :: ds) (v :: vs) := by
  simp only [RepL]; exact ⟨v, vs, rfl, a, b⟩
theorem RepL.append : ∀ {ds es : List D} {vs us : List V}, RepL K T H ds vs → RepL K T H es us → RepL K T H (ds ++ es) (vs ++ us)
  | [], es, vs, us, h, h' => by simp only [RepL] at h; rw [h]; exact h'
  | d :: ds, es, vs, us, h, h' => by
    simp only [RepL] at h
    obtain ⟨v, r, q, a, b⟩ := h
    rw [q]; exact RepL.cons a (RepL.append b h')
theorem RepL.get : ∀ {ds : List D} {vs : List V}, RepL K T H ds vs → ∀ {i : Nat} {d : D}, ds[i]? = some d → ∃ v, vs[i]? = some v ∧ Rep K T H d v
  | [], _, _, _, _, e => by simp at e
  | d :: ds, vs, h, 0, x, e => by
    simp only [RepL] at h
    obtain ⟨v, r, q, a, b⟩ := h
    simp at e; subst e
    exact ⟨v, by rw [q]; rfl, a⟩
  | d :: ds, vs, h, i + 1, x, e => by
    simp only [RepL] at h
    obtain ⟨v, r, q, a, b⟩ := h
    obtain ⟨u, e1, e2⟩ := RepL.get b (i := i) (d := x) (by simpa using e)
    exact ⟨u, by rw [q]; simpa using e1, e2⟩
theorem RepL.getV : ∀ {ds : List D} {vs : List V}, RepL K T H ds vs → ∀ {i : Nat} {v : V}, vs[i]? = some v → ∃ d, ds[i]? = some d ∧ Rep K T H d v := fun {ds vs} h {i v} e => by
  have hl := h.length
  have hi : i < ds.length := by
    rw [← hl]
    rcases Nat.lt_or_ge i vs.length with z | z
    · exact z
    · rw [List.getElem?_eq_none_iff.mpr z] at e; cases e
  obtain ⟨u, e1, e2⟩ := h.get (List.getElem?_eq_getElem hi)
  rw [e] at e1; cases e1
  exact ⟨_, List.getElem?_eq_getElem hi, e2⟩
theorem RepL.drop : ∀ {ds : List D} {vs : List V} (n : Nat), RepL K T H ds vs → RepL K T H (ds.drop n) (vs.drop n)
  | _, _, 0, h => h
  | [], vs, n + 1, h => by simp only [RepL] at h; rw [h]; exact RepL.nil
  | d :: ds, vs, n + 1, h => by
    simp only [RepL] at h
    obtain ⟨v, r, q, a, b⟩ := h
    rw [q]; exact RepL.drop n b
theorem RepL.take : ∀ {ds : List D} {vs : List V} (n : Nat), RepL K T H ds vs → RepL K T H (ds.take n) (vs.take n)
  | _, _, 0, h => RepL.nil
  | [], vs, n + 1, h => by simp only [RepL] at h; rw [h]; exact RepL.nil
  | d :: ds, vs, n + 1, h => by
    simp only [RepL] at h
    obtain ⟨v, r, q, a, b⟩ := h
    rw [q]; exact RepL.cons a (RepL.take n b)
theorem RepL.set : ∀ {ds : List D} {vs : List V} (n : Nat) {d : D} {v : V}, RepL K T H ds vs → Rep K T H d v → RepL K T H (ds.set n d) (vs.set n v)
  | [], vs, n, d, v, h, h' => by simp only [RepL] at h; rw [h]; exact RepL.nil
  | d :: ds, vs, 0, x, y, h, h' => by
    simp only [RepL] at h
    obtain ⟨v, r, q, a, b⟩ := h
    rw [q]; exact RepL.cons h' b
  | d :: ds, vs, n + 1, x, y, h, h' => by
    simp only [RepL] at h
    obtain ⟨v, r, q, a, b⟩ := h
    rw [q]; exact RepL.cons a (RepL.set n b h')
theorem RepL.eraseIdx : ∀ {ds : List D} {vs : List V} (n : Nat), RepL K T H ds vs → RepL K T H (ds.eraseIdx n) (vs.eraseIdx n)
  | [], vs, n, h => by simp only [RepL] at h; rw [h]; exact RepL.nil
  | d :: ds, vs, 0, h => by
    simp only [RepL] at h
    obtain ⟨v, r, q, a, b⟩ := h
    rw [q]; exact b
  | d :: ds, vs, n + 1, h => by
    simp only [RepL] at h
    obtain ⟨v, r, q, a, b⟩ := h
    rw [q]; exact RepL.cons a (RepL.eraseIdx n b)
theorem RepL.reverse {ds : List D} {vs : List V} (h : RepL K T H ds vs) : RepL K T H ds.reverse vs.reverse := by
  induction ds generalizing vs with
  | nil => simp only [RepL] at h; rw [h]; exact RepL.nil
  | cons d ds ih =>
    simp only [RepL] at h
    obtain ⟨v, r, q, a, b⟩ := h
    rw [q, List.reverse_cons, List.reverse_cons]
    exact RepL.append (ih b) (RepL.cons a RepL.nil)
theorem repL_ints : ∀ (ns : List Int), RepL K T H (ns.map D.int) (ns.map V.int)
  | [] => RepL.nil
  | n :: ns => RepL.cons (by simp only [Rep]) (repL_ints ns)
/-- values whose form is read off the clean value alone -/
def flat : D → Option V
  | .non => some .non
  | .bl b => some (.bl b)
  | .int i => some (.int i)
  | .str x => some (.str x)
  | .ob a => some (.ref a)
  | .ty n => some (.ty n)
  | _ => none
theorem flat_rep {d : D} {u : V} (f : flat d = some u) : Rep K T H d u := by
  cases d <;> simp only [flat, Option.some.injEq, reduceCtorEq] at f <;> simp only [Rep] <;> exact f.symm
/-! ### new things, things written -/
theorem Ext.upd_new {p : Addr} {o : HO} (hp : H p = none) : Ext T H T (upd H p o) :=
  ⟨⟨[], by simp⟩, rfl, rfl, fun b x h _ => by rw [upd_ne (ne_of_none h hp)]; exact h, fun _ h => .inl h⟩
theorem RepO.ext (w : Wd K T hc H) (e : ExtG T H T' H') {o : O} {a : Addr} (h : RepO K T H o a) (same : H' a = H a) : RepO K T' H' o a := by
  cases o with
  | lst xs => obtain ⟨vs, q, l, r⟩ := h; exact ⟨vs, same.trans q, l, RepL.extG w e _ _ r⟩
  | dct xs => obtain ⟨vs, q, l, r⟩ := h; exact ⟨vs, same.trans q, l, RepKV.extG w e _ _ r⟩
  | ins C fs => obtain ⟨dx, vs, q, l, r⟩ := h; exact ⟨dx, vs, same.trans q, l, RepKV.extG w e _ _ r⟩
/-- an untracked new object -/
theorem Wd.upd_new (w : Wd K T hc H) {p : Addr} {o : HO} (hp : H p = none) : Wd K T hc (upd H p o) := by
  refine ⟨w.nd, w.len, fun i x hx => ?_, fun a ha => ?_, fun a ha => ⟨(w.al a ha).1, by
    obtain ⟨_, x, e⟩ := w.al a ha
    exact ⟨x, by rw [upd_ne (ne_of_none e hp)]; exact e⟩⟩⟩
  · obtain ⟨a, ha, r⟩ := w.obj i x hx
    refine ⟨a, ha, RepO.ext w (Ext.upd_new hp).g r ?_⟩
    refine upd_ne fun z => ?_
    subst z
    exact w.none_notin hp (List.mem_iff_getElem?.mpr ⟨i, ha⟩)
  · obtain ⟨n, x, e, t⟩ := w.gh a ha
    exact ⟨n, x, by rw [upd_ne (ne_of_none e hp)]; exact e, t⟩
theorem Rep.upd_new (w : Wd K T hc H) {p : Addr} {o : HO} (hp : H p = none) {d : D} {v : V} (h : Rep K T H d v) : Rep K T (upd H p o) d v := Rep.ext w (Ext.upd_new hp) d v h
theorem RepL.upd_new (w : Wd K T hc H) {p : Addr} {o : HO} (hp : H p = none) {ds : List D} {vs : List V} (h : RepL K T H ds vs) : RepL K T (upd H p o) ds vs := RepL.ext w (Ext.upd_new hp) ds vs h
/-- a new tuple -/
theorem rep_new_tup (w : Wd K T hc H) {p : Addr} (hp : H p = none) {ds : List D} {vs : List V} (h : RepL K T H ds vs) (hl : vs.length ≤ sizeLine) : Rep K T (upd H p (.tup vs)) (.tup ds) (.ref p) := by
  simp only [Rep]
  exact ⟨p, vs, rfl, .inl (.inl upd_same), hl, RepL.upd_new w hp h⟩
theorem rep_new_fl (w : Wd K T hc H) {p : Addr} (hp : H p = none) {ds : List D} {vs : List V} (h : RepL K T H ds vs) (hl : vs.length ≤ sizeLine) : Rep K T (upd H p (.lst vs)) (.fl ds) (.ref p) := by
  simp only [Rep]
  exact ⟨p, vs, rfl, ⟨upd_same, w.none_notin hp, w.none_gh hp⟩, hl, RepL.upd_new w hp h⟩
theorem Ext.write {a : Addr} {o : HO} (ha : a ∈ T.ρ) : Ext T H T (upd H a o) :=
  ⟨⟨[], by simp⟩, rfl, rfl, fun b x h n => by rw [upd_ne (fun z => n (by rw [z]; exact ha))]; exact h, fun _ h => .inl h⟩
/-- the tracked thing at i is written -/
theorem Wd.write (w : Wd K T hc H) {i : Nat} {a : Addr} {o : HO} {oc : O} (ha : T.ρ[i]? = some a) (r : RepO K T (upd H a o) oc a) : Wd K T (hc.set i oc) (upd H a o) := by
  have hi : i < hc.length := by
    rw [← w.len]
    rcases Nat.lt_or_ge i T.ρ.length with z | z
    · exact z
    · rw [List.getElem?_eq_none_iff.mpr z] at ha; cases ha
  refine ⟨w.nd, by rw [w.len, List.length_set], fun j x hx => ?_, fun b hb => ?_, fun b hb => ⟨(w.al b hb).1, by
    obtain ⟨n, x, e⟩ := w.al b hb
    exact ⟨x, by rw [upd_ne (fun z => n (by rw [z]; exact List.mem_iff_getElem?.mpr ⟨i, ha⟩))]; exact e⟩⟩⟩
  · by_cases e : j = i
    · subst e
      rw [List.getElem?_set_self hi] at hx
      cases hx
      exact ⟨a, ha, r⟩
    · rw [List.getElem?_set_ne (fun z => e z.symm)] at hx
      obtain ⟨b, hb, rb⟩ := w.obj j x hx
      refine ⟨b, hb, RepO.ext w (Ext.write (List.mem_iff_getElem?.mpr ⟨i, ha⟩)).g rb (upd_ne fun z => ?_)⟩
      subst z
      exact e (nd_ix w.nd hb ha)
  · obtain ⟨n, x, q, t⟩ := w.gh b hb
    exact ⟨n, x, by rw [upd_ne (fun z => n (by rw [z]; exact List.mem_iff_getElem?.mpr ⟨i, ha⟩))]; exact q, t⟩
/-- one more tracked address -/
abbrev Tk.snoc (T : Tk) (p : Addr) : Tk := ⟨T.ρ ++ [p], T.κ, T.α⟩
theorem Wd.snoc (w : Wd K T hc H) {p : Addr} {o : HO} {oc : O} (hp : H p = none) (r : RepO K (T.snoc p) (upd H p o) oc p) : Wd K (T.snoc p) (hc ++ [oc]) (upd H p o) ∧ Ext T H (T.snoc p) (upd H p o) := by
  have np : p ∉ T.ρ := w.none_notin hp
  have e : Ext T H (T.snoc p) (upd H p o) := by
    refine ⟨⟨[p], rfl⟩, rfl, rfl, fun b x h _ => by rw [upd_ne (ne_of_none h hp)]; exact h, fun b hb => ?_⟩
    rcases List.mem_append.mp hb with z | z
    · exact .inl z
    · rw [List.mem_singleton] at z; subst z; exact .inr hp
  refine ⟨⟨?_, by simp [w.len], fun i x hx => ?_, fun b hb => ?_, fun b hb => ⟨fun z => ?_, by
    obtain ⟨n, x, q⟩ := w.al b hb
    exact ⟨x, by rw [upd_ne (ne_of_none q hp)]; exact q⟩⟩⟩, e⟩
  · show (T.ρ ++ [p]).Nodup
    rw [List.nodup_append]
    refine ⟨w.nd, by simp, fun a ha b hb z => ?_⟩
    rw [List.mem_singleton] at hb; subst hb; subst z; exact np ha
  · by_cases hi : i < hc.length
    · rw [List.getElem?_append_left hi] at hx
      obtain ⟨a, ha, ra⟩ := w.obj i x hx
      refine ⟨a, e.get ha, RepO.ext w e.g ra (upd_ne fun z => ?_)⟩
      subst z; exact np (List.mem_iff_getElem?.mpr ⟨i, ha⟩)
    · have hi2 : i = hc.length := by
        rcases Nat.lt_or_ge i (hc ++ [oc]).length with z | z
        · simp at z; omega
        · rw [List.getElem?_eq_none_iff.mpr z] at hx; cases hx
      subst hi2
      rw [List.getElem?_append_right (Nat.le_refl _)] at hx
      simp at hx; subst hx
      exact ⟨p, by show (T.ρ ++ [p])[hc.length]? = some p; rw [← w.len, List.getElem?_append_right (Nat.le_refl _)]; simp, r⟩
  · obtain ⟨n, x, q, t⟩ := w.gh b hb
    refine ⟨fun z => ?_, x, by rw [upd_ne (ne_of_none q hp)]; exact q, t⟩
    rcases List.mem_append.mp z with y | y
    · exact n y
    · rw [List.mem_singleton] at y; subst y; rw [q] at hp; cases hp
  · rcases List.mem_append.mp z with y | y
    · exact (w.al b hb).1 y
    · rw [List.mem_singleton] at y; subst y; exact w.none_al hp hb
end
/-! ### a list that is being made: nothing else is at its address -/
abbrev Tk.hide (T : Tk) (p : Addr) : Tk := ⟨T.ρ, p :: T.κ, T.α⟩
def without (H : Hp) (p : Addr) : Hp := fun b => if b = p then none else H b
theorem without_same {H : Hp} {p : Addr} : without H p p = none := if_pos rfl
theorem without_ne {H : Hp} {p b : Addr} (h : b ≠ p) : without H p b = H b := if_neg h
theorem upd_without {H : Hp} {p : Addr} {o : HO} (h : H p = some o) : upd (without H p) p o = H := by
  funext b
  by_cases e : b = p
  · subst e; rw [upd_same, h]
  · rw [upd_ne e, without_ne e]
section
variable {K : PySem.W.Frag} {T T' : Tk} {H H' : Hp} {hc hc' : Hc} {p : Addr}
theorem ExtG.hide (hp : H p = none) {o : HO} : ExtG T H (T.hide p) (upd H p o) :=
  ⟨⟨[], by simp⟩, fun b h => by
    rcases List.mem_cons.mp h with z | z
    · subst z; exact .inr (.inr hp)
    · exact .inl z, rfl, fun b x h _ => by rw [upd_ne (ne_of_none h hp)]; exact h, fun _ h => .inl h⟩
theorem Rep.hide (w : Wd K T hc H) (hp : H p = none) {o : HO} (d : D) (v : V) (h : Rep K T H d v) : Rep K (T.hide p) (upd H p o) d v := Rep.extG w (ExtG.hide hp) d v h
theorem RepL.hide (w : Wd K T hc H) (hp : H p = none) {o : HO} (d : List D) (v : List V) (h : RepL K T H d v) : RepL K (T.hide p) (upd H p o) d v := RepL.extG w (ExtG.hide hp) d v h
theorem RepO.hide (w : Wd K T hc H) (hp : H p = none) {o : HO} {oc : O} {a : Addr} (h : RepO K T H oc a) (na : a ≠ p) : RepO K (T.hide p) (upd H p o) oc a := RepO.ext w (ExtG.hide hp) h (upd_ne na)
theorem Wd.hide (w : Wd K T hc H) (hp : H p = none) {xs : List V} : Wd K (T.hide p) hc (upd H p (.lst xs)) := by
  refine ⟨w.nd, w.len, fun i x hx => ?_, fun a ha => ?_, fun a ha => ⟨(w.al a ha).1, by
    obtain ⟨_, x, e⟩ := w.al a ha
    exact ⟨x, by rw [upd_ne (ne_of_none e hp)]; exact e⟩⟩⟩
  · obtain ⟨a, ha, r⟩ := w.obj i x hx
    refine ⟨a, ha, RepO.hide w hp r fun z => ?_⟩
    subst z
    exact w.none_notin hp (List.mem_iff_getElem?.mpr ⟨i, ha⟩)
  · rcases List.mem_cons.mp ha with z | z
    · subst z; exact ⟨w.none_notin hp, _, upd_same, trivial⟩
    · obtain ⟨n, x, e, t⟩ := w.gh a z
      exact ⟨n, x, by rw [upd_ne (ne_of_none e hp)]; exact e, t⟩
theorem EnvR.hide (w : Wd K T hc H) (hp : H p = none) {o : HO} {env : Env} {σ : L2.St} (h : EnvR K T H env σ) : EnvR K (T.hide p) (upd H p o) env σ :=
  EnvR.extG w (ExtG.hide hp) h
mutual
theorem Rep.bare {zs : List V} (hp : H p = some (.lst zs)) (na : ¬ T.α p) : ∀ (d : D) (v : V), Rep K (T.hide p) H d v → Rep K T (without H p) d v
  | .non, _, h => h
  | .bl _, _, h => h
  | .int _, _, h => h
  | .str _, _, h => h
  | .ob _, _, h => h
  | .ty _, _, h => h
  | .ref i, v, h => by
    simp only [Rep] at h ⊢
    exact h
  | .tup xs, v, h => by
    simp only [Rep] at h ⊢
    obtain ⟨a, vs, q, s, l, r⟩ := h
    refine ⟨a, vs, q, ?_, l, RepL.bare hp na xs vs r⟩
    rcases s with (s | ⟨o, s⟩) | s
    · exact .inl (.inl (by rw [without_ne (ne_of s hp (fun z => by cases z))]; exact s))
    · exact .inl (.inr ⟨o, by rw [without_ne (ne_of s hp (fun z => by cases z))]; exact s⟩)
    · exact .inr s
  | .fl xs, v, h => by
    simp only [Rep] at h ⊢
    obtain ⟨a, vs, q, s, l, r⟩ := h
    have nap : a ≠ p := fun z => s.2.2 (by rw [z]; exact List.mem_cons_self)
    exact ⟨a, vs, q, ⟨by rw [without_ne nap]; exact s.1, s.2.1, fun m => s.2.2 (List.mem_cons_of_mem _ m)⟩, l, RepL.bare hp na xs vs r⟩
  | .kl xs, v, h => by
    simp only [Rep] at h ⊢
    obtain ⟨a, vs, q, s, l, r⟩ := h
    refine ⟨a, vs, q, ?_, l, RepL.bare hp na xs vs r⟩
    rcases s with (⟨o, s⟩ | s) | s
    · exact .inl (.inl ⟨o, by rw [without_ne (ne_of s hp (fun z => by cases z))]; exact s⟩)
    · exact .inl (.inr ⟨by rw [without_ne (fun z => na (by rw [← z]; exact s.2))]; exact s.1, s.2⟩)
    · exact .inr s
theorem RepL.bare {zs : List V} (hp : H p = some (.lst zs)) (na : ¬ T.α p) : ∀ (ds : List D) (vs : List V), RepL K (T.hide p) H ds vs → RepL K T (without H p) ds vs
  | [], _, h => h
  | d :: ds, vs, h => by
    simp only [RepL] at h ⊢
    obtain ⟨v, r, q, a, b⟩ := h
    exact ⟨v, r, q, Rep.bare hp na d v a, RepL.bare hp na ds r b⟩
end
theorem RepKV.bare {κ : Type} {zs : List V} (hp : H p = some (.lst zs)) (na : ¬ T.α p) : ∀ (ds : List (κ × D)) (vs : List (κ × V)), RepKV K (T.hide p) H ds vs → RepKV K T (without H p) ds vs
  | [], _, h => h
  | (k, d) :: ds, vs, h => by
    simp only [RepKV] at h ⊢
    obtain ⟨v, r, q, a, b⟩ := h
    exact ⟨v, r, q, Rep.bare hp na d v a, RepKV.bare hp na ds r b⟩
theorem RepO.bare {zs : List V} (hp : H p = some (.lst zs)) (na : ¬ T.α p) {oc : O} {a : Addr} (h : RepO K (T.hide p) H oc a) (nap : a ≠ p) : RepO K T (without H p) oc a := by
  cases oc with
  | lst xs => obtain ⟨vs, q, l, r⟩ := h; exact ⟨vs, (without_ne nap).trans q, l, RepL.bare hp na _ _ r⟩
  | dct xs => obtain ⟨vs, q, l, r⟩ := h; exact ⟨vs, (without_ne nap).trans q, l, RepKV.bare hp na _ _ r⟩
  | ins C fs => obtain ⟨dx, vs, q, l, r⟩ := h; exact ⟨dx, vs, (without_ne nap).trans q, l, RepKV.bare hp na _ _ r⟩
theorem Wd.bare {zs : List V} (w : Wd K (T.hide p) hc H) (hp : H p = some (.lst zs)) (ap : ¬ T.α p) (np : p ∉ T.κ) : Wd K T hc (without H p) := by
  have pr : p ∉ T.ρ := (w.gh p List.mem_cons_self).1
  refine ⟨w.nd, w.len, fun i x hx => ?_, fun a ha => ?_, fun a ha => ⟨(w.al a ha).1, by
    obtain ⟨_, x, e⟩ := w.al a ha
    exact ⟨x, by rw [without_ne (fun z => ap (by rw [← z]; exact ha))]; exact e⟩⟩⟩
  · obtain ⟨a, ha, r⟩ := w.obj i x hx
    exact ⟨a, ha, RepO.bare hp ap r fun z => by subst z; exact pr (List.mem_iff_getElem?.mpr ⟨i, ha⟩)⟩
  · obtain ⟨n, x, e, t⟩ := w.gh a (List.mem_cons_of_mem _ ha)
    exact ⟨n, x, by rw [without_ne (fun z => np (by rw [← z]; exact ha))]; exact e, t⟩
/-- behind the making: as if the list had come at the end -/
theorem Ext.bare {H0 : Hp} {o : HO} (hp : H0 p = none) (e : Ext (T.hide p) (upd H0 p o) (T'.hide p) H') : Ext T H0 T' (without H' p) := by
  refine ⟨e.pre, ?_, e.al, fun b x h n => ?_, fun b hb => ?_⟩
  · have := e.gh
    exact List.tail_eq_of_cons_eq this
  · have nb : b ≠ p := ne_of_none h hp
    rw [without_ne nb]
    exact e.fr b x (by rw [upd_ne nb]; exact h) n
  · rcases e.new b hb with z | z
    · exact .inl z
    · right
      by_cases nb : b = p
      · rw [nb]; exact hp
      · rw [upd_ne nb] at z; exact z
end
end Cl
/-! The small language, and what it means over clean values. -/
namespace Cl
open PySem PySem.Spec PyProof.Rows L2
inductive Res (α : Type) where
  | ok (a : α) (h : Hc)
  | exc (c : Addr) (fs : List (Str × D)) (h : Hc)
  | bad
abbrev M (α : Type) := Hc → Res α
def pur {α : Type} (a : α) : M α := fun h => .ok a h
def stuck {α : Type} : M α := fun _ => .bad
def bnd {α β : Type} (m : M α) (f : α → M β) : M β := fun h => match m h with
  | .ok a h' => f a h'
  | .exc c fs h' => .exc c fs h'
  | .bad => .bad
/-- what must not raise -/
def calmly {α : Type} (m : M α) : M α := fun h => match m h with
  | .ok a h' => .ok a h'
  | _ => .bad
open Classical in
/-- classical: nothing shall evaluate a bound -/
noncomputable def guard {α : Type} (c : Prop) (m : M α) : M α := if c then m else stuck
@[simp] theorem bnd_pur {α β : Type} (a : α) (f : α → M β) : bnd (pur a) f = f a := rfl
@[simp] theorem bnd_stuck {α β : Type} (f : α → M β) : bnd stuck f = stuck := rfl
theorem bnd_assoc {α β γ : Type} (m : M α) (f : α → M β) (g : β → M γ) : bnd (bnd m f) g = bnd m fun a => bnd (f a) g := by
  funext h
  simp only [bnd]
  cases m h <;> rfl
@[simp] theorem calmly_pur {α : Type} (a : α) : calmly (pur a) = pur a := rfl
@[simp] theorem guard_true {α : Type} {c : Prop} (m : M α) (h : c) : guard c m = m := if_pos h
/-! ### operations on values -/
/-- a changing list's items -/
def lstAt (i : Nat) : M (List D) := fun h => match h[i]? with
  | some (.lst xs) => .ok xs h
  | _ => .bad
def putAt (i : Nat) (o : O) : M Unit := fun h => if i < h.length then .ok () (h.set i o) else .bad
def seqM : D → M (List D)
  | .tup xs => pur xs
  | .fl xs => pur xs
  | .kl xs => pur xs
  | .ref i => lstAt i
  | _ => stuck
/-- a list that is not locked -/
def lsM : D → M (List D)
  | .fl xs => pur xs
  | .ref i => lstAt i
  | _ => stuck
noncomputable def truM : D → M Bool
  | .non => pur false
  | .bl b => pur b
  | .int i => pur (i != 0)
  | .str x => guard (x.length ≤ sizeLine) (pur ((x.length : Int) != 0))
  | .tup xs => pur (!xs.isEmpty)
  | .fl xs => pur (!xs.isEmpty)
  | .kl xs => pur (!xs.isEmpty)
  | .ref i => fun h => match h[i]? with
    | some (.lst xs) => .ok (!xs.isEmpty) h
    | some (.dct kvs) => .ok (!kvs.isEmpty) h
    | _ => .bad
  | _ => stuck
noncomputable def lenM : D → M D
  | .str x => guard (x.length ≤ sizeLine) (pur (.int x.length))
  | .ref i => fun h => match h[i]? with
    | some (.lst xs) => .ok (.int xs.length) h
    | some (.dct kvs) => .ok (.int kvs.length) h
    | _ => .bad
  | d => bnd (seqM d) fun xs => pur (.int xs.length)
def optM {α : Type} : Option α → M α
  | some a => pur a
  | none => stuck
noncomputable def idxM : D → D → M D
  | .str z, .int i => guard (z.length ≤ sizeLine) (bnd (optM (atI z.cps.toList i)) fun c => pur (.str ⟨#[c]⟩))
  | d, .int i => bnd (seqM d) fun xs => optM (atI xs i)
  | _, _ => stuck
def cutD (xs : List D) (lo hi : Option Int) : List D := (xs.drop (HT.sIx xs.length 0 lo)).take (HT.sIx xs.length xs.length hi - HT.sIx xs.length 0 lo)
noncomputable def slcM : D → Option Int → Option Int → M D
  | .tup xs, lo, hi => pur (.tup (cutD xs lo hi))
  | .str z, lo, hi => guard (z.length ≤ sizeLine) (pur (.str (cutS z lo hi)))
  | _, _, _ => stuck
mutual
def toPy : D → Option PyData
  | .non => some .none
  | .bl b => some (.bool b)
  | .int i => some (.int i)
  | .str x => some (.str x)
  | .tup xs => (toPys xs).map .tuple
  | .fl xs => (toPys xs).map .list
  | .kl xs => (toPys xs).map .list
  | _ => none
def toPys : List D → Option (List PyData)
  | [] => some []
  | d :: ds => match toPy d, toPys ds with
    | some p, some ps => some (p :: ps)
    | _, _ => none
end
def toPyH (h : Hc) : D → Option PyData
  | .ref i => match h[i]? with
    | some (.lst xs) => (toPys xs).map .list
    | _ => none
  | d => toPy d
def eqM (a b : D) : M Bool := fun h => match toPyH h a, toPyH h b with
  | some p, some q => if (SeqAt.shaped p && SeqAt.shaped q) = true then .ok (PyData.eqv p q) h else .bad
  | _, _ => .bad
def isNon : D → Bool
  | .non => true
  | _ => false
def isM : D → D → M Bool
  | a, .non => pur (isNon a)
  | .bl a, .bl b => pur (decide (a = b))
  | _, _ => stuck
/-- the ints of a row -/
def intsD : List D → Option (List Int)
  | [] => some []
  | .int i :: r => (intsD r).map (i :: ·)
  | _ => none
def ltM : D → D → M Bool
  | .int i, .int j => pur (decide (i < j))
  | .str x, .str y => pur (decide (x.cps.toList < y.cps.toList))
  | .tup xs, .tup ys => match intsD xs, intsD ys with
    | some ns, some ms => pur (HT.lexLt ns ms)
    | _, _ => stuck
  | _, _ => stuck
def cmpI (p : Int → Int → Bool) : D → D → M Bool
  | .int i, .int j => pur (p i j)
  | _, _ => stuck
def leM : D → D → M Bool
  | .int i, .int j => pur (decide (i ≤ j))
  | .tup xs, .tup ys => match intsD xs, intsD ys with
    | some ns, some ms => pur (!HT.lexLt ms ns)
    | _, _ => stuck
  | _, _ => stuck
/-- flat values by == -/
def eqF : D → D → Bool
  | .non, .non => true
  | .bl a, .bl b => a == b
  | .bl a, .int b => (if a then 1 else 0) == b
  | .int a, .bl b => a == (if b then 1 else 0)
  | .int a, .int b => a == b
  | .str a, .str b => a == b
  | _, _ => false
def flatD : D → Bool
  | .non => true
  | .bl _ => true
  | .int _ => true
  | .str _ => true
  | _ => false
def keyD : D → Option Key
  | .int i => some (.inl i)
  | .str x => some (.inr x)
  | _ => none
def valD : List (Key × D) → Key → Option D
  | [], _ => none
  | (k, d) :: r, k' => if k = k' then some d else valD r k'
/-- x in xs -/
noncomputable def inM : D → D → M Bool
  | .str x, .str y => pur (!(Builtin.Str.occurrences y x 0 y.length 1).isEmpty)
  | x, .ref i => fun h => match h[i]? with
    | some (.lst xs) => if flatD x = true ∧ xs.all flatD = true then .ok (xs.any fun y => eqF y x) h else .bad
    | _ => .bad
  | .tup as, .tup xs => fun h => match toPy (.tup as), toPys xs with
    | some p, some ps => if (SeqAt.shaped p && ps.all SeqAt.shaped) = true then .ok (ps.any fun q => PyData.eqv q p) h else .bad
    | _, _ => .bad
  | x, d => bnd (seqM d) fun xs => guard (flatD x = true ∧ xs.all flatD = true) (pur (xs.any fun y => eqF y x))
noncomputable def cmpM : CmpOp → D → D → M Bool
  | .Eq, a, b => eqM a b
  | .NotEq, a, b => bnd (eqM a b) fun k => pur (!k)
  | .Is, a, b => isM a b
  | .IsNot, a, b => bnd (isM a b) fun k => pur (!k)
  | .Lt, a, b => ltM a b
  | .LtE, a, b => leM a b
  | .Gt, a, b => cmpI (fun i j => decide (j < i)) a b
  | .GtE, a, b => cmpI (fun i j => decide (j ≤ i)) a b
  | .In, a, b => inM a b
  | .NotIn, a, b => bnd (inM a b) fun k => pur (!k)
def MulOk (i j : Int) : Prop := ((-(2 ^ 64) < i ∧ i < 2 ^ 64) ∨ (-(2 ^ 64) < j ∧ j < 2 ^ 64)) ∨ i.natAbs.log2 + j.natAbs.log2 < 1000000
def DivOk (j : Int) : Prop := j ≠ 0 ∧ j.natAbs.log2 < 9000
noncomputable def binM : Operator → D → D → M D
  | .Add, .int i, .int j => pur (.int (i + j))
  | .Add, .str x, .str y => guard (x.length + y.length ≤ sizeLine) (pur (.str (x ++ y)))
  | .Add, .tup xs, .tup ys => guard (xs.length + ys.length ≤ sizeLine) (pur (.tup (xs ++ ys)))
  | .Sub, .int i, .int j => pur (.int (i - j))
  | .Mult, .int i, .int j => guard (MulOk i j) (pur (.int (i * j)))
  | .Mult, .tup xs, .int k => guard (1 ≤ k ∧ k ≤ 1000 ∧ xs ≠ [] ∧ xs.length ≤ 1000) (pur (.tup (List.replicate k.toNat xs).flatten))
  | .FloorDiv, .int i, .int j => guard (DivOk j) (pur (.int (i.fdiv j)))
  | .Mod, .int i, .int j => guard (j ≠ 0) (pur (.int (i.fmod j)))
  | .Pow, .int i, .int j => guard (0 ≤ j ∧ j ≤ 1000000 ∧ i.natAbs < 2 ^ 64) (pur (.int (i ^ j.toNat)))
  | .LShift, .int i, .int j => guard (0 ≤ j ∧ j ≤ 1000000 ∧ i.natAbs < 2 ^ 64) (pur (.int (i * 2 ^ j.toNat)))
  | .RShift, .int i, .int j => guard (0 ≤ j) (pur (.int (i / 2 ^ j.toNat)))
  | .BitAnd, .int i, .int j => pur (.int (Builtin.bitAnd i j))
  | _, _, _ => stuck
/-- x op= y -/
noncomputable def augM : Operator → D → D → M D
  | o, .int i, .int j => match o with
    | .Add => binM o (.int i) (.int j)
    | .Sub => binM o (.int i) (.int j)
    | .Mult => binM o (.int i) (.int j)
    | .FloorDiv => binM o (.int i) (.int j)
    | .Mod => binM o (.int i) (.int j)
    | _ => stuck
  | .Add, .str x, .str y => binM .Add (.str x) (.str y)
  | _, _, _ => stuck
/-- operations that make a new list -/
noncomputable def binL : Operator → D → D → M (List D)
  | .Add, a, b => bnd (lsM a) fun xs => bnd (lsM b) fun ys => guard (xs.length + ys.length ≤ sizeLine) (pur (xs ++ ys))
  | .Mult, a, .int k => bnd (lsM a) fun xs => guard (-(2 ^ 63) ≤ k ∧ k < 2 ^ 63 ∧ xs.length * k.toNat ≤ sizeLine) (pur (List.replicate k.toNat xs).flatten)
  | _, _, _ => stuck
def tyName : D → Option String
  | .non => some "NoneType"
  | .bl _ => some "bool"
  | .int _ => some "int"
  | .str _ => some "str"
  | .tup _ => some "tuple"
  | .fl _ => some "list"
  | .kl _ => some "list"
  | _ => none
/-- the type of a value: a changing thing's by its object -/
def tyM : D → M String
  | .ref i => fun h => match h[i]? with
    | some (.lst _) => .ok "list" h
    | some (.dct _) => .ok "dict" h
    | _ => .bad
  | d => optM (tyName d)
def isaM (ts : List String) (d : D) : M Bool := bnd (tyM d) fun t => pur (ts.any fun u => t == u || (t == "bool" && u == "int"))
/-- built-in functions of values -/
inductive Bi where
  | len | abs | min2 | max2 | minL | maxL | sum | all | any | int | str | tuple | ord | chr | bool
  deriving DecidableEq
/-- built-in functions that make a new list -/
inductive Bn where
  | list | sorted | sortP | sortD
  deriving DecidableEq
def blsD : List D → Option (List Bool)
  | [] => some []
  | .bl i :: r => (blsD r).map (i :: ·)
  | _ => none
def leastI : List Int → Int
  | [] => 0
  | [x] => x
  | x :: r => if x ≤ leastI r then x else leastI r
def mostI : List Int → Int
  | [] => 0
  | [x] => x
  | x :: r => if mostI r ≤ x then x else mostI r
noncomputable def biM : Bi → List D → M D
  | .len, [d] => lenM d
  | .abs, [.int i] => pur (.int (if i < 0 then -i else i))
  | .min2, [.int i, .int j] => pur (.int (if j < i then j else i))
  | .max2, [.int i, .int j] => pur (.int (if j > i then j else i))
  | .minL, [d] => bnd (seqM d) fun xs => bnd (optM (intsD xs)) fun ns => guard (0 < ns.length) (pur (.int (leastI ns)))
  | .maxL, [d] => bnd (seqM d) fun xs => bnd (optM (intsD xs)) fun ns => guard (0 < ns.length) (pur (.int (mostI ns)))
  | .sum, [d] => bnd (seqM d) fun xs => bnd (optM (intsD xs)) fun ns => pur (.int ns.sum)
  | .all, [.tup _] => stuck
  | .all, [d] => bnd (seqM d) fun xs => bnd (optM (blsD xs)) fun ns => pur (.bl (ns.all id))
  | .any, [.tup _] => stuck
  | .any, [d] => bnd (seqM d) fun xs => bnd (optM (blsD xs)) fun ns => pur (.bl (ns.any id))
  | .int, [.int i] => pur (.int i)
  | .int, [.bl k] => pur (.int (if k then 1 else 0))
  | .bool, [.int i] => pur (.bl (i != 0))
  | .bool, [.bl k] => pur (.bl k)
  | .str, [.int i] => guard (i.natAbs.log2 < 1920) (pur (.str (toString i : String)))
  | .tuple, [d] => bnd (seqM d) fun xs => pur (.tup xs)
  | .ord, [.str x] => guard (x.length = 1) (pur (.int (x.cps.getD 0 0 : Nat)))
  | .chr, [.int i] => guard (0 ≤ i ∧ i ≤ 1114111) (pur (.str ⟨#[i.toNat]⟩))
  | _, _ => stuck
/-- pairs of ints -/
def pairsD : List D → Option (List (Int × Int))
  | [] => some []
  | .tup [.int i, .int j] :: r => (pairsD r).map ((i, j) :: ·)
  | _ => none
def pairLe (a b : Int × Int) : Bool := decide (a.1 < b.1 ∨ (a.1 = b.1 ∧ a.2 ≤ b.2))
abbrev encP (p : Int × Int) : D := .tup [.int p.1, .int p.2]
/-- the keys of a dict of ints -/
def intsK : List (Key × D) → Option (List Int)
  | [] => some []
  | (.inl i, _) :: r => (intsK r).map (i :: ·)
  | _ => none
noncomputable def bnM : Bn → List D → M (List D)
  | .list, [d] => seqM d
  | .sorted, [.tup _] => stuck
  | .sorted, [d] => bnd (seqM d) fun xs => bnd (optM (intsD xs)) fun ns => pur ((ns.mergeSort (fun a b => decide (a ≤ b))).map D.int)
  | .sortP, [.tup _] => stuck
  | .sortP, [d] => bnd (seqM d) fun xs => bnd (optM (pairsD xs)) fun L => guard (L.length < 64 ∧ ∀ p ∈ L, 0 ≤ p.1 ∧ 0 ≤ p.2) (pur ((L.mergeSort pairLe).map encP))
  | .sortD, [.ref i] => fun h => match h[i]? with
    | some (.dct kvs) => match intsK kvs with
      | some ns => guard (ns.length < 64) (pur ((ns.mergeSort (fun a b => decide (a ≤ b))).map D.int)) h
      | none => .bad
    | _ => .bad
  | _, _ => stuck
/-! ### the language -/
/-- calls with a receiver: {}, d[k], k in d (not in), d.get(k), d.get(k, x), d[k] = v, xs.index(x), xs.insert(i, x) -/
inductive Pq where
  | dnew | ddisp | dget | din (neg : Bool) | dget1 | dget2 | dput | index | insert
  deriving DecidableEq
/-- where a turn's item goes -/
inductive Tg where
  | nm (i : Nat)
  | tp (is : List Nat)
inductive I where
  | var (i : Nat) | int (n : Int) | str (x : String) | bl (b : Bool) | non
  | glb (j : Nat)
  /-- isinstance of the exception that a suite holds -/
  | isx (i j : Nat) (b : Bool)
  | bin (o : Operator) (a b : I)
  | neg (a : I)
  | not (a : I)
  | cmp (o : CmpOp) (a b : I)
  | chain (o p : CmpOp) (a b c : I)
  | and (a b : I) | or (a b : I)
  | ite (t a b : I)
  | tup (as : I)
  | nil | cons (a r : I)
  | idx (a i : I)
  | slc (a lo hi : I)
  | call (f : Nat) (as : I)
  | bi (f : Bi) (as : I)
  | isa (a : I) (ts : List String)
  /- new lists -/
  | lst (as : I)
  | comp (own : List Nat) (tg : Tg) (src : I) (ifs : I) (elt : I)
  | bn (f : Bn) (as : I)
  | binL (o : Operator) (a b : I)
  | slcL (a lo hi : I)
  /-- xs[::-1] of a list -/
  | revL (a : I)
  /-- a new list that will change -/
  | trk (a : I)
  /- changing lists -/
  | app (a x : I)
  | popAt (a i : I)
  | pop (a : I)
  /-- t[::-1]; xs.extend(ys) -/
  | rev (a : I)
  | ext (a x : I)
  /- what a loop walks -/
  | rng1 (a : I) | rng2 (a b : I) | rng3 (a b c : I)
  | zip (a b : I)
  | enm (a : I)
  /-- dicts, and other calls with a receiver -/
  | pr (p : Pq) (a b c : I)
  /-- a call of a name that holds a def: constants and defs that may be it -/
  | calv (i : Nat) (js : List (Nat × Nat)) (as : I)
/-- a changing dict's pairs -/
def dctAt (i : Nat) : M (List (Key × D)) := fun h => match h[i]? with
  | some (.dct kvs) => .ok kvs h
  | _ => .bad
def putD (kvs : List (Key × D)) (k : Key) (v : D) : List (Key × D) :=
  if (kvs.any fun kv => decide (kv.1 = k)) = true then kvs.map (fun kv => if kv.1 = k then (kv.1, v) else kv) else kvs ++ [(k, v)]
/-- what a receiver must be -/
noncomputable def preM : Pq → D → M Unit
  | .dget1, .ref i => bnd (dctAt i) fun _ => pur ()
  | .dget1, _ => stuck
  | .dget2, .ref i => bnd (dctAt i) fun _ => pur ()
  | .dget2, _ => stuck
  | .index, d => bnd (lsM d) fun _ => pur ()
  | .insert, .ref i => bnd (lstAt i) fun _ => pur ()
  | .insert, _ => stuck
  | _, _ => pur ()
noncomputable def prM : Pq → D → D → D → M D
  | .ddisp, x, y, _ => bnd (optM (keyD x)) fun k h => .ok (.ref h.length) (h ++ [.dct [(k, y)]])
  | .dnew, _, _, _ => fun h => .ok (.ref h.length) (h ++ [.dct []])
  | .dget, .ref i, y, _ => bnd (dctAt i) fun kvs => bnd (optM (keyD y)) fun k => optM (valD kvs k)
  | .din b, y, .ref i, _ => bnd (dctAt i) fun kvs => bnd (optM (keyD y)) fun k => pur (.bl (b != (valD kvs k).isSome))
  | .dget1, .ref i, y, _ => bnd (dctAt i) fun kvs => bnd (optM (keyD y)) fun k => pur ((valD kvs k).getD .non)
  | .dget2, .ref i, y, z => bnd (dctAt i) fun kvs => bnd (optM (keyD y)) fun k => pur ((valD kvs k).getD z)
  | .dput, v, .ref i, y => bnd (dctAt i) fun kvs => bnd (optM (keyD y)) fun k => guard (kvs.length < sizeLine) (bnd (putAt i (.dct (putD kvs k v))) fun _ => pur .non)
  | .index, d, y, _ => bnd (lsM d) fun xs => guard (flatD y = true ∧ xs.all flatD = true) (bnd (optM (xs.findIdx? fun x => eqF x y)) fun j => pur (.int (j : Nat)))
  | .insert, .ref i, .int j, z => bnd (lstAt i) fun xs => guard (0 ≤ j ∧ j < 2 ^ 63 ∧ xs.length < sizeLine) (bnd (putAt i (.lst (xs.take j.toNat ++ [z] ++ xs.drop j.toNat))) fun _ => pur .non)
  | _, _, _, _ => stuck
/-- a list, turned round -/
def revLM (d : D) : M (List D) := match d with
  | .tup _ => stuck
  | d => bnd (seqM d) fun xs => pur xs.reverse
def revM : D → M D
  | .tup xs => pur (.tup xs.reverse)
  | _ => stuck
/-- items, and the lists that must stand meanwhile -/
structure Src where
  items : List D
  dep : List (Nat × List D)
open Classical in
noncomputable def depOk {α : Type} (dep : List (Nat × List D)) (m : M α) : M α := fun h => if ∀ p ∈ dep, h[p.1]? = some (.lst p.2) then m h else .bad
@[simp] theorem depOk_nil {α : Type} (m : M α) : depOk [] m = m := by
  funext h; unfold depOk; rw [if_pos (fun _ h => by cases h)]
noncomputable def setTg : Tg → D → Env → M Env
  | .nm i, d, env => pur (env.set i (some d))
  | .tp is, d, env => bnd (seqM d) fun xs => guard (xs.length = is.length) (pur ((is.zip xs).foldl (fun e p => e.set p.1 (some p.2)) env))
def wipeE (env : Env) : List Nat → Env
  | [] => env
  | v :: vs => (wipeE env vs).set v none
noncomputable def compL (tg : Tg) (env : Env) (dep : List (Nat × List D)) (f : Env → M (Option D)) : List D → M (List D)
  | [] => depOk dep (pur [])
  | x :: xs => depOk dep (bnd (setTg tg x env) fun e => bnd (f e) fun o => bnd (compL tg env dep f xs) fun r => pur (match o with
    | some d => d :: r
    | none => r))
def srcM : D → M Src
  | .str x => pur ⟨x.cps.toList.map fun c => .str ⟨#[c]⟩, []⟩
  | .ref i => bnd (lstAt i) fun xs => pur ⟨xs, [(i, xs)]⟩
  | d => bnd (seqM d) fun xs => pur ⟨xs, []⟩
/-- a list that is walked -/
def lsrcM : D → M Src
  | .fl xs => pur ⟨xs, []⟩
  | .kl xs => pur ⟨xs, []⟩
  | .ref i => bnd (lstAt i) fun xs => pur ⟨xs, [(i, xs)]⟩
  | _ => stuck
/-- a list or a tuple that is walked -/
def zsrcM : D → M Src
  | .tup xs => pur ⟨xs, []⟩
  | d => lsrcM d
def pairM : D → D → M Src
  | .tup xs, .tup ys => pur ⟨(xs.zip ys).map fun p => .tup [p.1, p.2], []⟩
  | a, b => bnd (zsrcM a) fun s => bnd (zsrcM b) fun t => pur ⟨(s.items.zip t.items).map fun p => .tup [p.1, p.2], s.dep ++ t.dep⟩
def rangeD (lo : Int) (n : Nat) : List D := (List.range n).map fun (i : Nat) => .int (lo + (i : Int))
def rangeC (lo c : Int) (n : Nat) : List D := (List.range n).map fun (i : Nat) => .int (lo + (i : Int) * c)
def intM : D → M Int
  | .int i => pur i
  | _ => stuck
def Rg (i : Int) : Prop := -(2 ^ 62) ≤ i ∧ i < 2 ^ 62
/-- defs by their places, by their addresses; the exception that a suite holds -/
structure Gt where
  tab : List (List D → M D)
  fv : Addr → Option (List D → M D) := fun _ => none
  xa : Option Addr := none
/-- the def that stands at an address, by the constants -/
def pickF (G : Gt) (C : List D) (a : Addr) : List (Nat × Nat) → Option (List D → M D)
  | [] => none
  | (c, j) :: r => match C[c]? with
    | some (.ob b) => if a = b then G.tab[j]? else pickF G C a r
    | _ => pickF G C a r
section
variable (G : Gt) (C : List D)
mutual
noncomputable def semE : I → Env → M D
  | .var i, env => optM ((env[i]?).bind id)
  | .int n, _ => pur (.int n)
  | .str x, _ => pur (.str (Str.ofString x))
  | .bl b, _ => pur (.bl b)
  | .non, _ => pur .non
  | .glb j, _ => optM C[j]?
  | .isx i _ b, env => match G.xa, (env[i]?).bind id with
    | some a, some (.ob a') => if a = a' then pur (.bl b) else stuck
    | _, _ => stuck
  | .bin o a b, env => bnd (semE a env) fun x => bnd (semE b env) fun y => binM o x y
  | .neg a, env => bnd (semE a env) fun x => bnd (intM x) fun i => pur (.int (-i))
  | .not a, env => bnd (semE a env) fun x => bnd (truM x) fun k => pur (.bl (!k))
  | .cmp o a b, env => bnd (semE a env) fun x => bnd (semE b env) fun y => bnd (cmpM o x y) fun k => pur (.bl k)
  | .chain o p a b c, env => bnd (semE a env) fun x => bnd (semE b env) fun y => bnd (cmpM o x y) fun k => if k = true then bnd (semE c env) fun z => bnd (cmpM p y z) fun l => pur (.bl l) else pur (.bl false)
  | .and a b, env => bnd (semE a env) fun x => bnd (truM x) fun k => if k = true then semE b env else pur x
  | .or a b, env => bnd (semE a env) fun x => bnd (truM x) fun k => if k = true then pur x else semE b env
  | .ite t a b, env => bnd (semE t env) fun x => bnd (truM x) fun k => if k = true then semE a env else semE b env
  | .tup as, env => bnd (semA as env) fun xs => guard (xs.length ≤ sizeLine) (pur (.tup xs))
  | .idx a i, env => bnd (semE a env) fun x => bnd (semE i env) fun y => idxM x y
  | .slc a lo hi, env => bnd (semE a env) fun x => bnd (semO lo env) fun l => bnd (semO hi env) fun u => slcM x l u
  | .call f as, env => match G.tab[f]? with
    | some g => bnd (semA as env) g
    | none => stuck
  | .bi f as, env => bnd (semA as env) fun xs => biM f xs
  | .isa a ts, env => bnd (semE a env) fun x => bnd (isaM ts x) fun k => pur (.bl k)
  | .trk a, env => bnd (semN a env) fun xs h => .ok (.ref h.length) (h ++ [.lst xs])
  | .app a x, env => bnd (semE a env) fun l => match l with
    | .ref i => bnd (lstAt i) fun _ => bnd (semE x env) fun y => bnd (lstAt i) fun xs => guard (xs.length < sizeLine) (bnd (putAt i (.lst (xs ++ [y]))) fun _ => pur .non)
    | _ => stuck
  | .popAt a x, env => bnd (semE a env) fun l => match l with
    | .ref i => bnd (lstAt i) fun _ => bnd (semE x env) fun y => bnd (intM y) fun k => bnd (lstAt i) fun xs => guard (-(2 ^ 63) ≤ k ∧ k < 2 ^ 63) (bnd (optM (seqIndex? k xs.length)) fun j => bnd (optM xs[j]?) fun v => bnd (putAt i (.lst (xs.eraseIdx j))) fun _ => pur v)
    | _ => stuck
  | .pop a, env => bnd (semE a env) fun l => match l with
    | .ref i => bnd (lstAt i) fun xs => bnd (optM xs[xs.length - 1]?) fun v => bnd (putAt i (.lst xs.dropLast)) fun _ => pur v
    | _ => stuck
  | .rev a, env => bnd (semE a env) revM
  | .ext a x, env => bnd (semE a env) fun l => match l with
    | .ref i => bnd (lstAt i) fun _ => bnd (semE x env) fun y => match y with
      | .fl ys => bnd (lstAt i) fun xs => guard (xs.length + ys.length ≤ sizeLine) (bnd (putAt i (.lst (xs ++ ys))) fun _ => pur .non)
      | _ => stuck
    | _ => stuck
  | .pr p a b c, env => bnd (semE a env) fun x => bnd (preM p x) fun _ => bnd (semE b env) fun y => bnd (semE c env) fun z => prM p x y z
  | .calv i js as, env => match (env[i]?).bind id with
    | some (.ob a) => match pickF G C a js with
      | some g => bnd (semA as env) fun xs => calmly (g xs)
      | none => stuck
    | _ => stuck
  | .lst as, env => bnd (semN (.lst as) env) fun xs => pur (.fl xs)
  | .comp own tg src ifs elt, env => bnd (semN (.comp own tg src ifs elt) env) fun xs => pur (.fl xs)
  | .bn f as, env => bnd (semN (.bn f as) env) fun xs => pur (.fl xs)
  | .binL o a b, env => bnd (semN (.binL o a b) env) fun xs => pur (.fl xs)
  | .slcL a lo hi, env => bnd (semN (.slcL a lo hi) env) fun xs => pur (.fl xs)
  | .revL a, env => bnd (semN (.revL a) env) fun xs => pur (.fl xs)
  | _, _ => stuck
/-- a list's new items -/
noncomputable def semN : I → Env → M (List D)
  | .lst as, env => bnd (semA as env) fun xs => guard (xs.length ≤ sizeLine) (pur xs)
  | .comp own tg src ifs elt, env => bnd (semI src env) fun s => guard (s.items.length ≤ sizeLine) (calmly (compL tg (wipeE env own) s.dep (fun e => match ifs with
    | .nil => bnd (semE elt e) fun d => pur (some d)
    | t => bnd (semE t e) fun x => bnd (truM x) fun k => if k = true then bnd (semE elt e) fun d => pur (some d) else pur none) s.items))
  | .bn f as, env => bnd (semA as env) fun xs => bnM f xs
  | .revL a, env => bnd (semE a env) revLM
  | .binL o a b, env => bnd (semE a env) fun x => bnd (semE b env) fun y => binL o x y
  | .slcL a lo hi, env => bnd (semE a env) fun x => bnd (semO lo env) fun l => bnd (semO hi env) fun u => match x with
    | .tup _ => stuck
    | x => bnd (seqM x) fun xs => pur (cutD xs l u)
  | _, _ => stuck
noncomputable def semA : I → Env → M (List D)
  | .nil, _ => pur []
  | .cons a r, env => bnd (semE a env) fun x => bnd (semA r env) fun xs => pur (x :: xs)
  | _, _ => stuck
/-- a part of a slice -/
noncomputable def semO : I → Env → M (Option Int)
  | .nil, _ => pur none
  | e, env => bnd (semE e env) fun x => bnd (intM x) fun i => pur (some i)
/-- what a loop walks -/
noncomputable def semI : I → Env → M Src
  | .rng1 a, env => bnd (semE a env) fun x => bnd (intM x) fun j => guard (Rg j) (pur ⟨rangeD 0 j.toNat, []⟩)
  | .rng2 a b, env => bnd (semE a env) fun x => bnd (semE b env) fun y => bnd (intM x) fun i => bnd (intM y) fun j => guard (Rg i ∧ Rg j) (pur ⟨rangeD i (j - i).toNat, []⟩)
  | .rng3 a b c, env => bnd (semE a env) fun x => bnd (semE b env) fun y => bnd (semE c env) fun z => bnd (intM x) fun i => bnd (intM y) fun j => bnd (intM z) fun k =>
      guard (k ≠ 0 ∧ k.natAbs < 1073741824 ∧ Builtin.Range.small i j k = true ∧ 0 ≤ Builtin.Range.rangeSize i j k) (pur ⟨rangeC i k (Builtin.Range.rangeSize i j k).toNat, []⟩)
  | .zip a b, env => bnd (semE a env) fun x => bnd (semE b env) fun y => pairM x y
  | .enm a, env => bnd (semE a env) fun x => bnd (zsrcM x) fun s => pur ⟨(s.items.zipIdx).map fun p => .tup [.int (p.2 : Nat), p.1], s.dep⟩
  | e, env => bnd (semE e env) fun x => srcM x
end
end
/-! ### statements -/
inductive At where
  | tg (t : Tg)
  | sub (a i : I)
inductive S where
  | nop | doc | brk | cnt
  | seq (a b : S)
  | asg (t : At) (e : I)
  | par (is : List Nat) (as : I)
  | aug (i : Nat) (o : Operator) (e : I)
  | augS (a i : I) (o : Operator) (e : I)
  /-- several places and names, by a tuple -/
  | asgs (ts : List At) (e : I)
  | ex (e : I)
  | ret (e : I) | retN
  | ite (t : I) (a b : S)
  | whl (t : I) (b : S)
  | for (tg : Tg) (src : I) (b : S)
  | never
  /-- raise an own class's instance; one of the class j caught by the class k, as slot i -/
  | rse (j : Nat)
  | tryX (b : S) (j k i : Nat) (su : S)
inductive Out where
  | nx (env : Env) (h : Hc) | bk (env : Env) (h : Hc) | ct (env : Env) (h : Hc)
  | rt (d : D) (h : Hc)
  | exc (c : Addr) (fs : List (Str × D)) (env : Env) (h : Hc)
  | bad
/-- an expression within a statement -/
def exS {α : Type} (m : M α) (env : Env) (h : Hc) (k : α → Hc → Out) : Out := match m h with
  | .ok a h' => k a h'
  | .exc c fs h' => .exc c fs env h'
  | .bad => .bad
noncomputable def forL (tg : Tg) (dep : List (Nat × List D)) (b : Env → Hc → Out) : List D → Env → Hc → Out
  | [], env, h => exS (depOk dep (pur ())) env h fun _ h => .nx env h
  | x :: xs, env, h => exS (depOk dep (setTg tg x env)) env h fun e h => match b e h with
    | .nx e h => forL tg dep b xs e h
    | .ct e h => forL tg dep b xs e h
    | .bk e h => .nx e h
    | o => o
def whlN (t : Env → M Bool) (b : Env → Hc → Out) : Nat → Env → Hc → Option Out
  | 0, _, _ => none
  | n + 1, env, h => match t env h with
    | .ok true h => match b env h with
      | .nx e h => whlN t b n e h
      | .ct e h => whlN t b n e h
      | .bk e h => some (.nx e h)
      | o => some o
    | .ok false h => some (.nx env h)
    | .exc c fs h => some (.exc c fs env h)
    | .bad => some .bad
open Classical in
noncomputable def whlR (t : Env → M Bool) (b : Env → Hc → Out) (env : Env) (h : Hc) : Out :=
  if x : ∃ o n, whlN t b n env h = some o then x.choose else .bad
theorem whlN_more {t : Env → M Bool} {b : Env → Hc → Out} : ∀ {n : Nat} {env : Env} {h : Hc} {o : Out}, whlN t b n env h = some o → ∀ k, whlN t b (n + k) env h = some o
  | 0, _, _, _, e, _ => by simp [whlN] at e
  | n + 1, env, h, o, e, k => by
    rw [show n + 1 + k = (n + k) + 1 by omega]
    simp only [whlN] at e ⊢
    split at e
    · split at e
      · next q => exact whlN_more e k
      · next q => exact whlN_more e k
      · exact e
      · exact e
    · exact e
    · exact e
    · exact e
theorem whlR_of {t : Env → M Bool} {b : Env → Hc → Out} {n : Nat} {env : Env} {h : Hc} {o : Out} (e : whlN t b n env h = some o) : whlR t b env h = o := by
  have x : ∃ o n, whlN t b n env h = some o := ⟨o, n, e⟩
  unfold whlR
  rw [dif_pos x]
  obtain ⟨m, hm⟩ := x.choose_spec
  have a := whlN_more hm n
  have c := whlN_more e m
  rw [Nat.add_comm m n] at a
  rw [a] at c
  exact Option.some.inj c
theorem whlR_has {t : Env → M Bool} {b : Env → Hc → Out} {env : Env} {h : Hc} (x : whlR t b env h ≠ .bad) : ∃ n, whlN t b n env h = some (whlR t b env h) := by
  unfold whlR at x ⊢
  split at x
  · next q => rw [dif_pos q]; exact q.choose_spec
  · exact absurd rfl x
/-- a suite has no exception of its own; its name goes -/
def sufX (i : Nat) : Out → Out
  | .nx env h => .nx (env.set i none) h
  | .bk env h => .bk (env.set i none) h
  | .ct env h => .ct (env.set i none) h
  | .rt d h => .rt d h
  | _ => .bad
open Classical in
/-- what is the same for all addresses -/
noncomputable def sameFor (f : Addr → Out) : Out := if x : ∃ o, ∀ a, f a = o then x.choose else .bad
theorem sameFor_of {f : Addr → Out} {o : Out} (h : ∀ a, f a = o) : sameFor f = o := by
  have x : ∃ o, ∀ a, f a = o := ⟨o, h⟩
  unfold sameFor
  rw [dif_pos x]
  have : f 0 = x.choose := x.choose_spec 0
  rw [← this, h]
theorem sameFor_has {f : Addr → Out} (h : sameFor f ≠ .bad) : ∀ a, f a = sameFor f := by
  unfold sameFor at h ⊢
  split at h
  · next q => rw [dif_pos q]; exact q.choose_spec
  · exact absurd rfl h
/-- a store to a place -/
def storeM : D → D → D → M Unit
  | .ref r, .int k, d => bnd (lstAt r) fun xs => bnd (optM (ixN xs.length k)) fun j => putAt r (.lst (xs.set j d))
  | _, _, _ => stuck
/-- one place after the other -/
noncomputable def setAts (G : Gt) (C : List D) : List At → List D → Env → M Env
  | [], [], env => pur env
  | .tg (.nm i) :: ts, x :: xs, env => setAts G C ts xs (env.set i (some x))
  | .sub a i :: ts, x :: xs, env => bnd (semE G C a env) fun l => bnd (semE G C i env) fun k => bnd (storeM l k x) fun _ => setAts G C ts xs env
  | _, _, _ => stuck
noncomputable def semS : Gt → List D → S → Env → Hc → Out
  | G, C, .nop, env, h => .nx env h
  | G, C, .doc, env, h => .nx env h
  | G, C, .brk, env, h => .bk env h
  | G, C, .cnt, env, h => .ct env h
  | G, C, .never, _, _ => .bad
  | G, C, .rse j, env, h => match C[j]? with
    | some (.ob a) => .exc a [] env h
    | _ => .bad
  | G, C, .tryX b j _ i su, env, h => match C[j]? with
    | some (.ob a) => match semS G C b env h with
      | .exc c fs env' h' => if c = a ∧ fs.isEmpty = true then sameFor fun x => sufX i (semS { G with xa := some x } C su (env'.set i (some (.ob x))) h') else .bad
      | o => o
    | _ => .bad
  | G, C, .seq a b, env, h => match semS G C a env h with
    | .nx e h => semS G C b e h
    | o => o
  | G, C, .asg (.tg t) e, env, h => exS (bnd (semE G C e env) fun d => setTg t d env) env h fun e h => .nx e h
  | G, C, .asg (.sub a i) e, env, h => exS (bnd (semE G C e env) fun d => bnd (semE G C a env) fun l => bnd (semE G C i env) fun k => match l, k with
    | .ref r, .int k => bnd (lstAt r) fun xs => bnd (optM (ixN xs.length k)) fun j => putAt r (.lst (xs.set j d))
    | _, _ => stuck) env h fun _ h => .nx env h
  | G, C, .par is as, env, h => exS (semA G C as env) env h fun xs h => if xs.length = is.length then .nx ((is.zip xs).foldl (fun e p => e.set p.1 (some p.2)) env) h else .bad
  | G, C, .aug i o e, env, h => exS (bnd (optM ((env[i]?).bind id)) fun x => bnd (semE G C e env) fun y => augM o x y) env h fun d h => .nx (env.set i (some d)) h
  | G, C, .augS a i o e, env, h => exS (bnd (semE G C a env) fun l => bnd (semE G C i env) fun k => match l with
    | .ref _ => bnd (idxM l k) fun x => bnd (semE G C e env) fun y => bnd (augM o x y) fun d => match l, k with
      | .ref r, .int k => bnd (lstAt r) fun xs => bnd (optM (ixN xs.length k)) fun j => putAt r (.lst (xs.set j d))
      | _, _ => stuck
    | _ => stuck) env h fun _ h => .nx env h
  | G, C, .asgs ts e, env, h => exS (semE G C e env) env h fun d h => match d with
    | .tup xs => exS (calmly (setAts G C ts xs env)) env h fun e h => .nx e h
    | _ => .bad
  | G, C, .ex e, env, h => exS (semE G C e env) env h fun _ h => .nx env h
  | G, C, .ret e, env, h => exS (semE G C e env) env h fun d h => .rt d h
  | G, C, .retN, _, h => .rt .non h
  | G, C, .ite t a b, env, h => exS (bnd (semE G C t env) truM) env h fun k h => if k = true then semS G C a env h else semS G C b env h
  | G, C, .whl t b, env, h => whlR (fun env => bnd (semE G C t env) truM) (semS G C b) env h
  | G, C, .for tg src b, env, h => exS (semI G C src env) env h fun s h => forL tg s.dep (semS G C b) s.items env h
end Cl
/-! The checker: does a piece of the row's text say what a piece of the small language says? -/
namespace Cl
open PySem PySem.Spec PyProof.Rows L2
structure Ck where
  N : List Str
  fs : List Str
  gs : List Str
  /-- no suite of an except clause -/
  cm : Bool := true
  /-- constants that are classes that may be raised; (raised, caught by); (raised, asked for, answer) -/
  rs : List Nat := []
  hs : List (Nat × Nat) := []
  xs : List (Nat × List Nat × Bool) := []
  /-- in a suite: slot, its name, the classes asked for, the answer -/
  xq : List (Nat × Str × List Str × Bool) := []
/-- within the suite of an exception of the class j, held at the slot i -/
def Ck.suite (C : Ck) (j i : Nat) (n : Str) : Ck := { C with cm := false, xq := (C.xs.filter fun t => t.1 == j).map fun t => (i, n, t.2.1.map fun k => C.gs.getD k "", t.2.2) }
def visB (sc : Scope) (x : Str) : Bool := match sc.names.lookup x with
  | some .local => true
  | some .cell => true
  | some .free => true
  | _ => false
def glB (sc : Scope) (x : Str) : Bool := match sc.names.lookup x with
  | some .globalImplicit => true
  | _ => false
def locB (sc : Scope) (x : Str) : Bool := match sc.names.lookup x with
  | some .local => true
  | some .cell => true
  | _ => false
def loclB (sc : Scope) (x : Str) : Bool := match sc.names.lookup x with
  | some .local => true
  | _ => false
def okName (x : Str) : Bool := !(x == ("__debug__" : Str)) && !(x == ("__classdict__" : Str))
/-- its truth is asked of its value -/
def plainT : Expr → Bool
  | .UnaryOp .Not _ _ => false
  | .BoolOp _ _ _ => false
  | .IfExp _ _ _ _ => false
  | .Compare _ _ _ _ => false
  | _ => true
def notSet : Expr → Bool
  | .Set _ _ _ => false
  | _ => true
def notSuper : Expr → Bool
  | .Call _ [] [] _ => false
  | _ => true
def notSlice : Expr → Bool
  | .Slice _ _ _ _ => false
  | _ => true
def isTup : Expr → Bool
  | .Tuple _ _ _ => true
  | _ => false
def biName : Bi → Str
  | .len => "len" | .abs => "abs" | .min2 => "min" | .max2 => "max" | .minL => "min" | .maxL => "max" | .sum => "sum" | .all => "all" | .any => "any"
  | .int => "int" | .str => "str" | .tuple => "tuple" | .ord => "ord" | .chr => "chr" | .bool => "bool"
def bnName : Bn → Str
  | .list => "list" | .sorted => "sorted" | .sortP => "sorted" | .sortD => "sorted"
def isVarI : I → Bool
  | .var _ => true
  | _ => false
def isNonI : I → Bool
  | .non => true
  | _ => false
def bNames : List Str := ["len", "abs", "min", "max", "sum", "all", "any", "int", "str", "tuple", "ord", "chr", "bool", "list", "sorted", "isinstance", "range", "zip", "enumerate", "dict"]
def tyNames : List String := ["int", "bool", "str", "tuple", "list", "dict"]
def nms : List Str → List Expr → Scope → Bool
  | [], [], _ => true
  | c :: cs, .Name x _ :: es, sc => x == c && glB sc x && okName x && nms cs es sc
  | _, _, _ => false
/-- isinstance(n, C), isinstance(n, (C, ..)) -/
def xqForm (n : Str) (cls : List Str) (sc : Scope) : Expr → Bool
  | .Call (.Name f _) [.Name m _, .Tuple es _ _] [] _ => decide (f = ("isinstance" : Str)) && glB sc f && decide (m = n) && visB sc m && okName m && nms cls es sc && decide (2 ≤ es.length ∧ es.length ≤ 100)
  | _ => false
def chkTg (C : Ck) (sc : Scope) (own : Nat → Bool) : Tg → Expr → Bool
  | .nm i, .Name x _ => decide (C.N[i]? = some x) && locB sc x && own i
  | .tp is, .Tuple es _ _ => C.cm && chkTs is es
  | _, _ => false
where
  chkTs : List Nat → List Expr → Bool
    | [], [] => true
    | i :: is, .Name x _ :: es => decide (C.N[i]? = some x) && locB sc x && own i && chkTs is es
    | _, _ => false
def ownOf (N : List Str) (own : List Nat) : List (Str × Nat) := own.map fun i => (N.getD i "", i)
def tysB : List String → List Expr → Scope → Bool
  | [], [], _ => true
  | t :: ts, .Name x _ :: es, sc => decide (t ∈ tyNames) && x == Str.ofString t && glB sc x && tysB ts es sc
  | _, _, _ => false
section
variable (C : Ck)
mutual
def chkE : I → Scope → Expr → Bool
  | .var i, sc, .Name x _ => decide (C.N[i]? = some x) && visB sc x && okName x
  | .int n, _, .Constant (.int m) _ _ => decide (m = n)
  | .str s, _, .Constant (.str x) _ _ => decide (x = Str.ofString s)
  | .bl b, _, .Constant (.bool k) _ _ => decide (k = b)
  | .non, _, .Constant .none _ _ => true
  | .glb j, sc, .Name x _ => decide (C.gs[j]? = some x) && glB sc x && okName x
  | .isx i j b, sc, e => match C.xq[j]? with
    | some (i', n, cls, b') => decide (i' = i) && decide (b' = b) && xqForm n cls sc e
    | none => false
  | .bin o a b, sc, .BinOp x o' y _ => decide (o' = o) && chkE a sc x && chkE b sc y
  | .neg a, sc, .UnaryOp .USub x _ => chkE a sc x
  | .not a, sc, .UnaryOp .Not x _ => chkE a sc x
  | .cmp o a b, sc, .Compare x [o'] [y] _ => decide (o' = o) && (C.cm && notSet y) && chkE a sc x && chkE b sc y
  | .chain o p a b c, sc, .Compare x [o', p'] [y, z] _ => decide (o' = o) && decide (p' = p) && (C.cm && notSet z) && chkE a sc x && chkE b sc y && chkE c sc z
  | .and a b, sc, .BoolOp .And [x, y] _ => chkE a sc x && chkE b sc y
  | .and a b, sc, .BoolOp .And (x :: y :: z :: r) pos => chkE a sc x && chkE b sc (.BoolOp .And (y :: z :: r) pos)
  | .or a b, sc, .BoolOp .Or [x, y] _ => chkE a sc x && chkE b sc y
  | .or a b, sc, .BoolOp .Or (x :: y :: z :: r) pos => chkE a sc x && chkE b sc (.BoolOp .Or (y :: z :: r) pos)
  | .ite t a b, sc, .IfExp c x y _ => chkE t sc c && chkE a sc x && chkE b sc y
  | .tup as, sc, .Tuple es _ _ => chkA as sc es
  | .idx a i, sc, .Subscript x y _ => notSlice y && chkE a sc x && chkE i sc y
  | .slc a lo hi, sc, .Subscript x (.Slice l u none _) _ => chkE a sc x && chkO lo sc l && chkO hi sc u
  | .call f as, sc, .Call (.Name x _) (e :: es) [] _ => (C.cm && decide (C.fs[f]? = some x)) && glB sc x && okName x && chkA as sc (e :: es)
  | .bi f as, sc, .Call (.Name x _) (e :: es) [] _ => C.cm && decide (x = biName f) && glB sc x && chkA as sc (e :: es)
  | .isa a ts, sc, .Call (.Name x _) [e, .Name y p] [] _ => decide (x = ("isinstance" : Str)) && glB sc x && chkE a sc e && tysB ts [.Name y p] sc
  | .isa a ts, sc, .Call (.Name x _) [e, .Tuple es _ _] [] _ => decide (x = ("isinstance" : Str)) && glB sc x && chkE a sc e && tysB ts es sc && decide (2 ≤ es.length ∧ ts.length ≤ 100)
  | .trk a, sc, e => chkN a sc e
  | .app a x, sc, .Call (.Attribute o n ap) [e] [] cp => decide (n = ("append" : Str)) && notSuper o && (ap.endLine == cp.line) && chkE a sc o && chkE x sc e
  | .popAt a x, sc, .Call (.Attribute o n ap) [e] [] cp => decide (n = ("pop" : Str)) && notSuper o && (ap.endLine == cp.line) && chkE a sc o && chkE x sc e
  | .pop a, sc, .Call (.Attribute o n ap) [] [] cp => decide (n = ("pop" : Str)) && notSuper o && (ap.endLine == cp.line) && chkE a sc o
  | .rev a, sc, .Subscript x (.Slice none none (some (.UnaryOp .USub (.Constant (.int m) _ _) _)) _) _ => decide (m = 1) && chkE a sc x
  | .ext a x, sc, .Call (.Attribute o n ap) [e] [] cp => decide (n = ("extend" : Str)) && notSuper o && (ap.endLine == cp.line) && chkE a sc o && chkE x sc e
  | .pr .dnew a b c, _, .Dict [] [] _ => isNonI a && isNonI b && isNonI c
  | .pr .ddisp a b c, sc, .Dict [some x] [y] _ => isNonI c && isVarI a && isVarI b && chkE a sc x && chkE b sc y
  | .pr .dget a b c, sc, .Subscript x y _ => isNonI c && notSlice y && chkE a sc x && chkE b sc y
  | .pr (.din n) a b c, sc, .Compare x [o] [y] _ => isNonI c && decide (o = if n then CmpOp.NotIn else CmpOp.In) && (C.cm && notSet y) && chkE a sc x && chkE b sc y
  | .pr .dget1 a b c, sc, .Call (.Attribute o n ap) [e] [] cp => isNonI c && C.cm && decide (n = ("get" : Str)) && notSuper o && (ap.endLine == cp.line) && chkE a sc o && chkE b sc e
  | .pr .dget2 a b c, sc, .Call (.Attribute o n ap) [e, f] [] cp => C.cm && decide (n = ("get" : Str)) && notSuper o && (ap.endLine == cp.line) && chkE a sc o && chkE b sc e && chkE c sc f
  | .pr .index a b c, sc, .Call (.Attribute o n ap) [e] [] cp => isNonI c && decide (n = ("index" : Str)) && notSuper o && (ap.endLine == cp.line) && chkE a sc o && chkE b sc e
  | .pr .insert a b c, sc, .Call (.Attribute o n ap) [e, f] [] cp => decide (n = ("insert" : Str)) && notSuper o && (ap.endLine == cp.line) && chkE a sc o && chkE b sc e && chkE c sc f
  | .calv i js as, sc, .Call (.Name x _) (e :: es) [] _ => C.cm && decide (C.N[i]? = some x) && visB sc x && okName x && (js.all fun p => (C.gs[p.1]?).isSome && decide (C.gs[p.1]? = C.fs[p.2]?)) && chkA as sc (e :: es)
  | .lst as, sc, e => chkN (.lst as) sc e
  | .comp own tg src ifs elt, sc, e => chkN (.comp own tg src ifs elt) sc e
  | .bn f as, sc, e => chkN (.bn f as) sc e
  | .binL o a b, sc, e => chkN (.binL o a b) sc e
  | .slcL a lo hi, sc, e => chkN (.slcL a lo hi) sc e
  | .revL a, sc, e => chkN (.revL a) sc e
  | _, _, _ => false
def chkN : I → Scope → Expr → Bool
  | .lst as, sc, .List es _ => chkA as sc es
  | .comp own tg src ifs elt, sc, .ListComp e [⟨t, it, cs, k⟩] scope _ => C.cm && decide (k = 0) && blkC C.N sc scope (ownOf C.N own) && chkTg C scope (fun i => own.contains i) tg t && notSet it && chkI src sc t it &&
      (match ifs, cs with
        | .nil, [] => true
        | .nil, _ => false
        | f, [c] => chkE f scope c
        | _, _ => false) && chkE elt scope e
  | .bn f as, sc, .Call (.Name x _) (e :: es) [] _ => C.cm && decide (x = bnName f) && glB sc x && chkA as sc (e :: es)
  | .binL o a b, sc, .BinOp x o' y _ => decide (o' = o) && chkE a sc x && chkE b sc y
  | .slcL a lo hi, sc, .Subscript x (.Slice l u none _) _ => chkE a sc x && chkO lo sc l && chkO hi sc u
  | .revL a, sc, .Subscript x (.Slice none none (some (.UnaryOp .USub (.Constant (.int m) _ _) _)) _) _ => decide (m = 1) && chkE a sc x
  | _, _, _ => false
def chkA : I → Scope → List Expr → Bool
  | .nil, _, [] => true
  | .cons a r, sc, e :: es => chkE a sc e && chkA r sc es
  | _, _, _ => false
def chkO : I → Scope → Option Expr → Bool
  | .nil, _, none => true
  | .nil, _, some _ => false
  | e, sc, some x => chkE e sc x
  | _, _, none => false
def chkI : I → Scope → Expr → Expr → Bool
  | .rng1 a, sc, _, .Call (.Name x _) [e] [] _ => decide (x = ("range" : Str)) && glB sc x && chkE a sc e
  | .rng2 a b, sc, _, .Call (.Name x _) [e, f] [] _ => decide (x = ("range" : Str)) && glB sc x && chkE a sc e && chkE b sc f
  | .rng3 a b c, sc, _, .Call (.Name x _) [e, f, g] [] _ => decide (x = ("range" : Str)) && glB sc x && chkE a sc e && chkE b sc f && chkE c sc g
  | .zip a b, sc, t, .Call (.Name x _) [e, f] [] _ => isTup t && decide (x = ("zip" : Str)) && glB sc x && chkE a sc e && chkE b sc f
  | .enm a, sc, t, .Call (.Name x _) [e] [] _ => isTup t && decide (x = ("enumerate" : Str)) && glB sc x && chkE a sc e
  | .rng1 _, _, _, _ => false
  | .rng2 _ _, _, _, _ => false
  | .rng3 _ _ _, _, _, _ => false
  | .zip _ _, _, _, _ => false
  | .enm _, _, _, _ => false
  | e, sc, _, it => chkE e sc it
end
/-- a piece's checks -/
structure Cf where
  e : Scope → Expr → Bool
  n : Scope → Expr → Bool
  a : Scope → List Expr → Bool
  o : Scope → Option Expr → Bool
  i : Scope → Expr → Expr → Bool
/-- no comprehension that the frame stores by itself -/
def isComp : Expr → Bool
  | .ListComp _ _ _ _ => true
  | .SetComp _ _ _ _ => true
  | .DictComp _ _ _ _ _ => true
  | _ => false
/-- does a list comprehension go to its name by the comprehension's own road? -/
def goesOwn (sc : Scope) (y : Str) (py : Pos) : Expr → Bool
  | .ListComp _ _ scope pos => loclB sc y && (py.line == pos.line) && !(scope.names.any fun (n, k) => n == y && (k == .local || k == .cell))
  | _ => false
def namesB (sc : Scope) : List Nat → List Expr → Bool
  | [], [] => true
  | i :: is, .Name x _ :: es => decide (C.N[i]? = some x) && loclB sc x && namesB sc is es
  | _, _ => false
def lineOf : List Expr → Nat
  | .Name _ p :: _ => p.line
  | _ => 0
def sameLine (l : Nat) : List Expr → Bool
  | [] => true
  | .Name _ p :: es => p.line == l && sameLine l es
  | _ => false
/-- are the stores of a, b = x, y exchanged? -/
def swaps (sc : Scope) (ts vs : List Expr) : Bool :=
  (ts.length == 2 || ts.length == 3) && vs.length == ts.length && sameLine (lineOf ts) ts && (ts.all fun t => match t with
    | .Name x _ => loclB sc x
    | _ => false)
def cannot (sc : Scope) (ts vs : List Expr) : Bool :=
  !(ts.length == 2 || ts.length == 3) || vs.length != ts.length || !(sameLine (lineOf ts) ts && (ts.all fun t => match t with
    | .Name x _ => loclB sc x
    | _ => false)) || vs.all (foldedForSure 8)
/-- places and names, one by one -/
def chkAts (F : I → Cf) (sc : Scope) : List At → List Expr → Bool
  | [], [] => true
  | .tg (.nm i) :: ts, .Name x _ :: es => decide (C.N[i]? = some x) && locB sc x && chkAts F sc ts es
  | .sub a i :: ts, .Subscript o x _ :: es => notSlice x && (F a).e sc o && (F i).e sc x && chkAts F sc ts es
  | _, _ => false
mutual
def chkS (F : Ck → I → Cf) : Ck → S → Scope → Stmt → Bool
  | C, .nop, _, .Pass _ => true
  | C, .doc, _, .Expr (.Constant (.str _) _ _) _ => true
  | C, .brk, _, .Break _ => true
  | C, .cnt, _, .Continue _ => true
  | C, .never, _, _ => true
  | C, .rse j, sc, .Raise (some (.Call (.Name x _) [.Constant (.str _) _ _] [] _)) none _ => C.cm && C.rs.contains j && decide (C.gs[j]? = some x) && glB sc x && okName x
  | C, .tryX b j k i su, sc, .Try body [.ExceptHandler (some (.Name x _)) (some n) (b0 :: suite) _] [] [] _ =>
    C.cm && C.hs.contains (j, k) && decide (C.gs[k]? = some x) && glB sc x && okName x && decide (C.N[i]? = some n) && loclB sc n && chkB F C b sc body && chkB F (C.suite j i n) su sc (b0 :: suite)
  | C, .asg (.tg (.nm i)) e, sc, .Assign [.Name y py] v p => decide (C.N[i]? = some y) && locB sc y && (if isComp v then goesOwn sc y py v || !(loclB sc y) else true) && (F C e).e sc v
  | C, .asg (.tg (.tp is)) e, sc, .Assign [.Tuple ts k tp] v p => chkTg C sc (fun _ => true) (.tp is) (.Tuple ts k tp) && (match v with
      | .Tuple vs _ _ => cannot sc ts vs
      | _ => true) && (F C e).e sc v
  | C, .asg (.sub a i) e, sc, .Assign [.Subscript o x q] v p => notSlice x && (F C a).e sc o && (F C i).e sc x && (F C e).e sc v
  | C, .par is as, sc, .Assign [.Tuple ts k tp] (.Tuple vs k2 tp2) p => C.cm && namesB C sc is ts && swaps sc ts vs && decide is.Nodup && !(vs.all (foldedForSure 8)) && !(vs.all (constantsAlone 8)) && (F C as).a sc vs
  | C, .aug i o e, sc, .AugAssign (.Name y _) o' v _ => decide (C.N[i]? = some y) && locB sc y && decide (o' = o) && (F C e).e sc v
  | C, .augS a i o e, sc, .AugAssign (.Subscript l x _) o' v _ => notSlice x && decide (o' = o) && (F C a).e sc l && (F C i).e sc x && (F C e).e sc v
  | C, .asgs ts e, sc, .Assign [.Tuple es k tp] v p => C.cm && chkAts C (F C) sc ts es && (match v with
      | .Tuple vs _ _ => cannot sc es vs
      | _ => true) && (F C e).e sc v
  | C, .ex (.pr .dput v d k), sc, .Assign [.Subscript o x q] e p => C.cm && notSlice x && !(isComp e) && (F C d).e sc o && (F C k).e sc x && (F C v).e sc e
  | C, .ex e, sc, .Expr v p => !(isComp v) && (F C e).e sc v
  | C, .ret e, sc, .Return (some v) _ => (F C e).e sc v
  | C, .retN, _, .Return none _ => true
  | C, .ite t a b, sc, .If c x y _ => (F C t).e sc c && chkB F C a sc x && chkB F C b sc y
  | C, .whl t b, sc, .While c x [] _ => (F C t).e sc c && chkB F C b sc x
  | C, .for tg src b, sc, .For t it x [] _ => C.cm && chkTg C sc (fun _ => true) tg t && notSet it && (F C src).i sc t it && chkB F C b sc x
  | _, _, _, _ => false
def chkB (F : Ck → I → Cf) : Ck → S → Scope → List Stmt → Bool
  | C, .nop, _, [] => true
  | C, .seq a b, sc, st :: r => chkS F C a sc st && chkB F C b sc r
  | C, .never, _, _ => true
  | _, _, _, _ => false
end
end
/-- what the one check lets, the other one does -/
structure Imp (c : Cf) (C : Ck) (ir : I) : Prop where
  e : ∀ sc e, c.e sc e = true → chkE C ir sc e = true
  n : ∀ sc e, c.n sc e = true → chkN C ir sc e = true
  a : ∀ sc es, c.a sc es = true → chkA C ir sc es = true
  o : ∀ sc x, c.o sc x = true → chkO C ir sc x = true
  i : ∀ sc t x, c.i sc t x = true → chkI C ir sc t x = true
end Cl
/-! Judgements: a piece of the row's text does what the clean semantics says. -/
namespace Cl
open PySem PySem.Spec PyProof.Rows L2
/-- an exception's own dict -/
def RepX (K : PySem.W.Frag) (T : Tk) (H : Hp) (dd : Option Addr) (fs : List (Str × D)) : Prop :=
  (dd = none ∧ fs = []) ∨ ∃ a ws, dd = some a ∧ H a = some (.xd ws) ∧ RepKV K T H fs ws ∧ fs ≠ []
/-- what is wanted of a result -/
def Post {α : Type} (K : PySem.W.Frag) (T : Tk) (H : Hp) (okP : α → Tk → Hp → Prop) (exP : XK) : Res α → Prop
  | .ok a hc => ∀ T' H', Ext T H T' H' → Wd K T' hc H' → okP a T' H'
  | .exc c fs hc => ∀ T' H' dd, Ext T H T' H' → Wd K T' hc H' → RepX K T' H' dd fs → exP (.ref c) dd H'
  | .bad => False
section
variable {α β : Type} {K : PySem.W.Frag} {T T1 : Tk} {H H1 : Hp} {okP okP' : α → Tk → Hp → Prop} {exP : XK} {r : Res α}
theorem Post.ext (e : Ext T H T1 H1) (h : Post K T H okP exP r) : Post K T1 H1 okP exP r := by
  cases r with
  | ok a hc => exact fun T' H' e' w => h T' H' (e.trans e') w
  | exc c fs hc => exact fun T' H' dd e' w => h T' H' dd (e.trans e') w
  | bad => exact h
theorem Post.imp (h : Post K T H okP exP r) (f : ∀ a T' H', Ext T H T' H' → okP a T' H' → okP' a T' H') : Post K T H okP' exP r := by
  cases r with
  | ok a hc => exact fun T' H' e' w => f _ _ _ e' (h T' H' e' w)
  | exc c fs hc => exact h
  | bad => exact h
theorem Post.bind {m : M α} {f : α → M β} {okP : β → Tk → Hp → Prop} {hc : Hc} (h : Post K T H okP exP (bnd m f hc)) :
    Post K T H (fun a T' H' => ∃ hc', Ext T H T' H' ∧ Wd K T' hc' H' ∧ Post K T' H' okP exP (f a hc')) exP (m hc) := by
  unfold bnd at h
  cases q : m hc with
  | ok a hc' => rw [q] at h; exact fun T' H' e w => ⟨hc', e, w, Post.ext e h⟩
  | exc c fs hc' => rw [q] at h; exact h
  | bad => rw [q] at h; exact h
theorem Post.ok_same {a : α} {hc : Hc} (h : Post K T H okP exP (.ok a hc)) (w : Wd K T hc H) : okP a T H := h T H (Ext.refl T H) w
theorem Post.of_pur {a : α} {hc : Hc} (h : Post K T H okP exP (pur a hc)) (w : Wd K T hc H) : okP a T H := h T H (Ext.refl T H) w
theorem Post.of_guard {c : Prop} {m : M α} {hc : Hc} (h : Post K T H okP exP (guard c m hc)) : c ∧ Post K T H okP exP (m hc) := by
  unfold Cl.guard at h
  split at h
  · next q => exact ⟨q, h⟩
  · exact h.elim
theorem Post.of_opt {o : Option α} {hc : Hc} (h : Post K T H okP exP (optM o hc)) (w : Wd K T hc H) : ∃ a, o = some a ∧ okP a T H := by
  cases o with
  | none => exact h.elim
  | some a => exact ⟨a, rfl, h.of_pur w⟩
end
/-- the promise of a def -/
def spC (K : PySem.W.Frag) (g : List D → M D) : Sp := fun vs H Q E => ∃ T hc ds, Wd K T hc H ∧ RepL K T H ds vs ∧
  Post K T H (fun d T' H' => ∀ v, Rep K T' H' d v → Q v H') E (g ds hc)
/-- the def of the module's name x does what g says -/
def FnAt (P : Program) (w : World) (K : PySem.W.Frag) (mg : Str → Option Value) (base : Heap) (k : Nat) (x : Str) (g : List D → M D) : Prop :=
  ∃ f fd ps, FnOk P w K mg base (L2.CX P w) k f fd ps (spC K g) ∧ mg x = some (.ref f) ∧ PySem.W.keepIn K (.ref f) = true ∧ Binds K fd ps []
theorem FnAt.mono {P : Program} {w : World} {K : PySem.W.Frag} {mg : Str → Option Value} {base : Heap} {k j : Nat} {x : Str} {g : List D → M D} (h : FnAt P w K mg base k x g) (l : k ≤ j) : FnAt P w K mg base j x g := by
  obtain ⟨f, fd, ps, F, a, b, c⟩ := h
  exact ⟨f, fd, ps, F.mono l, a, b, c⟩
/-- the module's constants -/
def GcAt (K : PySem.W.Frag) (mg : Str → Option Value) (x : Str) (d : D) : Prop := ∃ v u, mg x = some u ∧ RelV v u ∧ ∀ T H, Rep K T H d v
/-- a scope of the text stands behind the frame's -/
structure ScR (sc' sc : Scope) : Prop where
  kind : sc'.kind = .function
  same : ∀ x k, sc.names.lookup x = some k → k ≠ .free → sc'.names.lookup x = some k
  free : ∀ x, sc.names.lookup x = some .free → sc'.names.lookup x = some .free ∨ sc'.names.lookup x = some .cell
/-- a class that may be raised with a text -/
structure RaiseOk (K : PySem.W.Frag) (a : Addr) : Prop where
  ex : ∃ (B newId initId : String) (bmB : List Value), ExcBaseFacts B newId initId bmB ∧ PySem.W.excIn K a bmB newId = true
  kp : PySem.W.keepIn K (.ref a) = true
  sb : PySem.W.subIn K (.ref a) (.type "BaseException") = some true
  ty : PySem.W.typeIn K (.ref a) = some (.type "type")
def obsD (Cs : List D) : List Nat → Option (List Addr)
  | [] => some []
  | j :: js => match Cs[j]?, obsD Cs js with
    | some (.ob a), some as => some (a :: as)
    | _, _ => none
/-- what the constants are -/
structure ClsF (K : PySem.W.Frag) (mg : Str → Option Value) (C : Ck) (Cs : List D) : Prop where
  gc : ∀ (i : Nat) d, Cs[i]? = some d → ∃ x, C.gs[i]? = some x ∧ GcAt K mg x d
  rs : ∀ j, C.rs.contains j = true → ∀ a, Cs[j]? = some (.ob a) → RaiseOk K a
  hs : ∀ j k, C.hs.contains (j, k) = true → ∀ a, Cs[j]? = some (.ob a) → ∃ c, Cs[k]? = some (.ob c) ∧ PySem.W.exmOne K (.ref a) (.ref c) = some true
  xs : ∀ j ks b, (j, ks, b) ∈ C.xs → ∀ a, Cs[j]? = some (.ob a) → ∃ cs, obsD Cs ks = some cs ∧ ExcC K a ∧ PySem.W.kitAny K (.ref a) (cs.map Value.ref) = some b
def tIsx (i : Nat) (a : Addr) (b : Bool) : TE := fun σ H Q => σ[i]? = some (some (.ref a)) ∧ ∀ p vs, H p = none → Q (.bl b) (upd H p (.tup vs))
/-- the context -/
structure Gd (C : Ck) (G : Gt) (Cs : List D) (k : Nat) (X : Cx) (W : WX) (sc : Scope) : Prop where
  N : X.N = C.N
  nd : X.N.Nodup
  calm : C.cm = true → X.calm = true
  tk : Takes X W
  rm : C.cm = true → Room k X.A
  scr : ScR X.env.scope sc
  loc : ∀ x, locB sc x = true → X.fn x = true ∨ X.env.scope.names.lookup x = some .local
  nb : ∀ x ∈ bNames, X.mg x = none
  fs : ∀ (i : Nat) g, G.tab[i]? = some g → ∃ x, C.fs[i]? = some x ∧ FnAt X.prog X.w X.K X.mg X.base k x g
  cf : ClsF X.K X.mg C Cs
  xn : C.cm = true → G.xa = none
  xa : ∀ a (j i : Nat) n cls b, G.xa = some a → C.xq[j]? = some (i, n, cls, b) → ∀ e, xqForm n cls sc e = true → PE X e (tIsx i a b)
theorem Gd.gc {C : Ck} {G : Gt} {Cs : List D} {k : Nat} {X : Cx} {W : WX} {sc : Scope} (g : Gd C G Cs k X W sc) : ∀ (i : Nat) d, Cs[i]? = some d → ∃ x, C.gs[i]? = some x ∧ GcAt X.K X.mg x d := g.cf.gc
section
variable {C : Ck} {G : Gt} {Cs : List D} {k : Nat} {X : Cx} {W : WX} {sc : Scope} {x : Str}
theorem Gd.vis (g : Gd C G Cs k X W sc) (h : visB sc x = true) : Vis X.env.scope x := by
  unfold visB at h
  split at h
  · next q => exact .inl (g.scr.same _ _ q (by decide))
  · next q => exact .inr (.inl (g.scr.same _ _ q (by decide)))
  · next q => rcases g.scr.free _ q with z | z
              · exact .inr (.inr z)
              · exact .inr (.inl z)
  · cases h
theorem Gd.gl (g : Gd C G Cs k X W sc) (h : glB sc x = true) : Gl X x := by
  unfold glB at h
  split at h
  · next q => exact g.scr.same _ _ q (by decide)
  · cases h
theorem Gd.locl (g : Gd C G Cs k X W sc) (h : loclB sc x = true) : X.env.scope.names.lookup x = some .local := by
  unfold loclB at h
  split at h
  · next q => exact g.scr.same _ _ q (by decide)
  · cases h
theorem Gd.lo (g : Gd C G Cs k X W sc) (h : locB sc x = true) : Loc X.env.scope x := by
  unfold locB at h
  split at h
  · next q => exact .inl (g.scr.same _ _ q (by decide))
  · next q => exact .inr (g.scr.same _ _ q (by decide))
  · cases h
theorem okName_d (h : okName x = true) : (x == ("__debug__" : Str)) = false ∧ (x == ("__classdict__" : Str)) = false := by
  unfold okName at h
  rw [Bool.and_eq_true] at h
  exact ⟨by simpa using h.1, by simpa using h.2⟩
end
/-- an assignment to a name by a comprehension's own road -/
def OwnSt (C : Ck) (X : Cx) (sc : Scope) (e : Expr) (t : TE) : Prop := ∀ (i : Nat) (y : Str) (py p : Pos), X.N[i]? = some y → goesOwn sc y py e = true → PS X (.Assign [.Name y py] e p) (tAsg t (gName i))
theorem OwnSt.no {C : Ck} {X : Cx} {sc : Scope} {e : Expr} {t : TE} (h : isComp e = false) : OwnSt C X sc e t := fun i y py p _ g => by
  cases e <;> simp [goesOwn] at g
  simp [isComp] at h
def CE (C : Ck) (X : Cx) (W : WX) (sc : Scope) (e : Expr) (m : Env → M D) : Prop :=
  ∃ t, PE X e t ∧ OwnSt C X sc e t ∧ ∀ T hc H env σ (Q : VK), Wd X.K T hc H → EnvR X.K T H env σ → Post X.K T H (fun d T' H' => ∀ v, Rep X.K T' H' d v → Q v H') (WE W σ) (m env hc) → t σ H Q
def CT (X : Cx) (W : WX) (e : Expr) (m : Env → M Bool) : Prop :=
  ∃ t, PT X e t ∧ ∀ T hc H env σ (Q : Bool → Hp → Prop), Wd X.K T hc H → EnvR X.K T H env σ → Post X.K T H (fun k _ H' => Q k H') (WE W σ) (m env hc) → t σ H Q
def CW (X : Cx) (W : WX) (e : Expr) (m : Env → M Bool) : Prop :=
  ∃ t, PW X e t ∧ ∀ T hc H env σ (Q : Bool → Hp → Prop), Wd X.K T hc H → EnvR X.K T H env σ → Post X.K T H (fun k _ H' => Q k H') (WE W σ) (m env hc) → t σ H Q
def CA (X : Cx) (W : WX) (es : List Expr) (m : Env → M (List D)) : Prop :=
  ∃ t, PA X es t ∧ ∀ T hc H env σ (Q : List V → Hp → Prop), Wd X.K T hc H → EnvR X.K T H env σ → Post X.K T H (fun ds T' H' => ∀ vs, RepL X.K T' H' ds vs → Q vs H') (WE W σ) (m env hc) → t σ H Q
def CN (C : Ck) (X : Cx) (W : WX) (sc : Scope) (e : Expr) (m : Env → M (List D)) : Prop :=
  ∃ t, PE X e t ∧ OwnSt C X sc e t ∧ ∀ T hc H env σ (Q : VK), Wd X.K T hc H → EnvR X.K T H env σ →
    Post X.K T H (fun ds T' H' => ∀ p vs, H' p = none → RepL X.K T' H' ds vs → vs.length ≤ sizeLine → Q (.ref p) (upd H' p (.lst vs))) (WE W σ) (m env hc) → t σ H Q
def CO (X : Cx) (W : WX) (o : Option Expr) (m : Env → M (Option Int)) : Prop :=
  ∃ t, PO X o t ∧ ∀ T hc H env σ (Q : Option Int → Hp → Prop), Wd X.K T hc H → EnvR X.K T H env σ → Post X.K T H (fun i _ H' => Q i H') (WE W σ) (m env hc) → t σ H Q
def Deps (s : Src) (hc : Hc) : Prop := ∀ p ∈ s.dep, hc[p.1]? = some (.lst p.2)
structure ItOk (K : PySem.W.Frag) (T0 : Tk) (H0 : Hp) (J : It) (s : Src) : Prop where
  go : ∀ (i : Nat), i < s.items.length → ∀ T hc H, ExtG T0 H0 T H → Wd K T hc H → Deps s hc → J.go i H
  yld : ∀ (i : Nat) d, s.items[i]? = some d → ∀ T hc H, ExtG T0 H0 T H → Wd K T hc H → Deps s hc → ∀ x H', J.yld i H x H' → Ext T H T H' ∧ Wd K T hc H' ∧ Rep K T H' d x
  stop : ∀ T hc H, ExtG T0 H0 T H → Wd K T hc H → Deps s hc → J.stop s.items.length H
def CI (X : Cx) (W : WX) (tg it : Expr) (m : Env → M Src) : Prop :=
  ∃ wi, PI X tg it wi ∧ ∀ T hc H env σ (R : It → Hp → Prop), Wd X.K T hc H → EnvR X.K T H env σ → Post X.K T H (fun s T' H' => ∀ J, ItOk X.K T' H' J s → R J H') (WE W σ) (m env hc) → wi σ H R
theorem PG.or {X : Cx} {e : Expr} {t t' : TG} (h : PG X e t) (h' : PG X e t') : PG X e (fun v σ H Q => t v σ H Q ∨ t' v σ H Q) :=
  ⟨fun pins s σ H v u Q I r q => by
    rcases q with q | q
    · exact h.run pins s σ H v u Q I r q
    · exact h'.run pins s σ H v u Q I r q⟩
theorem PI.or {X : Cx} {tg e : Expr} {t t' : TI} (h : PI X tg e t) (h' : PI X tg e t') : PI X tg e (fun σ H R => t σ H R ∨ t' σ H R) :=
  ⟨fun pins s σ H R I q => by
    rcases q with q | q
    · exact h.run pins s σ H R I q
    · exact h'.run pins s σ H R I q⟩
/-! ### the environment -/
section
variable {K : PySem.W.Frag} {T : Tk} {H : Hp} {env : Env} {σ : L2.St}
theorem EnvR.set (r : EnvR K T H env σ) {i : Nat} {d : D} {v : V} (h : Rep K T H d v) : EnvR K T H (env.set i (some d)) (σ.set i (some v)) := by
  refine ⟨by rw [List.length_set, List.length_set, r.1], fun j x q => ?_⟩
  by_cases e : j = i
  · subst e
    have hj : j < env.length := by
      rcases Nat.lt_or_ge j (env.set j (some d)).length with z | z
      · simpa using z
      · rw [List.getElem?_eq_none_iff.mpr z] at q; cases q
    rw [List.getElem?_set_self hj] at q
    cases q
    exact ⟨v, by rw [List.getElem?_set_self (by rw [r.1]; exact hj)], h⟩
  · rw [List.getElem?_set_ne (fun z => e z.symm)] at q
    obtain ⟨u, a, b⟩ := r.2 j x q
    exact ⟨u, by rw [List.getElem?_set_ne (fun z => e z.symm)]; exact a, b⟩
theorem EnvR.clear (r : EnvR K T H env σ) (i : Nat) : EnvR K T H (env.set i none) (σ.set i none) := by
  refine ⟨by rw [List.length_set, List.length_set, r.1], fun j x q => ?_⟩
  by_cases e : j = i
  · subst e
    have hj : j < env.length := by
      rcases Nat.lt_or_ge j (env.set j none).length with z | z
      · simpa using z
      · rw [List.getElem?_eq_none_iff.mpr z] at q; cases q
    rw [List.getElem?_set_self hj] at q
    cases q
  · rw [List.getElem?_set_ne (fun z => e z.symm)] at q
    obtain ⟨u, a, b⟩ := r.2 j x q
    exact ⟨u, by rw [List.getElem?_set_ne (fun z => e z.symm)]; exact a, b⟩
theorem EnvR.wipe (r : EnvR K T H env σ) : ∀ own : List Nat, EnvR K T H (wipeE env own) (L2.wipe σ own)
  | [] => r
  | v :: vs => (EnvR.wipe r vs).clear v
end
theorem set_wipe {σ : L2.St} {i : Nat} {v : Option V} : ∀ {own : List Nat}, i ∈ own → L2.wipe (σ.set i v) own = L2.wipe σ own
  | [], h => by cases h
  | w :: vs, h => by
    simp only [L2.wipe]
    by_cases m : i ∈ vs
    · rw [set_wipe m]
    · have e : i = w := by
        rcases List.mem_cons.mp h with z | z
        · exact z
        · exact absurd z m
      subst e
      have hc : ∀ (own : List Nat) (σ : L2.St), i ∉ own → L2.wipe (σ.set i v) own = (L2.wipe σ own).set i v := by
        intro own
        induction own with
        | nil => intro σ _; rfl
        | cons a r ih =>
          intro σ hn
          simp only [L2.wipe]
          rw [ih σ (fun z => hn (List.mem_cons_of_mem _ z)), List.set_comm]
          intro z; exact hn (by rw [z]; exact List.mem_cons_self)
      rw [hc vs σ m, List.set_set]
/-! ### targets -/
def tgSlots : Tg → List Nat
  | .nm i => [i]
  | .tp is => is
def CG (X : Cx) (W : WX) (tg : Tg) (e : Expr) : Prop :=
  ∃ g, PG X e g ∧ ∀ T hc H env σ d v (Q : L2.St → Hp → Prop), Wd X.K T hc H → EnvR X.K T H env σ → Rep X.K T H d v →
    (match setTg tg d env hc with
      | .ok env' _ => ∀ σ', EnvR X.K T H env' σ' → (∀ own, (∀ i ∈ tgSlots tg, i ∈ own) → L2.wipe σ' own = L2.wipe σ own) → Q σ' H
      | _ => False) → g v σ H Q
end Cl
/-! t <= u of tuples of ints; x in a row of any data. -/
namespace Cl
open PySem PySem.Spec PyProof.Rows L2
theorem rcLe_int (A : Around) (s : Shared) (a : Int) (t : Tok) (c : Int) (u : Tok) (prog : Program) (w : World) (E : Value → Shared → Prop) (Q : Value → Shared → Prop) (h : Q (.bool (decide (a ≤ c))) s) :
    wpAny (model prog w) A (richCompare .LtE (.int a t) (.int c u)) Q E s :=
  (PyProof.Rows.le_int h : wpAny (model prog w) A (compareOp .LtE (.int a t) (.int c u)) Q E s)
section
open PySem.SeqAt
open PySem.AutoSeq1 (wpAny_loadPart')
open PySem.MeetsSeq PySem.MeetsSeq2 PySem.MeetsSeq3
theorem tuple_le_ints (l b : Addr) (items items2 : Array Value) (n n2 : Nat) (dd dd2 : Option Addr) (sl sl2 : Array (Option Value)) (ns ms : List Int) (hi : IntsAre items.toList ns) (hj : IntsAre items2.toList ms) :
    Meets (Builtin.«tuple.__le__» ⟨[.ref l, .ref b], []⟩)
      (fun _ R s => s.heap.get? l = some { cls := .type "tuple", dict := dd, data := .seq items n, slots := sl } ∧ s.heap.get? b = some { cls := .type "tuple", dict := dd2, data := .seq items2 n2, slots := sl2 } ∧
        R (.ok (.ret (.bool (!HT.lexLt ms ns)))) s) :=
  .of_wp fun prog w A R s h => by
    obtain ⟨hp, g, d, tk, os⟩ := s; obtain ⟨hl, hb, h⟩ := h
    have f2 := AutoSeq1.sub_tuple_tuple
    have z1 : items.size = ns.length := by rw [← hi.length]; simp
    have z2 : items2.size = ms.length := by rw [← hj.length]; simp
    wp_walk using wpAny_loadPart' hl, wpAny_loadPart' hb, wpAny_forIn_list _ (fun rest b s' => b.1 = none ∧ s' = ⟨hp, g, d, tk, os⟩ ∧ ∃ (vs ws : List Value) (ns' ms' : List Int), rest = vs.zip ws ∧
      IntsAre vs ns' ∧ IntsAre ws ms' ∧ ns'.length + items2.size = ms'.length + items.size ∧ R (.ok (.ret (.bool (!HT.lexLt ms' ns')))) ⟨hp, g, d, tk, os⟩) _
    case turn =>
      rintro ⟨y, x⟩ rest b s' ⟨hb', rfl, vs, ws, ns', ms', hz, hvi, hwi, hlen, hR⟩
      cases hvi with
      | nil => rw [List.zip_nil_left] at hz; cases hz
      | cons a t hvi' =>
        cases hwi with
        | nil => rw [List.zip_nil_right] at hz; cases hz
        | cons c u hwi' =>
          rw [List.zip_cons_cons] at hz
          injection hz with hyx hrest
          injection hyx with hy hx
          subst hy hx
          rw [HT.lexLt_cons] at hR
          simp only [List.length_cons] at hlen
          obtain ⟨e, he, hiff⟩ := HT.eqAt_int A.in1 ⟨hp, g, d, tk, os⟩ a t c u
          refine wpAny_bind (he prog w _ _ ?_)
          cases e with
          | true =>
            rw [if_pos (hiff.mp rfl).symm] at hR
            wp_walk
            exact ⟨rfl, rfl, _, _, _, _, hrest, hvi', hwi', by omega, hR⟩
          | false =>
            have hne : ¬ a = c := fun q => absurd (hiff.mpr q) Bool.false_ne_true
            rw [if_neg (fun q => hne q.symm)] at hR
            have hri := rcLe_int A.in1 ⟨hp, g, d, tk, os⟩ a t c u prog w
            have ed : (!decide (c < a)) = decide (a ≤ c) := by
              by_cases z : c < a
              · have z2 : ¬ a ≤ c := by omega
                simp [z, z2]
              · have z2 : a ≤ c := by omega
                simp [z, z2]
            rw [ed] at hR
            wp_walk using hri
            exact ⟨_, rfl, by simpa using hR⟩
    case fin =>
      rintro ⟨b1, b2⟩ s' ⟨hb', rfl, vs, ws, ns', ms', hz, hvi, hwi, hlen, hR⟩
      simp only at hb'
      subst hb'
      have hv : (!HT.lexLt ms' ns') = decide (items.size ≤ items2.size) := by
        cases hvi with
        | nil =>
          cases hwi with
          | nil =>
            simp only [List.length_nil] at hlen
            rw [HT.lexLt_nil_nil]
            exact (decide_eq_true (by omega)).symm
          | cons c u hw =>
            simp only [List.length_nil, List.length_cons] at hlen
            rw [HT.lexLt_cons_nil]
            exact (decide_eq_true (by omega)).symm
        | cons a t hv =>
          cases hwi with
          | nil =>
            simp only [List.length_nil, List.length_cons] at hlen
            rw [HT.lexLt_nil_cons]
            exact (decide_eq_false (by omega)).symm
          | cons c u hw =>
            rw [List.zip_cons_cons] at hz
            cases hz
      rw [hv] at hR
      wp_walk
      exact ⟨_, rfl, by simpa [Builtin.Tuple.tupleCompareSizes] using hR⟩
    case h =>
      exact ⟨rfl, rfl, items.toList, items2.toList, ns, ms, rfl, hi, hj, by omega, h⟩
end
section
variable {prog : Program} {w : World} {A : Around} {E : Value → Shared → Prop} {s : Shared}
theorem le_tupInts {l b : Addr} {items items2 : Array Value} {ns ms : List Int} {Q : Value → Shared → Prop} (hl : IsTup s.heap l items) (hb : IsTup s.heap b items2) (hi : IntsAre items.toList ns) (hj : IntsAre items2.toList ms)
    (hu : A.units < cLine) (h : Q (.bool (!HT.lexLt ms ns)) s) : wpAny (model prog w) A (compareOp .LtE (.ref l) (.ref b)) Q E s := by
  obtain ⟨⟨cls, dd, data, sl⟩, ho, hc, n, hd⟩ := id hl
  obtain ⟨⟨cls2, dd2, data2, sl2⟩, ho2, hc2, n2, hd2⟩ := id hb
  simp only at hc hd hc2 hd2
  subst hc hd hc2 hd2
  exact richCompare_meets_room (op := .LtE) ⟨_, ho, rfl⟩ ⟨_, ho2, rfl⟩ PySem.F.slot_tuple_le PySem.F.entry_tuple_le (PySem.F.args_tuple_le_2 _ _) (tuple_le_ints l b items items2 n n2 dd dd2 sl sl2 ns ms hi hj)
    ⟨ho, ho2, show Value.bool (!HT.lexLt ms ns) ≠ Value.notImplemented ∧ Q (.bool (!HT.lexLt ms ns)) s from ⟨(fun x => nomatch x), h⟩⟩ hu
end
section
variable {X : Cx}
def rLeT (K : PySem.W.Frag) : R2 := fun x y H Q => ∃ a b ns ms, x = .ref a ∧ y = .ref b ∧ SqT K H a (ns.map V.int) ∧ SqT K H b (ms.map V.int) ∧ Q (.bl (!HT.lexLt ms ns)) H
theorem op_leT (hu : X.A.units < cLine) : OpR X (compareOp .LtE) (rLeT X.K) := by
  intro pins s σ H x y v u Q I rx ry h
  obtain ⟨a, b, ns, ms, rfl, rfl, ha, hb, q⟩ := h
  cases rx
  cases ry
  obtain ⟨its, r1, p1, _⟩ := I.tuple ha
  obtain ⟨its2, r2, p2, _⟩ := I.tuple hb
  have i1 : IntsAre its.toArray.toList ns := intsAre_of r1
  have i2 : IntsAre its2.toArray.toList ms := intsAre_of r2
  exact le_tupInts p1 p2 i1 i2 hu ⟨.bl (!HT.lexLt ms ns), H, I, rfl, q⟩
/-! ### x in a tuple of any data -/
open Classical in
noncomputable def hitU (h : Heap) (d : PyData) (u : Value) : Bool := if q : ∃ p as, Reads h u p as then PyData.eqv q.choose d else false
theorem hitU_of {h : Heap} {d p : PyData} {u : Value} {as : List Addr} (r : Reads h u p as) : hitU h d u = PyData.eqv p d := by
  unfold hitU
  have q : ∃ p as, Reads h u p as := ⟨p, as, r⟩
  rw [dif_pos q]
  obtain ⟨as', r'⟩ := q.choose_spec
  rw [(Reads.unique r' p as r).1]
theorem any_hit {h : Heap} {d : PyData} : ∀ {us : List Value} {ps : List PyData} {as : List Addr}, ReadsAll h us ps as → us.any (hitU h d) = ps.any fun p => PyData.eqv p d
  | _, _, _, .nil => rfl
  | _, _, _, .cons r t => by rw [List.any_cons, List.any_cons, hitU_of r, any_hit t]
theorem mem_hit {A : Around} {s : Shared} {d : PyData} {v : Value} {bs : List Addr} (rv : Reads s.heap v d bs) (sd : SeqAt.shaped d = true) (hu : A.units + 64 < cLine) :
    ∀ {us : List Value} {ps : List PyData} {as : List Addr}, ReadsAll s.heap us ps as → ps.all SeqAt.shaped = true → ∀ u ∈ us, SeqAt.EqAt A s u v (hitU s.heap d u)
  | _, _, _, .nil, _ => fun u hu => by cases hu
  | _, _, _, .cons (d := p) r t, f => fun u' hu' => by
    rw [List.all_cons, Bool.and_eq_true] at f
    rcases List.mem_cons.mp hu' with rfl | hm
    · rw [hitU_of r]
      exact SeqAt.eqAt_reads _ _ A s _ _ _ _ r rv (SeqAt.canLay_of_shaped f.1) (SeqAt.canLay_of_shaped sd) (SeqAt.room_of_shaped f.1 hu)
    · exact mem_hit rv sd hu t f.2 u' hm
def rInD (K : PySem.W.Frag) (neg : Bool) : R2 := fun x y H Q => ∃ p xs d ps, y = .ref p ∧ SqT K H p xs ∧ Dp K H x d ∧ DpAll K H xs ps ∧ SeqAt.shaped d = true ∧ ps.all SeqAt.shaped = true ∧
  Q (.bl (if neg then !(ps.any fun p => PyData.eqv p d) else ps.any fun p => PyData.eqv p d)) H
theorem op_inD (hu : X.A.units + 65 < cLine) : OpR X (compareOp .In) (rInD X.K false) := by
  intro pins s σ H x y v u Q I rx ry h
  obtain ⟨p, xs, d, ps, rfl, hq, hd, hp, sd, sp, q⟩ := h
  cases ry
  obtain ⟨its, r, pl, hz⟩ := I.tuple hq
  obtain ⟨as, r1⟩ := Dp.reads I d x v hd rx
  obtain ⟨bs, r2⟩ := Dp.readsAll I ps xs its hp r
  refine SeqAt.in_tupleAt (hitU s.heap d) pl (fun w hw => mem_hit r1 sd (by show X.A.units + 1 + 64 < cLine; omega) r2 sp w (by simpa using hw)) ⟨.bl _, H, I, rfl, ?_⟩
  rw [show its.toArray.any (hitU s.heap d) = its.any (hitU s.heap d) by simp, any_hit r2]
  exact q
theorem op_notInD (hu : X.A.units + 65 < cLine) : OpR X (compareOp .NotIn) (rInD X.K true) := by
  intro pins s σ H x y v u Q I rx ry h
  obtain ⟨p, xs, d, ps, rfl, hq, hd, hp, sd, sp, q⟩ := h
  cases ry
  obtain ⟨its, r, pl, hz⟩ := I.tuple hq
  obtain ⟨as, r1⟩ := Dp.reads I d x v hd rx
  obtain ⟨bs, r2⟩ := Dp.readsAll I ps xs its hp r
  refine SeqAt.notIn_tupleAt (hitU s.heap d) pl (fun w hw => mem_hit r1 sd (by show X.A.units + 1 + 64 < cLine; omega) r2 sp w (by simpa using hw)) ⟨.bl _, H, I, rfl, ?_⟩
  rw [show its.toArray.any (hitU s.heap d) = its.any (hitU s.heap d) by simp, any_hit r2]
  exact q
end
end Cl
/-! Operations on values: the clean ones and the hand layer's. -/
namespace Cl
open PySem PySem.Spec PyProof.Rows L2
section
variable {K : PySem.W.Frag} {T : Tk} {H : Hp} {hc : Hc} {exP : XK} {α : Type}
theorem lstAt_ok {i : Nat} {xs : List D} {hc' : Hc} (h : lstAt i hc = .ok xs hc') : hc[i]? = some (.lst xs) ∧ hc' = hc := by
  unfold lstAt at h
  split at h
  · next q => cases h; exact ⟨q, rfl⟩
  · cases h
theorem post_lstAt {i : Nat} {okP : List D → Tk → Hp → Prop} {m : List D → M α} {okQ : α → Tk → Hp → Prop} (w : Wd K T hc H) (h : Post K T H okQ exP (bnd (lstAt i) m hc)) :
    ∃ xs a vs, hc[i]? = some (.lst xs) ∧ T.ρ[i]? = some a ∧ H a = some (.lst vs) ∧ vs.length ≤ sizeLine ∧ RepL K T H xs vs ∧ Post K T H okQ exP (m xs hc) := by
  unfold bnd lstAt at h
  cases q : hc[i]? with
  | none => rw [q] at h; exact h.elim
  | some o =>
    cases o with
    | lst xs =>
      rw [q] at h
      obtain ⟨a, ha, vs, e, l, r⟩ := w.obj i _ q
      exact ⟨xs, a, vs, rfl, ha, e, l, r, h⟩
    | dct _ => rw [q] at h; exact h.elim
    | ins _ _ => rw [q] at h; exact h.elim
theorem atm {i : Nat} {a : Addr} {ρ : List Addr} (h : ρ[i]? = some a) : a ∈ ρ := List.mem_iff_getElem?.mpr ⟨i, h⟩
/-- items that are read -/
theorem post_seq {d : D} {v : V} {m : List D → M α} {okQ : α → Tk → Hp → Prop} (w : Wd K T hc H) (r : Rep K T H d v) (h : Post K T H okQ exP (bnd (seqM d) m hc)) :
    ∃ xs a vs, v = .ref a ∧ (SqL K H a vs ∨ SqT K H a vs) ∧ ((∀ ys, d ≠ .tup ys) → SqL K H a vs) ∧ (∀ ys, d = .tup ys → SqT K H a vs ∧ xs = ys) ∧ vs.length ≤ sizeLine ∧ RepL K T H xs vs ∧ Post K T H okQ exP (m xs hc) ∧ seqM d hc = .ok xs hc := by
  cases d with
  | tup xs =>
    simp only [Rep] at r
    obtain ⟨a, vs, e, s, l, q⟩ := r
    exact ⟨xs, a, vs, e, .inr s, fun z => absurd rfl (z xs), fun ys z => by cases z; exact ⟨s, rfl⟩, l, q, h, rfl⟩
  | fl xs =>
    simp only [Rep] at r
    obtain ⟨a, vs, e, s, l, q⟩ := r
    exact ⟨xs, a, vs, e, .inl s.sq, fun _ => s.sq, fun ys z => (by cases z), l, q, h, rfl⟩
  | kl xs =>
    simp only [Rep] at r
    obtain ⟨a, vs, e, s, l, q⟩ := r
    exact ⟨xs, a, vs, e, .inl s.sq, fun _ => s.sq, fun ys z => (by cases z), l, q, h, rfl⟩
  | ref i =>
    obtain ⟨xs, a, vs, q, ha, e, l, rr, p⟩ := post_lstAt (okP := fun _ _ _ => True) w h
    simp only [Rep] at r
    obtain ⟨b, eb, hb⟩ := r
    rw [ha] at hb; cases hb
    exact ⟨xs, a, vs, eb, .inl (SqL.of e), fun _ => SqL.of e, fun ys z => (by cases z), l, rr, p, by simp only [seqM, lstAt, q]⟩
  | _ => exact h.elim
theorem post_seq0 {d : D} {v : V} {okQ : List D → Tk → Hp → Prop} (w : Wd K T hc H) (r : Rep K T H d v) (h : Post K T H okQ exP (seqM d hc)) :
    ∃ xs a vs, v = .ref a ∧ (SqL K H a vs ∨ SqT K H a vs) ∧ ((∀ ys, d ≠ .tup ys) → SqL K H a vs) ∧ (∀ ys, d = .tup ys → SqT K H a vs ∧ xs = ys) ∧ vs.length ≤ sizeLine ∧ RepL K T H xs vs ∧ okQ xs T H := by
  have h' : Post K T H okQ exP (bnd (seqM d) pur hc) := by
    have e : bnd (seqM d) pur = seqM d := by
      funext h
      unfold bnd
      cases seqM d h <;> rfl
    rw [e]; exact h
  obtain ⟨xs, a, vs, e, s, sl, st, l, rr, p, _⟩ := post_seq w r h'
  exact ⟨xs, a, vs, e, s, sl, st, l, rr, p.of_pur w⟩
/-- an unlocked list -/
theorem post_ls {d : D} {v : V} {m : List D → M α} {okQ : α → Tk → Hp → Prop} (w : Wd K T hc H) (r : Rep K T H d v) (h : Post K T H okQ exP (bnd (lsM d) m hc)) :
    ∃ xs a vs, v = .ref a ∧ H a = some (.lst vs) ∧ vs.length ≤ sizeLine ∧ RepL K T H xs vs ∧ Post K T H okQ exP (m xs hc) := by
  cases d with
  | fl xs =>
    simp only [Rep] at r
    obtain ⟨a, vs, e, s, l, q⟩ := r
    exact ⟨xs, a, vs, e, s.1, l, q, h⟩
  | ref i =>
    obtain ⟨xs, a, vs, q, ha, e, l, rr, p⟩ := post_lstAt (okP := fun _ _ _ => True) w h
    simp only [Rep] at r
    obtain ⟨b, eb, hb⟩ := r
    rw [ha] at hb; cases hb
    exact ⟨xs, a, vs, eb, e, l, rr, p⟩
  | _ => exact h.elim
/-! ### truth -/
theorem isEmpty_len {xs : List D} {vs : List V} (h : RepL K T H xs vs) : vs.isEmpty = xs.isEmpty := by
  have := h.length
  cases xs <;> cases vs <;> simp at this <;> rfl
theorem post_tru {d : D} {v : V} {okQ : Bool → Tk → Hp → Prop} (w : Wd K T hc H) (r : Rep K T H d v) (h : Post K T H okQ exP (truM d hc)) : ∃ k, TruV K v H k ∧ okQ k T H := by
  cases d with
  | non => simp only [Rep] at r; subst r; exact ⟨false, rfl, h.of_pur w⟩
  | bl b => simp only [Rep] at r; subst r; exact ⟨b, rfl, h.of_pur w⟩
  | int i => simp only [Rep] at r; subst r; exact ⟨_, rfl, h.of_pur w⟩
  | str x =>
    simp only [Rep] at r; subst r
    obtain ⟨c, h⟩ := Post.of_guard h
    exact ⟨_, ⟨c, rfl⟩, h.of_pur w⟩
  | tup xs =>
    simp only [Rep] at r
    obtain ⟨a, vs, e, s, l, q⟩ := r
    subst e
    exact ⟨_, .inr (.inl ⟨vs, s, rfl⟩), by rw [isEmpty_len q]; exact h.of_pur w⟩
  | fl xs =>
    simp only [Rep] at r
    obtain ⟨a, vs, e, s, l, q⟩ := r
    subst e
    exact ⟨_, .inl ⟨vs, s.sq, rfl⟩, by rw [isEmpty_len q]; exact h.of_pur w⟩
  | kl xs =>
    simp only [Rep] at r
    obtain ⟨a, vs, e, s, l, q⟩ := r
    subst e
    exact ⟨_, .inl ⟨vs, s.sq, rfl⟩, by rw [isEmpty_len q]; exact h.of_pur w⟩
  | ref i =>
    simp only [Rep] at r
    obtain ⟨b, eb, hb⟩ := r
    subst eb
    unfold truM at h
    dsimp only at h
    cases q : hc[i]? with
    | none => rw [q] at h; exact h.elim
    | some o =>
      obtain ⟨a, ha, ro⟩ := w.obj i _ q
      rw [ha] at hb; cases hb
      cases o with
      | lst xs =>
        rw [q] at h
        obtain ⟨vs, e, l, rr⟩ := ro
        exact ⟨_, .inl ⟨vs, SqL.of e, rfl⟩, by rw [isEmpty_len rr]; exact Post.ok_same h w⟩
      | dct kvs =>
        rw [q] at h
        obtain ⟨vs, e, l, rr⟩ := ro
        refine ⟨_, .inr (.inr ⟨vs, e, rfl⟩), ?_⟩
        have : vs.isEmpty = kvs.isEmpty := by
          cases kvs with
          | nil => simp only [RepKV] at rr; rw [rr]; rfl
          | cons p ps =>
            obtain ⟨k, d⟩ := p
            simp only [RepKV] at rr
            obtain ⟨v, r, z, _⟩ := rr
            rw [z]; rfl
        rw [this]; exact Post.ok_same h w
      | ins _ _ => rw [q] at h; exact h.elim
  | ob _ => exact h.elim
  | ty _ => exact h.elim
/-! ### == -/
mutual
theorem dp_of : ∀ (d : D) (p : PyData) (v : V), Rep K T H d v → toPy d = some p → Dp K H v p
  | .non, p, v, r, e => by simp only [Rep] at r; simp only [toPy, Option.some.injEq] at e; subst r; subst e; exact .non
  | .bl b, p, v, r, e => by simp only [Rep] at r; simp only [toPy, Option.some.injEq] at e; subst r; subst e; exact .bl b
  | .int i, p, v, r, e => by simp only [Rep] at r; simp only [toPy, Option.some.injEq] at e; subst r; subst e; exact .int i
  | .str x, p, v, r, e => by simp only [Rep] at r; simp only [toPy, Option.some.injEq] at e; subst r; subst e; exact .str x
  | .tup xs, p, v, r, e => by
    simp only [Rep] at r
    obtain ⟨a, vs, q, s, l, rr⟩ := r
    simp only [toPy, Option.map_eq_some_iff] at e
    obtain ⟨ps, e1, e2⟩ := e
    subst q; subst e2
    exact .tup s (dps_of xs ps vs rr e1)
  | .fl xs, p, v, r, e => by
    simp only [Rep] at r
    obtain ⟨a, vs, q, s, l, rr⟩ := r
    simp only [toPy, Option.map_eq_some_iff] at e
    obtain ⟨ps, e1, e2⟩ := e
    subst q; subst e2
    exact .lst s.sq (dps_of xs ps vs rr e1)
  | .kl xs, p, v, r, e => by
    simp only [Rep] at r
    obtain ⟨a, vs, q, s, l, rr⟩ := r
    simp only [toPy, Option.map_eq_some_iff] at e
    obtain ⟨ps, e1, e2⟩ := e
    subst q; subst e2
    exact .lst s.sq (dps_of xs ps vs rr e1)
  | .ref _, p, v, r, e => by simp only [toPy] at e; cases e
  | .ob _, p, v, r, e => by simp only [toPy] at e; cases e
  | .ty _, p, v, r, e => by simp only [toPy] at e; cases e
theorem dps_of : ∀ (ds : List D) (ps : List PyData) (vs : List V), RepL K T H ds vs → toPys ds = some ps → DpAll K H vs ps
  | [], ps, vs, r, e => by simp only [RepL] at r; simp only [toPys, Option.some.injEq] at e; subst r; subst e; exact .nil
  | d :: ds, ps, vs, r, e => by
    simp only [RepL] at r
    obtain ⟨v, t, q, ra, rb⟩ := r
    simp only [toPys] at e
    split at e
    · next p1 p2 h1 h2 =>
      cases e
      subst q
      exact .cons (dp_of d _ v ra h1) (dps_of ds _ t rb h2)
    · cases e
end
theorem dpH_of (w : Wd K T hc H) {d : D} {p : PyData} {v : V} (r : Rep K T H d v) (e : toPyH hc d = some p) : Dp K H v p := by
  cases d with
  | ref i =>
    simp only [toPyH] at e
    split at e
    · next xs q =>
      rw [Option.map_eq_some_iff] at e
      obtain ⟨ps, e1, e2⟩ := e
      simp only [Rep] at r
      obtain ⟨b, eb, hb⟩ := r
      obtain ⟨a, ha, vs, h1, l, rr⟩ := w.obj i _ q
      rw [ha] at hb; cases hb
      subst eb; subst e2
      exact .lst (SqL.of h1) (dps_of xs ps vs rr e1)
    · cases e
  | _ => exact dp_of _ p v r e
theorem post_eq {a b : D} {v u : V} {okQ : Bool → Tk → Hp → Prop} (w : Wd K T hc H) (ra : Rep K T H a v) (rb : Rep K T H b u) (h : Post K T H okQ exP (eqM a b hc)) :
    ∃ p q, Dp K H v p ∧ Dp K H u q ∧ SeqAt.shaped p = true ∧ SeqAt.shaped q = true ∧ okQ (PyData.eqv p q) T H := by
  unfold eqM at h
  split at h
  · next p q h1 h2 =>
    split at h
    · next c =>
      rw [Bool.and_eq_true] at c
      exact ⟨p, q, dpH_of w ra h1, dpH_of w rb h2, c.1, c.2, Post.ok_same h w⟩
    · exact h.elim
  · exact h.elim
/-! ### the other comparisons -/
theorem isNon_iff {d : D} {v : V} (r : Rep K T H d v) : decide (v = .non) = isNon d := by
  cases d <;> simp only [Rep] at r <;> (try (obtain ⟨a, vs, q, _⟩ := r; subst q; rfl)) <;> (try (obtain ⟨a, q, _⟩ := r; subst q; rfl)) <;> (subst r; rfl)
theorem intsD_of : ∀ {xs : List D} {ns : List Int}, intsD xs = some ns → xs = ns.map D.int
  | [], ns, e => by simp only [intsD, Option.some.injEq] at e; subst e; rfl
  | d :: ds, ns, e => by
    cases d with
    | int i =>
      simp only [intsD, Option.map_eq_some_iff] at e
      obtain ⟨r, e1, e2⟩ := e
      subst e2
      rw [intsD_of e1]; rfl
    | _ => simp only [intsD] at e; cases e
theorem intsD_map (ns : List Int) : intsD (ns.map D.int) = some ns := by
  induction ns with
  | nil => rfl
  | cons n r ih => simp only [List.map_cons, intsD, ih, Option.map_some]
theorem blsD_of : ∀ {xs : List D} {ns : List Bool}, blsD xs = some ns → xs = ns.map D.bl
  | [], ns, e => by simp only [blsD, Option.some.injEq] at e; subst e; rfl
  | d :: ds, ns, e => by
    cases d with
    | bl i =>
      simp only [blsD, Option.map_eq_some_iff] at e
      obtain ⟨r, e1, e2⟩ := e
      subst e2
      rw [blsD_of e1]; rfl
    | _ => simp only [blsD] at e; cases e
theorem blsD_map (ns : List Bool) : blsD (ns.map D.bl) = some ns := by
  induction ns with
  | nil => rfl
  | cons n r ih => simp only [List.map_cons, blsD, ih, Option.map_some]
theorem repL_intsV {ns : List Int} {vs : List V} (r : RepL K T H (ns.map D.int) vs) : vs = ns.map V.int := by
  induction ns generalizing vs with
  | nil => simp only [List.map_nil, RepL] at r; exact r
  | cons n l ih =>
    simp only [List.map_cons, RepL] at r
    obtain ⟨v, t, q, a, b⟩ := r
    simp only [Rep] at a
    rw [q, a, ih b]; rfl
theorem repL_blsV {ns : List Bool} {vs : List V} (r : RepL K T H (ns.map D.bl) vs) : vs = ns.map V.bl := by
  induction ns generalizing vs with
  | nil => simp only [List.map_nil, RepL] at r; exact r
  | cons n l ih =>
    simp only [List.map_cons, RepL] at r
    obtain ⟨v, t, q, a, b⟩ := r
    simp only [Rep] at a
    rw [q, a, ih b]; rfl
theorem flatV_of {d : D} {v : V} (r : Rep K T H d v) (f : flatD d = true) : flatV v = true := by
  cases d <;> simp only [flatD, Bool.false_eq_true] at f <;> simp only [Rep] at r <;> subst r <;> rfl
theorem eqF_of {a b : D} {v u : V} (ra : Rep K T H a v) (rb : Rep K T H b u) (fa : flatD a = true) (fb : flatD b = true) : eqV v u = eqF a b := by
  cases a <;> simp only [flatD, Bool.false_eq_true] at fa <;> cases b <;> simp only [flatD, Bool.false_eq_true] at fb <;> simp only [Rep] at ra rb <;> subst ra <;> subst rb <;> rfl
theorem flats_of : ∀ {xs : List D} {vs : List V}, RepL K T H xs vs → xs.all flatD = true → vs.all flatV = true
  | [], vs, r, _ => by simp only [RepL] at r; subst r; rfl
  | d :: ds, vs, r, f => by
    simp only [RepL] at r
    obtain ⟨v, t, q, a, b⟩ := r
    rw [List.all_cons, Bool.and_eq_true] at f
    rw [q, List.all_cons, flatV_of a f.1, flats_of b f.2]; rfl
theorem any_of {x : D} {u : V} (rx : Rep K T H x u) (fx : flatD x = true) : ∀ {xs : List D} {vs : List V}, RepL K T H xs vs → xs.all flatD = true → inV u vs = xs.any fun y => eqF y x
  | [], vs, r, _ => by simp only [RepL] at r; subst r; rfl
  | d :: ds, vs, r, f => by
    simp only [RepL] at r
    obtain ⟨v, t, q, a, b⟩ := r
    rw [List.all_cons, Bool.and_eq_true] at f
    have ih := any_of rx fx b f.2
    unfold inV at ih ⊢
    rw [q, List.any_cons, List.any_cons, ih, eqF_of a rx f.1 fx]
end
/-! ### rules for values, by the operator -/
def rCmp (K : PySem.W.Frag) : CmpOp → R2
  | .Eq => rEqD K
  | .NotEq => rNeD K
  | .Lt => fun x y H Q => (rI0 (fun i j => .bl (decide (i < j))) x y H Q ∨ (∃ i j, x = .str i ∧ y = .str j ∧ Q (.bl (decide (i.cps.toList < j.cps.toList))) H)) ∨ rLtT K x y H Q
  | .LtE => fun x y H Q => rI0 (fun i j => .bl (decide (i ≤ j))) x y H Q ∨ rLeT K x y H Q
  | .Gt => rI0 fun i j => .bl (decide (j < i))
  | .GtE => rI0 fun i j => .bl (decide (j ≤ i))
  | .Is => fun x y H Q => (y = .non ∧ Q (.bl (decide (x = .non))) H) ∨ rIsB x y H Q
  | .IsNot => fun x y H Q => (y = .non ∧ Q (.bl (!decide (x = .non))) H) ∨ rNotB x y H Q
  | .In => fun x y H Q => rIn K false x y H Q ∨ (∃ i j, x = .str i ∧ y = .str j ∧ Q (.bl (!(Builtin.Str.occurrences j i 0 j.length 1).isEmpty)) H) ∨ rInD K false x y H Q
  | .NotIn => fun x y H Q => rIn K true x y H Q ∨ (∃ i j, x = .str i ∧ y = .str j ∧ Q (.bl (!(!(Builtin.Str.occurrences j i 0 j.length 1).isEmpty))) H) ∨ rInD K true x y H Q
theorem opCmp {X : Cx} {k : Nat} (hr : Room k X.A) : ∀ o : CmpOp, OpR X (compareOp o) (rCmp X.K o)
  | .Eq => op_eqD hr.units
  | .NotEq => op_neD hr.units
  | .Lt => OpR.or (OpR.or op_lt op_lt_str) (op_ltT hr.units0)
  | .LtE => OpR.or op_le (op_leT hr.units0)
  | .Gt => op_gt
  | .GtE => op_ge
  | .Is => OpR.or op_isN op_isBl
  | .IsNot => OpR.or op_notN op_notBl
  | .In => OpR.or op_in_seq (OpR.or op_in_str (op_inD (by have := hr.un; omega)))
  | .NotIn => OpR.or op_notIn_seq (OpR.or op_notIn_str (op_notInD (by have := hr.un; omega)))
section
variable {K : PySem.W.Frag} {T : Tk} {H : Hp} {hc : Hc} {exP : XK}
theorem post_is {a b : D} {v u : V} {okQ : Bool → Tk → Hp → Prop} (w : Wd K T hc H) (ra : Rep K T H a v) (rb : Rep K T H b u) (h : Post K T H okQ exP (isM a b hc)) :
    (u = .non ∧ okQ (decide (v = .non)) T H) ∨ ∃ x y : Bool, v = .bl x ∧ u = .bl y ∧ okQ (decide (x = y)) T H := by
  unfold isM at h
  split at h
  · simp only [Rep] at rb
    exact .inl ⟨rb, by rw [isNon_iff ra]; exact h.of_pur w⟩
  · simp only [Rep] at ra rb
    exact .inr ⟨_, _, ra, rb, h.of_pur w⟩
  · exact h.elim
theorem post_in {a b : D} {v u : V} {okQ : Bool → Tk → Hp → Prop} (w : Wd K T hc H) (ra : Rep K T H a v) (rb : Rep K T H b u) (h : Post K T H okQ exP (inM a b hc)) :
    (∃ p xs k, u = .ref p ∧ (SqL K H p xs ∨ SqT K H p xs) ∧ flatV v = true ∧ xs.all flatV = true ∧ inV v xs = k ∧ okQ k T H) ∨
      (∃ i j, v = .str i ∧ u = .str j ∧ okQ (!(Builtin.Str.occurrences j i 0 j.length 1).isEmpty) T H) ∨
      (∃ p xs d ps, u = .ref p ∧ SqT K H p xs ∧ Dp K H v d ∧ DpAll K H xs ps ∧ SeqAt.shaped d = true ∧ ps.all SeqAt.shaped = true ∧ okQ (ps.any fun q => PyData.eqv q d) T H) := by
  unfold inM at h
  split at h
  · simp only [Rep] at ra rb
    exact .inr (.inl ⟨_, _, ra, rb, h.of_pur w⟩)
  · next i =>
    left
    dsimp only at h
    cases q : hc[i]? with
    | none => rw [q] at h; exact h.elim
    | some o =>
      cases o with
      | lst xs =>
        rw [q] at h
        simp only at h
        split at h
        · next f =>
          obtain ⟨a, ha, vs, e, l, r⟩ := w.obj i _ q
          simp only [Rep] at rb
          obtain ⟨b, eb, hb⟩ := rb
          rw [ha] at hb; cases hb
          exact ⟨a, vs, _, eb, .inl (SqL.of e), flatV_of ra f.1, flats_of r f.2, any_of ra f.1 r f.2, Post.ok_same h w⟩
        · exact h.elim
      | dct _ => rw [q] at h; exact h.elim
      | ins _ _ => rw [q] at h; exact h.elim
  · next as xs =>
    right; right
    split at h
    · next p ps h1 h2 =>
      split at h
      · next c =>
        rw [Bool.and_eq_true] at c
        have r2 := rb
        simp only [Rep] at r2
        obtain ⟨a, vs, eu, st, l, rr⟩ := r2
        exact ⟨a, vs, p, ps, eu, st, dp_of _ p v ra h1, dps_of xs ps vs rr h2, c.1, c.2, Post.ok_same h w⟩
      · exact h.elim
    · exact h.elim
  · left
    obtain ⟨xs, p, vs, e, s, _, _, l, r, h, _⟩ := post_seq w rb h
    obtain ⟨f, h⟩ := Post.of_guard h
    exact ⟨p, vs, _, e, s, flatV_of ra f.1, flats_of r f.2, any_of ra f.1 r f.2, h.of_pur w⟩
theorem post_cmp {o : CmpOp} {a b : D} {v u : V} {Q : VK} (w : Wd K T hc H) (ra : Rep K T H a v) (rb : Rep K T H b u) (h : Post K T H (fun k T' H' => Q (.bl k) H') exP (cmpM o a b hc)) : rCmp K o v u H Q := by
  cases o with
  | Eq => exact post_eq w ra rb h
  | NotEq =>
    obtain ⟨p, q, d1, d2, s1, s2, x⟩ := post_eq w ra rb (Post.bind h)
    obtain ⟨_, _, w', x⟩ := x
    exact ⟨p, q, d1, d2, s1, s2, x.of_pur w'⟩
  | Lt =>
    simp only [cmpM] at h
    unfold ltM at h
    split at h
    · simp only [Rep] at ra rb; exact .inl (.inl ⟨_, _, ra, rb, h.of_pur w⟩)
    · simp only [Rep] at ra rb; exact .inl (.inr ⟨_, _, ra, rb, h.of_pur w⟩)
    · next xs ys =>
      cases e1 : intsD xs with
      | none => rw [e1] at h; exact h.elim
      | some ns =>
        cases e2 : intsD ys with
        | none => rw [e1, e2] at h; exact h.elim
        | some ms =>
          rw [e1, e2] at h
          have e1' := intsD_of e1
          have e2' := intsD_of e2
          simp only [Rep] at ra rb
          obtain ⟨p, vs, q, s, l, rr⟩ := ra
          obtain ⟨p', us, q', s', l', rr'⟩ := rb
          subst e1'; subst e2'
          rw [repL_intsV rr] at s
          rw [repL_intsV rr'] at s'
          exact .inr ⟨p, p', ns, ms, q, q', s, s', h.of_pur w⟩
    · exact h.elim
  | LtE =>
    simp only [cmpM] at h
    unfold leM at h
    split at h
    · simp only [Rep] at ra rb; exact .inl ⟨_, _, ra, rb, h.of_pur w⟩
    · next xs ys =>
      cases e1 : intsD xs with
      | none => rw [e1] at h; exact h.elim
      | some ns =>
        cases e2 : intsD ys with
        | none => rw [e1, e2] at h; exact h.elim
        | some ms =>
          rw [e1, e2] at h
          have e1' := intsD_of e1
          have e2' := intsD_of e2
          simp only [Rep] at ra rb
          obtain ⟨p, vs, q, s, l, rr⟩ := ra
          obtain ⟨p', us, q', s', l', rr'⟩ := rb
          subst e1'; subst e2'
          rw [repL_intsV rr] at s
          rw [repL_intsV rr'] at s'
          exact .inr ⟨p, p', ns, ms, q, q', s, s', h.of_pur w⟩
    · exact h.elim
  | Gt =>
    simp only [cmpM] at h
    unfold cmpI at h
    split at h
    · simp only [Rep] at ra rb; exact ⟨_, _, ra, rb, h.of_pur w⟩
    · exact h.elim
  | GtE =>
    simp only [cmpM] at h
    unfold cmpI at h
    split at h
    · simp only [Rep] at ra rb; exact ⟨_, _, ra, rb, h.of_pur w⟩
    · exact h.elim
  | Is =>
    rcases post_is w ra rb h with ⟨e, q⟩ | ⟨x, y, e1, e2, q⟩
    · exact .inl ⟨e, q⟩
    · exact .inr ⟨x, y, e1, e2, q⟩
  | IsNot =>
    rcases post_is w ra rb (Post.bind h) with ⟨e, _, _, w', q⟩ | ⟨x, y, e1, e2, _, _, w', q⟩
    · exact .inl ⟨e, q.of_pur w'⟩
    · exact .inr ⟨x, y, e1, e2, q.of_pur w'⟩
  | In =>
    rcases post_in w ra rb h with ⟨p, xs, k, e, s, f1, f2, ek, q⟩ | ⟨i, j, e1, e2, q⟩ | ⟨p, xs, d, ps, e, s, x1, x2, x3, x4, q⟩
    · exact .inl ⟨p, xs, e, s, f1, f2, by rw [ek]; exact q⟩
    · exact .inr (.inl ⟨i, j, e1, e2, q⟩)
    · exact .inr (.inr ⟨p, xs, d, ps, e, s, x1, x2, x3, x4, q⟩)
  | NotIn =>
    rcases post_in w ra rb (Post.bind h) with ⟨p, xs, k, e, s, f1, f2, ek, _, _, w', q⟩ | ⟨i, j, e1, e2, _, _, w', q⟩ | ⟨p, xs, d, ps, e, s, x1, x2, x3, x4, _, _, w', q⟩
    · exact .inl ⟨p, xs, e, s, f1, f2, by rw [ek]; exact q.of_pur w'⟩
    · exact .inr (.inl ⟨i, j, e1, e2, q.of_pur w'⟩)
    · exact .inr (.inr ⟨p, xs, d, ps, e, s, x1, x2, x3, x4, q.of_pur w'⟩)
end
/-! ### binary operators -/
theorem MulOk.ok {i j : Int} (h : MulOk i j) : IntMulOk i j := by
  rcases h with h | h
  · exact CMul.ok h
  · exact CMulW.ok h
/-- t * 1 is t -/
theorem tuple_mul1 (l : Addr) (items : Array Value) (n : Nat) (dd : Option Addr) (sl : Array (Option Value)) (u : Tok) :
    Meets (Builtin.«tuple.__mul__» ⟨[.ref l, .int 1 u], []⟩) (fun _ R s => s.heap.get? l = some { cls := .type "tuple", dict := dd, data := .seq items n, slots := sl } ∧
      R (.ok (.ret (Value.ref l))) s) :=
  .of_wp fun prog w A R s h => by
    obtain ⟨hp, g, d, tk, os⟩ := s
    obtain ⟨hl, h⟩ := h
    have f1 := AutoSeq1.idx_int
    wp_walk using wpAny_loadPart' hl
    exact ⟨_, rfl, h⟩
def rOneT (K : PySem.W.Frag) : R2 := fun x y H Q => ∃ l xs, x = .ref l ∧ y = .int 1 ∧ SqT K H l xs ∧ Q (.ref l) H
theorem op_oneT {X : Cx} : OpR X (binaryOp .Mult) (rOneT X.K) := by
  intro pins s σ H x y v u Q I rx ry h
  obtain ⟨l, xs, rfl, rfl, hT, q⟩ := h
  cases rx
  obtain ⟨t, rfl⟩ := ry
  obtain ⟨its, r, ⟨⟨cls, dd, data, sl⟩, ho, hc, n, hd⟩, hs⟩ := I.tuple hT
  simp only at hc hd
  subst hc hd
  refine wpAny_binaryOp_repeat_ref (T := "tuple") (U := "int") (by decide) ⟨_, ho, rfl⟩ (fun s' => typeIs_int s' 1 t) noFill_tuple_mul F.fills_int_mul F.slot_int_rmul repeat_tuple F.slot_int_index.lookup
    (call_meets F.slot_int_rmul (typeIs_int s 1 t) F.entry_int_rmul (F.args_int_rmul_2 _ _) (int_rmul_tuple 1 t l its.toArray n dd sl)
      ⟨ho, rfl, ⟨_, ho, rfl⟩, call_meets F.slot_tuple_mul ⟨_, ho, rfl⟩ F.entry_tuple_mul (F.args_tuple_mul_2 _ _) (tuple_mul1 l its.toArray n dd sl t) ⟨ho, ?_⟩⟩)
  exact ⟨.ref l, H, I, rfl, q⟩
def rBin (K : PySem.W.Frag) : Operator → R2
  | .Add => fun x y H Q => (rI0 (fun i j => .int (i + j)) x y H Q ∨ (∃ i j, x = .str i ∧ y = .str j ∧ i.length + j.length ≤ sizeLine ∧ Q (.str (i ++ j)) H)) ∨ rCatA K x y H Q
  | .Sub => rI0 fun i j => .int (i - j)
  | .Mult => fun x y H Q => rI MulOk (fun i j => .int (i * j)) x y H Q ∨ (rOneT K x y H Q ∨ rRepT K x y H Q)
  | .FloorDiv => rI (fun _ j => DivOk j) fun i j => .int (i.fdiv j)
  | .Mod => rI (fun _ j => j ≠ 0) fun i j => .int (i.fmod j)
  | .Pow => rI CPow fun i j => .int (i ^ j.toNat)
  | .LShift => rI CPow fun i j => .int (i * 2 ^ j.toNat)
  | .RShift => rI (fun _ j => 0 ≤ j) fun i j => .int (i / 2 ^ j.toNat)
  | .BitAnd => rI0 fun i j => .int (Builtin.bitAnd i j)
  | _ => fun _ _ _ _ => False
theorem opBin {X : Cx} : ∀ o : Operator, OpR X (binaryOp o) (rBin X.K o)
  | .Add => OpR.or (OpR.or op_add op_add_str) op_catA
  | .Sub => op_sub
  | .Mult => OpR.or (opI fun _ _ _ _ _ _ _ hc q => mul_int q hc.ok) (OpR.or op_oneT op_repT)
  | .FloorDiv => opI fun i j _ _ _ _ _ hc q => floordiv_int hc.1 q (.inl (PyProof.noPylong_of_log2 hc.2))
  | .Mod => opI fun i j _ _ _ _ _ hc q => mod_int hc q
  | .Pow => op_pow
  | .LShift => op_shl
  | .RShift => op_shr
  | .BitAnd => op_and
  | .MatMult => fun _ _ _ _ _ _ _ _ _ _ _ _ h => h.elim
  | .Div => fun _ _ _ _ _ _ _ _ _ _ _ _ h => h.elim
  | .BitOr => fun _ _ _ _ _ _ _ _ _ _ _ _ h => h.elim
  | .BitXor => fun _ _ _ _ _ _ _ _ _ _ _ _ h => h.elim
/-- x op= y -/
def rAug : Operator → R2
  | .Add => fun x y H Q => rI0 (fun i j => .int (i + j)) x y H Q ∨ (∃ i j, x = .str i ∧ y = .str j ∧ i.length + j.length ≤ sizeLine ∧ Q (.str (i ++ j)) H)
  | .Sub => rI0 fun i j => .int (i - j)
  | .Mult => rI MulOk fun i j => .int (i * j)
  | .FloorDiv => rI (fun _ j => DivOk j) fun i j => .int (i.fdiv j)
  | .Mod => rI (fun _ j => j ≠ 0) fun i j => .int (i.fmod j)
  | _ => fun _ _ _ _ => False
theorem opAug {X : Cx} : ∀ o : Operator, OpR X (inplaceOp o) (rAug o)
  | .Add => OpR.or iop_add iop_add_str
  | .Sub => iop_sub
  | .Mult => opI fun _ _ _ _ _ _ _ hc q => imul_int q hc.ok
  | .FloorDiv => opI fun i j _ _ _ _ _ hc q => ifloordiv_int hc.1 q (.inl (PyProof.noPylong_of_log2 hc.2))
  | .Mod => opI fun i j _ _ _ _ _ hc q => imod_int hc q
  | .Pow => fun _ _ _ _ _ _ _ _ _ _ _ _ h => h.elim
  | .LShift => fun _ _ _ _ _ _ _ _ _ _ _ _ h => h.elim
  | .RShift => fun _ _ _ _ _ _ _ _ _ _ _ _ h => h.elim
  | .BitAnd => fun _ _ _ _ _ _ _ _ _ _ _ _ h => h.elim
  | .MatMult => fun _ _ _ _ _ _ _ _ _ _ _ _ h => h.elim
  | .Div => fun _ _ _ _ _ _ _ _ _ _ _ _ h => h.elim
  | .BitOr => fun _ _ _ _ _ _ _ _ _ _ _ _ h => h.elim
  | .BitXor => fun _ _ _ _ _ _ _ _ _ _ _ _ h => h.elim
section
variable {K : PySem.W.Frag} {T : Tk} {H : Hp} {hc : Hc} {exP : XK}
theorem post_bin {o : Operator} {a b : D} {v u : V} {Q : VK} (w : Wd K T hc H) (ra : Rep K T H a v) (rb : Rep K T H b u) (h : Post K T H (fun d T' H' => ∀ v, Rep K T' H' d v → Q v H') exP (binM o a b hc)) : rBin K o v u H Q := by
  unfold binM at h
  split at h
  · simp only [Rep] at ra rb
    exact .inl (.inl ⟨_, _, ra, rb, h.of_pur w _ (by simp only [Rep])⟩)
  · simp only [Rep] at ra rb
    obtain ⟨c, h⟩ := Post.of_guard h
    exact .inl (.inr ⟨_, _, ra, rb, c, h.of_pur w _ (by simp only [Rep])⟩)
  · next xs ys =>
    simp only [Rep] at ra rb
    obtain ⟨c, h⟩ := Post.of_guard h
    obtain ⟨p, vs, q, s, l, rr⟩ := ra
    obtain ⟨p', us, q', s', l', rr'⟩ := rb
    have e1 := rr.length
    have e2 := rr'.length
    refine .inr ⟨p, p', vs, us, q, q', s, s', by omega, fun z => ?_, fun z z' => ?_, fun z z' r hr => ?_⟩
    · subst z
      have : xs = [] := List.eq_nil_of_length_eq_zero (by rw [← e1]; rfl)
      subst this
      refine h.of_pur w _ ?_
      simp only [Rep]
      exact ⟨p', us, rfl, s', l', rr'⟩
    · subst z'
      have : ys = [] := List.eq_nil_of_length_eq_zero (by rw [← e2]; rfl)
      subst this
      refine h.of_pur w _ ?_
      simp only [Rep, List.append_nil]
      exact ⟨p, vs, rfl, s, l, rr⟩
    · exact h T _ (Ext.upd_new hr) (w.upd_new hr) _ (rep_new_tup w hr (rr.append rr') (by rw [List.length_append]; omega))
  · simp only [Rep] at ra rb
    exact ⟨_, _, ra, rb, h.of_pur w _ (by simp only [Rep])⟩
  · simp only [Rep] at ra rb
    obtain ⟨c, h⟩ := Post.of_guard h
    exact .inl ⟨_, _, ra, rb, c, h.of_pur w _ (by simp only [Rep])⟩
  · next xs kk =>
    simp only [Rep] at ra rb
    obtain ⟨c, h⟩ := Post.of_guard h
    obtain ⟨p, vs, q, s, l, rr⟩ := ra
    have hl := rr.length
    by_cases k1 : kk = 1
    · subst k1
      refine .inr (.inl ⟨p, vs, q, rb, s, ?_⟩)
      refine h.of_pur w _ ?_
      simp only [Rep]
      exact ⟨p, vs, rfl, s, l, by simpa using rr⟩
    · refine .inr (.inr ⟨p, kk, vs, q, rb, s, fun z => ?_, by omega, c.2.1, by omega, fun r hr => ?_⟩)
      · subst z
        exact c.2.2.1 (List.eq_nil_of_length_eq_zero (by rw [← hl]; rfl))
      · have rep : ∀ n : Nat, RepL K T H (List.replicate n xs).flatten (List.replicate n vs).flatten := fun n => by
          induction n with
          | zero => exact RepL.nil
          | succ n ih => rw [List.replicate_succ, List.replicate_succ, List.flatten_cons, List.flatten_cons]; exact rr.append ih
        refine h T _ (Ext.upd_new hr) (w.upd_new hr) _ (rep_new_tup w hr (rep kk.toNat) ?_)
        have e : (List.replicate kk.toNat vs).flatten.length = kk.toNat * vs.length := by simp
        rw [e, sizeLine_eq]
        have := Nat.mul_le_mul (show kk.toNat ≤ 1000 by omega) (show vs.length ≤ 1000 by omega)
        omega
  · simp only [Rep] at ra rb
    obtain ⟨c, h⟩ := Post.of_guard h
    exact ⟨_, _, ra, rb, c, h.of_pur w _ (by simp only [Rep])⟩
  · simp only [Rep] at ra rb
    obtain ⟨c, h⟩ := Post.of_guard h
    exact ⟨_, _, ra, rb, c, h.of_pur w _ (by simp only [Rep])⟩
  · simp only [Rep] at ra rb
    obtain ⟨c, h⟩ := Post.of_guard h
    exact ⟨_, _, ra, rb, c, h.of_pur w _ (by simp only [Rep])⟩
  · simp only [Rep] at ra rb
    obtain ⟨c, h⟩ := Post.of_guard h
    exact ⟨_, _, ra, rb, c, h.of_pur w _ (by simp only [Rep])⟩
  · simp only [Rep] at ra rb
    obtain ⟨c, h⟩ := Post.of_guard h
    exact ⟨_, _, ra, rb, c, h.of_pur w _ (by simp only [Rep])⟩
  · simp only [Rep] at ra rb
    exact ⟨_, _, ra, rb, h.of_pur w _ (by simp only [Rep])⟩
  · exact h.elim
theorem post_aug {o : Operator} {a b : D} {v u : V} {Q : VK} (w : Wd K T hc H) (ra : Rep K T H a v) (rb : Rep K T H b u) (h : Post K T H (fun d T' H' => ∀ v, Rep K T' H' d v → Q v H') exP (augM o a b hc)) : rAug o v u H Q := by
  unfold augM at h
  split at h
  · split at h
    · have r := post_bin w ra rb h
      simp only [Rep] at ra rb
      rcases r with (r | ⟨i, j, e, _⟩) | ⟨p, q, xs, ys, e, _⟩
      · exact .inl r
      · rw [ra] at e; cases e
      · rw [ra] at e; cases e
    · exact post_bin w ra rb h
    · have r := post_bin w ra rb h
      simp only [Rep] at ra rb
      rcases r with r | ⟨p, xs, e, _⟩ | ⟨p, k, xs, e, _⟩
      · exact r
      · rw [ra] at e; cases e
      · rw [ra] at e; cases e
    · exact post_bin w ra rb h
    · exact post_bin w ra rb h
    · exact h.elim
  · have r := post_bin w ra rb h
    simp only [Rep] at ra rb
    rcases r with (r | r) | ⟨p, q, xs, ys, e, _⟩
    · exact .inl r
    · exact .inr r
    · rw [ra] at e; cases e
  · exact h.elim
end
end Cl
/-! Rules for expressions. -/
namespace Cl
open PySem PySem.Spec PyProof.Rows L2
def isStar : Expr → Bool
  | .Starred _ _ => true
  | _ => false
theorem star1 {e : Expr} {es : List Expr} {env : PySem.Env} (h : isStar e = false) : starEach (e :: es) env = (false, eval e env) :: starEach es env := by
  cases e <;> first | rfl | (simp [isStar] at h)
theorem starAll {pos : Pos} {env : PySem.Env} : ∀ {es : List Expr}, (∀ e ∈ es, isStar e = false) → (backTo pos (starEach es env)).any (·.1) = false
  | [], _ => rfl
  | e :: es, h => by
    rw [star1 (h e List.mem_cons_self)]
    have ih := starAll (pos := pos) (env := env) fun x hx => h x (List.mem_cons_of_mem _ hx)
    unfold backTo at ih ⊢
    rw [List.map_cons, List.any_cons, ih]; rfl
theorem starFew {pos : Pos} {env : PySem.Env} : ∀ {es : List Expr}, (∀ e ∈ es, isStar e = false) → (backTo pos (starEach es env)).all (fun x => !x.1) = true
  | [], _ => rfl
  | e :: es, h => by
    rw [star1 (h e List.mem_cons_self)]
    have ih := starFew (pos := pos) (env := env) fun x hx => h x (List.mem_cons_of_mem _ hx)
    unfold backTo at ih ⊢
    rw [List.map_cons, List.all_cons, ih]; rfl
theorem superNo {e : Expr} {n : Str} {env : PySem.Env} (h : notSuper e = true) : attributeBase e n env (eval e env) = eval e env := by
  unfold attributeBase
  split
  · next q => simp [notSuper] at h
  · rfl
theorem plain_is {e : Expr} (h : plainT e = true) {env : PySem.Env} (whole : Sem Value) : isTrue e env whole = (do let v ← whole; standAt e.pos; holding [v] (truthy v)) := by
  cases e with
  | UnaryOp o x p => cases o <;> first | rfl | (simp [plainT] at h)
  | BoolOp _ _ _ => simp [plainT] at h
  | IfExp _ _ _ _ => simp [plainT] at h
  | Compare _ _ _ _ => simp [plainT] at h
  | _ => rfl
theorem marks_no {o : CmpOp} {e : Expr} (h : notSet e = true) : behindInMarks o e = false := by
  cases e <;> first | rfl | (simp [notSet] at h)
theorem slice_no {e : Expr} (h : notSlice e = true) : PlainIx e := fun o i => by
  cases e <;> first | rfl | (simp [notSlice] at h)
section
variable {C : Ck} {G : Gt} {Cs : List D} {k : Nat} {X : Cx} {W : WX} {sc : Scope} {pos : Pos}
variable {a b c e : Expr} {ma mb mc : Env → M D}
/-! ### leaves -/
theorem ce_var (g : Gd C G Cs k X W sc) {i : Nat} {x : Str} (hN : C.N[i]? = some x) (hv : visB sc x = true) (ho : okName x = true) : CE C X W sc (.Name x pos) (fun env => optM ((env[i]?).bind id)) := by
  refine ⟨_, pe_var (i := i) (by rw [g.N]; exact hN) (g.vis hv) (okName_d ho).1 (okName_d ho).2, OwnSt.no rfl, fun T hc H env σ Q w er h => ?_⟩
  obtain ⟨d, e, q⟩ := Post.of_opt h w
  cases q' : env[i]? with
  | none => rw [q'] at e; cases e
  | some o =>
    rw [q'] at e
    simp only [Option.bind_some, id] at e
    subst e
    obtain ⟨v, hv, r⟩ := er.2 i d q'
    exact ⟨v, hv, q v r⟩
theorem ce_const {v : V} {d : D} (he : PE X e (tC v)) (hd : ∀ T H, Rep X.K T H d v) (hn : isComp e = false) : CE C X W sc e (fun _ => pur d) :=
  ⟨_, he, OwnSt.no hn, fun T hc H env σ Q w er h => h.of_pur w _ (hd T H)⟩
theorem ce_int {n : Int} {j : Nat} : CE C X W sc (.Constant (.int n) j pos) (fun _ => pur (.int n)) := ce_const pe_int (fun _ _ => by simp only [Rep]) rfl
theorem ce_str {x : Str} {j : Nat} : CE C X W sc (.Constant (.str x) j pos) (fun _ => pur (.str x)) := ce_const pe_str (fun _ _ => by simp only [Rep]) rfl
theorem ce_bl {x : Bool} {j : Nat} : CE C X W sc (.Constant (.bool x) j pos) (fun _ => pur (.bl x)) := ce_const pe_bl (fun _ _ => by simp only [Rep]) rfl
theorem ce_non {j : Nat} : CE C X W sc (.Constant .none j pos) (fun _ => pur .non) := ce_const pe_non (fun _ _ => by simp only [Rep]) rfl
theorem ce_glb (g : Gd C G Cs k X W sc) {j : Nat} {x : Str} (hN : C.gs[j]? = some x) (hv : glB sc x = true) (ho : okName x = true) : CE C X W sc (.Name x pos) (fun _ => optM Cs[j]?) := by
  cases q : Cs[j]? with
  | none =>
    -- never asked
    by_cases z : ∃ u v, X.mg x = some u ∧ RelV v u
    · obtain ⟨u, v, hm, r⟩ := z
      exact ⟨_, pe_glob (g.gl hv) hm r (okName_d ho).1, OwnSt.no rfl, fun T hc H env σ Q w er h => h.elim⟩
    · refine ⟨fun _ _ _ => False, ⟨fun pins s σ H Q I h => h.elim⟩, OwnSt.no rfl, fun T hc H env σ Q w er h => h.elim⟩
  | some d =>
    obtain ⟨y, hy, v, u, hm, r, hr⟩ := g.gc j d q
    rw [hN] at hy; cases hy
    exact ⟨_, pe_glob (g.gl hv) hm r (okName_d ho).1, OwnSt.no rfl, fun T hc H env σ Q w er h => h.of_pur w _ (hr T H)⟩
/-! ### from two values -/
/-- a first, then what follows -/
theorem read1 {ta : TE} {β : Type} {f : D → M β} {okQ : β → Tk → Hp → Prop} {R : VK}
    (ra : ∀ T hc H env σ (Q : VK), Wd X.K T hc H → EnvR X.K T H env σ → Post X.K T H (fun d T' H' => ∀ v, Rep X.K T' H' d v → Q v H') (WE W σ) (ma env hc) → ta σ H Q)
    {T : Tk} {hc : Hc} {H : Hp} {env : Env} {σ : L2.St} (w : Wd X.K T hc H) (er : EnvR X.K T H env σ) (h : Post X.K T H okQ (WE W σ) (bnd (ma env) f hc))
    (n : ∀ d T1 hc1 H1 v, Ext T H T1 H1 → Wd X.K T1 hc1 H1 → EnvR X.K T1 H1 env σ → Rep X.K T1 H1 d v → Post X.K T1 H1 okQ (WE W σ) (f d hc1) → R v H1) : ta σ H R :=
  ra T hc H env σ R w er (Post.imp (Post.bind h) fun d T1 H1 e p v r => by
    obtain ⟨hc1, _, w1, h1⟩ := p
    exact n d T1 hc1 H1 v e w1 (er.ext w e) r h1)
theorem ce_op2 {te : TE → TE → TE} {e : Expr} {f : D → D → M D} {r : R2} (hn : isComp e = false) (he : ∀ ta tb, PE X a ta → PE X b tb → PE X e (tOp r ta tb)) (ha : CE C X W sc a ma) (hb : CE C X W sc b mb)
    (hf : ∀ T hc H d d' v u (E : XK) (Q : VK), Wd X.K T hc H → Rep X.K T H d v → Rep X.K T H d' u → Post X.K T H (fun d T' H' => ∀ v, Rep X.K T' H' d v → Q v H') E (f d d' hc) → r v u H Q) :
    CE C X W sc e (fun env => bnd (ma env) fun x => bnd (mb env) fun y => f x y) := by
  obtain ⟨ta, pa, _, ra⟩ := ha
  obtain ⟨tb, pb, _, rb⟩ := hb
  refine ⟨_, he ta tb pa pb, OwnSt.no hn, fun T hc H env σ Q w er h => ?_⟩
  exact read1 ra w er h fun d T1 hc1 H1 v e1 w1 er1 r1 h1 => read1 rb w1 er1 h1 fun d2 T2 hc2 H2 u e2 w2 er2 r2 h2 => hf T2 hc2 H2 d d2 v u _ Q w2 (Rep.ext w1 e2 _ _ r1) r2 h2
theorem ce_bin {o : Operator} (ha : CE C X W sc a ma) (hb : CE C X W sc b mb) : CE C X W sc (.BinOp a o b pos) (fun env => bnd (ma env) fun x => bnd (mb env) fun y => binM o x y) :=
  ce_op2 (te := fun a b => a) rfl (fun ta tb pa pb => pe_op (opBin o) pa pb) ha hb fun T hc H d d' v u E Q w r1 r2 h => post_bin w r1 r2 h
theorem ce_cmp (g : Gd C G Cs k X W sc) {o : CmpOp} (hs : C.cm = true ∧ notSet b = true) (ha : CE C X W sc a ma) (hb : CE C X W sc b mb) : CE C X W sc (.Compare a [o] [b] pos) (fun env => bnd (ma env) fun x => bnd (mb env) fun y => bnd (cmpM o x y) fun k => pur (.bl k)) :=
  ce_op2 (te := fun a b => a) rfl (fun ta tb pa pb => pe_cmpR (opCmp (g.rm hs.1) o) pa pb (marks_no hs.2)) ha hb fun T hc H d d' v u E Q w r1 r2 h =>
    post_cmp w r1 r2 (Post.imp (Post.bind h) fun k T' H' e p => by
      obtain ⟨hc', _, w', p⟩ := p
      exact p.of_pur w' _ (by simp only [Rep]))
theorem ct_cmp (g : Gd C G Cs k X W sc) {o : CmpOp} (hs : C.cm = true ∧ notSet b = true) (ha : CE C X W sc a ma) (hb : CE C X W sc b mb) : CT X W (.Compare a [o] [b] pos) (fun env => bnd (bnd (ma env) fun x => bnd (mb env) fun y => bnd (cmpM o x y) fun k => pur (.bl k)) truM) := by
  obtain ⟨ta, pa, _, ra⟩ := ha
  obtain ⟨tb, pb, _, rb⟩ := hb
  refine ⟨_, pt_cmpR (opCmp (g.rm hs.1) o) pa pb (marks_no hs.2), fun T hc H env σ Q w er h => ?_⟩
  dsimp only at h
  rw [bnd_assoc] at h
  refine read1 ra w er h fun d T1 hc1 H1 v e1 w1 er1 r1 h1 => ?_
  rw [bnd_assoc] at h1
  refine read1 rb w1 er1 h1 fun d2 T2 hc2 H2 u e2 w2 er2 r2 h2 => ?_
  rw [bnd_assoc] at h2
  refine post_cmp w2 (Rep.ext w1 e2 _ _ r1) r2 (Post.imp (Post.bind h2) fun k T' H' e p => ?_)
  obtain ⟨hc', _, w', p⟩ := p
  exact ⟨k, rfl, p.of_pur w'⟩
theorem ce_chain (g : Gd C G Cs k X W sc) {o o' : CmpOp} (hs : C.cm = true ∧ notSet c = true) (ha : CE C X W sc a ma) (hb : CE C X W sc b mb) (hcc : CE C X W sc c mc) :
    CE C X W sc (.Compare a [o, o'] [b, c] pos) (fun env => bnd (ma env) fun x => bnd (mb env) fun y => bnd (cmpM o x y) fun k => if k = true then bnd (mc env) fun z => bnd (cmpM o' y z) fun l => pur (.bl l) else pur (.bl false)) := by
  obtain ⟨ta, pa, _, ra⟩ := ha
  obtain ⟨tb, pb, _, rb⟩ := hb
  obtain ⟨tc, pc, _, rc⟩ := hcc
  refine ⟨_, pe_chain (opCmp (g.rm hs.1) o) (opCmp (g.rm hs.1) o') pa pb pc (marks_no hs.2), OwnSt.no rfl, fun T hc H env σ Q w er h => ?_⟩
  refine read1 ra w er h fun d T1 hc1 H1 v e1 w1 er1 r1 h1 => ?_
  refine read1 rb w1 er1 h1 fun d2 T2 hc2 H2 u e2 w2 er2 r2 h2 => ?_
  refine post_cmp w2 (Rep.ext w1 e2 _ _ r1) r2 (Post.imp (Post.bind h2) fun k T3 H3 e3 p => ?_)
  obtain ⟨hc3, _, w3, p⟩ := p
  refine ⟨k, rfl, ?_⟩
  cases k with
  | false => exact p.of_pur w3 _ (by simp only [Rep])
  | true =>
    exact read1 rc w3 (er2.ext w2 e3) p fun d4 T4 hc4 H4 z e4 w4 er4 r4 h4 => post_cmp w4 (Rep.ext w3 e4 _ _ (Rep.ext w2 e3 _ _ r2)) r4 (Post.imp (Post.bind h4) fun l T' H' e p => by
      obtain ⟨hc', _, w', p⟩ := p
      exact p.of_pur w' _ (by simp only [Rep]))
theorem ct_chain (g : Gd C G Cs k X W sc) {o o' : CmpOp} (hs : C.cm = true ∧ notSet c = true) (ha : CE C X W sc a ma) (hb : CE C X W sc b mb) (hcc : CE C X W sc c mc) :
    CT X W (.Compare a [o, o'] [b, c] pos) (fun env => bnd (bnd (ma env) fun x => bnd (mb env) fun y => bnd (cmpM o x y) fun k => if k = true then bnd (mc env) fun z => bnd (cmpM o' y z) fun l => pur (.bl l) else pur (.bl false)) truM) := by
  obtain ⟨ta, pa, _, ra⟩ := ha
  obtain ⟨tb, pb, _, rb⟩ := hb
  obtain ⟨tc, pc, _, rc⟩ := hcc
  refine ⟨_, pt_chain (opCmp (g.rm hs.1) o) (opCmp (g.rm hs.1) o') pa pb pc (marks_no hs.2), fun T hc H env σ Q w er h => ?_⟩
  dsimp only at h
  rw [bnd_assoc] at h
  refine read1 ra w er h fun d T1 hc1 H1 v e1 w1 er1 r1 h1 => ?_
  rw [bnd_assoc] at h1
  refine read1 rb w1 er1 h1 fun d2 T2 hc2 H2 u e2 w2 er2 r2 h2 => ?_
  rw [bnd_assoc] at h2
  refine post_cmp w2 (Rep.ext w1 e2 _ _ r1) r2 (Post.imp (Post.bind h2) fun k T3 H3 e3 p => ?_)
  obtain ⟨hc3, _, w3, p⟩ := p
  refine ⟨k, rfl, ?_⟩
  cases k with
  | false => exact ⟨false, rfl, p.of_pur w3⟩
  | true =>
    have p' : Post X.K T3 H3 (fun k _ H' => Q k H') (WE W σ) (bnd (mc env) (fun z => bnd (bnd (cmpM o' d2 z) fun l => pur (.bl l)) truM) hc3) := by
      rw [← bnd_assoc]; exact p
    refine read1 rc w3 (er2.ext w2 e3) p' fun d4 T4 hc4 H4 z e4 w4 er4 r4 h4 => ?_
    rw [bnd_assoc] at h4
    refine post_cmp w4 (Rep.ext w3 e4 _ _ (Rep.ext w2 e3 _ _ r2)) r4 (Post.imp (Post.bind h4) fun l T' H' e p => ?_)
    obtain ⟨hc', _, w', p⟩ := p
    exact ⟨l, rfl, p.of_pur w'⟩
/-! ### truth -/
theorem ct_truth (hp : plainT e = true) (ha : CE C X W sc e ma) : CT X W e (fun env => bnd (ma env) truM) := by
  obtain ⟨ta, pa, _, ra⟩ := ha
  refine ⟨_, pt_truth pa (fun whole => plain_is hp whole), fun T hc H env σ Q w er h => ?_⟩
  exact read1 ra w er h fun d T1 hc1 H1 v e1 w1 er1 r1 h1 => post_tru w1 r1 h1
theorem ce_not (ha : CE C X W sc a ma) : CE C X W sc (.UnaryOp .Not a pos) (fun env => bnd (ma env) fun x => bnd (truM x) fun k => pur (.bl (!k))) := by
  obtain ⟨ta, pa, _, ra⟩ := ha
  refine ⟨_, pe_notT pa, OwnSt.no rfl, fun T hc H env σ Q w er h => ?_⟩
  refine read1 ra w er h fun d T1 hc1 H1 v e1 w1 er1 r1 h1 => ?_
  obtain ⟨k, t, hc', _, w', p⟩ := post_tru w1 r1 (Post.bind h1)
  exact ⟨k, t, p.of_pur w' _ (by simp only [Rep])⟩
theorem ct_not (ha : CT X W a (fun env => bnd (ma env) truM)) : CT X W (.UnaryOp .Not a pos) (fun env => bnd (bnd (ma env) fun x => bnd (truM x) fun k => pur (.bl (!k))) truM) := by
  obtain ⟨ta, pa, ra⟩ := ha
  refine ⟨_, pt_not pa, fun T hc H env σ Q w er h => ?_⟩
  have e : (bnd (bnd (ma env) fun x => bnd (truM x) fun k => pur (.bl (!k))) truM) = bnd (bnd (ma env) truM) fun k => pur (!k) := by
    rw [bnd_assoc, bnd_assoc]
    congr 1
    funext x
    rw [bnd_assoc]
    rfl
  dsimp only at h
  rw [e] at h
  exact ra T hc H env σ _ w er (Post.imp (Post.bind h) fun k T' H' e p => by
    obtain ⟨hc', _, w', p⟩ := p
    exact p.of_pur w')
theorem ce_neg (ha : CE C X W sc a ma) : CE C X W sc (.UnaryOp .USub a pos) (fun env => bnd (ma env) fun x => bnd (intM x) fun i => pur (.int (-i))) := by
  obtain ⟨ta, pa, _, ra⟩ := ha
  refine ⟨_, pe_un un_neg pa, OwnSt.no rfl, fun T hc H env σ Q w er h => ?_⟩
  refine read1 ra w er h fun d T1 hc1 H1 v e1 w1 er1 r1 h1 => ?_
  cases d <;> (try exact h1.elim)
  simp only [Rep] at r1
  exact ⟨_, r1, h1.of_pur w1 _ (by simp only [Rep])⟩
theorem ce_and {rest : List Expr} (ha : CE C X W sc a ma) (hb : CE C X W sc (.BoolOp .And (b :: rest) pos) mb) : CE C X W sc (.BoolOp .And (a :: b :: rest) pos) (fun env => bnd (ma env) fun x => bnd (truM x) fun k => if k = true then mb env else pur x) := by
  obtain ⟨ta, pa, _, ra⟩ := ha
  obtain ⟨tb, pb, _, rb⟩ := hb
  refine ⟨_, pe_andT pa pb, OwnSt.no rfl, fun T hc H env σ Q w er h => ?_⟩
  refine read1 ra w er h fun d T1 hc1 H1 v e1 w1 er1 r1 h1 => ?_
  obtain ⟨k, t, hc', e', w', p⟩ := post_tru w1 r1 (Post.bind h1)
  refine ⟨k, t, ?_⟩
  cases k with
  | true => exact rb _ _ _ env σ Q w' (er1.ext w1 e') p
  | false => exact p.of_pur w' _ (Rep.ext w1 e' _ _ r1)
theorem ce_or {rest : List Expr} (ha : CE C X W sc a ma) (hb : CE C X W sc (.BoolOp .Or (b :: rest) pos) mb) : CE C X W sc (.BoolOp .Or (a :: b :: rest) pos) (fun env => bnd (ma env) fun x => bnd (truM x) fun k => if k = true then pur x else mb env) := by
  obtain ⟨ta, pa, _, ra⟩ := ha
  obtain ⟨tb, pb, _, rb⟩ := hb
  refine ⟨_, pe_orT pa pb, OwnSt.no rfl, fun T hc H env σ Q w er h => ?_⟩
  refine read1 ra w er h fun d T1 hc1 H1 v e1 w1 er1 r1 h1 => ?_
  obtain ⟨k, t, hc', e', w', p⟩ := post_tru w1 r1 (Post.bind h1)
  refine ⟨k, t, ?_⟩
  cases k with
  | true => exact p.of_pur w' _ (Rep.ext w1 e' _ _ r1)
  | false => exact rb _ _ _ env σ Q w' (er1.ext w1 e') p
theorem ce_one {o : BoolOp} (ha : CE C X W sc a ma) : CE C X W sc (.BoolOp o [a] pos) ma := by
  obtain ⟨ta, pa, _, ra⟩ := ha
  exact ⟨_, pe_one pa, OwnSt.no rfl, ra⟩
theorem and_truth (m : M D) (n : M D) : bnd (bnd m fun x => bnd (truM x) fun k => if k = true then n else pur x) truM = bnd (bnd m truM) fun k => if k = true then bnd n truM else pur false := by
  rw [bnd_assoc, bnd_assoc]
  congr 1
  funext x
  rw [bnd_assoc]
  funext h
  unfold bnd
  cases q : truM x h with
  | ok k h' =>
    have e : h' = h := by
      cases x <;> simp only [truM, pur, Cl.guard, stuck] at q <;> (try (split at q)) <;> first | (cases q; rfl) | (cases q)
    subst e
    cases k with
    | true => rfl
    | false => simp only [Bool.false_eq_true, if_false, pur]; exact q
  | exc c fs h' => rfl
  | bad => rfl
theorem or_truth (m : M D) (n : M D) : bnd (bnd m fun x => bnd (truM x) fun k => if k = true then pur x else n) truM = bnd (bnd m truM) fun k => if k = true then pur true else bnd n truM := by
  rw [bnd_assoc, bnd_assoc]
  congr 1
  funext x
  rw [bnd_assoc]
  funext h
  unfold bnd
  cases q : truM x h with
  | ok k h' =>
    have e : h' = h := by
      cases x <;> simp only [truM, pur, Cl.guard, stuck] at q <;> (try (split at q)) <;> first | (cases q; rfl) | (cases q)
    subst e
    cases k with
    | false => rfl
    | true => simp only [if_true, pur]; exact q
  | exc c fs h' => rfl
  | bad => rfl
theorem cw_one {o : BoolOp} (ha : CT X W a (fun env => bnd (ma env) truM)) : CW X W (.BoolOp o [a] pos) (fun env => bnd (ma env) truM) := by
  obtain ⟨ta, pa, ra⟩ := ha
  cases o with
  | And => exact ⟨_, pw_and1 pa, ra⟩
  | Or => exact ⟨_, pw_or1 pa, ra⟩
theorem cw_and {rest : List Expr} (ha : CT X W a (fun env => bnd (ma env) truM)) (hb : CW X W (.BoolOp .And (b :: rest) pos) (fun env => bnd (mb env) truM)) :
    CW X W (.BoolOp .And (a :: b :: rest) pos) (fun env => bnd (bnd (ma env) fun x => bnd (truM x) fun k => if k = true then mb env else pur x) truM) := by
  obtain ⟨ta, pa, ra⟩ := ha
  obtain ⟨tb, pb, rb⟩ := hb
  refine ⟨_, pw_and pa pb, fun T hc H env σ Q w er h => ?_⟩
  dsimp only at h
  rw [and_truth] at h
  refine ra T hc H env σ _ w er (Post.imp (Post.bind h) fun k T' H' e p => ?_)
  obtain ⟨hc', e', w', p⟩ := p
  cases k with
  | true => exact rb _ _ _ env σ Q w' (er.ext w e') p
  | false => exact p.of_pur w'
theorem cw_or {rest : List Expr} (ha : CT X W a (fun env => bnd (ma env) truM)) (hb : CW X W (.BoolOp .Or (b :: rest) pos) (fun env => bnd (mb env) truM)) :
    CW X W (.BoolOp .Or (a :: b :: rest) pos) (fun env => bnd (bnd (ma env) fun x => bnd (truM x) fun k => if k = true then pur x else mb env) truM) := by
  obtain ⟨ta, pa, ra⟩ := ha
  obtain ⟨tb, pb, rb⟩ := hb
  refine ⟨_, pw_or pa pb, fun T hc H env σ Q w er h => ?_⟩
  dsimp only at h
  rw [or_truth] at h
  refine ra T hc H env σ _ w er (Post.imp (Post.bind h) fun k T' H' e p => ?_)
  obtain ⟨hc', e', w', p⟩ := p
  cases k with
  | true => exact p.of_pur w'
  | false => exact rb _ _ _ env σ Q w' (er.ext w e') p
theorem CW.ct {m : Env → M Bool} (h : CW X W e m) : CT X W e m := by
  obtain ⟨t, p, r⟩ := h
  exact ⟨t, p.pt, r⟩
theorem ce_ite {mt : Env → M D} (ht : CT X W c (fun env => bnd (mt env) truM)) (ha : CE C X W sc a ma) (hb : CE C X W sc b mb) :
    CE C X W sc (.IfExp c a b pos) (fun env => bnd (mt env) fun x => bnd (truM x) fun k => if k = true then ma env else mb env) := by
  obtain ⟨tt, pt, rt⟩ := ht
  obtain ⟨ta, pa, _, ra⟩ := ha
  obtain ⟨tb, pb, _, rb⟩ := hb
  refine ⟨_, pe_ifExp pt pa pb, OwnSt.no rfl, fun T hc H env σ Q w er h => ?_⟩
  dsimp only at h
  rw [← bnd_assoc] at h
  refine rt T hc H env σ _ w er (Post.imp (Post.bind h) fun k T' H' e p => ?_)
  obtain ⟨hc', e', w', p⟩ := p
  cases k with
  | true => exact ra _ _ _ env σ Q w' (er.ext w e') p
  | false => exact rb _ _ _ env σ Q w' (er.ext w e') p
/-- a if t else b, as a test -/
theorem pt_ifExp {tc ta tb : TT} (hc : PT X c tc) (ha : PT X a ta) (hb : PT X b tb) : PT X (.IfExp c a b pos) (fun σ H Q => tc σ H fun k H1 => if k = true then ta σ H1 Q else tb σ H1 Q) := by
  refine ⟨fun pins s σ H Q I h => ?_⟩
  show wpAny _ _ (do if ← isTrue c X.env (eval c X.env) then isTrue a X.env (eval a X.env) else isTrue b X.env (eval b X.env)) _ _ _
  refine wpAny_bind ?_
  refine thn (hc.run pins s σ H _ I h) fun k s' p => ?_
  obtain ⟨H', I', q⟩ := p
  cases k with
  | true => exact ha.run pins s' σ H' Q I' q
  | false => exact hb.run pins s' σ H' Q I' q
theorem ct_ite {mt : Env → M D} (ht : CT X W c (fun env => bnd (mt env) truM)) (ha : CT X W a (fun env => bnd (ma env) truM)) (hb : CT X W b (fun env => bnd (mb env) truM)) :
    CT X W (.IfExp c a b pos) (fun env => bnd (bnd (mt env) fun x => bnd (truM x) fun k => if k = true then ma env else mb env) truM) := by
  obtain ⟨tt, pt, rt⟩ := ht
  obtain ⟨ta, pa, ra⟩ := ha
  obtain ⟨tb, pb, rb⟩ := hb
  refine ⟨_, pt_ifExp pt pa pb, fun T hc H env σ Q w er h => ?_⟩
  have e : (bnd (bnd (mt env) fun x => bnd (truM x) fun k => if k = true then ma env else mb env) truM) = bnd (bnd (mt env) truM) fun k => if k = true then bnd (ma env) truM else bnd (mb env) truM := by
    rw [bnd_assoc, bnd_assoc]
    congr 1
    funext x
    rw [bnd_assoc]
    congr 1
    funext k
    cases k <;> rfl
  dsimp only at h
  rw [e] at h
  refine rt T hc H env σ _ w er (Post.imp (Post.bind h) fun k T' H' e p => ?_)
  obtain ⟨hc', e', w', p⟩ := p
  cases k with
  | true => exact ra _ _ _ env σ Q w' (er.ext w e') p
  | false => exact rb _ _ _ env σ Q w' (er.ext w e') p
end
end Cl
/-! More rules for expressions: tuples, places, slices, calls, built-ins, lists that change. -/
namespace Cl
open PySem PySem.Spec PyProof.Rows L2
section
variable {C : Ck} {G : Gt} {Cs : List D} {k : Nat} {X : Cx} {W : WX} {sc : Scope} {pos : Pos}
variable {a b c e : Expr} {ma mb mc : Env → M D} {es : List Expr} {mA : Env → M (List D)}
theorem ca_nil : CA X W [] (fun _ => pur []) := ⟨_, pa_nil, fun T hc H env σ Q w er h => h.of_pur w _ RepL.nil⟩
theorem ca_cons (hs : isStar a = false) (ha : CE C X W sc a ma) (hr : CA X W es mA) : CA X W (a :: es) (fun env => bnd (ma env) fun x => bnd (mA env) fun xs => pur (x :: xs)) := by
  obtain ⟨ta, pa, _, ra⟩ := ha
  obtain ⟨tr, pr, rr⟩ := hr
  refine ⟨_, pa_cons pa pr (star1 hs), fun T hc H env σ Q w er h => ?_⟩
  refine read1 ra w er h fun d T1 hc1 H1 v e1 w1 er1 r1 h1 => ?_
  refine rr T1 hc1 H1 env σ _ w1 er1 (Post.imp (Post.bind h1) fun ds T2 H2 e2 p vs r2 => ?_)
  obtain ⟨hc2, _, w2, p⟩ := p
  exact p.of_pur w2 _ (RepL.cons (Rep.ext w1 e2 _ _ r1) r2)
/-- arguments first, then what follows -/
theorem readA {tA : TA} {β : Type} {f : List D → M β} {okQ : β → Tk → Hp → Prop} {R : List V → Hp → Prop}
    (ra : ∀ T hc H env σ (Q : List V → Hp → Prop), Wd X.K T hc H → EnvR X.K T H env σ → Post X.K T H (fun d T' H' => ∀ v, RepL X.K T' H' d v → Q v H') (WE W σ) (mA env hc) → tA σ H Q)
    {T : Tk} {hc : Hc} {H : Hp} {env : Env} {σ : L2.St} (w : Wd X.K T hc H) (er : EnvR X.K T H env σ) (h : Post X.K T H okQ (WE W σ) (bnd (mA env) f hc))
    (n : ∀ d T1 hc1 H1 v, Ext T H T1 H1 → Wd X.K T1 hc1 H1 → EnvR X.K T1 H1 env σ → RepL X.K T1 H1 d v → Post X.K T1 H1 okQ (WE W σ) (f d hc1) → R v H1) : tA σ H R :=
  ra T hc H env σ R w er (Post.imp (Post.bind h) fun d T1 H1 e p v r => by
    obtain ⟨hc1, _, w1, h1⟩ := p
    exact n d T1 hc1 H1 v e w1 (er.ext w e) r h1)
theorem ce_tup {x1 : Nat} (hr : CA X W es mA) : CE C X W sc (.Tuple es x1 pos) (fun env => bnd (mA env) fun xs => guard (xs.length ≤ sizeLine) (pur (.tup xs))) := by
  obtain ⟨tr, pr, rr⟩ := hr
  refine ⟨_, pe_tup pr, OwnSt.no rfl, fun T hc H env σ Q w er h => ?_⟩
  refine readA rr w er h fun ds T1 hc1 H1 vs e1 w1 er1 r1 h1 => ?_
  obtain ⟨c, h1⟩ := Post.of_guard h1
  have l := r1.length
  refine ⟨by omega, fun p hp => ?_⟩
  exact h1 T1 _ (Ext.upd_new hp) (w1.upd_new hp) _ (rep_new_tup w1 hp r1 (by omega))
theorem cn_lst (hr : CA X W es mA) : CN C X W sc (.List es pos) (fun env => bnd (mA env) fun xs => guard (xs.length ≤ sizeLine) (pur xs)) := by
  obtain ⟨tr, pr, rr⟩ := hr
  refine ⟨_, pe_lst pr, OwnSt.no rfl, fun T hc H env σ Q w er h => ?_⟩
  refine readA rr w er h fun ds T1 hc1 H1 vs e1 w1 er1 r1 h1 => ?_
  obtain ⟨c, h1⟩ := Post.of_guard h1
  have l := r1.length
  exact ⟨by omega, fun p hp => h1.of_pur w1 p vs hp r1 (by omega)⟩
/-- a new list as a value that nobody changes -/
theorem ce_fl {m : Env → M (List D)} (h : CN C X W sc e m) : CE C X W sc e (fun env => bnd (m env) fun xs => pur (.fl xs)) := by
  obtain ⟨t, p, o, r⟩ := h
  refine ⟨t, p, o, fun T hc H env σ Q w er h => ?_⟩
  refine r T hc H env σ Q w er (Post.imp (Post.bind h) fun ds T1 H1 e1 p q vs hq rr l => ?_)
  obtain ⟨hc1, _, w1, h1⟩ := p
  exact h1 T1 _ (Ext.upd_new hq) (w1.upd_new hq) _ (rep_new_fl w1 hq rr l)
/-- .. that will change -/
theorem ce_trk {m : Env → M (List D)} (h : CN C X W sc e m) : CE C X W sc e (fun env => bnd (m env) fun xs h => .ok (.ref h.length) (h ++ [.lst xs])) := by
  obtain ⟨t, p, o, r⟩ := h
  refine ⟨t, p, o, fun T hc H env σ Q w er h => ?_⟩
  refine r T hc H env σ Q w er (Post.imp (Post.bind h) fun ds T1 H1 e1 p q vs hq rr l => ?_)
  obtain ⟨hc1, _, w1, h1⟩ := p
  have e2 : ExtG T1 H1 (T1.snoc q) (upd H1 q (.lst vs)) := by
    refine ⟨⟨[q], rfl⟩, fun b hb => .inl hb, rfl, fun b x h _ => by rw [upd_ne (ne_of_none h hq)]; exact h, fun b hb => ?_⟩
    rcases List.mem_append.mp hb with z | z
    · exact .inl z
    · rw [List.mem_singleton] at z; subst z; exact .inr hq
  obtain ⟨w2, e3⟩ := w1.snoc (oc := .lst ds) hq ⟨vs, upd_same, l, RepL.extG w1 e2 _ _ rr⟩
  refine h1 _ _ e3 w2 _ ?_
  simp only [Rep]
  exact ⟨q, rfl, by show (T1.ρ ++ [q])[hc1.length]? = some q; rw [← w1.len, List.getElem?_append_right (Nat.le_refl _)]; simp⟩
/-! ### places, slices -/
theorem atI_rep {K : PySem.W.Frag} {T : Tk} {H : Hp} {xs : List D} {vs : List V} (r : RepL K T H xs vs) {i : Int} {d : D} (h : atI xs i = some d) : ∃ v, atI vs i = some v ∧ Rep K T H d v := by
  have l := r.length
  unfold atI at h ⊢
  rw [l]
  cases q : ixN xs.length i with
  | none => rw [q] at h; cases h
  | some j =>
    rw [q] at h
    exact r.get h
theorem post_idx {K : PySem.W.Frag} {T : Tk} {H : Hp} {hc : Hc} {exP : XK} {d d' : D} {v u : V} {Q : VK} (w : Wd K T hc H) (r : Rep K T H d v) (r' : Rep K T H d' u) (h : Post K T H (fun d T' H' => ∀ v, Rep K T' H' d v → Q v H') exP (idxM d d' hc)) : rIx K v u H Q := by
  have seq : ∀ i : Int, d' = .int i → Post K T H (fun d T' H' => ∀ v, Rep K T' H' d v → Q v H') exP (bnd (seqM d) (fun xs => optM (atI xs i)) hc) → rIx K v u H Q := fun i ei h2 => by
    rw [ei] at r'
    obtain ⟨xs, p, vs, e, s, sl, st, l, rr, h, _⟩ := post_seq w r h2
    simp only [Rep] at r'
    obtain ⟨x, hx, q⟩ := Post.of_opt h w
    obtain ⟨z, hz, rz⟩ := atI_rep rr hx
    rcases s with s | s
    · exact .inl ⟨p, vs, i, z, e, r', s, hz, q z rz⟩
    · exact .inr (.inl ⟨p, vs, i, z, e, r', s, hz, q z rz⟩)
  unfold idxM at h
  split at h
  · next z i =>
    simp only [Rep] at r r'
    obtain ⟨c, h⟩ := Post.of_guard h
    cases q : atI z.cps.toList i with
    | none => rw [q] at h; exact h.elim
    | some cc =>
      rw [q] at h
      exact .inr (.inr ⟨z, i, cc, r, r', c, q, h.of_pur w _ (by simp only [Rep])⟩)
  · next d i _ => exact seq i rfl h
  · exact h.elim
theorem ce_idx (hs : notSlice b = true) (ha : CE C X W sc a ma) (hb : CE C X W sc b mb) : CE C X W sc (.Subscript a b pos) (fun env => bnd (ma env) fun x => bnd (mb env) fun y => idxM x y) :=
  ce_op2 (te := fun a b => a) rfl (fun ta tb pa pb => pe_ix ix_seq pa pb (slice_no hs)) ha hb fun T hc H d d' v u E Q w r1 r2 h => post_idx w r1 r2 h
theorem co_none : CO X W none (fun _ => pur none) := ⟨_, po_none, fun T hc H env σ Q w er h => h.of_pur w⟩
theorem co_some (ha : CE C X W sc a ma) : CO X W (some a) (fun env => bnd (ma env) fun x => bnd (intM x) fun i => pur (some i)) := by
  obtain ⟨ta, pa, _, ra⟩ := ha
  refine ⟨_, po_some pa, fun T hc H env σ Q w er h => ?_⟩
  refine read1 ra w er h fun d T1 hc1 H1 v e1 w1 er1 r1 h1 => ?_
  cases d <;> (try exact h1.elim)
  simp only [Rep] at r1
  exact ⟨_, r1, h1.of_pur w1⟩
theorem cut_rep {K : PySem.W.Frag} {T : Tk} {H : Hp} {xs : List D} {vs : List V} (r : RepL K T H xs vs) (lo hi : Option Int) : RepL K T H (cutD xs lo hi) (cutV vs lo hi) := by
  have l := r.length
  unfold cutD cutV
  rw [l]
  exact (r.drop _).take _
theorem ce_slc {lo hi : Option Expr} {p2 : Pos} {ml mu : Env → M (Option Int)} (ha : CE C X W sc a ma) (hl : CO X W lo ml) (hu : CO X W hi mu) :
    CE C X W sc (.Subscript a (.Slice lo hi none p2) pos) (fun env => bnd (ma env) fun x => bnd (ml env) fun l => bnd (mu env) fun u => slcM x l u) := by
  obtain ⟨ta, pa, _, ra⟩ := ha
  obtain ⟨tl, pl, rl⟩ := hl
  obtain ⟨tu, pu, ru⟩ := hu
  refine ⟨_, pe_slice (SlR.or sl_tupA sl_str) pa pl pu, OwnSt.no rfl, fun T hc H env σ Q w er h => ?_⟩
  refine read1 ra w er h fun d T1 hc1 H1 v e1 w1 er1 r1 h1 => ?_
  refine rl _ _ _ env σ _ w1 er1 (Post.imp (Post.bind h1) fun l T2 H2 e2 p => ?_)
  obtain ⟨hc2, _, w2, h2⟩ := p
  refine ru _ _ _ env σ _ w2 (er1.ext w1 e2) (Post.imp (Post.bind h2) fun u T3 H3 e3 p => ?_)
  obtain ⟨hc3, _, w3, h3⟩ := p
  have r3 := Rep.ext w2 e3 _ _ (Rep.ext w1 e2 _ _ r1)
  cases d <;> (try exact h3.elim)
  · next z =>
    simp only [Rep] at r3
    obtain ⟨c, h3⟩ := Post.of_guard h3
    exact .inr ⟨z, r3, c, h3.of_pur w3 _ (by simp only [Rep])⟩
  · next xs =>
    simp only [Rep] at r3
    obtain ⟨q, vs, ev, s, ll, rr⟩ := r3
    refine .inl ⟨q, vs, ev, s, fun z => ?_, fun z p hp => ?_⟩
    · refine h3.of_pur w3 _ ?_
      have ec : cutD xs l u = xs := by
        unfold cutD
        rw [← rr.length, z.1, z.2, List.drop_zero, Nat.sub_zero, rr.length, List.take_length]
      rw [ec]
      simp only [Rep]
      exact ⟨q, vs, rfl, s, ll, rr⟩
    · exact h3 T3 _ (Ext.upd_new hp) (w3.upd_new hp) _ (rep_new_tup w3 hp (cut_rep rr _ _) (Nat.le_trans (cutV_length _ _ _) ll))
theorem cn_slc {lo hi : Option Expr} {p2 : Pos} {ml mu : Env → M (Option Int)} (ha : CE C X W sc a ma) (hl : CO X W lo ml) (hu : CO X W hi mu) :
    CN C X W sc (.Subscript a (.Slice lo hi none p2) pos) (fun env => bnd (ma env) fun x => bnd (ml env) fun l => bnd (mu env) fun u => match x with
      | .tup _ => stuck
      | x => bnd (seqM x) fun xs => pur (cutD xs l u)) := by
  obtain ⟨ta, pa, _, ra⟩ := ha
  obtain ⟨tl, pl, rl⟩ := hl
  obtain ⟨tu, pu, ru⟩ := hu
  refine ⟨_, pe_slice sl_list pa pl pu, OwnSt.no rfl, fun T hc H env σ Q w er h => ?_⟩
  refine read1 ra w er h fun d T1 hc1 H1 v e1 w1 er1 r1 h1 => ?_
  refine rl _ _ _ env σ _ w1 er1 (Post.imp (Post.bind h1) fun l T2 H2 e2 p => ?_)
  obtain ⟨hc2, _, w2, h2⟩ := p
  refine ru _ _ _ env σ _ w2 (er1.ext w1 e2) (Post.imp (Post.bind h2) fun u T3 H3 e3 p => ?_)
  obtain ⟨hc3, _, w3, h3⟩ := p
  have r3 := Rep.ext w2 e3 _ _ (Rep.ext w1 e2 _ _ r1)
  have key : (∀ ys, d ≠ .tup ys) → Post X.K T3 H3 (fun ds T' H' => ∀ p vs, H' p = none → RepL X.K T' H' ds vs → vs.length ≤ sizeLine → Q (.ref p) (upd H' p (.lst vs))) (WE W σ) (bnd (seqM d) (fun xs => pur (cutD xs l u)) hc3) → rSlL X.K v l u H3 Q := fun nt h3 => by
    obtain ⟨xs, p, vs, ev, s, sl, st, ll, rr, h4, _⟩ := post_seq w3 r3 h3
    exact ⟨p, vs, ev, sl nt, fun q hq => h4.of_pur w3 q _ hq (cut_rep rr l u) (Nat.le_trans (cutV_length _ _ _) ll)⟩
  cases d with
  | tup ys => exact h3.elim
  | _ => exact key (fun ys z => by cases z) h3
/-! ### calls of defs -/
theorem ce_call (g : Gd C G Cs k X W sc) {f : Nat} {x : Str} {p : Pos} (hf : C.cm = true ∧ C.fs[f]? = some x) (hv : glB sc x = true) (ho : okName x = true) (hs : ∀ y ∈ a :: es, isStar y = false) (hA : CA X W (a :: es) mA) :
    CE C X W sc (.Call (.Name x p) (a :: es) [] pos) (fun env => match G.tab[f]? with
      | some g => bnd (mA env) g
      | none => stuck) := by
  obtain ⟨tA, pA, rA⟩ := hA
  cases q : G.tab[f]? with
  | none => exact ⟨fun _ _ _ => False, ⟨fun pins s σ H Q I h => h.elim⟩, OwnSt.no rfl, fun T hc H env σ Q w er h => h.elim⟩
  | some gg =>
    obtain ⟨y, hy, ff, fd, ps, F, hm, kp, bd⟩ := g.fs f gg q
    rw [hf.2] at hy; cases hy
    refine ⟨_, pe_callS F (g.rm hf.1) (g.gl hv) hm kp bd (fun σ => passAt g.tk σ) pA (okName_d ho).1 (star1 (hs a List.mem_cons_self)) (starAll fun y hy => hs y (List.mem_cons_of_mem _ hy)), OwnSt.no rfl, fun T hc H env σ Q w er h => ?_⟩
    exact readA rA w er h fun ds T1 hc1 H1 vs e1 w1 er1 r1 h1 => ⟨T1, hc1, ds, w1, r1, h1⟩
end
end Cl
/-! sum, min, max of tuples of ints. -/
namespace Cl
open PySem PySem.Spec PyProof.Rows L2
section
variable {prog : Program} {w : World} {A : Around} {E : Value → Shared → Prop} {s : Shared} {t : Addr}
theorem min_tup_raw {xs : Array (Int × Tok)} {Q : Value → Shared → Prop} (hh : A.handled = none) (ht : s.heap.IsTuple t (intItems xs)) (hne : 0 < xs.size)
    (h : ∀ v h' tk, (intItems xs)[argBest (fun i j => decide (numAt xs i < numAt xs j)) (xs.size - 1)]? = some v → (∀ b o, s.heap.get? b = some o → h'.get? b = some o) → Q v { s with heap := h', toks := tk }) :
    wpAny (model prog w) A (call (.builtin "min") [.ref t]) Q E s := by
  obtain ⟨o, ho, hc, n, hd⟩ := id ht
  have hnt : t ≠ s.heap.objs.size := Nat.ne_of_lt (Heap.lt_size ho)
  have hsz : (intItems xs).size = xs.size := by simp [intItems]
  have W := (Walks.tuple (prog := prog) (w := w) (A := A.in1) hh s.heap.objs.size t hnt (intItems xs)).toS
  rw [hsz] at W
  refine call_min_walkS (wpAny_pyIter_tuple ht ?_)
  refine ⟨s.heap.objs.size, _, _, _, _, _, _, _, rfl, W, ⟨⟨_, Heap.get?_push_size _ rfl, rfl, rfl⟩, ht.at fun o e => Heap.get?_push_of_some _ e⟩, fun b hb => ?_, hne, CmpOf.ints_lt (numAt xs) (fun i v hP => intItems_at hP), fun v s' hP hm => ?_⟩
  · rcases List.mem_cons.mp hb with rfl | hb
    · exact Heap.lt_size (Heap.get?_push_size _ rfl)
    · obtain rfl := List.mem_singleton.mp hb
      exact Heap.lt_size (Heap.get?_push_of_some _ ho)
  · obtain ⟨h', g', d', tk', os'⟩ := s'
    have e1 : g' = s.gens := hm.gens
    have e2 : d' = s.drawn := hm.drawn
    have e3 : os' = s.os := hm.os
    subst e1 e2 e3
    exact h v h' tk' hP fun b o e => hm.heap b o (fun hb => absurd (Heap.lt_size e) ((List.mem_singleton.mp hb) ▸ Nat.lt_irrefl _)) (Heap.get?_push_of_some _ e)
theorem max_tup_raw {xs : Array (Int × Tok)} {Q : Value → Shared → Prop} (hh : A.handled = none) (ht : s.heap.IsTuple t (intItems xs)) (hne : 0 < xs.size)
    (h : ∀ v h' tk, (intItems xs)[argBest (fun i j => decide (numAt xs i > numAt xs j)) (xs.size - 1)]? = some v → (∀ b o, s.heap.get? b = some o → h'.get? b = some o) → Q v { s with heap := h', toks := tk }) :
    wpAny (model prog w) A (call (.builtin "max") [.ref t]) Q E s := by
  obtain ⟨o, ho, hc, n, hd⟩ := id ht
  have hnt : t ≠ s.heap.objs.size := Nat.ne_of_lt (Heap.lt_size ho)
  have hsz : (intItems xs).size = xs.size := by simp [intItems]
  have W := (Walks.tuple (prog := prog) (w := w) (A := A.in1) hh s.heap.objs.size t hnt (intItems xs)).toS
  rw [hsz] at W
  refine call_max_walkS (wpAny_pyIter_tuple ht ?_)
  refine ⟨s.heap.objs.size, _, _, _, _, _, _, _, rfl, W, ⟨⟨_, Heap.get?_push_size _ rfl, rfl, rfl⟩, ht.at fun o e => Heap.get?_push_of_some _ e⟩, fun b hb => ?_, hne, CmpOf.ints_gt (numAt xs) (fun i v hP => intItems_at hP), fun v s' hP hm => ?_⟩
  · rcases List.mem_cons.mp hb with rfl | hb
    · exact Heap.lt_size (Heap.get?_push_size _ rfl)
    · obtain rfl := List.mem_singleton.mp hb
      exact Heap.lt_size (Heap.get?_push_of_some _ ho)
  · obtain ⟨h', g', d', tk', os'⟩ := s'
    have e1 : g' = s.gens := hm.gens
    have e2 : d' = s.drawn := hm.drawn
    have e3 : os' = s.os := hm.os
    subst e1 e2 e3
    exact h v h' tk' hP fun b o e => hm.heap b o (fun hb => absurd (Heap.lt_size e) ((List.mem_singleton.mp hb) ▸ Nat.lt_irrefl _)) (Heap.get?_push_of_some _ e)
end
section
variable {X : Cx}
def rSumT (K : PySem.W.Frag) : List V → Hp → VK → Prop := fun vs H Q => ∃ (a : Addr) (ns : List Int), vs = [V.ref a] ∧ SqT K H a (ns.map V.int) ∧ Q (.int ns.sum) H
def rMinT (K : PySem.W.Frag) : List V → Hp → VK → Prop := fun vs H Q => ∃ (a : Addr) (ns : List Int), vs = [V.ref a] ∧ SqT K H a (ns.map V.int) ∧ 0 < ns.length ∧ ∀ m, m ∈ ns → (∀ y, y ∈ ns → m ≤ y) → Q (.int m) H
def rMaxT (K : PySem.W.Frag) : List V → Hp → VK → Prop := fun vs H Q => ∃ (a : Addr) (ns : List Int), vs = [V.ref a] ∧ SqT K H a (ns.map V.int) ∧ 0 < ns.length ∧ ∀ m, m ∈ ns → (∀ y, y ∈ ns → y ≤ m) → Q (.int m) H
theorem cr_sumT (hc : X.calm = true) : CallR X (.builtin "sum") (rSumT X.K) := by
  intro pins s σ H vs us Q I r h
  obtain ⟨a, ns, rfl, hs, q⟩ := h
  obtain ⟨its, rv, ⟨o, ho, hcl, n, hd⟩, _⟩ := I.tuple hs
  rw [Vals.ref1 r]
  have hi : IntsAre its ns := rv.ints
  obtain ⟨xs, e⟩ := hi.allInts.items
  have hn : numsOf (intItems xs).toList = ns := by rw [← e]; exact hi.numsOf
  rw [nums_intItems] at hn
  rw [e] at hd
  refine PySem.W.ktm_sumG (I.ok.hd hc) ⟨o, ho, hcl, n, hd⟩ fun h' tk t' hk => ?_
  rw [preSum_eq, List.take_of_length_le (by simp), hn]
  exact ⟨.int _, H, I.kept hk, ⟨_, rfl⟩, q⟩
theorem cr_minT (hc : X.calm = true) : CallR X (.builtin "min") (rMinT X.K) := by
  intro pins s σ H vs us Q I r h
  obtain ⟨a, ns, rfl, hs, hne, q⟩ := h
  obtain ⟨its, rv, ⟨o, ho, hcl, n, hd⟩, _⟩ := I.tuple hs
  rw [Vals.ref1 r]
  have hi : IntsAre its ns := rv.ints
  obtain ⟨xs, e⟩ := hi.allInts.items
  have hn : numsOf (intItems xs).toList = ns := by rw [← e]; exact hi.numsOf
  rw [nums_intItems] at hn
  subst hn
  rw [e] at hd
  have hsz : 0 < xs.size := by simpa using hne
  refine min_tup_raw (I.ok.hd hc) ⟨o, ho, hcl, n, hd⟩ hsz fun v h' tk hv hk => ?_
  obtain ⟨t, rfl⟩ := intItems_at hv
  obtain ⟨h1, h2⟩ := argBest_lt (numAt xs) (xs.size - 1)
  refine ⟨.int _, H, I.kept hk, ⟨_, rfl⟩, q _ ?_ fun a ha => ?_⟩
  · rw [numAt_eq]; exact PySem.getD_mem (by rw [List.length_map, Array.length_toList]; omega)
  · obtain ⟨j, hj, rfl⟩ := mem_getD ha
    rw [List.length_map, Array.length_toList] at hj
    rw [← numAt_eq]; exact h2 j (by omega)
theorem cr_maxT (hc : X.calm = true) : CallR X (.builtin "max") (rMaxT X.K) := by
  intro pins s σ H vs us Q I r h
  obtain ⟨a, ns, rfl, hs, hne, q⟩ := h
  obtain ⟨its, rv, ⟨o, ho, hcl, n, hd⟩, _⟩ := I.tuple hs
  rw [Vals.ref1 r]
  have hi : IntsAre its ns := rv.ints
  obtain ⟨xs, e⟩ := hi.allInts.items
  have hn : numsOf (intItems xs).toList = ns := by rw [← e]; exact hi.numsOf
  rw [nums_intItems] at hn
  subst hn
  rw [e] at hd
  have hsz : 0 < xs.size := by simpa using hne
  refine max_tup_raw (I.ok.hd hc) ⟨o, ho, hcl, n, hd⟩ hsz fun v h' tk hv hk => ?_
  obtain ⟨t, rfl⟩ := intItems_at hv
  obtain ⟨h1, h2⟩ := argBest_gt (numAt xs) (xs.size - 1)
  refine ⟨.int _, H, I.kept hk, ⟨_, rfl⟩, q _ ?_ fun a ha => ?_⟩
  · rw [numAt_eq]; exact PySem.getD_mem (by rw [List.length_map, Array.length_toList]; omega)
  · obtain ⟨j, hj, rfl⟩ := mem_getD ha
    rw [List.length_map, Array.length_toList] at hj
    rw [← numAt_eq]; exact h2 j (by omega)
end
end Cl
/-! Built-in functions, isinstance, lists that change. -/
namespace Cl
open PySem PySem.Spec PyProof.Rows L2
/-! ### built-in functions of values -/
def rBi (K : PySem.W.Frag) : Bi → List V → Hp → VK → Prop
  | .len => fun xs H Q => (∃ x n, xs = [x] ∧ LenV K x H n ∧ Q (.int n) H) ∨ (∃ a kvs, xs = [.ref a] ∧ H a = some (.dK kvs) ∧ Q (.int kvs.length) H)
  | .abs => fun xs H Q => ∃ i, xs = [.int i] ∧ Q (.int (if i < 0 then -i else i)) H
  | .min2 => fun xs H Q => ∃ i j, xs = [.int i, .int j] ∧ Q (.int (if j < i then j else i)) H
  | .max2 => fun xs H Q => ∃ i j, xs = [.int i, .int j] ∧ Q (.int (if j > i then j else i)) H
  | .minL => fun xs H Q => rMin K xs H Q ∨ rMinT K xs H Q
  | .maxL => fun xs H Q => rMax K xs H Q ∨ rMaxT K xs H Q
  | .sum => fun xs H Q => rSum K xs H Q ∨ rSumT K xs H Q
  | .all => rAll K
  | .any => rAny K
  | .int => fun xs H Q => (∃ i, xs = [.int i] ∧ Q (.int i) H) ∨ ∃ k, xs = [.bl k] ∧ Q (.int (if k then 1 else 0)) H
  | .bool => fun xs H Q => (∃ i, xs = [.int i] ∧ Q (.bl (i != 0)) H) ∨ ∃ k, xs = [.bl k] ∧ Q (.bl k) H
  | .str => fun xs H Q => ∃ i : Int, xs = [.int i] ∧ i.natAbs.log2 < 1920 ∧ Q (.str (toString i : String)) H
  | .tuple => fun xs H Q => ∃ p ys, xs = [.ref p] ∧ ((SqL K H p ys ∧ ∀ l, H l = none → Q (.ref l) (upd H l (.tup ys))) ∨ (SqT K H p ys ∧ Q (.ref p) H))
  | .ord => fun xs H Q => ∃ x, xs = [.str x] ∧ x.length = 1 ∧ Q (.int (x.cps.getD 0 0 : Nat)) H
  | .chr => fun xs H Q => ∃ i, xs = [.int i] ∧ 0 ≤ i ∧ i ≤ 1114111 ∧ Q (.str ⟨#[i.toNat]⟩) H
theorem call_lenDk {X : Cx} : CallR X (.builtin "len") (fun xs H Q => ∃ a kvs, xs = [V.ref a] ∧ H a = some (.dK kvs) ∧ Q (.int kvs.length) H) := call_lenD
/-- the rule for a call by the built-in's name -/
theorem pe_bi {X : Cx} (hcalm : X.calm = true) (nb : ∀ x ∈ bNames, X.mg x = none) (f : Bi) {p pos : Pos} {e : Expr} {es : List Expr} {t : TA} (hg : Gl X (biName f)) (ha : PA X (e :: es) t) (hs : ∀ y ∈ e :: es, isStar y = false) :
    PE X (.Call (.Name (biName f) p) (e :: es) [] pos) (tCB (rBi X.K f) t) := by
  have h1 := star1 (es := es) (env := X.env) (hs e List.mem_cons_self)
  have h2 := starAll (pos := pos) (env := X.env) fun y hy => hs y (List.mem_cons_of_mem _ hy)
  cases f with
  | len => exact pe_callB (CallR.or call_len call_lenDk) hg (nb _ (by decide +kernel)) PySem.boot_len ha (by decide +kernel) (by decide +kernel) h1 h2
  | abs => exact pe_callB call_abs hg (nb _ (by decide +kernel)) boot_abs ha (by decide +kernel) (by decide +kernel) h1 h2
  | min2 => exact pe_callB (call_min2 hcalm) hg (nb _ (by decide +kernel)) boot_min ha (by decide +kernel) (by decide +kernel) h1 h2
  | max2 => exact pe_callB (call_max2 hcalm) hg (nb _ (by decide +kernel)) boot_max ha (by decide +kernel) (by decide +kernel) h1 h2
  | minL => exact pe_callB (CallR.or (cr_min hcalm) (cr_minT hcalm)) hg (nb _ (by decide +kernel)) boot_min ha (by decide +kernel) (by decide +kernel) h1 h2
  | maxL => exact pe_callB (CallR.or (cr_max hcalm) (cr_maxT hcalm)) hg (nb _ (by decide +kernel)) boot_max ha (by decide +kernel) (by decide +kernel) h1 h2
  | sum => exact pe_callB (CallR.or (cr_sum hcalm) (cr_sumT hcalm)) hg (nb _ (by decide +kernel)) (by decide +kernel) ha (by decide +kernel) (by decide +kernel) h1 h2
  | all => exact pe_callB (cr_all hcalm) hg (nb _ (by decide +kernel)) (by decide +kernel) ha (by decide +kernel) (by decide +kernel) h1 h2
  | any => exact pe_callB (cr_any hcalm) hg (nb _ (by decide +kernel)) (by decide +kernel) ha (by decide +kernel) (by decide +kernel) h1 h2
  | int => exact pe_callTy call_int1 hg (nb _ (by decide +kernel)) boot_int ha (by decide +kernel) (by decide +kernel) h1 h2
  | str => exact pe_callTy call_str_int hg (nb _ (by decide +kernel)) boot_str ha (by decide +kernel) (by decide +kernel) h1 h2
  | bool => exact pe_callTy call_bool1 hg (nb _ (by decide +kernel)) boot_bool ha (by decide +kernel) (by decide +kernel) h1 h2
  | tuple => exact pe_callTy call_tuple_of hg (nb _ (by decide +kernel)) boot_tuple ha (by decide +kernel) (by decide +kernel) h1 h2
  | ord => exact pe_callB call_ord hg (nb _ (by decide +kernel)) boot_ord ha (by decide +kernel) (by decide +kernel) h1 h2
  | chr => exact pe_callB call_chr hg (nb _ (by decide +kernel)) boot_chr ha (by decide +kernel) (by decide +kernel) h1 h2
theorem leastI_of : ∀ {ns : List Int} {m : Int}, m ∈ ns → (∀ y, y ∈ ns → m ≤ y) → leastI ns = m
  | [], m, h, _ => by cases h
  | [x], m, h, _ => by rw [List.mem_singleton] at h; rw [h]; rfl
  | x :: y :: r, m, h, l => by
    simp only [leastI]
    have has : ∃ z, z ∈ y :: r ∧ (∀ u, u ∈ y :: r → z ≤ u) := by
      have : ∀ (l : List Int) (x : Int), ∃ z, z ∈ x :: l ∧ ∀ u, u ∈ x :: l → z ≤ u := by
        intro l
        induction l with
        | nil => intro x; exact ⟨x, List.mem_cons_self, fun u hu => by rw [List.mem_singleton] at hu; omega⟩
        | cons a l ih =>
          intro x
          obtain ⟨z, hz, hl⟩ := ih a
          by_cases c : x ≤ z
          · exact ⟨x, List.mem_cons_self, fun u hu => by
              rcases List.mem_cons.mp hu with q | q
              · omega
              · have := hl u q; omega⟩
          · exact ⟨z, List.mem_cons_of_mem _ hz, fun u hu => by
              rcases List.mem_cons.mp hu with q | q
              · omega
              · exact hl u q⟩
      exact this r y
    obtain ⟨z, hz, hl⟩ := has
    have e : leastI (y :: r) = z := leastI_of hz hl
    rw [e]
    have hx := l x List.mem_cons_self
    have hzm := l z (List.mem_cons_of_mem _ hz)
    split
    · rcases List.mem_cons.mp h with q | q
      · exact q.symm
      · have := hl m q; omega
    · rcases List.mem_cons.mp h with q | q
      · omega
      · have := hl m q; omega
theorem mostI_of : ∀ {ns : List Int} {m : Int}, m ∈ ns → (∀ y, y ∈ ns → y ≤ m) → mostI ns = m
  | [], m, h, _ => by cases h
  | [x], m, h, _ => by rw [List.mem_singleton] at h; rw [h]; rfl
  | x :: y :: r, m, h, l => by
    simp only [mostI]
    have has : ∃ z, z ∈ y :: r ∧ (∀ u, u ∈ y :: r → u ≤ z) := by
      have : ∀ (l : List Int) (x : Int), ∃ z, z ∈ x :: l ∧ ∀ u, u ∈ x :: l → u ≤ z := by
        intro l
        induction l with
        | nil => intro x; exact ⟨x, List.mem_cons_self, fun u hu => by rw [List.mem_singleton] at hu; omega⟩
        | cons a l ih =>
          intro x
          obtain ⟨z, hz, hl⟩ := ih a
          by_cases c : z ≤ x
          · exact ⟨x, List.mem_cons_self, fun u hu => by
              rcases List.mem_cons.mp hu with q | q
              · omega
              · have := hl u q; omega⟩
          · exact ⟨z, List.mem_cons_of_mem _ hz, fun u hu => by
              rcases List.mem_cons.mp hu with q | q
              · omega
              · exact hl u q⟩
      exact this r y
    obtain ⟨z, hz, hl⟩ := has
    have e : mostI (y :: r) = z := mostI_of hz hl
    rw [e]
    have hx := l x List.mem_cons_self
    have hzm := l z (List.mem_cons_of_mem _ hz)
    split
    · rcases List.mem_cons.mp h with q | q
      · exact q.symm
      · have := hl m q; omega
    · rcases List.mem_cons.mp h with q | q
      · omega
      · have := hl m q; omega
section
variable {K : PySem.W.Frag} {T : Tk} {H : Hp} {hc : Hc} {exP : XK}
theorem repL1 {d : D} {vs : List V} (r : RepL K T H [d] vs) : ∃ v, vs = [v] ∧ Rep K T H d v := by
  simp only [RepL] at r
  obtain ⟨v, t, e, a, b⟩ := r
  exact ⟨v, by rw [e, b], a⟩
theorem repL2 {d d' : D} {vs : List V} (r : RepL K T H [d, d'] vs) : ∃ v u, vs = [v, u] ∧ Rep K T H d v ∧ Rep K T H d' u := by
  simp only [RepL] at r
  obtain ⟨v, t, e, a, u, t', e', b, e3⟩ := r
  exact ⟨v, u, by rw [e, e', e3], a, b⟩
theorem nt_of {d : D} (h : ∀ xs, d = .tup xs → False) : ∀ ys, d ≠ .tup ys := fun ys z => h ys z
theorem post_len {d : D} {v : V} {Q : VK} (w : Wd K T hc H) (r : Rep K T H d v) (h : Post K T H (fun d T' H' => ∀ v, Rep K T' H' d v → Q v H') exP (lenM d hc)) :
    (∃ x n, [v] = [x] ∧ LenV K x H n ∧ Q (.int n) H) ∨ (∃ a kvs, [v] = [V.ref a] ∧ H a = some (.dK kvs) ∧ Q (.int kvs.length) H) := by
  have seq : Post K T H (fun d T' H' => ∀ v, Rep K T' H' d v → Q v H') exP (bnd (seqM d) (fun xs => pur (.int xs.length)) hc) → (∃ x n, [v] = [x] ∧ LenV K x H n ∧ Q (.int n) H) := fun h => by
    obtain ⟨xs, p, vs, e, s, sl, st, l, rr, h, _⟩ := post_seq w r h
    have q := h.of_pur w _ (by simp only [Rep]; rfl)
    rw [← rr.length] at q
    subst e
    refine ⟨_, vs.length, rfl, ?_, q⟩
    rcases s with s | s
    · exact .inl ⟨vs, s, rfl⟩
    · exact .inr ⟨vs, s, rfl⟩
  cases d with
  | str x =>
    simp only [Rep] at r; subst r
    obtain ⟨c, h⟩ := Post.of_guard h
    exact .inl ⟨_, x.length, rfl, ⟨c, rfl⟩, h.of_pur w _ (by simp only [Rep])⟩
  | ref i =>
    unfold lenM at h
    dsimp only at h
    simp only [Rep] at r
    obtain ⟨b, eb, hb⟩ := r
    subst eb
    cases q : hc[i]? with
    | none => rw [q] at h; exact h.elim
    | some o =>
      obtain ⟨a, ha, ro⟩ := w.obj i _ q
      rw [ha] at hb; cases hb
      cases o with
      | lst xs =>
        rw [q] at h
        obtain ⟨vs, e, l, rr⟩ := ro
        have z := Post.ok_same h w _ (by simp only [Rep]; rfl)
        rw [← rr.length] at z
        exact .inl ⟨_, vs.length, rfl, .inl ⟨vs, SqL.of e, rfl⟩, z⟩
      | dct kvs =>
        rw [q] at h
        obtain ⟨vs, e, l, rr⟩ := ro
        have z := Post.ok_same h w _ (by simp only [Rep]; rfl)
        have ll : ∀ {kvs : List (Key × D)} {vs : List (Key × V)}, RepKV K T H kvs vs → vs.length = kvs.length := by
          intro kvs
          induction kvs with
          | nil => intro vs rr; simp only [RepKV] at rr; rw [rr]; rfl
          | cons p ps ih =>
            intro vs rr
            obtain ⟨k, d⟩ := p
            simp only [RepKV] at rr
            obtain ⟨v, t, e, _, b⟩ := rr
            rw [e, List.length_cons, List.length_cons, ih b]
        rw [← ll rr] at z
        exact .inr ⟨_, vs, rfl, e, z⟩
      | ins _ _ => rw [q] at h; exact h.elim
  | _ => exact .inl (seq h)
theorem post_bi {f : Bi} {ds : List D} {vs : List V} {Q : VK} (w : Wd K T hc H) (r : RepL K T H ds vs) (h : Post K T H (fun d T' H' => ∀ v, Rep K T' H' d v → Q v H') exP (biM f ds hc)) : rBi K f vs H Q := by
  unfold biM at h
  split at h
  · obtain ⟨v, rfl, r1⟩ := repL1 r
    exact post_len w r1 h
  · obtain ⟨v, rfl, r1⟩ := repL1 r
    simp only [Rep] at r1; subst r1
    exact ⟨_, rfl, h.of_pur w _ (by simp only [Rep])⟩
  · obtain ⟨v, u, rfl, r1, r2⟩ := repL2 r
    simp only [Rep] at r1 r2; subst r1; subst r2
    exact ⟨_, _, rfl, h.of_pur w _ (by simp only [Rep])⟩
  · obtain ⟨v, u, rfl, r1, r2⟩ := repL2 r
    simp only [Rep] at r1 r2; subst r1; subst r2
    exact ⟨_, _, rfl, h.of_pur w _ (by simp only [Rep])⟩
  · next d =>
    obtain ⟨v, rfl, r1⟩ := repL1 r
    obtain ⟨xs, p, us, e', s, sl, st, l, rr, h, _⟩ := post_seq w r1 h
    subst e'
    cases q : intsD xs with
    | none => rw [q] at h; exact h.elim
    | some ns =>
      rw [q] at h
      have h := Post.of_guard (show Post K T H _ exP (guard (0 < ns.length) (pur (D.int (leastI ns))) hc) from h)
      have ex := intsD_of q
      subst ex
      rw [repL_intsV rr] at s
      rcases s with s | s
      · refine .inl ⟨p, ns, rfl, s, h.1, fun m hm hl => ?_⟩
        have := h.2.of_pur w _ (by simp only [Rep]; rfl)
        rw [leastI_of hm hl] at this
        exact this
      · refine .inr ⟨p, ns, rfl, s, h.1, fun m hm hl => ?_⟩
        have := h.2.of_pur w _ (by simp only [Rep]; rfl)
        rw [leastI_of hm hl] at this
        exact this
  · next d =>
    obtain ⟨v, rfl, r1⟩ := repL1 r
    obtain ⟨xs, p, us, e', s, sl, st, l, rr, h, _⟩ := post_seq w r1 h
    subst e'
    cases q : intsD xs with
    | none => rw [q] at h; exact h.elim
    | some ns =>
      rw [q] at h
      have h := Post.of_guard (show Post K T H _ exP (guard (0 < ns.length) (pur (D.int (mostI ns))) hc) from h)
      have ex := intsD_of q
      subst ex
      rw [repL_intsV rr] at s
      rcases s with s | s
      · refine .inl ⟨p, ns, rfl, s, h.1, fun m hm hl => ?_⟩
        have := h.2.of_pur w _ (by simp only [Rep]; rfl)
        rw [mostI_of hm hl] at this
        exact this
      · refine .inr ⟨p, ns, rfl, s, h.1, fun m hm hl => ?_⟩
        have := h.2.of_pur w _ (by simp only [Rep]; rfl)
        rw [mostI_of hm hl] at this
        exact this
  · next d =>
    obtain ⟨v, rfl, r1⟩ := repL1 r
    obtain ⟨xs, p, us, e', s, sl, st, l, rr, h, _⟩ := post_seq w r1 h
    subst e'
    cases q : intsD xs with
    | none => rw [q] at h; exact h.elim
    | some ns =>
      rw [q] at h
      have ex := intsD_of q
      subst ex
      rw [repL_intsV rr] at s
      rcases s with s | s
      · exact .inl ⟨p, ns, rfl, s, Post.of_pur h w _ (by simp only [Rep])⟩
      · exact .inr ⟨p, ns, rfl, s, Post.of_pur h w _ (by simp only [Rep])⟩
  · exact h.elim
  · next d nt =>
    obtain ⟨v, rfl, r1⟩ := repL1 r
    obtain ⟨xs, p, us, e', s, sl, st, l, rr, h, _⟩ := post_seq w r1 h
    subst e'
    cases q : blsD xs with
    | none => rw [q] at h; exact h.elim
    | some ns =>
      rw [q] at h
      have ex := blsD_of q
      subst ex
      have sl' := sl (nt_of (fun ys z => nt ys z))
      rw [repL_blsV rr] at sl'
      exact ⟨p, ns, rfl, sl', Post.of_pur h w _ (by simp only [Rep])⟩
  · exact h.elim
  · next d nt =>
    obtain ⟨v, rfl, r1⟩ := repL1 r
    obtain ⟨xs, p, us, e', s, sl, st, l, rr, h, _⟩ := post_seq w r1 h
    subst e'
    cases q : blsD xs with
    | none => rw [q] at h; exact h.elim
    | some ns =>
      rw [q] at h
      have ex := blsD_of q
      subst ex
      have sl' := sl (nt_of (fun ys z => nt ys z))
      rw [repL_blsV rr] at sl'
      exact ⟨p, ns, rfl, sl', Post.of_pur h w _ (by simp only [Rep])⟩
  · obtain ⟨v, rfl, r1⟩ := repL1 r
    simp only [Rep] at r1; subst r1
    exact .inl ⟨_, rfl, h.of_pur w _ (by simp only [Rep])⟩
  · obtain ⟨v, rfl, r1⟩ := repL1 r
    simp only [Rep] at r1; subst r1
    exact .inr ⟨_, rfl, h.of_pur w _ (by simp only [Rep])⟩
  · obtain ⟨v, rfl, r1⟩ := repL1 r
    simp only [Rep] at r1; subst r1
    exact .inl ⟨_, rfl, h.of_pur w _ (by simp only [Rep])⟩
  · obtain ⟨v, rfl, r1⟩ := repL1 r
    simp only [Rep] at r1; subst r1
    exact .inr ⟨_, rfl, h.of_pur w _ (by simp only [Rep])⟩
  · obtain ⟨v, rfl, r1⟩ := repL1 r
    simp only [Rep] at r1; subst r1
    obtain ⟨c, h⟩ := Post.of_guard h
    exact ⟨_, rfl, c, h.of_pur w _ (by simp only [Rep])⟩
  · obtain ⟨v, rfl, r1⟩ := repL1 r
    obtain ⟨xs, p, us, e', s, sl, st, l, rr, h, hq⟩ := post_seq w r1 h
    subst e'
    refine ⟨p, us, rfl, ?_⟩
    rcases s with s | s
    · exact .inl ⟨s, fun q hq => h T _ (Ext.upd_new hq) (w.upd_new hq) _ (rep_new_tup w hq rr l)⟩
    · refine .inr ⟨s, h.of_pur w _ ?_⟩
      simp only [Rep]
      exact ⟨p, us, rfl, s, l, rr⟩
  · obtain ⟨v, rfl, r1⟩ := repL1 r
    simp only [Rep] at r1; subst r1
    obtain ⟨c, h⟩ := Post.of_guard h
    exact ⟨_, rfl, c, h.of_pur w _ (by simp only [Rep])⟩
  · obtain ⟨v, rfl, r1⟩ := repL1 r
    simp only [Rep] at r1; subst r1
    obtain ⟨c, h⟩ := Post.of_guard h
    exact ⟨_, rfl, c.1, c.2, h.of_pur w _ (by simp only [Rep])⟩
  · exact h.elim
end
/-! ### isinstance -/
section
variable {K : PySem.W.Frag} {T : Tk} {H : Hp} {hc : Hc} {exP : XK}
def tyKnown : List String := ["NoneType", "bool", "int", "str", "tuple", "list", "dict"]
theorem kit_tab : ∀ a ∈ tyKnown, ∀ b ∈ tyNames, kitB a b = some (a == b || (a == "bool" && b == "int")) := by decide +kernel
theorem post_ty {d : D} {v : V} {α : Type} {f : String → M α} {okQ : α → Tk → Hp → Prop} (w : Wd K T hc H) (r : Rep K T H d v) (h : Post K T H okQ exP (bnd (tyM d) f hc)) :
    ∃ t, t ∈ tyKnown ∧ TyX K H v (.type t) ∧ Post K T H okQ exP (f t hc) := by
  cases d with
  | non => simp only [Rep] at r; subst r; exact ⟨_, by decide +kernel, .base .non, h⟩
  | bl b => simp only [Rep] at r; subst r; exact ⟨_, by decide +kernel, .base (.bl _), h⟩
  | int b => simp only [Rep] at r; subst r; exact ⟨_, by decide +kernel, .base (.int _), h⟩
  | str b => simp only [Rep] at r; subst r; exact ⟨_, by decide +kernel, .base (.str _), h⟩
  | tup xs =>
    simp only [Rep] at r
    obtain ⟨a, vs, e, s, l, q⟩ := r
    subst e
    refine ⟨"tuple", by decide +kernel, ?_, h⟩
    rcases s with (s | ⟨o, s⟩) | ⟨o, its, n, h1, h2, _⟩
    · exact .base (.tup s)
    · exact .fTuple s
    · exact .kTuple h1 h2
  | fl xs =>
    simp only [Rep] at r
    obtain ⟨a, vs, e, s, l, q⟩ := r
    subst e
    exact ⟨"list", by decide +kernel, .base (.lst s.1), h⟩
  | kl xs =>
    simp only [Rep] at r
    obtain ⟨a, vs, e, s, l, q⟩ := r
    subst e
    refine ⟨"list", by decide +kernel, ?_, h⟩
    rcases s with (⟨o, s⟩ | ⟨s, _⟩) | ⟨o, its, n, h1, h2, _⟩
    · exact .base (.frz s)
    · exact .base (.lst s)
    · exact .kList h1 h2
  | ref i =>
    unfold bnd tyM at h
    dsimp only at h
    simp only [Rep] at r
    obtain ⟨b, eb, hb⟩ := r
    subst eb
    cases q : hc[i]? with
    | none => rw [q] at h; exact h.elim
    | some o =>
      obtain ⟨a, ha, ro⟩ := w.obj i _ q
      rw [ha] at hb; cases hb
      cases o with
      | lst xs =>
        rw [q] at h
        obtain ⟨vs, e, l, rr⟩ := ro
        exact ⟨"list", by decide +kernel, .base (.lst e), h⟩
      | dct kvs =>
        rw [q] at h
        obtain ⟨vs, e, l, rr⟩ := ro
        exact ⟨"dict", by decide +kernel, .base (.dK e), h⟩
      | ins _ _ => rw [q] at h; exact h.elim
  | ob _ => exact h.elim
  | ty _ => exact h.elim
theorem kitAny_of {t : String} (ht : t ∈ tyKnown) : ∀ {ts : List String}, (∀ u ∈ ts, u ∈ tyNames) → PySem.W.kitAny K (.type t) (ts.map Value.type) = some (ts.any fun u => t == u || (t == "bool" && u == "int"))
  | [], _ => kitAny_nil
  | u :: us, h => by
    have h1 := kit_ty (K := K) (kit_tab t ht u (h u List.mem_cons_self))
    have h2 := kitAny_of ht (ts := us) fun x hx => h x (List.mem_cons_of_mem _ hx)
    rw [List.map_cons, List.any_cons]
    refine kitAny_cons h1 (fun e => ?_) (fun e => ?_)
    · rw [h2, e]; simp
    · rw [e]; rfl
end
theorem ty_boot : ∀ t ∈ tyNames, bootBuiltins (Str.ofString t) = some (.type t) := by decide +kernel
theorem ty_nb : ∀ t ∈ tyNames, Str.ofString t ∈ bNames := by decide +kernel
theorem ty_nn : ∀ t ∈ tyNames, Str.ofString t ≠ ("__name__" : Str) ∧ (Str.ofString t == ("__debug__" : Str)) = false := by decide +kernel
section
variable {C : Ck} {G : Gt} {Cs : List D} {k : Nat} {X : Cx} {W : WX} {sc : Scope} {pos : Pos}
variable {a b c e : Expr} {ma mb mc : Env → M D} {es : List Expr} {mA : Env → M (List D)}
theorem ce_bi (g : Gd C G Cs k X W sc) (hcm : C.cm = true) {f : Bi} {p : Pos} (hv : glB sc (biName f) = true) (hs : ∀ y ∈ a :: es, isStar y = false) (hA : CA X W (a :: es) mA) :
    CE C X W sc (.Call (.Name (biName f) p) (a :: es) [] pos) (fun env => bnd (mA env) fun xs => biM f xs) := by
  obtain ⟨tA, pA, rA⟩ := hA
  refine ⟨_, pe_bi (g.calm hcm) g.nb f (g.gl hv) pA hs, OwnSt.no rfl, fun T hc H env σ Q w er h => ?_⟩
  exact readA rA w er h fun ds T1 hc1 H1 vs e1 w1 er1 r1 h1 => post_bi w1 r1 h1
section
variable {K : PySem.W.Frag} {T : Tk} {H : Hp}
theorem RepKV.length {κ : Type} : ∀ {ds : List (κ × D)} {ws : List (κ × V)}, RepKV K T H ds ws → ws.length = ds.length
  | [], ws, h => by simp only [RepKV] at h; rw [h]; rfl
  | (k, d) :: ds, ws, h => by
    simp only [RepKV] at h
    obtain ⟨v, r, q, _, b⟩ := h
    rw [q, List.length_cons, List.length_cons, RepKV.length b]
theorem RepKV.keys {κ : Type} : ∀ {ds : List (κ × D)} {ws : List (κ × V)}, RepKV K T H ds ws → ws.map (·.1) = ds.map (·.1)
  | [], ws, h => by simp only [RepKV] at h; rw [h]; rfl
  | (k, d) :: ds, ws, h => by
    simp only [RepKV] at h
    obtain ⟨v, r, q, _, b⟩ := h
    rw [q, List.map_cons, List.map_cons, RepKV.keys b]
theorem intsK_of : ∀ {kvs : List (Key × D)} {ns : List Int}, intsK kvs = some ns → kvs.map (·.1) = ns.map Sum.inl
  | [], ns, h => by simp only [intsK, Option.some.injEq] at h; subst h; rfl
  | (.inl i, d) :: r, ns, h => by
    simp only [intsK, Option.map_eq_some_iff] at h
    obtain ⟨ms, h1, h2⟩ := h
    subst h2
    rw [List.map_cons, List.map_cons, intsK_of h1]
  | (.inr x, d) :: r, ns, h => by simp [intsK] at h
end
def rSortD : List V → Hp → VK → Prop := fun xs H Q => ∃ (a : Addr) (kvs : List (Key × V)) (ks : List Int), xs = [.ref a] ∧ H a = some (.dK kvs) ∧ kvs.map (·.1) = ks.map Sum.inl ∧ ks.length < 64 ∧
    ∀ (ys : List Int) (p : Addr), ys.Perm ks → ys.Pairwise (· ≤ ·) → H p = none → Q (.ref p) (upd H p (.lst (ys.map V.int)))
theorem cr_sortD {X : Cx} (hcalm : X.calm = true) : CallR X (.builtin "sorted") rSortD := fun pins s σ H vs us Q I r ⟨a, kvs, ks, e1, e2, e3, e4, q⟩ => call_sortedDI hcalm pins s σ H vs us Q I r ⟨a, kvs, ks, e1, .inl e2, e3, e4, q⟩
def rBn (K : PySem.W.Frag) : Bn → List V → Hp → VK → Prop
  | .list => fun xs H Q => ∃ p ys, xs = [.ref p] ∧ (SqL K H p ys ∨ SqT K H p ys) ∧ ∀ l, H l = none → Q (.ref l) (upd H l (.lst ys))
  | .sorted => rSortedI K
  | .sortP => fun vs H Q => ∃ B, rSortU K 2 B vs H Q
  | .sortD => rSortD
theorem cr_sortP {X : Cx} : CallR X (.builtin "sorted") (fun vs H Q => ∃ B, rSortU X.K 2 B vs H Q) := fun pins s σ H vs us Q I r ⟨B, h⟩ => cr_sortT (by decide) pins s σ H vs us Q I r h
theorem pairsD_of : ∀ {xs : List D} {L : List (Int × Int)}, pairsD xs = some L → xs = L.map encP
  | [], L, h => by simp only [pairsD, Option.some.injEq] at h; subst h; rfl
  | d :: xs, L, h => by
    unfold pairsD at h
    split at h
    · next h0 => cases h0
    · next i j r h0 =>
      cases h0
      cases q : pairsD xs with
      | none => rw [q] at h; cases h
      | some M =>
        rw [q] at h
        cases h
        rw [pairsD_of q]; rfl
    · cases h
theorem code2 (B x y : Int) : TS.code B [x, y] = x * B + y := by
  show x * B ^ 1 + (y * B ^ 0 + 0) = x * B + y
  have e1 : B ^ 1 = B := Int.pow_one B
  have e0 : B ^ 0 = 1 := Int.pow_zero B
  rw [e1, e0, Int.mul_one, Int.add_zero]
theorem code_le {B : Int} {p q : Int × Int} (hp : 0 ≤ p.1 ∧ 0 ≤ p.2 ∧ p.1 < B ∧ p.2 < B) (hq : 0 ≤ q.1 ∧ 0 ≤ q.2 ∧ q.1 < B ∧ q.2 < B) (h : TS.code B [p.1, p.2] ≤ TS.code B [q.1, q.2]) : pairLe p q = true := by
  rw [code2, code2] at h
  unfold pairLe
  rw [decide_eq_true_eq]
  rcases Int.lt_trichotomy p.1 q.1 with c | c | c
  · exact .inl c
  · rw [c] at h; exact .inr ⟨c, by omega⟩
  · exfalso
    have : (q.1 + 1) * B ≤ p.1 * B := Int.mul_le_mul_of_nonneg_right (by omega) (by omega)
    rw [Int.add_mul, Int.one_mul] at this
    omega
theorem repP_perm {K : PySem.W.Frag} {T : Tk} {H : Hp} {vs ys : List V} (h : vs.Perm ys) : ∀ {ds : List D}, RepL K T H ds vs → ∃ ds', ds.Perm ds' ∧ RepL K T H ds' ys := by
  induction h with
  | nil => exact fun {ds} r => ⟨ds, .refl _, r⟩
  | cons v _ ih =>
    intro ds r
    cases ds with
    | nil => simp only [RepL] at r; cases r
    | cons d ds =>
      simp only [RepL] at r
      obtain ⟨u, t, e, a, b⟩ := r
      cases e
      obtain ⟨ds', p, q⟩ := ih b
      exact ⟨d :: ds', p.cons d, RepL.cons a q⟩
  | swap v u l =>
    intro ds r
    rcases ds with _ | ⟨d, _ | ⟨d2, ds⟩⟩
    · simp only [RepL] at r; cases r
    · simp only [RepL] at r
      obtain ⟨x, t, e, a, b⟩ := r
      cases e
      first | (simp only [RepL] at b; cases b) | cases b
    · simp only [RepL] at r
      obtain ⟨x, t, e, a, y, t2, e2, b, c⟩ := r
      cases e; cases e2
      exact ⟨d2 :: d :: ds, List.Perm.swap _ _ _, RepL.cons b (RepL.cons a c)⟩
  | trans _ _ ih1 ih2 =>
    intro ds r
    obtain ⟨ds1, p1, r1⟩ := ih1 r
    obtain ⟨ds2, p2, r2⟩ := ih2 r1
    exact ⟨ds2, p1.trans p2, r2⟩
theorem map_perm_inv {α β : Type} {f : α → β} {g : β → α} (hf : ∀ a, g (f a) = a) : ∀ {xs : List α} {ys : List β}, (xs.map f).Perm ys → ∃ zs, ys = zs.map f ∧ xs.Perm zs := by
  intro xs ys h
  have : ∀ y ∈ ys, ∃ a ∈ xs, f a = y := fun y hy => by
    obtain ⟨a, ha, e⟩ := List.mem_map.mp (h.mem_iff.mpr hy)
    exact ⟨a, ha, e⟩
  have ez : ∃ zs : List α, ys = zs.map f := by
    clear h
    induction ys with
    | nil => exact ⟨[], rfl⟩
    | cons y ys ih =>
      obtain ⟨a, _, e⟩ := this y List.mem_cons_self
      obtain ⟨zs, ez⟩ := ih fun z hz => this z (List.mem_cons_of_mem _ hz)
      exact ⟨a :: zs, by rw [ez, ← e]; rfl⟩
  obtain ⟨zs, rfl⟩ := ez
  refine ⟨zs, rfl, ?_⟩
  have h2 := h.map g
  have e : ∀ l : List α, (l.map f).map g = l := fun l => by
    rw [List.map_map]
    have : g ∘ f = id := funext hf
    rw [this, List.map_id]
  rw [e, e] at h2
  exact h2
def decP : D → Int × Int
  | .tup [.int i, .int j] => (i, j)
  | _ => (0, 0)
theorem rep_encP {K : PySem.W.Frag} {T : Tk} {H : Hp} {p : Int × Int} {v : V} (r : Rep K T H (encP p) v) : TupI K H v [p.1, p.2] := by
  simp only [encP, Rep, RepL] at r
  obtain ⟨a, vs, e, s, l, v1, r1, e1, h1, v2, r2, e2, h2, e3⟩ := r
  subst e; subst e3; subst e2; subst e1; subst h1; subst h2
  exact ⟨a, rfl, s⟩
theorem pairs_sorted {K : PySem.W.Frag} {T : Tk} {H : Hp} {B : Int} : ∀ {L : List (Int × Int)} {ys : List V}, (∀ p ∈ L, 0 ≤ p.1 ∧ 0 ≤ p.2 ∧ p.1 < B ∧ p.2 < B) → RepL K T H (L.map encP) ys →
    ys.Pairwise (fun x y => ∀ n m, TupI K H x n → TupI K H y m → TS.code B n ≤ TS.code B m) → L.Pairwise fun p q => pairLe p q = true
  | [], _, _, _, _ => List.Pairwise.nil
  | p :: L, ys, hb, r, hp => by
    simp only [List.map_cons, RepL] at r
    obtain ⟨v, t, e, a, b⟩ := r
    subst e
    rw [List.pairwise_cons] at hp ⊢
    refine ⟨fun q hq => ?_, pairs_sorted (fun q hq => hb q (List.mem_cons_of_mem _ hq)) b hp.2⟩
    obtain ⟨i, hi, ei⟩ := List.mem_iff_getElem.mp hq
    obtain ⟨u, hu, ru⟩ := b.get (i := i) (d := encP q) (by rw [List.getElem?_map, List.getElem?_eq_getElem hi, ei]; rfl)
    exact code_le (hb p List.mem_cons_self) (hb q (List.mem_cons_of_mem _ hq)) (hp.1 u (List.mem_of_getElem? hu) _ _ (rep_encP a) (rep_encP ru))
theorem sortP_is {a b : List (Int × Int)} (h : a.Perm b) (ha : a.Pairwise fun p q => pairLe p q = true) : a = b.mergeSort pairLe := by
  have hb : (b.mergeSort pairLe).Pairwise (fun x y => pairLe x y = true) :=
    List.pairwise_mergeSort (le := pairLe) (by intro x y z hxy hyz; simp only [pairLe, decide_eq_true_eq] at *; omega) (by intro x y; simp only [pairLe, Bool.or_eq_true, decide_eq_true_eq]; omega) b
  have hp : a.Perm (b.mergeSort pairLe) := h.trans (List.mergeSort_perm b _).symm
  refine hp.eq_of_pairwise (le := fun x y => pairLe x y = true) (fun x y _ _ h1 h2 => ?_) ha hb
  obtain ⟨x1, x2⟩ := x
  obtain ⟨y1, y2⟩ := y
  simp only [pairLe, decide_eq_true_eq] at h1 h2
  rw [Prod.mk.injEq]; omega
theorem pairs_bound (L : List (Int × Int)) : ∃ B : Int, ∀ p ∈ L, p.1 < B ∧ p.2 < B := by
  induction L with
  | nil => exact ⟨0, by simp⟩
  | cons p L ih =>
    obtain ⟨B, hB⟩ := ih
    refine ⟨max B (max (p.1 + 1) (p.2 + 1)), fun q hq => ?_⟩
    rcases List.mem_cons.mp hq with e | e
    · subst e; omega
    · have := hB q e; omega
theorem pe_bn (hcalm : X.calm = true) (nb : ∀ x ∈ bNames, X.mg x = none) (f : Bn) {p pos : Pos} {e : Expr} {es : List Expr} {t : TA} (hg : Gl X (bnName f)) (ha : PA X (e :: es) t) (hs : ∀ y ∈ e :: es, isStar y = false) :
    PE X (.Call (.Name (bnName f) p) (e :: es) [] pos) (tCB (rBn X.K f) t) := by
  have h1 := star1 (es := es) (env := X.env) (hs e List.mem_cons_self)
  have h2 := starAll (pos := pos) (env := X.env) fun y hy => hs y (List.mem_cons_of_mem _ hy)
  cases f with
  | list => exact pe_callTy call_list_of hg (nb _ (by decide +kernel)) boot_list ha (by decide +kernel) (by decide +kernel) h1 h2
  | sorted => exact pe_callB cr_sortedI hg (nb _ (by decide +kernel)) boot_sorted ha (by decide +kernel) (by decide +kernel) h1 h2
  | sortP => exact pe_callB cr_sortP hg (nb _ (by decide +kernel)) boot_sorted ha (by decide +kernel) (by decide +kernel) h1 h2
  | sortD => exact pe_callB (cr_sortD hcalm) hg (nb _ (by decide +kernel)) boot_sorted ha (by decide +kernel) (by decide +kernel) h1 h2
theorem sorted_is {a b : List Int} (h : a.Perm b) (ha : a.Pairwise (· ≤ ·)) : a = b.mergeSort (fun x y => decide (x ≤ y)) := by
  have hb : (b.mergeSort (fun x y : Int => decide (x ≤ y))).Pairwise (fun x y => decide (x ≤ y) = true) :=
    List.pairwise_mergeSort (le := fun x y : Int => decide (x ≤ y)) (by intro x y z hxy hyz; simp only [decide_eq_true_eq] at *; omega) (by intro x y; simp only [Bool.or_eq_true, decide_eq_true_eq]; omega) b
  have hp : a.Perm (b.mergeSort (fun x y : Int => decide (x ≤ y))) := h.trans (List.mergeSort_perm b _).symm
  refine hp.eq_of_pairwise (le := fun x y : Int => x ≤ y) (fun x y _ _ h1 h2 => Int.le_antisymm h1 h2) ha (hb.imp fun h => of_decide_eq_true h)
theorem cn_bn (g : Gd C G Cs k X W sc) (hcm : C.cm = true) {f : Bn} {p : Pos} (hv : glB sc (bnName f) = true) (hs : ∀ y ∈ a :: es, isStar y = false) (hA : CA X W (a :: es) mA) :
    CN C X W sc (.Call (.Name (bnName f) p) (a :: es) [] pos) (fun env => bnd (mA env) fun xs => bnM f xs) := by
  obtain ⟨tA, pA, rA⟩ := hA
  refine ⟨_, pe_bn (g.calm hcm) g.nb f (g.gl hv) pA hs, OwnSt.no rfl, fun T hc H env σ Q w er h => ?_⟩
  refine readA rA w er h fun ds T1 hc1 H1 vs e1 w1 er1 r1 h1 => ?_
  unfold bnM at h1
  split at h1
  · obtain ⟨v, rfl, r⟩ := repL1 r1
    obtain ⟨xs, p, us, e', s, sl, st, l, rr, q⟩ := post_seq0 w1 r h1
    subst e'
    exact ⟨p, us, rfl, s, fun q' hq => q q' us hq rr l⟩
  · exact h1.elim
  · next d nt =>
    obtain ⟨v, rfl, r⟩ := repL1 r1
    obtain ⟨xs, p, us, e', s, sl, st, l, rr, h1, _⟩ := post_seq w1 r h1
    subst e'
    cases q : intsD xs with
    | none => rw [q] at h1; exact h1.elim
    | some ns =>
      rw [q] at h1
      have ex := intsD_of q
      subst ex
      have sl' := sl (nt_of (fun ys z => nt ys z))
      have ev := repL_intsV rr
      rw [ev] at sl'
      refine ⟨p, ns, rfl, sl', fun ns' q' hp hw hq => ?_⟩
      have z := Post.of_pur h1 w1 q' (ns'.map V.int) hq (by rw [sorted_is hp hw]; exact repL_ints _) (by
        rw [List.length_map, hp.length_eq]
        rw [ev, List.length_map] at l
        exact l)
      exact z
  · exact h1.elim
  · next d nt =>
    obtain ⟨v, rfl, r⟩ := repL1 r1
    obtain ⟨xs, p, us, e', s, sl, st, l, rr, h1, _⟩ := post_seq w1 r h1
    subst e'
    cases q : pairsD xs with
    | none => rw [q] at h1; exact h1.elim
    | some L =>
      rw [q] at h1
      have ex := pairsD_of q
      subst ex
      obtain ⟨⟨c1, c2⟩, h1⟩ := Post.of_guard (show Post X.K T1 H1 _ (WE W σ) (Cl.guard (L.length < 64 ∧ ∀ p ∈ L, 0 ≤ p.1 ∧ 0 ≤ p.2) (pur ((L.mergeSort pairLe).map encP)) hc1) from h1)
      have sl' := sl (nt_of (fun ys z => nt ys z))
      obtain ⟨B, hB⟩ := pairs_bound L
      have hb : ∀ p ∈ L, 0 ≤ p.1 ∧ 0 ≤ p.2 ∧ p.1 < B ∧ p.2 < B := fun p hp => ⟨(c2 p hp).1, (c2 p hp).2, (hB p hp).1, (hB p hp).2⟩
      refine ⟨B, p, us, rfl, sl', by rw [rr.length, List.length_map]; exact c1, fun x hx => ?_, fun ys q' hp hw hq => ?_⟩
      · obtain ⟨i, hi⟩ := List.mem_iff_getElem?.mp hx
        obtain ⟨d, hd, rd⟩ := rr.getV hi
        rw [List.getElem?_map] at hd
        cases z : L[i]? with
        | none => rw [z] at hd; cases hd
        | some t =>
          rw [z] at hd
          simp only [Option.map_some, Option.some.injEq] at hd
          subst hd
          have ht := hb t (List.mem_of_getElem? z)
          refine ⟨[t.1, t.2], rep_encP rd, rfl, fun m hm => ?_⟩
          rcases List.mem_cons.mp hm with e | e
          · rw [e]; exact ⟨ht.1, ht.2.2.1⟩
          · rw [List.mem_singleton] at e; rw [e]; exact ⟨ht.2.1, ht.2.2.2⟩
      · obtain ⟨ds', p1, r'⟩ := repP_perm hp.symm rr
        obtain ⟨L', rfl, p2⟩ := map_perm_inv (g := decP) (fun _ => rfl) p1
        have hs := pairs_sorted (fun p hp => hb p (p2.mem_iff.mpr hp)) r' hw
        have e := sortP_is p2.symm hs
        exact Post.of_pur h1 w1 q' ys hq (by rw [← e]; exact r') (by
          rw [hp.length_eq]; exact l)
  · next i =>
    obtain ⟨v, rfl, r⟩ := repL1 r1
    cases q : hc1[i]? with
    | none => rw [q] at h1; exact h1.elim
    | some o =>
      cases o with
      | lst _ => rw [q] at h1; exact h1.elim
      | ins _ _ => rw [q] at h1; exact h1.elim
      | dct kvs =>
        rw [q] at h1
        cases q2 : intsK kvs with
        | none => simp only [q2] at h1; exact h1.elim
        | some ns =>
          simp only [q2] at h1
          obtain ⟨c, h1⟩ := Post.of_guard h1
          obtain ⟨p, hp, ws, hv, l, rr⟩ := w1.obj i _ q
          simp only [Rep] at r
          obtain ⟨p', ep, hp'⟩ := r
          rw [hp] at hp'; cases hp'
          subst ep
          refine ⟨p, ws, ns, rfl, hv, by rw [rr.keys, intsK_of q2], c, fun ys q' hp2 hw hq => ?_⟩
          exact Post.of_pur h1 w1 q' (ys.map V.int) hq (by rw [sorted_is hp2 hw]; exact repL_ints _) (by
            rw [List.length_map, hp2.length_eq]
            have : (64 : Nat) ≤ sizeLine := by decide +kernel
            omega)
  · exact h1.elim
/-- isinstance(e, T) -/
theorem pe_tyName (g : Gd C G Cs k X W sc) {t : String} (ht : t ∈ tyNames) (hv : glB sc (Str.ofString t) = true) {p : Pos} : PE X (.Name (Str.ofString t) p) (tC (.ty t)) :=
  pe_bltn (g.gl hv) (g.nb _ (ty_nb t ht)) (ty_boot t ht) rfl (ty_nn t ht).1 (ty_nn t ht).2
theorem ce_isa1 (g : Gd C G Cs k X W sc) {t : String} {p p2 : Pos} (ht : t ∈ tyNames) (hv : glB sc ("isinstance" : Str) = true) (hv2 : glB sc (Str.ofString t) = true) (hs : isStar a = false) (ha : CE C X W sc a ma) :
    CE C X W sc (.Call (.Name ("isinstance" : Str) p) [a, .Name (Str.ofString t) p2] [] pos) (fun env => bnd (ma env) fun x => bnd (isaM [t] x) fun k => pur (.bl k)) := by
  obtain ⟨ta, pa, _, ra⟩ := ha
  refine ⟨_, pe_callB call_isi (g.gl hv) (g.nb _ (by decide +kernel)) boot_isinstance (pa_cons pa (pa_cons (pe_tyName g ht hv2) pa_nil (star1 rfl)) (star1 hs)) (by decide +kernel) (by decide +kernel) (star1 hs) (starAll (by intro y hy; rw [List.mem_singleton] at hy; subst hy; rfl)), OwnSt.no rfl, fun T hc H env σ Q w er h => ?_⟩
  refine read1 ra w er h fun d T1 hc1 H1 v e1 w1 er1 r1 h1 => ?_
  unfold isaM at h1
  rw [bnd_assoc] at h1
  obtain ⟨u, hu, ty, h2⟩ := post_ty w1 r1 h1
  have q := Post.of_pur h2 w1 _ (by simp only [Rep]; rfl)
  refine ⟨v, .ty t, .type u, .type t, _, rfl, .ty t, ty, kit_ty (kit_tab u hu t ht), ?_⟩
  simpa using q
/-- isinstance of the exception that the suite holds -/
theorem ce_isx (g : Gd C G Cs k X W sc) {i j : Nat} {n : Str} {cls : List Str} {b : Bool} {e : Expr} (hq : C.xq[j]? = some (i, n, cls, b)) (hf : xqForm n cls sc e = true) :
    CE C X W sc e (fun env => match G.xa, (env[i]?).bind id with
      | some a, some (.ob a') => if a = a' then pur (.bl b) else stuck
      | _, _ => stuck) := by
  have hc : isComp e = false := by
    cases e <;> first | rfl | (simp [xqForm] at hf)
  cases qa : G.xa with
  | none => exact ⟨fun _ _ _ => False, ⟨fun pins s σ H Q I h => h.elim⟩, OwnSt.no hc, fun T hc H env σ Q w er h => h.elim⟩
  | some a =>
    refine ⟨_, g.xa a j i n cls b qa hq e hf, OwnSt.no hc, fun T hc H env σ Q w er h => ?_⟩
    dsimp only at h
    cases q : env[i]? with
    | none => rw [q] at h; exact h.elim
    | some o =>
      rw [q] at h
      cases o with
      | none => exact h.elim
      | some d =>
        cases d with
        | ob a' =>
          dsimp only [Option.bind_some, id] at h
          split at h
          · next ea =>
            subst ea
            obtain ⟨v, hv, rv⟩ := er.2 i _ q
            simp only [Rep] at rv
            subst rv
            refine ⟨hv, fun p vs hp => ?_⟩
            exact h T _ (Ext.upd_new hp) (w.upd_new hp) _ (by simp only [Rep])
          · exact h.elim
        | _ => exact h.elim
theorem ca_tys (g : Gd C G Cs k X W sc) : ∀ {ts : List String} {es : List Expr}, tysB ts es sc = true →
    PA X es (fun σ H Q => Q (ts.map V.ty) H) ∧ (∀ u ∈ ts, u ∈ tyNames)
  | [], [], _ => ⟨pa_nil, fun _ h => by cases h⟩
  | t :: ts, e :: es, h => by
    cases e with
    | Name x p =>
      simp only [tysB, Bool.and_eq_true, decide_eq_true_eq, beq_iff_eq] at h
      obtain ⟨⟨⟨h1, h2⟩, h3⟩, h4⟩ := h
      subst h2
      obtain ⟨p1, p2⟩ := ca_tys g h4
      exact ⟨pa_cons (pe_tyName g h1 h3) p1 (star1 rfl), fun u hu => by
        rcases List.mem_cons.mp hu with z | z
        · rw [z]; exact h1
        · exact p2 u z⟩
    | _ => simp [tysB] at h
  | [], _ :: _, h => by simp [tysB] at h
  | _ :: _, [], h => by simp [tysB] at h
theorem pair_ty : ∀ ts : List String, Paired ClsV (ts.map V.ty) (ts.map Value.type)
  | [] => .nil
  | t :: ts => .cons (.ty t) (pair_ty ts)
theorem ce_isaT (g : Gd C G Cs k X W sc) {ts : List String} {p p2 : Pos} {x1 : Nat} (hts : tysB ts es sc = true) (hv : glB sc ("isinstance" : Str) = true) (hs : isStar a = false) (ha : CE C X W sc a ma) (hl : ts.length ≤ 100) :
    CE C X W sc (.Call (.Name ("isinstance" : Str) p) [a, .Tuple es x1 p2] [] pos) (fun env => bnd (ma env) fun x => bnd (isaM ts x) fun k => pur (.bl k)) := by
  obtain ⟨ta, pa, _, ra⟩ := ha
  obtain ⟨p1, hn⟩ := ca_tys g hts
  refine ⟨_, pe_callB call_isiT (g.gl hv) (g.nb _ (by decide +kernel)) boot_isinstance (pa_cons pa (pa_cons (pe_tup p1) pa_nil (star1 rfl)) (star1 hs)) (by decide +kernel) (by decide +kernel) (star1 hs) (starAll (by intro y hy; rw [List.mem_singleton] at hy; subst hy; rfl)), OwnSt.no rfl, fun T hc H env σ Q w er h => ?_⟩
  refine read1 ra w er h fun d T1 hc1 H1 v e1 w1 er1 r1 h1 => ?_
  refine ⟨by rw [List.length_map]; have : (100 : Nat) ≤ sizeLine := by decide +kernel
             omega, fun q hq => ?_⟩
  have w2 := w1.upd_new (o := .tup (ts.map V.ty)) hq
  have r2 := Rep.upd_new w1 (o := .tup (ts.map V.ty)) hq r1
  have h2 := Post.ext (Ext.upd_new (o := .tup (ts.map V.ty)) hq) h1
  unfold isaM at h2
  rw [bnd_assoc] at h2
  obtain ⟨u, hu, ty, h3⟩ := post_ty w2 r2 h2
  have z := Post.of_pur h3 w2 _ (by simp only [Rep]; rfl)
  exact ⟨v, q, ts.map V.ty, .type u, ts.map Value.type, _, rfl, upd_same, pair_ty ts, ty, kitAny_of hu hn, z⟩
end
end Cl
/-! Lists that change, operators that make lists; what a loop walks. -/
namespace Cl
open PySem PySem.Spec PyProof.Rows L2
section
variable {K : PySem.W.Frag} {T : Tk} {H : Hp} {hc : Hc} {exP : XK} {α : Type}
theorem post_putAt {i : Nat} {xs : List D} {vs : List V} {a : Addr} {f : Unit → M α} {okQ : α → Tk → Hp → Prop} (w : Wd K T hc H) (ha : T.ρ[i]? = some a) (r : RepL K T H xs vs) (l : vs.length ≤ sizeLine) (he : ∃ zs, H a = some (.lst zs))
    (h : Post K T H okQ exP (bnd (putAt i (.lst xs)) f hc)) : Wd K T (hc.set i (.lst xs)) (upd H a (.lst vs)) ∧ Ext T H T (upd H a (.lst vs)) ∧ Post K T (upd H a (.lst vs)) okQ exP (f () (hc.set i (.lst xs))) := by
  have m : a ∈ T.ρ := atm ha
  have e : Ext T H T (upd H a (.lst vs)) := Ext.write m
  have w2 : Wd K T (hc.set i (.lst xs)) (upd H a (.lst vs)) := w.write ha ⟨vs, upd_same, l, RepL.ext w e _ _ r⟩
  refine ⟨w2, e, ?_⟩
  unfold bnd putAt at h
  split at h
  · next q =>
    split at q
    · cases q; exact Post.ext e h
    · cases q
  · next q =>
    split at q <;> cases q
  · exact h.elim
end
section
variable {C : Ck} {G : Gt} {Cs : List D} {k : Nat} {X : Cx} {W : WX} {sc : Scope} {pos : Pos}
variable {a b c e : Expr} {ma mb mc : Env → M D} {es : List Expr} {mA : Env → M (List D)}
theorem few1 {cpos : Pos} {env : PySem.Env} (h : isStar e = false) : ((backTo cpos (starEach [e] env)).all (fun x => !x.1) && (backToKw cpos (keywordEach [] env)).all (fun x => x.1.isSome)
      && decide ([e].length + ([] : List Keyword).length + (if ([] : List Keyword).isEmpty then 0 else 1) < 30)) = true := by
  rw [starFew (by intro x hx; rw [List.mem_singleton] at hx; subst hx; exact h)]; rfl
theorem ce_app {o : Expr} {ap cp : Pos} (hsu : notSuper o = true) (hline : (ap.endLine == cp.line) = true) (hs : isStar e = false) (ho : CE C X W sc o ma) (he : CE C X W sc e mb) :
    CE C X W sc (.Call (.Attribute o "append" ap) [e] [] cp) (fun env => bnd (ma env) fun l => match l with
      | .ref i => bnd (lstAt i) fun _ => bnd (mb env) fun y => bnd (lstAt i) fun xs => guard (xs.length < sizeLine) (bnd (putAt i (.lst (xs ++ [y]))) fun _ => pur .non)
      | _ => stuck) := by
  obtain ⟨ta, pa, _, ra⟩ := ho
  obtain ⟨tb, pb, _, rb⟩ := he
  refine ⟨_, pe_bm PySem.F.plainAttrs_list PySem.F.slot_list_append PySem.F.type_list_append mt_append pa (pa_cons pb pa_nil (star1 hs)) (superNo hsu) (few1 hs) hline (star1 hs) rfl, OwnSt.no rfl, fun T hc H env σ Q w er h => ?_⟩
  refine read1 ra w er h fun d T1 hc1 H1 v e1 w1 er1 r1 h1 => ?_
  cases d with
  | ref i =>
    obtain ⟨xs0, p, vs0, q0, hp, hv0, l0, rr0, h1⟩ := post_lstAt (okP := fun _ _ _ => True) w1 h1
    simp only [Rep] at r1
    obtain ⟨p', ep, hp'⟩ := r1
    rw [hp] at hp'; cases hp'
    subst ep
    refine ⟨.inl ⟨rfl, vs0, SqL.of hv0⟩, ?_⟩
    refine read1 rb w1 er1 h1 fun d2 T2 hc2 H2 u e2 w2 er2 r2 h2 => ?_
    obtain ⟨xs, p2, vs, q, hp2, hv, l, rr, h3⟩ := post_lstAt (okP := fun _ _ _ => True) w2 h2
    have := e2.get hp
    rw [this] at hp2; cases hp2
    obtain ⟨c, h3⟩ := Post.of_guard h3
    have lv : vs.length < sizeLine := by rw [rr.length]; exact c
    obtain ⟨w3, e3, h4⟩ := post_putAt w2 this (rr.append (RepL.cons r2 RepL.nil)) (by rw [List.length_append]; show vs.length + 1 ≤ sizeLine; omega) ⟨vs, hv⟩ h3
    exact ⟨p, vs, u, rfl, rfl, hv, lv, h4.of_pur w3 _ (by simp only [Rep])⟩
  | _ => exact h1.elim
theorem ce_popAt {o : Expr} {ap cp : Pos} (hsu : notSuper o = true) (hline : (ap.endLine == cp.line) = true) (hs : isStar e = false) (ho : CE C X W sc o ma) (he : CE C X W sc e mb) :
    CE C X W sc (.Call (.Attribute o "pop" ap) [e] [] cp) (fun env => bnd (ma env) fun l => match l with
      | .ref i => bnd (lstAt i) fun _ => bnd (mb env) fun y => bnd (intM y) fun k => bnd (lstAt i) fun xs => guard (-(2 ^ 63) ≤ k ∧ k < 2 ^ 63) (bnd (optM (seqIndex? k xs.length)) fun j => bnd (optM xs[j]?) fun v => bnd (putAt i (.lst (xs.eraseIdx j))) fun _ => pur v)
      | _ => stuck) := by
  obtain ⟨ta, pa, _, ra⟩ := ho
  obtain ⟨tb, pb, _, rb⟩ := he
  refine ⟨_, pe_bm PySem.F.plainAttrs_list PySem.F.slot_list_pop PySem.F.type_list_pop mt_popAt pa (pa_cons pb pa_nil (star1 hs)) (superNo hsu) (few1 hs) hline (star1 hs) rfl, OwnSt.no rfl, fun T hc H env σ Q w er h => ?_⟩
  refine read1 ra w er h fun d T1 hc1 H1 v e1 w1 er1 r1 h1 => ?_
  cases d with
  | ref i =>
    obtain ⟨xs0, p, vs0, q0, hp, hv0, l0, rr0, h1⟩ := post_lstAt (okP := fun _ _ _ => True) w1 h1
    simp only [Rep] at r1
    obtain ⟨p', ep, hp'⟩ := r1
    rw [hp] at hp'; cases hp'
    subst ep
    refine ⟨.inl ⟨rfl, vs0, SqL.of hv0⟩, ?_⟩
    refine read1 rb w1 er1 h1 fun d2 T2 hc2 H2 u e2 w2 er2 r2 h2 => ?_
    cases d2 <;> (try exact h2.elim)
    next kk =>
    simp only [Rep] at r2
    have h2' : Post X.K T2 H2 _ (WE W σ) (bnd (lstAt i) (fun xs => guard (-(2 ^ 63) ≤ kk ∧ kk < 2 ^ 63) (bnd (optM (seqIndex? kk xs.length)) fun j => bnd (optM xs[j]?) fun v => bnd (putAt i (.lst (xs.eraseIdx j))) fun _ => pur v)) hc2) := h2
    obtain ⟨xs, p2, vs, q, hp2, hv, l, rr, h3⟩ := post_lstAt (okP := fun _ _ _ => True) w2 h2'
    have := e2.get hp
    rw [this] at hp2; cases hp2
    obtain ⟨c, h3⟩ := Post.of_guard h3
    cases q1 : seqIndex? kk xs.length with
    | none => rw [q1] at h3; exact h3.elim
    | some j =>
      rw [q1] at h3
      have h3 : Post X.K T2 H2 _ (WE W σ) (bnd (optM xs[j]?) (fun v => bnd (putAt i (.lst (xs.eraseIdx j))) fun _ => pur v) hc2) := h3
      cases q2 : xs[j]? with
      | none => rw [q2] at h3; exact h3.elim
      | some y =>
        rw [q2] at h3
        have h3 : Post X.K T2 H2 _ (WE W σ) (bnd (putAt i (.lst (xs.eraseIdx j))) (fun _ => pur y) hc2) := h3
        obtain ⟨z, hz, rz⟩ := rr.get q2
        obtain ⟨w3, e3, h4⟩ := post_putAt w2 this (rr.eraseIdx j) (Nat.le_trans (len_erase vs j) l) ⟨vs, hv⟩ h3
        exact ⟨p, vs, kk, j, z, rfl, by rw [r2], hv, c.1, c.2, by rw [rr.length]; exact q1, hz, h4.of_pur w3 _ (Rep.ext w2 e3 _ _ rz)⟩
  | _ => exact h1.elim
theorem RepL.dropLast {K : PySem.W.Frag} {T : Tk} {H : Hp} {ds : List D} {vs : List V} (h : RepL K T H ds vs) : RepL K T H ds.dropLast vs.dropLast := by
  rw [List.dropLast_eq_take, List.dropLast_eq_take, h.length]
  exact h.take _
theorem ce_pop {o : Expr} {ap cp : Pos} (hsu : notSuper o = true) (hline : (ap.endLine == cp.line) = true) (ho : CE C X W sc o ma) :
    CE C X W sc (.Call (.Attribute o "pop" ap) [] [] cp) (fun env => bnd (ma env) fun l => match l with
      | .ref i => bnd (lstAt i) fun xs => bnd (optM xs[xs.length - 1]?) fun v => bnd (putAt i (.lst xs.dropLast)) fun _ => pur v
      | _ => stuck) := by
  obtain ⟨ta, pa, _, ra⟩ := ho
  refine ⟨_, pe_bm0 PySem.F.plainAttrs_list PySem.F.slot_list_pop PySem.F.type_list_pop mt_pop pa (superNo hsu) hline, OwnSt.no rfl, fun T hc H env σ Q w er h => ?_⟩
  refine read1 ra w er h fun d T1 hc1 H1 v e1 w1 er1 r1 h1 => ?_
  cases d with
  | ref i =>
    obtain ⟨xs, p, vs, q0, hp, hv, l, rr, h1⟩ := post_lstAt (okP := fun _ _ _ => True) w1 h1
    simp only [Rep] at r1
    obtain ⟨p', ep, hp'⟩ := r1
    rw [hp] at hp'; cases hp'
    subst ep
    refine ⟨.inl ⟨rfl, vs, SqL.of hv⟩, ?_⟩
    cases q2 : xs[xs.length - 1]? with
    | none => rw [q2] at h1; exact h1.elim
    | some y =>
      rw [q2] at h1
      have h3 : Post X.K T1 H1 _ (WE W σ) (bnd (putAt i (.lst xs.dropLast)) (fun _ => pur y) hc1) := h1
      obtain ⟨z, hz, rz⟩ := rr.get q2
      obtain ⟨w3, e3, h4⟩ := post_putAt w1 hp rr.dropLast (by rw [List.length_dropLast]; omega) ⟨vs, hv⟩ h3
      exact ⟨p, vs, z, rfl, rfl, hv, by rw [rr.length]; exact hz, h4.of_pur w3 _ (Rep.ext w1 e3 _ _ rz)⟩
  | _ => exact h1.elim
theorem rep_flat_replicate {K : PySem.W.Frag} {T : Tk} {H : Hp} {ds : List D} {vs : List V} (h : RepL K T H ds vs) : ∀ n : Nat, RepL K T H (List.replicate n ds).flatten (List.replicate n vs).flatten
  | 0 => RepL.nil
  | n + 1 => by
    rw [List.replicate_succ, List.replicate_succ, List.flatten_cons, List.flatten_cons]
    exact h.append (rep_flat_replicate h n)
theorem len_flat_replicate (vs : List V) (n : Nat) : (List.replicate n vs).flatten.length = vs.length * n := by
  induction n with
  | zero => rfl
  | succ n ih => rw [List.replicate_succ, List.flatten_cons, List.length_append, ih, Nat.mul_succ, Nat.add_comm]
def rBinL : Operator → R2
  | .Add => rCat
  | .Mult => rRep
  | _ => fun _ _ _ _ => False
theorem opBinL : ∀ o : Operator, OpR X (binaryOp o) (rBinL o)
  | .Add => op_cat
  | .Mult => op_rep
  | .Sub => fun _ _ _ _ _ _ _ _ _ _ _ _ h => h.elim
  | .FloorDiv => fun _ _ _ _ _ _ _ _ _ _ _ _ h => h.elim
  | .Mod => fun _ _ _ _ _ _ _ _ _ _ _ _ h => h.elim
  | .Pow => fun _ _ _ _ _ _ _ _ _ _ _ _ h => h.elim
  | .LShift => fun _ _ _ _ _ _ _ _ _ _ _ _ h => h.elim
  | .RShift => fun _ _ _ _ _ _ _ _ _ _ _ _ h => h.elim
  | .BitAnd => fun _ _ _ _ _ _ _ _ _ _ _ _ h => h.elim
  | .MatMult => fun _ _ _ _ _ _ _ _ _ _ _ _ h => h.elim
  | .Div => fun _ _ _ _ _ _ _ _ _ _ _ _ h => h.elim
  | .BitOr => fun _ _ _ _ _ _ _ _ _ _ _ _ h => h.elim
  | .BitXor => fun _ _ _ _ _ _ _ _ _ _ _ _ h => h.elim
theorem cn_bin {o : Operator} (ha : CE C X W sc a ma) (hb : CE C X W sc b mb) : CN C X W sc (.BinOp a o b pos) (fun env => bnd (ma env) fun x => bnd (mb env) fun y => binL o x y) := by
  obtain ⟨ta, pa, _, ra⟩ := ha
  obtain ⟨tb, pb, _, rb⟩ := hb
  refine ⟨_, pe_op (opBinL o) pa pb, OwnSt.no rfl, fun T hc H env σ Q w er h => ?_⟩
  refine read1 ra w er h fun d T1 hc1 H1 v e1 w1 er1 r1 h1 => ?_
  refine read1 rb w1 er1 h1 fun d2 T2 hc2 H2 u e2 w2 er2 r2 h2 => ?_
  have r1' := Rep.ext w1 e2 _ _ r1
  unfold binL at h2
  split at h2
  · obtain ⟨xs, p, vs, ev, hv, l, rr, h3⟩ := post_ls w2 r1' h2
    obtain ⟨ys, p', us, eu, hu, l', rr', h4⟩ := post_ls w2 r2 h3
    obtain ⟨c, h4⟩ := Post.of_guard h4
    have a1 := rr.length
    have a2 := rr'.length
    exact ⟨p, p', vs, us, ev, eu, hv, hu, by omega, fun q hq => h4.of_pur w2 q _ hq (rr.append rr') (by rw [List.length_append]; omega)⟩
  · obtain ⟨xs, p, vs, ev, hv, l, rr, h3⟩ := post_ls w2 r1' h2
    obtain ⟨c, h4⟩ := Post.of_guard h3
    simp only [Rep] at r2
    have a1 := rr.length
    exact ⟨p, _, vs, ev, r2, hv, c.1, c.2.1, by rw [a1]; exact c.2.2, fun q hq => h4.of_pur w2 q _ hq (rep_flat_replicate rr _) (by rw [len_flat_replicate, a1]; exact c.2.2)⟩
  · exact h2.elim
/-! ### what a loop walks -/
theorem itOk_pure {K : PySem.W.Frag} {T0 : Tk} {H0 : Hp} {J : It} {xs : List D} (go : ∀ (i : Nat) H, i < xs.length → J.go i H) (yld : ∀ (i : Nat) d H x H', xs[i]? = some d → J.yld i H x H' → H' = H ∧ ∃ v, flat d = some v ∧ x = v) (stop : ∀ H, J.stop xs.length H) : ItOk K T0 H0 J ⟨xs, []⟩ :=
  ⟨fun i hi T hc H _ _ _ => go i H hi, fun i d hd T hc H _ w _ x H' y => by
    obtain ⟨e, v, f, ex⟩ := yld i d H x H' hd y
    subst e; subst ex
    exact ⟨Ext.refl T _, w, flat_rep f⟩, fun T hc H _ _ _ => stop H⟩
theorem rangeD_get {lo : Int} {n i : Nat} {d : D} (h : (rangeD lo n)[i]? = some d) : d = .int (lo + i) ∧ i < n := by
  unfold rangeD at h
  rw [List.getElem?_map] at h
  by_cases c : i < n
  · rw [List.getElem?_range c] at h
    cases h
    exact ⟨rfl, c⟩
  · rw [List.getElem?_eq_none_iff.mpr (by simpa using c)] at h
    cases h
theorem rangeD_len {lo : Int} {n : Nat} : (rangeD lo n).length = n := by simp [rangeD]
theorem itOk_range {K : PySem.W.Frag} {T0 : Tk} {H0 : Hp} {lo : Int} {n : Nat} : ItOk K T0 H0 (Itr lo n) ⟨rangeD lo n, []⟩ := by
  refine itOk_pure (fun i H h => ?_) (fun i d H x H' hd y => ?_) (fun H => ?_)
  · rw [rangeD_len] at h; exact h
  · obtain ⟨e, _⟩ := rangeD_get hd
    subst e
    exact ⟨y.1, _, rfl, y.2⟩
  · show n ≤ (rangeD lo n).length
    rw [rangeD_len]; exact Nat.le_refl _
theorem ci_rng1 (g : Gd C G Cs k X W sc) {tg : Expr} {p : Pos} (hv : glB sc ("range" : Str) = true) (hs : isStar a = false) (ha : CE C X W sc a ma) :
    CI X W tg (.Call (.Name ("range" : Str) p) [a] [] pos) (fun env => bnd (ma env) fun x => bnd (intM x) fun j => guard (Rg j) (pur ⟨rangeD 0 j.toNat, []⟩)) := by
  obtain ⟨ta, pa, _, ra⟩ := ha
  refine ⟨_, pi_range1 (g.gl hv) (g.nb _ (by decide +kernel)) (pa_cons pa pa_nil (star1 hs)) (star1 hs), fun T hc H env σ R w er h => ?_⟩
  refine read1 ra w er h fun d T1 hc1 H1 v e1 w1 er1 r1 h1 => ?_
  cases d <;> (try exact h1.elim)
  next j =>
  simp only [Rep] at r1
  obtain ⟨c, h1⟩ := Post.of_guard (show Post X.K T1 H1 _ (WE W σ) (guard (Rg j) (pur (⟨rangeD 0 j.toNat, []⟩ : Src)) hc1) from h1)
  exact ⟨j, by rw [r1], c.1, c.2, h1.of_pur w1 _ itOk_range⟩
theorem ci_rng2 (g : Gd C G Cs k X W sc) {tg : Expr} {p : Pos} (hv : glB sc ("range" : Str) = true) (hs : isStar a = false) (hs2 : isStar b = false) (ha : CE C X W sc a ma) (hb : CE C X W sc b mb) :
    CI X W tg (.Call (.Name ("range" : Str) p) [a, b] [] pos) (fun env => bnd (ma env) fun x => bnd (mb env) fun y => bnd (intM x) fun i => bnd (intM y) fun j => guard (Rg i ∧ Rg j) (pur ⟨rangeD i (j - i).toNat, []⟩)) := by
  obtain ⟨ta, pa, _, ra⟩ := ha
  obtain ⟨tb, pb, _, rb⟩ := hb
  have s2 : starEach [b] X.env = [(false, eval b X.env)] := star1 hs2
  refine ⟨_, pi_range2 (g.gl hv) (g.nb _ (by decide +kernel)) (pa_cons pa (pa_cons pb pa_nil s2) (star1 hs)) (by rw [star1 hs, s2]) s2, fun T hc H env σ R w er h => ?_⟩
  refine read1 ra w er h fun d T1 hc1 H1 v e1 w1 er1 r1 h1 => ?_
  refine read1 rb w1 er1 h1 fun d2 T2 hc2 H2 u e2 w2 er2 r2 h2 => ?_
  cases d <;> (try exact h2.elim)
  next i =>
  cases d2 <;> (try exact h2.elim)
  next j =>
  simp only [Rep] at r1 r2
  obtain ⟨c, h3⟩ := Post.of_guard (show Post X.K T2 H2 _ (WE W σ) (guard (Rg i ∧ Rg j) (pur (⟨rangeD i (j - i).toNat, []⟩ : Src)) hc2) from h2)
  exact ⟨i, j, by rw [r1, r2], ⟨c.1.1, c.1.2, c.2.1, c.2.2⟩, h3.of_pur w2 _ itOk_range⟩
theorem rangeC_get {lo c : Int} {n i : Nat} {d : D} (h : (rangeC lo c n)[i]? = some d) : d = .int (lo + (i : Int) * c) ∧ i < n := by
  unfold rangeC at h
  rw [List.getElem?_map] at h
  by_cases z : i < n
  · rw [List.getElem?_range z] at h
    cases h
    exact ⟨rfl, z⟩
  · rw [List.getElem?_eq_none_iff.mpr (by simpa using z)] at h
    cases h
theorem itOk_rangeC {K : PySem.W.Frag} {T0 : Tk} {H0 : Hp} {lo c : Int} {n : Nat} : ItOk K T0 H0 (Itc lo c n) ⟨rangeC lo c n, []⟩ := by
  have l : (rangeC lo c n).length = n := by simp [rangeC]
  refine itOk_pure (fun i H h => ?_) (fun i d H x H' hd y => ?_) (fun H => ?_)
  · rw [l] at h; exact h
  · obtain ⟨e, _⟩ := rangeC_get hd
    subst e
    exact ⟨y.1, _, rfl, y.2⟩
  · show n ≤ (rangeC lo c n).length
    rw [l]; exact Nat.le_refl _
theorem ci_rng3 (g : Gd C G Cs k X W sc) {tg : Expr} {p : Pos} (hv : glB sc ("range" : Str) = true) (hs : isStar a = false) (hs2 : isStar b = false) (hs3 : isStar c = false) (ha : CE C X W sc a ma) (hb : CE C X W sc b mb) (hcc : CE C X W sc c mc) :
    CI X W tg (.Call (.Name ("range" : Str) p) [a, b, c] [] pos) (fun env => bnd (ma env) fun x => bnd (mb env) fun y => bnd (mc env) fun z => bnd (intM x) fun i => bnd (intM y) fun j => bnd (intM z) fun k =>
      guard (k ≠ 0 ∧ k.natAbs < 1073741824 ∧ Builtin.Range.small i j k = true ∧ 0 ≤ Builtin.Range.rangeSize i j k) (pur ⟨rangeC i k (Builtin.Range.rangeSize i j k).toNat, []⟩)) := by
  obtain ⟨ta, pa, _, ra⟩ := ha
  obtain ⟨tb, pb, _, rb⟩ := hb
  obtain ⟨tc, pc, _, rc⟩ := hcc
  refine ⟨_, pi_range3 (g.gl hv) (g.nb _ (by decide +kernel)) (pa_cons pa (pa_cons pb (pa_cons pc pa_nil (star1 hs3)) (star1 hs2)) (star1 hs)) (star1 hs) (starAll (by
    intro y hy
    rcases List.mem_cons.mp hy with z | z
    · rw [z]; exact hs2
    · rw [List.mem_singleton] at z; rw [z]; exact hs3)), fun T hc H env σ R w er h => ?_⟩
  refine read1 ra w er h fun d T1 hc1 H1 v e1 w1 er1 r1 h1 => ?_
  refine read1 rb w1 er1 h1 fun d2 T2 hc2 H2 u e2 w2 er2 r2 h2 => ?_
  refine read1 rc w2 er2 h2 fun d3 T3 hc3 H3 u3 e3 w3 er3 r3 h3 => ?_
  cases d <;> (try exact h3.elim)
  next i =>
  cases d2 <;> (try exact h3.elim)
  next j =>
  cases d3 <;> (try exact h3.elim)
  next kk =>
  simp only [Rep] at r1 r2 r3
  obtain ⟨cc, h4⟩ := Post.of_guard (show Post X.K T3 H3 _ (WE W σ) (guard (kk ≠ 0 ∧ kk.natAbs < 1073741824 ∧ Builtin.Range.small i j kk = true ∧ 0 ≤ Builtin.Range.rangeSize i j kk) (pur (⟨rangeC i kk (Builtin.Range.rangeSize i j kk).toNat, []⟩ : Src)) hc3) from h3)
  exact ⟨i, j, kk, (Builtin.Range.rangeSize i j kk).toNat, by rw [r1, r2, r3], ⟨cc.1, cc.2.1, cc.2.2.1, by rw [Int.toNat_of_nonneg cc.2.2.2]⟩, h4.of_pur w3 _ itOk_rangeC⟩
/-- a list that is read, tuple, text -/
theorem itOk_list {K : PySem.W.Frag} {T0 : Tk} {H0 : Hp} {hc0 : Hc} {d : D} {v : V} {xs : List D} {dep : List (Nat × List D)} (w0 : Wd K T0 hc0 H0) (r : Rep K T0 H0 d v)
    (hd : (d = .fl xs ∧ dep = []) ∨ (d = .kl xs ∧ dep = []) ∨ ∃ i, d = .ref i ∧ dep = [(i, xs)]) :
    ∃ a, v = .ref a ∧ ItOk K T0 H0 (Itl K a) ⟨xs, dep⟩ ∧ (hc0 = hc0 → Deps ⟨xs, dep⟩ hc0 → ∃ ys, SqL K H0 a ys) := by
  have now : ∃ a, v = .ref a ∧ ∀ T hc H, ExtG T0 H0 T H → Wd K T hc H → Deps ⟨xs, dep⟩ hc → ∃ vs, SqL K H a vs ∧ RepL K T H xs vs := by
    rcases hd with ⟨e, _⟩ | ⟨e, _⟩ | ⟨i, e, e2⟩
    · subst e
      simp only [Rep] at r
      obtain ⟨a, vs, ev, s, l, rr⟩ := r
      exact ⟨a, ev, fun T hc H e w _ => ⟨vs, (sqF_ext e s).sq, RepL.extG w0 e _ _ rr⟩⟩
    · subst e
      simp only [Rep] at r
      obtain ⟨a, vs, ev, s, l, rr⟩ := r
      exact ⟨a, ev, fun T hc H e w _ => ⟨vs, (sqK_ext w0 e s).sq, RepL.extG w0 e _ _ rr⟩⟩
    · subst e; subst e2
      simp only [Rep] at r
      obtain ⟨a, ev, ha⟩ := r
      refine ⟨a, ev, fun T hc H e w dd => ?_⟩
      have q := dd (i, xs) List.mem_cons_self
      obtain ⟨b, hb, vs, e1, l, rr⟩ := w.obj i _ q
      have := e.get ha
      rw [this] at hb; cases hb
      exact ⟨vs, SqL.of e1, rr⟩
  obtain ⟨a, ev, f⟩ := now
  refine ⟨a, ev, ⟨fun i hi T hc H e w dd => ?_, fun i d hx T hc H e w dd x H' y => ?_, fun T hc H e w dd => ?_⟩, fun _ dd => ?_⟩
  · obtain ⟨vs, s, rr⟩ := f T hc H e w dd
    obtain ⟨z, hz, _⟩ := rr.get (List.getElem?_eq_getElem hi)
    exact ⟨vs, z, s, hz⟩
  · obtain ⟨vs, s, rr⟩ := f T hc H e w dd
    obtain ⟨e1, g⟩ := y
    subst e1
    obtain ⟨z, hz, rz⟩ := rr.get hx
    have := g vs s
    rw [this] at hz; cases hz
    exact ⟨Ext.refl T _, w, rz⟩
  · obtain ⟨vs, s, rr⟩ := f T hc H e w dd
    exact ⟨vs, s, by rw [rr.length]; exact Nat.le_refl _⟩
  · obtain ⟨vs, s, rr⟩ := f T0 hc0 H0 (Ext.refl T0 H0).g w0 dd
    exact ⟨vs, s⟩
theorem itOk_tup {K : PySem.W.Frag} {T0 : Tk} {H0 : Hp} {hc0 : Hc} {v : V} {xs : List D} (w0 : Wd K T0 hc0 H0) (r : Rep K T0 H0 (.tup xs) v) :
    ∃ a, v = .ref a ∧ ItOk K T0 H0 (Itt K a) ⟨xs, []⟩ ∧ ∃ ys, SqT K H0 a ys := by
  simp only [Rep] at r
  obtain ⟨a, vs, ev, s, l, rr⟩ := r
  refine ⟨a, ev, ⟨fun i hi T hc H e w dd => ?_, fun i d hx T hc H e w dd x H' y => ?_, fun T hc H e w dd => ?_⟩, vs, s⟩
  · obtain ⟨z, hz, _⟩ := rr.get (List.getElem?_eq_getElem hi)
    exact ⟨vs, z, sqT_ext w0 e s, hz⟩
  · obtain ⟨e1, g⟩ := y
    subst e1
    obtain ⟨z, hz, rz⟩ := (RepL.extG w0 e _ _ rr).get hx
    have := g vs (sqT_ext w0 e s)
    rw [this] at hz; cases hz
    exact ⟨Ext.refl T _, w, rz⟩
  · exact ⟨vs, sqT_ext w0 e s, by rw [rr.length]; exact Nat.le_refl _⟩
theorem itOk_str {K : PySem.W.Frag} {T0 : Tk} {H0 : Hp} {x : Str} : ItOk K T0 H0 (Its x) ⟨x.cps.toList.map fun c => .str ⟨#[c]⟩, []⟩ := by
  have l : (x.cps.toList.map fun c => D.str ⟨#[c]⟩).length = x.cps.size := by simp
  refine itOk_pure (fun i H h => ?_) (fun i d H z H' hd y => ?_) (fun H => ?_)
  · rw [l] at h; exact h
  · obtain ⟨e1, c, hc, ez⟩ := y
    subst e1; subst ez
    rw [List.getElem?_map, Array.getElem?_toList, hc] at hd
    cases hd
    exact ⟨rfl, _, rfl, rfl⟩
  · show x.cps.size ≤ _
    rw [l]; exact Nat.le_refl _
theorem ci_val {tg : Expr} (ha : CE C X W sc a ma) : CI X W tg a (fun env => bnd (ma env) srcM) := by
  obtain ⟨ta, pa, _, ra⟩ := ha
  refine ⟨_, PI.or (PI.or (pi_list pa) (pi_tup pa)) (pi_str pa), fun T hc H env σ R w er h => ?_⟩
  -- what comes is told by the clean run
  dsimp only [bnd] at h
  cases q : ma env hc with
  | bad => rw [q] at h; exact h.elim
  | exc cc fs hc' =>
    refine .inr (ra T hc H env σ _ w er ?_)
    rw [q] at h ⊢
    exact h
  | ok d hc' =>
    have h' : Post X.K T H (fun s T' H' => ∀ J, ItOk X.K T' H' J s → R J H') (WE W σ) (srcM d hc') := by
      rw [q] at h; exact h
    have lst : (∀ T1 H1 v, Ext T H T1 H1 → Wd X.K T1 hc' H1 → Rep X.K T1 H1 d v → ∃ a', v = .ref a' ∧ (∃ xs, SqL X.K H1 a' xs) ∧ R (Itl X.K a') H1) → (((iList X.K ta σ H R) ∨ iTup X.K ta σ H R) ∨ iStr ta σ H R) := fun f =>
      .inl (.inl (ra T hc H env σ _ w er (by rw [q]; exact fun T1 H1 e1 w1 v r1 => f T1 H1 v e1 w1 r1)))
    cases d with
    | tup xs =>
      refine .inl (.inr (ra T hc H env σ _ w er ?_))
      rw [q]
      intro T1 H1 e1 w1 v r1
      obtain ⟨p, ev, it, s⟩ := itOk_tup w1 r1
      exact ⟨p, ev, s, (Post.ext e1 h').of_pur w1 _ it⟩
    | str x =>
      refine .inr (ra T hc H env σ _ w er ?_)
      rw [q]
      intro T1 H1 e1 w1 v r1
      simp only [Rep] at r1
      exact ⟨x, r1, (Post.ext e1 h').of_pur w1 _ itOk_str⟩
    | fl xs =>
      refine lst fun T1 H1 v e1 w1 r1 => ?_
      obtain ⟨p, ev, it, s⟩ := itOk_list w1 r1 (.inl ⟨rfl, rfl⟩)
      exact ⟨p, ev, s rfl (fun _ h => by cases h), (Post.ext e1 h').of_pur w1 _ it⟩
    | kl xs =>
      refine lst fun T1 H1 v e1 w1 r1 => ?_
      obtain ⟨p, ev, it, s⟩ := itOk_list w1 r1 (.inr (.inl ⟨rfl, rfl⟩))
      exact ⟨p, ev, s rfl (fun _ h => by cases h), (Post.ext e1 h').of_pur w1 _ it⟩
    | ref i =>
      refine lst fun T1 H1 v e1 w1 r1 => ?_
      obtain ⟨xs, p, vs, q2, hp, hv, l, rr, h2⟩ := post_lstAt (okP := fun _ _ _ => True) w1 (Post.ext e1 h')
      obtain ⟨p', ev, it, s⟩ := itOk_list (xs := xs) (dep := [(i, xs)]) w1 r1 (.inr (.inr ⟨i, rfl, rfl⟩))
      exact ⟨p', ev, s rfl (fun z hz => by rw [List.mem_singleton] at hz; subst hz; exact q2), h2.of_pur w1 _ it⟩
    | _ => exact h'.elim
end
end Cl
/-! zip of two things, each a list or a tuple. -/
namespace Cl
open PySem PySem.Spec PyProof.Rows L2
/-- an iterator, what it walks: of a tuple or of a list -/
def MIt (t : Bool) (h : Heap) (it l : Addr) (k : Nat) : Prop := match t with
  | true => h.IsTupleIter it l k
  | false => h.IsListIter it l k
def MSq (t : Bool) (h : Heap) (l : Addr) (xs : Array Value) : Prop := match t with
  | true => h.IsTuple l xs
  | false => h.IsList l xs
section
variable {t : Bool} {h h' : Heap} {it l : Addr} {k : Nat} {xs : Array Value}
theorem MIt.over (x : MIt t h it l k) {b : Addr} (e : Heap.ExtBut b h h') (n : it ≠ b) : MIt t h' it l k := by
  cases t
  · exact Heap.IsListIter.extBut x e n
  · exact Heap.IsTupleIter.extBut x e n
theorem MIt.to (x : MIt t h it l k) (e : ∀ o, h.get? it = some o → h'.get? it = some o) : MIt t h' it l k := by
  cases t
  · exact Heap.IsListIter.at x e
  · exact Heap.IsTupleIter.at x e
theorem MIt.ob (x : MIt t h it l k) : ∃ o, h.get? it = some o ∧ ∀ v, o.data ≠ .cell v := by
  cases t
  · obtain ⟨o, a, _, d⟩ := x
    exact ⟨o, a, fun v q => by rw [d] at q; cases q⟩
  · obtain ⟨o, a, _, d⟩ := x
    exact ⟨o, a, fun v q => by rw [d] at q; cases q⟩
theorem MSq.over (x : MSq t h l xs) {b : Addr} (e : Heap.ExtBut b h h') (n : l ≠ b) : MSq t h' l xs := by
  cases t
  · exact Heap.IsList.extBut x e n
  · exact Heap.IsTuple.extBut x e n
theorem MSq.lt (x : MSq t h l xs) : l < h.objs.size := by
  cases t
  · obtain ⟨_, e, _⟩ := x; exact Heap.lt_size e
  · obtain ⟨_, e, _⟩ := x; exact Heap.lt_size e
end
section
variable {prog : Program} {w : World} {A : Around} {E : Value → Shared → Prop} {s : Shared}
theorem next_has {t : Bool} {it l : Addr} {k : Nat} {xs : Array Value} {x : Value} {Q : Value → Shared → Prop} (hi : MIt t s.heap it l k) (hl : MSq t s.heap l xs) (hx : xs[k]? = some x)
    (q : ∀ h', MIt t h' it l (k + 1) → Heap.SameBut it s.heap h' → Q x { s with heap := h' }) : wpAny (model prog w) A (Builtin.SmallTypes.nextOf (.ref it)) Q E s := by
  cases t
  · exact wpAny_nextOf_list_item hi hl hx q
  · exact RZ.nextOf_tuple_item hi hl hx q
theorem next_ends {t : Bool} {it l : Addr} {k : Nat} {xs : Array Value} {Q : Value → Shared → Prop} (hh : A.handled = none) (hi : MIt t s.heap it l k) (hl : MSq t s.heap l xs) (hx : xs[k]? = none)
    (q : ∀ h' e, Heap.ExtBut it s.heap h' → (∃ o, h'.get? e = some o ∧ o.cls = .type "StopIteration") → E (.ref e) { s with heap := h' }) : wpAny (model prog w) A (Builtin.SmallTypes.nextOf (.ref it)) Q E s := by
  cases t
  · exact wpAny_nextOf_list_end hh hi hl hx q
  · exact RZ.nextOf_tuple_end hh hi hl hx q
end
section
variable {prog : Program} {w : World} {A : Around} {E : Value → Shared → Prop} {s : Shared}
variable {z TI TO i1 i2 l1 l2 : Addr} {k1 k2 : Nat} {xs ys : Array Value} {x y a b : Value} {t1 t2 : Bool}
theorem zip_has {Q : Value → Shared → Prop} (D : ZipApart z TI TO i1 i2 l1 l2) (gz : IsZip s.heap z TI TO .none) (gI : IsPair s.heap TI (.ref i1) (.ref i2)) (gO : IsPair s.heap TO a b)
    (a1 : MIt t1 s.heap i1 l1 k1) (a2 : MIt t2 s.heap i2 l2 k2) (b1 : MSq t1 s.heap l1 xs) (b2 : MSq t2 s.heap l2 ys) (ex : xs[k1]? = some x) (ey : ys[k2]? = some y)
    (q : ∀ h', IsZip h' z TI TO (rawInt s.heap.objs.size) → IsPair h' TO x y → MIt t1 h' i1 l1 (k1 + 1) → MIt t2 h' i2 l2 (k2 + 1) → IsPair h' s.heap.objs.size x y → h'.objs.size = s.heap.objs.size + 1 →
      (∀ c o, c ≠ z → c ≠ TO → c ≠ i1 → c ≠ i2 → s.heap.get? c = some o → h'.get? c = some o) → Q (.ref s.heap.objs.size) { s with heap := h' }) :
    wpAny (model prog w) A (Builtin.«zip.__next__» ⟨[.ref z], []⟩) (fun fin s' => ∃ v, fin = .done (.ret v) ∧ Q v s') E s := by
  show wpAny _ _ (field (.ref z) 2 >>= _) _ _ _
  refine wpAny_bind (wpAny_field gz rfl (x := .bool false) rfl ?_); show wpAny _ _ (field (.ref z) 3 >>= _) _ _ _
  refine wpAny_bind (wpAny_field gz rfl (x := .ref TI) rfl ?_); refine wpAny_bind (wpAny_seqItems gI rfl ?_)
  show wpAny _ _ (Builtin.SmallTypes.ownedTupleIsFree (.ref z) >>= _) _ _ _; refine wpAny_bind ?_; unfold Builtin.SmallTypes.ownedTupleIsFree
  refine wpAny_bind (wpAny_field gz rfl (x := .none) rfl (wpAny_pure ?_)); simp only [if_true]
  refine wpAny_bind (wpAny_rule ?_); refine wpAny_bind (wpAny_field gz rfl (x := .ref TO) rfl ?_)
  refine wpAny_bind (wpAny_setField_rec gz (by simp) fun ha gza sa => ?_); replace gza : IsZip ha z TI TO .ellipsis := gza
  refine wpAny_bind ?_; simp only [List.zipIdx_cons, List.zipIdx_nil, List.forIn_cons, List.forIn_nil]
  refine wpAny_bind (wpAny_bind (wpAny_onRaise ?_)); show wpAny _ _ (Builtin.SmallTypes.nextOf (.ref i1) >>= _) _ _ _
  refine wpAny_bind (next_has (a1.over sa.extBut D.i1z) (b1.over sa.extBut D.l1z) ex fun hb a1b sb => wpAny_pure ?_)
  have gOb : IsPair hb TO a b := sb.extBut _ _ D.TOi1 (sa.extBut _ _ D.TOz gO)
  refine wpAny_bind (wpAny_seqItems gOb rfl ?_); refine wpAny_bind (wpAny_updateSeq_pair gOb fun hc gOc sc => ?_)
  replace gOc : IsPair hc TO x b := gOc
  refine wpAny_bind (wpAny_letGo (wpAny_pure ?_)); refine wpAny_bind (wpAny_bind (wpAny_onRaise ?_))
  show wpAny _ _ (Builtin.SmallTypes.nextOf (.ref i2) >>= _) _ _ _
  refine wpAny_bind (next_has (((a2.over sa.extBut D.i2z).over sb.extBut D.i12.symm).over sc.extBut D.TOi2.symm) (((b2.over sa.extBut D.l2z).over sb.extBut D.l2i1).over sc.extBut D.l2TO) ey fun hd a2d sd => wpAny_pure ?_)
  have gOd : IsPair hd TO x b := sd.extBut _ _ D.TOi2 gOc
  refine wpAny_bind (wpAny_seqItems gOd rfl ?_); refine wpAny_bind (wpAny_updateSeq_pair gOd fun he gOe se => ?_)
  replace gOe : IsPair he TO x y := gOe
  refine wpAny_bind (wpAny_letGo (wpAny_pure (wpAny_pure ?_))); refine wpAny_bind (wpAny_seqItems gOe rfl ?_); refine wpAny_bind (wpAny_newTuple ?_)
  have sz : he.objs.size = s.heap.objs.size := by rw [se.1, sd.1, sc.1, sb.1, sa.1]
  have gze : IsZip he z TI TO .ellipsis := se.extBut _ _ D.TOz.symm (sd.extBut _ _ D.i2z.symm (sc.extBut _ _ D.TOz.symm (sb.extBut _ _ D.i1z.symm gza)))
  have st : ∀ c o, c ≠ z → c ≠ TO → c ≠ i1 → c ≠ i2 → s.heap.get? c = some o → he.get? c = some o := fun c o n1 n2 n3 n4 e => se.extBut _ _ n2 (sd.extBut _ _ n4 (sc.extBut _ _ n2 (sb.extBut _ _ n3 (sa.extBut _ _ n1 e))))
  have a1e : MIt t1 he i1 l1 (k1 + 1) := ((a1b.over sc.extBut D.TOi1.symm).over sd.extBut D.i12).over se.extBut D.TOi1.symm
  have a2e : MIt t2 he i2 l2 (k2 + 1) := a2d.over se.extBut D.TOi2.symm
  have zl : z < he.objs.size := Heap.lt_size gze
  show wpAny _ _ (Builtin.SmallTypes.ownedTupleHandOut (.ref z) (.ref he.objs.size) >>= _) _ _ _; refine wpAny_bind ?_; unfold Builtin.SmallTypes.ownedTupleHandOut
  have gzf : IsZip (he.push { cls := .type "tuple", data := .seq #[x, y] }) z TI TO .ellipsis := Heap.get?_push_of_some _ gze
  refine wpAny_bind (wpAny_setField_rec gzf (by simp) fun hg gzg sg => ?_); replace gzg : IsZip hg z TI TO (rawInt he.objs.size) := gzg
  refine wpAny_setField_rec gzg (by simp) fun hi gzi si => ?_; replace gzi : IsZip hi z TI TO (rawInt he.objs.size) := gzi
  have up : ∀ c o, c ≠ z → he.get? c = some o → hi.get? c = some o := fun c o n e => si.extBut _ _ n (sg.extBut _ _ n (Heap.get?_push_of_some _ e))
  have gT : IsPair hi he.objs.size x y := si.extBut _ _ (Nat.ne_of_gt zl) (sg.extBut _ _ (Nat.ne_of_gt zl) (Heap.get?_push_size _ rfl))
  have sz2 : hi.objs.size = he.objs.size + 1 := by rw [si.1, sg.1, Heap.size_push]
  rw [sz] at gzi gT sz2
  refine wpAny_pure ⟨_, rfl, ?_⟩; show Q (.ref he.objs.size) _; rw [sz]
  exact q hi gzi (up _ _ D.TOz gOe) (a1e.to fun o e => up _ o D.i1z e) (a2e.to fun o e => up _ o D.i2z e) gT sz2 fun c o n1 n2 n3 n4 e => up c o n1 (st c o n1 n2 n3 n4 e)
theorem zip_ends {Q : Fin → Shared → Prop} (hh : A.handled = none) (D : ZipApart z TI TO i1 i2 l1 l2) (gz : IsZip s.heap z TI TO .none) (gI : IsPair s.heap TI (.ref i1) (.ref i2)) (gO : IsPair s.heap TO a b)
    (a1 : MIt t1 s.heap i1 l1 k1) (a2 : MIt t2 s.heap i2 l2 k2) (b1 : MSq t1 s.heap l1 xs) (b2 : MSq t2 s.heap l2 ys) (en : xs[k1]? = none ∨ ys[k2]? = none)
    (q : ∀ h' e, (∀ c o, c ≠ z → c ≠ TO → c ≠ i1 → c ≠ i2 → s.heap.get? c = some o → h'.get? c = some o) → (∃ o, h'.get? e = some o ∧ o.cls = .type "StopIteration") → E (.ref e) { s with heap := h' }) :
    wpAny (model prog w) A (Builtin.«zip.__next__» ⟨[.ref z], []⟩) Q E s := by
  show wpAny _ _ (field (.ref z) 2 >>= _) _ _ _
  refine wpAny_bind (wpAny_field gz rfl (x := .bool false) rfl ?_); show wpAny _ _ (field (.ref z) 3 >>= _) _ _ _
  refine wpAny_bind (wpAny_field gz rfl (x := .ref TI) rfl ?_); refine wpAny_bind (wpAny_seqItems gI rfl ?_)
  show wpAny _ _ (Builtin.SmallTypes.ownedTupleIsFree (.ref z) >>= _) _ _ _; refine wpAny_bind ?_; unfold Builtin.SmallTypes.ownedTupleIsFree
  refine wpAny_bind (wpAny_field gz rfl (x := .none) rfl (wpAny_pure ?_)); simp only [if_true]
  refine wpAny_bind (wpAny_rule ?_); refine wpAny_bind (wpAny_field gz rfl (x := .ref TO) rfl ?_)
  refine wpAny_bind (wpAny_setField_rec gz (by simp) fun ha gza sa => ?_); replace gza : IsZip ha z TI TO .ellipsis := gza
  refine wpAny_bind ?_; simp only [List.zipIdx_cons, List.zipIdx_nil, List.forIn_cons, List.forIn_nil]
  refine wpAny_bind (wpAny_bind (wpAny_onRaise ?_)); show wpAny _ _ (Builtin.SmallTypes.nextOf (.ref i1) >>= _) _ _ _
  by_cases hx : xs[k1]? = none
  · refine wpAny_bind (next_ends hh (a1.over sa.extBut D.i1z) (b1.over sa.extBut D.l1z) hx fun hb e sb ⟨oe, oe1, oe2⟩ => ?_)
    have gzb : IsZip hb z TI TO .ellipsis := sb _ _ D.i1z.symm gza
    have ne : e ≠ z := fun r => by subst r; rw [gzb] at oe1; cases oe1; simp at oe2
    exact wpAny_setField_rec gzb (by simp) fun hc _ sc => q hc e (fun c o n1 _ n3 _ r => sc.extBut _ _ n1 (sb _ _ n3 (sa.extBut _ _ n1 r))) ⟨oe, sc.extBut _ _ ne oe1, oe2⟩
  · obtain ⟨x, ex⟩ := Option.ne_none_iff_exists'.mp hx
    have ey : ys[k2]? = none := en.resolve_left hx
    refine wpAny_bind (next_has (a1.over sa.extBut D.i1z) (b1.over sa.extBut D.l1z) ex fun hb a1b sb => wpAny_pure ?_)
    have gOb : IsPair hb TO a b := sb.extBut _ _ D.TOi1 (sa.extBut _ _ D.TOz gO)
    refine wpAny_bind (wpAny_seqItems gOb rfl ?_); refine wpAny_bind (wpAny_updateSeq_pair gOb fun hc gOc sc => ?_)
    refine wpAny_bind (wpAny_letGo (wpAny_pure ?_)); refine wpAny_bind (wpAny_bind (wpAny_onRaise ?_))
    show wpAny _ _ (Builtin.SmallTypes.nextOf (.ref i2) >>= _) _ _ _
    refine wpAny_bind (next_ends hh (((a2.over sa.extBut D.i2z).over sb.extBut D.i12.symm).over sc.extBut D.TOi2.symm) (((b2.over sa.extBut D.l2z).over sb.extBut D.l2i1).over sc.extBut D.l2TO) ey fun hd e sd ⟨oe, oe1, oe2⟩ => ?_)
    have gzd : IsZip hd z TI TO .ellipsis := sd _ _ D.i2z.symm (sc.extBut _ _ D.TOz.symm (sb.extBut _ _ D.i1z.symm gza))
    have ne : e ≠ z := fun r => by subst r; rw [gzd] at oe1; cases oe1; simp at oe2
    exact wpAny_setField_rec gzd (by simp) fun hf _ sf => q hf e (fun c o n1 n2 n3 n4 r => sf.extBut _ _ n1 (sd _ _ n4 (sc.extBut _ _ n2 (sb.extBut _ _ n3 (sa.extBut _ _ n1 r))))) ⟨oe, sf.extBut _ _ ne oe1, oe2⟩
theorem py_zip_has {Q : Option Value → Shared → Prop} (D : ZipApart z TI TO i1 i2 l1 l2) (gz : IsZip s.heap z TI TO .none) (gI : IsPair s.heap TI (.ref i1) (.ref i2)) (gO : IsPair s.heap TO a b)
    (a1 : MIt t1 s.heap i1 l1 k1) (a2 : MIt t2 s.heap i2 l2 k2) (b1 : MSq t1 s.heap l1 xs) (b2 : MSq t2 s.heap l2 ys) (ex : xs[k1]? = some x) (ey : ys[k2]? = some y)
    (q : ∀ h', IsZip h' z TI TO (rawInt s.heap.objs.size) → IsPair h' TO x y → MIt t1 h' i1 l1 (k1 + 1) → MIt t2 h' i2 l2 (k2 + 1) → IsPair h' s.heap.objs.size x y → h'.objs.size = s.heap.objs.size + 1 →
      (∀ c o, c ≠ z → c ≠ TO → c ≠ i1 → c ≠ i2 → s.heap.get? c = some o → h'.get? c = some o) → Q (some (.ref s.heap.objs.size)) { s with heap := h' }) : wpAny (model prog w) A (pyNext (.ref z)) Q E s := by
  have ty : s.TypeIs (.ref z) "zip" := ⟨_, gz, rfl⟩
  unfold pyNext
  exact wpAny_bind (wpAny_attempt (wpAny_callSpecial?_slot (name := Str.ofString "__next__") ty F.slot_zip_next (wpAny_call_entry F.slot_zip_next ty F.entry_zip_next
    (zip_has D gz gI gO a1 a2 b1 b2 ex ey fun h' r1 r2 r3 r4 r5 r6 r7 => wpAny_pure (q h' r1 r2 r3 r4 r5 r6 r7)) (F.args_zip_next_1 _))))
theorem py_zip_ends {Q : Option Value → Shared → Prop} (hh : A.handled = none) (D : ZipApart z TI TO i1 i2 l1 l2) (gz : IsZip s.heap z TI TO .none) (gI : IsPair s.heap TI (.ref i1) (.ref i2)) (gO : IsPair s.heap TO a b)
    (a1 : MIt t1 s.heap i1 l1 k1) (a2 : MIt t2 s.heap i2 l2 k2) (b1 : MSq t1 s.heap l1 xs) (b2 : MSq t2 s.heap l2 ys) (en : xs[k1]? = none ∨ ys[k2]? = none)
    (q : ∀ h', (∀ c o, c ≠ z → c ≠ TO → c ≠ i1 → c ≠ i2 → s.heap.get? c = some o → h'.get? c = some o) → Q none { s with heap := h' }) : wpAny (model prog w) A (pyNext (.ref z)) Q E s := by
  have ty : s.TypeIs (.ref z) "zip" := ⟨_, gz, rfl⟩
  unfold pyNext
  refine wpAny_bind (wpAny_attempt (wpAny_callSpecial?_slot (name := Str.ofString "__next__") ty F.slot_zip_next (wpAny_call_entry F.slot_zip_next ty F.entry_zip_next
    (zip_ends hh D gz gI gO a1 a2 b1 b2 en fun h' e k ⟨o, ho, hc⟩ => ?_) (F.args_zip_next_1 _))))
  exact wpAny_bind (wpAny_isInstance (T := "StopIteration") (b := true) ⟨o, ho, hc⟩ isSubtype_stop (wpAny_pure (q _ k)))
end
/-- the making of a zip: the heaps one behind the other -/
def itO (t : Bool) (l : Addr) : Obj := { cls := .type (if t then "tuple_iterator" else "list_iterator"), data := .fields #[.ref l, .int 0 0] }
abbrev mzA (h : Heap) (t : Bool) (l1 : Addr) : Heap := h.push (itO t l1)
abbrev mzB (h : Heap) (t1 t2 : Bool) (l1 l2 : Addr) : Heap := (mzA h t1 l1).push (itO t2 l2)
abbrev mzC (h : Heap) (t1 t2 : Bool) (l1 l2 : Addr) : Heap := (mzB h t1 t2 l1 l2).push { cls := .type "tuple", data := .seq #[.ref h.objs.size, .ref (mzA h t1 l1).objs.size] }
abbrev mzD (h : Heap) (t1 t2 : Bool) (l1 l2 : Addr) : Heap := (mzC h t1 t2 l1 l2).push { cls := .type "tuple", data := .seq #[.none, .none] }
abbrev mzE (h : Heap) (t1 t2 : Bool) (l1 l2 : Addr) : Heap := (mzD h t1 t2 l1 l2).push { cls := .type "zip", data := .fields #[.none, .bool false, .bool false, .ref (mzB h t1 t2 l1 l2).objs.size, .ref (mzC h t1 t2 l1 l2).objs.size] }
theorem iter_m {prog : Program} {w : World} {A : Around} {E : Value → Shared → Prop} {s : Shared} {t : Bool} {l : Addr} {xs : Array Value} {Q : Value → Shared → Prop} (hl : MSq t s.heap l xs)
    (q : Q (.ref s.heap.objs.size) { s with heap := s.heap.push (itO t l) }) : wpAny (model prog w) A (pyIter (.ref l)) Q E s := by
  cases t
  · exact wpAny_pyIter_list hl q
  · exact wpAny_pyIter_tuple hl q
theorem new_m (t1 t2 : Bool) (l1 l2 : Addr) (xs ys : Array Value) :
    Meets (Builtin.«zip.__new__» ⟨[.type "zip", .ref l1, .ref l2], []⟩) (fun _ R s => MSq t1 s.heap l1 xs ∧ MSq t2 s.heap l2 ys ∧ R (.ok (.ret (.ref (mzD s.heap t1 t2 l1 l2).objs.size))) { s with heap := mzE s.heap t1 t2 l1 l2 }) :=
  .of_wp fun prog w A R s h => by
    obtain ⟨hp, g, d, tk, os⟩ := s
    obtain ⟨m1, m2, h⟩ := h
    have hsub := sub_zip
    have L1 : MSq t1 (Shared.heap ⟨hp, g, d, tk, os⟩) l1 xs := m1
    have L2 : MSq t2 (Shared.heap ⟨mzA hp t1 l1, g, d, tk, os⟩) l2 ys := by
      cases t2
      · exact Heap.IsList.push m2 _
      · exact Heap.IsTuple.push m2 _
    wp_walk using iter_m L1, iter_m L2
    exact ⟨_, rfl, h⟩
theorem call_zipM {prog : Program} {w : World} {A : Around} {E : Value → Shared → Prop} {s : Shared} {t1 t2 : Bool} {l1 l2 : Addr} {xs ys : Array Value} {Q : Value → Shared → Prop} (m1 : MSq t1 s.heap l1 xs) (m2 : MSq t2 s.heap l2 ys)
    (q : ∀ h', IsZip h' (s.heap.objs.size + 4) (s.heap.objs.size + 2) (s.heap.objs.size + 3) .none → IsPair h' (s.heap.objs.size + 2) (.ref s.heap.objs.size) (.ref (s.heap.objs.size + 1)) → IsPair h' (s.heap.objs.size + 3) .none .none →
      MIt t1 h' s.heap.objs.size l1 0 → MIt t2 h' (s.heap.objs.size + 1) l2 0 → (∀ c o, s.heap.get? c = some o → h'.get? c = some o) → Q (.ref (s.heap.objs.size + 4)) { s with heap := h' }) :
    wpAny (model prog w) A (call (.type "zip") [.ref l1, .ref l2]) Q E s := by
  refine callType_new F.called_zip (by decide) (F.typeCall_zip_2 _ _) (F.newCall_zip_2 _ _) (fun obj => F.args_object_init_3 obj _ _) F.entry_zip_new (new_m t1 t2 l1 l2 xs ys) ⟨m1, m2, ?_⟩
  have e1 : (mzA s.heap t1 l1).objs.size = s.heap.objs.size + 1 := Heap.size_push ..
  have e2 : (mzB s.heap t1 t2 l1 l2).objs.size = s.heap.objs.size + 2 := by rw [Heap.size_push, e1]
  have e3 : (mzC s.heap t1 t2 l1 l2).objs.size = s.heap.objs.size + 3 := by rw [Heap.size_push, e2]
  have e4 : (mzD s.heap t1 t2 l1 l2).objs.size = s.heap.objs.size + 4 := by rw [Heap.size_push, e3]
  have up := fun (h : Heap) (o : Obj) {c : Addr} {r : Obj} (e : h.get? c = some r) => Heap.get?_push_of_some (h := h) o e
  have r5 : (mzE s.heap t1 t2 l1 l2).get? (mzD s.heap t1 t2 l1 l2).objs.size = some _ := Heap.get?_push_size _ rfl
  have r4 : (mzE s.heap t1 t2 l1 l2).get? (mzC s.heap t1 t2 l1 l2).objs.size = some _ := up _ _ (Heap.get?_push_size _ rfl)
  have r3 : (mzE s.heap t1 t2 l1 l2).get? (mzB s.heap t1 t2 l1 l2).objs.size = some _ := up _ _ (up _ _ (Heap.get?_push_size _ rfl))
  have r2 : (mzE s.heap t1 t2 l1 l2).get? (mzA s.heap t1 l1).objs.size = some (itO t2 l2) := up _ _ (up _ _ (up _ _ (Heap.get?_push_size _ (by cases t2 <;> rfl))))
  have r1 : (mzE s.heap t1 t2 l1 l2).get? s.heap.objs.size = some (itO t1 l1) := up _ _ (up _ _ (up _ _ (up _ _ (Heap.get?_push_size _ (by cases t1 <;> rfl)))))
  show _ ∧ _
  rw [e2, e3, e4] at r5
  rw [e1, e2] at r3
  rw [e3] at r4
  rw [e1] at r2
  rw [e4]
  have it : ∀ {t : Bool} {c l : Addr}, (mzE s.heap t1 t2 l1 l2).get? c = some (itO t l) → MIt t (mzE s.heap t1 t2 l1 l2) c l 0 := fun {t c l} e => by
    cases t
    · exact ⟨_, e, rfl, rfl⟩
    · exact ⟨_, e, rfl, rfl⟩
  exact ⟨⟨_, r5, rfl⟩, q _ r5 r3 r4 (it r1) (it r2) fun c o x => up _ _ (up _ _ (up _ _ (up _ _ (up _ _ x))))⟩
/-! ### the walk -/
def MQ (K : PySem.W.Frag) (t : Bool) (H : Hp) (a : Addr) (xs : List V) : Prop := match t with
  | true => SqT K H a xs
  | false => SqL K H a xs
theorem mq_sq {X : Cx} {pins : List (Addr × Obj)} {σ : L2.St} {H : Hp} {s : Shared} {t : Bool} {a : Addr} {xs : List V} (I : Inv X pins σ H s) (h : MQ X.K t H a xs) : ∃ its : List Value, Vals xs its ∧ MSq t s.heap a its.toArray := by
  cases t
  · obtain ⟨its, rv, p, _⟩ := I.list h
    exact ⟨its, rv, p.isList⟩
  · obtain ⟨its, rv, p, _⟩ := I.tuple h
    exact ⟨its, rv, p⟩
theorem mq_inj {X : Cx} {pins : List (Addr × Obj)} {σ : L2.St} {H : Hp} {s : Shared} {t : Bool} {a : Addr} {xs ys : List V} (I : Inv X pins σ H s) (h : MQ X.K t H a xs) (h' : MQ X.K t H a ys) : xs = ys := by
  cases t
  · exact I.list_inj h h'
  · exact I.tuple_inj h h'
def ItM (K : PySem.W.Frag) (t1 t2 : Bool) (a b : Addr) : It :=
  ⟨fun i H => ∃ (xs ys : List V) (x y : V), MQ K t1 H a xs ∧ MQ K t2 H b ys ∧ xs[i]? = some x ∧ ys[i]? = some y,
    fun i H v H' => ∃ T x y, v = .ref T ∧ H T = none ∧ H' = upd H T (.tup [x, y]) ∧ (∀ xs, MQ K t1 H a xs → xs[i]? = some x) ∧ ∀ ys, MQ K t2 H b ys → ys[i]? = some y,
    fun i H => ∃ xs ys : List V, MQ K t1 H a xs ∧ MQ K t2 H b ys ∧ (xs.length ≤ i ∨ ys.length ≤ i)⟩
theorem turn_m {P : Program} {w : World} {K : PySem.W.Frag} {t1 t2 : Bool} {elts : List Expr} {kk : Nat} {tpos : Pos} {a b z TI TO i1 i2 : Addr} (D : ZipApart z TI TO i1 i2 a b) :
    Turn P w K (.Tuple elts kk tpos) (ItM K t1 t2 a b) [z, TI, TO, i1, i2] z (fun i h => IsZip h z TI TO .none ∧ IsPair h TI (.ref i1) (.ref i2) ∧ (∃ x y, IsPair h TO x y) ∧ MIt t1 h i1 a i ∧ MIt t2 h i2 b i) where
  mem := by simp
  obj := fun i h ⟨gz, gI, ⟨x, y, gO⟩, a1, a2⟩ c hc => by
    simp only [List.mem_cons, List.not_mem_nil, or_false] at hc
    rcases hc with rfl | rfl | rfl | rfl | rfl
    · exact ⟨_, gz, fun v q => by cases q⟩
    · exact ⟨_, gI, fun v q => by cases q⟩
    · exact ⟨_, gO, fun v q => by cases q⟩
    · exact a1.ob
    · exact a2.ob
  keep := fun i h h' ⟨gz, gI, ⟨x, y, gO⟩, a1, a2⟩ k => ⟨k z (by simp) _ gz, k TI (by simp) _ gI, ⟨x, y, k TO (by simp) _ gO⟩, a1.to fun o q => k i1 (by simp) o q, a2.to fun o q => k i2 (by simp) o q⟩
  item := by
    intro X hP hw hK hc i pins s σ H E I hf ⟨gz, gI, ⟨x0, y0, gO⟩, a1, a2⟩ ⟨xs, ys, x, y, qx, qy, ex, ey⟩
    subst hP hw hK
    obtain ⟨is1, rv1, p1⟩ := mq_sq I qx
    obtain ⟨is2, rv2, p2⟩ := mq_sq I qy
    obtain ⟨u1, hu1, ru1⟩ := rv1.get ex
    obtain ⟨u2, hu2, ru2⟩ := rv2.get ey
    have zl : z < s.heap.objs.size := Heap.lt_size gz
    have lt : ∀ c ∈ [z, TI, TO, i1, i2], c < s.heap.objs.size := fun c hc => by
      simp only [List.mem_cons, List.not_mem_nil, or_false] at hc
      rcases hc with rfl | rfl | rfl | rfl | rfl
      · exact zl
      · exact Heap.lt_size gI
      · exact Heap.lt_size gO
      · obtain ⟨_, e, _⟩ := a1.ob; exact Heap.lt_size e
      · obtain ⟨_, e, _⟩ := a2.ob; exact Heap.lt_size e
    refine py_zip_has D gz gI gO a1 a2 p1 p2 (x := u1) (y := u2) (by simpa using hu1) (by simpa using hu2) fun h' gz' gO' a1' a2' gT sz hk => ?_
    refine ⟨_, rfl, wpAny_letOwnedTupleGo_zip (s := { s with heap := h' }) gz' fun h2 gz2 sb => ?_⟩
    have gT2 : h2.get? s.heap.objs.size = some { cls := .type "tuple", data := .seq #[u1, u2] } := (sb.2 _ (Nat.ne_of_gt zl)).trans gT
    have ok : ObjOk X.prog X.w (upd H s.heap.objs.size (.tup [x, y])) h2 s.heap.objs.size (.tup [x, y]) := ⟨by show 2 ≤ sizeLine; decide, [u1, u2], .cons ru1 (.cons ru2 .nil), ⟨_, gT2, rfl, _, rfl⟩⟩
    have I1 : Inv X pins σ (upd H s.heap.objs.size (.tup [x, y])) { s with heap := h2 } := I.turnedNew (t' := s.toks) (ch := [z, TI, TO, i1, i2]) (fun c o hb q => by
      simp only [List.mem_cons, List.not_mem_nil, or_false, not_or] at hb
      exact (sb.2 c hb.1).trans (hk c o hb.1 hb.2.2.1 hb.2.2.2.1 hb.2.2.2.2 q)) hf (Nat.le_refl _) ok
    refine ⟨.ref s.heap.objs.size, _, I1, rfl, ⟨_, x, y, rfl, I.hok.fresh (Nat.le_refl _), rfl, fun l hl => by rw [mq_inj I hl qx]; exact ex, fun l hl => by rw [mq_inj I hl qy]; exact ey⟩, ⟨gz2, ?_, ⟨u1, u2, ?_⟩, ?_, ?_⟩, fun c hc => ?_⟩
    · exact (sb.2 _ D.TIz).trans (hk _ _ D.TIz D.TITO D.TIi1 D.TIi2 gI)
    · exact (sb.2 _ D.TOz).trans gO'
    · exact a1'.to fun o q => (sb.2 _ D.i1z).trans q
    · exact a2'.to fun o q => (sb.2 _ D.i2z).trans q
    · rw [upd_ne (Nat.ne_of_lt (lt c hc))]
      exact (hf c hc).1
  done := by
    intro X hP hw hK hc i pins s σ H E I hf ⟨gz, gI, ⟨x0, y0, gO⟩, a1, a2⟩ ⟨xs, ys, qx, qy, en⟩
    subst hP hw hK
    obtain ⟨is1, rv1, p1⟩ := mq_sq I qx
    obtain ⟨is2, rv2, p2⟩ := mq_sq I qy
    have n1 := rv1.length
    have n2 := rv2.length
    have he : is1.toArray[i]? = none ∨ is2.toArray[i]? = none := by
      rcases en with q | q
      · exact .inl (by simp; omega)
      · exact .inr (by simp; omega)
    exact py_zip_ends (I.ok.hd hc) D gz gI gO a1 a2 p1 p2 he fun h' hk => ⟨rfl, I.turnedL (t' := s.toks) (ch := [z, TI, TO, i1, i2]) (fun c o hb q => by
      simp only [List.mem_cons, List.not_mem_nil, or_false, not_or] at hb
      exact hk c o hb.1 hb.2.2.1 hb.2.2.2.1 hb.2.2.2.2 q) hf⟩
  self := fun A i s Q E st h => wpAny_pyIter_zip st.1 h
def iZipM (K : PySem.W.Frag) (ta : TA) : TI := fun σ H R => ta σ H fun vs H1 => ∃ t1 t2 a b xs ys, vs = [.ref a, .ref b] ∧ MQ K t1 H1 a xs ∧ MQ K t2 H1 b ys ∧ R (ItM K t1 t2 a b) H1
theorem pi_zipM {X : Cx} {e e2 : Expr} {ta : TA} {p pos tpos : Pos} {elts : List Expr} {kk : Nat} (hg : Gl X "zip") (hm : X.mg "zip" = none) (ha : PA X [e, e2] ta)
    (hs : starEach [e, e2] X.env = (false, eval e X.env) :: starEach [e2] X.env := by rfl) (hpl : (backTo pos (starEach [e2] X.env)).any (·.1) = false := by rfl) :
    PI X (.Tuple elts kk tpos) (.Call (.Name "zip" p) [e, e2] [] pos) (iZipM X.K ta) := by
  refine ⟨fun pins s σ H R I h => ?_⟩
  refine Call_ (ld_blt I hg hm PyProof.Rows.boot_zip (PyProof.Rows.callWith_type1 (thn (ha.run pos pins s σ H _ I h) fun us s1 ⟨vs, H1, I1, r1, t1, t2, a, b, xs, ys, ex, qx, qy, q⟩ => ?_) hs hpl))
  subst ex
  obtain _ | ⟨r, _ | ⟨r', rr⟩⟩ := r1
  cases rr
  cases r
  cases r'
  have fresh : ∀ c, c ∈ [s1.heap.objs.size + 4, s1.heap.objs.size + 2, s1.heap.objs.size + 3, s1.heap.objs.size, s1.heap.objs.size + 1] → FpOk X pins H1 c := fun c hc => by
    have hle : s1.heap.objs.size ≤ c := by
      simp only [List.mem_cons, List.not_mem_nil, or_false] at hc
      rcases hc with rfl | rfl | rfl | rfl | rfl <;> first | exact Nat.le_add_right _ _ | exact Nat.le_refl _
    exact I1.fpOk hle (I1.hok.fresh hle)
  obtain ⟨is1, rv1, p1⟩ := mq_sq I1 qx
  obtain ⟨is2, rv2, p2⟩ := mq_sq I1 qy
  refine call_zipM p1 p2 fun h' gz gI gO a1 a2 hk => wpAny_pyIter_zip gz ?_
  have I2 : Inv X pins σ H1 { s1 with heap := h' } := I1.kept (t' := s1.toks) hk
  exact ⟨s1.heap.objs.size + 4, _, _, _, H1, rfl, I2, turn_m (PySem.W.ktu_apart s1.heap.objs.size a b p1.lt p2.lt), ⟨gz, gI, ⟨_, _, gO⟩, a1, a2⟩, fresh, q⟩
end Cl
/-! enumerate of a list or a tuple. -/
namespace Cl
open PySem PySem.Spec PyProof.Rows L2
section
variable {prog : Program} {w : World} {A : Around} {E : Value → Shared → Prop} {s : Shared} {t : Bool} {e it l : Addr} {i : Nat} {xs : Array Value} {x old : Value}
theorem enm_has {Q : Value → Shared → Prop} (ge : IsEnum s.heap e it i old) (a1 : MIt t s.heap it l i) (b1 : MSq t s.heap l xs) (ex : xs[i]? = some x) (ne : e ≠ it)
    (q : ∀ h', IsEnumOut h' e it ((i : Int) + 1) x s.heap.objs.size → MIt t h' it l (i + 1) → h'.get? s.heap.objs.size = some { cls := .type "tuple", data := .seq #[.int i s.toks, x] } → h'.objs.size = s.heap.objs.size + 1 →
      (∀ b o, b ≠ e → b ≠ it → s.heap.get? b = some o → h'.get? b = some o) → Q (.ref s.heap.objs.size) { s with heap := h', toks := s.toks + 1 }) :
    wpAny (model prog w) A (Builtin.«enumerate.__next__» ⟨[.ref e], []⟩) (fun fin s' => ∃ v, fin = .done (.ret v) ∧ Q v s') E s := by
  obtain ⟨hp, g, d, tk, os⟩ := s
  show wpAny _ _ (field (.ref e) 2 >>= _) _ _ _; refine wpAny_bind (wpAny_field ge rfl (x := .ref it) rfl ?_)
  refine wpAny_bind (next_has a1 b1 ex fun ha a1a sa => ?_); replace sa : Heap.SameBut it hp ha := sa
  have gea : IsEnum ha e it i old := (sa.2 e ne).trans ge
  show wpAny _ _ (field (.ref e) 3 >>= _) _ _ ⟨ha, g, d, tk, os⟩; refine wpAny_bind (wpAny_field gea rfl (x := rawInt i) rfl ?_)
  show wpAny _ _ (field (.ref e) 4 >>= _) _ _ ⟨ha, g, d, tk, os⟩; refine wpAny_bind (wpAny_field gea rfl (x := .none) rfl ?_)
  show wpAny _ _ (mkInt i >>= _) _ _ ⟨ha, g, d, tk, os⟩; refine wpAny_bind (wpAny_mkInt ?_)
  show wpAny _ _ (setField (.ref e) 3 (rawInt ((i : Int) + 1)) >>= _) _ _ ⟨ha, g, d, tk + 1, os⟩
  refine wpAny_bind (wpAny_setField_rec gea (by simp) fun hb geb sb => ?_); replace sb : Heap.SameBut e ha hb := sb; replace geb : IsEnum hb e it ((i : Int) + 1) old := geb
  show wpAny _ _ (setField (.ref e) 4 .none >>= _) _ _ ⟨hb, g, d, tk + 1, os⟩
  refine wpAny_bind (wpAny_setField_rec geb (by simp) fun hc gec sc => ?_); replace sc : Heap.SameBut e hb hc := sc; replace gec : IsEnum hc e it ((i : Int) + 1) old := gec
  show wpAny _ _ (newTuple [.int i tk, x] >>= _) _ _ ⟨hc, g, d, tk + 1, os⟩; refine wpAny_bind (wpAny_newTuple ?_)
  have ged : IsEnum (hc.push { cls := .type "tuple", data := .seq #[.int i tk, x] }) e it ((i : Int) + 1) old := Heap.get?_push_of_some _ gec
  have sz : hc.objs.size = hp.objs.size := by rw [sc.1, sb.1, sa.1]
  have el : e < hp.objs.size := Heap.lt_size ge
  generalize eh : hc.push { cls := .type "tuple", data := .seq #[.int i tk, x] } = hd at ged
  have gT : hd.get? hp.objs.size = some { cls := .type "tuple", data := .seq #[.int i tk, x] } := by rw [← eh, ← sz]; exact Heap.get?_push_size _ rfl
  have szd : hd.objs.size = hp.objs.size + 1 := by rw [← eh, Heap.size_push, sz]
  have st : ∀ b o, b ≠ e → b ≠ it → hp.get? b = some o → hd.get? b = some o := fun b o n1 n2 r => by
    rw [← eh]; exact Heap.get?_push_of_some _ (sc.extBut b o n1 (sb.extBut b o n1 (sa.extBut b o n2 r)))
  have a1d : MIt t hd it l (i + 1) := ((a1a.over sb.extBut ne.symm).over sc.extBut ne.symm).to fun o r => by rw [← eh]; exact Heap.get?_push_of_some _ r
  show wpAny _ _ (Builtin.SmallTypes.ownedTupleIsFree (.ref e) >>= _) _ _ ⟨hd, g, d, tk + 1, os⟩
  rw [sz]
  clear eh gec sc geb sb gea sa a1a sz
  refine wpAny_bind ?_; unfold Builtin.SmallTypes.ownedTupleIsFree
  refine wpAny_bind (wpAny_field ged rfl (x := .none) rfl (wpAny_pure ?_)); simp only [if_true]
  refine wpAny_bind (wpAny_rule ?_); refine wpAny_bind (wpAny_field ged rfl (x := old) rfl ?_)
  refine wpAny_bind (wpAny_setField_rec ged (by simp) fun hf gef sf => ?_); replace sf : Heap.SameBut e hd hf := sf; replace gef : IsEnum hf e it ((i : Int) + 1) x := gef
  show wpAny _ _ (Builtin.SmallTypes.ownedTupleHandOut (.ref e) (.ref hp.objs.size) >>= _) _ _ ⟨hf, g, d, tk + 1, os⟩
  refine wpAny_bind ?_; unfold Builtin.SmallTypes.ownedTupleHandOut
  refine wpAny_bind (wpAny_setField_rec gef (by simp) fun hg geg sg => ?_); replace sg : Heap.SameBut e hf hg := sg; replace geg : IsEnumOut hg e it ((i : Int) + 1) x hp.objs.size := geg
  refine wpAny_setField_rec geg (by simp) fun hi gei si => ?_; replace si : Heap.SameBut e hg hi := si; replace gei : IsEnumOut hi e it ((i : Int) + 1) x hp.objs.size := gei
  have up : ∀ b o, b ≠ e → hd.get? b = some o → hi.get? b = some o := fun b o n r => si.extBut b o n (sg.extBut b o n (sf.extBut b o n r))
  exact wpAny_bind (wpAny_letGo (wpAny_pure ⟨_, rfl, q hi gei (a1d.to fun o r => up _ o ne.symm r) (up _ _ (Nat.ne_of_gt el) gT) (by rw [si.1, sg.1, sf.1, szd]) fun b o n1 n2 r => up b o n1 (st b o n1 n2 r)⟩))
theorem py_enm_has {Q : Option Value → Shared → Prop} (ge : IsEnum s.heap e it i old) (a1 : MIt t s.heap it l i) (b1 : MSq t s.heap l xs) (ex : xs[i]? = some x) (ne : e ≠ it)
    (q : ∀ h', IsEnumOut h' e it ((i : Int) + 1) x s.heap.objs.size → MIt t h' it l (i + 1) → h'.get? s.heap.objs.size = some { cls := .type "tuple", data := .seq #[.int i s.toks, x] } → h'.objs.size = s.heap.objs.size + 1 →
      (∀ b o, b ≠ e → b ≠ it → s.heap.get? b = some o → h'.get? b = some o) → Q (some (.ref s.heap.objs.size)) { s with heap := h', toks := s.toks + 1 }) : wpAny (model prog w) A (pyNext (.ref e)) Q E s := by
  have ty : s.TypeIs (.ref e) "enumerate" := ⟨_, ge, rfl⟩
  unfold pyNext
  exact wpAny_bind (wpAny_attempt (wpAny_callSpecial?_slot (name := Str.ofString "__next__") ty F.slot_enumerate_next (wpAny_call_entry F.slot_enumerate_next ty F.entry_enumerate_next
    (enm_has ge a1 b1 ex ne fun h' r1 r2 r3 r4 r5 => wpAny_pure (q h' r1 r2 r3 r4 r5)) (F.args_enumerate_next_1 _))))
theorem py_enm_ends {Q : Option Value → Shared → Prop} (hh : A.handled = none) (ge : IsEnum s.heap e it i old) (a1 : MIt t s.heap it l i) (b1 : MSq t s.heap l xs) (ex : xs[i]? = none)
    (q : ∀ h', Heap.ExtBut it s.heap h' → Q none { s with heap := h' }) : wpAny (model prog w) A (pyNext (.ref e)) Q E s := by
  have ty : s.TypeIs (.ref e) "enumerate" := ⟨_, ge, rfl⟩
  unfold pyNext
  refine wpAny_bind (wpAny_attempt (wpAny_callSpecial?_slot (name := Str.ofString "__next__") ty F.slot_enumerate_next (wpAny_call_entry F.slot_enumerate_next ty F.entry_enumerate_next ?_ (F.args_enumerate_next_1 _))))
  show wpAny _ _ (field (.ref e) 2 >>= _) _ _ _; refine wpAny_bind (wpAny_field ge rfl (x := .ref it) rfl ?_)
  refine wpAny_bind (next_ends hh a1 b1 ex fun h' x r ⟨o, ho, hc⟩ => ?_)
  exact wpAny_bind (wpAny_isInstance (T := "StopIteration") (b := true) ⟨o, ho, hc⟩ isSubtype_stop (wpAny_pure (q _ r)))
end
theorem enm_new (t : Bool) (l : Addr) (xs : Array Value) :
    Meets (Builtin.«enumerate.__new__» ⟨[.type "enumerate", .ref l], []⟩) (fun _ R s => MSq t s.heap l xs ∧
      R (.ok (.ret (.ref (s.heap.push (itO t l)).objs.size))) { s with heap := (s.heap.push (itO t l)).push { cls := .type "enumerate", data := .fields #[.none, .bool false, .ref s.heap.objs.size, rawInt 0, .none, .none] } }) :=
  .of_wp fun prog w A R s h => by
    obtain ⟨hp, g, d, tk, os⟩ := s
    obtain ⟨m1, h⟩ := h
    have hsub := sub_enumerate
    have L1 : MSq t (Shared.heap ⟨hp, g, d, tk, os⟩) l xs := m1
    wp_walk using iter_m L1
    refine wpAny_stack_any fun st => wpAny_pure ?_
    split
    · next c _ _ _ _ _ => cases (c == Value.type "enumerate") <;> (wp_walk using iter_m L1; exact ⟨_, rfl, h⟩)
    · wp_walk using iter_m L1
      exact ⟨_, rfl, h⟩
theorem call_enm {prog : Program} {w : World} {A : Around} {E : Value → Shared → Prop} {s : Shared} {t : Bool} {l : Addr} {xs : Array Value} {Q : Value → Shared → Prop} (m : MSq t s.heap l xs)
    (q : ∀ h', IsEnum h' (s.heap.objs.size + 1) s.heap.objs.size 0 .none → MIt t h' s.heap.objs.size l 0 → (∀ b o, s.heap.get? b = some o → h'.get? b = some o) → Q (.ref (s.heap.objs.size + 1)) { s with heap := h' }) :
    wpAny (model prog w) A (call (.type "enumerate") [.ref l]) Q E s := by
  refine callType_new F.called_enumerate (by decide) (F.typeCall_enumerate_1 _) (F.newCall_enumerate_1 _) (fun obj => F.args_object_init_2 obj _) F.entry_enumerate_new (enm_new t l xs) ⟨m, ?_⟩
  have sz : (s.heap.push (itO t l)).objs.size = s.heap.objs.size + 1 := Heap.size_push ..
  show _ ∧ _
  have ge : ((s.heap.push (itO t l)).push { cls := .type "enumerate", data := .fields #[.none, .bool false, .ref s.heap.objs.size, rawInt 0, .none, .none] }).get? (s.heap.push (itO t l)).objs.size = some _ := Heap.get?_push_size _ rfl
  rw [sz] at ge
  rw [sz]
  refine ⟨⟨_, ge, rfl⟩, q _ ge ?_ fun b o x => Heap.get?_push_of_some _ (Heap.get?_push_of_some _ x)⟩
  cases t
  · exact ⟨_, Heap.get?_push_of_some _ (Heap.get?_push_size _ rfl), rfl, rfl⟩
  · exact ⟨_, Heap.get?_push_of_some _ (Heap.get?_push_size _ rfl), rfl, rfl⟩
def ItEM (K : PySem.W.Frag) (t : Bool) (a : Addr) : It :=
  ⟨fun i H => ∃ (xs : List V) (x : V), MQ K t H a xs ∧ xs[i]? = some x, fun i H v H' => ∃ T x, v = .ref T ∧ H T = none ∧ H' = upd H T (.tup [.int (i : Nat), x]) ∧ ∀ xs, MQ K t H a xs → xs[i]? = some x, fun i H => ∃ xs : List V, MQ K t H a xs ∧ xs.length ≤ i⟩
theorem turn_em {P : Program} {w : World} {K : PySem.W.Frag} {t : Bool} {elts : List Expr} {kk : Nat} {tpos : Pos} (a e it : Addr) :
    Turn P w K (.Tuple elts kk tpos) (ItEM K t a) [e, it] e (fun i h => (∃ old, IsEnum h e it ((i : Nat) : Int) old) ∧ MIt t h it a i ∧ e ≠ it) where
  mem := by simp
  obj := fun i h ⟨⟨old, ge⟩, a1, _⟩ b hb => by
    simp only [List.mem_cons, List.not_mem_nil, or_false] at hb
    rcases hb with rfl | rfl
    · exact ⟨_, ge, fun v q => by cases q⟩
    · exact a1.ob
  keep := fun i h h' ⟨⟨old, ge⟩, a1, ne⟩ k => ⟨⟨old, k e (by simp) _ ge⟩, a1.to fun o q => k it (by simp) o q, ne⟩
  item := by
    intro X hP hw hK hc i pins s σ H E I hf ⟨⟨old, ge⟩, a1, ne⟩ ⟨xs, x, qx, ex⟩
    subst hP hw hK
    obtain ⟨is, rv, p⟩ := mq_sq I qx
    obtain ⟨u, hu, ru⟩ := rv.get ex
    have el : e < s.heap.objs.size := Heap.lt_size ge
    have il : it < s.heap.objs.size := by obtain ⟨_, q, _⟩ := a1.ob; exact Heap.lt_size q
    refine py_enm_has ge a1 p (x := u) (by simpa using hu) ne fun h' ho a1' gT sz hk => ?_
    refine ⟨_, rfl, wpAny_letOwnedTupleGo_enum (s := { s with heap := h', toks := s.toks + 1 }) ho fun h2 ge2 sb => ?_⟩
    have gT2 : h2.get? s.heap.objs.size = some { cls := .type "tuple", data := .seq #[.int i s.toks, u] } := (sb.2 _ (Nat.ne_of_gt el)).trans gT
    have ok : ObjOk X.prog X.w (upd H s.heap.objs.size (.tup [.int (i : Nat), x])) h2 s.heap.objs.size (.tup [.int (i : Nat), x]) := ⟨by show 2 ≤ sizeLine; decide, [.int i s.toks, u], .cons ⟨_, rfl⟩ (.cons ru .nil), ⟨_, gT2, rfl, _, rfl⟩⟩
    have I1 : Inv X pins σ (upd H s.heap.objs.size (.tup [.int (i : Nat), x])) { s with heap := h2, toks := s.toks + 1 } := I.turnedNew (ch := [e, it]) (fun b ob hb q => by
      simp only [List.mem_cons, List.not_mem_nil, or_false, not_or] at hb
      exact (sb.2 b hb.1).trans (hk b ob hb.1 hb.2 q)) hf (Nat.le_refl _) ok
    refine ⟨.ref s.heap.objs.size, _, I1, rfl, ⟨_, x, rfl, I.hok.fresh (Nat.le_refl _), rfl, fun ys hy => by rw [mq_inj I hy qx]; exact ex⟩, ⟨⟨u, ?_⟩, a1'.to fun o q => (sb.2 it ne.symm).trans q, ne⟩, fun b hb => ?_⟩
    · have e1 : ((i + 1 : Nat) : Int) = (i : Int) + 1 := by omega
      rw [e1]; exact ge2
    · have hb' : b < s.heap.objs.size := by
        simp only [List.mem_cons, List.not_mem_nil, or_false] at hb
        rcases hb with rfl | rfl
        · exact el
        · exact il
      rw [upd_ne (Nat.ne_of_lt hb')]
      exact (hf b hb).1
  done := by
    intro X hP hw hK hc i pins s σ H E I hf ⟨⟨old, ge⟩, a1, ne⟩ ⟨xs, qx, hx⟩
    subst hP hw hK
    obtain ⟨is, rv, p⟩ := mq_sq I qx
    obtain ⟨f0, f1, f2, f3, f4, f5⟩ := hf it (by simp)
    have hl := rv.length
    exact py_enm_ends (I.ok.hd hc) ge a1 p (by simp; omega) fun h' eb => ⟨rfl, I.turned (t' := s.toks) (fun b o hb q => eb b o hb q) f0 f1 f3 f4 f5⟩
  self := fun A i s Q E st h => let ⟨⟨_, ge⟩, _⟩ := st; wpAny_pyIter_enum ge h
def iEnmM (K : PySem.W.Frag) (ta : TA) : TI := fun σ H R => ta σ H fun vs H1 => ∃ t a xs, vs = [.ref a] ∧ MQ K t H1 a xs ∧ R (ItEM K t a) H1
theorem pi_enmM {X : Cx} {e : Expr} {ta : TA} {p pos tpos : Pos} {elts : List Expr} {kk : Nat} (hg : Gl X "enumerate") (hm : X.mg "enumerate" = none) (ha : PA X [e] ta) (hs : starEach [e] X.env = [(false, eval e X.env)] := by rfl) :
    PI X (.Tuple elts kk tpos) (.Call (.Name "enumerate" p) [e] [] pos) (iEnmM X.K ta) := by
  refine ⟨fun pins s σ H R I h => ?_⟩
  refine Call_ (ld_blt I hg hm boot_enumerate (PyProof.Rows.callWith_type1 (thn (ha.run pos pins s σ H _ I h) fun us s1 ⟨vs, H1, I1, r1, t, a, xs, ex, qx, q⟩ => ?_) hs rfl))
  subst ex
  obtain _ | ⟨r, rr⟩ := r1
  cases rr
  cases r
  obtain ⟨is, rv, p'⟩ := mq_sq I1 qx
  refine call_enm p' fun h' ge a1 hk => wpAny_pyIter_enum ge ?_
  have I2 : Inv X pins σ H1 { s1 with heap := h' } := I1.kept (t' := s1.toks) hk
  refine ⟨s1.heap.objs.size + 1, [s1.heap.objs.size + 1, s1.heap.objs.size], _, _, H1, rfl, I2, turn_em a (s1.heap.objs.size + 1) s1.heap.objs.size, ⟨⟨.none, ge⟩, a1, Nat.succ_ne_self _⟩, fun b hb => ?_, q⟩
  have hle : s1.heap.objs.size ≤ b := by
    simp only [List.mem_cons, List.not_mem_nil, or_false] at hb
    rcases hb with rfl | rfl
    · exact Nat.le_add_right _ _
    · exact Nat.le_refl _
  exact I1.fpOk hle (I1.hok.fresh hle)
end Cl
/-! zip, enumerate; targets; comprehensions. -/
namespace Cl
open PySem PySem.Spec PyProof.Rows L2
theorem setTg_same {tg : Tg} {d : D} {env env' : Env} {hc hc' : Hc} (h : setTg tg d env hc = .ok env' hc') : hc' = hc := by
  cases tg with
  | nm i => simp only [setTg, pur] at h; cases h; rfl
  | tp is =>
    simp only [setTg] at h
    dsimp only [bnd] at h
    cases q : seqM d hc with
    | ok xs h' =>
      rw [q] at h
      have e : h' = hc := by
        cases d <;> simp only [seqM, pur, stuck] at q <;> first | (cases q; rfl) | cases q | exact (lstAt_ok q).2
      subst e
      dsimp only at h
      unfold Cl.guard at h
      split at h
      · cases h; rfl
      · cases h
    | exc _ _ _ => rw [q] at h; cases h
    | bad => rw [q] at h; cases h
section
variable {C : Ck} {G : Gt} {Cs : List D} {k : Nat} {X : Cx} {W : WX} {sc : Scope} {pos : Pos}
variable {a b c e : Expr} {ma mb mc : Env → M D} {es : List Expr} {mA : Env → M (List D)}
/-! ### pairs -/
/-- a list as it stands at each turn -/
theorem list_now {K : PySem.W.Frag} {T0 : Tk} {H0 : Hp} {hc0 : Hc} {d : D} {v : V} {s : Src} {okQ : Src → Tk → Hp → Prop} {exP : XK} (w0 : Wd K T0 hc0 H0) (r : Rep K T0 H0 d v) {α : Type} {f : Src → M α} {okR : α → Tk → Hp → Prop}
    (h : Post K T0 H0 okR exP (bnd (lsrcM d) f hc0)) :
    ∃ s a, v = .ref a ∧ (∀ T hc H, ExtG T0 H0 T H → Wd K T hc H → Deps s hc → ∃ vs, SqL K H a vs ∧ RepL K T H s.items vs) ∧ (∃ vs, SqL K H0 a vs) ∧ Post K T0 H0 okR exP (f s hc0) := by
  cases d with
  | fl xs =>
    simp only [Rep] at r
    obtain ⟨a, vs, ev, s, l, rr⟩ := r
    exact ⟨⟨xs, []⟩, a, ev, fun T hc H e w _ => ⟨vs, (sqF_ext e s).sq, RepL.extG w0 e _ _ rr⟩, ⟨vs, s.sq⟩, h⟩
  | kl xs =>
    simp only [Rep] at r
    obtain ⟨a, vs, ev, s, l, rr⟩ := r
    exact ⟨⟨xs, []⟩, a, ev, fun T hc H e w _ => ⟨vs, (sqK_ext w0 e s).sq, RepL.extG w0 e _ _ rr⟩, ⟨vs, s.sq⟩, h⟩
  | ref i =>
    have h' : Post K T0 H0 okR exP (bnd (lstAt i) (fun xs => f ⟨xs, [(i, xs)]⟩) hc0) := by
      have e : bnd (lsrcM (.ref i)) f = bnd (lstAt i) (fun xs => f ⟨xs, [(i, xs)]⟩) := by
        show bnd (bnd (lstAt i) fun xs => pur ⟨xs, [(i, xs)]⟩) f = _
        rw [bnd_assoc]; rfl
      rw [← e]; exact h
    obtain ⟨xs, a, vs, q, ha, hv, l, rr, h2⟩ := post_lstAt (okP := fun _ _ _ => True) w0 h'
    simp only [Rep] at r
    obtain ⟨a', ev, ha'⟩ := r
    rw [ha] at ha'; cases ha'
    refine ⟨⟨xs, [(i, xs)]⟩, a, ev, fun T hc H e w dd => ?_, ⟨vs, SqL.of hv⟩, h2⟩
    have q := dd (i, xs) List.mem_cons_self
    obtain ⟨b, hb, vs, e1, l, rr⟩ := w.obj i _ q
    have := e.get ha
    rw [this] at hb; cases hb
    exact ⟨vs, SqL.of e1, rr⟩
  | _ => exact h.elim
theorem rep_pair {K : PySem.W.Frag} {T : Tk} {H : Hp} {hc : Hc} (w : Wd K T hc H) {p : Addr} (hp : H p = none) {x y : D} {v u : V} (r : Rep K T H x v) (r' : Rep K T H y u) : Rep K T (upd H p (.tup [v, u])) (.tup [x, y]) (.ref p) :=
  rep_new_tup w hp (RepL.cons r (RepL.cons r' RepL.nil)) (by show 2 ≤ sizeLine; decide +kernel)
/-- .. or a tuple -/
theorem seq_now {K : PySem.W.Frag} {T0 : Tk} {H0 : Hp} {hc0 : Hc} {d : D} {v : V} {exP : XK} (w0 : Wd K T0 hc0 H0) (r : Rep K T0 H0 d v) {α : Type} {f : Src → M α} {okR : α → Tk → Hp → Prop}
    (h : Post K T0 H0 okR exP (bnd (zsrcM d) f hc0)) :
    ∃ t s a, v = .ref a ∧ (∀ T hc H, ExtG T0 H0 T H → Wd K T hc H → Deps s hc → ∃ vs, MQ K t H a vs ∧ RepL K T H s.items vs) ∧ (∃ vs, MQ K t H0 a vs) ∧ Post K T0 H0 okR exP (f s hc0) := by
  by_cases z : ∃ xs, d = .tup xs
  · obtain ⟨xs, rfl⟩ := z
    simp only [Rep] at r
    obtain ⟨a, vs, ev, s, l, rr⟩ := r
    exact ⟨true, ⟨xs, []⟩, a, ev, fun T hc H e w _ => ⟨vs, sqT_ext w0 e s, RepL.extG w0 e _ _ rr⟩, ⟨vs, s⟩, h⟩
  · have e : zsrcM d = lsrcM d := by
      cases d <;> first | rfl | exact absurd ⟨_, rfl⟩ z
    rw [e] at h
    obtain ⟨s, a, ev, f1, f2, h1⟩ := list_now (okQ := fun _ _ _ => True) (s := ⟨[], []⟩) w0 r h
    exact ⟨false, s, a, ev, f1, f2, h1⟩
theorem pairM_eq (x y : D) : pairM x y = bnd (zsrcM x) fun s => bnd (zsrcM y) fun t => pur ⟨(s.items.zip t.items).map fun p => .tup [p.1, p.2], s.dep ++ t.dep⟩ := by
  cases x <;> cases y <;> rfl
theorem ci_zip (g : Gd C G Cs k X W sc) {elts : List Expr} {kk : Nat} {tpos p : Pos} (hv : glB sc ("zip" : Str) = true) (hs : isStar a = false) (hs2 : isStar b = false) (ha : CE C X W sc a ma) (hb : CE C X W sc b mb) :
    CI X W (.Tuple elts kk tpos) (.Call (.Name ("zip" : Str) p) [a, b] [] pos) (fun env => bnd (ma env) fun x => bnd (mb env) fun y => pairM x y) := by
  obtain ⟨ta, pa, _, ra⟩ := ha
  obtain ⟨tb, pb, _, rb⟩ := hb
  refine ⟨_, pi_zipM (g.gl hv) (g.nb _ (by decide +kernel)) (pa_cons pa (pa_cons pb pa_nil (star1 hs2)) (star1 hs)) (star1 hs) (starAll (by intro y hy; rw [List.mem_singleton] at hy; rw [hy]; exact hs2)), fun T hc H env σ R w er h => ?_⟩
  refine read1 ra w er h fun d T1 hc1 H1 v e1 w1 er1 r1 h1 => ?_
  refine read1 rb w1 er1 h1 fun d2 T2 hc2 H2 u e2 w2 er2 r2 h2 => ?_
  have r1' := Rep.ext w1 e2 _ _ r1
  rw [pairM_eq] at h2
  obtain ⟨t1, s, p1, ev, f, ⟨vs0, s0⟩, h3⟩ := seq_now w2 r1' h2
  obtain ⟨t2, t, p2, eu, f', ⟨us0, s0'⟩, h4⟩ := seq_now w2 r2 h3
  have h5 := h4.of_pur w2
  refine ⟨t1, t2, p1, p2, vs0, us0, by rw [ev, eu], s0, s0', h5 _ ⟨fun i hi T hc H e w dd => ?_, fun i d hx T hc H e w dd x H' y => ?_, fun T hc H e w dd => ?_⟩⟩
  · obtain ⟨vs, ss, rr⟩ := f T hc H e w (fun p hp => dd p (List.mem_append_left _ hp))
    obtain ⟨us, ss', rr'⟩ := f' T hc H e w (fun p hp => dd p (List.mem_append_right _ hp))
    simp only [List.length_map, List.length_zip] at hi
    obtain ⟨z, hz, _⟩ := rr.get (List.getElem?_eq_getElem (show i < s.items.length by omega))
    obtain ⟨z', hz', _⟩ := rr'.get (List.getElem?_eq_getElem (show i < t.items.length by omega))
    exact ⟨vs, us, z, z', ss, ss', hz, hz'⟩
  · obtain ⟨vs, ss, rr⟩ := f T hc H e w (fun p hp => dd p (List.mem_append_left _ hp))
    obtain ⟨us, ss', rr'⟩ := f' T hc H e w (fun p hp => dd p (List.mem_append_right _ hp))
    rw [List.getElem?_map] at hx
    cases q : (s.items.zip t.items)[i]? with
    | none => rw [q] at hx; cases hx
    | some xy =>
      rw [q] at hx; cases hx
      obtain ⟨q1, q2⟩ := List.getElem?_zip_eq_some.mp q
      obtain ⟨t, z, z', ex, ht, eh, f1, f2⟩ := y
      obtain ⟨z1, hz1, rz1⟩ := rr.get q1
      obtain ⟨z2, hz2, rz2⟩ := rr'.get q2
      have e3 := f1 vs ss
      have e4 := f2 us ss'
      rw [e3] at hz1; cases hz1
      rw [e4] at hz2; cases hz2
      subst eh; subst ex
      exact ⟨Ext.upd_new ht, w.upd_new ht, rep_pair w ht rz1 rz2⟩
  · obtain ⟨vs, ss, rr⟩ := f T hc H e w (fun p hp => dd p (List.mem_append_left _ hp))
    obtain ⟨us, ss', rr'⟩ := f' T hc H e w (fun p hp => dd p (List.mem_append_right _ hp))
    refine ⟨vs, us, ss, ss', ?_⟩
    show _ ≤ ((s.items.zip t.items).map _).length ∨ _
    rw [List.length_map, List.length_zip, rr.length, rr'.length]
    omega
theorem ci_enm (g : Gd C G Cs k X W sc) {elts : List Expr} {kk : Nat} {tpos p : Pos} (hv : glB sc ("enumerate" : Str) = true) (hs : isStar a = false) (ha : CE C X W sc a ma) :
    CI X W (.Tuple elts kk tpos) (.Call (.Name ("enumerate" : Str) p) [a] [] pos) (fun env => bnd (ma env) fun x => bnd (zsrcM x) fun s => pur ⟨(s.items.zipIdx).map fun p => .tup [.int (p.2 : Nat), p.1], s.dep⟩) := by
  obtain ⟨ta, pa, _, ra⟩ := ha
  refine ⟨_, pi_enmM (g.gl hv) (g.nb _ (by decide +kernel)) (pa_cons pa pa_nil (star1 hs)) (star1 hs), fun T hc H env σ R w er h => ?_⟩
  refine read1 ra w er h fun d T1 hc1 H1 v e1 w1 er1 r1 h1 => ?_
  obtain ⟨t1, s, p1, ev, f, ⟨vs0, s0⟩, h3⟩ := seq_now w1 r1 h1
  have h5 := h3.of_pur w1
  refine ⟨t1, p1, vs0, by rw [ev], s0, h5 _ ⟨fun i hi T hc H e w dd => ?_, fun i d hx T hc H e w dd x H' y => ?_, fun T hc H e w dd => ?_⟩⟩
  · obtain ⟨vs, ss, rr⟩ := f T hc H e w dd
    simp only [List.length_map, List.length_zipIdx] at hi
    obtain ⟨z, hz, _⟩ := rr.get (List.getElem?_eq_getElem hi)
    exact ⟨vs, z, ss, hz⟩
  · obtain ⟨vs, ss, rr⟩ := f T hc H e w dd
    rw [List.getElem?_map, List.getElem?_zipIdx] at hx
    cases q : s.items[i]? with
    | none => rw [q] at hx; cases hx
    | some xy =>
      rw [q] at hx
      simp only [Option.map_some, Option.some.injEq] at hx
      subst hx
      obtain ⟨t, z, ex, ht, eh, f1⟩ := y
      obtain ⟨z1, hz1, rz1⟩ := rr.get q
      have e3 := f1 vs ss
      rw [e3] at hz1; cases hz1
      subst eh; subst ex
      refine ⟨Ext.upd_new ht, w.upd_new ht, rep_pair w ht ?_ rz1⟩
      simp only [Rep, Nat.zero_add]
  · obtain ⟨vs, ss, rr⟩ := f T hc H e w dd
    refine ⟨vs, ss, ?_⟩
    show _ ≤ ((s.items.zipIdx).map _).length
    rw [List.length_map, List.length_zipIdx, rr.length]; exact Nat.le_refl _
/-! ### targets -/
theorem eachNames {env : PySem.Env} : ∀ {es : List Expr}, (∀ e ∈ es, isStar e = false) → (assignEach es env).length = es.length ∧ (assignEach es env).findIdx? (·.1) = none
  | [], _ => ⟨rfl, rfl⟩
  | e :: es, h => by
    have h1 := h e List.mem_cons_self
    obtain ⟨i1, i2⟩ := eachNames (env := env) (es := es) fun x hx => h x (List.mem_cons_of_mem _ hx)
    have e1 : assignEach (e :: es) env = (false, assign e env) :: assignEach es env := by
      cases e <;> first | rfl | (simp [isStar] at h1)
    rw [e1]
    refine ⟨by rw [List.length_cons, List.length_cons, i1], ?_⟩
    rw [List.findIdx?_cons, i2]; rfl
theorem eachCons {env : PySem.Env} {e : Expr} {es : List Expr} (h1 : isStar e = false) : (assignEach (e :: es) env).map (·.2) = assign e env :: (assignEach es env).map (·.2) := by
  cases e <;> first | rfl | (simp [isStar] at h1)
/-- the names of a target, set one after another -/
theorem pgs_names (g : Gd C G Cs k X W sc) {own : Nat → Bool} : ∀ {is : List Nat} {es : List Expr}, chkTg.chkTs C sc own is es = true →
    (∀ e ∈ es, isStar e = false) ∧ es.length = is.length ∧ ∃ t, PGs X es t ∧ ∀ (vs : List V) σ H (Q : L2.St → Hp → Prop), vs.length = is.length → Q ((is.zip vs).foldl (fun s p => s.set p.1 (some p.2)) σ) H → t vs σ H Q
  | [], [], _ => ⟨fun _ h => (by cases h), rfl, _, pgs_nil, fun vs σ H Q l q => ⟨List.eq_nil_of_length_eq_zero l, q⟩⟩
  | i :: is, e :: es, h => by
    cases e with
    | Name x p =>
      simp only [chkTg.chkTs, Bool.and_eq_true, decide_eq_true_eq] at h
      obtain ⟨⟨⟨h1, h2⟩, h3⟩, h4⟩ := h
      obtain ⟨st, l, t, pt, rt⟩ := pgs_names g h4
      refine ⟨fun e he => ?_, by rw [List.length_cons, List.length_cons, l], _, pgs_cons (pg_name (i := i) g.nd (by rw [g.N]; exact h1) (g.lo h2) (g.loc x h2)) pt (eachCons rfl), fun vs σ H Q l' q => ?_⟩
      · rcases List.mem_cons.mp he with z | z
        · rw [z]; rfl
        · exact st e z
      · cases vs with
        | nil => cases l'
        | cons v vs => exact ⟨v, vs, rfl, rt vs _ H Q (by simpa using l') q⟩
    | _ => simp [chkTg.chkTs] at h
  | [], _ :: _, h => by simp [chkTg.chkTs] at h
  | _ :: _, [], h => by simp [chkTg.chkTs] at h
theorem foldSet {K : PySem.W.Frag} {T : Tk} {H : Hp} : ∀ {is : List Nat} {xs : List D} {vs : List V} {env : Env} {σ : L2.St}, EnvR K T H env σ → RepL K T H xs vs →
    EnvR K T H ((is.zip xs).foldl (fun e p => e.set p.1 (some p.2)) env) ((is.zip vs).foldl (fun s p => s.set p.1 (some p.2)) σ)
  | [], _, _, _, _, er, _ => by simpa using er
  | i :: is, [], vs, env, σ, er, r => by simp only [RepL] at r; subst r; simpa using er
  | i :: is, x :: xs, vs, env, σ, er, r => by
    simp only [RepL] at r
    obtain ⟨v, t, e, a, b⟩ := r
    subst e
    simp only [List.zip_cons_cons, List.foldl_cons]
    exact foldSet (er.set a) b
theorem foldWipe {own : List Nat} : ∀ {is : List Nat} {vs : List V} {σ : L2.St}, (∀ i ∈ is, i ∈ own) → L2.wipe ((is.zip vs).foldl (fun s p => s.set p.1 (some p.2)) σ) own = L2.wipe σ own
  | [], _, _, _ => rfl
  | i :: is, [], σ, _ => rfl
  | i :: is, v :: vs, σ, h => by
    simp only [List.zip_cons_cons, List.foldl_cons]
    rw [foldWipe fun j hj => h j (List.mem_cons_of_mem _ hj), set_wipe (h i List.mem_cons_self)]
theorem tgOwn {own : Nat → Bool} {tg : Tg} {e : Expr} (h : chkTg C sc own tg e = true) : ∀ i ∈ tgSlots tg, own i = true := by
  cases tg with
  | nm i =>
    cases e <;> simp [chkTg] at h
    intro j hj
    simp only [tgSlots, List.mem_singleton] at hj
    subst hj; exact h.2
  | tp is =>
    cases e <;> simp [chkTg] at h
    next es _ _ =>
    have : ∀ {is : List Nat} {es : List Expr}, chkTg.chkTs C sc own is es = true → ∀ i ∈ is, own i = true := by
      intro is
      induction is with
      | nil => intro es _ i hi; cases hi
      | cons j is ih =>
        intro es h i hi
        cases es with
        | nil => simp [chkTg.chkTs] at h
        | cons e es =>
          cases e <;> simp [chkTg.chkTs] at h
          rcases List.mem_cons.mp hi with z | z
          · rw [z]; exact h.1.2
          · exact ih h.2 i z
    exact this h.2
theorem cg_tg (g : Gd C G Cs k X W sc) {own : Nat → Bool} {tg : Tg} {e : Expr} (h : chkTg C sc own tg e = true) : CG X W tg e := by
  cases tg with
  | nm i =>
    cases e with
    | Name x p =>
      simp only [chkTg, Bool.and_eq_true, decide_eq_true_eq] at h
      refine ⟨_, pg_name (i := i) g.nd (by rw [g.N]; exact h.1.1) (g.lo h.1.2) (g.loc x h.1.2), fun T hc H env σ d v Q w er r q => ?_⟩
      exact q _ (er.set r) fun own ho => set_wipe (ho i (by simp [tgSlots]))
    | _ => simp [chkTg] at h
  | tp is =>
    cases e with
    | Tuple es k2 p =>
      simp only [chkTg, Bool.and_eq_true] at h
      obtain ⟨hcm, h⟩ := h
      obtain ⟨st, l, t, pt, rt⟩ := pgs_names g h
      obtain ⟨n1, n2⟩ := eachNames (env := X.env) st
      refine ⟨_, PG.or (pg_tup (g.calm hcm) pt (n1.trans l) n2) (pg_lst (g.calm hcm) pt (n1.trans l) n2), fun T hc H env σ d v Q w er r q => ?_⟩
      simp only [setTg] at q
      dsimp only [bnd] at q
      cases z : seqM d hc with
      | ok xs h' =>
        rw [z] at q
        dsimp only [Cl.guard] at q
        by_cases hl : xs.length = is.length
        · rw [if_pos hl] at q
          dsimp only [pur] at q
          have p1 : Post X.K T H (fun (_ : List D) (_ : Tk) (_ : Hp) => True) (fun _ _ _ => True) (bnd (seqM d) pur hc) := by
            dsimp only [bnd]; rw [z]; exact fun _ _ _ _ => trivial
          obtain ⟨ys, p', vs, ev, s, sl, stt, lv, rr, _, zz⟩ := post_seq w r p1
          rw [z] at zz; cases zz
          have q' := q ((is.zip vs).foldl (fun s p => s.set p.1 (some p.2)) σ) (foldSet er rr) (fun own ho => foldWipe (fun i hi => ho i hi))
          have lv2 : vs.length = is.length := by rw [rr.length, hl]
          by_cases c : ∃ ys, d = .tup ys
          · obtain ⟨ys, e⟩ := c
            exact .inl ⟨p', vs, ev, (stt ys e).1, lv2, rt vs σ H Q lv2 q'⟩
          · exact .inr ⟨p', vs, ev, sl (fun ys e => c ⟨ys, e⟩), lv2, rt vs σ H Q lv2 q'⟩
        · rw [if_neg hl] at q; exact q.elim
      | exc _ _ _ => rw [z] at q; exact q.elim
      | bad => rw [z] at q; exact q.elim
    | _ => simp [chkTg] at h
/-! ### judgements with one reading for all contexts -/
def tClE (K : PySem.W.Frag) (W : WX) (m : Env → M D) : TE := fun σ H Q => ∃ T hc env, Wd K T hc H ∧ EnvR K T H env σ ∧ Post K T H (fun d T' H' => ∀ v, Rep K T' H' d v → Q v H') (WE W σ) (m env hc)
def tClT (K : PySem.W.Frag) (W : WX) (m : Env → M Bool) : TT := fun σ H Q => ∃ T hc env, Wd K T hc H ∧ EnvR K T H env σ ∧ Post K T H (fun k _ H' => Q k H') (WE W σ) (m env hc)
def tClG (K : PySem.W.Frag) (tg : Tg) : TG := fun v σ H Q => ∃ T hc env d, Wd K T hc H ∧ EnvR K T H env σ ∧ Rep K T H d v ∧ (match setTg tg d env hc with
      | .ok env' _ => ∀ σ', EnvR K T H env' σ' → (∀ own, (∀ i ∈ tgSlots tg, i ∈ own) → L2.wipe σ' own = L2.wipe σ own) → Q σ' H
      | _ => False)
theorem CE.cl {m : Env → M D} (h : CE C X W sc e m) : PE X e (tClE X.K W m) := by
  obtain ⟨t, p, _, r⟩ := h
  exact ⟨fun pins s σ H Q I ⟨T, hc, env, w, er, q⟩ => p.run pins s σ H Q I (r T hc H env σ Q w er q)⟩
theorem CT.cl {m : Env → M Bool} (h : CT X W e m) : PT X e (tClT X.K W m) := by
  obtain ⟨t, p, r⟩ := h
  exact ⟨fun pins s σ H Q I ⟨T, hc, env, w, er, q⟩ => p.run pins s σ H Q I (r T hc H env σ Q w er q)⟩
theorem CG.cl {tg : Tg} (h : CG X W tg e) : PG X e (tClG X.K tg) := by
  obtain ⟨t, p, r⟩ := h
  exact ⟨fun pins s σ H v u Q I rv ⟨T, hc, env, d, w, er, rd, q⟩ => p.run pins s σ H v u Q I rv (r T hc H env σ d v Q w er rd q)⟩
end
end Cl
/-! Comprehensions. -/
namespace Cl
open PySem PySem.Spec PyProof.Rows L2
abbrev W0 : WX := fun _ _ _ _ => False
theorem relab_keep {env : PySem.Env} : ∀ {names : List (Str × NameKind)} {x : Str} {k : NameKind}, k ≠ .free → names.lookup x = some k →
    (names.map fun (n, k) => if (k == NameKind.free && env.scope.kind == .function && env.kindOf n == some .cell) then (n, NameKind.cell) else (n, k)).lookup x = some k
  | [], x, k, _, h => by simp at h
  | (n, k') :: r, x, k, hk, h => by
    have ih := @relab_keep env r x k hk
    show List.lookup x ((if (k' == NameKind.free && env.scope.kind == .function && env.kindOf n == some .cell) = true then (n, NameKind.cell) else (n, k')) :: _) = _
    cases hx : x == n with
    | true =>
      simp only [List.lookup_cons, hx] at h
      cases h
      have : (k' == NameKind.free) = false := by
        cases k' <;> first | rfl | exact absurd rfl hk
      simp [List.lookup_cons, hx, this]
    | false =>
      simp only [List.lookup_cons, hx] at h
      by_cases hc : (k' == NameKind.free && env.scope.kind == .function && env.kindOf n == some .cell) = true
      · rw [if_pos hc]; simp only [List.lookup_cons, hx]; exact ih h
      · rw [if_neg hc]; simp only [List.lookup_cons, hx]; exact ih h
theorem relab_free {env : PySem.Env} : ∀ {names : List (Str × NameKind)} {x : Str}, names.lookup x = some .free →
    (names.map fun (n, k) => if (k == NameKind.free && env.scope.kind == .function && env.kindOf n == some .cell) then (n, NameKind.cell) else (n, k)).lookup x = some .free ∨
    (names.map fun (n, k) => if (k == NameKind.free && env.scope.kind == .function && env.kindOf n == some .cell) then (n, NameKind.cell) else (n, k)).lookup x = some .cell
  | [], x, h => by simp at h
  | (n, k') :: r, x, h => by
    have ih := @relab_free env r x
    show List.lookup x ((if (k' == NameKind.free && env.scope.kind == .function && env.kindOf n == some .cell) = true then (n, NameKind.cell) else (n, k')) :: _) = _ ∨ List.lookup x ((if (k' == NameKind.free && env.scope.kind == .function && env.kindOf n == some .cell) = true then (n, NameKind.cell) else (n, k')) :: _) = _
    by_cases hc : (k' == NameKind.free && env.scope.kind == .function && env.kindOf n == some .cell) = true
    · rw [if_pos hc]
      cases hx : x == n with
      | true => simp [List.lookup_cons, hx]
      | false =>
        simp only [List.lookup_cons, hx] at h ⊢
        exact ih h
    · rw [if_neg hc]
      cases hx : x == n with
      | true => simp only [List.lookup_cons, hx] at h ⊢; exact .inl h
      | false =>
        simp only [List.lookup_cons, hx] at h ⊢
        exact ih h
section
variable {C : Ck} {G : Gt} {Cs : List D} {k : Nat} {X : Cx} {W : WX} {sc : Scope} {pos : Pos}
theorem scr_blk {env : PySem.Env} {scope : Scope} {cl : List (Str × Addr)} {Cc : Addr} (hk : scope.kind = .function) : ScR (compEnvC scope cl Cc env).scope scope :=
  ⟨hk, fun x k h n => relab_keep n h, fun x h => relab_free h⟩
theorem Gd.blk (g : Gd C G Cs k X W sc) (hcm : C.cm = true) {scope : Scope} (hk : scope.kind = .function) (s : Shared) (H : Hp) (Cc : Addr) (cl : List (Str × Addr)) (fp : List Addr) :
    Gd C G Cs k (X.blk s H scope (compEnvC scope cl Cc X.env) fp) W0 scope where
  N := g.N
  nd := g.nd
  calm := g.calm
  tk := fun u s' h => by obtain ⟨_, _, _, _, _, _, _, _, _, _, _, _, _, _, _, _, f⟩ := h; exact f
  rm := g.rm
  scr := scr_blk hk
  loc := fun x h => by
    unfold locB at h
    split at h
    · next q => exact .inr (relab_keep (by decide) q)
    · next q => exact .inl (by show (scope.names.lookup x == some .cell) = true; rw [q]; rfl)
    · cases h
  nb := g.nb
  fs := g.fs
  cf := g.cf
  xn := g.xn
  xa := fun a _ _ _ _ _ z => by rw [g.xn hcm] at z; cases z
theorem ownOf_snd (N : List Str) (own : List Nat) : (ownOf N own).map (·.2) = own := by
  unfold ownOf
  rw [List.map_map]
  exact List.map_id _
theorem Gd.blkOk (g : Gd C G Cs k X W sc) {scope : Scope} {own : List Nat} (h : blkC C.N sc scope (ownOf C.N own) = true) : BlkOk X.N X.env.scope scope (ownOf C.N own) := by
  have b := blkOk_by h
  rw [g.N]
  refine ⟨b.kind, b.uniq, b.ix, fun y hy hf => ?_, b.own⟩
  rcases b.free y hy hf with z | z
  · exact .inl (g.scr.same _ _ z (by decide))
  · rcases g.scr.free _ z with q | q
    · exact .inr q
    · exact .inl q
/-- what a turn of a comprehension asks: its tests, its element -/
def FOk (X : Cx) (scope : Scope) (elt : Expr) (cs : List Expr) (mf : Env → M (Option D)) : Prop :=
  ∃ tt te, (∀ (s : Shared) (H : Hp) (Cc : Addr) (cl : List (Str × Addr)) (fp : List Addr), PTs (X.blk s H scope (compEnvC scope cl Cc X.env) fp) cs tt ∧ PE (X.blk s H scope (compEnvC scope cl Cc X.env) fp) elt te) ∧
    ∀ T hc H env σ (A : VK) (B : Hp → Prop), Wd X.K T hc H → EnvR X.K T H env σ → Post X.K T H (fun o T' H' => match o with
      | some d => ∀ v, Rep X.K T' H' d v → A v H'
      | none => B H') (WE W0 σ) (mf env hc) → tt σ H fun b H3 => if b = true then te σ H3 A else B H3
theorem fok_nil {scope : Scope} {elt : Expr} {me : Env → M D} (he : ∀ (s : Shared) (H : Hp) (Cc : Addr) (cl : List (Str × Addr)) (fp : List Addr), CE C (X.blk s H scope (compEnvC scope cl Cc X.env) fp) W0 scope elt me) :
    FOk X scope elt [] (fun e => bnd (me e) fun d => pur (some d)) := by
  refine ⟨tYes, tClE X.K W0 me, fun s H Cc cl fp => ⟨pts_nil, (he s H Cc cl fp).cl⟩, fun T hc H env σ A B w er h => ?_⟩
  show (if true = true then tClE X.K W0 me σ H A else B H)
  rw [if_pos rfl]
  refine ⟨T, hc, env, w, er, Post.imp (Post.bind h) fun d T' H' e p v r => ?_⟩
  obtain ⟨hc', _, w', p⟩ := p
  exact p.of_pur w' v r
theorem fok_one {scope : Scope} {elt c : Expr} {me : Env → M D} {mt : Env → M Bool} (he : ∀ (s : Shared) (H : Hp) (Cc : Addr) (cl : List (Str × Addr)) (fp : List Addr), CE C (X.blk s H scope (compEnvC scope cl Cc X.env) fp) W0 scope elt me)
    (ht : ∀ (s : Shared) (H : Hp) (Cc : Addr) (cl : List (Str × Addr)) (fp : List Addr), CT (X.blk s H scope (compEnvC scope cl Cc X.env) fp) W0 c mt) :
    FOk X scope elt [c] (fun e => bnd (mt e) fun k => if k = true then bnd (me e) fun d => pur (some d) else pur none) := by
  refine ⟨tClT X.K W0 mt, tClE X.K W0 me, fun s H Cc cl fp => ⟨pts_one (ht s H Cc cl fp).cl, (he s H Cc cl fp).cl⟩, fun T hc H env σ A B w er h => ?_⟩
  refine ⟨T, hc, env, w, er, Post.imp (Post.bind h) fun b T' H' e p => ?_⟩
  obtain ⟨hc', e', w', p⟩ := p
  cases b with
  | false => exact p.of_pur w'
  | true =>
    refine ⟨T', hc', env, w', er.ext w e', Post.imp (Post.bind p) fun d T' H' e p v r => ?_⟩
    obtain ⟨hc', _, w', p⟩ := p
    exact p.of_pur w' v r
theorem setOf_iter {iter : Expr} (h : notSet iter = true) {env : PySem.Env} (x : Value) : foldedSetIterable iter env x = pure x := by
  cases iter <;> first | rfl | (simp [notSet] at h)
theorem post_calmly {α : Type} {K : PySem.W.Frag} {T : Tk} {H : Hp} {m : M α} {hc : Hc} {okQ : α → Tk → Hp → Prop} {exP : XK} (h : Post K T H okQ exP (calmly m hc)) : ∃ a hc', m hc = .ok a hc' ∧ Post K T H okQ exP (.ok a hc') := by
  unfold calmly at h
  cases q : m hc with
  | ok a h' => rw [q] at h; exact ⟨a, h', rfl, h⟩
  | exc _ _ _ => rw [q] at h; exact h.elim
  | bad => rw [q] at h; exact h.elim
theorem without_upd {H : Hp} {p : Addr} {o : HO} : without (upd H p o) p = without H p := by
  funext b
  by_cases e : b = p
  · subst e; rw [without_same, without_same]
  · rw [without_ne e, without_ne e, upd_ne e]
theorem extG_hide {T1 T : Tk} {H1 H : Hp} {D : Addr} (hD : H1 D = none) (e : Ext T1 H1 T (without H D)) : ExtG T1 H1 (T.hide D) H := by
  refine ⟨e.pre, fun b hb => ?_, e.al, fun b o h n => ?_, fun b hb => ?_⟩
  · rcases List.mem_cons.mp hb with z | z
    · subst z; exact .inr (.inr hD)
    · exact .inl (by rw [← e.gh]; exact z)
  · have nb : b ≠ D := ne_of_none h hD
    have := e.fr b o h n
    rw [without_ne nb] at this
    exact this
  · exact e.new b hb
theorem depOk_ok {α : Type} {dep : List (Nat × List D)} {m : M α} {h h' : Hc} {a : α} (e : depOk dep m h = .ok a h') : (∀ p ∈ dep, h[p.1]? = some (.lst p.2)) ∧ m h = .ok a h' := by
  unfold depOk at e
  split at e
  · next q => exact ⟨q, e⟩
  · cases e
theorem bnd_ok {α β : Type} {m : M α} {f : α → M β} {h h' : Hc} {b : β} (e : bnd m f h = .ok b h') : ∃ a h1, m h = .ok a h1 ∧ f a h1 = .ok b h' := by
  unfold bnd at e
  cases q : m h with
  | ok a h1 => rw [q] at e; exact ⟨a, h1, rfl, e⟩
  | exc _ _ _ => rw [q] at e; cases e
  | bad => rw [q] at e; cases e
theorem cn_comp (g : Gd C G Cs k X W sc) (hcm : C.cm = true) {elt tgt iter : Expr} {cs : List Expr} {scope : Scope} {own : List Nat} {tg : Tg} {mi : Env → M Src} {mf : Env → M (Option D)}
    (hb : blkC C.N sc scope (ownOf C.N own) = true) (htg : chkTg C scope (fun i => own.contains i) tg tgt = true) (hns : notSet iter = true) (hi : CI X W tgt iter mi) (hf : FOk X scope elt cs mf) :
    CN C X W sc (.ListComp elt [⟨tgt, iter, cs, 0⟩] scope pos) (fun env => bnd (mi env) fun s => guard (s.items.length ≤ sizeLine) (calmly (compL tg (wipeE env own) s.dep mf s.items))) := by
  obtain ⟨wi, pi, ri⟩ := hi
  obtain ⟨tt, te, pf, rf⟩ := hf
  have bk := g.blkOk hb
  have hk : scope.kind = .function := bk.kind
  have hg : ∀ (s : Shared) (H : Hp) (Cc : Addr) (cl : List (Str × Addr)) (fp : List Addr), PG (X.blk s H scope (compEnvC scope cl Cc X.env) fp) tgt (tClG X.K tg) := fun s H Cc cl fp => (cg_tg (g.blk hcm hk s H Cc cl fp) htg).cl
  have hown := tgOwn htg
  refine ⟨_, pe_lc (g.calm hcm) g.nd pi bk hg (fun s H Cc cl fp => (pf s H Cc cl fp).1) (fun s H Cc cl fp => (pf s H Cc cl fp).2) (fun x => setOf_iter hns x), fun i y py p hN go => ?_, fun T hc H env σ Q w er h => ?_⟩
  · simp only [goesOwn, Bool.and_eq_true, Bool.not_eq_true'] at go
    obtain ⟨⟨g1, g2⟩, g3⟩ := go
    exact ps_setLc (g.calm hcm) g.nd hN (g.locl g1) (sw_true g.scr.kind (g.locl g1) g2 g3) pi bk hg (fun s H Cc cl fp => (pf s H Cc cl fp).1) (fun s H Cc cl fp => (pf s H Cc cl fp).2) (fun x => setOf_iter hns x)
  · rw [ownOf_snd]
    refine ri T hc H env σ _ w er (Post.imp (Post.bind h) fun s T1 H1 e1 p J it D hD => ?_)
    obtain ⟨hc1, _, w1, h1⟩ := p
    have er1 : EnvR X.K T1 H1 env σ := er.ext w e1
    obtain ⟨hlen, h1⟩ := Post.of_guard h1
    obtain ⟨ds, hcF, run, hQ⟩ := post_calmly h1
    have nk : D ∉ T1.κ := w1.none_gh hD
    have nα : ¬ T1.α D := w1.none_al hD
    -- the invariant
    refine ⟨fun i m Hx => i + m = s.items.length ∧ ∃ (T : Tk) (hc : Hc) (done rest : List Cl.D) (vs : List V), Hx D = some (.lst vs) ∧ Ext T1 H1 T (without Hx D) ∧ Wd X.K T hc (without Hx D) ∧ RepL X.K T (without Hx D) done vs ∧ done.length ≤ i ∧
      compL tg (wipeE env own) s.dep mf (s.items.drop i) hc = .ok rest hcF ∧ ds = done ++ rest, ⟨s.items.length, by omega, T1, hc1, [], ds, [], upd_same, ?_, ?_, RepL.nil, Nat.le_refl _, run, rfl⟩, fun i m Hx hW => ?_⟩
    · rw [without_upd]
      refine ⟨⟨[], by simp⟩, rfl, rfl, fun b o hb _ => by rw [without_ne (ne_of_none hb hD)]; exact hb, fun b hb => .inl hb⟩
    · have e0 : without (upd H1 D (.lst [])) D = H1 := by
        rw [without_upd]
        funext b
        by_cases z : b = D
        · subst z; rw [without_same, hD]
        · rw [without_ne z]
      rw [e0]; exact w1
    · obtain ⟨em, T2, hc2, done, rest, vs, hx, e2, w2, rd, ld, run2, eds⟩ := hW
      have e3 : ExtG T1 H1 (T2.hide D) Hx := extG_hide hD e2
      have eHx : upd (without Hx D) D (.lst vs) = Hx := upd_without hx
      have w3 : Wd X.K (T2.hide D) hc2 Hx := by
        have := w2.hide (p := D) (xs := vs) without_same
        rw [eHx] at this; exact this
      have nk2 : D ∉ T2.κ := by rw [e2.gh]; exact nk
      have nα2 : ¬ T2.α D := by rw [e2.al]; exact nα
      by_cases hlt : i < s.items.length
      · have hdrop : s.items.drop i = s.items[i] :: s.items.drop (i + 1) := (List.drop_eq_getElem_cons hlt)
        rw [hdrop] at run2
        unfold compL at run2
        obtain ⟨dd, run3⟩ := depOk_ok run2
        obtain ⟨env1, hc3, st, run4⟩ := bnd_ok run3
        have es := setTg_same st
        rw [es] at st run4
        clear es
        obtain ⟨o, hc4, ft, run5⟩ := bnd_ok run4
        obtain ⟨rest', hc5, ct, run6⟩ := bnd_ok run5
        have run7 : Res.ok _ hc5 = Res.ok rest hcF := run6
        cases run7
        refine .inr ⟨it.go i hlt (T2.hide D) hc2 Hx e3 w3 dd, fun H' => ∃ (T : Tk) (hc : Hc) (done rest : List Cl.D) (vs : List V), H' D = some (.lst vs) ∧ Ext T1 H1 T (without H' D) ∧ Wd X.K T hc (without H' D) ∧ RepL X.K T (without H' D) done vs ∧ done.length ≤ i + 1 ∧
          compL tg (wipeE env own) s.dep mf (s.items.drop (i + 1)) hc = .ok rest hcF ∧ ds = done ++ rest, fun H' hn => ⟨m - 1, by omega, by omega, hn⟩, fun x H' y => ?_⟩
        obtain ⟨e4, w4, rx⟩ := it.yld i _ (List.getElem?_eq_getElem hlt) (T2.hide D) hc2 Hx e3 w3 dd x H' y
        have hx4 : H' D = some (.lst vs) := e4.fr D _ hx (w3.gh D List.mem_cons_self).1
        have er4 : EnvR X.K (T2.hide D) H' (wipeE env own) (L2.wipe σ own) := ((EnvR.extG w1 e3 er1).ext w3 e4).wipe own
        refine ⟨T2.hide D, hc2, wipeE env own, _, w4, er4, rx, ?_⟩
        rw [st]
        intro σ' er5 hw
        have hww : L2.wipe σ' own = L2.wipe σ own := by
          rw [hw own (fun j hj => by simpa using hown j hj)]
          have : ∀ (vs : List Nat) (σ : L2.St), L2.wipe (L2.wipe σ vs) vs = L2.wipe σ vs := by
            intro vs σ
            apply List.ext_getElem?
            intro j
            cases q : (L2.wipe σ vs)[j]? with
            | none =>
              rw [List.getElem?_eq_none_iff] at q ⊢
              rw [wipe_length]; exact q
            | some o =>
              by_cases hm : j ∈ vs
              · have hj : j < (L2.wipe σ vs).length := by
                  rcases Nat.lt_or_ge j (L2.wipe σ vs).length with z | z
                  · exact z
                  · rw [List.getElem?_eq_none_iff.mpr z] at q; cases q
                have wn : ∀ (τ : L2.St), j < τ.length → (L2.wipe τ vs)[j]? = some none := by
                  intro τ ht
                  cases q2 : (L2.wipe τ vs)[j]? with
                  | none => rw [List.getElem?_eq_none_iff, wipe_length] at q2; omega
                  | some z =>
                    cases z with
                    | none => rfl
                    | some z => exact absurd hm (wipe_some q2).2
                rw [wn _ hj]
                rw [wipe_length] at hj
                rw [wn _ hj] at q
                exact q
              · rw [wipe_out hm]; exact q
          exact this own σ
        refine ⟨hww, ?_⟩
        refine rf (T2.hide D) hc2 H' env1 σ' _ _ w4 er5 ?_
        rw [ft]
        intro T5 H5 e5 w5
        have hx5 : H5 D = some (.lst vs) := e5.fr D _ hx4 (w4.gh D List.mem_cons_self).1
        -- the exact form of T5
        have eT5 : T5 = (Tk.mk T5.ρ T2.κ T2.α).hide D := by
          have h1 : T5.κ = D :: T2.κ := e5.gh.trans e4.gh
          have h2 : T5.α = T2.α := e5.al.trans e4.al
          cases T5
          simp only at h1 h2
          subst h1; subst h2; rfl
        have e6 : Ext T2 (without Hx D) (Tk.mk T5.ρ T2.κ T2.α) (without H5 D) := by
          refine Ext.bare (o := .lst vs) without_same ?_
          rw [eHx, ← eT5]
          exact e4.trans e5
        have w6 : Wd X.K (Tk.mk T5.ρ T2.κ T2.α) hc4 (without H5 D) := by
          rw [eT5] at w5
          exact w5.bare hx5 nα2 nk2
        have rd6 : RepL X.K (Tk.mk T5.ρ T2.κ T2.α) (without H5 D) done vs := RepL.ext w2 e6 _ _ rd
        have lv : vs.length = done.length := rd.length
        cases o with
        | none =>
          exact ⟨Tk.mk T5.ρ T2.κ T2.α, hc4, done, rest', vs, hx5, e2.trans e6, w6, rd6, by omega, ct, eds⟩
        | some d =>
          intro v rv
          have rv6 : Rep X.K (Tk.mk T5.ρ T2.κ T2.α) (without H5 D) d v := by
            rw [eT5] at rv
            exact Rep.bare (T := Tk.mk T5.ρ T2.κ T2.α) hx5 nα2 _ _ rv
          refine ⟨vs, hx5, by omega, Tk.mk T5.ρ T2.κ T2.α, hc4, done ++ [d], rest', vs ++ [v], upd_same, ?_, ?_, ?_, by rw [List.length_append]; show done.length + 1 ≤ i + 1; omega, ct, by rw [eds]; simp⟩
          · rw [without_upd]; exact e2.trans e6
          · rw [without_upd]; exact w6
          · rw [without_upd]; exact rd6.append (RepL.cons rv6 RepL.nil)
      · have hi' : i = s.items.length := by omega
        subst hi'
        rw [List.drop_length] at run2
        unfold compL at run2
        obtain ⟨dd, run3⟩ := depOk_ok run2
        have run7 : Res.ok _ hc2 = Res.ok rest hcF := run3
        cases run7
        refine .inl ⟨it.stop (T2.hide D) _ Hx e3 w3 dd, ?_⟩
        rw [List.append_nil] at eds
        subst eds
        have := hQ T2 (without Hx D) e2 w2 D vs without_same rd (by rw [rd.length]; omega)
        rw [eHx] at this
        exact this
end
end Cl
/-! t[::-1], xs.extend(ys). -/
namespace Cl
open PySem PySem.Spec PyProof.Rows L2
section
variable {prog : Program} {w : World} {A : Around} {E : Value → Shared → Prop} {s : Shared}
theorem places_rev (n : Nat) : Builtin.Slice.slicePlaces ((n : Int) - 1) (-1) (-1) = n := by
  unfold Builtin.Slice.slicePlaces
  have h1 : ¬ ((-1 : Int) > 0) := by decide
  simp only [h1, if_false]
  rw [show -(-1 : Int) = 1 from rfl, Int.ediv_one]
  split <;> omega
theorem fmap_congr {α β : Type} {f g : α → Option β} : ∀ {l : List α}, (∀ x ∈ l, f x = g x) → l.filterMap f = l.filterMap g
  | [], _ => rfl
  | a :: l, h => by rw [List.filterMap_cons, List.filterMap_cons, h a List.mem_cons_self, fmap_congr fun x hx => h x (List.mem_cons_of_mem _ hx)]
theorem pick_rev' {α : Type} : ∀ r : List α, (List.range r.length).filterMap (fun m => r.reverse[r.length - 1 - m]?) = r
  | [] => rfl
  | a :: r => by
    rw [List.length_cons, List.range_succ_eq_map, List.filterMap_cons, List.filterMap_map]
    have h0 : (a :: r).reverse[r.length + 1 - 1 - 0]? = some a := by simp
    rw [h0]
    dsimp only
    congr 1
    have e : (List.range r.length).filterMap ((fun m => (a :: r).reverse[r.length + 1 - 1 - m]?) ∘ Nat.succ) = (List.range r.length).filterMap (fun m => r.reverse[r.length - 1 - m]?) := by
      refine fmap_congr fun m hm => ?_
      rw [List.mem_range] at hm
      simp only [Function.comp, List.reverse_cons]
      rw [List.getElem?_append_left (by rw [List.length_reverse]; omega)]
      congr 1
      omega
    rw [e]
    exact pick_rev' r
theorem pick_rev (xs : Array Value) : ((List.range xs.size).filterMap fun (m : Nat) => xs[(((xs.size : Int) - 1) + (m : Int) * (-1)).toNat]?).toArray = xs.toList.reverse.toArray := by
  congr 1
  have h := pick_rev' xs.toList.reverse
  rw [List.reverse_reverse, List.length_reverse, Array.length_toList] at h
  refine Eq.trans (fmap_congr fun m hm => ?_) h
  rw [Array.getElem?_toList]
  congr 1
  omega
theorem sliceApplied_rev {sl : Addr} {vs : Value} {n : Nat} {Q : Int × Int × Nat → Shared → Prop} (hs : s.heap.IsSliceOf sl .none .none vs) (ps : IsPart vs (some (-1)))
    (h : Q ((n : Int) - 1, -1, n) s) : wpAny (model prog w) A (Builtin.Slice.sliceApplied (.ref sl) (pure (n : Int))) Q E s := by
  obtain ⟨os, hos, hcs, hds⟩ := id hs
  unfold Builtin.Slice.sliceApplied Builtin.Slice.sliceFields
  refine wpAny_bind (wpAny_bind (wpAny_field hos hds (x := .none) rfl (wpAny_bind (wpAny_field hos hds (x := .none) rfl (wpAny_bind (wpAny_field hos hds (x := vs) rfl (wpAny_pure ?_)))))))
  refine wpAny_bind (HT.slicePart_ ps ?_)
  show wpAny _ _ (if ((-1 : Int) == 0) = true then _ else _) _ _ s
  rw [if_neg (by decide)]
  refine wpAny_bind (HT.slicePart_ .none (wpAny_bind (HT.slicePart_ .none (wpAny_bind (wpAny_pure ?_)))))
  show wpAny _ _ (pure (((n : Int) - 1), (-1 : Int), Builtin.Slice.slicePlaces ((n : Int) - 1) (-1) (-1))) _ _ s
  rw [places_rev]
  exact wpAny_pure h
theorem getItem_tuple_rev {t sl : Addr} {items : Array Value} {vl vu vs : Value} {Q : Value → Shared → Prop} (ht : IsTup s.heap t items) (hs : s.heap.IsSliceOf sl vl vu vs) (pl : IsPart vl none) (pu : IsPart vu none) (ps : IsPart vs (some (-1)))
    (h : Q (.ref s.heap.objs.size) { s with heap := s.heap.push { cls := .type "tuple", data := .seq items.toList.reverse.toArray } })
    (hsz : items.size ≤ sizeLine) : wpAny (model prog w) A (getItem (.ref t) (.ref sl)) Q E s := by
  have htake : sizeOk (.seq items.toList.reverse.toArray) := by
    show items.toList.reverse.toArray.size ≤ sizeLine
    rw [List.size_toArray, List.length_reverse, Array.length_toList]
    exact hsz
  obtain ⟨os, hos, hcs, hds⟩ := id hs
  have hTs : s.TypeIs (.ref sl) "slice" := ⟨os, hos, hcs⟩
  cases pl
  cases pu
  unfold getItem
  try with_reducible refine wpAny_holding ?_
  first | refine wpAny_bind (wpAny_pure ?_) | skip
  refine wpAny_bind (wpAny_sequenceKey ht.typeIs (by decide) ?_)
  refine wpAny_bind (wpAny_callSpecial?_slot (name := Str.ofString "__getitem__") ht.typeIs PyProof.Rows.slot_tuple_getitem
    (wpAny_call_entry PyProof.Rows.slot_tuple_getitem ht.typeIs entry_tuple_getitem ?_ (args_tuple_getitem _ _)))
  show wpAny _ _ (Builtin.Tuple.tupleItemsOf (.ref t) >>= _) _ _ s
  refine wpAny_bind (tupleItemsOf_ ht ?_)
  refine wpAny_bind (wpAny_typeOf hTs ?_)
  rw [if_pos (by decide)]
  refine wpAny_bind (sliceApplied_rev hs ps ?_)
  have hno : ¬ ((((items.size : Int) - 1) == 0 && (-1 : Int) == 1 && items.size == items.size) = true) := by simp
  show wpAny _ _ (if (((items.size : Int) - 1) == 0 && (-1 : Int) == 1 && items.size == items.size) = true then _ else _) _ _ s
  rw [if_neg hno, pick_rev]
  first
    | exact wpAny_bind (m := Builtin.Tuple.tupleExact _) (wpAny_newObj_type (wpAny_pure ⟨_, rfl, wpAny_pure h⟩) htake)
    | exact wpAny_bind (m := Builtin.Tuple.tupleExact _) (wpAny_newObj_type (wpAny_bind (wpAny_pure (wpAny_pure ⟨_, rfl, wpAny_pure h⟩))) htake)
    | exact wpAny_bind (wpAny_bind (m := Builtin.Tuple.tupleExact _) (wpAny_newObj_type (wpAny_pure (wpAny_pure ⟨_, rfl, wpAny_pure h⟩)) htake))
    | exact wpAny_bind (wpAny_bind (m := Builtin.Tuple.tupleExact _) (wpAny_newObj_type (wpAny_pure ⟨_, rfl, wpAny_pure h⟩) htake))
end
def tRevT (K : PySem.W.Frag) (te : TE) : TE := fun σ H Q => te σ H fun x H1 => ∃ a xs, x = .ref a ∧ SqT K H1 a xs ∧ ∀ p, H1 p = none → Q (.ref p) (upd H1 p (.tup xs.reverse))
theorem pe_revT {X : Cx} {e : Expr} {te : TE} {k : Nat} {p1 p2 p3 pos : Pos} (he : PE X e te) : PE X (.Subscript e (.Slice none none (some (.UnaryOp .USub (.Constant (.int 1) k p1) p2)) p3) pos) (tRevT X.K te) := by
  refine ⟨fun pins s σ H Q I h => ?_⟩
  refine Subscript_ (thn (he.run pins s σ H _ I h) fun v s1 ⟨x, H1, I1, r1, q1⟩ => ?_)
  obtain ⟨a, xs, ex, hx, q⟩ := q1
  subst ex
  cases r1
  have hst : PO X (some (.UnaryOp .USub (.Constant (.int 1) k p1) p2)) (tPart (tUn (rU fun i => .int (-i)) (tC (.int 1)))) := po_some (pe_un un_neg pe_int)
  refine wpAny_Slice (thn (po_none.run pins s1 σ H1 (fun o H2 => o = none ∧ H2 = H1) I1 ⟨rfl, rfl⟩) fun vl s2 ⟨l, H2, I2, pl, el, e2⟩ => ?_)
  subst el e2
  refine thn (po_none.run pins s2 σ H2 (fun o H3 => o = none ∧ H3 = H2) I2 ⟨rfl, rfl⟩) fun vu s3 ⟨u, H3, I3, pu, eu, e3⟩ => ?_
  subst eu e3
  refine thn (hst.run pins s3 σ H3 (fun o H4 => o = some (-1) ∧ H4 = H3) I3 ⟨1, rfl, -1, rfl, rfl, rfl⟩) fun vs s4 ⟨o, H4, I4, ps, eo, e4⟩ => ?_
  subst eo e4
  have I5 : Inv X pins σ H4 { s4 with heap := s4.heap.push { cls := .type "slice", data := .fields #[vl, vu, vs] } } := I4.kept (t' := s4.toks) fun b ob q => Heap.get?_push_of_some _ q
  obtain ⟨its, r, ht, hz⟩ := I5.tuple hx
  show wpAny (model X.prog X.w) X.A (subscriptTail e (.Slice none none (some (.UnaryOp .USub (.Constant (.int 1) k p1) p2)) p3) (.ref a) (.ref s4.heap.objs.size)) (EP X pins σ Q) X.xe { s4 with heap := s4.heap.push { cls := .type "slice", data := .fields #[vl, vu, vs] } }
  refine tail_any (ops := [.ref a, .ref s4.heap.objs.size]) ht.typeIs (PyProof.Rows.slot_tuple_getitem.lookup) ?_ (by with_unfolding_all rfl)
  refine getItem_tuple_rev ht (Heap.IsSliceOf.new _ vl vu vs) pl pu ps ?_ (by rw [List.size_toArray, ← r.length]; exact hz)
  refine ⟨.ref _, _, I5.laid (t' := s4.toks) (o := .tup xs.reverse) (fun b ob q => Heap.get?_push_of_some _ q) (Nat.le_refl _) ?_, rfl, q _ (I5.hok.fresh (Nat.le_refl _))⟩
  exact ⟨by rw [List.length_reverse]; exact hz, _, r.reverse, IsTup.new _ _⟩
/-! ### the rules -/
section
variable {C : Ck} {G : Gt} {Cs : List D} {k : Nat} {X : Cx} {W : WX} {sc : Scope} {pos : Pos}
variable {a b c e : Expr} {ma mb mc : Env → M D}
theorem ce_rev {j : Nat} {p1 p2 p3 : Pos} (ha : CE C X W sc a ma) : CE C X W sc (.Subscript a (.Slice none none (some (.UnaryOp .USub (.Constant (.int 1) j p1) p2)) p3) pos) (fun env => bnd (ma env) revM) := by
  obtain ⟨ta, pa, _, ra⟩ := ha
  refine ⟨_, pe_revT pa, OwnSt.no rfl, fun T hc H env σ Q w er h => ?_⟩
  refine read1 ra w er h fun d T1 hc1 H1 v e1 w1 er1 r1 h1 => ?_
  cases d <;> (try exact h1.elim)
  next xs =>
  simp only [Rep] at r1
  obtain ⟨q, vs, ev, s, ll, rr⟩ := r1
  refine ⟨q, vs, ev, s, fun p hp => ?_⟩
  exact h1 T1 _ (Ext.upd_new hp) (w1.upd_new hp) _ (rep_new_tup w1 hp rr.reverse (by rw [List.length_reverse]; exact ll))
theorem ce_ext {o : Expr} {ap cp : Pos} (hsu : notSuper o = true) (hline : (ap.endLine == cp.line) = true) (hs : isStar e = false) (ho : CE C X W sc o ma) (he : CE C X W sc e mb) :
    CE C X W sc (.Call (.Attribute o "extend" ap) [e] [] cp) (fun env => bnd (ma env) fun l => match l with
      | .ref i => bnd (lstAt i) fun _ => bnd (mb env) fun y => match y with
        | .fl ys => bnd (lstAt i) fun xs => guard (xs.length + ys.length ≤ sizeLine) (bnd (putAt i (.lst (xs ++ ys))) fun _ => pur .non)
        | _ => stuck
      | _ => stuck) := by
  obtain ⟨ta, pa, _, ra⟩ := ho
  obtain ⟨tb, pb, _, rb⟩ := he
  refine ⟨_, pe_bm PySem.F.plainAttrs_list PySem.F.slot_list_extend PySem.F.type_list_extend mt_extend pa (pa_cons pb pa_nil (star1 hs)) (superNo hsu) (few1 hs) hline (star1 hs) rfl, OwnSt.no rfl, fun T hc H env σ Q w er h => ?_⟩
  refine read1 ra w er h fun d T1 hc1 H1 v e1 w1 er1 r1 h1 => ?_
  cases d with
  | ref i =>
    obtain ⟨xs0, p, vs0, q0, hp, hv0, l0, rr0, h1⟩ := post_lstAt (okP := fun _ _ _ => True) w1 h1
    simp only [Rep] at r1
    obtain ⟨p', ep, hp'⟩ := r1
    rw [hp] at hp'; cases hp'
    subst ep
    refine ⟨.inl ⟨rfl, vs0, SqL.of hv0⟩, ?_⟩
    refine read1 rb w1 er1 h1 fun d2 T2 hc2 H2 u e2 w2 er2 r2 h2 => ?_
    cases d2 <;> (try exact h2.elim)
    next ys =>
    simp only [Rep] at r2
    obtain ⟨b, us, eu, sb, lu, ru⟩ := r2
    have h2' : Post X.K T2 H2 _ (WE W σ) (bnd (lstAt i) (fun xs => Cl.guard (xs.length + ys.length ≤ sizeLine) (bnd (putAt i (.lst (xs ++ ys))) fun _ => pur D.non)) hc2) := h2
    obtain ⟨xs, p2, vs, q, hp2, hv, l, rr, h3⟩ := post_lstAt (okP := fun _ _ _ => True) w2 h2'
    have := e2.get hp
    rw [this] at hp2; cases hp2
    obtain ⟨c, h3⟩ := Post.of_guard h3
    have lv : vs.length + us.length ≤ sizeLine := by rw [rr.length, ru.length]; exact c
    obtain ⟨w3, e3, h4⟩ := post_putAt w2 this (rr.append ru) (by rw [List.length_append]; exact lv) ⟨vs, hv⟩ h3
    exact ⟨p, b, vs, us, rfl, by rw [eu], hv, sb.1, lv, h4.of_pur w3 _ (by simp only [Rep])⟩
  | _ => exact h1.elim
end
end Cl
/-! Dicts, other calls with a receiver; calls of names that hold defs. -/
namespace Cl
open PySem PySem.Spec PyProof.Rows L2
/-! ### dicts by values -/
section
variable {K : PySem.W.Frag} {T : Tk} {H : Hp} {hc : Hc} {exP : XK} {α : Type}
theorem RepKV.val {k : Key} : ∀ {ds : List (Key × D)} {ws : List (Key × V)}, RepKV K T H ds ws → match valD ds k with
    | some d => ∃ v, valV ws k = some v ∧ Rep K T H d v
    | none => valV ws k = none
  | [], ws, h => by simp only [RepKV] at h; rw [h]; rfl
  | (k', d) :: ds, ws, h => by
    simp only [RepKV] at h
    obtain ⟨v, r, q, a, b⟩ := h
    subst q
    unfold valD
    by_cases e : k' = k
    · rw [if_pos e]
      exact ⟨v, valV_pos e, a⟩
    · rw [if_neg e]
      have ih := RepKV.val (k := k) b
      rw [valV_neg (p := (k', v)) e]
      exact ih
theorem RepKV.map1 {k : Key} {d : D} {v : V} (rv : Rep K T H d v) : ∀ {ds : List (Key × D)} {ws : List (Key × V)}, RepKV K T H ds ws →
    RepKV K T H (ds.map fun kv => if kv.1 = k then (kv.1, d) else kv) (ws.map fun kv => if kv.1 = k then (kv.1, v) else kv)
  | [], ws, h => by simp only [RepKV] at h; rw [h]; simp only [List.map_nil, RepKV]
  | (k', d') :: ds, ws, h => by
    simp only [RepKV] at h
    obtain ⟨v', r, q, a, b⟩ := h
    subst q
    have ih := RepKV.map1 (k := k) rv b
    simp only [List.map_cons]
    by_cases e : k' = k
    · simp only [e, if_true, RepKV]
      exact ⟨v, _, rfl, rv, ih⟩
    · simp only [e, if_false, RepKV]
      exact ⟨v', _, rfl, a, ih⟩
theorem RepKV.snoc {k : Key} {d : D} {v : V} (rv : Rep K T H d v) : ∀ {ds : List (Key × D)} {ws : List (Key × V)}, RepKV K T H ds ws → RepKV K T H (ds ++ [(k, d)]) (ws ++ [(k, v)])
  | [], ws, h => by simp only [RepKV] at h; rw [h]; exact ⟨v, [], rfl, rv, rfl⟩
  | (k', d') :: ds, ws, h => by
    simp only [RepKV] at h
    obtain ⟨v', r, q, a, b⟩ := h
    subst q
    exact ⟨v', _, rfl, a, RepKV.snoc rv b⟩
theorem RepKV.any {k : Key} {ds : List (Key × D)} {ws : List (Key × V)} (h : RepKV K T H ds ws) : (ws.any fun kv => decide (kv.1 = k)) = ds.any fun kv => decide (kv.1 = k) := by
  have e1 : (ws.any fun kv => decide (kv.1 = k)) = (ws.map (·.1)).any fun x => decide (x = k) := by rw [List.any_map]; rfl
  have e2 : (ds.any fun kv => decide (kv.1 = k)) = (ds.map (·.1)).any fun x => decide (x = k) := by rw [List.any_map]; rfl
  rw [e1, e2, h.keys]
theorem RepKV.put {k : Key} {d : D} {v : V} {ds : List (Key × D)} {ws : List (Key × V)} (rv : Rep K T H d v) (h : RepKV K T H ds ws) : RepKV K T H (putD ds k d) (putK ws k v) := by
  unfold putD putK
  rw [h.any]
  split
  · exact h.map1 rv
  · exact h.snoc rv
theorem putD_len {ds : List (Key × D)} {k : Key} {d : D} : (putD ds k d).length ≤ ds.length + 1 := by
  unfold putD
  split
  · rw [List.length_map]; omega
  · rw [List.length_append]; exact Nat.le_refl _
theorem key_rep {d : D} {k : Key} {v : V} (e : keyD d = some k) (r : Rep K T H d v) : v = kV k := by
  cases d <;> simp only [keyD, Option.some.injEq] at e <;> first | (subst e; simp only [Rep] at r; exact r) | cases e
theorem post_dctAt {i : Nat} {m : List (Key × D) → M α} {okQ : α → Tk → Hp → Prop} (w : Wd K T hc H) (h : Post K T H okQ exP (bnd (dctAt i) m hc)) :
    ∃ kvs a ws, hc[i]? = some (.dct kvs) ∧ T.ρ[i]? = some a ∧ H a = some (.dK ws) ∧ ws.length ≤ sizeLine ∧ RepKV K T H kvs ws ∧ Post K T H okQ exP (m kvs hc) := by
  unfold bnd dctAt at h
  cases q : hc[i]? with
  | none => rw [q] at h; exact h.elim
  | some o =>
    cases o with
    | dct kvs =>
      rw [q] at h
      obtain ⟨a, ha, vs, e, l, r⟩ := w.obj i _ q
      exact ⟨kvs, a, vs, rfl, ha, e, l, r, h⟩
    | lst _ => rw [q] at h; exact h.elim
    | ins _ _ => rw [q] at h; exact h.elim
theorem post_opt {β : Type} {o : Option β} {m : β → M α} {okQ : α → Tk → Hp → Prop} (h : Post K T H okQ exP (bnd (optM o) m hc)) : ∃ b, o = some b ∧ Post K T H okQ exP (m b hc) := by
  cases o with
  | none => exact h.elim
  | some b => exact ⟨b, rfl, h⟩
theorem post_ref {i : Nat} {v : V} {a : Addr} (r : Rep K T H (.ref i) v) (h : T.ρ[i]? = some a) : v = .ref a := by
  simp only [Rep] at r
  obtain ⟨b, eb, hb⟩ := r
  rw [h] at hb; cases hb
  exact eb
theorem post_putO {i : Nat} {kvs : List (Key × D)} {ws : List (Key × V)} {a : Addr} {f : Unit → M α} {okQ : α → Tk → Hp → Prop} (w : Wd K T hc H) (ha : T.ρ[i]? = some a) (r : RepKV K T H kvs ws) (l : ws.length ≤ sizeLine)
    (h : Post K T H okQ exP (bnd (putAt i (.dct kvs)) f hc)) : Wd K T (hc.set i (.dct kvs)) (upd H a (.dK ws)) ∧ Ext T H T (upd H a (.dK ws)) ∧ Post K T (upd H a (.dK ws)) okQ exP (f () (hc.set i (.dct kvs))) := by
  have m : a ∈ T.ρ := atm ha
  have e : Ext T H T (upd H a (.dK ws)) := Ext.write m
  have w2 : Wd K T (hc.set i (.dct kvs)) (upd H a (.dK ws)) := w.write ha ⟨ws, upd_same, l, RepKV.ext w e _ _ r⟩
  refine ⟨w2, e, ?_⟩
  unfold bnd putAt at h
  split at h
  · next q =>
    split at q
    · cases q; exact Post.ext e h
    · cases q
  · next q =>
    split at q <;> cases q
  · exact h.elim
end
theorem prM_dput {v y : D} {i : Nat} : prM .dput v (.ref i) y = bnd (dctAt i) fun kvs => bnd (optM (keyD y)) fun k => guard (kvs.length < sizeLine) (bnd (putAt i (.dct (putD kvs k v))) fun _ => pur .non) := by
  cases v <;> rfl
theorem cn_revLM {K : PySem.W.Frag} {T : Tk} {H : Hp} {hc : Hc} {exP : XK} {d : D} {v : V} {okQ : List D → Tk → Hp → Prop} (w : Wd K T hc H) (r : Rep K T H d v) (h : Post K T H okQ exP (revLM d hc)) :
    ∃ xs a vs, v = .ref a ∧ SqL K H a vs ∧ vs.length ≤ sizeLine ∧ RepL K T H xs vs ∧ okQ xs.reverse T H := by
  have key : (∀ ys, d ≠ .tup ys) → Post K T H okQ exP (bnd (seqM d) (fun xs => pur xs.reverse) hc) → ∃ xs a vs, v = .ref a ∧ SqL K H a vs ∧ vs.length ≤ sizeLine ∧ RepL K T H xs vs ∧ okQ xs.reverse T H := fun nt h => by
    obtain ⟨xs, p, vs, ev, s, sl, st, ll, rr, h4, _⟩ := post_seq w r h
    exact ⟨xs, p, vs, ev, sl nt, ll, rr, h4.of_pur w⟩
  cases d with
  | tup ys => exact h.elim
  | _ => exact key (fun ys z => by cases z) h
/-! ### the rules of the hand layer, for dicts whose keys are ints and texts -/
def rIxD : R2 := fun x y H Q => ∃ a ws k v, x = V.ref a ∧ H a = some (.dK ws) ∧ y = kV k ∧ valV ws k = some v ∧ Q v H
theorem ix_dict {X : Cx} : IxR X rIxD := by
  intro value slice pins s σ H x y v u Q I rx ry h hs
  obtain ⟨a, ws, k, z, rfl, e, rfl, l, q⟩ := h
  cases rx
  obtain ⟨zz, hd, vs, rel, dd⟩ := dk_rd I.hok (.inl e)
  obtain ⟨w', hw, rw'⟩ := RelO.some_of (v := z) (o := valueAt vs k) (by rw [← l]; exact rel.val k)
  unfold subscriptTail
  refine wpAny_bind ?_
  rw [getitemInPython_of_ne dd.typeIs.not_modules]
  refine wpAny_bind (wpAny_specialOf dd.typeIs PySem.F.slot_dict_getitem.lookup ?_)
  have h₂ : wpAny (model X.prog X.w) X.A (getItem (.ref a) u) (EP X pins σ Q) X.xe s := wpAny_getItem_of (kV_is ry) dd.mapOf hw ⟨z, H, I.tok _, rw', q⟩
  have fin : wpAny (model X.prog X.w) X.A (subscripted slice false (.ref a) u) (fun r s₃ => wpAny (model X.prog X.w) X.A (letTemporaryGo value (.ref a) r >>= fun _ => pure r) (EP X pins σ Q) X.xe s₃) X.xe s := by
    rw [hs]
    exact wpAny_operating (wpAny_mono h₂ (fun r s₃ h₃ => wpAny_bind (wpAny_letTemporaryGo (wpAny_pure h₃))) fun _ _ x => x)
  first
    | exact wpAny_pure (wpAny_bind fin)
    | exact wpAny_bind (wpAny_pure (wpAny_bind fin))
    | exact wpAny_bind fin
def rInK (b : Bool) : R2 := fun y x H Q => ∃ a ws k, x = V.ref a ∧ H a = some (.dK ws) ∧ y = kV k ∧ Q (.bl (b != (valV ws k).isSome)) H
def opIn (b : Bool) : CmpOp := if b then .NotIn else .In
theorem op_inK {X : Cx} (hu : X.A.units + 1 < cLine) : ∀ b, OpR X (compareOp (opIn b)) (rInK b)
  | false => by
    intro pins s σ H y x u v Q I ry rx h
    obtain ⟨a, ws, k, rfl, e, rfl, q⟩ := h
    cases rx
    exact d_in hu I (DGet.k e) ry fun s' I' => ⟨.bl _, H, I', rfl, by rw [Bool.false_bne] at q; exact q⟩
  | true => by
    intro pins s σ H y x u v Q I ry rx h
    obtain ⟨a, ws, k, rfl, e, rfl, q⟩ := h
    cases rx
    exact d_notIn hu I (DGet.k e) ry fun s' I' => ⟨.bl _, H, I', rfl, by rw [Bool.true_bne] at q; exact q⟩
section
variable {C : Ck} {G : Gt} {Cs : List D} {k : Nat} {X : Cx} {W : WX} {sc : Scope} {pos : Pos}
variable {a b c e f : Expr} {ma mb mc : Env → M D} {es : List Expr} {mA : Env → M (List D)}
theorem ce_dnew : CE C X W sc (.Dict [] [] pos) (fun _ h => .ok (.ref h.length) (h ++ [.dct []])) := by
  refine ⟨_, pe_dnewK, OwnSt.no rfl, fun T hc H env σ Q w er h => fun q hq => ?_⟩
  obtain ⟨w2, e3⟩ := w.snoc (oc := .dct []) hq ⟨[], upd_same, Nat.zero_le _, by simp only [RepKV]⟩
  refine h _ _ e3 w2 _ ?_
  simp only [Rep]
  exact ⟨q, rfl, by show (T.ρ ++ [q])[hc.length]? = some q; rw [← w.len, List.getElem?_append_right (Nat.le_refl _)]; simp⟩
theorem var_tok {env : Env} {σ : L2.St} {K : PySem.W.Frag} {T : Tk} {H : Hp} (er : EnvR K T H env σ) {i : Nat} {d : D} (e : (env[i]?).bind id = some d) : ∃ v, σ[i]? = some (some v) ∧ Rep K T H d v := by
  cases q : env[i]? with
  | none => rw [q] at e; cases e
  | some o =>
    rw [q] at e
    simp only [Option.bind_some, id] at e
    subst e
    exact er.2 i d q
theorem ce_ddisp (g : Gd C G Cs k X W sc) {i j : Nat} {x y : Str} {p1 p2 : Pos} (hN : C.N[i]? = some x) (hv : visB sc x = true) (ho : okName x = true) (hN2 : C.N[j]? = some y) (hv2 : visB sc y = true) (ho2 : okName y = true) :
    CE C X W sc (.Dict [some (.Name x p1)] [.Name y p2] pos) (fun env => bnd (optM ((env[i]?).bind id)) fun x => bnd (optM ((env[j]?).bind id)) fun y => prM .ddisp x y .non) := by
  have pa := pe_var (X := X) (i := i) (pos := p1) (by rw [g.N]; exact hN) (g.vis hv) (okName_d ho).1 (okName_d ho).2
  have pb := pe_var (X := X) (i := j) (pos := p2) (by rw [g.N]; exact hN2) (g.vis hv2) (okName_d ho2).1 (okName_d ho2).2
  refine ⟨_, pe_disp (pps_cons pa pb pps_nil) rfl rfl (by simp) (by simp), OwnSt.no rfl, fun T hc H env σ Q w er h => fun q hq => ?_⟩
  obtain ⟨d1, e1, h⟩ := post_opt h
  obtain ⟨d2, e2, h⟩ := post_opt h
  obtain ⟨kk, ek, h⟩ := post_opt h
  obtain ⟨v1, s1, r1⟩ := var_tok er e1
  obtain ⟨v2, s2, r2⟩ := var_tok er e2
  refine ⟨v1, s1, v2, s2, upd_same, [(kk, v2)], by rw [key_rep ek r1]; rfl, by simp, ?_⟩
  rw [upd_upd]
  have e2 : Ext T H (T.snoc q) (upd H q (.dK [(kk, v2)])) := by
    refine ⟨⟨[q], rfl⟩, rfl, rfl, fun b x h _ => by rw [upd_ne (ne_of_none h hq)]; exact h, fun b hb => ?_⟩
    rcases List.mem_append.mp hb with z | z
    · exact .inl z
    · rw [List.mem_singleton] at z; subst z; exact .inr hq
  obtain ⟨w2, e3⟩ := w.snoc (oc := .dct [(kk, d2)]) hq ⟨[(kk, v2)], upd_same, by show 1 ≤ sizeLine; decide, by
    simp only [RepKV]
    exact ⟨v2, [], rfl, Rep.ext w e2 _ _ r2, rfl⟩⟩
  refine h _ _ e3 w2 _ ?_
  simp only [Rep]
  exact ⟨q, rfl, by show (T.ρ ++ [q])[hc.length]? = some q; rw [← w.len, List.getElem?_append_right (Nat.le_refl _)]; simp⟩
theorem ce_dget (hs : notSlice b = true) (ha : CE C X W sc a ma) (hb : CE C X W sc b mb) : CE C X W sc (.Subscript a b pos) (fun env => bnd (ma env) fun x => bnd (mb env) fun y => prM .dget x y .non) :=
  ce_op2 (te := fun a b => a) rfl (fun ta tb pa pb => pe_ix ix_dict pa pb (slice_no hs)) ha hb fun T hc H d d' v u E Q w r1 r2 h => by
    cases d <;> first | exact h.elim | skip
    next i =>
    obtain ⟨kvs, p, ws, q, hp, hv, l, rr, h2⟩ := post_dctAt w h
    obtain ⟨kk, ek, h2⟩ := post_opt h2
    have ev := key_rep ek r2
    have er := post_ref r1 hp
    obtain ⟨d, ed, h2⟩ := Post.of_opt h2 w
    have := rr.val (k := kk)
    rw [ed] at this
    obtain ⟨z, hz, rz⟩ := this
    exact ⟨p, ws, kk, z, er, hv, ev, hz, h2 _ rz⟩
theorem val_some {K : PySem.W.Frag} {T : Tk} {H : Hp} {kvs : List (Key × D)} {ws : List (Key × V)} (rr : RepKV K T H kvs ws) (kk : Key) : (valV ws kk).isSome = (valD kvs kk).isSome := by
  have := rr.val (k := kk)
  cases q : valD kvs kk with
  | none => rw [q] at this; rw [this]; rfl
  | some d => rw [q] at this; obtain ⟨v, hv, _⟩ := this; rw [hv]; rfl
theorem val_get {K : PySem.W.Frag} {T : Tk} {H : Hp} {kvs : List (Key × D)} {ws : List (Key × V)} (rr : RepKV K T H kvs ws) (kk : Key) {d : D} {v : V} (r : Rep K T H d v) : Rep K T H ((valD kvs kk).getD d) ((valV ws kk).getD v) := by
  have := rr.val (k := kk)
  cases q : valD kvs kk with
  | none => rw [q] at this; rw [this]; exact r
  | some d => rw [q] at this; obtain ⟨v, hv, rv⟩ := this; rw [hv]; exact rv
theorem bnd_pur_r {α : Type} (m : M α) : bnd m pur = m := by
  funext h
  unfold bnd pur
  cases m h <;> rfl
theorem post_din {α : Type} {K : PySem.W.Frag} {T : Tk} {H : Hp} {hc : Hc} {n : Bool} {d d' : D} {v u : V} {exP : XK} {Q : VK} {okQ : α → Tk → Hp → Prop} {f : D → M α} (w : Wd K T hc H) (r1 : Rep K T H d v) (r2 : Rep K T H d' u)
    (h : Post K T H okQ exP (bnd (prM (.din n) d d' .non) f hc)) (fin : ∀ b, Post K T H okQ exP (f (.bl b) hc) → Q (.bl b) H) : rInK n v u H Q := by
  have key : ∀ i, d' = .ref i → rInK n v u H Q := fun i e => by
    subst e
    have h : Post K T H okQ exP (bnd (bnd (dctAt i) (fun kvs => bnd (optM (keyD d)) fun k => pur (.bl (n != (valD kvs k).isSome)))) f hc) := by
      cases d <;> exact h
    rw [bnd_assoc] at h
    obtain ⟨kvs, p, ws, q, hp, hv, l, rr, h2⟩ := post_dctAt w h
    rw [bnd_assoc] at h2
    obtain ⟨kk, ek, h2⟩ := post_opt h2
    exact ⟨p, ws, kk, post_ref r2 hp, hv, key_rep ek r1, fin _ (by rw [val_some rr]; exact h2)⟩
  cases d' <;> first | exact key _ rfl | (cases d <;> exact h.elim)
theorem ce_din (g : Gd C G Cs k X W sc) {n : Bool} (hs : C.cm = true ∧ notSet b = true) (ha : CE C X W sc a ma) (hb : CE C X W sc b mb) : CE C X W sc (.Compare a [opIn n] [b] pos) (fun env => bnd (ma env) fun x => bnd (mb env) fun y => prM (.din n) x y .non) :=
  ce_op2 (te := fun a b => a) rfl (fun ta tb pa pb => pe_cmpR (op_inK (by have := (g.rm hs.1).un; omega) n) pa pb (marks_no hs.2)) ha hb fun T hc H d d' v u E Q w r1 r2 h => by
    rw [← bnd_pur_r (prM (.din n) d d' .non)] at h
    exact post_din w r1 r2 h fun b h => h.of_pur w _ (by simp only [Rep])
theorem ct_din (g : Gd C G Cs k X W sc) {n : Bool} (hs : C.cm = true ∧ notSet b = true) (ha : CE C X W sc a ma) (hb : CE C X W sc b mb) : CT X W (.Compare a [opIn n] [b] pos) (fun env => bnd (bnd (ma env) fun x => bnd (mb env) fun y => prM (.din n) x y .non) truM) := by
  obtain ⟨ta, pa, _, ra⟩ := ha
  obtain ⟨tb, pb, _, rb⟩ := hb
  refine ⟨_, pt_cmpR (op_inK (by have := (g.rm hs.1).un; omega) n) pa pb (marks_no hs.2), fun T hc H env σ Q w er h => ?_⟩
  dsimp only at h
  rw [bnd_assoc] at h
  refine read1 ra w er h fun d T1 hc1 H1 v e1 w1 er1 r1 h1 => ?_
  rw [bnd_assoc] at h1
  refine read1 rb w1 er1 h1 fun d2 T2 hc2 H2 u e2 w2 er2 r2 h2 => ?_
  exact post_din w2 (Rep.ext w1 e2 _ _ r1) r2 h2 fun b h => ⟨b, rfl, h.of_pur w2⟩
theorem few2 {cpos : Pos} {env : PySem.Env} (h : isStar e = false) (h' : isStar f = false) : ((backTo cpos (starEach [e, f] env)).all (fun x => !x.1) && (backToKw cpos (keywordEach [] env)).all (fun x => x.1.isSome)
      && decide ([e, f].length + ([] : List Keyword).length + (if ([] : List Keyword).isEmpty then 0 else 1) < 30)) = true := by
  rw [starFew (by intro x hx; simp only [List.mem_cons, List.not_mem_nil, or_false] at hx; rcases hx with rfl | rfl <;> assumption)]; rfl
theorem back1 {cpos : Pos} {env : PySem.Env} (h : isStar e = false) : backTo cpos (starEach [e] env) = [(false, eval e env)] := by
  rw [star1 h]; rfl
theorem back2 {cpos : Pos} {env : PySem.Env} (h : isStar e = false) (h' : isStar f = false) : backTo cpos (starEach [e, f] env) = [(false, eval e env), (false, eval f env)] := by
  rw [star1 h, star1 h']; rfl
theorem ce_dget1 (g : Gd C G Cs k X W sc) (hcm : C.cm = true) {o : Expr} {ap cp : Pos} (hsu : notSuper o = true) (hline : (ap.endLine == cp.line) = true) (hs : isStar e = false) (ho : CE C X W sc o ma) (he : CE C X W sc e mb) :
    CE C X W sc (.Call (.Attribute o "get" ap) [e] [] cp) (fun env => bnd (ma env) fun x => bnd (preM .dget1 x) fun _ => bnd (mb env) fun y => prM .dget1 x y .non) := by
  obtain ⟨ta, pa, _, ra⟩ := ho
  obtain ⟨tb, pb, _, rb⟩ := he
  refine ⟨_, pe_dget1 (by have := (g.rm hcm).un; omega) pa pb ⟨superNo hsu, few1 hs, hline, back1 hs⟩, OwnSt.no rfl, fun T hc H env σ Q w er h => ?_⟩
  refine read1 ra w er h fun d T1 hc1 H1 v e1 w1 er1 r1 h1 => ?_
  cases d <;> first | exact h1.elim | skip
  next i =>
  have h1 : Post X.K T1 H1 _ (WE W σ) (bnd (bnd (dctAt i) fun _ => pur ()) (fun _ => bnd (mb env) fun y => prM .dget1 (.ref i) y .non) hc1) := h1
  rw [bnd_assoc] at h1
  obtain ⟨kvs0, p, ws0, q0, hp, hv0, l0, rr0, h1⟩ := post_dctAt w1 h1
  refine ⟨p, post_ref r1 hp, .inl ⟨_, .inl hv0⟩, ?_⟩
  refine read1 rb w1 er1 h1 fun d2 T2 hc2 H2 u e2 w2 er2 r2 h2 => ?_
  obtain ⟨kvs, p2, ws, q, hp2, hv, l, rr, h3⟩ := post_dctAt w2 h2
  have := e2.get hp
  rw [this] at hp2; cases hp2
  obtain ⟨kk, ek, h3⟩ := post_opt h3
  rw [key_rep ek r2]
  exact ⟨_, DGet.k hv, h3.of_pur w2 _ (val_get rr kk (by simp only [Rep]))⟩
theorem ce_dget2 (g : Gd C G Cs k X W sc) (hcm : C.cm = true) {o : Expr} {ap cp : Pos} (hsu : notSuper o = true) (hline : (ap.endLine == cp.line) = true) (hs : isStar e = false) (hs2 : isStar f = false) (ho : CE C X W sc o ma) (he : CE C X W sc e mb) (hf : CE C X W sc f mc) :
    CE C X W sc (.Call (.Attribute o "get" ap) [e, f] [] cp) (fun env => bnd (ma env) fun x => bnd (preM .dget2 x) fun _ => bnd (mb env) fun y => bnd (mc env) fun z => prM .dget2 x y z) := by
  obtain ⟨ta, pa, _, ra⟩ := ho
  obtain ⟨tb, pb, _, rb⟩ := he
  obtain ⟨tc, pc, _, rc⟩ := hf
  refine ⟨_, pe_dget2 (by have := (g.rm hcm).un; omega) pa pb pc ⟨superNo hsu, few2 hs hs2, hline, back2 hs hs2⟩, OwnSt.no rfl, fun T hc H env σ Q w er h => ?_⟩
  refine read1 ra w er h fun d T1 hc1 H1 v e1 w1 er1 r1 h1 => ?_
  cases d <;> first | exact h1.elim | skip
  next i =>
  have h1 : Post X.K T1 H1 _ (WE W σ) (bnd (bnd (dctAt i) fun _ => pur ()) (fun _ => bnd (mb env) fun y => bnd (mc env) fun z => prM .dget2 (.ref i) y z) hc1) := h1
  rw [bnd_assoc] at h1
  obtain ⟨kvs0, p, ws0, q0, hp, hv0, l0, rr0, h1⟩ := post_dctAt w1 h1
  refine ⟨p, post_ref r1 hp, .inl ⟨_, .inl hv0⟩, ?_⟩
  refine read1 rb w1 er1 h1 fun d2 T2 hc2 H2 u e2 w2 er2 r2 h2 => ?_
  refine read1 rc w2 er2 h2 fun d3 T3 hc3 H3 t e3 w3 er3 r3 h3 => ?_
  obtain ⟨kvs, p2, ws, q, hp2, hv, l, rr, h4⟩ := post_dctAt w3 h3
  have := e3.get (e2.get hp)
  rw [this] at hp2; cases hp2
  obtain ⟨kk, ek, h4⟩ := post_opt h4
  rw [key_rep ek (Rep.ext w2 e3 _ _ r2)]
  exact ⟨_, DGet.k hv, h4.of_pur w3 _ (val_get rr kk r3)⟩
/-! ### lists: index, insert -/
theorem post_ls' {K : PySem.W.Frag} {T : Tk} {H : Hp} {hc : Hc} {exP : XK} {α : Type} {d : D} {v : V} {m : List D → M α} {okQ : α → Tk → Hp → Prop} (w : Wd K T hc H) (r : Rep K T H d v) (h : Post K T H okQ exP (bnd (lsM d) m hc)) :
    ∃ xs a vs, v = .ref a ∧ SqL K H a vs ∧ vs.length ≤ sizeLine ∧ RepL K T H xs vs ∧ Post K T H okQ exP (m xs hc) := by
  cases d with
  | fl xs =>
    obtain ⟨xs', a, vs, e, s, sl, st, l, rr, h1, e1⟩ := post_seq (d := .fl xs) (m := m) w r h
    exact ⟨xs', a, vs, e, sl (fun _ z => by cases z), l, rr, h1⟩
  | ref i =>
    obtain ⟨xs', a, vs, e, s, sl, st, l, rr, h1, e1⟩ := post_seq (d := .ref i) (m := m) w r h
    exact ⟨xs', a, vs, e, sl (fun _ z => by cases z), l, rr, h1⟩
  | _ => exact h.elim
theorem find_rep {K : PySem.W.Frag} {T : Tk} {H : Hp} {x : D} {u : V} (rx : Rep K T H x u) (fx : flatD x = true) {xs : List D} {vs : List V} (r : RepL K T H xs vs) (f : xs.all flatD = true) {j : Nat} (h : xs.findIdx? (fun y => eqF y x) = some j) :
    ∃ z, vs[j]? = some z ∧ eqV z u = true ∧ ∀ (m : Nat) (z' : V), m < j → vs[m]? = some z' → eqV z' u = false := by
  rw [List.findIdx?_eq_some_iff_getElem] at h
  obtain ⟨hj, h1, h2⟩ := h
  obtain ⟨z, hz, rz⟩ := r.get (List.getElem?_eq_getElem hj)
  refine ⟨z, hz, ?_, fun m z' hm hz' => ?_⟩
  · rw [eqF_of rz rx (List.all_eq_true.mp f _ (List.getElem_mem hj)) fx]; exact h1
  · obtain ⟨d, hd, rd⟩ := r.getV hz'
    have hm2 : m < xs.length := by omega
    rw [List.getElem?_eq_getElem hm2] at hd
    cases hd
    rw [eqF_of rd rx (List.all_eq_true.mp f _ (List.getElem_mem hm2)) fx]
    have := h2 m hm
    simpa using this
theorem ce_index {o : Expr} {ap cp : Pos} (hsu : notSuper o = true) (hline : (ap.endLine == cp.line) = true) (hs : isStar e = false) (ho : CE C X W sc o ma) (he : CE C X W sc e mb) :
    CE C X W sc (.Call (.Attribute o "index" ap) [e] [] cp) (fun env => bnd (ma env) fun x => bnd (preM .index x) fun _ => bnd (mb env) fun y => prM .index x y .non) := by
  obtain ⟨ta, pa, _, ra⟩ := ho
  obtain ⟨tb, pb, _, rb⟩ := he
  refine ⟨_, pe_bm PySem.F.plainAttrs_list PySem.F.slot_list_index PySem.F.type_list_index mt_index pa (pa_cons pb pa_nil (star1 hs)) (superNo hsu) (few1 hs) hline (star1 hs) rfl, OwnSt.no rfl, fun T hc H env σ Q w er h => ?_⟩
  refine read1 ra w er h fun d T1 hc1 H1 v e1 w1 er1 r1 h1 => ?_
  have h1 : Post X.K T1 H1 (fun d T' H' => ∀ v, Rep X.K T' H' d v → Q v H') (WE W σ) (bnd (bnd (lsM d) fun _ => pur ()) (fun _ => bnd (mb env) fun y => prM .index d y .non) hc1) := by
    cases d <;> exact h1
  rw [bnd_assoc] at h1
  obtain ⟨xs0, a0, vs0, ev, s0, l0, rr0, h1⟩ := post_ls' w1 r1 h1
  subst ev
  refine ⟨.inl ⟨rfl, vs0, s0⟩, ?_⟩
  refine read1 rb w1 er1 h1 fun d2 T2 hc2 H2 u e2 w2 er2 r2 h2 => ?_
  have h2 : Post X.K T2 H2 (fun d T' H' => ∀ v, Rep X.K T' H' d v → Q v H') (WE W σ) (bnd (lsM d) (fun xs => guard (flatD d2 = true ∧ xs.all flatD = true) (bnd (optM (xs.findIdx? fun x => eqF x d2)) fun j => pur (.int (j : Nat)))) hc2) := by
    cases d <;> exact h2
  obtain ⟨xs, a1, vs, ev, s1, l1, rr1, h3⟩ := post_ls' w2 (Rep.ext w1 e2 _ _ r1) h2
  cases ev
  obtain ⟨c, h3⟩ := Post.of_guard h3
  obtain ⟨j, hj, h3⟩ := post_opt h3
  obtain ⟨z, hz, ez, no⟩ := find_rep r2 c.1 rr1 c.2 hj
  exact ⟨a0, vs, u, j, z, rfl, rfl, s1, flatV_of r2 c.1, flats_of rr1 c.2, hz, ez, no, h3.of_pur w2 _ (by simp only [Rep])⟩
theorem ce_insert {o : Expr} {ap cp : Pos} (hsu : notSuper o = true) (hline : (ap.endLine == cp.line) = true) (hs : isStar e = false) (hs2 : isStar f = false) (ho : CE C X W sc o ma) (he : CE C X W sc e mb) (hf : CE C X W sc f mc) :
    CE C X W sc (.Call (.Attribute o "insert" ap) [e, f] [] cp) (fun env => bnd (ma env) fun x => bnd (preM .insert x) fun _ => bnd (mb env) fun y => bnd (mc env) fun z => prM .insert x y z) := by
  obtain ⟨ta, pa, _, ra⟩ := ho
  obtain ⟨tb, pb, _, rb⟩ := he
  obtain ⟨tc, pc, _, rc⟩ := hf
  refine ⟨_, pe_bm PySem.F.plainAttrs_list PySem.F.slot_list_insert PySem.F.type_list_insert mt_insert pa (pa_cons pb (pa_cons pc pa_nil (star1 hs2)) (star1 hs)) (superNo hsu) (few2 hs hs2) hline (star1 hs) (starAll (by intro y hy; rw [List.mem_singleton] at hy; rw [hy]; exact hs2)), OwnSt.no rfl, fun T hc H env σ Q w er h => ?_⟩
  refine read1 ra w er h fun d T1 hc1 H1 v e1 w1 er1 r1 h1 => ?_
  cases d <;> first | exact h1.elim | skip
  next i =>
  have h1 : Post X.K T1 H1 _ (WE W σ) (bnd (bnd (lstAt i) fun _ => pur ()) (fun _ => bnd (mb env) fun y => bnd (mc env) fun z => prM .insert (.ref i) y z) hc1) := h1
  rw [bnd_assoc] at h1
  obtain ⟨xs0, p, vs0, q0, hp, hv0, l0, rr0, h1⟩ := post_lstAt (okP := fun _ _ _ => True) w1 h1
  rw [post_ref r1 hp]
  refine ⟨.inl ⟨rfl, vs0, SqL.of hv0⟩, ?_⟩
  refine read1 rb w1 er1 h1 fun d2 T2 hc2 H2 u e2 w2 er2 r2 h2 => ?_
  refine read1 rc w2 er2 h2 fun d3 T3 hc3 H3 t e3 w3 er3 r3 h3 => ?_
  cases d2 <;> first | exact h3.elim | skip
  next j =>
  obtain ⟨xs, p2, vs, q, hp2, hv, l, rr, h4⟩ := post_lstAt (okP := fun _ _ _ => True) w3 h3
  have hp3 := e3.get (e2.get hp)
  rw [hp3] at hp2; cases hp2
  obtain ⟨c, h4⟩ := Post.of_guard h4
  have lv : vs.length < sizeLine := by rw [rr.length]; exact c.2.2
  have r2' := Rep.ext w2 e3 _ _ r2
  simp only [Rep] at r2'
  obtain ⟨w4, e4, h5⟩ := post_putAt w3 hp3 (((rr.take j.toNat).append (RepL.cons r3 RepL.nil)).append (rr.drop j.toNat)) (by rw [List.length_append, List.length_append, List.length_take, List.length_drop, List.length_singleton]; omega) ⟨vs, hv⟩ h4
  exact ⟨p, vs, j, t, rfl, by rw [r2'], hv, lv, c.1, c.2.1, h5.of_pur w4 _ (by simp only [Rep])⟩
theorem cn_revL {j : Nat} {p1 p2 p3 : Pos} (ha : CE C X W sc a ma) : CN C X W sc (.Subscript a (.Slice none none (some (.UnaryOp .USub (.Constant (.int 1) j p1) p2)) p3) pos) (fun env => bnd (ma env) revLM) := by
  obtain ⟨ta, pa, _, ra⟩ := ha
  refine ⟨_, pe_revL pa, OwnSt.no rfl, fun T hc H env σ Q w er h => ?_⟩
  refine read1 ra w er h fun d T1 hc1 H1 v e1 w1 er1 r1 h1 => ?_
  obtain ⟨xs, p, vs, ev, s, ll, rr, q⟩ := cn_revLM w1 r1 h1
  exact ⟨p, vs, ev, s, fun p' hp => q p' vs.reverse hp rr.reverse (by rw [List.length_reverse]; exact ll)⟩
/-! ### calls of names that hold defs -/
theorem pickF_of {a : Addr} {gg : List D → M D} : ∀ {js : List (Nat × Nat)}, pickF G Cs a js = some gg → ∃ p ∈ js, Cs[p.1]? = some (.ob a) ∧ G.tab[p.2]? = some gg
  | [], h => by simp [pickF] at h
  | (c, j) :: r, h => by
    unfold pickF at h
    split at h
    · next b q =>
      split at h
      · next e => subst e; exact ⟨_, List.mem_cons_self, q, h⟩
      · obtain ⟨p, hp, a1, a2⟩ := pickF_of h
        exact ⟨p, List.mem_cons_of_mem _ hp, a1, a2⟩
    · obtain ⟨p, hp, a1, a2⟩ := pickF_of h
      exact ⟨p, List.mem_cons_of_mem _ hp, a1, a2⟩
theorem ce_calv (g : Gd C G Cs k X W sc) {i : Nat} {js : List (Nat × Nat)} {x : Str} {p : Pos} (hcm : C.cm = true) (hN : C.N[i]? = some x) (hv : visB sc x = true) (ho : okName x = true)
    (hj : (js.all fun p => (C.gs[p.1]?).isSome && decide (C.gs[p.1]? = C.fs[p.2]?)) = true) (hs : ∀ y ∈ a :: es, isStar y = false) (hA : CA X W (a :: es) mA) :
    CE C X W sc (.Call (.Name x p) (a :: es) [] pos) (fun env => match (env[i]?).bind id with
      | some (.ob a) => match pickF G Cs a js with
        | some g => bnd (mA env) fun xs => calmly (g xs)
        | none => stuck
      | _ => stuck) := by
  obtain ⟨tA, pA, rA⟩ := hA
  have tb : ∀ q ∈ js, ∀ aa gg, Cs[q.1]? = some (.ob aa) → G.tab[q.2]? = some gg → ∃ fd ps, FnOk X.prog X.w X.K X.mg X.base (L2.CX X.prog X.w) k aa fd ps (spC X.K gg) ∧ PySem.W.keepIn X.K (.ref aa) = true ∧ Binds X.K fd ps [] := fun q hq aa gg h1 h2 => by
    have := List.all_eq_true.mp hj q hq
    rw [Bool.and_eq_true, decide_eq_true_eq] at this
    obtain ⟨y, hy, gc⟩ := g.gc _ _ h1
    obtain ⟨z, hz, ff, fd, ps, F, hm, kp, bd⟩ := g.fs _ _ h2
    rw [hy, hz] at this
    have e := Option.some.inj this.2
    subst e
    obtain ⟨v, u, mu, rv, rp⟩ := gc
    have rp := rp ⟨[], [], fun _ => False⟩ (fun _ => none)
    simp only [Rep] at rp
    subst rp
    cases rv
    rw [hm] at mu; cases mu
    exact ⟨fd, ps, F, kp, bd⟩
  have key : ∀ q ∈ js, True := fun _ _ => trivial
  refine ⟨fun σ H Q => ∃ f fd ps sp, FnOk X.prog X.w X.K X.mg X.base (L2.CX X.prog X.w) k f fd ps sp ∧ PySem.W.keepIn X.K (.ref f) = true ∧ Binds X.K fd ps [] ∧ tCallL i f sp [] (fun _ _ _ => False) tA σ H Q, ⟨fun pins s σ H Q I ⟨f, fd, ps, sp, F, kp, bd, h⟩ => ?_⟩, OwnSt.no rfl, fun T hc H env σ Q w er h => ?_⟩
  · exact (pe_callL (i := i) F (g.rm hcm) (by rw [g.N]; exact hN) (g.vis hv) kp bd .nil (fun _ _ _ _ _ _ _ ⟨_, _, _, _, _, _, _, _, _, _, _, _, z⟩ => z.elim) pA (okName_d ho).1 (okName_d ho).2 (star1 (hs a List.mem_cons_self)) (starAll fun y hy => hs y (List.mem_cons_of_mem _ hy))).run pins s σ H Q I h
  · dsimp only at h
    cases q' : env[i]? with
    | none => rw [q'] at h; exact h.elim
    | some oo =>
    cases oo with
    | none => rw [q'] at h; exact h.elim
    | some d =>
    rw [q'] at h
    cases d <;> first | exact h.elim | skip
    next aa =>
    have h : Post X.K T H _ (WE W σ) ((match pickF G Cs aa js with
        | some g => bnd (mA env) fun xs => calmly (g xs)
        | none => stuck) hc) := h
    cases q2 : pickF G Cs aa js with
    | none => rw [q2] at h; exact h.elim
    | some gg =>
      rw [q2] at h
      obtain ⟨pr, hp, c1, c2⟩ := pickF_of q2
      obtain ⟨fd, ps, F, kp, bd⟩ := tb pr hp aa gg c1 c2
      obtain ⟨v, hv', rv⟩ := er.2 i _ q'
      simp only [Rep] at rv
      subst rv
      refine ⟨aa, fd, ps, _, F, kp, bd, hv', ?_⟩
      exact readA rA w er h fun ds T1 hc1 H1 vs e1 w1 er1 r1 h1 => by
        rw [List.append_nil]
        obtain ⟨d, hc2, e2, h2⟩ := post_calmly h1
        exact ⟨T1, hc1, ds, w1, r1, by rw [e2]; exact h2⟩
end
end Cl
/-! What the checker takes does what the small language says: expressions. -/
namespace Cl
open PySem PySem.Spec PyProof.Rows L2
section
variable {C : Ck} {sc : Scope}
theorem chkN_plain {ir : I} {e : Expr} (h : chkN C ir sc e = true) : plainT e = true ∧ isStar e = false := by
  cases ir <;> cases e <;> first | exact ⟨rfl, rfl⟩ | (simp [chkN] at h)
theorem chkE_star {ir : I} {e : Expr} (h : chkE C ir sc e = true) : isStar e = false := by
  cases e with
  | Starred v p =>
    by_cases hx : ∃ i j b, ir = .isx i j b
    · obtain ⟨i, j, b, e⟩ := hx
      subst e
      simp only [chkE] at h
      split at h
      · simp [xqForm] at h
      · cases h
    · cases ir <;> first | (exact absurd ⟨_, _, _, rfl⟩ hx) | (simp [chkE] at h; done) | (simp [chkE] at h; exact (chkN_plain h).2)
  | _ => rfl
theorem chkA_star : ∀ {ir : I} {es : List Expr}, chkA C ir sc es = true → ∀ e ∈ es, isStar e = false
  | .cons a r, e :: es, h => by
    simp only [chkA, Bool.and_eq_true] at h
    intro x hx
    rcases List.mem_cons.mp hx with z | z
    · rw [z]; exact chkE_star h.1
    · exact chkA_star h.2 x z
  | .nil, [], _ => fun _ h => by cases h
  | .nil, _ :: _, h => by simp [chkA] at h
  | .cons _ _, [], h => by simp [chkA] at h
  | .var _, es, h => by simp [chkA] at h
  | .int _, es, h => by simp [chkA] at h
  | .str _, es, h => by simp [chkA] at h
  | .bl _, es, h => by simp [chkA] at h
  | .non, es, h => by simp [chkA] at h
  | .glb _, es, h => by simp [chkA] at h
  | .isx _ _ _, es, h => by simp [chkA] at h
  | .bin _ _ _, es, h => by simp [chkA] at h
  | .neg _, es, h => by simp [chkA] at h
  | .not _, es, h => by simp [chkA] at h
  | .cmp _ _ _, es, h => by simp [chkA] at h
  | .chain _ _ _ _ _, es, h => by simp [chkA] at h
  | .and _ _, es, h => by simp [chkA] at h
  | .or _ _, es, h => by simp [chkA] at h
  | .ite _ _ _, es, h => by simp [chkA] at h
  | .tup _, es, h => by simp [chkA] at h
  | .idx _ _, es, h => by simp [chkA] at h
  | .slc _ _ _, es, h => by simp [chkA] at h
  | .call _ _, es, h => by simp [chkA] at h
  | .bi _ _, es, h => by simp [chkA] at h
  | .isa _ _, es, h => by simp [chkA] at h
  | .lst _, es, h => by simp [chkA] at h
  | .comp _ _ _ _ _, es, h => by simp [chkA] at h
  | .bn _ _, es, h => by simp [chkA] at h
  | .binL _ _ _, es, h => by simp [chkA] at h
  | .slcL _ _ _, es, h => by simp [chkA] at h
  | .revL _, es, h => by simp [chkA] at h
  | .trk _, es, h => by simp [chkA] at h
  | .app _ _, es, h => by simp [chkA] at h
  | .popAt _ _, es, h => by simp [chkA] at h
  | .pop _, es, h => by simp [chkA] at h
  | .rev _, es, h => by simp [chkA] at h
  | .ext _ _, es, h => by simp [chkA] at h
  | .pr _ _ _ _, es, h => by simp [chkA] at h
  | .calv _ _ _, es, h => by simp [chkA] at h
  | .rng1 _, es, h => by simp [chkA] at h
  | .rng2 _ _, es, h => by simp [chkA] at h
  | .rng3 _ _ _, es, h => by simp [chkA] at h
  | .zip _ _, es, h => by simp [chkA] at h
  | .enm _, es, h => by simp [chkA] at h
end
section
variable (C : Ck) (G : Gt) (Cs : List D) (k : Nat)
structure SndI (ir : I) : Prop where
  e : ∀ {X W sc}, Gd C G Cs k X W sc → ∀ {e}, chkE C ir sc e = true → CE C X W sc e (semE G Cs ir)
  t : ∀ {X W sc}, Gd C G Cs k X W sc → ∀ {e}, chkE C ir sc e = true → CT X W e (fun env => bnd (semE G Cs ir env) truM)
  w : ∀ {X W sc}, Gd C G Cs k X W sc → ∀ {o vs pos}, chkE C ir sc (.BoolOp o vs pos) = true → CW X W (.BoolOp o vs pos) (fun env => bnd (semE G Cs ir env) truM)
  n : ∀ {X W sc}, Gd C G Cs k X W sc → ∀ {e}, chkN C ir sc e = true → CN C X W sc e (semN G Cs ir)
  a : ∀ {X W sc}, Gd C G Cs k X W sc → ∀ {es}, chkA C ir sc es = true → CA X W es (semA G Cs ir)
  o : ∀ {X W sc}, Gd C G Cs k X W sc → ∀ {e}, chkO C ir sc e = true → CO X W e (semO G Cs ir)
  i : ∀ {X W sc}, Gd C G Cs k X W sc → ∀ {tg it}, chkI C ir sc tg it = true → CI X W tg it (semI G Cs ir)
/-- an expression that is a value and nothing else -/
structure Plain (ir : I) : Prop where
  n : ∀ sc e, chkN C ir sc e = false
  a : ∀ sc es, chkA C ir sc es = false
  o0 : ∀ sc, chkO C ir sc none = false
  o1 : ∀ sc x, chkO C ir sc (some x) = chkE C ir sc x
  i : ∀ sc t x, chkI C ir sc t x = chkE C ir sc x
  so : semO G Cs ir = fun env => bnd (semE G Cs ir env) fun x => bnd (intM x) fun i => pur (some i)
  si : semI G Cs ir = fun env => bnd (semE G Cs ir env) srcM
variable {C G Cs k}
theorem SndI.value {ir : I} (o0 : ∀ sc, chkO C ir sc none = false) (o1 : ∀ sc x, chkO C ir sc (some x) = chkE C ir sc x) (i : ∀ sc t x, chkI C ir sc t x = chkE C ir sc x)
    (so : semO G Cs ir = fun env => bnd (semE G Cs ir env) fun x => bnd (intM x) fun i => pur (some i)) (si : semI G Cs ir = fun env => bnd (semE G Cs ir env) srcM)
    (he : ∀ {X W sc}, Gd C G Cs k X W sc → ∀ {e}, chkE C ir sc e = true → CE C X W sc e (semE G Cs ir)) :
    (∀ {X W sc}, Gd C G Cs k X W sc → ∀ {e}, chkO C ir sc e = true → CO X W e (semO G Cs ir)) ∧ (∀ {X W sc}, Gd C G Cs k X W sc → ∀ {tg it}, chkI C ir sc tg it = true → CI X W tg it (semI G Cs ir)) := by
  refine ⟨fun g e h => ?_, fun g tg it h => ?_⟩
  · cases e with
    | none => rw [o0] at h; cases h
    | some x =>
      rw [o1] at h
      rw [so]
      exact co_some (he g h)
  · rw [i] at h
    rw [si]
    exact ci_val (he g h)
theorem SndI.plain {ir : I} (p : Plain C G Cs ir) (he : ∀ {X W sc}, Gd C G Cs k X W sc → ∀ {e}, chkE C ir sc e = true → CE C X W sc e (semE G Cs ir))
    (ht : ∀ {X W sc}, Gd C G Cs k X W sc → ∀ {e}, chkE C ir sc e = true → CT X W e (fun env => bnd (semE G Cs ir env) truM))
    (hw : ∀ {X W sc}, Gd C G Cs k X W sc → ∀ {o vs pos}, chkE C ir sc (.BoolOp o vs pos) = true → CW X W (.BoolOp o vs pos) (fun env => bnd (semE G Cs ir env) truM)) : SndI C G Cs k ir := by
  obtain ⟨h1, h2⟩ := SndI.value p.o0 p.o1 p.i p.so p.si he
  refine ⟨he, ht, hw, fun g e h => ?_, fun g es h => ?_, h1, h2⟩
  · rw [p.n] at h; cases h
  · rw [p.a] at h; cases h
/-- .. whose truth is asked of the value -/
theorem SndI.plain1 {ir : I} (p : Plain C G Cs ir) (he : ∀ {X W sc}, Gd C G Cs k X W sc → ∀ {e}, chkE C ir sc e = true → plainT e = true ∧ CE C X W sc e (semE G Cs ir)) : SndI C G Cs k ir :=
  SndI.plain p (fun g _ h => (he g h).2) (fun g _ h => ct_truth (he g h).1 (he g h).2) (fun g _ _ _ h => by have := (he g h).1; simp [plainT] at this)
/-- a new list -/
theorem SndI.fresh {ir : I} (o0 : ∀ sc, chkO C ir sc none = false) (o1 : ∀ sc x, chkO C ir sc (some x) = chkE C ir sc x) (i : ∀ sc t x, chkI C ir sc t x = chkE C ir sc x) (a : ∀ sc es, chkA C ir sc es = false) (en : ∀ sc e, chkE C ir sc e = chkN C ir sc e)
    (so : semO G Cs ir = fun env => bnd (semE G Cs ir env) fun x => bnd (intM x) fun i => pur (some i)) (si : semI G Cs ir = fun env => bnd (semE G Cs ir env) srcM) (se : semE G Cs ir = fun env => bnd (semN G Cs ir env) fun xs => pur (.fl xs))
    (hn : ∀ {X W sc}, Gd C G Cs k X W sc → ∀ {e}, chkN C ir sc e = true → CN C X W sc e (semN G Cs ir)) : SndI C G Cs k ir := by
  have he : ∀ {X W sc}, Gd C G Cs k X W sc → ∀ {e}, chkE C ir sc e = true → CE C X W sc e (semE G Cs ir) := fun g e h => by
    rw [en] at h
    rw [se]
    exact ce_fl (hn g h)
  obtain ⟨h1, h2⟩ := SndI.value o0 o1 i so si he
  refine ⟨he, fun g e h => ?_, fun g o vs pos h => ?_, hn, fun g es h => ?_, h1, h2⟩
  · have := he g h
    rw [en] at h
    exact ct_truth (chkN_plain h).1 this
  · rw [en] at h
    have := (chkN_plain h).1
    simp [plainT] at this
  · rw [a] at h; cases h
end
end Cl
/-! .. piece by piece. -/
namespace Cl
open PySem PySem.Spec PyProof.Rows L2
section
variable {C : Ck} {G : Gt} {Cs : List D} {k : Nat}
theorem pl_var (i : Nat) : Plain C G Cs (.var i ) := by
  constructor
  · intro sc e; first | rfl | (simp only [chkN])
  · intro sc e; first | rfl | (simp only [chkA])
  · intro sc; first | rfl | (simp only [chkO])
  · intro sc x; first | rfl | (simp only [chkO])
  · intro sc t x; first | rfl | (simp only [chkI])
  · funext env; first | rfl | (simp only [semO])
  · funext env; first | rfl | (simp only [semI])
theorem pl_int (n : Int) : Plain C G Cs (.int n ) := by
  constructor
  · intro sc e; first | rfl | (simp only [chkN])
  · intro sc e; first | rfl | (simp only [chkA])
  · intro sc; first | rfl | (simp only [chkO])
  · intro sc x; first | rfl | (simp only [chkO])
  · intro sc t x; first | rfl | (simp only [chkI])
  · funext env; first | rfl | (simp only [semO])
  · funext env; first | rfl | (simp only [semI])
theorem pl_str (x : String) : Plain C G Cs (.str x ) := by
  constructor
  · intro sc e; first | rfl | (simp only [chkN])
  · intro sc e; first | rfl | (simp only [chkA])
  · intro sc; first | rfl | (simp only [chkO])
  · intro sc x; first | rfl | (simp only [chkO])
  · intro sc t x; first | rfl | (simp only [chkI])
  · funext env; first | rfl | (simp only [semO])
  · funext env; first | rfl | (simp only [semI])
theorem pl_bl (b : Bool) : Plain C G Cs (.bl b ) := by
  constructor
  · intro sc e; first | rfl | (simp only [chkN])
  · intro sc e; first | rfl | (simp only [chkA])
  · intro sc; first | rfl | (simp only [chkO])
  · intro sc x; first | rfl | (simp only [chkO])
  · intro sc t x; first | rfl | (simp only [chkI])
  · funext env; first | rfl | (simp only [semO])
  · funext env; first | rfl | (simp only [semI])
theorem pl_non  : Plain C G Cs (.non ) := by
  constructor
  · intro sc e; first | rfl | (simp only [chkN])
  · intro sc e; first | rfl | (simp only [chkA])
  · intro sc; first | rfl | (simp only [chkO])
  · intro sc x; first | rfl | (simp only [chkO])
  · intro sc t x; first | rfl | (simp only [chkI])
  · funext env; first | rfl | (simp only [semO])
  · funext env; first | rfl | (simp only [semI])
theorem pl_glb (j : Nat) : Plain C G Cs (.glb j ) := by
  constructor
  · intro sc e; first | rfl | (simp only [chkN])
  · intro sc e; first | rfl | (simp only [chkA])
  · intro sc; first | rfl | (simp only [chkO])
  · intro sc x; first | rfl | (simp only [chkO])
  · intro sc t x; first | rfl | (simp only [chkI])
  · funext env; first | rfl | (simp only [semO])
  · funext env; first | rfl | (simp only [semI])
theorem pl_isx (i j : Nat) (b : Bool) : Plain C G Cs (.isx i j  b ) := by
  constructor
  · intro sc e; first | rfl | (simp only [chkN])
  · intro sc e; first | rfl | (simp only [chkA])
  · intro sc; first | rfl | (simp only [chkO])
  · intro sc x; first | rfl | (simp only [chkO])
  · intro sc t x; first | rfl | (simp only [chkI])
  · funext env; first | rfl | (simp only [semO])
  · funext env; first | rfl | (simp only [semI])
theorem pl_bin (o : Operator) (a b : I) : Plain C G Cs (.bin o  a b ) := by
  constructor
  · intro sc e; first | rfl | (simp only [chkN])
  · intro sc e; first | rfl | (simp only [chkA])
  · intro sc; first | rfl | (simp only [chkO])
  · intro sc x; first | rfl | (simp only [chkO])
  · intro sc t x; first | rfl | (simp only [chkI])
  · funext env; first | rfl | (simp only [semO])
  · funext env; first | rfl | (simp only [semI])
theorem pl_neg (a : I) : Plain C G Cs (.neg a ) := by
  constructor
  · intro sc e; first | rfl | (simp only [chkN])
  · intro sc e; first | rfl | (simp only [chkA])
  · intro sc; first | rfl | (simp only [chkO])
  · intro sc x; first | rfl | (simp only [chkO])
  · intro sc t x; first | rfl | (simp only [chkI])
  · funext env; first | rfl | (simp only [semO])
  · funext env; first | rfl | (simp only [semI])
theorem pl_not (a : I) : Plain C G Cs (.not a ) := by
  constructor
  · intro sc e; first | rfl | (simp only [chkN])
  · intro sc e; first | rfl | (simp only [chkA])
  · intro sc; first | rfl | (simp only [chkO])
  · intro sc x; first | rfl | (simp only [chkO])
  · intro sc t x; first | rfl | (simp only [chkI])
  · funext env; first | rfl | (simp only [semO])
  · funext env; first | rfl | (simp only [semI])
theorem pl_cmp (o : CmpOp) (a b : I) : Plain C G Cs (.cmp o  a b ) := by
  constructor
  · intro sc e; first | rfl | (simp only [chkN])
  · intro sc e; first | rfl | (simp only [chkA])
  · intro sc; first | rfl | (simp only [chkO])
  · intro sc x; first | rfl | (simp only [chkO])
  · intro sc t x; first | rfl | (simp only [chkI])
  · funext env; first | rfl | (simp only [semO])
  · funext env; first | rfl | (simp only [semI])
theorem pl_chain (o p : CmpOp) (a b c : I) : Plain C G Cs (.chain o p  a b c ) := by
  constructor
  · intro sc e; first | rfl | (simp only [chkN])
  · intro sc e; first | rfl | (simp only [chkA])
  · intro sc; first | rfl | (simp only [chkO])
  · intro sc x; first | rfl | (simp only [chkO])
  · intro sc t x; first | rfl | (simp only [chkI])
  · funext env; first | rfl | (simp only [semO])
  · funext env; first | rfl | (simp only [semI])
theorem pl_and (a b : I) : Plain C G Cs (.and a b ) := by
  constructor
  · intro sc e; first | rfl | (simp only [chkN])
  · intro sc e; first | rfl | (simp only [chkA])
  · intro sc; first | rfl | (simp only [chkO])
  · intro sc x; first | rfl | (simp only [chkO])
  · intro sc t x; first | rfl | (simp only [chkI])
  · funext env; first | rfl | (simp only [semO])
  · funext env; first | rfl | (simp only [semI])
theorem pl_or (a b : I) : Plain C G Cs (.or a b ) := by
  constructor
  · intro sc e; first | rfl | (simp only [chkN])
  · intro sc e; first | rfl | (simp only [chkA])
  · intro sc; first | rfl | (simp only [chkO])
  · intro sc x; first | rfl | (simp only [chkO])
  · intro sc t x; first | rfl | (simp only [chkI])
  · funext env; first | rfl | (simp only [semO])
  · funext env; first | rfl | (simp only [semI])
theorem pl_ite (t a b : I) : Plain C G Cs (.ite t a b ) := by
  constructor
  · intro sc e; first | rfl | (simp only [chkN])
  · intro sc e; first | rfl | (simp only [chkA])
  · intro sc; first | rfl | (simp only [chkO])
  · intro sc x; first | rfl | (simp only [chkO])
  · intro sc t x; first | rfl | (simp only [chkI])
  · funext env; first | rfl | (simp only [semO])
  · funext env; first | rfl | (simp only [semI])
theorem pl_tup (as : I) : Plain C G Cs (.tup as ) := by
  constructor
  · intro sc e; first | rfl | (simp only [chkN])
  · intro sc e; first | rfl | (simp only [chkA])
  · intro sc; first | rfl | (simp only [chkO])
  · intro sc x; first | rfl | (simp only [chkO])
  · intro sc t x; first | rfl | (simp only [chkI])
  · funext env; first | rfl | (simp only [semO])
  · funext env; first | rfl | (simp only [semI])
theorem pl_idx (a i : I) : Plain C G Cs (.idx a i ) := by
  constructor
  · intro sc e; first | rfl | (simp only [chkN])
  · intro sc e; first | rfl | (simp only [chkA])
  · intro sc; first | rfl | (simp only [chkO])
  · intro sc x; first | rfl | (simp only [chkO])
  · intro sc t x; first | rfl | (simp only [chkI])
  · funext env; first | rfl | (simp only [semO])
  · funext env; first | rfl | (simp only [semI])
theorem pl_slc (a lo hi : I) : Plain C G Cs (.slc a lo hi ) := by
  constructor
  · intro sc e; first | rfl | (simp only [chkN])
  · intro sc e; first | rfl | (simp only [chkA])
  · intro sc; first | rfl | (simp only [chkO])
  · intro sc x; first | rfl | (simp only [chkO])
  · intro sc t x; first | rfl | (simp only [chkI])
  · funext env; first | rfl | (simp only [semO])
  · funext env; first | rfl | (simp only [semI])
theorem pl_call (f : Nat) (as : I) : Plain C G Cs (.call f  as ) := by
  constructor
  · intro sc e; first | rfl | (simp only [chkN])
  · intro sc e; first | rfl | (simp only [chkA])
  · intro sc; first | rfl | (simp only [chkO])
  · intro sc x; first | rfl | (simp only [chkO])
  · intro sc t x; first | rfl | (simp only [chkI])
  · funext env; first | rfl | (simp only [semO])
  · funext env; first | rfl | (simp only [semI])
theorem pl_bi (f : Bi) (as : I) : Plain C G Cs (.bi f  as ) := by
  constructor
  · intro sc e; first | rfl | (simp only [chkN])
  · intro sc e; first | rfl | (simp only [chkA])
  · intro sc; first | rfl | (simp only [chkO])
  · intro sc x; first | rfl | (simp only [chkO])
  · intro sc t x; first | rfl | (simp only [chkI])
  · funext env; first | rfl | (simp only [semO])
  · funext env; first | rfl | (simp only [semI])
theorem pl_isa (a : I) (ts : List String) : Plain C G Cs (.isa a  ts ) := by
  constructor
  · intro sc e; first | rfl | (simp only [chkN])
  · intro sc e; first | rfl | (simp only [chkA])
  · intro sc; first | rfl | (simp only [chkO])
  · intro sc x; first | rfl | (simp only [chkO])
  · intro sc t x; first | rfl | (simp only [chkI])
  · funext env; first | rfl | (simp only [semO])
  · funext env; first | rfl | (simp only [semI])
theorem pl_trk (a : I) : Plain C G Cs (.trk a ) := by
  constructor
  · intro sc e; first | rfl | (simp only [chkN])
  · intro sc e; first | rfl | (simp only [chkA])
  · intro sc; first | rfl | (simp only [chkO])
  · intro sc x; first | rfl | (simp only [chkO])
  · intro sc t x; first | rfl | (simp only [chkI])
  · funext env; first | rfl | (simp only [semO])
  · funext env; first | rfl | (simp only [semI])
theorem pl_app (a x : I) : Plain C G Cs (.app a x ) := by
  constructor
  · intro sc e; first | rfl | (simp only [chkN])
  · intro sc e; first | rfl | (simp only [chkA])
  · intro sc; first | rfl | (simp only [chkO])
  · intro sc x; first | rfl | (simp only [chkO])
  · intro sc t x; first | rfl | (simp only [chkI])
  · funext env; first | rfl | (simp only [semO])
  · funext env; first | rfl | (simp only [semI])
theorem pl_popAt (a i : I) : Plain C G Cs (.popAt a i ) := by
  constructor
  · intro sc e; first | rfl | (simp only [chkN])
  · intro sc e; first | rfl | (simp only [chkA])
  · intro sc; first | rfl | (simp only [chkO])
  · intro sc x; first | rfl | (simp only [chkO])
  · intro sc t x; first | rfl | (simp only [chkI])
  · funext env; first | rfl | (simp only [semO])
  · funext env; first | rfl | (simp only [semI])
theorem pl_pop (a : I) : Plain C G Cs (.pop a ) := by
  constructor
  · intro sc e; first | rfl | (simp only [chkN])
  · intro sc e; first | rfl | (simp only [chkA])
  · intro sc; first | rfl | (simp only [chkO])
  · intro sc x; first | rfl | (simp only [chkO])
  · intro sc t x; first | rfl | (simp only [chkI])
  · funext env; first | rfl | (simp only [semO])
  · funext env; first | rfl | (simp only [semI])
theorem pl_rev (a : I) : Plain C G Cs (.rev a ) := by
  constructor
  · intro sc e; first | rfl | (simp only [chkN])
  · intro sc e; first | rfl | (simp only [chkA])
  · intro sc; first | rfl | (simp only [chkO])
  · intro sc x; first | rfl | (simp only [chkO])
  · intro sc t x; first | rfl | (simp only [chkI])
  · funext env; first | rfl | (simp only [semO])
  · funext env; first | rfl | (simp only [semI])
theorem pl_ext (a x : I) : Plain C G Cs (.ext a x ) := by
  constructor
  · intro sc e; first | rfl | (simp only [chkN])
  · intro sc e; first | rfl | (simp only [chkA])
  · intro sc; first | rfl | (simp only [chkO])
  · intro sc x; first | rfl | (simp only [chkO])
  · intro sc t x; first | rfl | (simp only [chkI])
  · funext env; first | rfl | (simp only [semO])
  · funext env; first | rfl | (simp only [semI])
theorem pl_pr (p : Pq) (a b c : I) : Plain C G Cs (.pr p  a b c ) := by
  constructor
  · intro sc e; first | rfl | (simp only [chkN])
  · intro sc e; first | rfl | (simp only [chkA])
  · intro sc; first | rfl | (simp only [chkO])
  · intro sc x; first | rfl | (simp only [chkO])
  · intro sc t x; first | rfl | (simp only [chkI])
  · funext env; first | rfl | (simp only [semO])
  · funext env; first | rfl | (simp only [semI])
theorem pl_calv (i : Nat) (js : List (Nat × Nat)) (as : I) : Plain C G Cs (.calv i  js  as ) := by
  constructor
  · intro sc e; first | rfl | (simp only [chkN])
  · intro sc e; first | rfl | (simp only [chkA])
  · intro sc; first | rfl | (simp only [chkO])
  · intro sc x; first | rfl | (simp only [chkO])
  · intro sc t x; first | rfl | (simp only [chkI])
  · funext env; first | rfl | (simp only [semO])
  · funext env; first | rfl | (simp only [semI])
end
end Cl
/-! .. and all together. -/
namespace Cl
open PySem PySem.Spec PyProof.Rows L2
section
variable {C : Ck} {G : Gt} {Cs : List D} {k : Nat}
theorem CE.as {X : Cx} {W : WX} {sc : Scope} {e : Expr} {m m' : Env → M D} (h : CE C X W sc e m) (q : m' = m) : CE C X W sc e m' := q ▸ h
theorem CT.as {X : Cx} {W : WX} {e : Expr} {m m' : Env → M Bool} (h : CT X W e m) (q : m' = m) : CT X W e m' := q ▸ h
theorem CW.as {X : Cx} {W : WX} {e : Expr} {m m' : Env → M Bool} (h : CW X W e m) (q : m' = m) : CW X W e m' := q ▸ h
theorem CN.as {X : Cx} {W : WX} {sc : Scope} {e : Expr} {m m' : Env → M (List D)} (h : CN C X W sc e m) (q : m' = m) : CN C X W sc e m' := q ▸ h
theorem CI.as {X : Cx} {W : WX} {e f : Expr} {m m' : Env → M Src} (h : CI X W e f m) (q : m' = m) : CI X W e f m' := q ▸ h
theorem sn_var (i : Nat) : SndI C G Cs k (.var i) := .plain1 (pl_var i) fun g e h => by
  cases e <;> (try simp only [chkE, Bool.false_eq_true] at h)
  simp only [Bool.and_eq_true, decide_eq_true_eq] at h
  exact ⟨rfl, (ce_var g h.1.1 h.1.2 h.2).as (by funext env; simp only [semE] <;> rfl)⟩
theorem sn_int (n : Int) : SndI C G Cs k (.int n) := .plain1 (pl_int n) fun g e h => by
  cases e <;> (try simp only [chkE, Bool.false_eq_true] at h)
  next v _ _ =>
  cases v <;> (try simp only [chkE, Bool.false_eq_true, decide_eq_true_eq] at h)
  subst h
  exact ⟨rfl, ce_int.as (by funext env; simp only [semE] <;> rfl)⟩
theorem sn_str (n : String) : SndI C G Cs k (.str n) := .plain1 (pl_str n) fun g e h => by
  cases e <;> (try simp only [chkE, Bool.false_eq_true] at h)
  next v _ _ =>
  cases v <;> (try simp only [chkE, Bool.false_eq_true, decide_eq_true_eq] at h)
  subst h
  exact ⟨rfl, ce_str.as (by funext env; simp only [semE] <;> rfl)⟩
theorem sn_bl (n : Bool) : SndI C G Cs k (.bl n) := .plain1 (pl_bl n) fun g e h => by
  cases e <;> (try simp only [chkE, Bool.false_eq_true] at h)
  next v _ _ =>
  cases v <;> (try simp only [chkE, Bool.false_eq_true, decide_eq_true_eq] at h)
  subst h
  exact ⟨rfl, ce_bl.as (by funext env; simp only [semE] <;> rfl)⟩
theorem sn_non : SndI C G Cs k .non := .plain1 pl_non fun g e h => by
  cases e <;> (try simp only [chkE, Bool.false_eq_true] at h)
  next v _ _ =>
  cases v <;> (try simp only [chkE, Bool.false_eq_true] at h)
  exact ⟨rfl, ce_non.as (by funext env; simp only [semE] <;> rfl)⟩
theorem sn_glb (j : Nat) : SndI C G Cs k (.glb j) := .plain1 (pl_glb j) fun g e h => by
  cases e <;> (try simp only [chkE, Bool.false_eq_true] at h)
  simp only [Bool.and_eq_true, decide_eq_true_eq] at h
  exact ⟨rfl, (ce_glb g h.1.1 h.1.2 h.2).as (by funext env; simp only [semE] <;> rfl)⟩
theorem sn_bin {o : Operator} {a b : I} (ha : SndI C G Cs k a) (hb : SndI C G Cs k b) : SndI C G Cs k (.bin o a b) := .plain1 (pl_bin o a b) fun g e h => by
  cases e <;> (try simp only [chkE, Bool.false_eq_true] at h)
  simp only [Bool.and_eq_true, decide_eq_true_eq] at h
  obtain ⟨⟨h1, h2⟩, h3⟩ := h
  subst h1
  exact ⟨rfl, (ce_bin (ha.e g h2) (hb.e g h3)).as (by funext env; simp only [semE] <;> rfl)⟩
theorem sn_neg {a : I} (ha : SndI C G Cs k a) : SndI C G Cs k (.neg a) := .plain1 (pl_neg a) fun g e h => by
  cases e <;> (try simp only [chkE, Bool.false_eq_true] at h)
  next o _ _ =>
  cases o <;> (try simp only [chkE, Bool.false_eq_true] at h)
  exact ⟨rfl, (ce_neg (ha.e g h)).as (by funext env; simp only [semE] <;> rfl)⟩
theorem sn_not {a : I} (ha : SndI C G Cs k a) : SndI C G Cs k (.not a) := by
  refine .plain (pl_not a) (fun g e h => ?_) (fun g e h => ?_) (fun g o vs pos h => ?_)
  · cases e <;> (try simp only [chkE, Bool.false_eq_true] at h)
    next o _ _ =>
    cases o <;> (try simp only [chkE, Bool.false_eq_true] at h)
    exact (ce_not (ha.e g h)).as (by funext env; simp only [semE] <;> rfl)
  · cases e <;> (try simp only [chkE, Bool.false_eq_true] at h)
    next o _ _ =>
    cases o <;> (try simp only [chkE, Bool.false_eq_true] at h)
    exact (ct_not (ha.t g h)).as (by funext env; simp only [semE] <;> rfl)
  · simp only [chkE, Bool.false_eq_true] at h
theorem cmp_shape {o : CmpOp} {a b : I} {sc : Scope} {e : Expr} (h : chkE C (.cmp o a b) sc e = true) : ∃ x y p, e = .Compare x [o] [y] p ∧ (C.cm = true ∧ notSet y = true) ∧ chkE C a sc x = true ∧ chkE C b sc y = true := by
  cases e <;> (try simp only [chkE, Bool.false_eq_true] at h)
  next x os ys p =>
  rcases os with _ | ⟨o', _ | ⟨o2, os⟩⟩ <;> (try simp only [chkE, Bool.false_eq_true] at h)
  rcases ys with _ | ⟨y, _ | ⟨y2, ys⟩⟩ <;> (try simp only [chkE, Bool.false_eq_true] at h)
  simp only [Bool.and_eq_true, decide_eq_true_eq] at h
  obtain ⟨⟨⟨h1, h2⟩, h3⟩, h4⟩ := h
  subst h1
  exact ⟨x, y, p, rfl, h2, h3, h4⟩
theorem sn_cmp {o : CmpOp} {a b : I} (ha : SndI C G Cs k a) (hb : SndI C G Cs k b) : SndI C G Cs k (.cmp o a b) := by
  refine .plain (pl_cmp o a b) (fun g e h => ?_) (fun g e h => ?_) (fun g o vs pos h => ?_)
  · obtain ⟨x, y, p, q, h2, h3, h4⟩ := cmp_shape h
    subst q
    exact (ce_cmp g h2 (ha.e g h3) (hb.e g h4)).as (by funext env; simp only [semE] <;> rfl)
  · obtain ⟨x, y, p, q, h2, h3, h4⟩ := cmp_shape h
    subst q
    exact (ct_cmp g h2 (ha.e g h3) (hb.e g h4)).as (by funext env; simp only [semE] <;> rfl)
  · simp only [chkE, Bool.false_eq_true] at h
theorem chain_shape {o o' : CmpOp} {a b c : I} {sc : Scope} {e : Expr} (h : chkE C (.chain o o' a b c) sc e = true) :
    ∃ x y z p, e = .Compare x [o, o'] [y, z] p ∧ (C.cm = true ∧ notSet z = true) ∧ chkE C a sc x = true ∧ chkE C b sc y = true ∧ chkE C c sc z = true := by
  cases e <;> (try simp only [chkE, Bool.false_eq_true] at h)
  next x os ys p =>
  rcases os with _ | ⟨u, _ | ⟨u', _ | ⟨u2, os⟩⟩⟩ <;> (try simp only [chkE, Bool.false_eq_true] at h)
  rcases ys with _ | ⟨y, _ | ⟨z, _ | ⟨y2, ys⟩⟩⟩ <;> (try simp only [chkE, Bool.false_eq_true] at h)
  simp only [Bool.and_eq_true, decide_eq_true_eq] at h
  obtain ⟨⟨⟨⟨⟨h1, h0⟩, h2⟩, h3⟩, h4⟩, h5⟩ := h
  subst h1; subst h0
  exact ⟨x, y, z, p, rfl, h2, h3, h4, h5⟩
theorem sn_chain {o o' : CmpOp} {a b c : I} (ha : SndI C G Cs k a) (hb : SndI C G Cs k b) (hc : SndI C G Cs k c) : SndI C G Cs k (.chain o o' a b c) := by
  refine .plain (pl_chain o o' a b c) (fun g e h => ?_) (fun g e h => ?_) (fun g o vs pos h => ?_)
  · obtain ⟨x, y, z, p, q, h2, h3, h4, h5⟩ := chain_shape h
    subst q
    exact (ce_chain g h2 (ha.e g h3) (hb.e g h4) (hc.e g h5)).as (by funext env; simp only [semE] <;> rfl)
  · obtain ⟨x, y, z, p, q, h2, h3, h4, h5⟩ := chain_shape h
    subst q
    exact (ct_chain g h2 (ha.e g h3) (hb.e g h4) (hc.e g h5)).as (by funext env; simp only [semE] <;> rfl)
  · simp only [chkE, Bool.false_eq_true] at h
theorem and_shape {a b : I} {sc : Scope} {e : Expr} (h : chkE C (.and a b) sc e = true) :
    ∃ x y r p, e = .BoolOp .And (x :: y :: r) p ∧ chkE C a sc x = true ∧ ((r = [] ∧ chkE C b sc y = true) ∨ (r ≠ [] ∧ chkE C b sc (.BoolOp .And (y :: r) p) = true)) := by
  cases e <;> (try simp only [chkE, Bool.false_eq_true] at h)
  next o vs p =>
  cases o <;> (try simp only [chkE, Bool.false_eq_true] at h)
  rcases vs with _ | ⟨x, _ | ⟨y, _ | ⟨z, r⟩⟩⟩ <;> (try simp only [chkE, Bool.false_eq_true] at h)
  · rw [Bool.and_eq_true] at h
    exact ⟨x, y, [], p, rfl, h.1, .inl ⟨rfl, h.2⟩⟩
  · rw [Bool.and_eq_true] at h
    exact ⟨x, y, z :: r, p, rfl, h.1, .inr ⟨(by simp), h.2⟩⟩
theorem or_shape {a b : I} {sc : Scope} {e : Expr} (h : chkE C (.or a b) sc e = true) :
    ∃ x y r p, e = .BoolOp .Or (x :: y :: r) p ∧ chkE C a sc x = true ∧ ((r = [] ∧ chkE C b sc y = true) ∨ (r ≠ [] ∧ chkE C b sc (.BoolOp .Or (y :: r) p) = true)) := by
  cases e <;> (try simp only [chkE, Bool.false_eq_true] at h)
  next o vs p =>
  cases o <;> (try simp only [chkE, Bool.false_eq_true] at h)
  rcases vs with _ | ⟨x, _ | ⟨y, _ | ⟨z, r⟩⟩⟩ <;> (try simp only [chkE, Bool.false_eq_true] at h)
  · rw [Bool.and_eq_true] at h
    exact ⟨x, y, [], p, rfl, h.1, .inl ⟨rfl, h.2⟩⟩
  · rw [Bool.and_eq_true] at h
    exact ⟨x, y, z :: r, p, rfl, h.1, .inr ⟨(by simp), h.2⟩⟩
theorem sn_and {a b : I} (ha : SndI C G Cs k a) (hb : SndI C G Cs k b) : SndI C G Cs k (.and a b) := by
  have hw : ∀ {X W sc}, Gd C G Cs k X W sc → ∀ {e}, chkE C (.and a b) sc e = true → CW X W e (fun env => bnd (semE G Cs (.and a b) env) truM) := fun g e h => by
    obtain ⟨x, y, r, p, q, h1, h2⟩ := and_shape h
    subst q
    rcases h2 with ⟨z, h2⟩ | ⟨_, h2⟩
    · subst z
      exact (cw_and (ha.t g h1) (cw_one (hb.t g h2))).as (by funext env; simp only [semE] <;> rfl)
    · exact (cw_and (ha.t g h1) (hb.w g h2)).as (by funext env; simp only [semE] <;> rfl)
  refine .plain (pl_and a b) (fun g e h => ?_) (fun g e h => (hw g h).ct) (fun g o vs pos h => hw g h)
  obtain ⟨x, y, r, p, q, h1, h2⟩ := and_shape h
  subst q
  rcases h2 with ⟨z, h2⟩ | ⟨_, h2⟩
  · subst z
    exact (ce_and (ha.e g h1) (ce_one (hb.e g h2))).as (by funext env; simp only [semE] <;> rfl)
  · exact (ce_and (ha.e g h1) (hb.e g h2)).as (by funext env; simp only [semE] <;> rfl)
theorem sn_or {a b : I} (ha : SndI C G Cs k a) (hb : SndI C G Cs k b) : SndI C G Cs k (.or a b) := by
  have hw : ∀ {X W sc}, Gd C G Cs k X W sc → ∀ {e}, chkE C (.or a b) sc e = true → CW X W e (fun env => bnd (semE G Cs (.or a b) env) truM) := fun g e h => by
    obtain ⟨x, y, r, p, q, h1, h2⟩ := or_shape h
    subst q
    rcases h2 with ⟨z, h2⟩ | ⟨_, h2⟩
    · subst z
      exact (cw_or (ha.t g h1) (cw_one (hb.t g h2))).as (by funext env; simp only [semE] <;> rfl)
    · exact (cw_or (ha.t g h1) (hb.w g h2)).as (by funext env; simp only [semE] <;> rfl)
  refine .plain (pl_or a b) (fun g e h => ?_) (fun g e h => (hw g h).ct) (fun g o vs pos h => hw g h)
  obtain ⟨x, y, r, p, q, h1, h2⟩ := or_shape h
  subst q
  rcases h2 with ⟨z, h2⟩ | ⟨_, h2⟩
  · subst z
    exact (ce_or (ha.e g h1) (ce_one (hb.e g h2))).as (by funext env; simp only [semE] <;> rfl)
  · exact (ce_or (ha.e g h1) (hb.e g h2)).as (by funext env; simp only [semE] <;> rfl)
theorem sn_ite {t a b : I} (ht : SndI C G Cs k t) (ha : SndI C G Cs k a) (hb : SndI C G Cs k b) : SndI C G Cs k (.ite t a b) := by
  refine .plain (pl_ite t a b) (fun g e h => ?_) (fun g e h => ?_) (fun g o vs pos h => ?_)
  · cases e <;> (try simp only [chkE, Bool.false_eq_true, Bool.and_eq_true] at h)
    exact (ce_ite (ht.t g h.1.1) (ha.e g h.1.2) (hb.e g h.2)).as (by funext env; simp only [semE] <;> rfl)
  · cases e <;> (try simp only [chkE, Bool.false_eq_true, Bool.and_eq_true] at h)
    exact (ct_ite (ht.t g h.1.1) (ha.t g h.1.2) (hb.t g h.2)).as (by funext env; simp only [semE] <;> rfl)
  · simp only [chkE, Bool.false_eq_true] at h
theorem sn_tup {as : I} (ha : SndI C G Cs k as) : SndI C G Cs k (.tup as) := .plain1 (pl_tup as) fun g e h => by
  cases e <;> (try simp only [chkE, Bool.false_eq_true] at h)
  exact ⟨rfl, (ce_tup (ha.a g h)).as (by funext env; simp only [semE] <;> rfl)⟩
theorem sn_idx {a i : I} (ha : SndI C G Cs k a) (hi : SndI C G Cs k i) : SndI C G Cs k (.idx a i) := .plain1 (pl_idx a i) fun g e h => by
  cases e <;> (try simp only [chkE, Bool.false_eq_true, Bool.and_eq_true] at h)
  exact ⟨rfl, (ce_idx h.1.1 (ha.e g h.1.2) (hi.e g h.2)).as (by funext env; simp only [semE] <;> rfl)⟩
theorem sn_slc {a lo hi : I} (ha : SndI C G Cs k a) (hl : SndI C G Cs k lo) (hu : SndI C G Cs k hi) : SndI C G Cs k (.slc a lo hi) := .plain1 (pl_slc a lo hi) fun g e h => by
  cases e <;> (try simp only [chkE, Bool.false_eq_true] at h)
  next x y p =>
  cases y <;> (try simp only [chkE, Bool.false_eq_true] at h)
  next l u st q =>
  cases st <;> (try simp only [chkE, Bool.false_eq_true, Bool.and_eq_true] at h)
  exact ⟨rfl, (ce_slc (ha.e g h.1.1) (hl.o g h.1.2) (hu.o g h.2)).as (by funext env; simp only [semE] <;> rfl)⟩
theorem sn_call {f : Nat} {as : I} (ha : SndI C G Cs k as) : SndI C G Cs k (.call f as) := .plain1 (pl_call f as) fun g e h => by
  cases e <;> (try simp only [chkE, Bool.false_eq_true] at h)
  next fn args kws p =>
  cases fn <;> (try simp only [chkE, Bool.false_eq_true] at h)
  cases args <;> (try simp only [chkE, Bool.false_eq_true] at h)
  cases kws <;> (try simp only [chkE, Bool.false_eq_true, Bool.and_eq_true, decide_eq_true_eq] at h)
  obtain ⟨⟨⟨h1, h2⟩, h3⟩, h4⟩ := h
  exact ⟨rfl, (ce_call g h1 h2 h3 (chkA_star h4) (ha.a g h4)).as (by funext env; simp only [semE] <;> rfl)⟩
theorem sn_isx {i j : Nat} {b : Bool} : SndI C G Cs k (.isx i j b) := .plain1 (pl_isx i j b) fun g e h => by
  simp only [chkE] at h
  cases q : C.xq[j]? with
  | none => rw [q] at h; cases h
  | some t =>
    obtain ⟨i', n, cls, b'⟩ := t
    rw [q] at h
    simp only [Bool.and_eq_true, decide_eq_true_eq] at h
    obtain ⟨⟨h1, h2⟩, h3⟩ := h
    subst h1; subst h2
    refine ⟨?_, (ce_isx g q h3).as (by funext env; simp only [semE] <;> rfl)⟩
    cases e <;> first | rfl | (simp [xqForm] at h3)
theorem sn_bi {f : Bi} {as : I} (ha : SndI C G Cs k as) : SndI C G Cs k (.bi f as) := .plain1 (pl_bi f as) fun g e h => by
  cases e <;> (try simp only [chkE, Bool.false_eq_true] at h)
  next fn args kws p =>
  cases fn <;> (try simp only [chkE, Bool.false_eq_true] at h)
  cases args <;> (try simp only [chkE, Bool.false_eq_true] at h)
  cases kws <;> (try simp only [chkE, Bool.false_eq_true, Bool.and_eq_true, decide_eq_true_eq] at h)
  obtain ⟨⟨⟨hcm, h1⟩, h2⟩, h4⟩ := h
  subst h1
  exact ⟨rfl, (ce_bi g hcm h2 (chkA_star h4) (ha.a g h4)).as (by funext env; simp only [semE] <;> rfl)⟩
theorem sn_isa {a : I} {ts : List String} (ha : SndI C G Cs k a) : SndI C G Cs k (.isa a ts) := .plain1 (pl_isa a ts) fun g e h => by
  cases e <;> (try simp only [chkE, Bool.false_eq_true] at h)
  next fn args kws p =>
  cases fn <;> (try simp only [chkE, Bool.false_eq_true] at h)
  rcases kws with _ | ⟨kw, kws⟩ <;> (try simp only [chkE, Bool.false_eq_true] at h)
  · rcases args with _ | ⟨x, _ | ⟨t, _ | ⟨t2, args⟩⟩⟩ <;> (try simp only [chkE, Bool.false_eq_true] at h)
    cases t <;> (try simp only [chkE, Bool.false_eq_true] at h)
    · next y q =>
      simp only [Bool.and_eq_true, decide_eq_true_eq] at h
      obtain ⟨⟨⟨h1, h2⟩, h3⟩, h4⟩ := h
      subst h1
      cases ts with
      | nil => simp [tysB] at h4
      | cons t ts =>
        cases ts with
        | cons _ _ => simp [tysB] at h4
        | nil =>
          simp only [tysB, Bool.and_eq_true, decide_eq_true_eq, beq_iff_eq, and_true] at h4
          obtain ⟨⟨h5, h6⟩, h7⟩ := h4
          subst h6
          exact ⟨rfl, (ce_isa1 g h5 h2 h7 (chkE_star h3) (ha.e g h3)).as (by funext env; simp only [semE] <;> rfl)⟩
    · next es n q =>
      simp only [Bool.and_eq_true, decide_eq_true_eq] at h
      obtain ⟨⟨⟨⟨h1, h2⟩, h3⟩, h4⟩, h5⟩ := h
      subst h1
      exact ⟨rfl, (ce_isaT g h4 h2 (chkE_star h3) (ha.e g h3) h5.2).as (by funext env; simp only [semE] <;> rfl)⟩
theorem sn_trk {a : I} (ha : SndI C G Cs k a) : SndI C G Cs k (.trk a) := .plain1 (pl_trk a) fun g e h => by
  simp only [chkE] at h
  exact ⟨(chkN_plain h).1, (ce_trk (ha.n g h)).as (by funext env; simp only [semE] <;> rfl)⟩
theorem sn_app {a x : I} (ha : SndI C G Cs k a) (hx : SndI C G Cs k x) : SndI C G Cs k (.app a x) := .plain1 (pl_app a x) fun g e h => by
  cases e <;> (try simp only [chkE, Bool.false_eq_true] at h)
  next fn args kws p =>
  cases fn <;> (try simp only [chkE, Bool.false_eq_true] at h)
  rcases args with _ | ⟨y, _ | ⟨y2, args⟩⟩ <;> (try simp only [chkE, Bool.false_eq_true] at h)
  · rcases kws with _ | ⟨kw, kws⟩ <;> (try simp only [chkE, Bool.false_eq_true] at h)
    simp only [Bool.and_eq_true, decide_eq_true_eq] at h
    obtain ⟨⟨⟨⟨h1, h2⟩, h3⟩, h4⟩, h5⟩ := h
    subst h1
    exact ⟨rfl, (ce_app h2 h3 (chkE_star h5) (ha.e g h4) (hx.e g h5)).as (by funext env; simp only [semE] <;> rfl)⟩
theorem sn_ext {a x : I} (ha : SndI C G Cs k a) (hx : SndI C G Cs k x) : SndI C G Cs k (.ext a x) := .plain1 (pl_ext a x) fun g e h => by
  cases e <;> (try simp only [chkE, Bool.false_eq_true] at h)
  next fn args kws p =>
  cases fn <;> (try simp only [chkE, Bool.false_eq_true] at h)
  rcases args with _ | ⟨y, _ | ⟨y2, args⟩⟩ <;> (try simp only [chkE, Bool.false_eq_true] at h)
  · rcases kws with _ | ⟨kw, kws⟩ <;> (try simp only [chkE, Bool.false_eq_true] at h)
    simp only [Bool.and_eq_true, decide_eq_true_eq] at h
    obtain ⟨⟨⟨⟨h1, h2⟩, h3⟩, h4⟩, h5⟩ := h
    subst h1
    exact ⟨rfl, (ce_ext h2 h3 (chkE_star h5) (ha.e g h4) (hx.e g h5)).as (by funext env; simp only [semE] <;> rfl)⟩
theorem sn_rev {a : I} (ha : SndI C G Cs k a) : SndI C G Cs k (.rev a) := .plain1 (pl_rev a) fun g e h => by
  cases e <;> (try simp only [chkE, Bool.false_eq_true] at h)
  next v sl p =>
  cases sl <;> (try simp only [chkE, Bool.false_eq_true] at h)
  next lo hi st p2 =>
  rcases lo with _ | lo <;> rcases hi with _ | hi <;> rcases st with _ | st <;> (try simp only [chkE, Bool.false_eq_true] at h)
  cases st <;> (try simp only [chkE, Bool.false_eq_true] at h)
  next o v2 p3 =>
  cases o <;> (try simp only [chkE, Bool.false_eq_true] at h)
  cases v2 <;> (try simp only [chkE, Bool.false_eq_true] at h)
  next c kk p4 =>
  cases c <;> (try simp only [chkE, Bool.false_eq_true] at h)
  simp only [Bool.and_eq_true, decide_eq_true_eq] at h
  obtain ⟨h1, h2⟩ := h
  subst h1
  exact ⟨rfl, (ce_rev (ha.e g h2)).as (by funext env; simp only [semE] <;> rfl)⟩
theorem sn_popAt {a x : I} (ha : SndI C G Cs k a) (hx : SndI C G Cs k x) : SndI C G Cs k (.popAt a x) := .plain1 (pl_popAt a x) fun g e h => by
  cases e <;> (try simp only [chkE, Bool.false_eq_true] at h)
  next fn args kws p =>
  cases fn <;> (try simp only [chkE, Bool.false_eq_true] at h)
  rcases args with _ | ⟨y, _ | ⟨y2, args⟩⟩ <;> (try simp only [chkE, Bool.false_eq_true] at h)
  · rcases kws with _ | ⟨kw, kws⟩ <;> (try simp only [chkE, Bool.false_eq_true] at h)
    simp only [Bool.and_eq_true, decide_eq_true_eq] at h
    obtain ⟨⟨⟨⟨h1, h2⟩, h3⟩, h4⟩, h5⟩ := h
    subst h1
    exact ⟨rfl, (ce_popAt h2 h3 (chkE_star h5) (ha.e g h4) (hx.e g h5)).as (by funext env; simp only [semE] <;> rfl)⟩
theorem sn_pop {a : I} (ha : SndI C G Cs k a) : SndI C G Cs k (.pop a) := .plain1 (pl_pop a) fun g e h => by
  cases e <;> (try simp only [chkE, Bool.false_eq_true] at h)
  next fn args kws p =>
  cases fn <;> (try simp only [chkE, Bool.false_eq_true] at h)
  rcases args with _ | ⟨y, args⟩ <;> (try simp only [chkE, Bool.false_eq_true] at h)
  · rcases kws with _ | ⟨kw, kws⟩ <;> (try simp only [chkE, Bool.false_eq_true] at h)
    simp only [Bool.and_eq_true, decide_eq_true_eq] at h
    obtain ⟨⟨⟨h1, h2⟩, h3⟩, h4⟩ := h
    subst h1
    exact ⟨rfl, (ce_pop h2 h3 (ha.e g h4)).as (by funext env; simp only [semE] <;> rfl)⟩
/-! new lists -/
theorem sn_lst {as : I} (ha : SndI C G Cs k as) : SndI C G Cs k (.lst as) := by
  refine .fresh (fun sc => by simp only [chkO]) (fun sc x => by simp only [chkO]) (fun sc t x => by simp only [chkI]) (fun sc es => by simp only [chkA]) (fun sc e => by simp only [chkE]) (by funext env; simp only [semO]) (by funext env; simp only [semI] <;> rfl) (by funext env; simp only [semE] <;> rfl) fun g e h => ?_
  cases e <;> (try simp only [chkN, Bool.false_eq_true] at h)
  exact (cn_lst (ha.a g h)).as (by funext env; simp only [semN] <;> rfl)
theorem sn_bn {f : Bn} {as : I} (ha : SndI C G Cs k as) : SndI C G Cs k (.bn f as) := by
  refine .fresh (fun sc => by simp only [chkO]) (fun sc x => by simp only [chkO]) (fun sc t x => by simp only [chkI]) (fun sc es => by simp only [chkA]) (fun sc e => by simp only [chkE]) (by funext env; simp only [semO]) (by funext env; simp only [semI] <;> rfl) (by funext env; simp only [semE] <;> rfl) fun g e h => ?_
  cases e <;> (try simp only [chkN, Bool.false_eq_true] at h)
  next fn args kws p =>
  cases fn <;> (try simp only [chkN, Bool.false_eq_true] at h)
  cases args <;> (try simp only [chkN, Bool.false_eq_true] at h)
  cases kws <;> (try simp only [chkN, Bool.false_eq_true, Bool.and_eq_true, decide_eq_true_eq] at h)
  obtain ⟨⟨⟨h0, h1⟩, h2⟩, h4⟩ := h
  subst h1
  exact (cn_bn g h0 h2 (chkA_star h4) (ha.a g h4)).as (by funext env; simp only [semN] <;> rfl)
theorem sn_binL {o : Operator} {a b : I} (ha : SndI C G Cs k a) (hb : SndI C G Cs k b) : SndI C G Cs k (.binL o a b) := by
  refine .fresh (fun sc => by simp only [chkO]) (fun sc x => by simp only [chkO]) (fun sc t x => by simp only [chkI]) (fun sc es => by simp only [chkA]) (fun sc e => by simp only [chkE]) (by funext env; simp only [semO]) (by funext env; simp only [semI] <;> rfl) (by funext env; simp only [semE] <;> rfl) fun g e h => ?_
  cases e <;> (try simp only [chkN, Bool.false_eq_true] at h)
  simp only [Bool.and_eq_true, decide_eq_true_eq] at h
  obtain ⟨⟨h1, h2⟩, h3⟩ := h
  subst h1
  exact (cn_bin (ha.e g h2) (hb.e g h3)).as (by funext env; simp only [semN] <;> rfl)
theorem sn_revL {a : I} (ha : SndI C G Cs k a) : SndI C G Cs k (.revL a) := by
  refine .fresh (fun sc => by simp only [chkO]) (fun sc x => by simp only [chkO]) (fun sc t x => by simp only [chkI]) (fun sc es => by simp only [chkA]) (fun sc e => by simp only [chkE]) (by funext env; simp only [semO]) (by funext env; simp only [semI] <;> rfl) (by funext env; simp only [semE] <;> rfl) fun g e h => ?_
  cases e <;> (try simp only [chkN, Bool.false_eq_true] at h)
  next x y p =>
  cases y <;> (try simp only [chkN, Bool.false_eq_true] at h)
  next l u st q =>
  rcases l with _ | l <;> rcases u with _ | u <;> rcases st with _ | st <;> (try simp only [chkN, Bool.false_eq_true] at h)
  cases st <;> (try simp only [chkN, Bool.false_eq_true] at h)
  next o v2 p3 =>
  cases o <;> (try simp only [chkN, Bool.false_eq_true] at h)
  cases v2 <;> (try simp only [chkN, Bool.false_eq_true] at h)
  next c k p4 =>
  cases c <;> (try simp only [chkN, Bool.false_eq_true, Bool.and_eq_true, decide_eq_true_eq] at h)
  obtain ⟨h1, h2⟩ := h
  subst h1
  exact (cn_revL (ha.e g h2)).as (by funext env; simp only [semN] <;> rfl)
theorem sn_slcL {a lo hi : I} (ha : SndI C G Cs k a) (hl : SndI C G Cs k lo) (hu : SndI C G Cs k hi) : SndI C G Cs k (.slcL a lo hi) := by
  refine .fresh (fun sc => by simp only [chkO]) (fun sc x => by simp only [chkO]) (fun sc t x => by simp only [chkI]) (fun sc es => by simp only [chkA]) (fun sc e => by simp only [chkE]) (by funext env; simp only [semO]) (by funext env; simp only [semI] <;> rfl) (by funext env; simp only [semE] <;> rfl) fun g e h => ?_
  cases e <;> (try simp only [chkN, Bool.false_eq_true] at h)
  next x y p =>
  cases y <;> (try simp only [chkN, Bool.false_eq_true] at h)
  next l u st q =>
  cases st <;> (try simp only [chkN, Bool.false_eq_true, Bool.and_eq_true] at h)
  exact (cn_slc (ha.e g h.1.1) (hl.o g h.1.2) (hu.o g h.2)).as (by funext env; simp only [semN] <;> rfl)
theorem sn_comp {own : List Nat} {tg : Tg} {src ifs elt : I} (hs : SndI C G Cs k src) (hf : SndI C G Cs k ifs) (he : SndI C G Cs k elt) : SndI C G Cs k (.comp own tg src ifs elt) := by
  refine .fresh (fun sc => by simp only [chkO]) (fun sc x => by simp only [chkO]) (fun sc t x => by simp only [chkI]) (fun sc es => by simp only [chkA]) (fun sc e => by simp only [chkE]) (by funext env; simp only [semO]) (by funext env; simp only [semI] <;> rfl) (by funext env; simp only [semE] <;> rfl) fun g e h => ?_
  cases e <;> (try simp only [chkN, Bool.false_eq_true] at h)
  next el gs scope p =>
  rcases gs with _ | ⟨⟨t, it, cs, n⟩, _ | ⟨g2, gs⟩⟩ <;> (try simp only [chkN, Bool.false_eq_true] at h)
  · unfold chkN at h
    simp only [Bool.and_eq_true, decide_eq_true_eq] at h
    obtain ⟨⟨⟨⟨⟨⟨⟨hcm, h1⟩, h2⟩, h3⟩, h4⟩, h5⟩, h6⟩, h7⟩ := h
    subst h1
    have hk : scope.kind = .function := (blkOk_by h2).kind
    have fe := fun (s : Shared) (H : Hp) (Cc : Addr) (cl : List (Str × Addr)) (fp : List Addr) => he.e (g.blk hcm hk s H Cc cl fp) h7
    match ifs, cs, h6 with
    | .nil, [], _ =>
      exact (cn_comp g hcm h2 h3 h4 (hs.i g h5) (fok_nil fe)).as (by funext env; simp only [semN] <;> rfl)
    | f, [c], h6 =>
      cases f with
      | nil => simp at h6
      | _ =>
        simp only at h6
        have ft := fun (s : Shared) (H : Hp) (Cc : Addr) (cl : List (Str × Addr)) (fp : List Addr) => hf.t (g.blk hcm hk s H Cc cl fp) h6
        exact (cn_comp g hcm h2 h3 h4 (hs.i g h5) (fok_one fe ft)).as (by funext env; simp only [semN, bnd_assoc] <;> rfl)
    | .nil, _ :: _, h6 => simp at h6
    | f, _ :: _ :: _, h6 => cases f <;> simp at h6
    | f, [], h6 =>
      cases f with
      | nil => exact (cn_comp g hcm h2 h3 h4 (hs.i g h5) (fok_nil fe)).as (by funext env; simp only [semN] <;> rfl)
      | _ => simp at h6
/-! arguments -/
theorem sn_nil : SndI C G Cs k .nil := by
  refine ⟨fun g e h => ?_, fun g e h => ?_, fun g o vs pos h => ?_, fun g e h => ?_, fun g es h => ?_, fun g e h => ?_, fun g tg it h => ?_⟩
  · simp only [chkE, Bool.false_eq_true] at h
  · simp only [chkE, Bool.false_eq_true] at h
  · simp only [chkE, Bool.false_eq_true] at h
  · simp only [chkN, Bool.false_eq_true] at h
  · cases es with
    | nil =>
      have : semA G Cs .nil = fun _ => pur [] := by funext env; simp only [semA]
      rw [this]; exact ca_nil
    | cons _ _ => simp only [chkA, Bool.false_eq_true] at h
  · cases e with
    | none =>
      have : semO G Cs .nil = fun _ => pur none := by funext env; simp only [semO]
      rw [this]; exact co_none
    | some _ => simp only [chkO, Bool.false_eq_true] at h
  · simp only [chkI, chkE, Bool.false_eq_true] at h
theorem sn_cons {a r : I} (ha : SndI C G Cs k a) (hr : SndI C G Cs k r) : SndI C G Cs k (.cons a r) := by
  refine ⟨fun g e h => ?_, fun g e h => ?_, fun g o vs pos h => ?_, fun g e h => ?_, fun g es h => ?_, fun g e h => ?_, fun g tg it h => ?_⟩
  · simp only [chkE, Bool.false_eq_true] at h
  · simp only [chkE, Bool.false_eq_true] at h
  · simp only [chkE, Bool.false_eq_true] at h
  · simp only [chkN, Bool.false_eq_true] at h
  · cases es with
    | nil => simp only [chkA, Bool.false_eq_true] at h
    | cons e es =>
      simp only [chkA, Bool.and_eq_true] at h
      have : semA G Cs (.cons a r) = fun env => bnd (semE G Cs a env) fun x => bnd (semA G Cs r env) fun xs => pur (x :: xs) := by funext env; simp only [semA]
      rw [this]; exact ca_cons (chkE_star h.1) (ha.e g h.1) (hr.a g h.2)
  · cases e with
    | none => simp only [chkO, Bool.false_eq_true] at h
    | some _ => simp only [chkO, chkE, Bool.false_eq_true] at h
  · simp only [chkI, chkE, Bool.false_eq_true] at h
/-! what a loop walks -/
theorem SndI.src {ir : I} (e : ∀ sc e, chkE C ir sc e = false) (n : ∀ sc e, chkN C ir sc e = false) (a : ∀ sc e, chkA C ir sc e = false) (o : ∀ sc e, chkO C ir sc e = false)
    (hi : ∀ {X W sc}, Gd C G Cs k X W sc → ∀ {tg it}, chkI C ir sc tg it = true → CI X W tg it (semI G Cs ir)) : SndI C G Cs k ir :=
  ⟨fun _ _ h => (by rw [e] at h; cases h), fun _ _ h => (by rw [e] at h; cases h), fun _ _ _ _ h => (by rw [e] at h; cases h), fun _ _ h => (by rw [n] at h; cases h), fun _ _ h => (by rw [a] at h; cases h), fun _ _ h => (by rw [o] at h; cases h), hi⟩
theorem sn_rng1 {a : I} (ha : SndI C G Cs k a) : SndI C G Cs k (.rng1 a) := by
  refine .src (fun sc e => by simp only [chkE]) (fun sc e => by simp only [chkN]) (fun sc e => by simp only [chkA]) (fun sc e => by cases e <;> simp only [chkO, chkE]) fun g tg it h => ?_
  cases it <;> (try simp only [chkI, Bool.false_eq_true] at h)
  next fn args kws p =>
  cases fn <;> (try simp only [chkI, Bool.false_eq_true] at h)
  rcases args with _ | ⟨x, _ | ⟨y2, args⟩⟩ <;> (try simp only [chkI, Bool.false_eq_true] at h)
  rcases kws with _ | ⟨kw, kws⟩ <;> (try simp only [chkI, Bool.false_eq_true] at h)
  · simp only [Bool.and_eq_true, decide_eq_true_eq] at h
    obtain ⟨⟨h1, h2⟩, h3⟩ := h
    subst h1
    exact (ci_rng1 g h2 (chkE_star h3) (ha.e g h3)).as (by funext env; simp only [semI] <;> rfl)
theorem sn_rng2 {a b : I} (ha : SndI C G Cs k a) (hb : SndI C G Cs k b) : SndI C G Cs k (.rng2 a b) := by
  refine .src (fun sc e => by simp only [chkE]) (fun sc e => by simp only [chkN]) (fun sc e => by simp only [chkA]) (fun sc e => by cases e <;> simp only [chkO, chkE]) fun g tg it h => ?_
  cases it <;> (try simp only [chkI, Bool.false_eq_true] at h)
  next fn args kws p =>
  cases fn <;> (try simp only [chkI, Bool.false_eq_true] at h)
  rcases args with _ | ⟨x, _ | ⟨y, _ | ⟨y2, args⟩⟩⟩ <;> (try simp only [chkI, Bool.false_eq_true] at h)
  rcases kws with _ | ⟨kw, kws⟩ <;> (try simp only [chkI, Bool.false_eq_true] at h)
  · simp only [Bool.and_eq_true, decide_eq_true_eq] at h
    obtain ⟨⟨⟨h1, h2⟩, h3⟩, h4⟩ := h
    subst h1
    exact (ci_rng2 g h2 (chkE_star h3) (chkE_star h4) (ha.e g h3) (hb.e g h4)).as (by funext env; simp only [semI] <;> rfl)
theorem sn_rng3 {a b c : I} (ha : SndI C G Cs k a) (hb : SndI C G Cs k b) (hc : SndI C G Cs k c) : SndI C G Cs k (.rng3 a b c) := by
  refine .src (fun sc e => by simp only [chkE]) (fun sc e => by simp only [chkN]) (fun sc e => by simp only [chkA]) (fun sc e => by cases e <;> simp only [chkO, chkE]) fun g tg it h => ?_
  cases it <;> (try simp only [chkI, Bool.false_eq_true] at h)
  next fn args kws p =>
  cases fn <;> (try simp only [chkI, Bool.false_eq_true] at h)
  rcases args with _ | ⟨x, _ | ⟨y, _ | ⟨z, _ | ⟨y2, args⟩⟩⟩⟩ <;> (try simp only [chkI, Bool.false_eq_true] at h)
  rcases kws with _ | ⟨kw, kws⟩ <;> (try simp only [chkI, Bool.false_eq_true] at h)
  · simp only [Bool.and_eq_true, decide_eq_true_eq] at h
    obtain ⟨⟨⟨⟨h1, h2⟩, h3⟩, h4⟩, h5⟩ := h
    subst h1
    exact (ci_rng3 g h2 (chkE_star h3) (chkE_star h4) (chkE_star h5) (ha.e g h3) (hb.e g h4) (hc.e g h5)).as (by funext env; simp only [semI] <;> rfl)
theorem sn_zip {a b : I} (ha : SndI C G Cs k a) (hb : SndI C G Cs k b) : SndI C G Cs k (.zip a b) := by
  refine .src (fun sc e => by simp only [chkE]) (fun sc e => by simp only [chkN]) (fun sc e => by simp only [chkA]) (fun sc e => by cases e <;> simp only [chkO, chkE]) fun g tg it h => ?_
  cases it <;> (try simp only [chkI, Bool.false_eq_true] at h)
  next fn args kws p =>
  cases fn <;> (try simp only [chkI, Bool.false_eq_true] at h)
  rcases args with _ | ⟨x, _ | ⟨y, _ | ⟨y2, args⟩⟩⟩ <;> (try simp only [chkI, Bool.false_eq_true] at h)
  rcases kws with _ | ⟨kw, kws⟩ <;> (try simp only [chkI, Bool.false_eq_true] at h)
  · simp only [Bool.and_eq_true, decide_eq_true_eq] at h
    obtain ⟨⟨⟨⟨h0, h1⟩, h2⟩, h3⟩, h4⟩ := h
    subst h1
    cases tg <;> simp only [isTup, Bool.false_eq_true] at h0
    exact (ci_zip g h2 (chkE_star h3) (chkE_star h4) (ha.e g h3) (hb.e g h4)).as (by funext env; simp only [semI] <;> rfl)
theorem sn_enm {a : I} (ha : SndI C G Cs k a) : SndI C G Cs k (.enm a) := by
  refine .src (fun sc e => by simp only [chkE]) (fun sc e => by simp only [chkN]) (fun sc e => by simp only [chkA]) (fun sc e => by cases e <;> simp only [chkO, chkE]) fun g tg it h => ?_
  cases it <;> (try simp only [chkI, Bool.false_eq_true] at h)
  next fn args kws p =>
  cases fn <;> (try simp only [chkI, Bool.false_eq_true] at h)
  rcases args with _ | ⟨x, _ | ⟨y2, args⟩⟩ <;> (try simp only [chkI, Bool.false_eq_true] at h)
  rcases kws with _ | ⟨kw, kws⟩ <;> (try simp only [chkI, Bool.false_eq_true] at h)
  · simp only [Bool.and_eq_true, decide_eq_true_eq] at h
    obtain ⟨⟨⟨h0, h1⟩, h2⟩, h3⟩ := h
    subst h1
    cases tg <;> simp only [isTup, Bool.false_eq_true] at h0
    exact (ci_enm g h2 (chkE_star h3) (ha.e g h3)).as (by funext env; simp only [semI] <;> rfl)
theorem isVarI_eq {a : I} (h : isVarI a = true) : ∃ i, a = .var i := by cases a <;> first | exact ⟨_, rfl⟩ | (simp [isVarI] at h)
theorem isNonI_eq {a : I} (h : isNonI a = true) : a = .non := by cases a <;> first | rfl | (simp [isNonI] at h)
theorem pr_shape {p : Pq} {a b c : I} {sc : Scope} {e : Expr} (h : chkE C (.pr p a b c) sc e = true) :
    (p = .dnew ∧ a = .non ∧ b = .non ∧ c = .non ∧ ∃ pos, e = .Dict [] [] pos) ∨
    (p = .ddisp ∧ c = .non ∧ (∃ i, a = .var i) ∧ (∃ i, b = .var i) ∧ ∃ x y pos, e = .Dict [some x] [y] pos ∧ chkE C a sc x = true ∧ chkE C b sc y = true) ∨
    (p = .dget ∧ c = .non ∧ ∃ x y pos, e = .Subscript x y pos ∧ notSlice y = true ∧ chkE C a sc x = true ∧ chkE C b sc y = true) ∨
    (∃ n, p = .din n ∧ c = .non ∧ ∃ x y pos, e = .Compare x [opIn n] [y] pos ∧ (C.cm = true ∧ notSet y = true) ∧ chkE C a sc x = true ∧ chkE C b sc y = true) ∨
    (p = .dget1 ∧ c = .non ∧ ∃ o ap x cp, e = .Call (.Attribute o "get" ap) [x] [] cp ∧ C.cm = true ∧ notSuper o = true ∧ (ap.endLine == cp.line) = true ∧ chkE C a sc o = true ∧ chkE C b sc x = true) ∨
    (p = .dget2 ∧ ∃ o ap x y cp, e = .Call (.Attribute o "get" ap) [x, y] [] cp ∧ C.cm = true ∧ notSuper o = true ∧ (ap.endLine == cp.line) = true ∧ chkE C a sc o = true ∧ chkE C b sc x = true ∧ chkE C c sc y = true) ∨
    (p = .index ∧ c = .non ∧ ∃ o ap x cp, e = .Call (.Attribute o "index" ap) [x] [] cp ∧ notSuper o = true ∧ (ap.endLine == cp.line) = true ∧ chkE C a sc o = true ∧ chkE C b sc x = true) ∨
    (p = .insert ∧ ∃ o ap x y cp, e = .Call (.Attribute o "insert" ap) [x, y] [] cp ∧ notSuper o = true ∧ (ap.endLine == cp.line) = true ∧ chkE C a sc o = true ∧ chkE C b sc x = true ∧ chkE C c sc y = true) := by
  cases p with
  | dnew =>
    cases e <;> (try simp only [chkE, Bool.false_eq_true] at h)
    next ks vs q =>
    cases ks <;> (try simp only [chkE, Bool.false_eq_true] at h)
    cases vs <;> (try simp only [chkE, Bool.false_eq_true] at h)
    rw [Bool.and_eq_true, Bool.and_eq_true] at h
    exact .inl ⟨rfl, isNonI_eq h.1.1, isNonI_eq h.1.2, isNonI_eq h.2, _, rfl⟩
  | ddisp =>
    cases e <;> (try simp only [chkE, Bool.false_eq_true] at h)
    next ks vs q =>
    rcases ks with _ | ⟨_ | k1, _ | ⟨k2, ks⟩⟩ <;> (try simp only [chkE, Bool.false_eq_true] at h)
    rcases vs with _ | ⟨v1, _ | ⟨v2, vs⟩⟩ <;> (try simp only [chkE, Bool.false_eq_true] at h)
    simp only [Bool.and_eq_true] at h
    obtain ⟨⟨⟨⟨h0, h1⟩, h2⟩, h3⟩, h4⟩ := h
    exact .inr (.inl ⟨rfl, isNonI_eq h0, isVarI_eq h1, isVarI_eq h2, _, _, _, rfl, h3, h4⟩)
  | dget =>
    cases e <;> (try simp only [chkE, Bool.false_eq_true] at h)
    simp only [Bool.and_eq_true] at h
    obtain ⟨⟨⟨h0, h1⟩, h2⟩, h3⟩ := h
    exact .inr (.inr (.inl ⟨rfl, isNonI_eq h0, _, _, _, rfl, h1, h2, h3⟩))
  | din n =>
    cases e <;> (try simp only [chkE, Bool.false_eq_true] at h)
    next x os ys q =>
    rcases os with _ | ⟨o', _ | ⟨o2, os⟩⟩ <;> (try simp only [chkE, Bool.false_eq_true] at h)
    rcases ys with _ | ⟨y, _ | ⟨y2, ys⟩⟩ <;> (try simp only [chkE, Bool.false_eq_true] at h)
    simp only [Bool.and_eq_true, decide_eq_true_eq] at h
    obtain ⟨⟨⟨⟨h0, h1⟩, h2⟩, h3⟩, h4⟩ := h
    exact .inr (.inr (.inr (.inl ⟨n, rfl, isNonI_eq h0, x, y, q, by rw [h1]; rfl, h2, h3, h4⟩)))
  | dget1 =>
    cases e <;> (try simp only [chkE, Bool.false_eq_true] at h)
    next fn args kws q =>
    cases fn <;> (try simp only [chkE, Bool.false_eq_true] at h)
    rcases args with _ | ⟨x, _ | ⟨y, args⟩⟩ <;> (try simp only [chkE, Bool.false_eq_true] at h)
    cases kws <;> (try simp only [chkE, Bool.false_eq_true] at h)
    simp only [Bool.and_eq_true, decide_eq_true_eq] at h
    obtain ⟨⟨⟨⟨⟨⟨h0, h1⟩, h2⟩, h3⟩, h4⟩, h5⟩, h6⟩ := h
    subst h2
    exact .inr (.inr (.inr (.inr (.inl ⟨rfl, isNonI_eq h0, _, _, _, _, rfl, h1, h3, h4, h5, h6⟩))))
  | dget2 =>
    cases e <;> (try simp only [chkE, Bool.false_eq_true] at h)
    next fn args kws q =>
    cases fn <;> (try simp only [chkE, Bool.false_eq_true] at h)
    rcases args with _ | ⟨x, _ | ⟨y, _ | ⟨z, args⟩⟩⟩ <;> (try simp only [chkE, Bool.false_eq_true] at h)
    cases kws <;> (try simp only [chkE, Bool.false_eq_true] at h)
    simp only [Bool.and_eq_true, decide_eq_true_eq] at h
    obtain ⟨⟨⟨⟨⟨⟨h0, h1⟩, h2⟩, h3⟩, h4⟩, h5⟩, h6⟩ := h
    subst h1
    exact .inr (.inr (.inr (.inr (.inr (.inl ⟨rfl, _, _, _, _, _, rfl, h0, h2, h3, h4, h5, h6⟩)))))
  | dput => cases e <;> simp only [chkE, Bool.false_eq_true] at h
  | index =>
    cases e <;> (try simp only [chkE, Bool.false_eq_true] at h)
    next fn args kws q =>
    cases fn <;> (try simp only [chkE, Bool.false_eq_true] at h)
    rcases args with _ | ⟨x, _ | ⟨y, args⟩⟩ <;> (try simp only [chkE, Bool.false_eq_true] at h)
    cases kws <;> (try simp only [chkE, Bool.false_eq_true] at h)
    simp only [Bool.and_eq_true, decide_eq_true_eq] at h
    obtain ⟨⟨⟨⟨⟨h0, h2⟩, h3⟩, h4⟩, h5⟩, h6⟩ := h
    subst h2
    exact .inr (.inr (.inr (.inr (.inr (.inr (.inl ⟨rfl, isNonI_eq h0, _, _, _, _, rfl, h3, h4, h5, h6⟩))))))
  | insert =>
    cases e <;> (try simp only [chkE, Bool.false_eq_true] at h)
    next fn args kws q =>
    cases fn <;> (try simp only [chkE, Bool.false_eq_true] at h)
    rcases args with _ | ⟨x, _ | ⟨y, _ | ⟨z, args⟩⟩⟩ <;> (try simp only [chkE, Bool.false_eq_true] at h)
    cases kws <;> (try simp only [chkE, Bool.false_eq_true] at h)
    simp only [Bool.and_eq_true, decide_eq_true_eq] at h
    obtain ⟨⟨⟨⟨⟨h1, h2⟩, h3⟩, h4⟩, h5⟩, h6⟩ := h
    subst h1
    exact .inr (.inr (.inr (.inr (.inr (.inr (.inr ⟨rfl, _, _, _, _, _, rfl, h2, h3, h4, h5, h6⟩))))))
theorem sn_pr {p : Pq} {a b c : I} (ha : SndI C G Cs k a) (hb : SndI C G Cs k b) (hc : SndI C G Cs k c) : SndI C G Cs k (.pr p a b c) := by
  have he : ∀ {X W sc}, Gd C G Cs k X W sc → ∀ {e}, chkE C (.pr p a b c) sc e = true → CE C X W sc e (semE G Cs (.pr p a b c)) := fun g e h => by
    rcases pr_shape h with ⟨rfl, rfl, rfl, rfl, pos, rfl⟩ | ⟨rfl, rfl, ⟨i, rfl⟩, ⟨j, rfl⟩, x, y, pos, rfl, h1, h2⟩ | ⟨rfl, rfl, x, y, pos, rfl, h1, h2, h3⟩ | ⟨n, rfl, rfl, x, y, pos, rfl, h1, h2, h3⟩ | ⟨rfl, rfl, o, ap, x, cp, rfl, h1, h2, h3, h4, h5⟩ | ⟨rfl, o, ap, x, y, cp, rfl, h1, h2, h3, h4, h5, h6⟩ | ⟨rfl, rfl, o, ap, x, cp, rfl, h2, h3, h4, h5⟩ | ⟨rfl, o, ap, x, y, cp, rfl, h2, h3, h4, h5, h6⟩
    · exact ce_dnew.as (by funext env; simp only [semE] <;> rfl)
    · cases x <;> (try simp only [chkE, Bool.false_eq_true] at h1)
      cases y <;> (try simp only [chkE, Bool.false_eq_true] at h2)
      simp only [Bool.and_eq_true, decide_eq_true_eq] at h1 h2
      exact (ce_ddisp g h1.1.1 h1.1.2 h1.2 h2.1.1 h2.1.2 h2.2).as (by funext env; simp only [semE] <;> rfl)
    · exact (ce_dget h1 (ha.e g h2) (hb.e g h3)).as (by funext env; simp only [semE] <;> rfl)
    · exact (ce_din g h1 (ha.e g h2) (hb.e g h3)).as (by funext env; simp only [semE] <;> rfl)
    · exact (ce_dget1 g h1 h2 h3 (chkE_star h5) (ha.e g h4) (hb.e g h5)).as (by funext env; simp only [semE] <;> rfl)
    · exact (ce_dget2 g h1 h2 h3 (chkE_star h5) (chkE_star h6) (ha.e g h4) (hb.e g h5) (hc.e g h6)).as (by funext env; simp only [semE] <;> rfl)
    · exact (ce_index h2 h3 (chkE_star h5) (ha.e g h4) (hb.e g h5)).as (by funext env; simp only [semE] <;> rfl)
    · exact (ce_insert h2 h3 (chkE_star h5) (chkE_star h6) (ha.e g h4) (hb.e g h5) (hc.e g h6)).as (by funext env; simp only [semE] <;> rfl)
  refine .plain (pl_pr p a b c) he (fun g e h => ?_) (fun g o vs pos h => ?_)
  · have h0 := he g h
    rcases pr_shape h with ⟨rfl, rfl, rfl, rfl, pos, rfl⟩ | ⟨rfl, rfl, ⟨i, rfl⟩, ⟨j, rfl⟩, x, y, pos, rfl, h1, h2⟩ | ⟨rfl, rfl, x, y, pos, rfl, h1, h2, h3⟩ | ⟨n, rfl, rfl, x, y, pos, rfl, h1, h2, h3⟩ | ⟨rfl, rfl, o, ap, x, cp, rfl, h1, h2, h3, h4, h5⟩ | ⟨rfl, o, ap, x, y, cp, rfl, h1, h2, h3, h4, h5, h6⟩ | ⟨rfl, rfl, o, ap, x, cp, rfl, h2, h3, h4, h5⟩ | ⟨rfl, o, ap, x, y, cp, rfl, h2, h3, h4, h5, h6⟩
    case inr.inr.inr.inl => exact (ct_din g h1 (ha.e g h2) (hb.e g h3)).as (by funext env; simp only [semE] <;> rfl)
    all_goals exact ct_truth rfl h0
  · rcases pr_shape h with ⟨_, _, _, _, _, q⟩ | ⟨_, _, _, _, _, _, _, q, _⟩ | ⟨_, _, _, _, _, q, _⟩ | ⟨_, _, _, _, _, _, q, _⟩ | ⟨_, _, _, _, _, _, q, _⟩ | ⟨_, _, _, _, _, _, q, _⟩ | ⟨_, _, _, _, _, _, q, _⟩ | ⟨_, _, _, _, _, _, q, _⟩ <;> cases q
theorem sn_calv {i : Nat} {js : List (Nat × Nat)} {as : I} (ha : SndI C G Cs k as) : SndI C G Cs k (.calv i js as) := .plain1 (pl_calv i js as) fun g e h => by
  cases e <;> (try simp only [chkE, Bool.false_eq_true] at h)
  next fn args kws p =>
  cases fn <;> (try simp only [chkE, Bool.false_eq_true] at h)
  cases args <;> (try simp only [chkE, Bool.false_eq_true] at h)
  cases kws <;> (try simp only [chkE, Bool.false_eq_true] at h)
  rw [Bool.and_eq_true, Bool.and_eq_true, Bool.and_eq_true, Bool.and_eq_true, Bool.and_eq_true, decide_eq_true_eq] at h
  obtain ⟨⟨⟨⟨⟨h0, h1⟩, h2⟩, h3⟩, h4⟩, h5⟩ := h
  exact ⟨rfl, (ce_calv g h0 h1 h2 h3 h4 (chkA_star h5) (ha.a g h5)).as (by funext env; simp only [semE] <;> rfl)⟩
/-- THE RULE for expressions -/
theorem sndI (ir : I) : SndI C G Cs k ir := by
  induction ir with
  | var i => exact sn_var i
  | int n => exact sn_int n
  | str x => exact sn_str x
  | bl b => exact sn_bl b
  | non => exact sn_non
  | glb j => exact sn_glb j
  | isx i j b => exact sn_isx
  | bin o a b ha hb => exact sn_bin ha hb
  | neg a ha => exact sn_neg ha
  | not a ha => exact sn_not ha
  | cmp o a b ha hb => exact sn_cmp ha hb
  | chain o p a b c ha hb hc => exact sn_chain ha hb hc
  | and a b ha hb => exact sn_and ha hb
  | or a b ha hb => exact sn_or ha hb
  | ite t a b ht ha hb => exact sn_ite ht ha hb
  | tup as ha => exact sn_tup ha
  | nil => exact sn_nil
  | cons a r ha hr => exact sn_cons ha hr
  | idx a i ha hi => exact sn_idx ha hi
  | slc a lo hi ha hl hu => exact sn_slc ha hl hu
  | call f as ha => exact sn_call ha
  | bi f as ha => exact sn_bi ha
  | isa a ts ha => exact sn_isa ha
  | lst as ha => exact sn_lst ha
  | comp own tg src ifs elt hs hf he => exact sn_comp hs hf he
  | bn f as ha => exact sn_bn ha
  | binL o a b ha hb => exact sn_binL ha hb
  | slcL a lo hi ha hl hu => exact sn_slcL ha hl hu
  | revL a ha => exact sn_revL ha
  | trk a ha => exact sn_trk ha
  | app a x ha hx => exact sn_app ha hx
  | popAt a i ha hi => exact sn_popAt ha hi
  | pop a ha => exact sn_pop ha
  | rev a ha => exact sn_rev ha
  | ext a x ha hx => exact sn_ext ha hx
  | rng1 a ha => exact sn_rng1 ha
  | rng2 a b ha hb => exact sn_rng2 ha hb
  | rng3 a b c ha hb hc => exact sn_rng3 ha hb hc
  | zip a b ha hb => exact sn_zip ha hb
  | enm a ha => exact sn_enm ha
  | pr p a b c ha hb hc => exact sn_pr ha hb hc
  | calv i js as ha => exact sn_calv ha
end
end Cl
/-! Statements. -/
namespace Cl
open PySem PySem.Spec PyProof.Rows L2
def OPost (K : PySem.W.Frag) (T : Tk) (H : Hp) (D : Ends) (W : WX) : Out → Prop
  | .nx env hc => ∀ T' H' σ', Ext T H T' H' → Wd K T' hc H' → EnvR K T' H' env σ' → D.nx σ' H'
  | .bk env hc => ∀ T' H' σ', Ext T H T' H' → Wd K T' hc H' → EnvR K T' H' env σ' → D.bk σ' H'
  | .ct env hc => ∀ T' H' σ', Ext T H T' H' → Wd K T' hc H' → EnvR K T' H' env σ' → D.ct σ' H'
  | .rt d hc => ∀ T' H' v, Ext T H T' H' → Wd K T' hc H' → Rep K T' H' d v → D.rt v H'
  | .exc c fs env hc => ∀ T' H' σ' dd, Ext T H T' H' → Wd K T' hc H' → EnvR K T' H' env σ' → RepX K T' H' dd fs → W (.ref c) dd σ' H'
  | .bad => False
section
variable {K : PySem.W.Frag} {T T1 : Tk} {H H1 : Hp} {D : Ends} {W : WX} {o : Out}
theorem OPost.ext (e : Ext T H T1 H1) (h : OPost K T H D W o) : OPost K T1 H1 D W o := by
  cases o with
  | nx env hc => exact fun T' H' σ' e' => h T' H' σ' (e.trans e')
  | bk env hc => exact fun T' H' σ' e' => h T' H' σ' (e.trans e')
  | ct env hc => exact fun T' H' σ' e' => h T' H' σ' (e.trans e')
  | rt d hc => exact fun T' H' v e' => h T' H' v (e.trans e')
  | exc c fs env hc => exact fun T' H' σ' dd e' => h T' H' σ' dd (e.trans e')
  | bad => exact h
theorem OPost.exS {α : Type} {m : M α} {env : Env} {σ : L2.St} {hc : Hc} {k : α → Hc → Out} (w : Wd K T hc H) (er : EnvR K T H env σ) (h : OPost K T H D W (exS m env hc k)) :
    Post K T H (fun a T' H' => ∃ hc', Ext T H T' H' ∧ Wd K T' hc' H' ∧ OPost K T' H' D W (k a hc')) (WE W σ) (m hc) := by
  unfold Cl.exS at h
  cases q : m hc with
  | ok a h' => rw [q] at h; exact fun T' H' e w => ⟨h', e, w, OPost.ext e h⟩
  | exc c fs h' => rw [q] at h; exact fun T' H' dd e w' rx => h T' H' σ dd e w' (er.ext w e) rx
  | bad => rw [q] at h; exact h
end
def CS (X : Cx) (W : WX) (st : Stmt) (s : Env → Hc → Out) : Prop :=
  ∃ t, PS X st t ∧ ∀ T hc H env σ (D : Ends), Wd X.K T hc H → EnvR X.K T H env σ → OPost X.K T H D W (s env hc) → t D σ H
def CB (X : Cx) (W : WX) (st : List Stmt) (s : Env → Hc → Out) : Prop :=
  ∃ t, PSs X st t ∧ ∀ T hc H env σ (D : Ends), Wd X.K T hc H → EnvR X.K T H env σ → OPost X.K T H D W (s env hc) → t D σ H
section
variable {C : Ck} {G : Gt} {Cs : List D} {k : Nat} {X : Cx} {W : WX} {sc : Scope} {pos : Pos}
variable {a b c e : Expr} {ma mb mc : Env → M D} {es : List Expr} {mA : Env → M (List D)} {st : Stmt} {sts : List Stmt} {s s' : Env → Hc → Out}
theorem cs_nop : CS X W (.Pass pos) (fun env h => .nx env h) := ⟨_, ps_pass, fun T hc H env σ D w er h => h T H σ (Ext.refl T H) w er⟩
theorem cs_doc {x : Str} {j : Nat} {p : Pos} : CS X W (.Expr (.Constant (.str x) j p) pos) (fun env h => .nx env h) := ⟨_, ps_doc, fun T hc H env σ D w er h => h T H σ (Ext.refl T H) w er⟩
theorem cs_brk : CS X W (.Break pos) (fun env h => .bk env h) := ⟨_, ps_break, fun T hc H env σ D w er h => h T H σ (Ext.refl T H) w er⟩
theorem cs_cnt : CS X W (.Continue pos) (fun env h => .ct env h) := ⟨_, ps_continue, fun T hc H env σ D w er h => h T H σ (Ext.refl T H) w er⟩
theorem cs_never : CS X W st (fun _ _ => .bad) := ⟨_, ps_never, fun T hc H env σ D w er h => h.elim⟩
theorem cb_never : CB X W sts (fun _ _ => .bad) := ⟨_, pss_never, fun T hc H env σ D w er h => h.elim⟩
theorem cb_nil : CB X W [] (fun env h => .nx env h) := ⟨_, pss_nil, fun T hc H env σ D w er h => h T H σ (Ext.refl T H) w er⟩
theorem cb_cons (h1 : CS X W st s) (h2 : CB X W sts s') : CB X W (st :: sts) (fun env h => match s env h with
    | .nx e h => s' e h
    | o => o) := by
  obtain ⟨t, p, r⟩ := h1
  obtain ⟨u, p', r'⟩ := h2
  refine ⟨_, pss_cons p p', fun T hc H env σ D w er h => r T hc H env σ _ w er ?_⟩
  dsimp only at h
  cases q : s env hc with
  | nx env' hc' =>
    rw [q] at h
    exact fun T' H' σ' e w' er' => r' T' hc' H' env' σ' D w' er' (OPost.ext e h)
  | bk _ _ => rw [q] at h; exact h
  | ct _ _ => rw [q] at h; exact h
  | rt _ _ => rw [q] at h; exact h
  | exc _ _ _ _ => rw [q] at h; exact h
  | bad => rw [q] at h; exact h
theorem cs_ret (ha : CE C X W sc a ma) : CS X W (.Return (some a) pos) (fun env h => exS (ma env) env h fun d h => .rt d h) := by
  obtain ⟨ta, pa, _, ra⟩ := ha
  refine ⟨_, ps_ret pa, fun T hc H env σ D w er h => ra T hc H env σ _ w er (Post.imp (OPost.exS w er h) fun d T' H' e p v r => ?_)⟩
  obtain ⟨hc', _, w', p⟩ := p
  exact p T' H' v (Ext.refl T' H') w' r
theorem cs_retN : CS X W (.Return none pos) (fun _ h => .rt .non h) := ⟨_, ps_retN, fun T hc H env σ D w er h => h T H .non (Ext.refl T H) w (by simp only [Rep])⟩
theorem noSwap {v : Expr} (h : isComp v = false) (t : Option Expr) (l : Nat) (env : PySem.Env) : swapsWith v t l env = pure false := by
  cases v <;> first | rfl | (simp [isComp] at h)
theorem noSwapTup (v : Expr) (ts : List Expr) (kt : Nat) (tp : Pos) (l : Nat) (env : PySem.Env) : swapsWithSole [.Tuple ts kt tp] v l env = pure false := by
  cases v <;> rfl
theorem cs_ex (hn : isComp a = false) (ha : CE C X W sc a ma) : CS X W (.Expr a pos) (fun env h => exS (ma env) env h fun _ h => .nx env h) := by
  obtain ⟨ta, pa, _, ra⟩ := ha
  refine ⟨_, ps_expr pa (noSwap hn _ _ _), fun T hc H env σ D w er h => ra T hc H env σ _ w er (Post.imp (OPost.exS w er h) fun d T' H' e p v r => ?_)⟩
  obtain ⟨hc', _, w', p⟩ := p
  exact p T' H' σ (Ext.refl T' H') w' (er.ext w e)
theorem cs_ite {ss us : List Stmt} {mt : Env → M Bool} (ht : CT X W c mt) (h1 : CB X W ss s) (h2 : CB X W us s') : CS X W (.If c ss us pos) (fun env h => exS (mt env) env h fun k h => if k = true then s env h else s' env h) := by
  obtain ⟨tt, pt, rt⟩ := ht
  obtain ⟨t, p, r⟩ := h1
  obtain ⟨u, p', r'⟩ := h2
  refine ⟨_, ps_if pt p p', fun T hc H env σ D w er h => rt T hc H env σ _ w er (Post.imp (OPost.exS w er h) fun k T' H' e p => ?_)⟩
  obtain ⟨hc', _, w', p⟩ := p
  cases k with
  | true => exact r T' hc' H' env σ D w' (er.ext w e) p
  | false => exact r' T' hc' H' env σ D w' (er.ext w e) p
/-! ### assignments -/
theorem setTg_res (tg : Tg) (d : D) (env : Env) (hc : Hc) : (∃ e, setTg tg d env hc = .ok e hc) ∨ setTg tg d env hc = .bad := by
  cases tg with
  | nm i => exact .inl ⟨_, rfl⟩
  | tp is =>
    simp only [setTg]
    dsimp only [bnd]
    have : (∃ xs, seqM d hc = .ok xs hc) ∨ seqM d hc = .bad := by
      cases d with
      | tup xs => exact .inl ⟨_, rfl⟩
      | fl xs => exact .inl ⟨_, rfl⟩
      | kl xs => exact .inl ⟨_, rfl⟩
      | ref i =>
        simp only [seqM]
        unfold lstAt
        cases q : hc[i]? with
        | none => exact .inr rfl
        | some o => cases o <;> first | exact .inl ⟨_, rfl⟩ | exact .inr rfl
      | _ => exact .inr rfl
    rcases this with ⟨xs, q⟩ | q
    · rw [q]
      dsimp only [Cl.guard]
      split
      · exact .inl ⟨_, rfl⟩
      · exact .inr rfl
    · rw [q]; exact .inr rfl
/-- a target is set -/
theorem tgSet {tg : Tg} {T : Tk} {hc : Hc} {H : Hp} {env : Env} {σ : L2.St} {d : D} {v : V} {D' : Ends} {g : TG} {k : Env → Hc → Out}
    (rg : ∀ T hc H env σ d v (Q : L2.St → Hp → Prop), Wd X.K T hc H → EnvR X.K T H env σ → Rep X.K T H d v →
      (match setTg tg d env hc with
        | .ok env' _ => ∀ σ', EnvR X.K T H env' σ' → (∀ own, (∀ i ∈ tgSlots tg, i ∈ own) → L2.wipe σ' own = L2.wipe σ own) → Q σ' H
        | _ => False) → g v σ H Q)
    (w : Wd X.K T hc H) (er : EnvR X.K T H env σ) (r : Rep X.K T H d v) (h : OPost X.K T H D' W (exS (setTg tg d env) env hc k)) {Q : L2.St → Hp → Prop} (f : ∀ env' σ', EnvR X.K T H env' σ' → OPost X.K T H D' W (k env' hc) → Q σ' H) : g v σ H Q := by
  refine rg T hc H env σ d v Q w er r ?_
  unfold Cl.exS at h
  rcases setTg_res tg d env hc with ⟨e, q⟩ | q
  · rw [q] at h ⊢
    exact fun σ' er' _ => f e σ' er' h
  · rw [q] at h; exact h.elim
theorem cs_asg {tg : Tg} {t : Expr} (hs : swapsWithSole [t] a pos.line X.env = pure false) (hw : swappedStores [t] a X.env = pure none) (h1 : (assignEach [t] X.env).map (·.2) = [assign t X.env]) (ha : CE C X W sc a ma) (hg : CG X W tg t) :
    CS X W (.Assign [t] a pos) (fun env h => exS (bnd (ma env) fun d => setTg tg d env) env h fun e h => .nx e h) := by
  obtain ⟨ta, pa, _, ra⟩ := ha
  obtain ⟨g, pg, rg⟩ := hg
  refine ⟨_, ps_asg pa pg hs hw h1, fun T hc H env σ D w er h => ?_⟩
  have h' : OPost X.K T H D W (exS (ma env) env hc fun d h => exS (setTg tg d env) env h fun e h => .nx e h) := by
    have e : exS (bnd (ma env) fun d => setTg tg d env) env hc (fun e h => Out.nx e h) = exS (ma env) env hc fun d h => exS (setTg tg d env) env h fun e h => .nx e h := by
      unfold Cl.exS bnd
      cases ma env hc <;> rfl
    rw [← e]; exact h
  refine ra T hc H env σ _ w er (Post.imp (OPost.exS w er h') fun d T' H' e p v r => ?_)
  obtain ⟨hc', _, w', p⟩ := p
  exact tgSet rg w' (er.ext w e) r p fun env' σ' er' q => q T' H' σ' (Ext.refl T' H') w' er'
/-- a comprehension goes to its name by its own road -/
theorem cs_own (g : Gd C G Cs k X W sc) {i : Nat} {y : Str} {py : Pos} (hN : X.N[i]? = some y) (go : goesOwn sc y py a = true) (ha : CE C X W sc a ma) :
    CS X W (.Assign [.Name y py] a pos) (fun env h => exS (bnd (ma env) fun d => setTg (.nm i) d env) env h fun e h => .nx e h) := by
  obtain ⟨ta, pa, ow, ra⟩ := ha
  refine ⟨_, ow i y py pos hN go, fun T hc H env σ D w er h => ?_⟩
  have h' : OPost X.K T H D W (exS (ma env) env hc fun d h => exS (setTg (.nm i) d env) env h fun e h => .nx e h) := by
    have e : exS (bnd (ma env) fun d => setTg (.nm i) d env) env hc (fun e h => Out.nx e h) = exS (ma env) env hc fun d h => exS (setTg (.nm i) d env) env h fun e h => .nx e h := by
      unfold Cl.exS bnd
      cases ma env hc <;> rfl
    rw [← e]; exact h
  refine ra T hc H env σ _ w er (Post.imp (OPost.exS w er h') fun d T' H' e p v r => ?_)
  obtain ⟨hc', _, w', p⟩ := p
  exact p T' H' _ (Ext.refl T' H') w' ((er.ext w e).set r)
theorem bnd_unit {m : M Unit} {hc : Hc} : bnd m (fun _ => pur ()) hc = m hc := by
  unfold bnd pur
  cases m hc <;> rfl
/-- what a store to a place of a list asks -/
theorem post_store {K : PySem.W.Frag} {T : Tk} {hc : Hc} {H : Hp} {l i d : Cl.D} {ov iv v : V} {okQ : Unit → Tk → Hp → Prop} {exP : XK} {Q : Hp → Prop} (w : Wd K T hc H) (rl : Rep K T H l ov) (ri : Rep K T H i iv) (rd : Rep K T H d v)
    (h : Post K T H okQ exP ((match l, i with
      | .ref r, .int k => bnd (lstAt r) fun xs => bnd (optM (ixN xs.length k)) fun j => putAt r (.lst (xs.set j d))
      | _, _ => stuck) hc)) (f : ∀ hc' H', Ext T H T H' → Wd K T hc' H' → okQ () T H' → Q H') : rSetL ov iv v H Q := by
  split at h
  · next r kk =>
    obtain ⟨xs, p, vs, q, hp, hv, ll, rr, h2⟩ := post_lstAt (okP := fun _ _ _ => True) w h
    simp only [Rep] at rl ri
    obtain ⟨p', ep, hp'⟩ := rl
    rw [hp] at hp'; cases hp'
    subst ep
    cases q1 : ixN xs.length kk with
    | none => rw [q1] at h2; exact h2.elim
    | some j =>
      rw [q1] at h2
      have h3 : Post K T H okQ exP (putAt r (.lst (xs.set j d)) hc) := h2
      have h4 : Post K T H okQ exP (bnd (putAt r (.lst (xs.set j d))) (fun _ => pur ()) hc) := by
        rw [bnd_unit]; exact h3
      obtain ⟨w2, e2, h5⟩ := post_putAt w hp (rr.set j rd) (by rw [List.length_set]; exact ll) ⟨vs, hv⟩ h4
      exact ⟨p, vs, kk, j, rfl, ri, hv, by rw [rr.length]; exact q1, f _ _ e2 w2 (h5.of_pur w2)⟩
  · exact h.elim
theorem cs_asgSub {o x : Expr} {q p2 : Pos} (hsl : notSlice x = true) (ho : CE C X W sc o ma) (hx : CE C X W sc x mb) (ha : CE C X W sc a mc) :
    CS X W (.Assign [.Subscript o x q] a pos) (fun env h => exS (bnd (mc env) fun d => bnd (ma env) fun l => bnd (mb env) fun i => match l, i with
      | .ref r, .int k => bnd (lstAt r) fun xs => bnd (optM (ixN xs.length k)) fun j => putAt r (.lst (xs.set j d))
      | _, _ => stuck) env h fun _ h => .nx env h) := by
  obtain ⟨ta, pa, _, ra⟩ := ho
  obtain ⟨tb, pb, _, rb⟩ := hx
  obtain ⟨tc, pc, _, rc⟩ := ha
  have hsw : swapsWithSole [.Subscript o x q] a pos.line X.env = pure false := by
    cases a <;> rfl
  refine ⟨_, ps_asg pc (pg_sub pa pb set_list (by intro v; cases x <;> first | rfl | (simp [notSlice] at hsl))) hsw rfl rfl, fun T hc H env σ D w er h => ?_⟩
  refine read1 rc w er (OPost.exS w er h) fun d T1 hc1 H1 v e1 w1 er1 r1 h1 => ?_
  refine read1 ra w1 er1 h1 fun l T2 hc2 H2 ov e2 w2 er2 r2 h2 => ?_
  refine read1 rb w2 er2 h2 fun i T3 hc3 H3 iv e3 w3 er3 r3 h3 => ?_
  refine post_store w3 (Rep.ext w2 e3 _ _ r2) r3 (Rep.ext w2 e3 _ _ (Rep.ext w1 e2 _ _ r1)) h3 fun hc' H' e' w' p => ?_
  obtain ⟨hc'', _, w'', p⟩ := p
  exact p T3 H' σ (Ext.refl T3 H') w'' (er3.ext w3 e')
/-! ### d[k] = v -/
theorem cs_dput (g : Gd C G Cs k X W sc) (hcm : C.cm = true) {o x : Expr} {q p2 : Pos} (hn : isComp a = false) (hsl : notSlice x = true) (ho : CE C X W sc o ma) (hx : CE C X W sc x mb) (ha : CE C X W sc a mc) :
    CS X W (.Assign [.Subscript o x q] a pos) (fun env h => exS (bnd (mc env) fun v => bnd (preM .dput v) fun _ => bnd (ma env) fun d => bnd (mb env) fun y => prM .dput v d y) env h fun _ h => .nx env h) := by
  obtain ⟨ta, pa, _, ra⟩ := ho
  obtain ⟨tb, pb, _, rb⟩ := hx
  obtain ⟨tc, pc, _, rc⟩ := ha
  refine ⟨_, ps_dput (by have := (g.rm hcm).un; omega) pa pb pc (noSwap hn _ _ _), fun T hc H env σ D w er h => ?_⟩
  refine read1 rc w er (OPost.exS w er h) fun v0 T1 hc1 H1 v e1 w1 er1 r1 h1 => ?_
  have h1 : Post X.K T1 H1 _ (WE W σ) (bnd (ma env) (fun d => bnd (mb env) fun y => prM .dput v0 d y) hc1) := h1
  refine read1 ra w1 er1 h1 fun d T2 hc2 H2 ov e2 w2 er2 r2 h2 => ?_
  refine read1 rb w2 er2 h2 fun y T3 hc3 H3 iv e3 w3 er3 r3 h3 => ?_
  have r1' := Rep.ext w2 e3 _ _ (Rep.ext w1 e2 _ _ r1)
  have r2' := Rep.ext w2 e3 _ _ r2
  cases d <;> first | (cases v0 <;> exact h3.elim) | skip
  next i =>
  rw [prM_dput] at h3
  obtain ⟨kvs, p, ws, q, hp, hv, l, rr, h4⟩ := post_dctAt w3 h3
  obtain ⟨kk, ek, h4⟩ := post_opt h4
  obtain ⟨c, h4⟩ := Post.of_guard h4
  have lw : ws.length < sizeLine := by rw [rr.length]; exact c
  obtain ⟨w4, e4, h5⟩ := post_putO w3 hp (rr.put r1') (by have := rr.put (k := kk) r1'; rw [this.length]; exact Nat.le_trans putD_len c) h4
  obtain ⟨hc5, _, w5, p5⟩ := h5.of_pur w4
  rw [key_rep ek r3]
  exact ⟨p, _, post_ref r2' hp, DPut.k hv lw, p5 T3 _ σ (Ext.refl T3 _) w5 (er3.ext w3 e4)⟩
theorem getList : PGet X (rIxL X.K) := by
  intro pins s σ H o i ov iv Q I ro ri h
  obtain ⟨p, xs, i, z, rfl, rfl, hq, he, q⟩ := h
  cases ro
  obtain ⟨t, rfl⟩ := ri
  obtain ⟨its, r, pl, hz⟩ := I.list hq
  obtain ⟨j, h1, h2, h3, h4, h5⟩ := atI_get he
  obtain ⟨w, ew, rw'⟩ := r.get h2
  have hl := r.length
  have hn := line63
  have fin : EP X pins σ Q w s := ⟨z, H, I, rw', q⟩
  by_cases h0 : 0 ≤ i
  · have hj : i.toNat = j := by
      rw [seqIndex_of h0 h5] at h1
      exact Option.some.inj h1
    exact wpAny_getItem_list pl.isList h0 (by omega) (by rw [hj]; simpa using ew) fin
  · have hj : (i + (its.toArray.size : Int)).toNat = j := by
      rw [seqIndex_neg (by omega) h4] at h1
      rw [List.size_toArray, ← hl]
      exact Option.some.inj h1
    exact wpAny_getItem_list_neg pl.isList (by omega) (by rw [List.size_toArray] <;> omega) (by omega) (by rw [hj]; simpa using ew) fin
theorem cs_aug (g : Gd C G Cs k X W sc) {i : Nat} {y : Str} {o : Operator} {p2 : Pos} (hN : C.N[i]? = some y) (hl : locB sc y = true) (ha : CE C X W sc a ma) :
    CS X W (.AugAssign (.Name y p2) o a pos) (fun env h => exS (bnd (optM ((env[i]?).bind id)) fun x => bnd (ma env) fun y => augM o x y) env h fun d h => .nx (env.set i (some d)) h) := by
  obtain ⟨ta, pa, _, ra⟩ := ha
  refine ⟨_, ps_aug (i := i) g.nd (by rw [g.N]; exact hN) (g.lo hl) pa (fun pins s σ H x y v u Q I r r' h => opAug o pins s σ H x y v u Q I r r' h) (g.loc y hl), fun T hc H env σ D w er h => ?_⟩
  have p0 := OPost.exS w er h
  cases q' : env[i]? with
  | none => rw [q'] at p0; exact p0.elim
  | some oo =>
  cases oo with
  | none => rw [q'] at p0; exact p0.elim
  | some x =>
    rw [q'] at p0
    obtain ⟨v, hv, rv⟩ := er.2 i x q'
    have p1 : Post X.K T H _ (WE W σ) (bnd (ma env) (fun y => augM o x y) hc) := p0
    refine ⟨v, hv, read1 ra w er p1 fun d T2 hc2 H2 u e2 w2 er2 r2 h2 => ?_⟩
    refine post_aug w2 (Rep.ext w e2 _ _ rv) r2 (Post.imp h2 fun d T' H' e p v r => ?_)
    obtain ⟨hc', _, w', p⟩ := p
    exact p T' H' _ (Ext.refl T' H') w' ((er2.ext w2 e).set r)
theorem cs_augS {o : Operator} {l x : Expr} {p2 : Pos} (hsl : notSlice x = true) (hl : CE C X W sc l ma) (hx : CE C X W sc x mb) (ha : CE C X W sc a mc) :
    CS X W (.AugAssign (.Subscript l x p2) o a pos) (fun env h => exS (bnd (ma env) fun l => bnd (mb env) fun i => match l with
      | .ref _ => bnd (idxM l i) fun x => bnd (mc env) fun y => bnd (augM o x y) fun d => match l, i with
        | .ref r, .int k => bnd (lstAt r) fun xs => bnd (optM (ixN xs.length k)) fun j => putAt r (.lst (xs.set j d))
        | _, _ => stuck
      | _ => stuck) env h fun _ h => .nx env h) := by
  obtain ⟨ta, pa, _, ra⟩ := hl
  obtain ⟨tb, pb, _, rb⟩ := hx
  obtain ⟨tc, pc, _, rc⟩ := ha
  refine ⟨_, ps_augS pa pb getList pc (fun pins s σ H x y v u Q I r r' h => opAug o pins s σ H x y v u Q I r r' h) set_list (by intro ov iv new; cases x <;> first | rfl | (simp [notSlice] at hsl)), fun T hc H env σ D w er h => ?_⟩
  refine read1 ra w er (OPost.exS w er h) fun l T1 hc1 H1 ov e1 w1 er1 r1 h1 => ?_
  refine read1 rb w1 er1 h1 fun i T2 hc2 H2 iv e2 w2 er2 r2 h2 => ?_
  have r1' := Rep.ext w1 e2 _ _ r1
  cases l with
  | ref n =>
    dsimp only at h2
    -- the item
    cases i with
    | int kk =>
      simp only [idxM] at h2
      rw [bnd_assoc] at h2
      obtain ⟨xs, p, vs, ev, s, sl, stt, lv, rr, h3, _⟩ := post_seq w2 r1' h2
      cases q1 : atI xs kk with
      | none => rw [q1] at h3; exact h3.elim
      | some d0 =>
        rw [q1] at h3
        obtain ⟨z, hz, rz⟩ := atI_rep rr q1
        simp only [Rep] at r2
        refine ⟨p, vs, kk, z, ev, r2, sl (fun _ h => by cases h), hz, ?_⟩
        have h4 : Post X.K T2 H2 _ (WE W σ) (bnd (mc env) (fun y => bnd (augM o d0 y) fun d => bnd (lstAt n) fun xs => bnd (optM (ixN xs.length kk)) fun j => putAt n (.lst (xs.set j d))) hc2) := h3
        refine read1 rc w2 er2 h4 fun d3 T3 hc3 H3 u e3 w3 er3 r3 h5 => ?_
        refine post_aug w3 (Rep.ext w2 e3 _ _ rz) r3 (Post.imp (Post.bind h5) fun d T4 H4 e4 pp v rv => ?_)
        obtain ⟨hc4, _, w4, h6⟩ := pp
        refine post_store (l := .ref n) (i := .int kk) (d := d) w4 (Rep.ext w3 e4 _ _ (Rep.ext w2 e3 _ _ r1')) (by simp only [Rep]; exact r2) rv h6 fun hc' H' e' w' p => ?_
        obtain ⟨hc'', _, w'', p⟩ := p
        exact p T4 H' σ (Ext.refl T4 H') w'' ((er3.ext w3 e4).ext w4 e')
    | _ => exact h2.elim
  | _ => exact h2.elim
/-! ### a, b = x, y -/
theorem repL_two {K : PySem.W.Frag} {T : Tk} {H : Hp} {ds : List Cl.D} {vs : List V} (r : RepL K T H ds vs) (l : ds.length = 2) : ∃ d d' v v', ds = [d, d'] ∧ vs = [v, v'] ∧ Rep K T H d v ∧ Rep K T H d' v' := by
  match ds, l with
  | [d, d'], _ =>
    obtain ⟨v, v', e, a, b⟩ := repL2 r
    exact ⟨d, d', v, v', rfl, e, a, b⟩
theorem repL_three {K : PySem.W.Frag} {T : Tk} {H : Hp} {ds : List Cl.D} {vs : List V} (r : RepL K T H ds vs) (l : ds.length = 3) : ∃ d d' d'' v v' v'', ds = [d, d', d''] ∧ vs = [v, v', v''] ∧ Rep K T H d v ∧ Rep K T H d' v' ∧ Rep K T H d'' v'' := by
  match ds, l with
  | [d, d', d''], _ =>
    simp only [RepL] at r
    obtain ⟨v, t, e, a, v', t', e', a', v'', t'', e'', a'', e3⟩ := r
    exact ⟨d, d', d'', v, v', v'', rfl, by rw [e, e', e'', e3], a, a', a''⟩
theorem cs_par2 (g : Gd C G Cs k X W sc) (hcm : C.cm = true) {i j : Nat} {x y : Str} {px py pt pt2 : Pos} {kt k2 : Nat} (hi : C.N[i]? = some x) (hj : C.N[j]? = some y) (hij : i ≠ j) (hx : loclB sc x = true) (hy : loclB sc y = true)
    (hw : swappedStores [.Tuple [.Name x px, .Name y py] kt pt] (.Tuple [a, b] k2 pt2) X.env = pure (some [x, y])) (hA : CA X W [a, b] mA) :
    CS X W (.Assign [.Tuple [.Name x px, .Name y py] kt pt] (.Tuple [a, b] k2 pt2) pos) (fun env h => exS (mA env) env h fun xs h => if xs.length = [i, j].length then .nx (([i, j].zip xs).foldl (fun e p => e.set p.1 (some p.2)) env) h else .bad) := by
  obtain ⟨tA, pA, rA⟩ := hA
  refine ⟨_, ps_par (g.calm hcm) g.nd (by rw [g.N]; exact hi) (by rw [g.N]; exact hj) hij (g.locl hx) (g.locl hy) pA hw, fun T hc H env σ D w er h => ?_⟩
  refine rA T hc H env σ _ w er (Post.imp (OPost.exS w er h) fun ds T' H' e p vs r => ?_)
  obtain ⟨hc', _, w', p⟩ := p
  split at p
  · next l =>
    obtain ⟨d, d', v, v', e1, e2, r1, r2⟩ := repL_two r l
    subst e1; subst e2
    exact ⟨v, v', rfl, p T' H' _ (Ext.refl T' H') w' (((er.ext w e).set r1).set r2)⟩
  · exact p.elim
theorem cs_par3 (g : Gd C G Cs k X W sc) (hcm : C.cm = true) {i j l : Nat} {x y z : Str} {px py pz pt pt2 : Pos} {kt k2 : Nat} (hi : C.N[i]? = some x) (hj : C.N[j]? = some y) (hl : C.N[l]? = some z) (hij : i ≠ j) (hil : i ≠ l) (hjl : j ≠ l) (hx : loclB sc x = true) (hy : loclB sc y = true) (hz : loclB sc z = true)
    (hw : swappedStores [.Tuple [.Name x px, .Name y py, .Name z pz] kt pt] (.Tuple [a, b, c] k2 pt2) X.env = pure (some [x, y, z])) (hA : CA X W [a, b, c] mA) :
    CS X W (.Assign [.Tuple [.Name x px, .Name y py, .Name z pz] kt pt] (.Tuple [a, b, c] k2 pt2) pos) (fun env h => exS (mA env) env h fun xs h => if xs.length = [i, j, l].length then .nx (([i, j, l].zip xs).foldl (fun e p => e.set p.1 (some p.2)) env) h else .bad) := by
  obtain ⟨tA, pA, rA⟩ := hA
  refine ⟨_, L2.ps_par3 (g.calm hcm) g.nd (by rw [g.N]; exact hi) (by rw [g.N]; exact hj) (by rw [g.N]; exact hl) hij hil hjl (g.locl hx) (g.locl hy) (g.locl hz) pA hw, fun T hc H env σ D w er h => ?_⟩
  refine rA T hc H env σ _ w er (Post.imp (OPost.exS w er h) fun ds T' H' e p vs r => ?_)
  obtain ⟨hc', _, w', p⟩ := p
  split at p
  · next q =>
    obtain ⟨d, d', d'', v, v', v'', e1, e2, r1, r2, r3⟩ := repL_three r q
    subst e1; subst e2
    exact ⟨v, v', v'', rfl, p T' H' _ (Ext.refl T' H') w' ((((er.ext w e).set r1).set r2).set r3)⟩
  · exact p.elim
/-! ### loops -/
theorem exS_bad {α : Type} {m : M α} {env : Env} {h : Hc} {k : α → Hc → Out} {o : Out} (e : exS m env h k = o) (nb : o ≠ .bad) : (∃ a h', m h = .ok a h' ∧ o = k a h') ∨ ∃ c fs h', m h = .exc c fs h' ∧ o = .exc c fs env h' := by
  unfold Cl.exS at e
  cases q : m h with
  | ok a h' => rw [q] at e; exact .inl ⟨a, h', rfl, e.symm⟩
  | exc c fs h' => rw [q] at e; exact .inr ⟨c, fs, h', rfl, e.symm⟩
  | bad => rw [q] at e; exact absurd e.symm nb
theorem OPost.nb {K : PySem.W.Frag} {T : Tk} {H : Hp} {D : Ends} {W : WX} {o : Out} (h : OPost K T H D W o) : o ≠ .bad := fun e => by rw [e] at h; exact h
theorem cs_for (g : Gd C G Cs k X W sc) (hcm : C.cm = true) (hp : PassesOwn (model X.prog X.w) X.A X.env X.xe) {tg : Tg} {t it : Expr} {mi : Env → M Src} (hns : notSet it = true) (hi : CI X W t it mi) (hg : CG X W tg t) (hb : CB X W sts s) :
    CS X W (.For t it sts [] pos) (fun env h => exS (mi env) env h fun sr h => forL tg sr.dep s sr.items env h) := by
  obtain ⟨wi, pi, ri⟩ := hi
  obtain ⟨gg, pg, rg⟩ := hg
  obtain ⟨tb, pb, rb⟩ := hb
  refine ⟨_, ps_for hp (g.calm hcm) pi pg pb (fun x => setOf_iter hns x), fun T hc H env σ D w er h => ?_⟩
  refine ri T hc H env σ _ w er (Post.imp (OPost.exS w er h) fun sr T1 H1 e1 p J it => ?_)
  obtain ⟨hc1, _, w1, h1⟩ := p
  have er1 := er.ext w e1
  generalize ho : forL tg sr.dep s sr.items env hc1 = o at h1
  refine ⟨fun i m τ Hx => i + m = sr.items.length ∧ ∃ T hc env, Ext T1 H1 T Hx ∧ Wd X.K T hc Hx ∧ EnvR X.K T Hx env τ ∧ forL tg sr.dep s (sr.items.drop i) env hc = o, ⟨sr.items.length, by omega, T1, hc1, env, Ext.refl T1 H1, w1, er1, ho⟩, fun i m τ Hx hW => ?_⟩
  obtain ⟨em, T2, hc2, env2, e2, w2, er2, run⟩ := hW
  have nb := h1.nb
  by_cases hlt : i < sr.items.length
  · have hdrop : sr.items.drop i = sr.items[i] :: sr.items.drop (i + 1) := List.drop_eq_getElem_cons hlt
    rw [hdrop] at run
    unfold forL at run
    rcases exS_bad run nb with ⟨env3, hc3, q, eo⟩ | ⟨c, fs, hc3, q, eo⟩
    · obtain ⟨dd, st⟩ := depOk_ok q
      have es := setTg_same st
      rw [es] at st eo
      clear es
      refine .inr ⟨it.go i hlt T2 hc2 Hx e2.g w2 dd, fun τ' H' => ∃ T hc env, Ext T1 H1 T H' ∧ Wd X.K T hc H' ∧ EnvR X.K T H' env τ' ∧ forL tg sr.dep s (sr.items.drop (i + 1)) env hc = o, fun τ' H' hn => ⟨m - 1, by omega, by omega, hn⟩, fun x H' y => ?_⟩
      obtain ⟨e4, w4, rx⟩ := it.yld i _ (List.getElem?_eq_getElem hlt) T2 hc2 Hx e2.g w2 dd x H' y
      refine rg T2 hc2 H' env2 τ _ x _ w4 (er2.ext w2 e4) rx ?_
      rw [st]
      intro τ' er5 _
      refine rb T2 hc2 H' env3 τ' _ w4 er5 ?_
      cases qb : s env3 hc2 with
      | nx e' h' =>
        rw [qb] at eo
        exact fun T' H'' σ' ee ww rr => ⟨T', h', e', (e2.trans e4).trans ee, ww, rr, eo.symm⟩
      | ct e' h' =>
        rw [qb] at eo
        exact fun T' H'' σ' ee ww rr => ⟨T', h', e', (e2.trans e4).trans ee, ww, rr, eo.symm⟩
      | bk e' h' =>
        rw [qb] at eo; dsimp only at eo
        rw [eo] at h1
        exact OPost.ext (e2.trans e4) h1
      | rt d h' =>
        rw [qb] at eo; dsimp only at eo
        rw [eo] at h1
        exact OPost.ext (e2.trans e4) h1
      | exc c fs e' h' =>
        rw [qb] at eo; dsimp only at eo
        rw [eo] at h1
        exact OPost.ext (e2.trans e4) h1
      | bad => rw [qb] at eo; exact absurd eo nb
    · exfalso
      unfold depOk at q
      split at q
      · rcases setTg_res tg sr.items[i] env2 hc2 with ⟨z, q2⟩ | q2
        · rw [q2] at q; cases q
        · rw [q2] at q; cases q
      · cases q
  · have hi' : i = sr.items.length := by omega
    subst hi'
    rw [List.drop_length] at run
    unfold forL at run
    rcases exS_bad run nb with ⟨env3, hc3, q, eo⟩ | ⟨c, fs, hc3, q, eo⟩
    · obtain ⟨dd, st⟩ := depOk_ok q
      have es : hc3 = hc2 := by
        have : Res.ok () hc2 = Res.ok env3 hc3 := st
        cases this; rfl
      rw [es] at eo
      refine .inl ⟨it.stop T2 hc2 Hx e2.g w2 dd, ?_⟩
      rw [eo] at h1
      exact h1 T2 Hx τ e2 w2 er2
    · exfalso
      unfold depOk at q
      split at q
      · cases q
      · cases q
theorem cs_whl (hp : PassesOwn (model X.prog X.w) X.A X.env X.xe) {mt : Env → M Bool} (ht : CT X W c mt) (hb : CB X W sts s) : CS X W (.While c sts [] pos) (fun env h => whlR mt s env h) := by
  obtain ⟨tt, pt, rt⟩ := ht
  obtain ⟨tb, pb, rb⟩ := hb
  refine ⟨_, ps_while hp pt pb, fun T hc H env σ D w er h => ?_⟩
  obtain ⟨n, hn⟩ := whlR_has (OPost.nb h)
  dsimp only at h
  generalize ho : whlR mt s env hc = o at h hn
  refine ⟨fun m τ Hx => ∃ T2 hc2 env2, Ext T H T2 Hx ∧ Wd X.K T2 hc2 Hx ∧ EnvR X.K T2 Hx env2 τ ∧ whlN mt s m env2 hc2 = some o, ⟨n, T, hc, env, Ext.refl T H, w, er, hn⟩, fun m τ Hx hW => ?_⟩
  obtain ⟨T2, hc2, env2, e2, w2, er2, run⟩ := hW
  have nb : o ≠ .bad := OPost.nb h
  cases m with
  | zero => simp [whlN] at run
  | succ m =>
    unfold whlN at run
    refine rt T2 hc2 Hx env2 τ _ w2 er2 ?_
    cases q : mt env2 hc2 with
    | bad => rw [q] at run; simp only [Option.some.injEq] at run; exact absurd run.symm nb
    | exc c fs h' =>
      rw [q] at run; simp only [Option.some.injEq] at run
      rw [← run] at h
      exact fun T' H' dd e' w' rx => h T' H' τ dd (e2.trans e') w' (er2.ext w2 e') rx
    | ok b h' =>
      rw [q] at run
      intro T3 H3 e3 w3
      have er3 := er2.ext w2 e3
      cases b with
      | false =>
        simp only [Option.some.injEq] at run
        rw [← run] at h
        exact h T3 H3 τ (e2.trans e3) w3 er3
      | true =>
        dsimp only at run
        refine ⟨fun τ' H' => ∃ T2 hc2 env2, Ext T H T2 H' ∧ Wd X.K T2 hc2 H' ∧ EnvR X.K T2 H' env2 τ' ∧ whlN mt s m env2 hc2 = some o, fun τ' H' hn => ⟨m, by omega, hn⟩, ?_⟩
        refine rb T3 h' H3 env2 τ _ w3 er3 ?_
        cases qb : s env2 h' with
        | nx e' h2 =>
          rw [qb] at run
          exact fun T' H'' σ' ee ww rr => ⟨T', h2, e', (e2.trans e3).trans ee, ww, rr, run⟩
        | ct e' h2 =>
          rw [qb] at run
          exact fun T' H'' σ' ee ww rr => ⟨T', h2, e', (e2.trans e3).trans ee, ww, rr, run⟩
        | bk e' h2 =>
          rw [qb] at run; simp only [Option.some.injEq] at run
          rw [← run] at h
          exact OPost.ext (e2.trans e3) h
        | rt d h2 =>
          rw [qb] at run; simp only [Option.some.injEq] at run
          rw [← run] at h
          exact OPost.ext (e2.trans e3) h
        | exc c fs e' h2 =>
          rw [qb] at run; simp only [Option.some.injEq] at run
          rw [← run] at h
          exact OPost.ext (e2.trans e3) h
        | bad => rw [qb] at run; simp only [Option.some.injEq] at run; exact absurd run.symm nb
/-! ### exceptions -/
theorem cs_rse (g : Gd C G Cs k X W sc) (hcm : C.cm = true) {j : Nat} {x m : Str} {l : Nat} {p p2 p3 : Pos} (hr : C.rs.contains j = true) (hN : C.gs[j]? = some x) (hv : glB sc x = true) (ho : okName x = true) :
    CS X W (.Raise (some (.Call (.Name x p) [.Constant (.str m) l p2] [] p3)) none pos) (fun env h => match Cs[j]? with
      | some (.ob a) => .exc a [] env h
      | _ => .bad) := by
  cases q : Cs[j]? with
  | none => exact ⟨_, ps_never, fun T hc H env σ D w er h => h.elim⟩
  | some d =>
    cases d with
    | ob a =>
      obtain ⟨⟨B, newId, initId, bmB, F, ex⟩, kp, sb, ty⟩ := g.cf.rs j hr a q
      obtain ⟨y, hy, v, u, hm, r, hR⟩ := g.gc j _ q
      rw [hN] at hy; cases hy
      have hv2 := hR ⟨[], [], fun _ => False⟩ (fun _ => none)
      simp only [Rep] at hv2
      subst hv2
      cases r
      refine ⟨_, ps_raise (g.calm hcm) g.tk (pmk_own F ex hm kp (raises_own sb ty) (g.gl hv) (okName_d ho).1), fun T hc H env σ D w er h => ?_⟩
      exact h T H σ none (Ext.refl T H) w er (.inl ⟨rfl, rfl⟩)
    | _ => exact ⟨_, ps_never, fun T hc H env σ D w er h => h.elim⟩
/-- one reading for all contexts -/
def tClS (K : PySem.W.Frag) (W : WX) (s : Env → Hc → Out) : TS := fun D σ H => ∃ T hc env, Wd K T hc H ∧ EnvR K T H env σ ∧ OPost K T H D W (s env hc)
theorem CB.cl (h : CB X W sts s) : PSs X sts (tClS X.K W s) := by
  obtain ⟨t, p, r⟩ := h
  exact ⟨fun pins s σ H D I ⟨T, hc, env, w, er, q⟩ => p.run pins s σ H D I (r T hc H env σ D w er q)⟩
theorem OPost.suf {K : PySem.W.Frag} {T : Tk} {H : Hp} {D : Ends} {W : WX} {i : Nat} {o : Out} (h : OPost K T H D W (sufX i o)) :
    OPost K T H { nx := fun σ' H' => D.nx (σ'.set i none) H', rt := D.rt, bk := fun σ' H' => D.bk (σ'.set i none) H', ct := fun σ' H' => D.ct (σ'.set i none) H' } W0 o := by
  cases o with
  | nx e hc => exact fun T' H' σ' ee w er => h T' H' _ ee w (er.clear i)
  | bk e hc => exact fun T' H' σ' ee w er => h T' H' _ ee w (er.clear i)
  | ct e hc => exact fun T' H' σ' ee w er => h T' H' _ ee w (er.clear i)
  | rt d hc => exact h
  | exc _ _ _ _ => exact h.elim
  | bad => exact h.elim
theorem cs_try (g : Gd C G Cs k X W sc) (hs : X.stack = X.env :: X.outer) (hf : X.env.frame = some X.env.locals) {j kk i : Nat} {x n : Str} {body suite : List Stmt} {b₀ : Stmt} {np pos' : Pos} {sb : Env → Hc → Out} {ss : Addr → Env → Hc → Out}
    (hh : C.hs.contains (j, kk) = true) (hk : C.gs[kk]? = some x) (hv : glB sc x = true) (ho : okName x = true) (hi : C.N[i]? = some n) (hl : loclB sc n = true)
    (hb : ∀ (W : WX) (pn : List (Addr × Obj)) (xe : Value → Shared → Prop), Takes (X.tr pn xe) W → PassesOwn (model X.prog X.w) X.A X.env xe → CB (X.tr pn xe) W body sb)
    (hsu : ∀ (a c : Addr) (oe : Obj) (pn : List (Addr × Obj)), Cs[j]? = some (.ob c) → Zc (.ref c) none oe → (∃ vs, oe.data = .fields vs) → CB (X.suite a ((a, oe) :: pn)) W0 (b₀ :: suite) (ss a)) :
    CS X W (.Try body [.ExceptHandler (some (.Name x np)) (some n) (b₀ :: suite) pos'] [] [] pos) (fun env h => match Cs[j]? with
      | some (.ob a) => match sb env h with
        | .exc c fs env' h' => if c = a ∧ fs.isEmpty = true then sameFor fun x => sufX i (ss x (env'.set i (some (.ob x))) h') else .bad
        | o => o
      | _ => .bad) := by
  cases q : Cs[j]? with
  | none => exact cs_never
  | some d =>
    cases d with
    | ob cj =>
      obtain ⟨c, qc, em⟩ := g.cf.hs j kk hh cj q
      obtain ⟨y, hy, v, u, hm, r, hR⟩ := g.gc kk _ qc
      rw [hk] at hy; cases hy
      have hv2 := hR ⟨[], [], fun _ => False⟩ (fun _ => none)
      simp only [Rep] at hv2
      subst hv2
      cases r
      refine ⟨_, ps_try_as (i := i) (tb := fun W => tClS X.K W sb) (ts := fun a cls d D σ H => cls = .ref cj ∧ d = none ∧ tClS X.K W0 (ss a) D σ H) (Wout := W) hs hf g.nd (by rw [g.N]; exact hi) (g.locl hl) ⟨g.gl hv, (okName_d ho).1, .inl hm⟩ g.tk
        (fun W pn xe tk po => (hb W pn xe tk po).cl) (fun a oe cls d pn hz hf => ⟨fun pins s σ H D I ⟨e1, e2, h⟩ => by
          subst e1; subst e2
          exact ((hsu a cj oe pn q hz hf).cl).run pins s σ H D I h⟩), fun T hc H env σ D w er h => ⟨T, hc, env, w, er, ?_⟩⟩
      dsimp only at h
      cases qb : sb env hc with
      | nx _ _ => rw [qb] at h; exact h
      | bk _ _ => rw [qb] at h; exact h
      | ct _ _ => rw [qb] at h; exact h
      | rt _ _ => rw [qb] at h; exact h
      | bad => rw [qb] at h; exact h
      | exc c' fs env' h' =>
        rw [qb] at h
        dsimp only at h
        cases fs with
        | cons _ _ => rw [if_neg (by simp)] at h; exact h.elim
        | nil =>
          split at h
          · next ec =>
            obtain ⟨ec, _⟩ := ec
            subst ec
            have nb := OPost.nb h
            have ha := sameFor_has nb
            intro T' H' σ' dd e w' er' rx
            rcases rx with ⟨e1, _⟩ | ⟨_, _, _, _, _, z⟩
            · subst e1
              refine ⟨true, em, fun _ a _ => ⟨rfl, rfl, T', h', env'.set i (some (.ob a)), w', er'.set (by simp only [Rep]), OPost.suf (W := W) ?_⟩, fun z => nomatch z⟩
              rw [ha a]
              exact OPost.ext e h
            · exact absurd rfl z
          · exact h.elim
    | _ => exact cs_never
end
end Cl
/-! Statements: the checker's word is right. -/
namespace Cl
open PySem PySem.Spec PyProof.Rows L2
theorem fm_len {α β : Type} {f : α → Option β} : ∀ {l : List α}, (l.filterMap f).length = l.length → ∀ x ∈ l, (f x).isSome = true
  | [], _, _, h => by cases h
  | a :: l, e, x, h => by
    rw [List.filterMap_cons] at e
    have le := List.length_filterMap_le f l
    cases q : f a with
    | none => rw [q] at e; simp only [List.length_cons] at e; omega
    | some b =>
      rw [q] at e
      simp only [List.length_cons, Nat.add_right_cancel_iff] at e
      rcases List.mem_cons.mp h with z | z
      · rw [z, q]; rfl
      · exact fm_len e x z
theorem sameLine_of {l : Nat} : ∀ {es : List Expr}, (∀ e ∈ es, ∃ x p, e = .Name x p ∧ (p.line == l) = true) → sameLine l es = true
  | [], _ => rfl
  | e :: es, h => by
    obtain ⟨x, p, q, r⟩ := h e List.mem_cons_self
    subst q
    simp only [sameLine, r, Bool.true_and]
    exact sameLine_of fun e m => h e (List.mem_cons_of_mem _ m)
section
variable {C : Ck} {G : Gt} {Cs : List D} {k : Nat} {X : Cx} {W : WX} {sc : Scope} {pos : Pos}
theorem kind_fn (g : Gd C G Cs k X W sc) : (X.env.blockKind != ScopeKind.function) = false := by
  unfold Env.blockKind
  rw [g.scr.kind]; rfl
theorem sw_none (hsc : X.env.scope = sc) {ts vs : List Expr} {kt k2 : Nat} {p p2 : Pos} (h : cannot sc ts vs = true) : swappedStores [.Tuple ts kt p] (.Tuple vs k2 p2) X.env = pure none := by
  unfold swappedStores
  dsimp only
  split
  · rfl
  · next h1 =>
    split
    · rfl
    · split
      · rfl
      · next h3 =>
        split
        · rfl
        · next h4 =>
          exfalso
          simp only [Bool.or_eq_true, not_or, Bool.not_eq_true, bne_eq_false_iff_eq] at h1 h3
          unfold cannot at h
          rw [Bool.or_eq_true, Bool.or_eq_true, Bool.or_eq_true] at h
          rcases h with ((h | h) | h) | h
          · rw [h] at h1; exact absurd h1.1.1 (by simp)
          · rw [bne_iff_ne] at h; exact h h1.1.2
          · have hm := fm_len h3.1
            have z : ∀ e ∈ ts, ∃ x p, e = .Name x p ∧ X.env.kindOf x = some .local ∧ (p.line == (ts.head?.map (·.pos.line)).getD 0) = true := by
              intro e m
              have := hm e m
              cases e <;> simp only [Option.isSome_none, Bool.false_eq_true] at this
              next x p =>
              split at this
              · next q => rw [Bool.and_eq_true] at q; exact ⟨x, p, rfl, by simpa using q.1, q.2⟩
              · cases this
            have hl : (ts.head?.map (·.pos.line)).getD 0 = lineOf ts := by
              cases ts with
              | nil => rfl
              | cons e r =>
                obtain ⟨x, p, q, _⟩ := z e List.mem_cons_self
                subst q; rfl
            rw [hl] at z
            have s1 : sameLine (lineOf ts) ts = true := sameLine_of fun e m => by
              obtain ⟨x, p, a, _, b⟩ := z e m
              exact ⟨x, p, a, b⟩
            have s2 : ∀ f : Expr → Bool, (∀ x p, loclB sc x = true → f (.Name x p) = true) → ts.all f = true := by
              intro f hf
              rw [List.all_eq_true]
              intro e m
              obtain ⟨x, p, a, b, _⟩ := z e m
              subst a
              unfold Env.kindOf at b
              rw [hsc] at b
              exact hf x p (by simp only [loclB, b])
            rw [s1, s2 _ (fun x p h => h)] at h
            simp at h
          · exact h4 h
theorem sw_some (g : Gd C G Cs k X W sc) (hsc : X.env.scope = sc) {ts vs : List Expr} {kt k2 : Nat} {p p2 : Pos} {names : List Str} (hs : ∀ e ∈ vs, ∀ a b, e ≠ .Starred a b) (h : swaps sc ts vs = true) (h2 : vs.all (foldedForSure 8) = false) (h3 : vs.all (constantsAlone 8) = false)
    (hn : ts.filterMap (fun t => match t with | .Name x _ => some x | _ => none) = names) (hd : names.eraseDups.length = names.length) : swappedStores [.Tuple ts kt p] (.Tuple vs k2 p2) X.env = pure (some names) := by
  unfold swaps at h
  rw [Bool.and_eq_true, Bool.and_eq_true, Bool.and_eq_true, beq_iff_eq] at h
  obtain ⟨⟨⟨a, b⟩, c⟩, d⟩ := h
  have hm : ∀ e ∈ ts, ∃ x p, e = .Name x p ∧ X.env.kindOf x = some .local ∧ (p.line == lineOf ts) = true := by
    intro e m
    have s2 := List.all_eq_true.mp d e m
    cases e <;> simp only [Bool.false_eq_true] at s2
    next x p =>
    refine ⟨x, p, rfl, ?_, ?_⟩
    · unfold Env.kindOf
      rw [hsc]
      unfold loclB at s2
      split at s2
      · next q => exact q
      · cases s2
    · have : ∀ {l : Nat} {es : List Expr}, sameLine l es = true → ∀ {x p}, Expr.Name x p ∈ es → (p.line == l) = true := by
        intro l es
        induction es with
        | nil => intro _ _ _ m; cases m
        | cons e r ih =>
          intro h x p m
          cases e <;> simp only [sameLine, Bool.false_eq_true, Bool.and_eq_true] at h
          rcases List.mem_cons.mp m with z | z
          · cases z; exact h.1
          · exact ih h.2 z
      exact this c m
  have hl : (ts.head?.map (·.pos.line)).getD 0 = lineOf ts := by
    cases ts with
    | nil => rfl
    | cons e r =>
      obtain ⟨x, p, q, _⟩ := hm e List.mem_cons_self
      subst q; rfl
  have key : ∀ (f : Expr → Option Str) (l : List Expr), (∀ e ∈ l, e ∈ ts) → (∀ x p, X.env.kindOf x = some .local → (p.line == lineOf ts) = true → f (.Name x p) = some x) → l.filterMap f = l.filterMap (fun t => match t with | .Name x _ => some x | _ => none) := by
    intro f l
    induction l with
    | nil => intro _ _; rfl
    | cons e r ih =>
      intro hh hf
      obtain ⟨x, p, q, e1, e2⟩ := hm e (hh e List.mem_cons_self)
      subst q
      rw [List.filterMap_cons, List.filterMap_cons, ih (fun e m => hh e (List.mem_cons_of_mem _ m)) hf, hf x p e1 e2]
  have hlen : names.length = ts.length := by
    rw [← hn]
    have : ∀ (l : List Expr), (∀ e ∈ l, e ∈ ts) → (l.filterMap (fun t => match t with | .Name x _ => some x | _ => none)).length = l.length := by
      intro l
      induction l with
      | nil => intro _; rfl
      | cons e r ih =>
        intro hh
        obtain ⟨x, p, q, e1, e2⟩ := hm e (hh e List.mem_cons_self)
        subst q
        simp only [List.filterMap_cons, List.length_cons, ih fun e m => hh e (List.mem_cons_of_mem _ m)]
    exact this ts fun _ m => m
  have n1 : (!(ts.length == 2 || ts.length == 3) || vs.length != ts.length || X.env.blockKind != .function) = false := by
    rw [a, kind_fn g]
    simp [b]
  have n2 : (vs.any fun e => match e with | .Starred .. => true | _ => false) = false := by
    rw [List.any_eq_false]
    intro e m
    have := hs e m
    cases e <;> first | (exact absurd rfl (this _ _)) | simp
  unfold swappedStores
  dsimp only
  rw [if_neg (by rw [n1]; simp)]
  rw [if_neg (show ¬ (_ = true) from by rw [Bool.not_eq_true]; exact n2)]
  simp only [hl]
  rw [key _ ts (fun _ m => m) (fun x p e1 e2 => by simp only [e1, e2, beq_self_eq_true, Bool.and_self, if_pos]), hn]
  rw [if_neg (by simp [hlen, hd]), if_neg (by rw [h2]; simp), if_neg (by rw [h3]; simp)]
end
end Cl
/-! Statements: the checker's word is right, all together. -/
namespace Cl
open PySem PySem.Spec PyProof.Rows L2
/-- a def's own frame -/
structure Top (X : Cx) (sc : Scope) : Prop where
  hsc : X.env.scope = sc
  hp : PassesOwn (model X.prog X.w) X.A X.env X.xe
  hs : X.stack = X.env :: X.outer
  hf : X.env.frame = some X.env.locals
section
variable (Cs : List D) (k : Nat)
structure SndS (F : Ck → I → Cf) (ir : S) : Prop where
  s : ∀ {C G X W sc}, Gd C G Cs k X W sc → Top X sc → ∀ {st}, chkS F C ir sc st = true → CS X W st (semS G Cs ir)
  b : ∀ {C G X W sc}, Gd C G Cs k X W sc → Top X sc → ∀ {st}, chkB F C ir sc st = true → CB X W st (semS G Cs ir)
end
section
variable {C : Ck} {G : Gt} {Cs : List D} {k : Nat} {X : Cx} {W : WX} {sc : Scope}
theorem CS.as {st : Stmt} {m m' : Env → Hc → Out} (h : CS X W st m) (e : m = m') : CS X W st m' := e ▸ h
theorem CB.as {st : List Stmt} {m m' : Env → Hc → Out} (h : CB X W st m) (e : m = m') : CB X W st m' := e ▸ h
theorem sole_name {y : Str} {py : Pos} {v : Expr} (env : PySem.Env) : swappedStores [.Name y py] v env = pure none := by
  cases v <;> rfl
theorem sole_tup {ts : List Expr} {kt : Nat} {p : Pos} {v : Expr} (h : isTup v = false) (env : PySem.Env) : swappedStores [.Tuple ts kt p] v env = pure none := by
  cases v <;> first | (simp [isTup] at h; done) | rfl
theorem Post.ex {α : Type} {K : PySem.W.Frag} {T : Tk} {H : Hp} {okP : α → Tk → Hp → Prop} {exP : XK} {r : Res α} (h : Post K T H okP (fun _ _ _ => False) r) : Post K T H okP exP r := by
  cases r with
  | ok a hc => exact h
  | exc c fs hc => exact fun T' H' dd e w x => (h T' H' dd e w x).elim
  | bad => exact h
theorem Post.of_calm {α : Type} {K : PySem.W.Frag} {T : Tk} {H : Hp} {okP : α → Tk → Hp → Prop} {exP : XK} {m : M α} {hc : Hc} (h : Post K T H okP exP (calmly m hc)) : Post K T H okP (fun _ _ _ => False) (m hc) := by
  unfold calmly at h
  cases q : m hc with
  | ok a hc' => rw [q] at h; exact h
  | exc c fs hc' => rw [q] at h; exact h.elim
  | bad => rw [q] at h; exact h
theorem storeM_eq (l i d : Cl.D) : storeM l i d = (match l, i with
      | .ref r, .int k => bnd (lstAt r) fun xs => bnd (optM (ixN xs.length k)) fun j => putAt r (.lst (xs.set j d))
      | _, _ => stuck) := by
  cases l <;> cases i <;> rfl
/-- places and names, set one after another -/
theorem pgs_ats {F : Ck → I → Cf} (hF : ∀ C ir, Imp (F C ir) C ir) (g : Gd C G Cs k X W sc) : ∀ {ts : List At} {es : List Expr}, chkAts C (F C) sc ts es = true →
    (∀ e ∈ es, isStar e = false) ∧ es.length = ts.length ∧ ∃ u, PGs X es u ∧ ∀ T hc H env σ xs vs (Q : L2.St → Hp → Prop), Wd X.K T hc H → EnvR X.K T H env σ → RepL X.K T H xs vs →
      Post X.K T H (fun env' T' H' => ∀ σ', EnvR X.K T' H' env' σ' → Q σ' H') (fun _ _ _ => False) (setAts G Cs ts xs env hc) → u vs σ H Q
  | [], [], _ => ⟨fun _ h => (by cases h), rfl, _, pgs_nil, fun T hc H env σ xs vs Q w er r p => by
    cases xs with
    | nil =>
      simp only [RepL] at r
      exact ⟨r, p.of_pur w σ er⟩
    | cons x xs => exact p.elim⟩
  | .tg (.nm i) :: ts, e :: es, h => by
    cases e with
    | Name x p =>
      simp only [chkAts, Bool.and_eq_true, decide_eq_true_eq] at h
      obtain ⟨⟨h1, h2⟩, h4⟩ := h
      obtain ⟨st, l, t, pt, rt⟩ := pgs_ats hF g h4
      refine ⟨fun e he => ?_, by rw [List.length_cons, List.length_cons, l], _, pgs_cons (pg_name (i := i) g.nd (by rw [g.N]; exact h1) (g.lo h2) (g.loc x h2)) pt (eachCons rfl), fun T hc H env σ xs vs Q w er r q => ?_⟩
      · rcases List.mem_cons.mp he with z | z
        · rw [z]; rfl
        · exact st e z
      · cases xs with
        | nil => exact q.elim
        | cons x xs =>
          simp only [RepL] at r
          obtain ⟨v, r', ev, ra, rb⟩ := r
          exact ⟨v, r', ev, rt T hc H _ _ xs r' Q w (er.set ra) rb q⟩
    | _ => simp [chkAts] at h
  | .sub a i :: ts, e :: es, h => by
    cases e with
    | Subscript o x p =>
      simp only [chkAts, Bool.and_eq_true] at h
      obtain ⟨⟨⟨hsl, h1⟩, h2⟩, h4⟩ := h
      obtain ⟨st, l, t, pt, rt⟩ := pgs_ats hF g h4
      obtain ⟨to, po, _, ro⟩ := (sndI a).e g ((hF _ _).e _ _ h1)
      obtain ⟨ti, pi, _, ri⟩ := (sndI i).e g ((hF _ _).e _ _ h2)
      refine ⟨fun e he => ?_, by rw [List.length_cons, List.length_cons, l], _, pgs_cons (pg_sub po pi set_list (by intro v; cases x <;> first | rfl | (simp [notSlice] at hsl))) pt (eachCons rfl), fun T hc H env σ xs vs Q w er r q => ?_⟩
      · rcases List.mem_cons.mp he with z | z
        · rw [z]; rfl
        · exact st e z
      · cases xs with
        | nil => exact q.elim
        | cons x xs =>
          simp only [RepL] at r
          obtain ⟨v, r', ev, rx, rb⟩ := r
          refine ⟨v, r', ev, ?_⟩
          have q' : Post X.K T H (fun env' T' H' => ∀ σ', EnvR X.K T' H' env' σ' → Q σ' H') (WE W σ) (bnd (semE G Cs a env) (fun l => bnd (semE G Cs i env) fun k => bnd (storeM l k x) fun _ => setAts G Cs ts xs env) hc) := Post.ex q
          have qf : Post X.K T H (fun env' T' H' => ∀ σ', EnvR X.K T' H' env' σ' → Q σ' H') (fun _ _ _ => False) (bnd (semE G Cs a env) (fun l => bnd (semE G Cs i env) fun k => bnd (storeM l k x) fun _ => setAts G Cs ts xs env) hc) := q
          refine ro T hc H env σ _ w er (Post.ex (Post.imp (Post.bind qf) fun d T1 H1 e1 p u ru => ?_))
          obtain ⟨hc1, _, w1, p1⟩ := p
          refine ri T1 hc1 H1 env σ _ w1 (er.ext w e1) (Post.ex (Post.imp (Post.bind p1) fun d2 T2 H2 e2 p u2 ru2 => ?_))
          obtain ⟨hc2, _, w2, p2⟩ := p
          have rx2 := Rep.ext w1 e2 _ _ (Rep.ext w e1 _ _ rx)
          have p3 := Post.bind p2
          rw [storeM_eq] at p3
          refine post_store w2 (Rep.ext w1 e2 _ _ ru) ru2 rx2 p3 fun hc' H' e3 w3' p => ?_
          obtain ⟨hc3, _, w3, p4⟩ := p
          exact rt T2 hc3 H' env σ xs r' Q w3 (((er.ext w e1).ext w1 e2).ext w2 e3) (RepL.ext w2 e3 _ _ (RepL.ext w1 e2 _ _ (RepL.ext w e1 _ _ rb))) p4
    | _ => simp [chkAts] at h
  | [], _ :: _, h => by simp [chkAts] at h
  | .tg (.nm _) :: _, [], h => by simp [chkAts] at h
  | .sub _ _ :: _, [], h => by simp [chkAts] at h
  | .tg (.tp _) :: _, _, h => by simp [chkAts] at h
theorem setAts_len : ∀ {ts : List At} {xs : List Cl.D} {env env' : Cl.Env} {hc hc' : Hc}, setAts G Cs ts xs env hc = .ok env' hc' → xs.length = ts.length
  | [], [], _, _, _, _, _ => rfl
  | [], _ :: _, _, _, _, _, h => by simp [setAts, stuck] at h
  | .tg (.nm i) :: ts, [], _, _, _, _, h => by simp [setAts, stuck] at h
  | .tg (.nm i) :: ts, x :: xs, env, _, _, _, h => by
    rw [List.length_cons, List.length_cons, setAts_len (ts := ts) (xs := xs) h]
  | .tg (.tp is) :: ts, [], _, _, _, _, h => by simp [setAts, stuck] at h
  | .tg (.tp is) :: ts, x :: xs, _, _, _, _, h => by simp [setAts, stuck] at h
  | .sub a i :: ts, [], _, _, _, _, h => by simp [setAts, stuck] at h
  | .sub a i :: ts, x :: xs, env, _, hc, _, h => by
    have h : bnd (semE G Cs a env) (fun l => bnd (semE G Cs i env) fun k => bnd (storeM l k x) fun _ => setAts G Cs ts xs env) hc = _ := h
    unfold bnd at h
    split at h
    · try dsimp only at h
      split at h
      · try dsimp only at h
        split at h
        · rw [List.length_cons, List.length_cons, setAts_len h]
        · cases h
        · cases h
      · cases h
      · cases h
    · cases h
    · cases h
theorem cs_asgs {F : Ck → I → Cf} (hF : ∀ C ir, Imp (F C ir) C ir) (g : Gd C G Cs k X W sc) (hcm : C.cm = true) {ts : List At} {es : List Expr} {kt : Nat} {tp : Pos} {a : Expr} {ma : Env → M Cl.D} (hw : swappedStores [.Tuple es kt tp] a X.env = pure none) (ht : chkAts C (F C) sc ts es = true) (ha : CE C X W sc a ma) :
    CS X W (.Assign [.Tuple es kt tp] a pos) (fun env h => exS (ma env) env h fun d h => match d with
      | .tup xs => exS (calmly (setAts G Cs ts xs env)) env h fun e h => .nx e h
      | _ => .bad) := by
  obtain ⟨ta, pa, _, ra⟩ := ha
  obtain ⟨st, l, u, pu, ru⟩ := pgs_ats hF g ht
  obtain ⟨n1, n2⟩ := eachNames (env := X.env) st
  refine ⟨_, ps_asg pa (pg_tup (g.calm hcm) pu n1 n2) (noSwapTup _ _ _ _ _ _) hw rfl, fun T hc H env σ D w er h => ?_⟩
  refine ra T hc H env σ _ w er (Post.imp (OPost.exS w er h) fun d T' H' e p v r => ?_)
  obtain ⟨hc', _, w', p⟩ := p
  cases d <;> (try exact p.elim)
  next xs =>
  simp only [Rep] at r
  obtain ⟨q, vs, ev, s, ll, rr⟩ := r
  have p2 := Post.of_calm (OPost.exS w' (er.ext w e) p)
  have hl : vs.length = es.length := by
    have this : xs.length = ts.length := by
      have p' : OPost X.K T' H' D W (exS (calmly (setAts G Cs ts xs env)) env hc' fun e h => .nx e h) := p
      cases q : setAts G Cs ts xs env hc' with
      | ok e h => exact setAts_len q
      | exc c fs h =>
        have z : exS (calmly (setAts G Cs ts xs env)) env hc' (fun e h => Out.nx e h) = .bad := by simp only [Cl.exS, calmly, q]
        rw [z] at p'; exact p'.elim
      | bad =>
        have z : exS (calmly (setAts G Cs ts xs env)) env hc' (fun e h => Out.nx e h) = .bad := by simp only [Cl.exS, calmly, q]
        rw [z] at p'; exact p'.elim
    rw [rr.length, l, this]
  refine ⟨q, vs, ev, s, hl, ?_⟩
  refine ru T' hc' H' env σ xs vs _ w' (er.ext w e) rr (Post.imp p2 fun env' T2 H2 e2 p3 σ' er' => ?_)
  obtain ⟨hc2, _, w2, p4⟩ := p3
  exact p4 T2 H2 σ' (Ext.refl T2 H2) w2 er'
theorem sole_cell {y : Str} {py : Pos} {v : Expr} {l : Nat} (hsc : X.env.scope = sc) (h : loclB sc y = false) : swapsWithSole [.Name y py] v l X.env = pure false := by
  have hk : (X.env.kindOf y == some .local) = false := by
    unfold Env.kindOf
    rw [hsc]
    unfold loclB at h
    split at h
    · cases h
    · next q =>
      cases z : sc.names.lookup y with
      | none => rfl
      | some kd => cases kd <;> first | (exact absurd z q) | rfl
  simp only [swapsWithSole]
  unfold swapsWith
  cases v <;> first | rfl | (simp only [hk]; simp)
theorem eraseD2 {x y : Str} (h : x ≠ y) : ([x, y] : List Str).eraseDups.length = 2 := by
  have : (y == x) = false := by simpa using fun e => h e.symm
  simp [List.eraseDups, List.eraseDupsBy, List.eraseDupsBy.loop, this]
theorem eraseD3 {x y z : Str} (h : x ≠ y) (h1 : x ≠ z) (h2 : y ≠ z) : ([x, y, z] : List Str).eraseDups.length = 3 := by
  have e1 : (y == x) = false := by simpa using fun e => h e.symm
  have e2 : (z == x) = false := by simpa using fun e => h1 e.symm
  have e3 : (z == y) = false := by simpa using fun e => h2 e.symm
  simp [List.eraseDups, List.eraseDupsBy, List.eraseDupsBy.loop, e1, e2, e3]
theorem nd_ne {N : List Str} (nd : N.Nodup) {i j : Nat} {x y : Str} (hi : N[i]? = some x) (hj : N[j]? = some y) (h : i ≠ j) : x ≠ y := by
  intro e
  subst e
  have hl : i < N.length := by
    rcases Nat.lt_or_ge i N.length with z | z
    · exact z
    · rw [List.getElem?_eq_none_iff.mpr z] at hi; cases hi
  exact h ((List.getElem?_inj hl nd).mp (hi.trans hj.symm))
theorem len_two {α : Type} {l : List α} (h : l.length = 2) : ∃ a b, l = [a, b] := by
  match l, h with
  | [a, b], _ => exact ⟨a, b, rfl⟩
theorem len_three {α : Type} {l : List α} (h : l.length = 3) : ∃ a b c, l = [a, b, c] := by
  match l, h with
  | [a, b, c], _ => exact ⟨a, b, c, rfl⟩
theorem namesB1 {is : List Nat} {t : Expr} {ts : List Expr} (h : namesB C sc is (t :: ts) = true) : ∃ i is' x p, is = i :: is' ∧ t = .Name x p ∧ C.N[i]? = some x ∧ loclB sc x = true ∧ namesB C sc is' ts = true := by
  cases is with
  | nil => cases t <;> simp [namesB] at h
  | cons i is' =>
    cases t <;> simp only [namesB, Bool.false_eq_true, Bool.and_eq_true, decide_eq_true_eq] at h
    exact ⟨i, is', _, _, rfl, rfl, h.1.1, h.1.2, h.2⟩
theorem namesB0 {is : List Nat} (h : namesB C sc is [] = true) : is = [] := by
  cases is with
  | nil => rfl
  | cons i is' => simp [namesB] at h
theorem namesB2 {is : List Nat} {ts : List Expr} (h : namesB C sc is ts = true) (l : ts.length = 2) : ∃ i j x y px py, is = [i, j] ∧ ts = [.Name x px, .Name y py] ∧ C.N[i]? = some x ∧ loclB sc x = true ∧ C.N[j]? = some y ∧ loclB sc y = true := by
  obtain ⟨a, b, e⟩ := len_two l
  subst e
  obtain ⟨i, is1, x, px, e1, e2, n1, n2, h1⟩ := namesB1 h
  obtain ⟨j, is2, y, py, e3, e4, m1, m2, h2⟩ := namesB1 h1
  have e5 := namesB0 h2
  subst e5; subst e3; subst e1; subst e2; subst e4
  exact ⟨i, j, x, y, px, py, rfl, rfl, n1, n2, m1, m2⟩
theorem namesB3 {is : List Nat} {ts : List Expr} (h : namesB C sc is ts = true) (l : ts.length = 3) : ∃ i j k x y z px py pz, is = [i, j, k] ∧ ts = [.Name x px, .Name y py, .Name z pz] ∧ C.N[i]? = some x ∧ loclB sc x = true ∧ C.N[j]? = some y ∧ loclB sc y = true ∧ C.N[k]? = some z ∧ loclB sc z = true := by
  obtain ⟨a, b, c, e⟩ := len_three l
  subst e
  obtain ⟨i, is1, x, px, e1, e2, n1, n2, h1⟩ := namesB1 h
  obtain ⟨j, is2, y, py, e3, e4, m1, m2, h2⟩ := namesB1 h1
  obtain ⟨q, is3, z, pz, e5, e6, o1, o2, h3⟩ := namesB1 h2
  have e7 := namesB0 h3
  subst e7; subst e5; subst e3; subst e1; subst e2; subst e4; subst e6
  exact ⟨i, j, q, x, y, z, px, py, pz, rfl, rfl, n1, n2, m1, m2, o1, o2⟩
theorem Top.tr (t : Top X sc) {pn : List (Addr × Obj)} {xe : Value → Shared → Prop} (po : PassesOwn (model X.prog X.w) X.A X.env xe) : Top (X.tr pn xe) sc := ⟨t.hsc, po, t.hs, t.hf⟩
theorem Top.suite (t : Top X sc) {a : Addr} {pn : List (Addr × Obj)} : Top (X.suite a pn) sc := ⟨t.hsc, PassesOwn.never, t.hs, t.hf⟩
theorem Gd.tr (g : Gd C G Cs k X W sc) (hcm : C.cm = true) {W' : WX} {pn : List (Addr × Obj)} {xe : Value → Shared → Prop} (tk : Takes (X.tr pn xe) W') : Gd C G Cs k (X.tr pn xe) W' sc where
  N := g.N
  nd := g.nd
  calm := g.calm
  tk := tk
  rm := g.rm
  scr := g.scr
  loc := g.loc
  nb := g.nb
  fs := g.fs
  cf := g.cf
  xn := g.xn
  xa := fun a j i n cls b z q e hf => by rw [g.xn hcm] at z; cases z
/-- isinstance of the suite's exception, a tuple of classes asked for -/
def rIsET (K : PySem.W.Frag) (D a : Addr) (b : Bool) : List V → Hp → VK → Prop := fun xs H Q => ∃ (tp : Addr) (cs : List Addr), xs = [.ref a, .ref tp] ∧ H tp = some (.tup (cs.map V.ref)) ∧ PySem.W.kitAny K (.ref D) (cs.map Value.ref) = some b ∧ Q (.bl b) H
theorem pair_own : ∀ cs : List Addr, Paired ClsV (cs.map V.ref) (cs.map Value.ref)
  | [] => .nil
  | t :: ts => .cons (.own t) (pair_own ts)
theorem call_isET {X : Cx} {a D : Addr} {b : Bool} {oe : Obj} {pn : List (Addr × Obj)} (C : ExcC X.K D) (hz : Zc (.ref D) none oe) (hf : ∃ vs, oe.data = .fields vs) : CallR (X.suite a ((a, oe) :: pn)) (.builtin "isinstance") (rIsET X.K D a b) := by
  intro pins s σ H xs us Q I r h
  obtain ⟨tp, cs, rfl, hT, e, q⟩ := h
  obtain ⟨u1, u2, rfl, r1, r2⟩ := vals2 r
  cases (show u2 = Value.ref tp from r2)
  cases (show u1 = Value.ref a from r1)
  obtain ⟨hget, _⟩ := I.pin (a, oe) (List.mem_append.mpr (.inl List.mem_cons_self))
  obtain ⟨vs, hv⟩ := hf
  have J : PySem.W.InstAt s.heap a oe D none := by
    obtain ⟨oc, od, oda, osl⟩ := oe
    obtain ⟨h1, h2⟩ := hz
    dsimp only at h1 h2 hv
    subst h1 h2 hv
    exact ⟨hget, rfl, rfl, trivial⟩
  obtain ⟨_, its, rv, o, h1, h2, n, h3⟩ := (show ObjOk X.prog X.w H s.heap tp (.tup (cs.map V.ref)) from I.hok tp _ hT)
  have e3 := ClsV.all (pair_own cs) rv
  subst e3
  obtain ⟨oc, od, dt, sl⟩ := o
  simp only at h2 h3
  subst h2 h3
  exact PySem.W.kia_tup (PySem.W.handS_kitx_exc C.hg C.hk C.hs C.hd C.ha C.hn C.ht C.hm) I.kIn J h1 e (fun z => nomatch z) fun tk => ⟨.bl b, H, I.tok tk, rfl, q⟩
/-- the names of classes, one by one -/
theorem pa_cls (g : Gd C G Cs k X W sc) {a : Addr} {pn : List (Addr × Obj)} : ∀ {ks : List Nat} {cs : List Addr} {es : List Expr}, obsD Cs ks = some cs → nms (ks.map fun k => C.gs.getD k "") es sc = true → PA (X.suite a pn) es (fun σ H Q => Q (cs.map V.ref) H) ∧ es.length = cs.length
  | [], cs, es, h, hn => by
    simp only [obsD, Option.some.injEq] at h
    subst h
    cases es with
    | nil => exact ⟨pa_nil, rfl⟩
    | cons e es => simp [nms] at hn
  | j :: ks, cs, es, h, hn => by
    simp only [obsD] at h
    split at h
    · next b as q1 q2 =>
      cases h
      cases es with
      | nil => simp [nms] at hn
      | cons e es =>
        cases e with
        | Name x p =>
          simp only [List.map_cons, nms, Bool.and_eq_true, beq_iff_eq] at hn
          obtain ⟨⟨⟨n1, n2⟩, n3⟩, n4⟩ := hn
          obtain ⟨y, hy, v, u, hm, r, hR⟩ := g.gc j _ q1
          have hv2 := hR ⟨[], [], fun _ => False⟩ (fun _ => none)
          simp only [Rep] at hv2
          subst hv2
          have ey : y = x := by
            rw [n1, List.getD_eq_getElem?_getD, hy]; rfl
          subst ey
          obtain ⟨p1, p2⟩ := pa_cls g q2 n4
          have hgl : Gl (X.suite a pn) y := g.gl n2
          exact ⟨pa_cons (pe_glob (X := X.suite a pn) hgl hm r (okName_d n3).1) p1 (star1 rfl), by simp [p2]⟩
        | _ => simp [nms] at hn
    · cases h
theorem pe_isx (g : Gd C G Cs k X W sc) {i : Nat} {m : Str} {a c : Addr} {b : Bool} {ks : List Nat} {cs : List Addr} {oe : Obj} {pn : List (Addr × Obj)} {es : List Expr} {p p2 p3 pos : Pos} {k1 : Nat} (ho : obsD Cs ks = some cs) (ec : ExcC X.K c)
    (kt : PySem.W.kitAny X.K (.ref c) (cs.map Value.ref) = some b) (hz : Zc (.ref c) none oe) (hf : ∃ vs, oe.data = .fields vs) (hi : C.N[i]? = some m) (h2 : glB sc ("isinstance" : Str) = true) (h4 : visB sc m = true) (h5 : okName m = true)
    (h6 : nms (ks.map fun k => C.gs.getD k "") es sc = true) (h7 : 2 ≤ es.length ∧ es.length ≤ 100) :
    PE (X.suite a ((a, oe) :: pn)) (.Call (.Name ("isinstance" : Str) p) [.Name m p2, .Tuple es k1 p3] [] pos) (tIsx i a b) := by
  obtain ⟨p1, p2'⟩ := pa_cls (a := a) (pn := (a, oe) :: pn) g ho h6
  have hgl : Gl (X.suite a ((a, oe) :: pn)) ("isinstance" : Str) := g.gl h2
  have hNN := hi
  rw [← g.N] at hNN
  have pe : PE (X.suite a ((a, oe) :: pn)) (.Call (.Name ("isinstance" : Str) p) [.Name m p2, .Tuple es k1 p3] [] pos) _ :=
    pe_callB (X := X.suite a ((a, oe) :: pn)) (call_isET (b := b) ec hz hf) hgl (g.nb _ (by decide +kernel)) boot_isinstance (pa_cons (pe_var (X := X.suite a ((a, oe) :: pn)) hNN (g.vis h4) (okName_d h5).1 (okName_d h5).2) (pa_cons (pe_tup p1) pa_nil (star1 rfl)) (star1 rfl)) (by decide +kernel) (by decide +kernel) (star1 rfl) (starAll (by intro y hy; rw [List.mem_singleton] at hy; subst hy; rfl))
  refine ⟨fun pins s σ H Q I h => pe.run pins s σ H Q I ?_⟩
  obtain ⟨k1, k2⟩ := h
  refine ⟨_, k1, ?_, fun p hp => ⟨p, cs, rfl, upd_same, kt, k2 p _ hp⟩⟩
  rw [List.length_map, ← p2']
  have : (100 : Nat) ≤ sizeLine := by decide +kernel
  omega
theorem Gd.suite (g : Gd C G Cs k X W sc) (hcm : C.cm = true) {j i : Nat} {n : Str} {a c : Addr} {oe : Obj} {pn : List (Addr × Obj)} (q : Cs[j]? = some (.ob c)) (hz : Zc (.ref c) none oe) (hf : ∃ vs, oe.data = .fields vs) (hi : C.N[i]? = some n) (hl : loclB sc n = true) :
    Gd (C.suite j i n) { G with xa := some a } Cs k (X.suite a ((a, oe) :: pn)) W0 sc where
  N := g.N
  nd := g.nd
  calm := fun h => by cases h
  tk := L2.takes0
  rm := fun h => by cases h
  scr := g.scr
  loc := g.loc
  nb := g.nb
  fs := g.fs
  cf := ⟨g.cf.gc, g.cf.rs, g.cf.hs, g.cf.xs⟩
  xn := fun h => by cases h
  xa := fun a' j' i' n' cls b z q' e hq => by
    have ea : a = a' := Option.some.inj z
    subst ea
    unfold Ck.suite at q'
    have hm := List.mem_of_getElem? q'
    obtain ⟨t, ht, et⟩ := List.mem_map.mp hm
    rw [List.mem_filter] at ht
    obtain ⟨t1, t2⟩ := ht
    obtain ⟨j0, ks, b0⟩ := t
    have ej : j0 = j := by simpa using t2
    subst ej
    simp only [Prod.mk.injEq] at et
    obtain ⟨e1, e2, e3, e4⟩ := et
    subst e1; subst e2; subst e3; subst e4
    obtain ⟨cs, ho, ec, kt⟩ := g.cf.xs _ _ _ t1 c q
    cases e with
    | Call fn args kws pos =>
      cases fn <;> (try simp only [xqForm, Bool.false_eq_true] at hq)
      rcases args with _ | ⟨a1, _ | ⟨a2, _ | ⟨a3, args⟩⟩⟩ <;> (try simp only [xqForm, Bool.false_eq_true] at hq)
      cases a1 <;> (try simp only [xqForm, Bool.false_eq_true] at hq)
      cases a2 <;> (try simp only [xqForm, Bool.false_eq_true] at hq)
      cases kws <;> (try simp only [xqForm, Bool.false_eq_true, Bool.and_eq_true, decide_eq_true_eq] at hq)
      obtain ⟨⟨⟨⟨⟨⟨h1, h2⟩, h3⟩, h4⟩, h5⟩, h6⟩, h7⟩ := hq
      subst h1; subst h3
      exact pe_isx g ho ec kt hz hf hi h2 h4 h5 h6 h7
    | _ => simp [xqForm] at hq
theorem sndS {F : Ck → I → Cf} (hF : ∀ C ir, Imp (F C ir) C ir) (s : S) : SndS Cs k F s := by
  induction s with
  | nop =>
    refine ⟨@fun C G X W sc g tp st h => ?_, @fun C G X W sc g tp st h => ?_⟩
    · cases st <;> simp only [chkS, Bool.false_eq_true] at h
      exact cs_nop.as (by funext e h; simp only [semS] <;> rfl)
    · cases st <;> simp only [chkB, Bool.false_eq_true] at h
      exact cb_nil.as (by funext e h; simp only [semS] <;> rfl)
  | doc =>
    refine ⟨@fun C G X W sc g tp st h => ?_, @fun C G X W sc g tp st h => by cases st <;> simp [chkB] at h⟩
    unfold chkS at h
    split at h <;> try contradiction
    all_goals first | exact cs_doc.as (by funext e h; simp only [semS] <;> rfl) | skip
  | brk =>
    refine ⟨@fun C G X W sc g tp st h => ?_, @fun C G X W sc g tp st h => by cases st <;> simp [chkB] at h⟩
    cases st <;> simp only [chkS, Bool.false_eq_true] at h
    exact cs_brk.as (by funext e h; simp only [semS] <;> rfl)
  | cnt =>
    refine ⟨@fun C G X W sc g tp st h => ?_, @fun C G X W sc g tp st h => by cases st <;> simp [chkB] at h⟩
    cases st <;> simp only [chkS, Bool.false_eq_true] at h
    exact cs_cnt.as (by funext e h; simp only [semS] <;> rfl)
  | never =>
    refine ⟨@fun C G X W sc g tp st h => ?_, @fun C G X W sc g tp st h => ?_⟩
    · exact cs_never.as (by funext e h; simp only [semS] <;> rfl)
    · exact cb_never.as (by funext e h; simp only [semS] <;> rfl)
  | retN =>
    refine ⟨@fun C G X W sc g tp st h => ?_, @fun C G X W sc g tp st h => by cases st <;> simp [chkB] at h⟩
    unfold chkS at h
    split at h <;> try contradiction
    all_goals first | exact cs_retN.as (by funext e h; simp only [semS] <;> rfl) | skip
  | seq a b ha hb =>
    refine ⟨@fun C G X W sc g tp st h => by cases st <;> simp [chkS] at h, @fun C G X W sc g tp st h => ?_⟩
    cases st <;> simp only [chkB, Bool.false_eq_true, Bool.and_eq_true] at h
    exact (cb_cons (ha.s g tp h.1) (hb.b g tp h.2)).as (by funext e h; simp only [semS] <;> rfl)
  | ite t a b ha hb =>
    refine ⟨@fun C G X W sc g tp st h => ?_, @fun C G X W sc g tp st h => by cases st <;> simp [chkB] at h⟩
    cases st <;> simp only [chkS, Bool.false_eq_true, Bool.and_eq_true] at h
    exact (cs_ite ((sndI t).t g ((hF _ _).e _ _ h.1.1)) (ha.b g tp h.1.2) (hb.b g tp h.2)).as (by funext e h; simp only [semS] <;> rfl)
  | ret e =>
    refine ⟨@fun C G X W sc g tp st h => ?_, @fun C G X W sc g tp st h => by cases st <;> simp [chkB] at h⟩
    unfold chkS at h
    split at h <;> try contradiction
    all_goals (have hq := ‹S.ret e = _›; cases hq)
    all_goals first | exact (cs_ret ((sndI _).e g ((hF _ _).e _ _ h))).as (by funext e h; simp only [semS] <;> rfl) | skip
  | ex e =>
    refine ⟨@fun C G X W sc g tp st h => ?_, @fun C G X W sc g tp st h => by cases st <;> simp [chkB] at h⟩
    unfold chkS at h
    split at h <;> try contradiction
    all_goals (have hq := ‹S.ex e = _›; cases hq)
    all_goals simp only [Bool.and_eq_true, Bool.not_eq_true'] at h
    · obtain ⟨⟨⟨⟨⟨h0, h1⟩, h2⟩, h3⟩, h4⟩, h5⟩ := h
      exact (cs_dput (p2 := ‹Pos›) g h0 h2 h1 ((sndI _).e g ((hF _ _).e _ _ h3)) ((sndI _).e g ((hF _ _).e _ _ h4)) ((sndI _).e g ((hF _ _).e _ _ h5))).as (by funext e h; simp only [semS, semE] <;> rfl)
    · exact (cs_ex h.1 ((sndI _).e g ((hF _ _).e _ _ h.2))).as (by funext e h; simp only [semS] <;> rfl)
  | aug i o e =>
    refine ⟨@fun C G X W sc g tp st h => ?_, @fun C G X W sc g tp st h => by cases st <;> simp [chkB] at h⟩
    unfold chkS at h
    split at h <;> try contradiction
    all_goals (have hq := ‹S.aug i o e = _›; cases hq)
    all_goals
      simp only [Bool.and_eq_true, decide_eq_true_eq] at h
      obtain ⟨⟨⟨h1, h2⟩, h3⟩, h4⟩ := h
      subst h3
      exact (cs_aug g h1 h2 ((sndI _).e g ((hF _ _).e _ _ h4))).as (by funext e h; simp only [semS] <;> rfl)
  | augS a i o e =>
    refine ⟨@fun C G X W sc g tp st h => ?_, @fun C G X W sc g tp st h => by cases st <;> simp [chkB] at h⟩
    unfold chkS at h
    split at h <;> try contradiction
    all_goals (have hq := ‹S.augS a i o e = _›; cases hq)
    all_goals
      simp only [Bool.and_eq_true, decide_eq_true_eq] at h
      obtain ⟨⟨⟨⟨h1, h2⟩, h3⟩, h4⟩, h5⟩ := h
      subst h2
      exact (cs_augS h1 ((sndI _).e g ((hF _ _).e _ _ h3)) ((sndI _).e g ((hF _ _).e _ _ h4)) ((sndI _).e g ((hF _ _).e _ _ h5))).as (by funext e h; simp only [semS] <;> rfl)
  | whl t b hb =>
    refine ⟨@fun C G X W sc g tp st h => ?_, @fun C G X W sc g tp st h => by cases st <;> simp [chkB] at h⟩
    unfold chkS at h
    split at h <;> try contradiction
    all_goals (have hq := ‹S.whl t b = _›; cases hq)
    all_goals
      simp only [Bool.and_eq_true, decide_eq_true_eq] at h
      exact (cs_whl tp.hp ((sndI _).t g ((hF _ _).e _ _ h.1)) (hb.b g tp h.2)).as (by funext e h; simp only [semS] <;> rfl)
  | «for» tg src b hb =>
    refine ⟨@fun C G X W sc g tp st h => ?_, @fun C G X W sc g tp st h => by cases st <;> simp [chkB] at h⟩
    unfold chkS at h
    split at h <;> try contradiction
    all_goals (have hq := ‹S.for tg src b = _›; cases hq)
    all_goals
      simp only [Bool.and_eq_true, decide_eq_true_eq] at h
      obtain ⟨⟨⟨⟨hcm, h1⟩, h2⟩, h3⟩, h4⟩ := h
      exact (cs_for g hcm tp.hp h2 ((sndI _).i g ((hF _ _).i _ _ _ h3)) (cg_tg g h1) (hb.b g tp h4)).as (by funext e h; simp only [semS] <;> rfl)
  | asg t e =>
    refine ⟨@fun C G X W sc g tp st h => ?_, @fun C G X W sc g tp st h => by cases st <;> simp [chkB] at h⟩
    cases t with
    | tg t =>
      cases t with
      | nm i =>
        unfold chkS at h
        split at h <;> try contradiction
        all_goals (have hq := ‹S.asg (.tg (.nm i)) e = _›; cases hq)
        all_goals
          simp only [Bool.and_eq_true, decide_eq_true_eq] at h
          obtain ⟨⟨⟨h1, h2⟩, h3⟩, h4⟩ := h
        next y py v p hq =>
        have he := (sndI e).e g ((hF _ _).e _ _ h4)
        have ht : CG _ _ (.nm i) (.Name y py) := cg_tg g (own := fun _ => true) (by simp only [chkTg, h1, h2, decide_true, Bool.and_self])
        by_cases hc : isComp v = true
        · rw [if_pos hc, Bool.or_eq_true] at h3
          rcases h3 with h3 | h3
          · exact (cs_own g (by rw [g.N]; exact h1) h3 he).as (by funext e h; simp only [semS] <;> rfl)
          · exact (cs_asg (sole_cell tp.hsc (by simpa using h3)) (sole_name _) rfl he ht).as (by funext e h; simp only [semS] <;> rfl)
        · exact (cs_asg (noSwap (by simpa using hc) _ _ _) (sole_name _) rfl he ht).as (by funext e h; simp only [semS] <;> rfl)
      | tp is =>
        unfold chkS at h
        split at h <;> try contradiction
        all_goals (have hq := ‹S.asg (.tg (.tp is)) e = _›; cases hq)
        all_goals
          simp only [Bool.and_eq_true, decide_eq_true_eq, Bool.not_eq_true'] at h
          obtain ⟨⟨h1, h3⟩, h4⟩ := h
        next ts kt tp v p hq =>
        refine (cs_asg (t := Expr.Tuple _ _ _) (noSwapTup _ _ _ _ _ _) ?_ rfl ((sndI e).e g ((hF _ _).e _ _ h4)) (cg_tg g h1)).as (by funext e h; simp only [semS] <;> rfl)
        cases q : isTup v with
        | false => exact sole_tup q _
        | true =>
          cases v <;> simp only [isTup, Bool.false_eq_true] at q
          exact sw_none tp.hsc h3
    | sub a i =>
      unfold chkS at h
      split at h <;> try contradiction
      all_goals (have hq := ‹S.asg (.sub a i) e = _›; cases hq)
      all_goals
        simp only [Bool.and_eq_true, decide_eq_true_eq] at h
        obtain ⟨⟨⟨h1, h2⟩, h3⟩, h4⟩ := h
        exact (cs_asgSub (p2 := ‹Pos›) h1 ((sndI _).e g ((hF _ _).e _ _ h2)) ((sndI _).e g ((hF _ _).e _ _ h3)) ((sndI _).e g ((hF _ _).e _ _ h4))).as (by funext e h; simp only [semS] <;> rfl)
  | asgs ts e =>
    refine ⟨@fun C G X W sc g tp st h => ?_, @fun C G X W sc g tp st h => by cases st <;> simp [chkB] at h⟩
    unfold chkS at h
    split at h <;> try contradiction
    all_goals (have hq := ‹S.asgs ts e = _›; cases hq)
    all_goals
      simp only [Bool.and_eq_true, decide_eq_true_eq] at h
      obtain ⟨⟨⟨hcm, h1⟩, h3⟩, h4⟩ := h
    next es kt tpp v p hq =>
    refine (cs_asgs hF g hcm ?_ h1 ((sndI e).e g ((hF _ _).e _ _ h4))).as (by funext e h; simp only [semS] <;> rfl)
    cases q : isTup v with
    | false => exact sole_tup q _
    | true =>
      cases v <;> simp only [isTup, Bool.false_eq_true] at q
      exact sw_none tp.hsc h3
  | rse j =>
    refine ⟨@fun C G X W sc g tp st h => ?_, @fun C G X W sc g tp st h => by cases st <;> simp [chkB] at h⟩
    unfold chkS at h
    split at h <;> try contradiction
    all_goals (have hq := ‹S.rse j = _›; cases hq)
    all_goals
      simp only [Bool.and_eq_true, decide_eq_true_eq] at h
      obtain ⟨⟨⟨⟨hcm, h1⟩, h2⟩, h3⟩, h4⟩ := h
      exact (cs_rse g hcm h1 h2 h3 h4).as (by funext e h; simp only [semS] <;> rfl)
  | tryX b j k i su hb hs =>
    refine ⟨@fun C G X W sc g tp st h => ?_, @fun C G X W sc g tp st h => by cases st <;> simp [chkB] at h⟩
    unfold chkS at h
    split at h <;> try contradiction
    all_goals (have hq := ‹S.tryX b j k i su = _›; cases hq)
    all_goals
      simp only [Bool.and_eq_true, decide_eq_true_eq] at h
      obtain ⟨⟨⟨⟨⟨⟨⟨⟨hcm, h1⟩, h2⟩, h3⟩, h4⟩, h5⟩, h6⟩, h7⟩, h8⟩ := h
      exact (cs_try g tp.hs tp.hf h1 h2 h3 h4 h5 h6 (fun W pn xe tk po => hb.b (g.tr hcm tk) (tp.tr po) h7) (fun a c oe pn q hz hf => hs.b (g.suite hcm q hz hf h5 h6) (tp.suite) h8)).as (by funext e h; simp only [semS] <;> rfl)
  | par is as =>
    refine ⟨@fun C G X W sc g tp st h => ?_, @fun C G X W sc g tp st h => by cases st <;> simp [chkB] at h⟩
    unfold chkS at h
    split at h <;> try contradiction
    all_goals (have hq := ‹S.par is as = _›; cases hq)
    all_goals
      simp only [Bool.and_eq_true, decide_eq_true_eq, Bool.not_eq_true'] at h
      obtain ⟨⟨⟨⟨⟨⟨hcm, h1⟩, h2⟩, h3⟩, h4⟩, h5⟩, h6⟩ := h
    next ts kt tp vs k2 tp2 p hq =>
    have hA := (sndI as).a g ((hF _ _).a _ _ h6)
    have st : ∀ e ∈ vs, ∀ a b, e ≠ .Starred a b := fun e m a b q => by have := chkA_star ((hF _ _).a _ _ h6) e m; rw [q] at this; exact absurd this (by simp [isStar])
    have hl := h2
    unfold swaps at hl
    rw [Bool.and_eq_true, Bool.and_eq_true, Bool.and_eq_true, beq_iff_eq, Bool.or_eq_true, beq_iff_eq, beq_iff_eq] at hl
    obtain ⟨⟨⟨l1, l2⟩, _⟩, _⟩ := hl
    have nd := g.nd
    rw [g.N] at nd
    rcases l1 with l1 | l1
    · obtain ⟨i, j, x, y, px, py, e1, e2, n1, n2, m1, m2⟩ := namesB2 h1 l1
      subst e1; subst e2
      obtain ⟨a, b, e3⟩ := len_two (l2.trans l1)
      subst e3
      have hij : i ≠ j := by simpa using h3
      exact (cs_par2 g hcm n1 m1 hij n2 m2 (sw_some g tp.hsc st h2 h4 h5 rfl (eraseD2 (nd_ne nd n1 m1 hij))) hA).as (by funext e h; simp only [semS] <;> rfl)
    · obtain ⟨i, j, l, x, y, z, px, py, pz, e1, e2, n1, n2, m1, m2, o1, o2⟩ := namesB3 h1 l1
      subst e1; subst e2
      obtain ⟨a, b, c, e3⟩ := len_three (l2.trans l1)
      subst e3
      have hij : (i ≠ j ∧ i ≠ l) ∧ j ≠ l := by simpa using h3
      exact (cs_par3 g hcm n1 m1 o1 hij.1.1 hij.1.2 hij.2 n2 m2 o2 (sw_some g tp.hsc st h2 h4 h5 rfl (eraseD3 (nd_ne nd n1 m1 hij.1.1) (nd_ne nd n1 o1 hij.1.2) (nd_ne nd m1 o1 hij.2))) hA).as (by funext e h; simp only [semS] <;> rfl)
end
end Cl
/-! The checker as the kernel runs it. -/
namespace Cl
open PySem PySem.Spec PyProof.Rows L2
def isNil : I → Bool
  | .nil => true
  | _ => false
def fP (f : Scope → Expr → Bool) : Cf := { e := f, n := fun _ _ => false, a := fun _ _ => false, i := fun sc _ it => f sc it, o := fun sc o => match o with
  | some x => f sc x
  | none => false }
def fN (f : Scope → Expr → Bool) : Cf := { fP f with n := f }
def fI (f : Scope → Expr → Expr → Bool) : Cf := { fP (fun _ _ => false) with i := f }
section
variable (C : Ck)
def chkAll : I → Cf
  | .var i => fP fun sc e => match e with
    | .Name x _ => decide (C.N[i]? = some x) && visB sc x && okName x
    | _ => false
  | .int n => fP fun _ e => match e with
    | .Constant (.int m) _ _ => decide (m = n)
    | _ => false
  | .str s => fP fun _ e => match e with
    | .Constant (.str x) _ _ => decide (x = Str.ofString s)
    | _ => false
  | .bl b => fP fun _ e => match e with
    | .Constant (.bool k) _ _ => decide (k = b)
    | _ => false
  | .non => fP fun _ e => match e with
    | .Constant .none _ _ => true
    | _ => false
  | .glb j => fP fun sc e => match e with
    | .Name x _ => decide (C.gs[j]? = some x) && glB sc x && okName x
    | _ => false
  | .isx i j b => fP fun sc e => match C.xq[j]? with
    | some (i', n, cls, b') => decide (i' = i) && decide (b' = b) && xqForm n cls sc e
    | none => false
  | .bin o a b => let A := chkAll a; let B := chkAll b; fP fun sc e => match e with
    | .BinOp x o' y _ => decide (o' = o) && A.e sc x && B.e sc y
    | _ => false
  | .neg a => let A := chkAll a; fP fun sc e => match e with
    | .UnaryOp .USub x _ => A.e sc x
    | _ => false
  | .not a => let A := chkAll a; fP fun sc e => match e with
    | .UnaryOp .Not x _ => A.e sc x
    | _ => false
  | .cmp o a b => let A := chkAll a; let B := chkAll b; fP fun sc e => match e with
    | .Compare x [o'] [y] _ => decide (o' = o) && (C.cm && notSet y) && A.e sc x && B.e sc y
    | _ => false
  | .chain o p a b c => let A := chkAll a; let B := chkAll b; let D := chkAll c; fP fun sc e => match e with
    | .Compare x [o', p'] [y, z] _ => decide (o' = o) && decide (p' = p) && (C.cm && notSet z) && A.e sc x && B.e sc y && D.e sc z
    | _ => false
  | .and a b => let A := chkAll a; let B := chkAll b; fP fun sc e => match e with
    | .BoolOp .And [x, y] _ => A.e sc x && B.e sc y
    | .BoolOp .And (x :: y :: z :: r) pos => A.e sc x && B.e sc (.BoolOp .And (y :: z :: r) pos)
    | _ => false
  | .or a b => let A := chkAll a; let B := chkAll b; fP fun sc e => match e with
    | .BoolOp .Or [x, y] _ => A.e sc x && B.e sc y
    | .BoolOp .Or (x :: y :: z :: r) pos => A.e sc x && B.e sc (.BoolOp .Or (y :: z :: r) pos)
    | _ => false
  | .ite t a b => let T := chkAll t; let A := chkAll a; let B := chkAll b; fP fun sc e => match e with
    | .IfExp c x y _ => T.e sc c && A.e sc x && B.e sc y
    | _ => false
  | .tup as => let A := chkAll as; fP fun sc e => match e with
    | .Tuple es _ _ => A.a sc es
    | _ => false
  | .idx a i => let A := chkAll a; let B := chkAll i; fP fun sc e => match e with
    | .Subscript x y _ => notSlice y && A.e sc x && B.e sc y
    | _ => false
  | .slc a lo hi => let A := chkAll a; let L := chkAll lo; let U := chkAll hi; fP fun sc e => match e with
    | .Subscript x (.Slice l u none _) _ => A.e sc x && L.o sc l && U.o sc u
    | _ => false
  | .call f as => let A := chkAll as; fP fun sc e => match e with
    | .Call (.Name x _) (e :: es) [] _ => (C.cm && decide (C.fs[f]? = some x)) && glB sc x && okName x && A.a sc (e :: es)
    | _ => false
  | .bi f as => let A := chkAll as; fP fun sc e => match e with
    | .Call (.Name x _) (e :: es) [] _ => C.cm && decide (x = biName f) && glB sc x && A.a sc (e :: es)
    | _ => false
  | .isa a ts => let A := chkAll a; fP fun sc e => match e with
    | .Call (.Name x _) [e, .Name y p] [] _ => decide (x = ("isinstance" : Str)) && glB sc x && A.e sc e && tysB ts [.Name y p] sc
    | .Call (.Name x _) [e, .Tuple es _ _] [] _ => decide (x = ("isinstance" : Str)) && glB sc x && A.e sc e && tysB ts es sc && decide (2 ≤ es.length ∧ ts.length ≤ 100)
    | _ => false
  | .trk a => let A := chkAll a; fP fun sc e => A.n sc e
  | .app a x => let A := chkAll a; let B := chkAll x; fP fun sc e => match e with
    | .Call (.Attribute o n ap) [e] [] cp => decide (n = ("append" : Str)) && notSuper o && (ap.endLine == cp.line) && A.e sc o && B.e sc e
    | _ => false
  | .popAt a x => let A := chkAll a; let B := chkAll x; fP fun sc e => match e with
    | .Call (.Attribute o n ap) [e] [] cp => decide (n = ("pop" : Str)) && notSuper o && (ap.endLine == cp.line) && A.e sc o && B.e sc e
    | _ => false
  | .pop a => let A := chkAll a; fP fun sc e => match e with
    | .Call (.Attribute o n ap) [] [] cp => decide (n = ("pop" : Str)) && notSuper o && (ap.endLine == cp.line) && A.e sc o
    | _ => false
  | .rev a => let A := chkAll a; fP fun sc e => match e with
    | .Subscript x (.Slice none none (some (.UnaryOp .USub (.Constant (.int m) _ _) _)) _) _ => decide (m = 1) && A.e sc x
    | _ => false
  | .ext a x => let A := chkAll a; let B := chkAll x; fP fun sc e => match e with
    | .Call (.Attribute o n ap) [e] [] cp => decide (n = ("extend" : Str)) && notSuper o && (ap.endLine == cp.line) && A.e sc o && B.e sc e
    | _ => false
  | .pr p a b c => let A := chkAll a; let B := chkAll b; let D := chkAll c; fP fun sc e => match p, e with
    | .dnew, .Dict [] [] _ => isNonI a && isNonI b && isNonI c
    | .ddisp, .Dict [some x] [y] _ => isNonI c && isVarI a && isVarI b && A.e sc x && B.e sc y
    | .dget, .Subscript x y _ => isNonI c && notSlice y && A.e sc x && B.e sc y
    | .din n, .Compare x [o] [y] _ => isNonI c && decide (o = if n then CmpOp.NotIn else CmpOp.In) && (C.cm && notSet y) && A.e sc x && B.e sc y
    | .dget1, .Call (.Attribute o n ap) [e] [] cp => isNonI c && C.cm && decide (n = ("get" : Str)) && notSuper o && (ap.endLine == cp.line) && A.e sc o && B.e sc e
    | .dget2, .Call (.Attribute o n ap) [e, f] [] cp => C.cm && decide (n = ("get" : Str)) && notSuper o && (ap.endLine == cp.line) && A.e sc o && B.e sc e && D.e sc f
    | .index, .Call (.Attribute o n ap) [e] [] cp => isNonI c && decide (n = ("index" : Str)) && notSuper o && (ap.endLine == cp.line) && A.e sc o && B.e sc e
    | .insert, .Call (.Attribute o n ap) [e, f] [] cp => decide (n = ("insert" : Str)) && notSuper o && (ap.endLine == cp.line) && A.e sc o && B.e sc e && D.e sc f
    | _, _ => false
  | .calv i js as => let A := chkAll as; fP fun sc e => match e with
    | .Call (.Name x _) (e :: es) [] _ => C.cm && decide (C.N[i]? = some x) && visB sc x && okName x && (js.all fun p => (C.gs[p.1]?).isSome && decide (C.gs[p.1]? = C.fs[p.2]?)) && A.a sc (e :: es)
    | _ => false
  | .lst as => let A := chkAll as; fN fun sc e => match e with
    | .List es _ => A.a sc es
    | _ => false
  | .comp own tg src ifs elt => let S := chkAll src; let F := chkAll ifs; let E := chkAll elt; fN fun sc e => match e with
    | .ListComp e [⟨t, it, cs, k⟩] scope _ => C.cm && decide (k = 0) && blkC C.N sc scope (ownOf C.N own) && chkTg C scope (fun i => own.contains i) tg t && notSet it && S.i sc t it &&
      (match isNil ifs, cs with
        | true, [] => true
        | true, _ => false
        | false, [c] => F.e scope c
        | false, _ => false) && E.e scope e
    | _ => false
  | .bn f as => let A := chkAll as; fN fun sc e => match e with
    | .Call (.Name x _) (e :: es) [] _ => C.cm && decide (x = bnName f) && glB sc x && A.a sc (e :: es)
    | _ => false
  | .binL o a b => let A := chkAll a; let B := chkAll b; fN fun sc e => match e with
    | .BinOp x o' y _ => decide (o' = o) && A.e sc x && B.e sc y
    | _ => false
  | .slcL a lo hi => let A := chkAll a; let L := chkAll lo; let U := chkAll hi; fN fun sc e => match e with
    | .Subscript x (.Slice l u none _) _ => A.e sc x && L.o sc l && U.o sc u
    | _ => false
  | .revL a => let A := chkAll a; fN fun sc e => match e with
    | .Subscript x (.Slice none none (some (.UnaryOp .USub (.Constant (.int m) _ _) _)) _) _ => decide (m = 1) && A.e sc x
    | _ => false
  | .nil => { e := fun _ _ => false, n := fun _ _ => false, i := fun _ _ _ => false, a := fun _ es => match es with
    | [] => true
    | _ => false, o := fun _ o => match o with
    | none => true
    | some _ => false }
  | .cons a r => let A := chkAll a; let R := chkAll r; { e := fun _ _ => false, n := fun _ _ => false, i := fun _ _ _ => false, o := fun _ _ => false, a := fun sc es => match es with
    | e :: es => A.e sc e && R.a sc es
    | [] => false }
  | .rng1 a => let A := chkAll a; fI fun sc _ e => match e with
    | .Call (.Name x _) [e] [] _ => decide (x = ("range" : Str)) && glB sc x && A.e sc e
    | _ => false
  | .rng2 a b => let A := chkAll a; let B := chkAll b; fI fun sc _ e => match e with
    | .Call (.Name x _) [e, f] [] _ => decide (x = ("range" : Str)) && glB sc x && A.e sc e && B.e sc f
    | _ => false
  | .rng3 a b c => let A := chkAll a; let B := chkAll b; let D := chkAll c; fI fun sc _ e => match e with
    | .Call (.Name x _) [e, f, g] [] _ => decide (x = ("range" : Str)) && glB sc x && A.e sc e && B.e sc f && D.e sc g
    | _ => false
  | .zip a b => let A := chkAll a; let B := chkAll b; fI fun sc t e => match e with
    | .Call (.Name x _) [e, f] [] _ => isTup t && decide (x = ("zip" : Str)) && glB sc x && A.e sc e && B.e sc f
    | _ => false
  | .enm a => let A := chkAll a; fI fun sc t e => match e with
    | .Call (.Name x _) [e] [] _ => isTup t && decide (x = ("enumerate" : Str)) && glB sc x && A.e sc e
    | _ => false
end
section
variable {C : Ck} {ir : I}
theorem fP_imp {f : Scope → Expr → Bool} (he : ∀ sc e, f sc e = true → chkE C ir sc e = true) (o1 : ∀ sc x, chkO C ir sc (some x) = chkE C ir sc x) (hi : ∀ sc t x, chkI C ir sc t x = chkE C ir sc x) : Imp (fP f) C ir :=
  ⟨he, fun _ _ h => Bool.noConfusion h, fun _ _ h => Bool.noConfusion h, fun sc x h => by
    cases x with
    | none => exact Bool.noConfusion h
    | some x => exact (o1 sc x).trans (he sc x h), fun sc t x h => (hi sc t x).trans (he sc x h)⟩
theorem fN_imp {f : Scope → Expr → Bool} (he : ∀ sc e, f sc e = true → chkN C ir sc e = true) (hn : ∀ sc e, chkE C ir sc e = chkN C ir sc e) (o1 : ∀ sc x, chkO C ir sc (some x) = chkE C ir sc x) (hi : ∀ sc t x, chkI C ir sc t x = chkE C ir sc x) : Imp (fN f) C ir :=
  ⟨fun sc e h => (hn sc e).trans (he sc e h), he, fun _ _ h => Bool.noConfusion h, fun sc x h => by
    cases x with
    | none => exact Bool.noConfusion h
    | some x => exact (o1 sc x).trans ((hn sc x).trans (he sc x h)), fun sc t x h => (hi sc t x).trans ((hn sc x).trans (he sc x h))⟩
theorem fI_imp {f : Scope → Expr → Expr → Bool} (he : ∀ sc t e, f sc t e = true → chkI C ir sc t e = true) : Imp (fI f) C ir :=
  ⟨fun _ _ h => Bool.noConfusion h, fun _ _ h => Bool.noConfusion h, fun _ _ h => Bool.noConfusion h, fun sc x h => by
    cases x <;> exact Bool.noConfusion h, he⟩
end
def ifsOk (C : Ck) (ifs : I) (cs : List Expr) (scope : Scope) : Bool := match ifs, cs with
  | .nil, [] => true
  | .nil, _ => false
  | f, [c] => chkE C f scope c
  | _, _ => false
theorem chkN_comp {C : Ck} {own : List Nat} {tg : Tg} {src ifs elt : I} {sc scope : Scope} {e t it : Expr} {cs : List Expr} {k : Int} {pos : Pos} : chkN C (.comp own tg src ifs elt) sc (.ListComp e [⟨t, it, cs, k⟩] scope pos) =
    (C.cm && decide (k = 0) && blkC C.N sc scope (ownOf C.N own) && chkTg C scope (fun i => own.contains i) tg t && notSet it && chkI C src sc t it && ifsOk C ifs cs scope && chkE C elt scope e) := by
  unfold ifsOk
  first | rfl | (unfold chkN; rfl)
theorem all_imp (C : Ck) (ir : I) : Imp (chkAll C ir) C ir := by
  induction ir with
  | var i  =>
    refine fP_imp (fun sc e h => ?_) (fun sc x => by simp only [chkO]) (fun sc t x => by simp only [chkI])
    (try dsimp only at h); split at h <;> first | exact Bool.noConfusion h | contradiction | (rw [chkE] <;> (try simp only [Bool.and_eq_true, and_assoc] at h ⊢) <;> (repeat obtain ⟨_, h⟩ := h) <;> (repeat' apply And.intro) <;> first | assumption)
  | int n  =>
    refine fP_imp (fun sc e h => ?_) (fun sc x => by simp only [chkO]) (fun sc t x => by simp only [chkI])
    (try dsimp only at h); split at h <;> first | exact Bool.noConfusion h | contradiction | (rw [chkE] <;> (try simp only [Bool.and_eq_true, and_assoc] at h ⊢) <;> (repeat obtain ⟨_, h⟩ := h) <;> (repeat' apply And.intro) <;> first | assumption)
  | str s  =>
    refine fP_imp (fun sc e h => ?_) (fun sc x => by simp only [chkO]) (fun sc t x => by simp only [chkI])
    (try dsimp only at h); split at h <;> first | exact Bool.noConfusion h | contradiction | (rw [chkE] <;> (try simp only [Bool.and_eq_true, and_assoc] at h ⊢) <;> (repeat obtain ⟨_, h⟩ := h) <;> (repeat' apply And.intro) <;> first | assumption)
  | bl b  =>
    refine fP_imp (fun sc e h => ?_) (fun sc x => by simp only [chkO]) (fun sc t x => by simp only [chkI])
    (try dsimp only at h); split at h <;> first | exact Bool.noConfusion h | contradiction | (rw [chkE] <;> (try simp only [Bool.and_eq_true, and_assoc] at h ⊢) <;> (repeat obtain ⟨_, h⟩ := h) <;> (repeat' apply And.intro) <;> first | assumption)
  | non   =>
    refine fP_imp (fun sc e h => ?_) (fun sc x => by simp only [chkO]) (fun sc t x => by simp only [chkI])
    (try dsimp only at h); split at h <;> first | exact Bool.noConfusion h | contradiction | (rw [chkE] <;> (try simp only [Bool.and_eq_true, and_assoc] at h ⊢) <;> (repeat obtain ⟨_, h⟩ := h) <;> (repeat' apply And.intro) <;> first | assumption)
  | glb j  =>
    refine fP_imp (fun sc e h => ?_) (fun sc x => by simp only [chkO]) (fun sc t x => by simp only [chkI])
    (try dsimp only at h); split at h <;> first | exact Bool.noConfusion h | contradiction | (rw [chkE] <;> (try simp only [Bool.and_eq_true, and_assoc] at h ⊢) <;> (repeat obtain ⟨_, h⟩ := h) <;> (repeat' apply And.intro) <;> first | assumption)
  | isx i j b  =>
    refine fP_imp (fun sc e h => ?_) (fun sc x => by simp only [chkO]) (fun sc t x => by simp only [chkI])
    rw [chkE]; exact h
  | bin o a b ha hb =>
    refine fP_imp (fun sc e h => ?_) (fun sc x => by simp only [chkO]) (fun sc t x => by simp only [chkI])
    (try dsimp only at h); split at h <;> first | exact Bool.noConfusion h | contradiction | (rw [chkE] <;> (try simp only [Bool.and_eq_true, and_assoc] at h ⊢) <;> (repeat obtain ⟨_, h⟩ := h) <;> (repeat' apply And.intro) <;> first | assumption | exact ha.e _ _ (by assumption) | exact ha.a _ _ (by assumption) | exact ha.o _ _ (by assumption) | exact hb.e _ _ (by assumption) | exact hb.a _ _ (by assumption) | exact hb.o _ _ (by assumption) | exact ha.i _ _ _ (by assumption) | exact hb.i _ _ _ (by assumption))
  | neg a ha =>
    refine fP_imp (fun sc e h => ?_) (fun sc x => by simp only [chkO]) (fun sc t x => by simp only [chkI])
    (try dsimp only at h); split at h <;> first | exact Bool.noConfusion h | contradiction | (rw [chkE] <;> (try simp only [Bool.and_eq_true, and_assoc] at h ⊢) <;> (repeat obtain ⟨_, h⟩ := h) <;> (repeat' apply And.intro) <;> first | assumption | exact ha.e _ _ (by assumption) | exact ha.a _ _ (by assumption) | exact ha.o _ _ (by assumption) | exact ha.i _ _ _ (by assumption))
  | not a ha =>
    refine fP_imp (fun sc e h => ?_) (fun sc x => by simp only [chkO]) (fun sc t x => by simp only [chkI])
    (try dsimp only at h); split at h <;> first | exact Bool.noConfusion h | contradiction | (rw [chkE] <;> (try simp only [Bool.and_eq_true, and_assoc] at h ⊢) <;> (repeat obtain ⟨_, h⟩ := h) <;> (repeat' apply And.intro) <;> first | assumption | exact ha.e _ _ (by assumption) | exact ha.a _ _ (by assumption) | exact ha.o _ _ (by assumption) | exact ha.i _ _ _ (by assumption))
  | cmp o a b ha hb =>
    refine fP_imp (fun sc e h => ?_) (fun sc x => by simp only [chkO]) (fun sc t x => by simp only [chkI])
    (try dsimp only at h); split at h <;> first | exact Bool.noConfusion h | contradiction | (rw [chkE] <;> (try simp only [Bool.and_eq_true, and_assoc] at h ⊢) <;> (repeat obtain ⟨_, h⟩ := h) <;> (repeat' apply And.intro) <;> first | assumption | exact ha.e _ _ (by assumption) | exact ha.a _ _ (by assumption) | exact ha.o _ _ (by assumption) | exact hb.e _ _ (by assumption) | exact hb.a _ _ (by assumption) | exact hb.o _ _ (by assumption) | exact ha.i _ _ _ (by assumption) | exact hb.i _ _ _ (by assumption))
  | chain o p a b c ha hb hc =>
    refine fP_imp (fun sc e h => ?_) (fun sc x => by simp only [chkO]) (fun sc t x => by simp only [chkI])
    (try dsimp only at h); split at h <;> first | exact Bool.noConfusion h | contradiction | (rw [chkE] <;> (try simp only [Bool.and_eq_true, and_assoc] at h ⊢) <;> (repeat obtain ⟨_, h⟩ := h) <;> (repeat' apply And.intro) <;> first | assumption | exact ha.e _ _ (by assumption) | exact ha.a _ _ (by assumption) | exact ha.o _ _ (by assumption) | exact hb.e _ _ (by assumption) | exact hb.a _ _ (by assumption) | exact hb.o _ _ (by assumption) | exact hc.e _ _ (by assumption) | exact hc.a _ _ (by assumption) | exact hc.o _ _ (by assumption) | exact ha.i _ _ _ (by assumption) | exact hb.i _ _ _ (by assumption) | exact hc.i _ _ _ (by assumption))
  | and a b ha hb =>
    refine fP_imp (fun sc e h => ?_) (fun sc x => by simp only [chkO]) (fun sc t x => by simp only [chkI])
    (try dsimp only at h); split at h <;> first | exact Bool.noConfusion h | contradiction | (rw [chkE] <;> (try simp only [Bool.and_eq_true, and_assoc] at h ⊢) <;> (repeat obtain ⟨_, h⟩ := h) <;> (repeat' apply And.intro) <;> first | assumption | exact ha.e _ _ (by assumption) | exact ha.a _ _ (by assumption) | exact ha.o _ _ (by assumption) | exact hb.e _ _ (by assumption) | exact hb.a _ _ (by assumption) | exact hb.o _ _ (by assumption) | exact ha.i _ _ _ (by assumption) | exact hb.i _ _ _ (by assumption))
  | or a b ha hb =>
    refine fP_imp (fun sc e h => ?_) (fun sc x => by simp only [chkO]) (fun sc t x => by simp only [chkI])
    (try dsimp only at h); split at h <;> first | exact Bool.noConfusion h | contradiction | (rw [chkE] <;> (try simp only [Bool.and_eq_true, and_assoc] at h ⊢) <;> (repeat obtain ⟨_, h⟩ := h) <;> (repeat' apply And.intro) <;> first | assumption | exact ha.e _ _ (by assumption) | exact ha.a _ _ (by assumption) | exact ha.o _ _ (by assumption) | exact hb.e _ _ (by assumption) | exact hb.a _ _ (by assumption) | exact hb.o _ _ (by assumption) | exact ha.i _ _ _ (by assumption) | exact hb.i _ _ _ (by assumption))
  | ite t a b ha hb hc =>
    refine fP_imp (fun sc e h => ?_) (fun sc x => by simp only [chkO]) (fun sc t x => by simp only [chkI])
    (try dsimp only at h); split at h <;> first | exact Bool.noConfusion h | contradiction | (rw [chkE] <;> (try simp only [Bool.and_eq_true, and_assoc] at h ⊢) <;> (repeat obtain ⟨_, h⟩ := h) <;> (repeat' apply And.intro) <;> first | assumption | exact ha.e _ _ (by assumption) | exact ha.a _ _ (by assumption) | exact ha.o _ _ (by assumption) | exact hb.e _ _ (by assumption) | exact hb.a _ _ (by assumption) | exact hb.o _ _ (by assumption) | exact hc.e _ _ (by assumption) | exact hc.a _ _ (by assumption) | exact hc.o _ _ (by assumption) | exact ha.i _ _ _ (by assumption) | exact hb.i _ _ _ (by assumption) | exact hc.i _ _ _ (by assumption))
  | tup as ha =>
    refine fP_imp (fun sc e h => ?_) (fun sc x => by simp only [chkO]) (fun sc t x => by simp only [chkI])
    (try dsimp only at h); split at h <;> first | exact Bool.noConfusion h | contradiction | (rw [chkE] <;> (try simp only [Bool.and_eq_true, and_assoc] at h ⊢) <;> (repeat obtain ⟨_, h⟩ := h) <;> (repeat' apply And.intro) <;> first | assumption | exact ha.e _ _ (by assumption) | exact ha.a _ _ (by assumption) | exact ha.o _ _ (by assumption) | exact ha.i _ _ _ (by assumption))
  | idx a i ha hb =>
    refine fP_imp (fun sc e h => ?_) (fun sc x => by simp only [chkO]) (fun sc t x => by simp only [chkI])
    (try dsimp only at h); split at h <;> first | exact Bool.noConfusion h | contradiction | (rw [chkE] <;> (try simp only [Bool.and_eq_true, and_assoc] at h ⊢) <;> (repeat obtain ⟨_, h⟩ := h) <;> (repeat' apply And.intro) <;> first | assumption | exact ha.e _ _ (by assumption) | exact ha.a _ _ (by assumption) | exact ha.o _ _ (by assumption) | exact hb.e _ _ (by assumption) | exact hb.a _ _ (by assumption) | exact hb.o _ _ (by assumption) | exact ha.i _ _ _ (by assumption) | exact hb.i _ _ _ (by assumption))
  | slc a lo hi ha hb hc =>
    refine fP_imp (fun sc e h => ?_) (fun sc x => by simp only [chkO]) (fun sc t x => by simp only [chkI])
    (try dsimp only at h); split at h <;> first | exact Bool.noConfusion h | contradiction | (rw [chkE] <;> (try simp only [Bool.and_eq_true, and_assoc] at h ⊢) <;> (repeat obtain ⟨_, h⟩ := h) <;> (repeat' apply And.intro) <;> first | assumption | exact ha.e _ _ (by assumption) | exact ha.a _ _ (by assumption) | exact ha.o _ _ (by assumption) | exact hb.e _ _ (by assumption) | exact hb.a _ _ (by assumption) | exact hb.o _ _ (by assumption) | exact hc.e _ _ (by assumption) | exact hc.a _ _ (by assumption) | exact hc.o _ _ (by assumption) | exact ha.i _ _ _ (by assumption) | exact hb.i _ _ _ (by assumption) | exact hc.i _ _ _ (by assumption))
  | call f as ha =>
    refine fP_imp (fun sc e h => ?_) (fun sc x => by simp only [chkO]) (fun sc t x => by simp only [chkI])
    (try dsimp only at h); split at h <;> first | exact Bool.noConfusion h | contradiction | (rw [chkE] <;> (try simp only [Bool.and_eq_true, and_assoc] at h ⊢) <;> (repeat obtain ⟨_, h⟩ := h) <;> (repeat' apply And.intro) <;> first | assumption | exact ha.e _ _ (by assumption) | exact ha.a _ _ (by assumption) | exact ha.o _ _ (by assumption) | exact ha.i _ _ _ (by assumption))
  | bi f as ha =>
    refine fP_imp (fun sc e h => ?_) (fun sc x => by simp only [chkO]) (fun sc t x => by simp only [chkI])
    (try dsimp only at h); split at h <;> first | exact Bool.noConfusion h | contradiction | (rw [chkE] <;> (try simp only [Bool.and_eq_true, and_assoc] at h ⊢) <;> (repeat obtain ⟨_, h⟩ := h) <;> (repeat' apply And.intro) <;> first | assumption | exact ha.e _ _ (by assumption) | exact ha.a _ _ (by assumption) | exact ha.o _ _ (by assumption) | exact ha.i _ _ _ (by assumption))
  | isa a ts ha =>
    refine fP_imp (fun sc e h => ?_) (fun sc x => by simp only [chkO]) (fun sc t x => by simp only [chkI])
    (try dsimp only at h); split at h <;> first | exact Bool.noConfusion h | contradiction | (rw [chkE] <;> (try simp only [Bool.and_eq_true, and_assoc] at h ⊢) <;> (repeat obtain ⟨_, h⟩ := h) <;> (repeat' apply And.intro) <;> first | assumption | exact ha.e _ _ (by assumption) | exact ha.a _ _ (by assumption) | exact ha.o _ _ (by assumption) | exact ha.i _ _ _ (by assumption))
  | trk a ha =>
    refine fP_imp (fun sc e h => ?_) (fun sc x => by simp only [chkO]) (fun sc t x => by simp only [chkI])
    rw [chkE]; exact ha.n sc e h
  | app a x ha hb =>
    refine fP_imp (fun sc e h => ?_) (fun sc x => by simp only [chkO]) (fun sc t x => by simp only [chkI])
    (try dsimp only at h); split at h <;> first | exact Bool.noConfusion h | contradiction | (rw [chkE] <;> (try simp only [Bool.and_eq_true, and_assoc] at h ⊢) <;> (repeat obtain ⟨_, h⟩ := h) <;> (repeat' apply And.intro) <;> first | assumption | exact ha.e _ _ (by assumption) | exact ha.a _ _ (by assumption) | exact ha.o _ _ (by assumption) | exact hb.e _ _ (by assumption) | exact hb.a _ _ (by assumption) | exact hb.o _ _ (by assumption) | exact ha.i _ _ _ (by assumption) | exact hb.i _ _ _ (by assumption))
  | popAt a x ha hb =>
    refine fP_imp (fun sc e h => ?_) (fun sc x => by simp only [chkO]) (fun sc t x => by simp only [chkI])
    (try dsimp only at h); split at h <;> first | exact Bool.noConfusion h | contradiction | (rw [chkE] <;> (try simp only [Bool.and_eq_true, and_assoc] at h ⊢) <;> (repeat obtain ⟨_, h⟩ := h) <;> (repeat' apply And.intro) <;> first | assumption | exact ha.e _ _ (by assumption) | exact ha.a _ _ (by assumption) | exact ha.o _ _ (by assumption) | exact hb.e _ _ (by assumption) | exact hb.a _ _ (by assumption) | exact hb.o _ _ (by assumption) | exact ha.i _ _ _ (by assumption) | exact hb.i _ _ _ (by assumption))
  | pop a ha =>
    refine fP_imp (fun sc e h => ?_) (fun sc x => by simp only [chkO]) (fun sc t x => by simp only [chkI])
    (try dsimp only at h); split at h <;> first | exact Bool.noConfusion h | contradiction | (rw [chkE] <;> (try simp only [Bool.and_eq_true, and_assoc] at h ⊢) <;> (repeat obtain ⟨_, h⟩ := h) <;> (repeat' apply And.intro) <;> first | assumption | exact ha.e _ _ (by assumption) | exact ha.a _ _ (by assumption) | exact ha.o _ _ (by assumption) | exact ha.i _ _ _ (by assumption))
  | rev a ha =>
    refine fP_imp (fun sc e h => ?_) (fun sc x => by simp only [chkO]) (fun sc t x => by simp only [chkI])
    (try dsimp only at h); split at h <;> first | exact Bool.noConfusion h | contradiction | (rw [chkE] <;> (try simp only [Bool.and_eq_true, and_assoc] at h ⊢) <;> (repeat obtain ⟨_, h⟩ := h) <;> (repeat' apply And.intro) <;> first | assumption | exact ha.e _ _ (by assumption) | exact ha.a _ _ (by assumption) | exact ha.o _ _ (by assumption) | exact ha.i _ _ _ (by assumption))
  | ext a x ha hb =>
    refine fP_imp (fun sc e h => ?_) (fun sc x => by simp only [chkO]) (fun sc t x => by simp only [chkI])
    (try dsimp only at h); split at h <;> first | exact Bool.noConfusion h | contradiction | (rw [chkE] <;> (try simp only [Bool.and_eq_true, and_assoc] at h ⊢) <;> (repeat obtain ⟨_, h⟩ := h) <;> (repeat' apply And.intro) <;> first | assumption | exact ha.e _ _ (by assumption) | exact ha.a _ _ (by assumption) | exact ha.o _ _ (by assumption) | exact hb.e _ _ (by assumption) | exact hb.a _ _ (by assumption) | exact hb.o _ _ (by assumption) | exact ha.i _ _ _ (by assumption) | exact hb.i _ _ _ (by assumption))
  | pr p a b c ha hb hc =>
    refine fP_imp (fun sc e h => ?_) (fun sc x => by simp only [chkO]) (fun sc t x => by simp only [chkI])
    cases p <;> split at h <;> first | exact Bool.noConfusion h | contradiction | (rw [chkE] <;> (try simp only [Bool.and_eq_true, and_assoc] at h ⊢) <;> (repeat obtain ⟨_, h⟩ := h) <;> (repeat' apply And.intro) <;> first | assumption | exact ha.e _ _ (by assumption) | exact ha.a _ _ (by assumption) | exact ha.o _ _ (by assumption) | exact hb.e _ _ (by assumption) | exact hb.a _ _ (by assumption) | exact hb.o _ _ (by assumption) | exact hc.e _ _ (by assumption) | exact hc.a _ _ (by assumption) | exact hc.o _ _ (by assumption) | exact ha.i _ _ _ (by assumption) | exact hb.i _ _ _ (by assumption) | exact hc.i _ _ _ (by assumption) | (simp_all))
  | calv i js as ha =>
    refine fP_imp (fun sc e h => ?_) (fun sc x => by simp only [chkO]) (fun sc t x => by simp only [chkI])
    (try dsimp only at h); split at h <;> first | exact Bool.noConfusion h | contradiction | (rw [chkE] <;> (try simp only [Bool.and_eq_true, and_assoc] at h ⊢) <;> (repeat obtain ⟨_, h⟩ := h) <;> (repeat' apply And.intro) <;> first | assumption | exact ha.e _ _ (by assumption) | exact ha.a _ _ (by assumption) | exact ha.o _ _ (by assumption) | exact ha.i _ _ _ (by assumption))
  | lst as ha =>
    refine fN_imp (fun sc e h => ?_) (fun sc e => by simp only [chkE]) (fun sc x => by simp only [chkO]) (fun sc t x => by simp only [chkI])
    (try dsimp only at h); split at h <;> first | exact Bool.noConfusion h | contradiction | (rw [chkN] <;> (try simp only [Bool.and_eq_true, and_assoc] at h ⊢) <;> (repeat obtain ⟨_, h⟩ := h) <;> (repeat' apply And.intro) <;> first | assumption | exact ha.e _ _ (by assumption) | exact ha.a _ _ (by assumption) | exact ha.o _ _ (by assumption) | exact ha.i _ _ _ (by assumption))
  | comp own tg src ifs elt ha hb hc =>
    refine fN_imp (fun sc e h => ?_) (fun sc e => by simp only [chkE]) (fun sc x => by simp only [chkO]) (fun sc t x => by simp only [chkI])
    (try dsimp only at h); split at h
    · rename_i e t it cs k scope pos
      rw [chkN_comp]
      simp only [Bool.and_eq_true] at h ⊢
      refine ⟨⟨⟨h.1.1.1, ha.i _ _ _ h.1.1.2⟩, ?_⟩, hc.e _ _ h.2⟩
      have q := h.1.2
      clear h
      unfold ifsOk
      cases ifs <;> (rcases cs with _ | ⟨c, _ | ⟨c2, cs⟩⟩) <;> first | exact Bool.noConfusion q | rfl | exact hb.e _ _ q
    · exact Bool.noConfusion h
  | bn f as ha =>
    refine fN_imp (fun sc e h => ?_) (fun sc e => by simp only [chkE]) (fun sc x => by simp only [chkO]) (fun sc t x => by simp only [chkI])
    (try dsimp only at h); split at h <;> first | exact Bool.noConfusion h | contradiction | (rw [chkN] <;> (try simp only [Bool.and_eq_true, and_assoc] at h ⊢) <;> (repeat obtain ⟨_, h⟩ := h) <;> (repeat' apply And.intro) <;> first | assumption | exact ha.e _ _ (by assumption) | exact ha.a _ _ (by assumption) | exact ha.o _ _ (by assumption) | exact ha.i _ _ _ (by assumption))
  | binL o a b ha hb =>
    refine fN_imp (fun sc e h => ?_) (fun sc e => by simp only [chkE]) (fun sc x => by simp only [chkO]) (fun sc t x => by simp only [chkI])
    (try dsimp only at h); split at h <;> first | exact Bool.noConfusion h | contradiction | (rw [chkN] <;> (try simp only [Bool.and_eq_true, and_assoc] at h ⊢) <;> (repeat obtain ⟨_, h⟩ := h) <;> (repeat' apply And.intro) <;> first | assumption | exact ha.e _ _ (by assumption) | exact ha.a _ _ (by assumption) | exact ha.o _ _ (by assumption) | exact hb.e _ _ (by assumption) | exact hb.a _ _ (by assumption) | exact hb.o _ _ (by assumption) | exact ha.i _ _ _ (by assumption) | exact hb.i _ _ _ (by assumption))
  | slcL a lo hi ha hb hc =>
    refine fN_imp (fun sc e h => ?_) (fun sc e => by simp only [chkE]) (fun sc x => by simp only [chkO]) (fun sc t x => by simp only [chkI])
    (try dsimp only at h); split at h <;> first | exact Bool.noConfusion h | contradiction | (rw [chkN] <;> (try simp only [Bool.and_eq_true, and_assoc] at h ⊢) <;> (repeat obtain ⟨_, h⟩ := h) <;> (repeat' apply And.intro) <;> first | assumption | exact ha.e _ _ (by assumption) | exact ha.a _ _ (by assumption) | exact ha.o _ _ (by assumption) | exact hb.e _ _ (by assumption) | exact hb.a _ _ (by assumption) | exact hb.o _ _ (by assumption) | exact hc.e _ _ (by assumption) | exact hc.a _ _ (by assumption) | exact hc.o _ _ (by assumption) | exact ha.i _ _ _ (by assumption) | exact hb.i _ _ _ (by assumption) | exact hc.i _ _ _ (by assumption))
  | revL a ha =>
    refine fN_imp (fun sc e h => ?_) (fun sc e => by simp only [chkE]) (fun sc x => by simp only [chkO]) (fun sc t x => by simp only [chkI])
    (try dsimp only at h); split at h <;> first | exact Bool.noConfusion h | contradiction | (rw [chkN] <;> (try simp only [Bool.and_eq_true, and_assoc] at h ⊢) <;> (repeat obtain ⟨_, h⟩ := h) <;> (repeat' apply And.intro) <;> first | assumption | exact ha.e _ _ (by assumption) | exact ha.a _ _ (by assumption) | exact ha.o _ _ (by assumption) | exact ha.i _ _ _ (by assumption))
  | rng1 a ha =>
    refine fI_imp fun sc t e h => ?_
    (try dsimp only at h); split at h <;> first | exact Bool.noConfusion h | contradiction | (rw [chkI] <;> (try simp only [Bool.and_eq_true, and_assoc] at h ⊢) <;> (repeat obtain ⟨_, h⟩ := h) <;> (repeat' apply And.intro) <;> first | assumption | exact ha.e _ _ (by assumption) | exact ha.a _ _ (by assumption) | exact ha.o _ _ (by assumption) | exact ha.i _ _ _ (by assumption))
  | rng2 a b ha hb =>
    refine fI_imp fun sc t e h => ?_
    (try dsimp only at h); split at h <;> first | exact Bool.noConfusion h | contradiction | (rw [chkI] <;> (try simp only [Bool.and_eq_true, and_assoc] at h ⊢) <;> (repeat obtain ⟨_, h⟩ := h) <;> (repeat' apply And.intro) <;> first | assumption | exact ha.e _ _ (by assumption) | exact ha.a _ _ (by assumption) | exact ha.o _ _ (by assumption) | exact hb.e _ _ (by assumption) | exact hb.a _ _ (by assumption) | exact hb.o _ _ (by assumption) | exact ha.i _ _ _ (by assumption) | exact hb.i _ _ _ (by assumption))
  | rng3 a b c ha hb hc =>
    refine fI_imp fun sc t e h => ?_
    (try dsimp only at h); split at h <;> first | exact Bool.noConfusion h | contradiction | (rw [chkI] <;> (try simp only [Bool.and_eq_true, and_assoc] at h ⊢) <;> (repeat obtain ⟨_, h⟩ := h) <;> (repeat' apply And.intro) <;> first | assumption | exact ha.e _ _ (by assumption) | exact ha.a _ _ (by assumption) | exact ha.o _ _ (by assumption) | exact hb.e _ _ (by assumption) | exact hb.a _ _ (by assumption) | exact hb.o _ _ (by assumption) | exact hc.e _ _ (by assumption) | exact hc.a _ _ (by assumption) | exact hc.o _ _ (by assumption) | exact ha.i _ _ _ (by assumption) | exact hb.i _ _ _ (by assumption) | exact hc.i _ _ _ (by assumption))
  | zip a b ha hb =>
    refine fI_imp fun sc t e h => ?_
    (try dsimp only at h); split at h <;> first | exact Bool.noConfusion h | contradiction | (rw [chkI] <;> (try simp only [Bool.and_eq_true, and_assoc] at h ⊢) <;> (repeat obtain ⟨_, h⟩ := h) <;> (repeat' apply And.intro) <;> first | assumption | exact ha.e _ _ (by assumption) | exact ha.a _ _ (by assumption) | exact ha.o _ _ (by assumption) | exact hb.e _ _ (by assumption) | exact hb.a _ _ (by assumption) | exact hb.o _ _ (by assumption) | exact ha.i _ _ _ (by assumption) | exact hb.i _ _ _ (by assumption))
  | enm a ha =>
    refine fI_imp fun sc t e h => ?_
    (try dsimp only at h); split at h <;> first | exact Bool.noConfusion h | contradiction | (rw [chkI] <;> (try simp only [Bool.and_eq_true, and_assoc] at h ⊢) <;> (repeat obtain ⟨_, h⟩ := h) <;> (repeat' apply And.intro) <;> first | assumption | exact ha.e _ _ (by assumption) | exact ha.a _ _ (by assumption) | exact ha.o _ _ (by assumption) | exact ha.i _ _ _ (by assumption))
  | nil =>
    refine ⟨fun _ _ h => Bool.noConfusion h, fun _ _ h => Bool.noConfusion h, fun sc es h => ?_, fun sc x h => ?_, fun _ _ _ h => Bool.noConfusion h⟩
    · cases es with
      | nil => rw [chkA]
      | cons _ _ => exact Bool.noConfusion h
    · cases x with
      | none => rw [chkO]
      | some _ => exact Bool.noConfusion h
  | cons a r ha hr =>
    refine ⟨fun _ _ h => Bool.noConfusion h, fun _ _ h => Bool.noConfusion h, fun sc es h => ?_, fun sc x h => Bool.noConfusion h, fun _ _ _ h => Bool.noConfusion h⟩
    cases es with
    | nil => exact Bool.noConfusion h
    | cons e es =>
      have h : ((chkAll C a).e sc e && (chkAll C r).a sc es) = true := h
      rw [Bool.and_eq_true] at h
      rw [chkA, ha.e _ _ h.1, hr.a _ _ h.2]; rfl
end Cl
/-! Functions. -/
namespace Cl
open PySem PySem.Spec PyProof.Rows L2
/-- what the body does with arguments -/
noncomputable def runF (s : Env → Hc → Out) (p n : Nat) (ds : List D) : M D := fun hc => if ds.length = p then
    match s (ds.map some ++ List.replicate (n - p) none) hc with
    | .nx _ h => .ok .non h
    | .rt d h => .ok d h
    | .exc c fs _ h => .exc c fs h
    | _ => .bad
  else .bad
section
variable {P : Program} {w : World} {K : PySem.W.Frag} {mg : Str → Option Value} {base : Heap} {C : Ck} {G : Gt} {Cs : List D} {k : Nat}
theorem rep_start {T : Tk} {H : Hp} : ∀ {ds : List D} {vs : List V}, RepL K T H ds vs → ∀ n, EnvR K T H (ds.map some ++ List.replicate n none) (vs.map some ++ List.replicate n none)
  | ds, vs, r, n => by
    refine ⟨by simp [r.length], fun i d q => ?_⟩
    by_cases hi : i < ds.length
    · rw [List.getElem?_append_left (by simpa using hi), List.getElem?_map] at q
      cases e : ds[i]? with
      | none => rw [e] at q; cases q
      | some d' =>
        rw [e] at q
        have : d' = d := by simpa using q
        subst this
        obtain ⟨v, hv, rv⟩ := r.get e
        have hi2 : i < vs.length := by rw [r.length]; exact hi
        exact ⟨v, by rw [List.getElem?_append_left (by simpa using hi2), List.getElem?_map, hv]; rfl, rv⟩
    · rw [List.getElem?_append_right (by simpa using hi), List.getElem?_replicate] at q
      split at q <;> cases q
theorem fnOk {x qual : Str} {st : Stmt} {f : Addr} {fd : FuncData} {ps : List Str} {ir : S} (F : Fun K x qual st f fd) (Sc : FnScope C.N ps (defScope st))     (hc : chkB chkAll C ir (defScope st) (defBody st) = true) (nb : ∀ x ∈ bNames, mg x = none)
    (fs : ∀ (i : Nat) g, G.tab[i]? = some g → ∃ x, C.fs[i]? = some x ∧ FnAt P w K mg base k x g)
    (cf : ClsF K mg C Cs) (hxa : G.xa = none) :
    FnOk P w K mg base (L2.CX P w) (k + 1) f fd ps (spC K (runF (semS G Cs ir) ps.length C.N.length)) := by
  refine F.okX Sc (fun vs H Q E h => ?_) (fun cdv A outer s H vs Q E hr h => ?_)
  · obtain ⟨T, hc, ds, w, r, p⟩ := h
    rw [r.length]
    unfold runF at p
    split at p
    · assumption
    · exact p.elim
  · obtain ⟨T, hc0, ds, wd, r, p⟩ := h
    have hl : ds.length = ps.length := by
      unfold runF at p
      split at p
      · assumption
      · exact p.elim
    have g : Gd C G Cs k (cxOf (L2.CX P w) P w K mg base C.N qual (defScope st) f cdv A outer s H E) (fun c d _ H => E c d H) (defScope st) :=
      { N := rfl, nd := Sc.nd, calm := fun _ => rfl, tk := takes_of rfl rfl rfl rfl, rm := fun _ => hr, scr := ⟨Sc.kind, fun x k h _ => h, fun x h => .inl h⟩,
        loc := fun _ _ => .inl rfl, nb := nb, fs := fs, cf := cf, xn := fun _ => hxa, xa := fun a _ _ _ _ _ z => by rw [hxa] at z; cases z }
    obtain ⟨t, pt, rt⟩ := (sndS all_imp ir).b g ⟨rfl, passes_of rfl, rfl, rfl⟩ hc
    have e : L2.start C.N vs = vs.map some ++ List.replicate (C.N.length - ps.length) none := by
      unfold L2.start
      rw [r.length, hl]
    refine ⟨t, pt, ?_⟩
    rw [e]
    refine rt T hc0 H _ _ _ wd (rep_start r (C.N.length - ps.length)) ?_
    unfold runF at p
    rw [if_pos hl] at p
    cases q : semS G Cs ir (ds.map some ++ List.replicate (C.N.length - ps.length) none) hc0 with
    | nx env h => rw [q] at p; exact fun T' H' σ' e w' er => p T' H' e w' _ (by simp only [Rep])
    | rt d h => rw [q] at p; exact fun T' H' v e w' rv => p T' H' e w' v rv
    | exc c fs env h => rw [q] at p; exact fun T' H' σ' dd e w' er rx => p T' H' dd e w' rx
    | bk env h => rw [q] at p; exact p.elim
    | ct env h => rw [q] at p; exact p.elim
    | bad => rw [q] at p; exact p.elim
/-- a def of the module -/
structure FF (K : PySem.W.Frag) (mg : Str → Option Value) (x : Str) (st : Stmt) (ps : List Str) : Prop where
  ex : ∃ f fd, Fun K x x st f fd ∧ mg x = some (.ref f) ∧ Binds K fd ps []
theorem ff_mk {h : Heap} {x : Str} {st : Stmt} {ps : List Str} {f : Addr} {oc : Value} {od an : Option Addr} {osl : Array (Option Value)} {kV doc pm cdv ct : Value} (X : K.In h) (G : h.Ns mainGlobals mg)
    (a : PySem.W.nsIn K mainGlobals x = some (some (.ref f))) (l : K.lookup f = some ⟨oc, od, .func (PySem.W.fnOf x x (defArgs st) (defBody st) (defScope st) .none kV doc pm an cdv ct), osl⟩)
    (c : PySem.W.codeIn K cdv x = true) (k : PySem.W.keepIn K (.ref f) = true)
    (hb : ∀ (kV doc pm : Value) (an : Option Addr) (cdv ct : Value) (us : List Value), us.length = ps.length → bindArgs (PySem.W.fnOf x x (defArgs st) (defBody st) (defScope st) .none kV doc pm an cdv ct) ⟨us, []⟩ = pure (ps.zip us)) : FF K mg x st ps :=
  ⟨f, _, fun_mk l c k, PySem.W.mg_of X G a, (fun_mk (st := st) l c k).binds hb⟩
theorem fnAt {x : Str} {st : Stmt} {ps : List Str} {ir : S} (F : FF K mg x st ps) (Sc : FnScope C.N ps (defScope st))
    (hc : chkB chkAll C ir (defScope st) (defBody st) = true) (nb : ∀ x ∈ bNames, mg x = none)
    (fs : ∀ (i : Nat) g, G.tab[i]? = some g → ∃ x, C.fs[i]? = some x ∧ FnAt P w K mg base k x g) (cf : ClsF K mg C Cs) (hxa : G.xa = none) :
    FnAt P w K mg base (k + 1) x (runF (semS G Cs ir) ps.length C.N.length) := by
  obtain ⟨f, fd, F1, hm, b⟩ := F.ex
  exact ⟨f, fd, ps, fnOk F1 Sc hc nb fs cf hxa, hm, F1.kp, b⟩
/-- one promise makes the other -/
def Sub (K : PySem.W.Frag) (g g' : List D → M D) : Prop := ∀ vs H Q E, spC K g vs H Q E → spC K g' vs H Q E
theorem FnAt.imp {x : Str} {g g' : List D → M D} (h : FnAt P w K mg base k x g') (s : Sub K g g') : FnAt P w K mg base k x g := by
  obtain ⟨f, fd, ps, F, a, b, c⟩ := h
  exact ⟨f, fd, ps, F.imp s, a, b, c⟩
theorem Sub.of_eq {g g' : List D → M D} (h : ∀ ds hc, g ds hc ≠ .bad → g ds hc = g' ds hc) : Sub K g g' := fun vs H Q E ⟨T, hc, ds, w, r, p⟩ => ⟨T, hc, ds, w, r, by
  rw [← h ds hc fun z => by rw [z] at p; exact p]; exact p⟩
end
end Cl
/-! Functions that change nothing of their callers': as plain functions. -/
namespace Cl
open PySem PySem.Spec PyProof.Rows L2
inductive PR where
  | ok (d : D) | exc (c : Addr) (fs : List (Str × D)) | bad
mutual
def noRef : D → Bool
  | .ref _ => false
  | .tup xs => noRefL xs
  | .fl xs => noRefL xs
  | .kl xs => noRefL xs
  | .non => true | .bl _ => true | .int _ => true | .str _ => true | .ob _ => true | .ty _ => true
def noRefL : List D → Bool
  | [] => true
  | d :: ds => noRef d && noRefL ds
end
mutual
def noKl : D → Bool
  | .kl _ => false
  | .tup xs => noKlL xs
  | .fl xs => noKlL xs
  | .ref _ => true
  | .non => true | .bl _ => true | .int _ => true | .str _ => true | .ob _ => true | .ty _ => true
def noKlL : List D → Bool
  | [] => true
  | d :: ds => noKl d && noKlL ds
end
def outD : Nat → Hc → D → Option D
  | 0, _, d => if noRef d = true then some d else none
  | n + 1, hc, d => if noRef d = true then some d else match d with
    | .ref i => match hc[i]? with
      | some (.lst xs) => (xs.mapM (outD n hc)).map .fl
      | _ => none
    | .tup xs => (xs.mapM (outD n hc)).map .tup
    | .fl xs => (xs.mapM (outD n hc)).map .fl
    | .kl xs => (xs.mapM (outD n hc)).map .kl
    | _ => none
def inD : Nat → Hc → D → Option D
  | 0, _, d => if noRef d = true then some d else none
  | n + 1, hc, d => if noRef d = true then some d else match d with
    | .ref i => match hc[i]? with
      | some (.lst xs) => (xs.mapM (inD n hc)).map .kl
      | _ => none
    | .tup xs => (xs.mapM (inD n hc)).map .tup
    | .fl xs => (xs.mapM (inD n hc)).map .fl
    | .kl xs => (xs.mapM (inD n hc)).map .kl
    | _ => none
def outKV (n : Nat) (hc : Hc) : List (Str × D) → Option (List (Str × D))
  | [] => some []
  | (k, d) :: r => (outD n hc d).bind fun d' => (outKV n hc r).bind fun r' => some ((k, d') :: r')
def depth : Nat := 6
/-- a run by itself -/
def pureOf : Res D → PR
  | .ok d hc => match outD depth hc d with
    | some d' => .ok d'
    | none => .bad
  | .exc c fs hc => match outKV depth hc fs with
    | some fs' => .exc c fs'
    | none => .bad
  | .bad => .bad
/-- .. by a caller -/
def liftP (g : List D → PR) : List D → M D := fun ds hc =>
  if noRefL ds = true then match g ds with
    | .ok d => .ok d hc
    | .exc c fs => .exc c fs hc
    | .bad => .bad
  else match ds.mapM (inD depth hc) with
    | none => .bad
    | some ds' => match g ds' with
      | .ok d => if noKl d = true ∧ noRef d = true then .ok d hc else .bad
      | .exc c fs => if noKlL (fs.map (·.2)) = true ∧ noRefL (fs.map (·.2)) = true then .exc c fs hc else .bad
      | .bad => .bad
theorem mapM_nil {α β : Type} (f : α → Option β) : ([] : List α).mapM f = some [] := rfl
theorem mapM_cons {α β : Type} (f : α → Option β) (a : α) (l : List α) : (a :: l).mapM f = (f a).bind fun b => (l.mapM f).bind fun r => some (b :: r) := by
  rw [List.mapM_cons]; rfl
section
variable {K : PySem.W.Frag} {T T0 T' : Tk} {H H' : Hp} {hc hc' : Hc}
mutual
theorem rep_move (hF : ∀ a vs, SqF T H a vs → SqF T' H a vs) (hK : ∀ a vs, SqK K T H a vs → SqK K T' H a vs) : ∀ (d : D) (v : V), noRef d = true → Rep K T H d v → Rep K T' H d v
  | .non, _, _, h => h
  | .bl _, _, _, h => h
  | .int _, _, _, h => h
  | .str _, _, _, h => h
  | .ob _, _, _, h => h
  | .ty _, _, _, h => h
  | .ref i, v, n, h => by simp [noRef] at n
  | .tup xs, v, n, h => by
    simp only [Rep] at h ⊢
    obtain ⟨a, vs, q, s, l, r⟩ := h
    exact ⟨a, vs, q, s, l, repL_move hF hK xs vs (by simpa [noRef] using n) r⟩
  | .fl xs, v, n, h => by
    simp only [Rep] at h ⊢
    obtain ⟨a, vs, q, s, l, r⟩ := h
    exact ⟨a, vs, q, hF _ _ s, l, repL_move hF hK xs vs (by simpa [noRef] using n) r⟩
  | .kl xs, v, n, h => by
    simp only [Rep] at h ⊢
    obtain ⟨a, vs, q, s, l, r⟩ := h
    exact ⟨a, vs, q, hK _ _ s, l, repL_move hF hK xs vs (by simpa [noRef] using n) r⟩
theorem repL_move (hF : ∀ a vs, SqF T H a vs → SqF T' H a vs) (hK : ∀ a vs, SqK K T H a vs → SqK K T' H a vs) : ∀ (ds : List D) (vs : List V), noRefL ds = true → RepL K T H ds vs → RepL K T' H ds vs
  | [], _, _, h => by simpa only [RepL] using h
  | d :: ds, vs, n, h => by
    simp only [RepL] at h ⊢
    simp only [noRefL, Bool.and_eq_true] at n
    obtain ⟨v, r, q, a, b⟩ := h
    exact ⟨v, r, q, rep_move hF hK d v n.1 a, repL_move hF hK ds r n.2 b⟩
end
mutual
theorem rep_moveK (hF : ∀ a vs, SqF T H a vs → SqF T' H a vs) : ∀ (d : D) (v : V), noRef d = true → noKl d = true → Rep K T H d v → Rep K T' H d v
  | .non, _, _, _, h => h
  | .bl _, _, _, _, h => h
  | .int _, _, _, _, h => h
  | .str _, _, _, _, h => h
  | .ob _, _, _, _, h => h
  | .ty _, _, _, _, h => h
  | .ref i, v, n, _, h => by simp [noRef] at n
  | .tup xs, v, n, m, h => by
    simp only [Rep] at h ⊢
    obtain ⟨a, vs, q, s, l, r⟩ := h
    exact ⟨a, vs, q, s, l, repL_moveK hF xs vs (by simpa [noRef] using n) (by simpa [noKl] using m) r⟩
  | .fl xs, v, n, m, h => by
    simp only [Rep] at h ⊢
    obtain ⟨a, vs, q, s, l, r⟩ := h
    exact ⟨a, vs, q, hF _ _ s, l, repL_moveK hF xs vs (by simpa [noRef] using n) (by simpa [noKl] using m) r⟩
  | .kl xs, v, _, m, h => by simp [noKl] at m
theorem repL_moveK (hF : ∀ a vs, SqF T H a vs → SqF T' H a vs) : ∀ (ds : List D) (vs : List V), noRefL ds = true → noKlL ds = true → RepL K T H ds vs → RepL K T' H ds vs
  | [], _, _, _, h => by simpa only [RepL] using h
  | d :: ds, vs, n, m, h => by
    simp only [RepL] at h ⊢
    simp only [noRefL, noKlL, Bool.and_eq_true] at n m
    obtain ⟨v, r, q, a, b⟩ := h
    exact ⟨v, r, q, rep_moveK hF d v n.1 m.1 a, repL_moveK hF ds r n.2 m.2 b⟩
end
theorem mapM_rep {f : D → Option D} (hf : ∀ d d' v, f d = some d' → Rep K T H d v → Rep K T' H d' v) : ∀ (ds ds' : List D) (vs : List V), ds.mapM f = some ds' → RepL K T H ds vs → RepL K T' H ds' vs
  | [], ds', vs, e, r => by
    rw [mapM_nil] at e; cases e
    simpa only [RepL] using r
  | d :: ds, ds', vs, e, r => by
    rw [mapM_cons] at e
    cases q : f d with
    | none => rw [q] at e; cases e
    | some b =>
      rw [q] at e
      cases q2 : ds.mapM f with
      | none => rw [q2] at e; cases e
      | some bs =>
        rw [q2] at e
        cases e
        simp only [RepL] at r ⊢
        obtain ⟨v, r', ev, r1, r2⟩ := r
        exact ⟨v, r', ev, hf _ _ _ q r1, mapM_rep hf ds bs r' q2 r2⟩
theorem opt_map {α β : Type} {o : Option α} {f : α → β} {b : β} (h : o.map f = some b) : ∃ a, o = some a ∧ f a = b := by
  cases o with
  | none => cases h
  | some a => exact ⟨a, rfl, by simpa using h⟩
/-- a way in or out -/
theorem way_rep (out : Bool) (w : Wd K T hc H) (hF : ∀ a vs, SqF T H a vs → SqF T' H a vs) (hK : ∀ a vs, SqK K T H a vs → SqK K T' H a vs)
    (hR : ∀ a vs, a ∈ T.ρ → H a = some (.lst vs) → if out = true then SqF T' H a vs else SqK K T' H a vs) : ∀ (n : Nat) (d d' : D) (v : V), (if out = true then outD n hc d else inD n hc d) = some d' → Rep K T H d v → Rep K T' H d' v := by
  intro n
  have base : ∀ d d' v, noRef d = true → some d = some d' → Rep K T H d v → Rep K T' H d' v := fun d d' v n e r => by
    cases e; exact rep_move hF hK d v n r
  induction n with
  | zero =>
    intro d d' v e r
    by_cases nr : noRef d = true
    · exact base d d' v nr (by cases out <;> simpa [outD, inD, nr] using e) r
    · cases out <;> simp [outD, inD, nr] at e
  | succ n ih =>
    intro d d' v e r
    by_cases nr : noRef d = true
    · exact base d d' v nr (by cases out <;> simpa [outD, inD, nr] using e) r
    · have step : ∀ (ds ds' : List D) (vs : List V), ds.mapM (fun d => if out = true then outD n hc d else inD n hc d) = some ds' → RepL K T H ds vs → RepL K T' H ds' vs := mapM_rep ih
      cases d with
      | tup xs =>
        have e2 : (xs.mapM (fun d => if out = true then outD n hc d else inD n hc d)).map D.tup = some d' := by
          cases out <;> simpa [outD, inD, nr] using e
        obtain ⟨ys, e3, rfl⟩ := opt_map e2
        simp only [Rep] at r ⊢
        obtain ⟨a, vs, q, s, l, rr⟩ := r
        exact ⟨a, vs, q, s, l, step _ _ _ e3 rr⟩
      | fl xs =>
        have e2 : (xs.mapM (fun d => if out = true then outD n hc d else inD n hc d)).map D.fl = some d' := by
          cases out <;> simpa [outD, inD, nr] using e
        obtain ⟨ys, e3, rfl⟩ := opt_map e2
        simp only [Rep] at r ⊢
        obtain ⟨a, vs, q, s, l, rr⟩ := r
        exact ⟨a, vs, q, hF _ _ s, l, step _ _ _ e3 rr⟩
      | kl xs =>
        have e2 : (xs.mapM (fun d => if out = true then outD n hc d else inD n hc d)).map D.kl = some d' := by
          cases out <;> simpa [outD, inD, nr] using e
        obtain ⟨ys, e3, rfl⟩ := opt_map e2
        simp only [Rep] at r ⊢
        obtain ⟨a, vs, q, s, l, rr⟩ := r
        exact ⟨a, vs, q, hK _ _ s, l, step _ _ _ e3 rr⟩
      | ref i =>
        simp only [Rep] at r
        obtain ⟨a, q, ha⟩ := r
        have hm : a ∈ T.ρ := List.mem_iff_getElem?.mpr ⟨i, ha⟩
        cases z : hc[i]? with
        | none => cases out <;> simp [outD, inD, nr, z] at e
        | some o =>
          cases o with
          | lst xs =>
            obtain ⟨a', ha', vs, hv, l, rr⟩ := w.obj i _ z
            rw [ha] at ha'; cases ha'
            have := hR a vs hm hv
            cases out with
            | true =>
              have e2 : (xs.mapM (outD n hc)).map D.fl = some d' := by simpa [outD, nr, z] using e
              obtain ⟨ys, e3, rfl⟩ := opt_map e2
              simp only [Rep]
              exact ⟨a, vs, q, this, l, step _ _ _ e3 rr⟩
            | false =>
              have e2 : (xs.mapM (inD n hc)).map D.kl = some d' := by simpa [inD, nr, z] using e
              obtain ⟨ys, e3, rfl⟩ := opt_map e2
              simp only [Rep]
              exact ⟨a, vs, q, this, l, step _ _ _ e3 rr⟩
          | dct kvs => cases out <;> simp [outD, inD, nr, z] at e
          | ins C fs => cases out <;> simp [outD, inD, nr, z] at e
      | _ => exact absurd rfl nr
theorem stays (w : Wd K T hc H) (h : ∀ b o, H b = some o → H' b = some o) : Ext T H T H' ∧ Wd K T hc H' := by
  have e : Ext T H T H' := ⟨⟨[], by simp⟩, rfl, rfl, fun b o hb _ => h b o hb, fun _ h => .inl h⟩
  refine ⟨e, w.nd, w.len, fun i o ho => ?_, fun a ha => ?_, fun a ha => ?_⟩
  · obtain ⟨a, ha, r⟩ := w.obj i o ho
    obtain ⟨x, hx, _⟩ := w.trk (List.mem_iff_getElem?.mpr ⟨i, ha⟩)
    exact ⟨a, ha, RepO.ext w e.g r (by rw [hx, h a x hx])⟩
  · obtain ⟨n, o, ho, t⟩ := w.gh a ha
    exact ⟨n, o, h a o ho, t⟩
  · obtain ⟨n, o, ho⟩ := w.al a ha
    exact ⟨n, o, h a o ho⟩
theorem wd_in (w : Wd K T hc H) (b : Bool) : Wd K ⟨[], T.ρ ++ T.κ, fun a => T.α a ∨ (b = true ∧ a ∈ T.ρ)⟩ [] H := by
  refine ⟨List.nodup_nil, rfl, fun i o h => by simp at h, fun a ha => ⟨by simp, ?_⟩, fun a ha => ⟨by simp, ?_⟩⟩
  · rcases List.mem_append.mp ha with z | z
    · exact w.trk z
    · exact (w.gh a z).2
  · rcases ha with z | ⟨_, z⟩
    · exact (w.al a z).2
    · obtain ⟨o, ho, _⟩ := w.trk z
      exact ⟨o, ho⟩
theorem kv_way {T'' : Tk} {H'' : Hp} {n : Nat} {hc : Hc} (hf : ∀ d d' v, outD n hc d = some d' → Rep K T H d v → Rep K T'' H'' d' v) : ∀ (fs fs' : List (Str × D)) (ws : List (Str × V)), outKV n hc fs = some fs' → RepKV K T H fs ws → RepKV K T'' H'' fs' ws
  | [], fs', ws, e, r => by
    simp only [outKV] at e; cases e
    simpa only [RepKV] using r
  | (k, d) :: fs, fs', ws, e, r => by
    simp only [outKV] at e
    cases q : outD n hc d with
    | none => rw [q] at e; cases e
    | some b =>
      rw [q] at e
      cases q2 : outKV n hc fs with
      | none => rw [q2] at e; cases e
      | some bs =>
        rw [q2] at e
        cases e
        simp only [RepKV] at r ⊢
        obtain ⟨v, r', ev, r1, r2⟩ := r
        exact ⟨v, r', ev, hf _ _ _ q r1, kv_way hf fs bs r' q2 r2⟩
theorem outKV_ne {n : Nat} {hc : Hc} : ∀ {fs fs' : List (Str × D)}, outKV n hc fs = some fs' → fs ≠ [] → fs' ≠ []
  | [], _, _, h => absurd rfl h
  | (k, d) :: r, fs', e, _ => by
    simp only [outKV] at e
    cases q : outD n hc d with
    | none => rw [q] at e; cases e
    | some b =>
      rw [q] at e
      cases q2 : outKV n hc r with
      | none => rw [q2] at e; cases e
      | some bs => rw [q2] at e; cases e; simp
theorem kv_moveK (hF : ∀ a vs, SqF T H a vs → SqF T' H a vs) : ∀ (fs : List (Str × D)) (ws : List (Str × V)), noRefL (fs.map (·.2)) = true → noKlL (fs.map (·.2)) = true → RepKV K T H fs ws → RepKV K T' H fs ws
  | [], _, _, _, h => by simpa only [RepKV] using h
  | (k, d) :: ds, vs, n, m, h => by
    simp only [RepKV] at h ⊢
    simp only [List.map_cons, noRefL, noKlL, Bool.and_eq_true] at n m
    obtain ⟨v, r, q, a, b⟩ := h
    exact ⟨v, r, q, rep_moveK hF d v n.1 m.1 a, kv_moveK hF ds r n.2 m.2 b⟩
/-- THE RULE: a run with arguments of its own alone is a run among others -/
theorem lift_sub {g : List D → M D} : Sub K (liftP fun ds => pureOf (g ds [])) g := by
  intro vs H Q E ⟨T, hc, ds, w, r, p⟩
  unfold liftP at p
  have inF : ∀ (b : Bool) a vs, SqF T H a vs → SqF ⟨[], T.ρ ++ T.κ, fun a => T.α a ∨ (b = true ∧ a ∈ T.ρ)⟩ H a vs := fun b a vs h =>
    ⟨h.1, by simp, fun m => (List.mem_append.mp m).elim h.2.1 h.2.2⟩
  have inK : ∀ (b : Bool) a vs, SqK K T H a vs → SqK K ⟨[], T.ρ ++ T.κ, fun a => T.α a ∨ (b = true ∧ a ∈ T.ρ)⟩ H a vs := fun b a vs h => by
    rcases h with (h | ⟨h, z⟩) | h
    · exact .inl (.inl h)
    · exact .inl (.inr ⟨h, .inl z⟩)
    · exact .inr h
  -- the way out
  have out : ∀ (b : Bool) (T1 : Tk) (H1 : Hp) (hc1 : Hc), Ext ⟨[], T.ρ ++ T.κ, fun a => T.α a ∨ (b = true ∧ a ∈ T.ρ)⟩ H T1 H1 → Wd K T1 hc1 H1 →
      ∀ n d d' v, outD n hc1 d = some d' → Rep K T1 H1 d v → Rep K ⟨T.ρ, T.κ, T1.α⟩ H1 d' v := fun b T1 H1 hc1 e w1 n d d' v q rv => by
    have eκ : T1.κ = T.ρ ++ T.κ := e.gh
    have oF : ∀ a vs, SqF T1 H1 a vs → SqF ⟨T.ρ, T.κ, T1.α⟩ H1 a vs := fun a vs h => by
      have := h.2.2
      rw [eκ] at this
      exact ⟨h.1, fun m => this (List.mem_append_left _ m), fun m => this (List.mem_append_right _ m)⟩
    refine way_rep true w1 oF (fun a vs h => h) (fun a vs hm hv => ?_) n d d' v (by simpa using q) rv
    rw [if_pos rfl]
    refine ⟨hv, fun m => ?_, fun m => ?_⟩
    · exact (w1.gh a (by rw [eκ]; exact List.mem_append_left _ m)).1 hm
    · exact (w1.gh a (by rw [eκ]; exact List.mem_append_right _ m)).1 hm
  by_cases nr : noRefL ds = true
  · rw [if_pos nr] at p
    refine ⟨_, [], ds, wd_in w false, repL_move (inF false) (inK false) ds vs nr r, ?_⟩
    have eα : (fun a => T.α a ∨ (false = true ∧ a ∈ T.ρ)) = T.α := by funext a; simp
    cases q : g ds [] with
    | ok d hc1 =>
      simp only [q, pureOf] at p
      cases z : outD depth hc1 d with
      | none => rw [z] at p; exact p.elim
      | some d' =>
        rw [z] at p
        intro T1 H1 e w1 v rv
        obtain ⟨e2, w2⟩ := stays (H' := H1) w fun b o hb => e.fr b o hb (by simp)
        refine p T H1 e2 w2 v ?_
        have := out false T1 H1 hc1 e w1 _ _ _ _ z rv
        rw [e.al, eα] at this
        exact this
    | exc c fs hc1 =>
      simp only [q, pureOf] at p
      cases z : outKV depth hc1 fs with
      | none => rw [z] at p; exact p.elim
      | some fs' =>
        rw [z] at p
        intro T1 H1 dd e w1 rx
        obtain ⟨e2, w2⟩ := stays (H' := H1) w fun b o hb => e.fr b o hb (by simp)
        refine p T H1 dd e2 w2 ?_
        rcases rx with ⟨h1, h2⟩ | ⟨a, ws, h1, h2, h3, h4⟩
        · subst h2
          simp only [outKV, Option.some.injEq] at z
          exact .inl ⟨h1, z.symm⟩
        · refine .inr ⟨a, ws, h1, h2, ?_, outKV_ne z h4⟩
          have := kv_way (out false T1 H1 hc1 e w1 depth) _ _ _ z h3
          rw [e.al, eα] at this
          exact this
    | bad => simp only [q, pureOf] at p; exact p.elim
  · rw [if_neg nr] at p
    cases qi : ds.mapM (inD depth hc) with
    | none => rw [qi] at p; exact p.elim
    | some ds' =>
      rw [qi] at p
      dsimp only at p
      have hR : ∀ a vs, a ∈ T.ρ → H a = some (.lst vs) → if false = true then SqF ⟨[], T.ρ ++ T.κ, fun a => T.α a ∨ (true = true ∧ a ∈ T.ρ)⟩ H a vs else SqK K ⟨[], T.ρ ++ T.κ, fun a => T.α a ∨ (true = true ∧ a ∈ T.ρ)⟩ H a vs := fun a vs hm hv =>
        .inl (.inr ⟨hv, .inr ⟨rfl, hm⟩⟩)
      refine ⟨_, [], ds', wd_in w true, mapM_rep (fun d d' v e rv => way_rep false w (inF true) (inK true) hR depth d d' v (by simpa using e) rv) _ _ _ qi r, ?_⟩
      have oF : ∀ (T1 : Tk) (H1 : Hp) a vs, SqF ⟨T.ρ, T.κ, T1.α⟩ H1 a vs → SqF T H1 a vs := fun _ _ _ _ h => h
      cases q : g ds' [] with
      | ok d hc1 =>
        simp only [q, pureOf] at p
        cases z : outD depth hc1 d with
        | none => rw [z] at p; exact p.elim
        | some d' =>
          rw [z] at p
          dsimp only at p
          split at p
          · next c =>
            intro T1 H1 e w1 v rv
            obtain ⟨e2, w2⟩ := stays (H' := H1) w fun b o hb => e.fr b o hb (by simp)
            exact p T H1 e2 w2 v (rep_moveK (oF T1 H1) _ _ c.2 c.1 (out true T1 H1 hc1 e w1 _ _ _ _ z rv))
          · exact p.elim
      | exc c fs hc1 =>
        simp only [q, pureOf] at p
        cases z : outKV depth hc1 fs with
        | none => rw [z] at p; exact p.elim
        | some fs' =>
          rw [z] at p
          dsimp only at p
          split at p
          · next cc =>
            intro T1 H1 dd e w1 rx
            obtain ⟨e2, w2⟩ := stays (H' := H1) w fun b o hb => e.fr b o hb (by simp)
            refine p T H1 dd e2 w2 ?_
            rcases rx with ⟨h1, h2⟩ | ⟨a, ws, h1, h2, h3, h4⟩
            · subst h2
              simp only [outKV, Option.some.injEq] at z
              exact .inl ⟨h1, z.symm⟩
            · exact .inr ⟨a, ws, h1, h2, kv_moveK (oF T1 H1) _ _ cc.2 cc.1 (kv_way (out true T1 H1 hc1 e w1 depth) _ _ _ z h3), outKV_ne z h4⟩
          · exact p.elim
      | bad => simp only [q, pureOf] at p; exact p.elim
end
end Cl
/-! A law's end. -/
namespace Cl
open PySem PySem.Spec PyProof.Rows L2
section
variable {P : Program} {w : World} {K : PySem.W.Frag} {mg : Str → Option Value} {base : Heap} {k : Nat}
theorem fs_cons {g : List D → M D} {gs : List (List D → M D)} {x : Str} {xs : List Str} (h : FnAt P w K mg base k x g) (r : ∀ (i : Nat) g, gs[i]? = some g → ∃ x, xs[i]? = some x ∧ FnAt P w K mg base k x g) :
    ∀ (i : Nat) g', (g :: gs)[i]? = some g' → ∃ y, (x :: xs)[i]? = some y ∧ FnAt P w K mg base k y g'
  | 0, g', q => by
    simp at q; subst q
    exact ⟨x, rfl, h⟩
  | i + 1, g', q => by
    obtain ⟨y, a, b⟩ := r i g' (by simpa using q)
    exact ⟨y, by simpa using a, b⟩
theorem fs_none {xs : List Str} : ∀ (i : Nat) (g : List D → M D), ([] : List (List D → M D))[i]? = some g → ∃ x, xs[i]? = some x ∧ FnAt P w K mg base k x g := fun i g q => by simp at q
/-- no constants -/
theorem cf_nil {C : Ck} : ClsF K mg C [] := ⟨fun i d q => by simp at q, fun j _ a q => by simp at q, fun j k _ a q => by simp at q, fun j ks b _ a q => by simp at q⟩
/-- a constant that is an int -/
theorem gc_int {x : Str} {i : Int} {t : Tok} (h : mg x = some (.int i t)) : GcAt K mg x (.int i) := ⟨.int i, .int i t, h, ⟨t, rfl⟩, fun T H => by simp only [Rep]⟩
theorem gc_cls {x : Str} {a : Addr} (h : mg x = some (.ref a)) : GcAt K mg x (.ob a) := ⟨.ref a, .ref a, h, rfl, fun T H => by simp only [Rep]⟩
/-- a level that is only asked for -/
theorem FnAt.zero {x : Str} (h : FnAt P w K mg base k x fun _ _ => .bad) : True := trivial
/-- nothing promised: any def that stands -/
theorem fnAt_bad {x : Str} {st : Stmt} {ps : List Str} (F : FF K mg x st ps) : FnAt P w K mg base k x (fun _ _ => .bad) := by
  obtain ⟨f, fd, F1, hm, b⟩ := F.ex
  exact ⟨f, fd, ps, ⟨fun vs H Q E h => by obtain ⟨T, hc, ds, _, _, p⟩ := h; exact p.elim, fun A outer s H args us vs Q E hr e0 hb r h => by obtain ⟨T, hc, ds, _, _, p⟩ := h; exact p.elim⟩, hm, F1.kp, b⟩
theorem gcs_nil {xs : List Str} : ∀ (i : Nat) d, ([] : List D)[i]? = some d → ∃ x, xs[i]? = some x ∧ GcAt K mg x d := fun i d q => by simp at q
theorem gcs_cons {d : D} {ds : List D} {x : Str} {xs : List Str} (h : GcAt K mg x d) (r : ∀ (i : Nat) d, ds[i]? = some d → ∃ x, xs[i]? = some x ∧ GcAt K mg x d) :
    ∀ (i : Nat) d', (d :: ds)[i]? = some d' → ∃ y, (x :: xs)[i]? = some y ∧ GcAt K mg y d'
  | 0, d', q => by
    simp at q; subst q
    exact ⟨x, rfl, h⟩
  | i + 1, d', q => by
    obtain ⟨y, a, b⟩ := r i d' (by simpa using q)
    exact ⟨y, by simpa using a, b⟩
theorem gc_intE {x : Str} {i : Int} (h : ∃ t, mg x = some (.int i t)) : GcAt K mg x (.int i) := by
  obtain ⟨t, h⟩ := h
  exact gc_int h
end
/-- the law's promise -/
theorem law_sp {K : PySem.W.Frag} {g : List D → M D} (hg : ∀ ns : List Int, ns.length ≤ 63 → ∃ hc, g [.kl (ns.map .int)] [] = .ok (.bl true) hc) (H : Hp) (a : Addr) (ns : List Int) (hl : ns.length ≤ 63) (ho : Only H) (hs : SqL K H a (ns.map V.int)) :
    spC K g [.ref a] H (fun v _ => v = .bl true) (fun _ _ _ => False) := by
  obtain ⟨hc, e⟩ := hg ns hl
  refine ⟨⟨[], [], fun b => ∃ o, H b = some o⟩, [], [.kl (ns.map .int)], ⟨List.nodup_nil, rfl, fun i o h => by simp at h, fun a h => (by cases h), fun a h => ⟨by simp, h⟩⟩, ?_, ?_⟩
  · refine RepL.cons ?_ RepL.nil
    simp only [Rep]
    refine ⟨a, ns.map V.int, rfl, ?_, ?_, repL_ints ns⟩
    · rcases hs with (h | h) | h
      · exact .inl (.inr ⟨h, _, h⟩)
      · exact .inl (.inl h)
      · exact .inr h
    · rw [List.length_map]
      have : (63 : Nat) ≤ sizeLine := by decide +kernel
      omega
  · rw [e]
    intro T' H' _ _ v r
    simpa only [Rep] using r
def specLaw (K : PySem.W.Frag) : Sp := fun vs H Q _ => ∃ (a : Addr) (ns : List Int), vs = [.ref a] ∧ ns.length ≤ 63 ∧ Only H ∧ SqL K H a (ns.map V.int) ∧ Q = fun v _ => v = .bl true
theorem specLaw_of {K : PySem.W.Frag} (H : Hp) (a : Addr) (ns : List Int) (hl : ns.length ≤ 63) (ho : Only H) (hs : SqL K H a (ns.map V.int)) : specLaw K [.ref a] H (fun v _ => v = .bl true) (fun _ _ _ => False) := ⟨a, ns, rfl, hl, ho, hs, rfl⟩
theorem specLaw_le {K : PySem.W.Frag} {g : List D → M D} (hg : ∀ ns : List Int, ns.length ≤ 63 → ∃ hc, g [.kl (ns.map .int)] [] = .ok (.bl true) hc) (vs : List V) (H : Hp) (Q : VK) (E : XK) (h : specLaw K vs H Q E) : spC K g vs H Q E := by
  obtain ⟨a, ns, rfl, hl, ho, hs, rfl⟩ := h
  obtain ⟨T, hc, ds, w, r, p⟩ := law_sp hg H a ns hl ho hs
  refine ⟨T, hc, ds, w, r, ?_⟩
  obtain ⟨hc', e⟩ := hg ns hl
  cases q : g ds hc with
  | ok d h' => rw [q] at p; exact p
  | exc c fs h' => rw [q] at p; exact fun T' H' dd e w rx => (p T' H' dd e w rx).elim
  | bad => rw [q] at p; exact p.elim
theorem cx_none {P : Program} {w : World} (H : Hp) (s : Shared) (e : Value) (s' : Shared) (h : L2.CX P w [] H s (fun _ _ _ => False) e s') : False := by
  obtain ⟨_, _, _, _, _, _, _, _, _, _, _, _, z⟩ := h
  exact z
end Cl
/-! To compute with the small language. -/
namespace Cl
open PySem PySem.Spec PyProof.Rows L2
/-! ### sizes -/
theorem mulOk_r {i j : Int} (h : -(2 ^ 64) < j) (h' : j < 2 ^ 64) : MulOk i j := .inl (.inr ⟨h, h'⟩)
theorem mulOk_l {i j : Int} (h : -(2 ^ 64) < i) (h' : i < 2 ^ 64) : MulOk i j := .inl (.inl ⟨h, h'⟩)
theorem log2_lt {n k : Nat} (h : n < 2 ^ k) (hk : 0 < k) : n.log2 < k := by
  by_cases z : n = 0
  · subst z; simpa using hk
  · exact (Nat.log2_lt z).mpr h
theorem divOk_of {j : Int} (h0 : j ≠ 0) (h : j.natAbs < 2 ^ 200) : DivOk j := ⟨h0, Nat.lt_trans (log2_lt h (by decide)) (by decide)⟩
theorem divOk_pos {j : Int} (h0 : 0 < j) (h : j < 2 ^ 200) : DivOk j := divOk_of (by omega) (by
  have e : (j.natAbs : Int) = j := by omega
  have h' : (j.natAbs : Int) < ((2 ^ 200 : Nat) : Int) := by rw [e]; exact_mod_cast h
  exact_mod_cast h')
/-! ### one statement behind the other -/
theorem seq_nx {G : Gt} {C : List D} {a b : S} {env env' : Env} {h h' : Hc} (e : semS G C a env h = .nx env' h') : semS G C (.seq a b) env h = semS G C b env' h' := by
  simp only [semS, e]
theorem seq_rt {G : Gt} {C : List D} {a b : S} {env : Env} {h h' : Hc} {d : D} (e : semS G C a env h = .rt d h') : semS G C (.seq a b) env h = .rt d h' := by
  simp only [semS, e]
/-! ### a def -/
theorem runF_rt {s : Env → Hc → Out} {p n : Nat} {ds : List D} {hc h : Hc} {d : D} (env : Env) (e : s env hc = .rt d h) (hl : ds.length = p := by rfl) (he : ds.map some ++ List.replicate (n - p) none = env := by rfl) : runF s p n ds hc = .ok d h := by
  unfold runF; rw [if_pos hl, he, e]
/-! ### loops -/
/-- a comprehension whose turns change nothing -/
theorem comp_pure {α : Type} {tg : Tg} {env : Env} {f : Env → M (Option D)} {h : Hc} (l : List α) (emb : α → D) (o : α → Option D)
    (hs : ∀ a ∈ l, ∃ e, setTg tg (emb a) env h = .ok e h ∧ f e h = .ok (o a) h) : compL tg env [] f (l.map emb) h = .ok (l.filterMap o) h := by
  induction l with
  | nil => simp only [List.map_nil, compL, depOk_nil, List.filterMap_nil, pur]
  | cons a l ih =>
    obtain ⟨e, e1, e2⟩ := hs a List.mem_cons_self
    have ih' := ih fun b hb => hs b (List.mem_cons_of_mem _ hb)
    simp only [List.map_cons, compL, depOk_nil, bnd, e1, e2, ih', pur, List.filterMap_cons]
    cases o a <;> rfl
theorem rangeD_eq (lo : Int) (n : Nat) : rangeD lo n = (List.range n).map fun (i : Nat) => D.int (lo + (i : Int)) := rfl
/-! ### values without refs -/
theorem noRefL_map {α : Type} {f : α → D} (h : ∀ a, noRef (f a) = true) : ∀ l : List α, noRefL (l.map f) = true
  | [] => rfl
  | a :: l => by simp only [List.map_cons, noRefL, h a, noRefL_map h l, Bool.and_self]
@[simp] theorem noRefL_ints (l : List Int) : noRefL (l.map D.int) = true := noRefL_map (fun _ => rfl) l
theorem outD_pure {n : Nat} {hc : Hc} {d : D} (h : noRef d = true) : outD n hc d = some d := by
  cases n <;> simp only [outD, h, if_true]
theorem liftP_ok {g : List D → PR} {ds : List D} {d : D} {hc : Hc} (n : noRefL ds = true) (h : g ds = .ok d) : liftP g ds hc = .ok d hc := by
  unfold liftP; rw [if_pos n, h]
theorem pureOf_ok {d : D} {hc : Hc} (h : noRef d = true) : pureOf (.ok d hc) = .ok d := by
  simp only [pureOf, outD_pure h]
end Cl
/-! What all laws' texts have alike. -/
namespace Cl
open PySem PySem.Spec PyProof.Rows L2
def ir_law_box_0 : S := (.ret (.trk (.lst (.cons (.trk (.bn .list (.cons (.slcL (.var 0) .nil (.int 63)) .nil))) (.cons (.int 0) (.cons (.bin .Add (.int 4711) (.bi .len (.cons (.var 0) .nil))) .nil))))))
def ir_law_box : S := (.seq ir_law_box_0 .nop)
def ir_law_load_5 : S := (.ret (.bin .Add (.bin .Add (.bin .Mult (.var 4) (.int 4611686014132420609)) (.bin .Mult (.var 5) (.int 2147483647))) (.idx (.var 0) (.int 2))))
def ir_law_load_4 : S := (.asg (.sub (.var 0) (.int 2)) (.bin .Mod (.bi .int (.cons (.bin .Add (.bin .Mult (.var 5) (.int 40692)) (.int 3)) .nil)) (.int 2147483563)))
def ir_law_load_3 : S := (.asg (.tg (.nm 5)) (.bin .Mod (.bi .int (.cons (.bin .Add (.bin .Mult (.var 4) (.int 69621)) (.int 5)) .nil)) (.int 2147483587)))
def ir_law_load_2 : S := (.asg (.tg (.nm 4)) (.bin .Mod (.bi .int (.cons (.bin .Add (.bin .Mult (.idx (.var 0) (.int 2)) (.int 48271)) (.int 17)) .nil)) (.int 2147483629)))
def ir_law_load_1 : S := (.ite (.cmp .Gt (.bi .len (.cons (.var 1) .nil)) (.int 0)) (.seq (.asg (.tg (.nm 2)) (.bi .int (.cons (.popAt (.var 1) (.int 0)) .nil))) (.seq (.asg (.tg (.nm 3)) (.ite (.cmp .GtE (.var 2) (.int 0)) (.bin .Mult (.int 2) (.var 2)) (.bin .Sub (.bin .Mult (.neg (.int 2)) (.var 2)) (.int 1)))) (.seq (.ite (.cmp .GtE (.var 3) (.int 1000000000000000000)) (.seq (.ret (.var 3)) .nop) .nop) (.seq (.asg (.sub (.var 0) (.int 2)) (.bin .Mod (.bi .int (.cons (.bin .Add (.bin .Add (.bin .Mult (.idx (.var 0) (.int 2)) (.int 69621)) (.bin .Mult (.var 3) (.int 48271))) (.int 11)) .nil)) (.int 2147483647))) .nop)))) .nop)
def ir_law_load_0 : S := (.asg (.tg (.nm 1)) (.idx (.var 0) (.int 0)))
def ir_law_load : S := (.seq ir_law_load_0 (.seq ir_law_load_1 (.seq ir_law_load_2 (.seq ir_law_load_3 (.seq ir_law_load_4 (.seq ir_law_load_5 .nop))))))
def ir_law_draw_3 : S := (.ret (.var 2))
def ir_law_draw_2 : S := (.asg (.sub (.var 0) (.int 1)) (.bin .FloorDiv (.idx (.var 0) (.int 1)) (.var 1)))
def ir_law_draw_1 : S := (.asg (.tg (.nm 2)) (.bin .Mod (.bi .int (.cons (.idx (.var 0) (.int 1)) .nil)) (.var 1)))
def ir_law_draw_0 : S := (.ite (.cmp .Lt (.idx (.var 0) (.int 1)) (.var 1)) (.seq (.asg (.sub (.var 0) (.int 1)) (.call 0 (.cons (.var 0) .nil))) .nop) .nop)
def ir_law_draw : S := (.seq ir_law_draw_0 (.seq ir_law_draw_1 (.seq ir_law_draw_2 (.seq ir_law_draw_3 .nop))))
def ir_law_same_3 : S := (.ret (.and (.cmp .Is (.var 0) .non) (.cmp .Is (.var 1) .non)))
def ir_law_same_2 : S := (.ite (.or (.and (.isa (.var 0) ["int"]) (.isa (.var 1) ["int"])) (.and (.isa (.var 0) ["str"]) (.isa (.var 1) ["str"]))) (.seq (.ret (.cmp .Eq (.var 0) (.var 1))) .nop) .nop)
def ir_law_same_1 : S := (.ite (.or (.isa (.var 0) ["bool"]) (.isa (.var 1) ["bool"])) (.seq (.ret (.and (.isa (.var 0) ["bool"]) (.and (.isa (.var 1) ["bool"]) (.cmp .Eq (.var 0) (.var 1))))) .nop) .nop)
def ir_law_same_0 : S := (.ite (.or (.and (.isa (.var 0) ["tuple"]) (.isa (.var 1) ["tuple"])) (.and (.isa (.var 0) ["list"]) (.isa (.var 1) ["list"]))) (.seq (.ret (.and (.cmp .Eq (.bi .len (.cons (.var 0) .nil)) (.bi .len (.cons (.var 1) .nil))) (.bi .all (.cons (.comp [2] (.nm 2) (.rng1 (.bi .len (.cons (.var 0) .nil))) .nil (.call 0 (.cons (.idx (.var 0) (.var 2)) (.cons (.idx (.var 1) (.var 2)) .nil)))) .nil)))) .nop) .nop)
def ir_law_same : S := (.seq ir_law_same_0 (.seq ir_law_same_1 (.seq ir_law_same_2 (.seq ir_law_same_3 .nop))))
noncomputable def g_law_box : List D → M D := runF (semS { tab := [] } [] ir_law_box) 1 1
noncomputable def g_law_load : List D → M D := runF (semS { tab := [] } [] ir_law_load) 1 6
noncomputable def g_law_draw : List D → M D := runF (semS { tab := [g_law_load] } [] ir_law_draw) 2 3
noncomputable def p_law_same : Nat → List D → PR
  | 0 => fun _ => .bad
  | n + 1 => fun ds => pureOf (runF (semS { tab := [(liftP (p_law_same n))] } [] ir_law_same) 2 3 ds [])
/-! ### drawing -/
abbrev boxH (cells : List Int) (d s : Int) (rest : Hc) : Hc := .lst (cells.map .int) :: .lst [.ref 0, .int d, .int s] :: rest
theorem cut63 {xs : List D} (h : xs.length ≤ 63) : cutD xs none (some 63) = xs := by
  unfold cutD
  rw [show HT.sIx xs.length xs.length (some 63) = min 63 xs.length from HT.sIx_nat xs.length _ 63, HT.sIx_none, Nat.min_eq_right h]
  simp
theorem ev_box {ns : List Int} (h : ns.length ≤ 63) : g_law_box [.kl (ns.map .int)] [] = .ok (.ref 1) (boxH ns 0 (4711 + ns.length) []) := by
  simp [g_law_box, runF, ir_law_box, ir_law_box_0, semS, semE, semA, semN, semO, exS, bnd, optM, pur, bnM, seqM, cut63 (xs := ns.map D.int) (by simpa using h), binM, biM, lenM, intM, Cl.guard, sizeLine_eq]
theorem mk1 {i : Int} (c : Int) (h : -(2 ^ 64) < c := by decide) (h' : c < 2 ^ 64 := by decide) : MulOk i c := mulOk_r h h'
theorem mk2 {i : Int} (c : Int) (h : -(2 ^ 64) < c := by decide) (h' : c < 2 ^ 64 := by decide) : MulOk c i := mulOk_l h h'
theorem load_tail (cells : List Int) (d s : Int) (rest : Hc) (o1 o2 o3 : Option D) : ∃ r s', semS { tab := [] } [] (.seq ir_law_load_2 (.seq ir_law_load_3 (.seq ir_law_load_4 (.seq ir_law_load_5 .nop)))) [some (.ref 1), o1, o2, o3, none, none] (boxH cells d s rest) = .rt (.int r) (boxH cells d s' rest) := by
  rw [seq_nx (env' := [some (.ref 1), o1, o2, o3, some (.int ((s * 48271 + 17).fmod 2147483629)), none]) (h' := boxH cells d s rest)]
  · rw [seq_nx (env' := [some (.ref 1), o1, o2, o3, some (.int ((s * 48271 + 17).fmod 2147483629)), some (.int (((s * 48271 + 17).fmod 2147483629 * 69621 + 5).fmod 2147483587))]) (h' := boxH cells d s rest)]
    · generalize (s * 48271 + 17).fmod 2147483629 = f
      generalize (f * 69621 + 5).fmod 2147483587 = g
      refine ⟨f * 4611686014132420609 + g * 2147483647 + (g * 40692 + 3).fmod 2147483563, (g * 40692 + 3).fmod 2147483563, ?_⟩
      rw [seq_nx (env' := [some (.ref 1), o1, o2, o3, some (.int f), some (.int g)]) (h' := boxH cells d ((g * 40692 + 3).fmod 2147483563) rest)]
      · refine seq_rt ?_
        simp [ir_law_load_5, semS, semE, semA, exS, bnd, optM, pur, binM, idxM, seqM, lstAt, Cl.guard, mk1 4611686014132420609, mk1 2147483647, atI, ixN]
      · simp [ir_law_load_4, semS, semE, semA, exS, bnd, optM, pur, binM, biM, lstAt, putAt, ixN, Cl.guard, mk1 40692]
    · simp [ir_law_load_3, semS, semE, semA, exS, bnd, optM, pur, binM, biM, setTg, Cl.guard, mk1 69621]
  · simp [ir_law_load_2, semS, semE, semA, exS, bnd, optM, pur, binM, biM, idxM, seqM, lstAt, setTg, Cl.guard, mk1 48271, atI, ixN]
theorem load_main (cells : List Int) (d s : Int) (rest : Hc) : ∃ r cells' s', semS { tab := [] } [] ir_law_load [some (D.ref 1), none, none, none, none, none] (boxH cells d s rest) = .rt (.int r) (boxH cells' d s' rest) := by
  unfold ir_law_load
  rw [seq_nx (env' := [some (.ref 1), some (.ref 0), none, none, none, none]) (h' := boxH cells d s rest)]
  · cases cells with
    | nil =>
      rw [seq_nx (env' := [some (.ref 1), some (.ref 0), none, none, none, none]) (h' := boxH [] d s rest)]
      · obtain ⟨r, s', e⟩ := load_tail [] d s rest (some (.ref 0)) none none
        exact ⟨r, [], s', by rw [e]⟩
      · simp [ir_law_load_1, semS, semE, semA, exS, bnd, optM, pur, biM, lenM, cmpM, cmpI, truM]
    | cons c cs =>
      have hp : semS { tab := [] } [] ir_law_load_1 [some (.ref 1), some (.ref 0), none, none, none, none] (boxH (c :: cs) d s rest) =
          if (1000000000000000000 : Int) ≤ (if 0 ≤ c then 2 * c else -2 * c - 1) then .rt (.int (if 0 ≤ c then 2 * c else -2 * c - 1)) (boxH cs d s rest)
          else .nx [some (.ref 1), some (.ref 0), some (.int c), some (.int (if 0 ≤ c then 2 * c else -2 * c - 1)), none, none] (boxH cs d ((s * 69621 + (if 0 ≤ c then 2 * c else -2 * c - 1) * 48271 + 11).fmod 2147483647) rest) := by
        by_cases h0 : 0 ≤ c
        · by_cases h1 : 1000000000000000000 ≤ 2 * c
          · simp [ir_law_load_1, semS, semE, semA, exS, bnd, optM, pur, biM, lenM, cmpM, cmpI, truM, setTg, lstAt, putAt, intM, Cl.guard, seqIndex?, h0, h1, binM, mk2 2]
          · simp [ir_law_load_1, semS, semE, semA, exS, bnd, optM, pur, biM, lenM, cmpM, cmpI, truM, setTg, lstAt, putAt, intM, Cl.guard, seqIndex?, h0, h1, binM, mk2 2, mk1 69621, mk1 48271, idxM, seqM, atI, ixN]
        · by_cases h1 : 1000000000000000000 ≤ -2 * c - 1
          · simp [ir_law_load_1, semS, semE, semA, exS, bnd, optM, pur, biM, lenM, cmpM, cmpI, truM, setTg, lstAt, putAt, intM, Cl.guard, seqIndex?, h0, h1, binM, mk2 (-2)]
          · simp [ir_law_load_1, semS, semE, semA, exS, bnd, optM, pur, biM, lenM, cmpM, cmpI, truM, setTg, lstAt, putAt, intM, Cl.guard, seqIndex?, h0, h1, binM, mk2 (-2), mk1 69621, mk1 48271, idxM, seqM, atI, ixN]
      by_cases h1 : (1000000000000000000 : Int) ≤ (if 0 ≤ c then 2 * c else -2 * c - 1)
      · rw [if_pos h1] at hp
        exact ⟨_, cs, s, seq_rt hp⟩
      · rw [if_neg h1] at hp
        obtain ⟨r, s', e⟩ := load_tail cs d ((s * 69621 + (if 0 ≤ c then 2 * c else -2 * c - 1) * 48271 + 11).fmod 2147483647) rest (some (.ref 0)) (some (.int c)) (some (.int (if 0 ≤ c then 2 * c else -2 * c - 1)))
        exact ⟨r, cs, s', by rw [seq_nx hp, e]⟩
  · simp [ir_law_load_0, semS, semE, semA, exS, bnd, optM, pur, idxM, seqM, lstAt, setTg, atI, ixN]
theorem ev_load (cells : List Int) (d s : Int) (rest : Hc) : ∃ r cells' s', g_law_load [.ref 1] (boxH cells d s rest) = .ok (.int r) (boxH cells' d s' rest) := by
  obtain ⟨r, cells', s', e⟩ := load_main cells d s rest
  exact ⟨r, cells', s', runF_rt _ e⟩
theorem fmod_lt {a b : Int} (h : 0 < b) : 0 ≤ a.fmod b ∧ a.fmod b < b := by
  rw [Int.fmod_eq_emod_of_nonneg _ (Int.le_of_lt h)]
  exact ⟨Int.emod_nonneg _ (by omega), Int.emod_lt_of_pos _ h⟩
theorem ev_draw (cells : List Int) (d s : Int) (rest : Hc) {many : Int} (h : 0 < many) (h2 : many < 2 ^ 200) : ∃ r cells' d' s', g_law_draw [.ref 1, .int many] (boxH cells d s rest) = .ok (.int r) (boxH cells' d' s' rest) ∧ 0 ≤ r ∧ r < many := by
  have e1 : ∃ cells' d' s', semS { tab := [g_law_load] } [] ir_law_draw_0 [some (D.ref 1), some (.int many), none] (boxH cells d s rest) = .nx [some (D.ref 1), some (.int many), none] (boxH cells' d' s' rest) := by
    by_cases hl : d < many
    · obtain ⟨r, cells', s', e⟩ := ev_load cells d s rest
      refine ⟨cells', r, s', ?_⟩
      simp [ir_law_draw_0, semS, semE, semA, exS, bnd, optM, pur, cmpM, ltM, truM, idxM, seqM, lstAt, atI, ixN, hl, e, putAt]
    · refine ⟨cells, d, s, ?_⟩
      simp [ir_law_draw_0, semS, semE, semA, exS, bnd, optM, pur, cmpM, ltM, truM, idxM, seqM, lstAt, atI, ixN, hl]
  obtain ⟨cells', d', s', e1⟩ := e1
  have dk : DivOk many := divOk_pos h h2
  have hn : many ≠ 0 := by omega
  refine ⟨d'.fmod many, cells', d'.fdiv many, s', ?_, (fmod_lt h).1, (fmod_lt h).2⟩
  refine runF_rt [some (D.ref 1), some (.int many), none] ?_
  unfold ir_law_draw
  rw [seq_nx e1, seq_nx (env' := [some (D.ref 1), some (.int many), some (.int (d'.fmod many))]) (h' := boxH cells' d' s' rest)]
  · rw [seq_nx (env' := [some (D.ref 1), some (.int many), some (.int (d'.fmod many))]) (h' := boxH cells' (d'.fdiv many) s' rest)]
    · refine seq_rt ?_
      simp [ir_law_draw_3, semS, semE, exS, optM, pur]
    · simp [ir_law_draw_2, semS, semE, semA, exS, bnd, optM, pur, binM, idxM, seqM, lstAt, putAt, atI, ixN, Cl.guard, dk]
  · simp [ir_law_draw_1, semS, semE, semA, exS, bnd, optM, pur, binM, biM, idxM, seqM, lstAt, setTg, atI, ixN, Cl.guard, hn]
end Cl
namespace Cl
open PySem PySem.Spec PyProof.Rows L2
@[simp] theorem eqM_int (i j : Int) (h : Hc) : eqM (.int i) (.int j) h = .ok (decide (i = j)) h := by
  simp [eqM, toPyH, toPy, SeqAt.shaped, PyData.canLay0, PyData.depth, PyData.eqv]
  rfl
@[simp] theorem eqM_bl (i j : Bool) (h : Hc) : eqM (.bl i) (.bl j) h = .ok (decide (i = j)) h := by
  simp [eqM, toPyH, toPy, SeqAt.shaped, PyData.canLay0, PyData.depth, PyData.eqv]
  cases i <;> cases j <;> rfl
theorem eqM_str {x y : Str} (hx : PyData.strOk x = true) (hy : PyData.strOk y = true) (h : Hc) : eqM (.str x) (.str y) h = .ok (decide (x = y)) h := by
  simp [eqM, toPyH, toPy, SeqAt.shaped, PyData.canLay0, PyData.depth, PyData.eqv, hx, hy]
  rfl
/-- plain data, n deep -/
def datD : Nat → D → Bool
  | _, .non => true
  | _, .bl _ => true
  | _, .int _ => true
  | _, .str x => PyData.strOk x
  | n + 1, .tup xs => decide (xs.length ≤ sizeLine) && xs.all (datD n)
  | n + 1, .fl xs => decide (xs.length ≤ sizeLine) && xs.all (datD n)
  | n + 1, .kl xs => decide (xs.length ≤ sizeLine) && xs.all (datD n)
  | _, _ => false
theorem noRefL_of : ∀ {xs : List D}, (∀ x ∈ xs, noRef x = true) → noRefL xs = true
  | [], _ => rfl
  | x :: xs, h => by
    simp only [noRefL, h x List.mem_cons_self, noRefL_of fun y hy => h y (List.mem_cons_of_mem _ hy), Bool.and_self]
theorem datD_noRef : ∀ {n : Nat} {d : D}, datD n d = true → noRef d = true := by
  intro n
  induction n with
  | zero => intro d h; cases d <;> first | rfl | (simp [datD] at h)
  | succ n ih =>
    intro d h
    cases d with
    | tup xs => simp only [datD, Bool.and_eq_true, List.all_eq_true] at h; exact noRefL_of fun x hx => ih (h.2 x hx)
    | fl xs => simp only [datD, Bool.and_eq_true, List.all_eq_true] at h; exact noRefL_of fun x hx => ih (h.2 x hx)
    | kl xs => simp only [datD, Bool.and_eq_true, List.all_eq_true] at h; exact noRefL_of fun x hx => ih (h.2 x hx)
    | _ => first | rfl | (simp [datD] at h)
theorem blsD_trues : ∀ n : Nat, blsD (List.replicate n (.bl true)) = some (List.replicate n true)
  | 0 => rfl
  | n + 1 => by simp [List.replicate_succ, blsD, blsD_trues n]
theorem rg_len {n : Nat} (h : n ≤ sizeLine) : Rg (n : Int) := by
  have z : sizeLine < 4611686018427387904 := by decide +kernel
  unfold Rg
  constructor
  · have : (0 : Int) ≤ (n : Int) := Int.natCast_nonneg n
    exact Int.le_trans (by decide) this
  · have h2 : n < 4611686018427387904 := Nat.lt_of_le_of_lt h z
    have h3 : (n : Int) < ((4611686018427387904 : Nat) : Int) := Int.ofNat_lt.mpr h2
    exact h3
theorem fm_const {α β : Type} (b : β) (l : List α) : l.filterMap (fun _ => some b) = List.replicate l.length b := by
  induction l with
  | nil => rfl
  | cons a l ih => simp [List.filterMap_cons, ih, List.replicate_succ]
/-- all the items compared alike -/
theorem same_items {g : List D → M D} {xs : List D} {a b : D} (hl : xs.length ≤ sizeLine) (ha : ∀ i h, idxM a (.int i) h = (optM (atI xs i) : M D) h) (hb : ∀ i h, idxM b (.int i) h = (optM (atI xs i) : M D) h) (la : ∀ h, lenM a h = .ok (.int xs.length) h)
    (hg : ∀ x ∈ xs, ∀ h, g [x, x] h = .ok (.bl true) h) :
    semE { tab := [g] } [] (.bi .all (.cons (.comp [2] (.nm 2) (.rng1 (.bi .len (.cons (.var 0) .nil))) .nil (.call 0 (.cons (.idx (.var 0) (.var 2)) (.cons (.idx (.var 1) (.var 2)) .nil)))) .nil)) [some a, some b, none] [] = .ok (.bl true) [] := by
  have rg : Rg (xs.length : Int) := rg_len hl
  have hsl := hl
  have key := comp_pure (tg := .nm 2) (env := [some a, some b, none]) (f := fun e => bnd (semE { tab := [g] } [] (.call 0 (.cons (.idx (.var 0) (.var 2)) (.cons (.idx (.var 1) (.var 2)) .nil))) e) fun d => pur (some d)) (h := []) (List.range xs.length) (fun (i : Nat) => D.int (0 + (i : Int))) (fun _ => some (.bl true)) (fun i hi => ?_)
  · rw [fm_const, List.length_range] at key
    have h1 : semI { tab := [g] } [] (.rng1 (.bi .len (.cons (.var 0) .nil))) [some a, some b, none] [] = .ok ⟨rangeD 0 xs.length, []⟩ [] := by
      have e0 : semE { tab := [g] } [] (.bi .len (.cons (.var 0) .nil)) [some a, some b, none] [] = .ok (.int xs.length) [] := by
        simp [semE, semA, bnd, optM, pur, biM, la]
      simp only [semI, bnd, e0, intM, pur, guard_true _ rg, Int.toNat_natCast]
    have hl2 : (rangeD 0 xs.length).length ≤ sizeLine := by simpa [rangeD] using hl
    have h2 : semN { tab := [g] } [] (.comp [2] (.nm 2) (.rng1 (.bi .len (.cons (.var 0) .nil))) .nil (.call 0 (.cons (.idx (.var 0) (.var 2)) (.cons (.idx (.var 1) (.var 2)) .nil)))) [some a, some b, none] [] = .ok (List.replicate xs.length (.bl true)) [] := by
      simp only [semN, bnd, h1, guard_true _ hl2, calmly, wipeE]
      rw [rangeD_eq]
      simp only [List.set_cons_succ, List.set_cons_zero, key]
    have h3 : semE { tab := [g] } [] (.comp [2] (.nm 2) (.rng1 (.bi .len (.cons (.var 0) .nil))) .nil (.call 0 (.cons (.idx (.var 0) (.var 2)) (.cons (.idx (.var 1) (.var 2)) .nil)))) [some a, some b, none] [] = .ok (.fl (List.replicate xs.length (.bl true))) [] := by
      simp only [semE, bnd, h2, pur]
    have h4 : semE { tab := [g] } [] (.bi .all (.cons (.comp [2] (.nm 2) (.rng1 (.bi .len (.cons (.var 0) .nil))) .nil (.call 0 (.cons (.idx (.var 0) (.var 2)) (.cons (.idx (.var 1) (.var 2)) .nil)))) .nil)) [some a, some b, none] [] =
        (bnd (bnd (semE { tab := [g] } [] (.comp [2] (.nm 2) (.rng1 (.bi .len (.cons (.var 0) .nil))) .nil (.call 0 (.cons (.idx (.var 0) (.var 2)) (.cons (.idx (.var 1) (.var 2)) .nil)))) [some a, some b, none]) fun x => pur [x]) fun xs => biM .all xs) [] := by
      rw [semE, semA, semA]
      rfl
    rw [h4]
    simp only [bnd, h3, pur, biM, seqM, blsD_trues, optM]
    simp
  · rw [List.mem_range] at hi
    have hx : atI xs (i : Int) = some xs[i] := by simp [atI, ixN, hi]
    refine ⟨[some a, some b, some (.int i)], by simp [setTg, pur], ?_⟩
    simp [semE, semA, bnd, optM, pur, ha, hb, hx, hg xs[i] (List.getElem_mem hi)]
theorem ev_same_refl : ∀ (n : Nat) (d : D), datD n d = true → p_law_same (n + 1) [d, d] = .ok (.bl true) := by
  intro n
  induction n with
  | zero =>
    intro d h
    unfold p_law_same
    refine (congrArg pureOf (runF_rt (d := .bl true) (h := []) [some d, some d, none] ?_)).trans (pureOf_ok rfl)
    cases d <;> simp [datD] at h <;> simp [ir_law_same, ir_law_same_0, ir_law_same_1, ir_law_same_2, ir_law_same_3, semS, semE, exS, bnd, optM, pur, isaM, tyM, tyName, truM, cmpM, isM, isNon, eqM_str, h]
  | succ n ih =>
    intro d h
    unfold p_law_same
    refine (congrArg pureOf (runF_rt (d := .bl true) (h := []) [some d, some d, none] ?_)).trans (pureOf_ok rfl)
    have seqs : ∀ xs : List D, xs.all (datD n) = true → ∀ x ∈ xs, ∀ h, liftP (p_law_same (n + 1)) [x, x] h = .ok (.bl true) h := fun xs ha x hx h => by
      have hd := List.all_eq_true.mp ha x hx
      exact liftP_ok (by simp [noRefL, datD_noRef hd]) (ih x hd)
    have lists : ∀ (a : D) (xs : List D) (t : String), (∀ i h, idxM a (.int i) h = (optM (atI xs i) : M D) h) → (∀ h, lenM a h = .ok (.int xs.length) h) → (t = "tuple" ∨ t = "list") → (∀ h, tyM a h = .ok t h) → xs.length ≤ sizeLine → xs.all (datD n) = true →
        semS { tab := [liftP (p_law_same (n + 1))] } [] ir_law_same [some a, some a, none] [] = .rt (.bl true) [] := fun a xs t hi hl ht hy hz hx => by
      have key := same_items (g := liftP (p_law_same (n + 1))) (xs := xs) (a := a) (b := a) hz hi hi hl (seqs xs hx)
      generalize hI : I.bi Bi.all (I.cons (I.comp [2] (Tg.nm 2) (I.rng1 (I.bi Bi.len (I.cons (I.var 0) I.nil))) I.nil (I.call 0 (I.cons (I.idx (I.var 0) (I.var 2)) (I.cons (I.idx (I.var 1) (I.var 2)) I.nil)))) I.nil) = T at key
      unfold ir_law_same
      refine seq_rt ?_
      unfold ir_law_same_0
      rw [hI]
      rcases ht with ht | ht <;> subst ht <;> simp [semS, semE, semA, exS, bnd, optM, pur, isaM, hy, truM, cmpM, biM, hl, key]
    cases d with
    | tup xs =>
      simp only [datD, Bool.and_eq_true, decide_eq_true_eq] at h
      exact lists _ xs "tuple" (fun i h => rfl) (fun h => rfl) (.inl rfl) (fun h => rfl) h.1 h.2
    | fl xs =>
      simp only [datD, Bool.and_eq_true, decide_eq_true_eq] at h
      exact lists _ xs "list" (fun i h => rfl) (fun h => rfl) (.inr rfl) (fun h => rfl) h.1 h.2
    | kl xs =>
      simp only [datD, Bool.and_eq_true, decide_eq_true_eq] at h
      exact lists _ xs "list" (fun i h => rfl) (fun h => rfl) (.inr rfl) (fun h => rfl) h.1 h.2
    | _ => (first | (simp [datD] at h; done) | (try simp [datD] at h)) <;> simp [ir_law_same, ir_law_same_0, ir_law_same_1, ir_law_same_2, ir_law_same_3, semS, semE, exS, bnd, optM, pur, isaM, tyM, tyName, truM, cmpM, isM, isNon, eqM_str, h]
end Cl
/-! To compute with the small language, 2: sizes, comprehensions, the box. -/
namespace Cl
open PySem PySem.Spec PyProof.Rows L2
/-! ### sizes: to be used with simp (disch := omega) -/
theorem gmul_r {α : Type} {i j : Int} {m : M α} (h : -18446744073709551616 < j) (h' : j < 18446744073709551616) : Cl.guard (MulOk i j) m = m := if_pos (mulOk_r h h')
theorem gmul_l {α : Type} {i j : Int} {m : M α} (h : -18446744073709551616 < i) (h' : i < 18446744073709551616) : Cl.guard (MulOk i j) m = m := if_pos (mulOk_l h h')
theorem gdiv {α : Type} {j : Int} {m : M α} (h : 0 < j) (h' : j < 1606938044258990275541962092341162602522202993782792835301376) : Cl.guard (DivOk j) m = m := if_pos (divOk_pos h h')
theorem gmod {α : Type} {j : Int} {m : M α} (h : j ≠ 0) : Cl.guard (j ≠ 0) m = m := if_pos h
theorem gmod' {α : Type} {j : Int} {m : M α} (h : ¬ j = 0) : Cl.guard (¬ j = 0) m = m := if_pos h
theorem fdiv_pos {i j : Int} (h : 0 ≤ j) : i.fdiv j = i / j := Int.fdiv_eq_ediv_of_nonneg _ h
theorem fmod_pos {i j : Int} (h : 0 ≤ j) : i.fmod j = i % j := Int.fmod_eq_emod_of_nonneg _ h
theorem grg {α : Type} {i : Int} {m : M α} (h : -4611686018427387904 ≤ i) (h' : i < 4611686018427387904) : Cl.guard (Rg i) m = m := if_pos ⟨h, h'⟩
theorem grg2 {α : Type} {i j : Int} {m : M α} (h : -4611686018427387904 ≤ i) (h' : i < 4611686018427387904) (g : -4611686018427387904 ≤ j) (g' : j < 4611686018427387904) : Cl.guard (Rg i ∧ Rg j) m = m := if_pos ⟨⟨h, h'⟩, g, g'⟩
theorem sl_big {n : Nat} (h : n ≤ 16000000) : n ≤ sizeLine := Nat.le_trans h (by decide +kernel)
theorem gsz {α : Type} {n : Nat} {m : M α} (h : n ≤ 16000000) : Cl.guard (n ≤ sizeLine) m = m := if_pos (sl_big h)
theorem gle {α : Type} {m : M α} {c : Prop} (h : c) : Cl.guard c m = m := if_pos h
/-! ### items -/
theorem atI_pos {α : Type} {xs : List α} {i : Int} (h0 : 0 ≤ i) : atI xs i = xs[i.toNat]? := by
  unfold atI ixN
  rw [if_pos h0]
  by_cases h : i < xs.length
  · rw [if_pos h]; rfl
  · rw [if_neg h]
    symm
    exact List.getElem?_eq_none_iff.mpr (by omega)
/-! ### comprehensions -/
section
variable {G : Gt} {C : List D} {own : List Nat} {tg : Tg} {src ifs elt : I} {env : Env} {h : Hc} {α β : Type}
theorem comp_map (l : List α) (emb : α → D) (f : α → D) (hs : semI G C src env h = .ok ⟨l.map emb, []⟩ h) (hl : l.length ≤ 16000000)
    (step : ∀ a ∈ l, ∃ e, setTg tg (emb a) (wipeE env own) h = .ok e h ∧ semE G C elt e h = .ok (f a) h) : semN G C (.comp own tg src .nil elt) env h = .ok (l.map f) h := by
  have key := comp_pure (tg := tg) (env := wipeE env own) (f := fun e => bnd (semE G C elt e) fun d => pur (some d)) (h := h) l emb (fun a => some (f a)) (fun a ha => by
    obtain ⟨e, e1, e2⟩ := step a ha
    exact ⟨e, e1, by simp only [bnd, e2, pur]⟩)
  have hl2 : (l.map emb).length ≤ sizeLine := by rw [List.length_map]; exact sl_big hl
  simp only [semN, bnd, hs, guard_true _ hl2, calmly, key]
  rw [List.filterMap_eq_map']
theorem comp_filter (l : List α) (emb : α → D) (p : α → Bool) (f : α → D) (hs : semI G C src env h = .ok ⟨l.map emb, []⟩ h) (hl : l.length ≤ 16000000) (hi : ifs ≠ .nil)
    (step : ∀ a ∈ l, ∃ e, setTg tg (emb a) (wipeE env own) h = .ok e h ∧ (∃ x, semE G C ifs e h = .ok x h ∧ truM x h = .ok (p a) h) ∧ (p a = true → semE G C elt e h = .ok (f a) h)) : semN G C (.comp own tg src ifs elt) env h = .ok ((l.filter p).map f) h := by
  have key := comp_pure (tg := tg) (env := wipeE env own) (f := fun e => bnd (semE G C ifs e) fun x => bnd (truM x) fun k => if k = true then bnd (semE G C elt e) fun d => pur (some d) else pur none) (h := h) l emb (fun a => if p a = true then some (f a) else none) (fun a ha => by
    obtain ⟨e, e1, ⟨x, e2, e3⟩, e4⟩ := step a ha
    refine ⟨e, e1, ?_⟩
    simp only [bnd, e2, e3]
    by_cases q : p a = true
    · simp only [q, if_true, bnd, e4 q, pur]
    · simp only [q, if_false, pur]; rfl)
  have hl2 : (l.map emb).length ≤ sizeLine := by rw [List.length_map]; exact sl_big hl
  have e : l.filterMap (fun a => if p a = true then some (f a) else none) = (l.filter p).map f := by
    clear key hs hl step hl2
    induction l with
    | nil => rfl
    | cons a l ih => by_cases q : p a = true <;> simp [List.filterMap_cons, List.filter_cons, q, ih]
  have e0 : semN G C (.comp own tg src ifs elt) env h = (bnd (semI G C src env) fun s => Cl.guard (s.items.length ≤ sizeLine) (calmly (compL tg (wipeE env own) s.dep (fun e => bnd (semE G C ifs e) fun x => bnd (truM x) fun k => if k = true then bnd (semE G C elt e) fun d => pur (some d) else pur none) s.items))) h := by
    cases ifs <;> first | exact absurd (Eq.refl I.nil) hi | (simp only [semN, bnd])
  rw [e0]
  simp only [bnd, hs, guard_true _ hl2, calmly]
  rw [key, e]
/-- a comprehension whose turns change the heap -/
theorem comp_st (I : Hc → Prop) (enc : β → D) (R : α → β → Prop) (l : List α) (emb : α → D) (h0 : Hc) (hs : semI G C src env h0 = .ok ⟨l.map emb, []⟩ h) (hl : l.length ≤ 16000000) (hI : I h)
    (step : ∀ a ∈ l, ∀ h, I h → ∃ e h1 b h2, setTg tg (emb a) (wipeE env own) h = .ok e h1 ∧ semE G C elt e h1 = .ok (enc b) h2 ∧ I h2 ∧ R a b) :
    ∃ (bs : List β) (h' : Hc), semN G C (.comp own tg src .nil elt) env h0 = .ok (bs.map enc) h' ∧ I h' ∧ bs.length = l.length ∧ ∀ (i : Nat) a b, l[i]? = some a → bs[i]? = some b → R a b := by
  have go : ∀ (l : List α), (∀ a ∈ l, ∀ h, I h → ∃ e h1 b h2, setTg tg (emb a) (wipeE env own) h = .ok e h1 ∧ semE G C elt e h1 = .ok (enc b) h2 ∧ I h2 ∧ R a b) → ∀ h, I h →
      ∃ (bs : List β) (h' : Hc), compL tg (wipeE env own) [] (fun e => bnd (semE G C elt e) fun d => pur (some d)) (l.map emb) h = .ok (bs.map enc) h' ∧ I h' ∧ bs.length = l.length ∧ ∀ (i : Nat) a b, l[i]? = some a → bs[i]? = some b → R a b := by
    intro l
    induction l with
    | nil => intro _ h hI; exact ⟨[], h, by simp only [List.map_nil, compL, depOk_nil, pur], hI, rfl, fun i a b q => by simp at q⟩
    | cons a l ih =>
      intro st h hI
      obtain ⟨e, h1, b, h2, e1, e2, hI2, r⟩ := st a List.mem_cons_self h hI
      obtain ⟨bs, h', e3, hI3, hl, rr⟩ := ih (fun x hx => st x (List.mem_cons_of_mem _ hx)) h2 hI2
      refine ⟨b :: bs, h', ?_, hI3, by simp [hl], fun i x y q1 q2 => ?_⟩
      · simp only [List.map_cons, compL, depOk_nil, bnd, e1, e2, e3, pur]
      · cases i with
        | zero => simp at q1 q2; subst q1; subst q2; exact r
        | succ i => exact rr i x y (by simpa using q1) (by simpa using q2)
  obtain ⟨bs, h', e, r⟩ := go l step h hI
  refine ⟨bs, h', ?_, r⟩
  have hl2 : (l.map emb).length ≤ sizeLine := by rw [List.length_map]; exact sl_big hl
  simp only [semN, bnd, hs, guard_true _ hl2, calmly, e]
end
/-! ### the box -/
structure Bx where
  cells : List Int
  d : Int
  s : Int
abbrev bxH (b : Bx) (rest : Hc) : Hc := boxH b.cells b.d b.s rest
theorem draw_ok (b : Bx) (rest : Hc) {many : Int} (h : 0 < many) (h2 : many < 1606938044258990275541962092341162602522202993782792835301376) : ∃ r b', g_law_draw [.ref 1, .int many] (bxH b rest) = .ok (.int r) (bxH b' rest) ∧ 0 ≤ r ∧ r < many := by
  obtain ⟨r, c, d, s, e, l, u⟩ := ev_draw b.cells b.d b.s rest h h2
  exact ⟨r, ⟨c, d, s⟩, e, l, u⟩
theorem box_ok {ns : List Int} (h : ns.length ≤ 63) : ∃ b, g_law_box [.kl (ns.map .int)] [] = .ok (.ref 1) (bxH b []) := ⟨⟨ns, 0, 4711 + ns.length⟩, ev_box h⟩
/-! ### what a statement comes to -/
def Ends (o : Out) (N : Env → Hc → Prop) (R : D → Hc → Prop) : Prop := match o with
  | .nx e h => N e h
  | .rt d h => R d h
  | _ => False
section
variable {G : Gt} {C : List D} {a b : S} {env : Env} {h : Hc} {N : Env → Hc → Prop} {R : D → Hc → Prop}
theorem ends_nx {o : Out} {e : Env} {h : Hc} (q : o = .nx e h) (n : N e h) : Ends o N R := by rw [q]; exact n
theorem ends_rt {o : Out} {d : D} {h : Hc} (q : o = .rt d h) (n : R d h) : Ends o N R := by rw [q]; exact n
theorem ends_seq (x : Ends (semS G C a env h) (fun e h => Ends (semS G C b e h) N R) R) : Ends (semS G C (.seq a b) env h) N R := by
  simp only [semS]
  generalize semS G C a env h = o at x
  cases o <;> first | exact x | exact x.elim
/-- the statement's outcome is known -/
theorem ends_step {e : Env} {h' : Hc} (q : semS G C a env h = .nx e h') (x : Ends (semS G C b e h') N R) : Ends (semS G C (.seq a b) env h) N R := ends_seq (ends_nx q x)
theorem ends_nop (n : N env h) : Ends (semS G C .nop env h) N R := by simp only [semS]; exact n
theorem Ends.imp {o : Out} {N' : Env → Hc → Prop} {R' : D → Hc → Prop} (x : Ends o N R) (n : ∀ e h, N e h → N' e h) (r : ∀ d h, R d h → R' d h) : Ends o N' R' := by
  cases o <;> first | exact n _ _ x | exact r _ _ x | exact x.elim
theorem runF_ends {s : Env → Hc → Out} {p n : Nat} {ds : List D} {hc : Hc} {P : D → Hc → Prop} (env : Env) (x : Ends (s env hc) (fun _ h => P .non h) P) (hl : ds.length = p := by rfl) (he : ds.map some ++ List.replicate (n - p) none = env := by rfl) : ∃ d h', runF s p n ds hc = .ok d h' ∧ P d h' := by
  unfold runF
  rw [if_pos hl, he]
  generalize s env hc = o at x
  cases o <;> first | exact ⟨_, _, rfl, x⟩ | exact x.elim
@[simp] theorem sameFor_const (o : Out) : (sameFor fun _ => o) = o := sameFor_of fun _ => rfl
end
/-- a def that changes nothing of its caller's -/
theorem p_rt {s : Env → Hc → Out} {p n : Nat} {ds : List D} {h : Hc} {d : D} (env : Env) (e : s env [] = .rt d h) (hn : noRef d = true := by rfl) (hl : ds.length = p := by rfl) (he : ds.map some ++ List.replicate (n - p) none = env := by rfl) : pureOf (runF s p n ds []) = .ok d := by
  rw [runF_rt env e hl he, pureOf_ok hn]
theorem p_ends {s : Env → Hc → Out} {p n : Nat} {ds : List D} {d : D} (env : Env) (e : Ends (s env []) (fun _ _ => False) (fun x _ => x = d)) (hn : noRef d = true := by rfl) (hl : ds.length = p := by rfl) (he : ds.map some ++ List.replicate (n - p) none = env := by rfl) : pureOf (runF s p n ds []) = .ok d := by
  generalize q : s env [] = o at e
  cases o <;> first | exact e.elim | skip
  cases e
  exact p_rt env q hn hl he
/-! ### lists in order -/
end Cl
/-! == of plain data. -/
namespace Cl
open PySem PySem.Spec PyProof.Rows L2
/-- plain data without truth values, less than n deep -/
def datP : Nat → D → Bool
  | _, .non => true
  | _, .int _ => true
  | _, .str x => PyData.strOk x
  | n + 1, .tup xs => xs.all (datP n)
  | n + 1, .fl xs => xs.all (datP n)
  | _, _ => false
theorem toPys_get : ∀ {xs : List D} {ps : List PyData}, toPys xs = some ps → xs.length = ps.length ∧ ∀ i : Nat, (xs[i]?).bind toPy = ps[i]?
  | [], ps, h => by simp only [toPys, Option.some.injEq] at h; subst h; simp
  | x :: xs, ps, h => by
    simp only [toPys] at h
    split at h
    · next p qs e1 e2 =>
      cases h
      obtain ⟨l, g⟩ := toPys_get e2
      refine ⟨by simp [l], fun i => ?_⟩
      cases i with
      | zero => simp [e1]
      | succ i => simpa using g i
    · cases h
theorem dat_py (n : Nat) : ∀ d : D, datP n d = true → ∃ p, toPy d = some p ∧ PyData.canLay0 p = true ∧ p.depth ≤ n := by
  induction n with
  | zero =>
    intro d h
    cases d <;> simp [datP] at h <;> simp [toPy, PyData.canLay0, PyData.depth, h]
  | succ n ih =>
    intro d h
    have hs : ∀ xs : List D, xs.all (datP n) = true → ∃ ps, toPys xs = some ps ∧ PyData.canLayAll0 ps = true ∧ PyData.depthAll ps ≤ n := by
      intro xs
      induction xs with
      | nil => intro _; exact ⟨[], by simp [toPys], by simp [PyData.canLayAll0], by simp [PyData.depthAll]⟩
      | cons x xs ihx =>
        intro h
        rw [List.all_cons, Bool.and_eq_true] at h
        obtain ⟨p, e1, e2, e3⟩ := ih x h.1
        obtain ⟨ps, f1, f2, f3⟩ := ihx h.2
        exact ⟨p :: ps, by simp [toPys, e1, f1], by simp [PyData.canLayAll0, e2, f2], by simp only [PyData.depthAll]; omega⟩
    cases d with
    | tup xs =>
      obtain ⟨ps, f1, f2, f3⟩ := hs xs (by simpa [datP] using h)
      exact ⟨.tuple ps, by simp [toPy, f1], by simpa [PyData.canLay0] using f2, by simp only [PyData.depth]; omega⟩
    | fl xs =>
      obtain ⟨ps, f1, f2, f3⟩ := hs xs (by simpa [datP] using h)
      exact ⟨.list ps, by simp [toPy, f1], by simpa [PyData.canLay0] using f2, by simp only [PyData.depth]; omega⟩
    | _ => simp [datP] at h <;> simp [toPy, PyData.canLay0, PyData.depth, h]
theorem eqv_dat (n : Nat) : ∀ (a b : D) (p q : PyData), datP n a = true → datP n b = true → toPy a = some p → toPy b = some q → (PyData.eqv p q = true ↔ a = b) := by
  induction n with
  | zero =>
    intro a b p q ha hb ea eb
    cases a <;> simp [datP] at ha <;> cases b <;> simp [datP] at hb <;> simp [toPy] at ea eb <;> subst ea <;> subst eb <;> simp [PyData.eqv]
  | succ n ih =>
    intro a b p q ha hb ea eb
    have hs : ∀ (xs ys : List D) (ps qs : List PyData), xs.all (datP n) = true → ys.all (datP n) = true → toPys xs = some ps → toPys ys = some qs → (PyData.eqvAll ps qs = true ↔ xs = ys) := by
      intro xs
      induction xs with
      | nil =>
        intro ys ps qs _ _ e1 e2
        cases ys with
        | nil => simp only [toPys, Option.some.injEq] at e1 e2; subst e1; subst e2; simp [PyData.eqvAll]
        | cons y ys =>
          obtain ⟨l, _⟩ := toPys_get e2
          simp only [toPys, Option.some.injEq] at e1; subst e1
          cases qs with
          | nil => simp at l
          | cons => simp [PyData.eqvAll]
      | cons x xs ihx =>
        intro ys ps qs h1 h2 e1 e2
        rw [List.all_cons, Bool.and_eq_true] at h1
        cases ys with
        | nil =>
          obtain ⟨l, _⟩ := toPys_get e1
          simp only [toPys, Option.some.injEq] at e2; subst e2
          cases ps with
          | nil => simp at l
          | cons => simp [PyData.eqvAll]
        | cons y ys =>
          rw [List.all_cons, Bool.and_eq_true] at h2
          obtain ⟨p, f1, _⟩ := dat_py n x h1.1
          obtain ⟨q, g1, _⟩ := dat_py n y h2.1
          simp only [toPys, f1] at e1
          simp only [toPys, g1] at e2
          cases z1 : toPys xs with
          | none => rw [z1] at e1; simp at e1
          | some ps' =>
            cases z2 : toPys ys with
            | none => rw [z2] at e2; simp at e2
            | some qs' =>
              rw [z1] at e1; rw [z2] at e2
              simp at e1 e2
              subst e1; subst e2
              simp only [PyData.eqvAll, Bool.and_eq_true, ih x y p q h1.1 h2.1 f1 g1, ihx ys ps' qs' h1.2 h2.2 z1 z2, List.cons.injEq]
    cases a with
    | tup xs =>
      obtain ⟨p', e1, _⟩ := dat_py (n + 1) (.tup xs) ha
      rw [ea] at e1; cases e1
      simp only [toPy] at ea
      cases z1 : toPys xs with
      | none => rw [z1] at ea; simp at ea
      | some ps =>
        rw [z1] at ea; simp at ea; subst ea
        cases b with
        | tup ys =>
          simp only [toPy] at eb
          cases z2 : toPys ys with
          | none => rw [z2] at eb; simp at eb
          | some qs =>
            rw [z2] at eb; simp at eb; subst eb
            simp only [PyData.eqv, hs xs ys ps qs (by simpa [datP] using ha) (by simpa [datP] using hb) z1 z2, D.tup.injEq]
        | fl ys =>
          simp only [toPy] at eb
          cases z2 : toPys ys with
          | none => rw [z2] at eb; simp at eb
          | some qs => rw [z2] at eb; simp at eb; subst eb; simp [PyData.eqv]
        | _ => simp [datP] at hb <;> simp [toPy] at eb <;> subst eb <;> simp [PyData.eqv]
    | fl xs =>
      simp only [toPy] at ea
      cases z1 : toPys xs with
      | none => rw [z1] at ea; simp at ea
      | some ps =>
        rw [z1] at ea; simp at ea; subst ea
        cases b with
        | fl ys =>
          simp only [toPy] at eb
          cases z2 : toPys ys with
          | none => rw [z2] at eb; simp at eb
          | some qs =>
            rw [z2] at eb; simp at eb; subst eb
            simp only [PyData.eqv, hs xs ys ps qs (by simpa [datP] using ha) (by simpa [datP] using hb) z1 z2, D.fl.injEq]
        | tup ys =>
          simp only [toPy] at eb
          cases z2 : toPys ys with
          | none => rw [z2] at eb; simp at eb
          | some qs => rw [z2] at eb; simp at eb; subst eb; simp [PyData.eqv]
        | _ => simp [datP] at hb <;> simp [toPy] at eb <;> subst eb <;> simp [PyData.eqv]
    | _ =>
      cases b <;> simp [datP] at ha hb <;> simp [toPy] at ea <;> subst ea <;> first
        | (simp [toPy] at eb; subst eb; simp [PyData.eqv]; done)
        | (simp only [toPy] at eb
           obtain ⟨ws, _, ew⟩ := opt_map eb
           subst ew; simp [PyData.eqv])
open Classical in
theorem eqM_dat (n : Nat) {a b : D} (ha : datP n a = true) (hb : datP n b = true) (h : Hc) (hn : n ≤ 64 := by decide) : eqM a b h = .ok (decide (a = b)) h := by
  obtain ⟨p, e1, e2, e3⟩ := dat_py n a ha
  obtain ⟨q, f1, f2, f3⟩ := dat_py n b hb
  have k := eqv_dat n a b p q ha hb e1 f1
  have t1 : toPyH h a = some p := by
    cases a <;> first | exact e1 | simp [datP] at ha
  have t2 : toPyH h b = some q := by
    cases b <;> first | exact f1 | simp [datP] at hb
  have s1 : SeqAt.shaped p = true := by simp only [SeqAt.shaped, Bool.and_eq_true, decide_eq_true_eq]; exact ⟨e2, by omega⟩
  have s2 : SeqAt.shaped q = true := by simp only [SeqAt.shaped, Bool.and_eq_true, decide_eq_true_eq]; exact ⟨f2, by omega⟩
  unfold eqM
  rw [t1, t2]
  simp only [s1, s2, Bool.and_self, if_true]
  congr 1
  by_cases hab : a = b
  · rw [decide_eq_true hab]; exact k.mpr hab
  · rw [decide_eq_false hab]
    cases z : PyData.eqv p q with
    | false => rfl
    | true => exact absurd (k.mp z) hab
@[simp] theorem int_map_inj {xs ys : List Int} : xs.map D.int = ys.map D.int ↔ xs = ys := by
  constructor
  · intro h
    induction xs generalizing ys with
    | nil => cases ys with
      | nil => rfl
      | cons => simp at h
    | cons x xs ih => cases ys with
      | nil => simp at h
      | cons y ys => simp at h; rw [h.1, ih h.2]
  · rintro rfl; rfl
end Cl
namespace Cl
open PySem PySem.Spec PyProof.Rows L2
def ir_steps_to_divisor_b0 : S := (.seq (.asg (.tg (.nm 6)) (.bin .FloorDiv (.var 0) (.var 1))) (.seq (.asg (.tg (.tp [0, 1, 2, 3, 4, 5])) (.tup (.cons (.var 1) (.cons (.bin .Sub (.var 0) (.bin .Mult (.var 6) (.var 1))) (.cons (.var 4) (.cons (.var 5) (.cons (.bin .Sub (.var 2) (.bin .Mult (.var 6) (.var 4))) (.cons (.bin .Sub (.var 3) (.bin .Mult (.var 6) (.var 5))) .nil)))))))) .nop))
def ir_steps_to_divisor_2 : S := (.ret (.ite (.cmp .GtE (.var 0) (.int 0)) (.tup (.cons (.var 0) (.cons (.var 2) (.cons (.var 3) .nil)))) (.tup (.cons (.neg (.var 0)) (.cons (.neg (.var 2)) (.cons (.neg (.var 3)) .nil))))))
def ir_steps_to_divisor_1 : S := (.whl (.var 1) ir_steps_to_divisor_b0)
def ir_steps_to_divisor_0 : S := (.asg (.tg (.tp [2, 3, 4, 5])) (.tup (.cons (.int 1) (.cons (.int 0) (.cons (.int 0) (.cons (.int 1) .nil))))))
def ir_steps_to_divisor : S := (.seq ir_steps_to_divisor_0 (.seq ir_steps_to_divisor_1 (.seq ir_steps_to_divisor_2 .nop)))
noncomputable def p_steps_to_divisor : List D → PR := fun ds => pureOf (runF (semS { tab := [] } [] ir_steps_to_divisor) 2 7 ds [])
structure StI (a0 b0 a b x y u v : Int) : Prop where
  pa : 0 ≤ a
  pb : 0 ≤ b
  ab : a < 2 ^ 64
  bb : b < 2 ^ 64
  h1 : x * a0 + y * b0 = a
  h2 : u * a0 + v * b0 = b
  g : Int.gcd a b = Int.gcd a0 b0
  sg : (0 ≤ x ∧ u ≤ 0 ∧ x * b - u * a = b0) ∨ (x ≤ 0 ∧ 0 ≤ u ∧ u * a - x * b = b0)
  ux : -b0 ≤ u ∧ u ≤ b0
  xx : (x = 1 ∨ (-b0 ≤ x ∧ x ≤ b0))
theorem le_mul_pos {x b : Int} (hx : 0 ≤ x) (hb : 0 < b) : x ≤ x * b := by
  have := Int.mul_le_mul_of_nonneg_left (show (1 : Int) ≤ b by omega) hx
  omega
theorem StI.next {a0 b0 a b x y u v : Int} (h : StI a0 b0 a b x y u v) (hb : b ≠ 0) : StI a0 b0 b (a - a.fdiv b * b) u v (x - a.fdiv b * u) (y - a.fdiv b * v) ∧ (a - a.fdiv b * b).natAbs < b.natAbs := by
  have hb' : 0 < b := by have := h.pb; omega
  have e : a.fdiv b = a / b := Int.fdiv_eq_ediv_of_nonneg _ h.pb
  rw [e]
  have em : a - a / b * b = a % b := by
    have := Int.emod_def a b
    rw [this, Int.mul_comm]
  have l1 := Int.emod_nonneg a hb
  have l2 := Int.emod_lt_of_pos a hb'
  have hk : 0 ≤ a / b := Int.ediv_nonneg h.pa h.pb
  have key : ((0 ≤ u ∧ x - a / b * u ≤ 0 ∧ u * (a - a / b * b) - (x - a / b * u) * b = b0) ∨ (u ≤ 0 ∧ 0 ≤ x - a / b * u ∧ (x - a / b * u) * b - u * (a - a / b * b) = b0)) ∧ (-b0 ≤ x - a / b * u ∧ x - a / b * u ≤ b0) := by
    rcases h.sg with ⟨s1, s2, s3⟩ | ⟨s1, s2, s3⟩
    · have p : 0 ≤ a / b * (-u) := Int.mul_nonneg hk (by omega)
      have p2 : a / b * (-u) = -(a / b * u) := by grind
      have e2 : (x - a / b * u) * b - u * (a - a / b * b) = b0 := by grind
      have p3 : 0 ≤ (-u) * (a - a / b * b) := Int.mul_nonneg (by omega) (by omega)
      have p4 : (-u) * (a - a / b * b) = -(u * (a - a / b * b)) := by grind
      have p5 := le_mul_pos (x := x - a / b * u) (b := b) (by omega) hb'
      exact ⟨.inr ⟨s2, by omega, e2⟩, by omega, by omega⟩
    · have p : 0 ≤ a / b * u := Int.mul_nonneg hk (by omega)
      have e2 : u * (a - a / b * b) - (x - a / b * u) * b = b0 := by grind
      have p3 : 0 ≤ u * (a - a / b * b) := Int.mul_nonneg (by omega) (by omega)
      have p5 := le_mul_pos (x := -(x - a / b * u)) (b := b) (by omega) hb'
      have p6 : -(x - a / b * u) * b = -((x - a / b * u) * b) := by grind
      exact ⟨.inl ⟨s2, by omega, e2⟩, by omega, by omega⟩
  refine ⟨⟨h.pb, by rw [em]; exact l1, h.bb, by rw [em]; have := h.bb; omega, h.h2, ?_, ?_, by rcases key.1 with z | z; exact .inl ⟨z.1, z.2.1, by omega⟩; exact .inr ⟨z.1, z.2.1, by omega⟩, key.2, .inr h.ux⟩, by rw [em]; omega⟩
  · have := h.h1
    have := h.h2
    grind
  · rw [Int.gcd_sub_mul_right_right, Int.gcd_comm]
    exact h.g
end Cl
/-! Primes, exponents: plain. -/
namespace Mth
def Pr (p : Nat) : Prop := 2 ≤ p ∧ ∀ d, d ∣ p → d = 1 ∨ d = p
theorem Pr.pos {p : Nat} (h : Pr p) : 0 < p := Nat.lt_of_lt_of_le (by decide) h.1
end Mth
namespace Cl
open PySem PySem.Spec PyProof.Rows L2 Mth
/-! ### factors -/
end Cl
/-! Sums of two squares: plain. -/
namespace Mth
/-! ### Zagier -/
def zs (p : Nat) : List (Nat × Nat × Nat) := ((List.range (p + 1)).flatMap fun x => (List.range (p + 1)).flatMap fun y => (List.range (p + 1)).map fun z => (x, y, z)).filter fun t => decide (t.1 * t.1 + 4 * (t.2.1 * t.2.2) = p)
end Mth
/-! Which numbers are sums of two squares: plain. -/
namespace Mth
end Mth
namespace Cl
open PySem PySem.Spec PyProof.Rows L2 Mth
end Cl
/-! Chips on a land: plain. -/
namespace Mth
abbrev Ways := List (Nat × Nat)
/-- what firing y takes from v -/
def tk (y : Nat → Int) (v : Nat) (p : Nat × Nat) : Int := (if p.1 = v then y p.1 - y p.2 else 0) + (if p.2 = v then y p.2 - y p.1 else 0)
def LL (ws : Ways) (y : Nat → Int) (v : Nat) : Int := (ws.map (tk y v)).sum
def dg (v : Nat) (p : Nat × Nat) : Int := (if p.1 = v then 1 else 0) + (if p.2 = v then 1 else 0)
def deg (ws : Ways) (v : Nat) : Int := (ws.map (dg v)).sum
theorem LL_cons (p : Nat × Nat) (ws : Ways) (y : Nat → Int) (v : Nat) : LL (p :: ws) y v = tk y v p + LL ws y v := by simp [LL]
theorem LL_zero (ws : Ways) (v : Nat) : LL ws (fun _ => 0) v = 0 := by
  induction ws with
  | nil => rfl
  | cons p ws ih => rw [LL_cons, ih]; unfold tk; dsimp only; split <;> split <;> omega
/-- y brings all places but home to rest -/
structure Stab (n : Nat) (ws : Ways) (c y : Nat → Int) : Prop where
  nn : ∀ v, 0 ≤ y v
  home : y 0 = 0
  rest : ∀ v, 1 ≤ v → v < n → c v - LL ws y v < deg ws v
/-- x is legal: below all that bring to rest -/
structure Legal (n : Nat) (ws : Ways) (c x : Nat → Int) : Prop where
  nn : ∀ v, 0 ≤ x v
  home : x 0 = 0
  low : ∀ y, Stab n ws c y → ∀ v, x v ≤ y v
theorem Legal.zero (n : Nat) (ws : Ways) (c : Nat → Int) : Legal n ws c (fun _ => 0) := ⟨fun _ => Int.le_refl 0, rfl, fun y h v => h.nn v⟩
/-- the least way to rest -/
structure IsRest (n : Nat) (ws : Ways) (c x : Nat → Int) : Prop where
  legal : Legal n ws c x
  stab : Stab n ws c x
theorem IsRest.uniq {n : Nat} {ws : Ways} {c x y : Nat → Int} (h : IsRest n ws c x) (h' : IsRest n ws c y) : x = y := by
  funext v
  exact Int.le_antisymm (h.legal.low y h'.stab v) (h'.legal.low x h.stab v)
/-! ### there is a way to rest -/
def hh (B n v : Nat) : Int := (B : Int) ^ n - (B : Int) ^ (n - v)
/-! ### the fire table -/
end Mth
/-! Signs of squares after Gauss, Schering, Eisenstein: plain. -/
namespace Mth
/-! ### sums -/
def S (h : Nat) (f : Nat → Nat) : Nat := ((List.range h).map f).sum
/-! ### the sign -/
/-- odd n: half of it -/
def hf (n : Nat) : Nat := (n - 1) / 2
/-- what a (k + 1) leaves; is it in the upper half; the nearer one, less 1 -/
def rs (a n k : Nat) : Nat := a * (k + 1) % n
def up (a n k : Nat) : Nat := if hf n < rs a n k then 1 else 0
def nr (a n k : Nat) : Nat := (if hf n < rs a n k then n - rs a n k else rs a n k) - 1
/-! ### the sign as an integer -/
def sg (k : Nat) : Int := if k % 2 = 0 then 1 else -1
end Mth
namespace Cl
open PySem PySem.Spec PyProof.Rows L2 Mth
/-! ### rows and tables of numbers -/
def rowD (n : Nat) (f : Nat → Int) : List D := (List.range n).map fun j => D.int (f j)
def tabD (n : Nat) (F : Nat → Nat → Int) : List D := (List.range n).map fun i => D.tup (rowD n (F i))
def matH (n : Nat) (F : Nat → Nat → Int) : Hc := (List.range n).map fun i => O.lst (rowD n (F i))
@[simp] theorem rowD_len (n : Nat) (f : Nat → Int) : (rowD n f).length = n := by simp [rowD]
@[simp] theorem tabD_len (n : Nat) (F : Nat → Nat → Int) : (tabD n F).length = n := by simp [tabD]
@[simp] theorem noRef_rowD (n : Nat) (f : Nat → Int) : noRefL (rowD n f) = true := noRefL_map (fun _ => rfl) _
@[simp] theorem noRef_tabD (n : Nat) (F : Nat → Nat → Int) : noRefL (tabD n F) = true := noRefL_map (fun _ => by simp [noRef]) _
@[simp] theorem matH_len (n : Nat) (F : Nat → Nat → Int) : (matH n F).length = n := by simp [matH]
/-! ### coming to rest -/
theorem ends_ite {G : Gt} {C : List D} {t : I} {a b : S} {env : Env} {h h1 : Hc} {k : Bool} {N : Env → Hc → Prop} {R : D → Hc → Prop} (q : bnd (semE G C t env) truM h = .ok k h1) (x : Ends (if k = true then semS G C a env h1 else semS G C b env h1) N R) : Ends (semS G C (.ite t a b) env h) N R := by
  simp only [semS, exS, q]; exact x
/-! ### is it at rest -/
end Cl
namespace Cl
open PySem PySem.Spec PyProof.Rows L2 Mth
theorem IsRest.zero {n : Nat} {ws : Ways} {c : Nat → Int} (h : ∀ v, 1 ≤ v → v < n → c v < deg ws v) : IsRest n ws c fun _ => 0 :=
  ⟨Legal.zero n ws c, fun _ => Int.le_refl 0, rfl, fun v h1 h2 => by rw [LL_zero]; have := h v h1 h2; omega⟩
end Cl
namespace Cl
open PySem PySem.Spec PyProof.Rows L2 Mth
def ir_law_bent_5 : S := (.ret (.idx (.lst (.cons (.int 0) (.cons (.int 1) (.cons .non (.cons (.bl true) (.cons (.bl false) (.cons (.str "a") (.cons (.tup .nil) (.cons (.neg (.int 1)) .nil))))))))) (.var 3)))
def ir_law_bent_4 : S := (.ite (.isa (.var 1) ["str"]) (.seq .never .nop) .nop)
def ir_law_bent_3 : S := (.ite (.and (.isa (.var 1) ["int"]) (.not (.isa (.var 1) ["bool"]))) (.seq (.ret (.idx (.lst (.cons (.bin .Add (.var 1) (.int 1)) (.cons (.bin .Sub (.var 1) (.int 1)) (.cons (.neg (.var 1)) (.cons (.cmp .Eq (.var 1) (.int 1)) (.cons .non (.cons (.bi .str (.cons (.var 1) .nil)) (.cons (.tup (.cons (.var 1) .nil)) (.cons (.bin .Add (.var 1) (.int 1001)) .nil))))))))) (.var 3))) .nop) .nop)
def ir_law_bent_2 : S := (.ite (.isa (.var 1) ["tuple"]) (.seq (.ret (.idx (.lst (.cons (.bin .Add (.var 1) (.slc (.var 1) .nil (.int 1))) (.cons (.slc (.var 1) (.int 1) .nil) (.cons (.rev (.var 1)) (.cons (.bin .Add (.var 1) (.tup (.cons (.int 0) .nil))) (.cons (.bin .Add (.slc (.var 1) .nil (.int 1)) (.var 1)) (.cons (.slc (.var 1) .nil (.neg (.int 1))) (.cons .non (.cons (.slc (.var 1) .nil (.int 1)) .nil))))))))) (.var 3))) .nop) .nop)
def ir_law_bent_1 : S := (.asg (.tg (.nm 3)) (.call 0 (.cons (.var 0) (.cons (.int 8) .nil))))
def ir_law_bent_0 : S := (.ite (.and (.isa (.var 1) ["tuple"]) (.and (.cmp .Gt (.bi .len (.cons (.var 1) .nil)) (.int 0)) (.cmp .Gt (.call 0 (.cons (.var 0) (.cons (.int 5) .nil))) (.int 0)))) (.seq (.asg (.tg (.nm 2)) (.call 0 (.cons (.var 0) (.cons (.bi .len (.cons (.var 1) .nil)) .nil)))) (.seq (.ret (.bin .Add (.bin .Add (.slc (.var 1) .nil (.var 2)) (.tup (.cons (.call 1 (.cons (.var 0) (.cons (.idx (.var 1) (.var 2)) .nil))) .nil))) (.slc (.var 1) (.bin .Add (.var 2) (.int 1)) .nil))) .nop)) .nop)
def ir_law_bent : S := (.seq ir_law_bent_0 (.seq ir_law_bent_1 (.seq ir_law_bent_2 (.seq ir_law_bent_3 (.seq ir_law_bent_4 (.seq ir_law_bent_5 .nop))))))
noncomputable def g_law_bent : Nat → List D → M D
  | 0 => fun _ _ => .bad
  | n + 1 => runF (semS { tab := [g_law_draw, (g_law_bent n)] } [] ir_law_bent) 2 4
/-- plain data without lists -/
def plD : Nat → D → Bool
  | _, .non => true
  | _, .bl _ => true
  | _, .int _ => true
  | _, .str _ => true
  | n + 1, .tup xs => decide (xs.length ≤ 4000) && xs.all (plD n)
  | _, _ => false
/-- plain data without texts, not great -/
def plI : Nat → D → Bool
  | _, .non => true
  | _, .bl _ => true
  | _, .int i => decide (i.natAbs.log2 < 1900)
  | n + 1, .tup xs => decide (xs.length ≤ 1000) && xs.all (plI n)
  | _, _ => false
theorem plI_plD : ∀ {n : Nat} {d : D}, plI n d = true → plD n d = true := by
  intro n
  induction n with
  | zero => intro d h; cases d <;> simp_all [plI, plD]
  | succ n ih =>
    intro d h
    cases d <;> simp_all [plI, plD]
    omega
theorem plD_up : ∀ {n : Nat} {d : D}, plD n d = true → plD (n + 1) d = true := by
  intro n
  induction n with
  | zero => intro d h; cases d <;> simp_all [plD]
  | succ n ih =>
    intro d h
    cases d <;> simp_all [plD] <;> exact fun x hx => ih (h.2 x hx)
theorem plD_noRef : ∀ {n : Nat} {d : D}, plD n d = true → noRef d = true := by
  intro n
  induction n with
  | zero => intro d h; cases d <;> simp_all [plD, noRef]
  | succ n ih =>
    intro d h
    cases d <;> simp_all [plD, noRef]
    exact noRefL_of fun x hx => ih (h.2 x hx)
theorem cut_mem {xs : List D} {lo hi : Option Int} {x : D} (h : x ∈ cutD xs lo hi) : x ∈ xs := List.mem_of_mem_drop (List.mem_of_mem_take h)
theorem cut_le (xs : List D) (lo hi : Option Int) : (cutD xs lo hi).length ≤ xs.length := by
  unfold cutD
  rw [List.length_take, List.length_drop]
  omega
theorem bent_leaf {n m : Nat} {v : D} (hv : v = .non ∨ (∃ k, v = .bl k) ∨ ∃ i : Int, v = .int i ∧ i.natAbs.log2 < 1900) (b : Bx) (rest : Hc) : ∃ v' b', g_law_bent (m + 1) [.ref 1, v] (bxH b rest) = .ok v' (bxH b' rest) ∧ plD (n + 1) v' = true := by
  have key : ∃ d h', g_law_bent (m + 1) [.ref 1, v] (bxH b rest) = .ok d h' ∧ ∃ b', h' = bxH b' rest ∧ plD (n + 1) d = true := by
    refine runF_ends (P := fun d h' => ∃ b', h' = bxH b' rest ∧ plD (n + 1) d = true) [some (.ref 1), some v, none, none] ?_
    unfold ir_law_bent
    refine ends_step (e := [some (.ref 1), some v, none, none]) (h' := bxH b rest) (by
      rcases hv with rfl | ⟨k, rfl⟩ | ⟨i, rfl, _⟩ <;> simp (disch := first | omega | (simp; done) | fail) [ir_law_bent_0, semS, semE, semA, semN, semO, semI, exS, bnd, optM, pur, setTg, seqM, lsM, binM, binL, augM, biM, bnM, cmpM, cmpI, ltM, leM, inM, eqF, flatD, isM, Cl.isNon, truM, intM, idxM, slcM, lenM, lstAt, Cl.putAt, isaM, tyM, tyName, lsrcM, srcM, calmly, depOk_nil, sizeLine_eq, wipeE, gmul_r, gmul_l, gdiv, gmod, gmod', fdiv_pos, fmod_pos, grg, grg2, gsz, atI_pos]) ?_
    obtain ⟨r, b1, e1, l1, u1⟩ := draw_ok b rest (many := 8) (by decide) (by decide)
    refine ends_step (e := [some (.ref 1), some v, none, some (.int r)]) (h' := bxH b1 rest) (by simp (disch := first | omega | (simp; done) | fail) [ir_law_bent_1, semS, semE, semA, semN, semO, semI, exS, bnd, optM, pur, setTg, seqM, lsM, binM, binL, augM, biM, bnM, cmpM, cmpI, ltM, leM, inM, eqF, flatD, isM, Cl.isNon, truM, intM, idxM, slcM, lenM, lstAt, Cl.putAt, isaM, tyM, tyName, lsrcM, srcM, calmly, depOk_nil, sizeLine_eq, wipeE, gmul_r, gmul_l, gdiv, gmod, gmod', fdiv_pos, fmod_pos, grg, grg2, gsz, atI_pos, e1]) ?_
    refine ends_step (e := [some (.ref 1), some v, none, some (.int r)]) (h' := bxH b1 rest) (by
      rcases hv with rfl | ⟨k, rfl⟩ | ⟨i, rfl, _⟩ <;> simp (disch := first | omega | (simp; done) | fail) [ir_law_bent_2, semS, semE, semA, semN, semO, semI, exS, bnd, optM, pur, setTg, seqM, lsM, binM, binL, augM, biM, bnM, cmpM, cmpI, ltM, leM, inM, eqF, flatD, isM, Cl.isNon, truM, intM, idxM, slcM, lenM, lstAt, Cl.putAt, isaM, tyM, tyName, lsrcM, srcM, calmly, depOk_nil, sizeLine_eq, wipeE, gmul_r, gmul_l, gdiv, gmod, gmod', fdiv_pos, fmod_pos, grg, grg2, gsz, atI_pos]) ?_
    have r8 : r = 0 ∨ r = 1 ∨ r = 2 ∨ r = 3 ∨ r = 4 ∨ r = 5 ∨ r = 6 ∨ r = 7 := by omega
    rcases hv with rfl | ⟨k, rfl⟩ | ⟨i, rfl, hi⟩
    · refine ends_step (e := [some (.ref 1), some .non, none, some (.int r)]) (h' := bxH b1 rest) (by simp (disch := first | omega | (simp; done) | fail) [ir_law_bent_3, semS, semE, semA, semN, semO, semI, exS, bnd, optM, pur, setTg, seqM, lsM, binM, binL, augM, biM, bnM, cmpM, cmpI, ltM, leM, inM, eqF, flatD, isM, Cl.isNon, truM, intM, idxM, slcM, lenM, lstAt, Cl.putAt, isaM, tyM, tyName, lsrcM, srcM, calmly, depOk_nil, sizeLine_eq, wipeE, gmul_r, gmul_l, gdiv, gmod, gmod', fdiv_pos, fmod_pos, grg, grg2, gsz, atI_pos]) ?_
      refine ends_step (e := [some (.ref 1), some .non, none, some (.int r)]) (h' := bxH b1 rest) (by simp (disch := first | omega | (simp; done) | fail) [ir_law_bent_4, semS, semE, semA, semN, semO, semI, exS, bnd, optM, pur, setTg, seqM, lsM, binM, binL, augM, biM, bnM, cmpM, cmpI, ltM, leM, inM, eqF, flatD, isM, Cl.isNon, truM, intM, idxM, slcM, lenM, lstAt, Cl.putAt, isaM, tyM, tyName, lsrcM, srcM, calmly, depOk_nil, sizeLine_eq, wipeE, gmul_r, gmul_l, gdiv, gmod, gmod', fdiv_pos, fmod_pos, grg, grg2, gsz, atI_pos]) ?_
      refine ends_seq ?_
      rcases r8 with e | e | e | e | e | e | e | e <;> subst e
      · exact ends_rt (d := .int 0) (h := bxH b1 rest) (by simp (disch := first | omega | (simp; done) | fail) [ir_law_bent_5, semS, semE, semA, semN, semO, semI, exS, bnd, optM, pur, setTg, seqM, lsM, binM, binL, augM, biM, bnM, cmpM, cmpI, ltM, leM, inM, eqF, flatD, isM, Cl.isNon, truM, intM, idxM, slcM, lenM, lstAt, Cl.putAt, isaM, tyM, tyName, lsrcM, srcM, calmly, depOk_nil, sizeLine_eq, wipeE, gmul_r, gmul_l, gdiv, gmod, gmod', fdiv_pos, fmod_pos, grg, grg2, gsz, atI_pos]) ⟨b1, rfl, by cases n <;> simp [plD]⟩
      · exact ends_rt (d := .int 1) (h := bxH b1 rest) (by simp (disch := first | omega | (simp; done) | fail) [ir_law_bent_5, semS, semE, semA, semN, semO, semI, exS, bnd, optM, pur, setTg, seqM, lsM, binM, binL, augM, biM, bnM, cmpM, cmpI, ltM, leM, inM, eqF, flatD, isM, Cl.isNon, truM, intM, idxM, slcM, lenM, lstAt, Cl.putAt, isaM, tyM, tyName, lsrcM, srcM, calmly, depOk_nil, sizeLine_eq, wipeE, gmul_r, gmul_l, gdiv, gmod, gmod', fdiv_pos, fmod_pos, grg, grg2, gsz, atI_pos]) ⟨b1, rfl, by cases n <;> simp [plD]⟩
      · exact ends_rt (d := .non) (h := bxH b1 rest) (by simp (disch := first | omega | (simp; done) | fail) [ir_law_bent_5, semS, semE, semA, semN, semO, semI, exS, bnd, optM, pur, setTg, seqM, lsM, binM, binL, augM, biM, bnM, cmpM, cmpI, ltM, leM, inM, eqF, flatD, isM, Cl.isNon, truM, intM, idxM, slcM, lenM, lstAt, Cl.putAt, isaM, tyM, tyName, lsrcM, srcM, calmly, depOk_nil, sizeLine_eq, wipeE, gmul_r, gmul_l, gdiv, gmod, gmod', fdiv_pos, fmod_pos, grg, grg2, gsz, atI_pos]) ⟨b1, rfl, by cases n <;> simp [plD]⟩
      · exact ends_rt (d := .bl true) (h := bxH b1 rest) (by simp (disch := first | omega | (simp; done) | fail) [ir_law_bent_5, semS, semE, semA, semN, semO, semI, exS, bnd, optM, pur, setTg, seqM, lsM, binM, binL, augM, biM, bnM, cmpM, cmpI, ltM, leM, inM, eqF, flatD, isM, Cl.isNon, truM, intM, idxM, slcM, lenM, lstAt, Cl.putAt, isaM, tyM, tyName, lsrcM, srcM, calmly, depOk_nil, sizeLine_eq, wipeE, gmul_r, gmul_l, gdiv, gmod, gmod', fdiv_pos, fmod_pos, grg, grg2, gsz, atI_pos]) ⟨b1, rfl, by cases n <;> simp [plD]⟩
      · exact ends_rt (d := .bl false) (h := bxH b1 rest) (by simp (disch := first | omega | (simp; done) | fail) [ir_law_bent_5, semS, semE, semA, semN, semO, semI, exS, bnd, optM, pur, setTg, seqM, lsM, binM, binL, augM, biM, bnM, cmpM, cmpI, ltM, leM, inM, eqF, flatD, isM, Cl.isNon, truM, intM, idxM, slcM, lenM, lstAt, Cl.putAt, isaM, tyM, tyName, lsrcM, srcM, calmly, depOk_nil, sizeLine_eq, wipeE, gmul_r, gmul_l, gdiv, gmod, gmod', fdiv_pos, fmod_pos, grg, grg2, gsz, atI_pos]) ⟨b1, rfl, by cases n <;> simp [plD]⟩
      · exact ends_rt (d := .str (("a" : String) : Str)) (h := bxH b1 rest) (by simp (disch := first | omega | (simp; done) | fail) [ir_law_bent_5, semS, semE, semA, semN, semO, semI, exS, bnd, optM, pur, setTg, seqM, lsM, binM, binL, augM, biM, bnM, cmpM, cmpI, ltM, leM, inM, eqF, flatD, isM, Cl.isNon, truM, intM, idxM, slcM, lenM, lstAt, Cl.putAt, isaM, tyM, tyName, lsrcM, srcM, calmly, depOk_nil, sizeLine_eq, wipeE, gmul_r, gmul_l, gdiv, gmod, gmod', fdiv_pos, fmod_pos, grg, grg2, gsz, atI_pos]) ⟨b1, rfl, by cases n <;> simp [plD]⟩
      · exact ends_rt (d := .tup []) (h := bxH b1 rest) (by simp (disch := first | omega | (simp; done) | fail) [ir_law_bent_5, semS, semE, semA, semN, semO, semI, exS, bnd, optM, pur, setTg, seqM, lsM, binM, binL, augM, biM, bnM, cmpM, cmpI, ltM, leM, inM, eqF, flatD, isM, Cl.isNon, truM, intM, idxM, slcM, lenM, lstAt, Cl.putAt, isaM, tyM, tyName, lsrcM, srcM, calmly, depOk_nil, sizeLine_eq, wipeE, gmul_r, gmul_l, gdiv, gmod, gmod', fdiv_pos, fmod_pos, grg, grg2, gsz, atI_pos]) ⟨b1, rfl, by cases n <;> simp [plD]⟩
      · exact ends_rt (d := .int (-1)) (h := bxH b1 rest) (by simp (disch := first | omega | (simp; done) | fail) [ir_law_bent_5, semS, semE, semA, semN, semO, semI, exS, bnd, optM, pur, setTg, seqM, lsM, binM, binL, augM, biM, bnM, cmpM, cmpI, ltM, leM, inM, eqF, flatD, isM, Cl.isNon, truM, intM, idxM, slcM, lenM, lstAt, Cl.putAt, isaM, tyM, tyName, lsrcM, srcM, calmly, depOk_nil, sizeLine_eq, wipeE, gmul_r, gmul_l, gdiv, gmod, gmod', fdiv_pos, fmod_pos, grg, grg2, gsz, atI_pos]) ⟨b1, rfl, by cases n <;> simp [plD]⟩
    · refine ends_step (e := [some (.ref 1), some (.bl k), none, some (.int r)]) (h' := bxH b1 rest) (by simp (disch := first | omega | (simp; done) | fail) [ir_law_bent_3, semS, semE, semA, semN, semO, semI, exS, bnd, optM, pur, setTg, seqM, lsM, binM, binL, augM, biM, bnM, cmpM, cmpI, ltM, leM, inM, eqF, flatD, isM, Cl.isNon, truM, intM, idxM, slcM, lenM, lstAt, Cl.putAt, isaM, tyM, tyName, lsrcM, srcM, calmly, depOk_nil, sizeLine_eq, wipeE, gmul_r, gmul_l, gdiv, gmod, gmod', fdiv_pos, fmod_pos, grg, grg2, gsz, atI_pos]) ?_
      refine ends_step (e := [some (.ref 1), some (.bl k), none, some (.int r)]) (h' := bxH b1 rest) (by simp (disch := first | omega | (simp; done) | fail) [ir_law_bent_4, semS, semE, semA, semN, semO, semI, exS, bnd, optM, pur, setTg, seqM, lsM, binM, binL, augM, biM, bnM, cmpM, cmpI, ltM, leM, inM, eqF, flatD, isM, Cl.isNon, truM, intM, idxM, slcM, lenM, lstAt, Cl.putAt, isaM, tyM, tyName, lsrcM, srcM, calmly, depOk_nil, sizeLine_eq, wipeE, gmul_r, gmul_l, gdiv, gmod, gmod', fdiv_pos, fmod_pos, grg, grg2, gsz, atI_pos]) ?_
      refine ends_seq ?_
      rcases r8 with e | e | e | e | e | e | e | e <;> subst e
      · exact ends_rt (d := .int 0) (h := bxH b1 rest) (by simp (disch := first | omega | (simp; done) | fail) [ir_law_bent_5, semS, semE, semA, semN, semO, semI, exS, bnd, optM, pur, setTg, seqM, lsM, binM, binL, augM, biM, bnM, cmpM, cmpI, ltM, leM, inM, eqF, flatD, isM, Cl.isNon, truM, intM, idxM, slcM, lenM, lstAt, Cl.putAt, isaM, tyM, tyName, lsrcM, srcM, calmly, depOk_nil, sizeLine_eq, wipeE, gmul_r, gmul_l, gdiv, gmod, gmod', fdiv_pos, fmod_pos, grg, grg2, gsz, atI_pos]) ⟨b1, rfl, by cases n <;> simp [plD]⟩
      · exact ends_rt (d := .int 1) (h := bxH b1 rest) (by simp (disch := first | omega | (simp; done) | fail) [ir_law_bent_5, semS, semE, semA, semN, semO, semI, exS, bnd, optM, pur, setTg, seqM, lsM, binM, binL, augM, biM, bnM, cmpM, cmpI, ltM, leM, inM, eqF, flatD, isM, Cl.isNon, truM, intM, idxM, slcM, lenM, lstAt, Cl.putAt, isaM, tyM, tyName, lsrcM, srcM, calmly, depOk_nil, sizeLine_eq, wipeE, gmul_r, gmul_l, gdiv, gmod, gmod', fdiv_pos, fmod_pos, grg, grg2, gsz, atI_pos]) ⟨b1, rfl, by cases n <;> simp [plD]⟩
      · exact ends_rt (d := .non) (h := bxH b1 rest) (by simp (disch := first | omega | (simp; done) | fail) [ir_law_bent_5, semS, semE, semA, semN, semO, semI, exS, bnd, optM, pur, setTg, seqM, lsM, binM, binL, augM, biM, bnM, cmpM, cmpI, ltM, leM, inM, eqF, flatD, isM, Cl.isNon, truM, intM, idxM, slcM, lenM, lstAt, Cl.putAt, isaM, tyM, tyName, lsrcM, srcM, calmly, depOk_nil, sizeLine_eq, wipeE, gmul_r, gmul_l, gdiv, gmod, gmod', fdiv_pos, fmod_pos, grg, grg2, gsz, atI_pos]) ⟨b1, rfl, by cases n <;> simp [plD]⟩
      · exact ends_rt (d := .bl true) (h := bxH b1 rest) (by simp (disch := first | omega | (simp; done) | fail) [ir_law_bent_5, semS, semE, semA, semN, semO, semI, exS, bnd, optM, pur, setTg, seqM, lsM, binM, binL, augM, biM, bnM, cmpM, cmpI, ltM, leM, inM, eqF, flatD, isM, Cl.isNon, truM, intM, idxM, slcM, lenM, lstAt, Cl.putAt, isaM, tyM, tyName, lsrcM, srcM, calmly, depOk_nil, sizeLine_eq, wipeE, gmul_r, gmul_l, gdiv, gmod, gmod', fdiv_pos, fmod_pos, grg, grg2, gsz, atI_pos]) ⟨b1, rfl, by cases n <;> simp [plD]⟩
      · exact ends_rt (d := .bl false) (h := bxH b1 rest) (by simp (disch := first | omega | (simp; done) | fail) [ir_law_bent_5, semS, semE, semA, semN, semO, semI, exS, bnd, optM, pur, setTg, seqM, lsM, binM, binL, augM, biM, bnM, cmpM, cmpI, ltM, leM, inM, eqF, flatD, isM, Cl.isNon, truM, intM, idxM, slcM, lenM, lstAt, Cl.putAt, isaM, tyM, tyName, lsrcM, srcM, calmly, depOk_nil, sizeLine_eq, wipeE, gmul_r, gmul_l, gdiv, gmod, gmod', fdiv_pos, fmod_pos, grg, grg2, gsz, atI_pos]) ⟨b1, rfl, by cases n <;> simp [plD]⟩
      · exact ends_rt (d := .str (("a" : String) : Str)) (h := bxH b1 rest) (by simp (disch := first | omega | (simp; done) | fail) [ir_law_bent_5, semS, semE, semA, semN, semO, semI, exS, bnd, optM, pur, setTg, seqM, lsM, binM, binL, augM, biM, bnM, cmpM, cmpI, ltM, leM, inM, eqF, flatD, isM, Cl.isNon, truM, intM, idxM, slcM, lenM, lstAt, Cl.putAt, isaM, tyM, tyName, lsrcM, srcM, calmly, depOk_nil, sizeLine_eq, wipeE, gmul_r, gmul_l, gdiv, gmod, gmod', fdiv_pos, fmod_pos, grg, grg2, gsz, atI_pos]) ⟨b1, rfl, by cases n <;> simp [plD]⟩
      · exact ends_rt (d := .tup []) (h := bxH b1 rest) (by simp (disch := first | omega | (simp; done) | fail) [ir_law_bent_5, semS, semE, semA, semN, semO, semI, exS, bnd, optM, pur, setTg, seqM, lsM, binM, binL, augM, biM, bnM, cmpM, cmpI, ltM, leM, inM, eqF, flatD, isM, Cl.isNon, truM, intM, idxM, slcM, lenM, lstAt, Cl.putAt, isaM, tyM, tyName, lsrcM, srcM, calmly, depOk_nil, sizeLine_eq, wipeE, gmul_r, gmul_l, gdiv, gmod, gmod', fdiv_pos, fmod_pos, grg, grg2, gsz, atI_pos]) ⟨b1, rfl, by cases n <;> simp [plD]⟩
      · exact ends_rt (d := .int (-1)) (h := bxH b1 rest) (by simp (disch := first | omega | (simp; done) | fail) [ir_law_bent_5, semS, semE, semA, semN, semO, semI, exS, bnd, optM, pur, setTg, seqM, lsM, binM, binL, augM, biM, bnM, cmpM, cmpI, ltM, leM, inM, eqF, flatD, isM, Cl.isNon, truM, intM, idxM, slcM, lenM, lstAt, Cl.putAt, isaM, tyM, tyName, lsrcM, srcM, calmly, depOk_nil, sizeLine_eq, wipeE, gmul_r, gmul_l, gdiv, gmod, gmod', fdiv_pos, fmod_pos, grg, grg2, gsz, atI_pos]) ⟨b1, rfl, by cases n <;> simp [plD]⟩
    · have g : i.natAbs.log2 < 1920 := by omega
      refine ends_seq ?_
      rcases r8 with e | e | e | e | e | e | e | e <;> subst e
      · exact ends_rt (d := .int (i + 1)) (h := bxH b1 rest) (by simp (disch := first | omega | (simp; done) | fail) [ir_law_bent_3, semS, semE, semA, semN, semO, semI, exS, bnd, optM, pur, setTg, seqM, lsM, binM, binL, augM, biM, bnM, cmpM, cmpI, ltM, leM, inM, eqF, flatD, isM, Cl.isNon, truM, intM, idxM, slcM, lenM, lstAt, Cl.putAt, isaM, tyM, tyName, lsrcM, srcM, calmly, depOk_nil, sizeLine_eq, wipeE, gmul_r, gmul_l, gdiv, gmod, gmod', fdiv_pos, fmod_pos, grg, grg2, gsz, atI_pos, gle g]) ⟨b1, rfl, by cases n <;> simp [plD]⟩
      · exact ends_rt (d := .int (i - 1)) (h := bxH b1 rest) (by simp (disch := first | omega | (simp; done) | fail) [ir_law_bent_3, semS, semE, semA, semN, semO, semI, exS, bnd, optM, pur, setTg, seqM, lsM, binM, binL, augM, biM, bnM, cmpM, cmpI, ltM, leM, inM, eqF, flatD, isM, Cl.isNon, truM, intM, idxM, slcM, lenM, lstAt, Cl.putAt, isaM, tyM, tyName, lsrcM, srcM, calmly, depOk_nil, sizeLine_eq, wipeE, gmul_r, gmul_l, gdiv, gmod, gmod', fdiv_pos, fmod_pos, grg, grg2, gsz, atI_pos, gle g]) ⟨b1, rfl, by cases n <;> simp [plD]⟩
      · exact ends_rt (d := .int (-i)) (h := bxH b1 rest) (by simp (disch := first | omega | (simp; done) | fail) [ir_law_bent_3, semS, semE, semA, semN, semO, semI, exS, bnd, optM, pur, setTg, seqM, lsM, binM, binL, augM, biM, bnM, cmpM, cmpI, ltM, leM, inM, eqF, flatD, isM, Cl.isNon, truM, intM, idxM, slcM, lenM, lstAt, Cl.putAt, isaM, tyM, tyName, lsrcM, srcM, calmly, depOk_nil, sizeLine_eq, wipeE, gmul_r, gmul_l, gdiv, gmod, gmod', fdiv_pos, fmod_pos, grg, grg2, gsz, atI_pos, gle g]) ⟨b1, rfl, by cases n <;> simp [plD]⟩
      · exact ends_rt (d := .bl (decide (i = 1))) (h := bxH b1 rest) (by simp (disch := first | omega | (simp; done) | fail) [ir_law_bent_3, semS, semE, semA, semN, semO, semI, exS, bnd, optM, pur, setTg, seqM, lsM, binM, binL, augM, biM, bnM, cmpM, cmpI, ltM, leM, inM, eqF, flatD, isM, Cl.isNon, truM, intM, idxM, slcM, lenM, lstAt, Cl.putAt, isaM, tyM, tyName, lsrcM, srcM, calmly, depOk_nil, sizeLine_eq, wipeE, gmul_r, gmul_l, gdiv, gmod, gmod', fdiv_pos, fmod_pos, grg, grg2, gsz, atI_pos, gle g]) ⟨b1, rfl, by cases n <;> simp [plD]⟩
      · exact ends_rt (d := .non) (h := bxH b1 rest) (by simp (disch := first | omega | (simp; done) | fail) [ir_law_bent_3, semS, semE, semA, semN, semO, semI, exS, bnd, optM, pur, setTg, seqM, lsM, binM, binL, augM, biM, bnM, cmpM, cmpI, ltM, leM, inM, eqF, flatD, isM, Cl.isNon, truM, intM, idxM, slcM, lenM, lstAt, Cl.putAt, isaM, tyM, tyName, lsrcM, srcM, calmly, depOk_nil, sizeLine_eq, wipeE, gmul_r, gmul_l, gdiv, gmod, gmod', fdiv_pos, fmod_pos, grg, grg2, gsz, atI_pos, gle g]) ⟨b1, rfl, by cases n <;> simp [plD]⟩
      · exact ends_rt (d := .str ((toString i : String) : Str)) (h := bxH b1 rest) (by simp (disch := first | omega | (simp; done) | fail) [ir_law_bent_3, semS, semE, semA, semN, semO, semI, exS, bnd, optM, pur, setTg, seqM, lsM, binM, binL, augM, biM, bnM, cmpM, cmpI, ltM, leM, inM, eqF, flatD, isM, Cl.isNon, truM, intM, idxM, slcM, lenM, lstAt, Cl.putAt, isaM, tyM, tyName, lsrcM, srcM, calmly, depOk_nil, sizeLine_eq, wipeE, gmul_r, gmul_l, gdiv, gmod, gmod', fdiv_pos, fmod_pos, grg, grg2, gsz, atI_pos, gle g]) ⟨b1, rfl, by cases n <;> simp [plD]⟩
      · exact ends_rt (d := .tup [.int i]) (h := bxH b1 rest) (by simp (disch := first | omega | (simp; done) | fail) [ir_law_bent_3, semS, semE, semA, semN, semO, semI, exS, bnd, optM, pur, setTg, seqM, lsM, binM, binL, augM, biM, bnM, cmpM, cmpI, ltM, leM, inM, eqF, flatD, isM, Cl.isNon, truM, intM, idxM, slcM, lenM, lstAt, Cl.putAt, isaM, tyM, tyName, lsrcM, srcM, calmly, depOk_nil, sizeLine_eq, wipeE, gmul_r, gmul_l, gdiv, gmod, gmod', fdiv_pos, fmod_pos, grg, grg2, gsz, atI_pos, gle g]) ⟨b1, rfl, by cases n <;> simp [plD]⟩
      · exact ends_rt (d := .int (i + 1001)) (h := bxH b1 rest) (by simp (disch := first | omega | (simp; done) | fail) [ir_law_bent_3, semS, semE, semA, semN, semO, semI, exS, bnd, optM, pur, setTg, seqM, lsM, binM, binL, augM, biM, bnM, cmpM, cmpI, ltM, leM, inM, eqF, flatD, isM, Cl.isNon, truM, intM, idxM, slcM, lenM, lstAt, Cl.putAt, isaM, tyM, tyName, lsrcM, srcM, calmly, depOk_nil, sizeLine_eq, wipeE, gmul_r, gmul_l, gdiv, gmod, gmod', fdiv_pos, fmod_pos, grg, grg2, gsz, atI_pos, gle g]) ⟨b1, rfl, by cases n <;> simp [plD]⟩
  obtain ⟨d, h', e, b', rfl, hp⟩ := key
  exact ⟨d, b', e, hp⟩
theorem ev_bent : ∀ (n : Nat) (v : D) (_ : plI n v = true) (b : Bx) (rest : Hc), ∃ v' b', g_law_bent (n + 1) [.ref 1, v] (bxH b rest) = .ok v' (bxH b' rest) ∧ plD (n + 1) v' = true
  | n, .non, _, b, rest => bent_leaf (.inl rfl) b rest
  | n, .bl k, _, b, rest => bent_leaf (.inr (.inl ⟨k, rfl⟩)) b rest
  | n, .int i, h, b, rest => bent_leaf (.inr (.inr ⟨i, rfl, by cases n <;> simpa [plI] using h⟩)) b rest
  | 0, .tup xs, h, _, _ => by simp [plI] at h
  | 0, .str _, h, _, _ => by simp [plI] at h
  | n + 1, .str _, h, _, _ => by simp [plI] at h
  | 0, .kl _, h, _, _ => by simp [plI] at h
  | n + 1, .kl _, h, _, _ => by simp [plI] at h
  | 0, .fl _, h, _, _ => by simp [plI] at h
  | n + 1, .fl _, h, _, _ => by simp [plI] at h
  | 0, .ref _, h, _, _ => by simp [plI] at h
  | n + 1, .ref _, h, _, _ => by simp [plI] at h
  | 0, .ob _, h, _, _ => by simp [plI] at h
  | 0, .ty _, h, _, _ => by simp [plI] at h
  | n + 1, .ty _, h, _, _ => by simp [plI] at h
  | n + 1, .ob _, h, _, _ => by simp [plI] at h
  | n + 1, .tup xs, h, b, rest => by
    simp only [plI, Bool.and_eq_true, decide_eq_true_eq, List.all_eq_true] at h
    have hd : ∀ x ∈ xs, plD n x = true := fun x hx => plI_plD (h.2 x hx)
    have hd1 : ∀ x ∈ xs, plD (n + 1) x = true := fun x hx => plD_up (hd x hx)
    have hl := h.1
    have key : ∃ d h', g_law_bent (n + 2) [.ref 1, .tup xs] (bxH b rest) = .ok d h' ∧ ∃ b', h' = bxH b' rest ∧ plD (n + 2) d = true := by
      refine runF_ends (P := fun d h' => ∃ b', h' = bxH b' rest ∧ plD (n + 2) d = true) [some (.ref 1), some (.tup xs), none, none] ?_
      unfold ir_law_bent
      have hc : ∃ k b1, bnd (semE { tab := [g_law_draw, g_law_bent (n + 1)] } [] (.and (.isa (.var 1) ["tuple"]) (.and (.cmp .Gt (.bi .len (.cons (.var 1) .nil)) (.int 0)) (.cmp .Gt (.call 0 (.cons (.var 0) (.cons (.int 5) .nil))) (.int 0)))) [some (.ref 1), some (.tup xs), none, none]) truM (bxH b rest) = .ok k (bxH b1 rest) ∧ (k = true → 0 < xs.length) := by
        by_cases z : 0 < xs.length
        · obtain ⟨r, b1, e1, l1, u1⟩ := draw_ok b rest (many := 5) (by decide) (by decide)
          exact ⟨decide (0 < r), b1, by
            have : (0 : Int) < xs.length := by omega
            simp (disch := first | omega | (simp; done) | fail) [semS, semE, semA, semN, semO, semI, exS, bnd, optM, pur, setTg, seqM, lsM, binM, binL, augM, biM, bnM, cmpM, cmpI, ltM, leM, inM, eqF, flatD, isM, Cl.isNon, truM, intM, idxM, slcM, lenM, lstAt, Cl.putAt, isaM, tyM, tyName, lsrcM, srcM, calmly, depOk_nil, sizeLine_eq, wipeE, gmul_r, gmul_l, gdiv, gmod, gmod', fdiv_pos, fmod_pos, grg, grg2, gsz, atI_pos, z, e1], fun _ => z⟩
        · exact ⟨false, b, by
            have : xs = [] := List.length_eq_zero_iff.mp (by omega)
            subst this
            simp (disch := first | omega | (simp; done) | fail) [semS, semE, semA, semN, semO, semI, exS, bnd, optM, pur, setTg, seqM, lsM, binM, binL, augM, biM, bnM, cmpM, cmpI, ltM, leM, inM, eqF, flatD, isM, Cl.isNon, truM, intM, idxM, slcM, lenM, lstAt, Cl.putAt, isaM, tyM, tyName, lsrcM, srcM, calmly, depOk_nil, sizeLine_eq, wipeE, gmul_r, gmul_l, gdiv, gmod, gmod', fdiv_pos, fmod_pos, grg, grg2, gsz, atI_pos], fun z => by cases z⟩
      obtain ⟨k, b1, ek, hk⟩ := hc
      refine ends_seq (ends_ite ek ?_)
      by_cases z : k = true
      · rw [if_pos z]
        have hp := hk z
        obtain ⟨r, b2, e2, l2, u2⟩ := draw_ok b1 rest (many := (xs.length : Int)) (by omega) (by omega)
        obtain ⟨r, rfl⟩ := Int.eq_ofNat_of_zero_le l2
        have hr : r < xs.length := by omega
        obtain ⟨v', b3, e3, hv'⟩ := ev_bent n xs[r] (h.2 _ (List.getElem_mem hr)) b2 rest
        refine ends_step (e := [some (.ref 1), some (.tup xs), some (.int r), none]) (h' := bxH b2 rest) (by simp (disch := first | omega | (simp; done) | fail) [semS, semE, semA, semN, semO, semI, exS, bnd, optM, pur, setTg, seqM, lsM, binM, binL, augM, biM, bnM, cmpM, cmpI, ltM, leM, inM, eqF, flatD, isM, Cl.isNon, truM, intM, idxM, slcM, lenM, lstAt, Cl.putAt, isaM, tyM, tyName, lsrcM, srcM, calmly, depOk_nil, sizeLine_eq, wipeE, gmul_r, gmul_l, gdiv, gmod, gmod', fdiv_pos, fmod_pos, grg, grg2, gsz, atI_pos, e2]) ?_
        have c1 := cut_le xs none (some (r : Int))
        have c2 := cut_le xs (some ((r : Int) + 1)) none
        have g1 : (cutD xs none (some (r : Int))).length + 1 ≤ 16777216 := by omega
        have g2 : (cutD xs none (some (r : Int))).length + 1 + (cutD xs (some ((r : Int) + 1)) none).length ≤ 16777216 := by omega
        refine ends_seq (ends_rt (d := .tup (cutD xs none (some (r : Int)) ++ [v'] ++ cutD xs (some ((r : Int) + 1)) none)) (h := bxH b3 rest) (by
          simp (disch := first | omega | (simp; done) | fail) [semS, semE, semA, semN, semO, semI, exS, bnd, optM, pur, setTg, seqM, lsM, binM, binL, augM, biM, bnM, cmpM, cmpI, ltM, leM, inM, eqF, flatD, isM, Cl.isNon, truM, intM, idxM, slcM, lenM, lstAt, Cl.putAt, isaM, tyM, tyName, lsrcM, srcM, calmly, depOk_nil, sizeLine_eq, wipeE, gmul_r, gmul_l, gdiv, gmod, gmod', fdiv_pos, fmod_pos, grg, grg2, gsz, atI_pos, hr, e3, g1, g2, gle]) ⟨b3, rfl, ?_⟩)
        simp only [plD, Bool.and_eq_true, decide_eq_true_eq, List.all_eq_true]
        refine ⟨by simp; omega, fun x hx => ?_⟩
        rcases List.mem_append.mp hx with hx | hx
        · rcases List.mem_append.mp hx with hx | hx
          · exact hd1 x (cut_mem hx)
          · rw [List.mem_singleton] at hx; subst hx; exact hv'
        · exact hd1 x (cut_mem hx)
      · rw [if_neg z]
        refine ends_nop ?_
        obtain ⟨r, b2, e2, l2, u2⟩ := draw_ok b1 rest (many := 8) (by decide) (by decide)
        refine ends_step (e := [some (.ref 1), some (.tup xs), none, some (.int r)]) (h' := bxH b2 rest) (by simp (disch := first | omega | (simp; done) | fail) [ir_law_bent_1, semS, semE, semA, semN, semO, semI, exS, bnd, optM, pur, setTg, seqM, lsM, binM, binL, augM, biM, bnM, cmpM, cmpI, ltM, leM, inM, eqF, flatD, isM, Cl.isNon, truM, intM, idxM, slcM, lenM, lstAt, Cl.putAt, isaM, tyM, tyName, lsrcM, srcM, calmly, depOk_nil, sizeLine_eq, wipeE, gmul_r, gmul_l, gdiv, gmod, gmod', fdiv_pos, fmod_pos, grg, grg2, gsz, atI_pos, e2]) ?_
        have r8 : r = 0 ∨ r = 1 ∨ r = 2 ∨ r = 3 ∨ r = 4 ∨ r = 5 ∨ r = 6 ∨ r = 7 := by omega
        refine ends_seq ?_
        have c1 := cut_le xs none (some 1)
        have c2 := cut_le xs (some 1) none
        have c3 := cut_le xs none (some (-1))
        have g1 : xs.length + (cutD xs none (some 1)).length ≤ 16777216 := by omega
        have g2 : (cutD xs none (some 1)).length + xs.length ≤ 16777216 := by omega
        have g3 : xs.length + 1 ≤ 16777216 := by omega
        have fin : ∀ ys : List D, ys.length ≤ 4000 → (∀ x ∈ ys, plD (n + 1) x = true) → ∃ b', bxH b2 rest = bxH b' rest ∧ plD (n + 2) (.tup ys) = true := fun ys q1 q2 => ⟨b2, rfl, by
          simp only [plD, Bool.and_eq_true, decide_eq_true_eq, List.all_eq_true]
          exact ⟨q1, q2⟩⟩
        have am : ∀ {as bs : List D}, (∀ x ∈ as, plD (n + 1) x = true) → (∀ x ∈ bs, plD (n + 1) x = true) → ∀ x ∈ as ++ bs, plD (n + 1) x = true := fun q1 q2 x hx => by
          rcases List.mem_append.mp hx with hx | hx
          · exact q1 x hx
          · exact q2 x hx
        have hc1 : ∀ lo hi, ∀ x ∈ cutD xs lo hi, plD (n + 1) x = true := fun lo hi x hx => hd1 x (cut_mem hx)
        rcases r8 with e | e | e | e | e | e | e | e <;> subst e
        · exact ends_rt (d := .tup (xs ++ cutD xs none (some 1))) (h := bxH b2 rest) (by simp (disch := first | omega | (simp; done) | fail) [ir_law_bent_2, semS, semE, semA, semN, semO, semI, exS, bnd, optM, pur, setTg, seqM, lsM, binM, binL, augM, biM, bnM, cmpM, cmpI, ltM, leM, inM, eqF, flatD, isM, Cl.isNon, truM, intM, idxM, slcM, lenM, lstAt, Cl.putAt, isaM, tyM, tyName, lsrcM, srcM, calmly, depOk_nil, sizeLine_eq, wipeE, revM, gmul_r, gmul_l, gdiv, gmod, gmod', fdiv_pos, fmod_pos, grg, grg2, gsz, atI_pos, g1, g2, g3, gle]) (fin _ (by simp; omega) (am hd1 (hc1 _ _)))
        · exact ends_rt (d := .tup (cutD xs (some 1) none)) (h := bxH b2 rest) (by simp (disch := first | omega | (simp; done) | fail) [ir_law_bent_2, semS, semE, semA, semN, semO, semI, exS, bnd, optM, pur, setTg, seqM, lsM, binM, binL, augM, biM, bnM, cmpM, cmpI, ltM, leM, inM, eqF, flatD, isM, Cl.isNon, truM, intM, idxM, slcM, lenM, lstAt, Cl.putAt, isaM, tyM, tyName, lsrcM, srcM, calmly, depOk_nil, sizeLine_eq, wipeE, revM, gmul_r, gmul_l, gdiv, gmod, gmod', fdiv_pos, fmod_pos, grg, grg2, gsz, atI_pos, g1, g2, g3, gle]) (fin _ (by omega) (hc1 _ _))
        · exact ends_rt (d := .tup xs.reverse) (h := bxH b2 rest) (by simp (disch := first | omega | (simp; done) | fail) [ir_law_bent_2, semS, semE, semA, semN, semO, semI, exS, bnd, optM, pur, setTg, seqM, lsM, binM, binL, augM, biM, bnM, cmpM, cmpI, ltM, leM, inM, eqF, flatD, isM, Cl.isNon, truM, intM, idxM, slcM, lenM, lstAt, Cl.putAt, isaM, tyM, tyName, lsrcM, srcM, calmly, depOk_nil, sizeLine_eq, wipeE, revM, gmul_r, gmul_l, gdiv, gmod, gmod', fdiv_pos, fmod_pos, grg, grg2, gsz, atI_pos, g1, g2, g3, gle]) (fin _ (by simp; omega) fun x hx => hd1 x (List.mem_reverse.mp hx))
        · exact ends_rt (d := .tup (xs ++ [.int 0])) (h := bxH b2 rest) (by simp (disch := first | omega | (simp; done) | fail) [ir_law_bent_2, semS, semE, semA, semN, semO, semI, exS, bnd, optM, pur, setTg, seqM, lsM, binM, binL, augM, biM, bnM, cmpM, cmpI, ltM, leM, inM, eqF, flatD, isM, Cl.isNon, truM, intM, idxM, slcM, lenM, lstAt, Cl.putAt, isaM, tyM, tyName, lsrcM, srcM, calmly, depOk_nil, sizeLine_eq, wipeE, revM, gmul_r, gmul_l, gdiv, gmod, gmod', fdiv_pos, fmod_pos, grg, grg2, gsz, atI_pos, g1, g2, g3, gle]) (fin _ (by simp; omega) (am hd1 fun x hx => by rw [List.mem_singleton] at hx; subst hx; rfl))
        · exact ends_rt (d := .tup (cutD xs none (some 1) ++ xs)) (h := bxH b2 rest) (by simp (disch := first | omega | (simp; done) | fail) [ir_law_bent_2, semS, semE, semA, semN, semO, semI, exS, bnd, optM, pur, setTg, seqM, lsM, binM, binL, augM, biM, bnM, cmpM, cmpI, ltM, leM, inM, eqF, flatD, isM, Cl.isNon, truM, intM, idxM, slcM, lenM, lstAt, Cl.putAt, isaM, tyM, tyName, lsrcM, srcM, calmly, depOk_nil, sizeLine_eq, wipeE, revM, gmul_r, gmul_l, gdiv, gmod, gmod', fdiv_pos, fmod_pos, grg, grg2, gsz, atI_pos, g1, g2, g3, gle]) (fin _ (by simp; omega) (am (hc1 _ _) hd1))
        · exact ends_rt (d := .tup (cutD xs none (some (-1)))) (h := bxH b2 rest) (by simp (disch := first | omega | (simp; done) | fail) [ir_law_bent_2, semS, semE, semA, semN, semO, semI, exS, bnd, optM, pur, setTg, seqM, lsM, binM, binL, augM, biM, bnM, cmpM, cmpI, ltM, leM, inM, eqF, flatD, isM, Cl.isNon, truM, intM, idxM, slcM, lenM, lstAt, Cl.putAt, isaM, tyM, tyName, lsrcM, srcM, calmly, depOk_nil, sizeLine_eq, wipeE, revM, gmul_r, gmul_l, gdiv, gmod, gmod', fdiv_pos, fmod_pos, grg, grg2, gsz, atI_pos, g1, g2, g3, gle]) (fin _ (by omega) (hc1 _ _))
        · exact ends_rt (d := .non) (h := bxH b2 rest) (by simp (disch := first | omega | (simp; done) | fail) [ir_law_bent_2, semS, semE, semA, semN, semO, semI, exS, bnd, optM, pur, setTg, seqM, lsM, binM, binL, augM, biM, bnM, cmpM, cmpI, ltM, leM, inM, eqF, flatD, isM, Cl.isNon, truM, intM, idxM, slcM, lenM, lstAt, Cl.putAt, isaM, tyM, tyName, lsrcM, srcM, calmly, depOk_nil, sizeLine_eq, wipeE, revM, gmul_r, gmul_l, gdiv, gmod, gmod', fdiv_pos, fmod_pos, grg, grg2, gsz, atI_pos, g1, g2, g3, gle]) ⟨b2, rfl, rfl⟩
        · exact ends_rt (d := .tup (cutD xs none (some 1))) (h := bxH b2 rest) (by simp (disch := first | omega | (simp; done) | fail) [ir_law_bent_2, semS, semE, semA, semN, semO, semI, exS, bnd, optM, pur, setTg, seqM, lsM, binM, binL, augM, biM, bnM, cmpM, cmpI, ltM, leM, inM, eqF, flatD, isM, Cl.isNon, truM, intM, idxM, slcM, lenM, lstAt, Cl.putAt, isaM, tyM, tyName, lsrcM, srcM, calmly, depOk_nil, sizeLine_eq, wipeE, revM, gmul_r, gmul_l, gdiv, gmod, gmod', fdiv_pos, fmod_pos, grg, grg2, gsz, atI_pos, g1, g2, g3, gle]) (fin _ (by omega) (hc1 _ _))
    obtain ⟨d, h', e, b', rfl, hp⟩ := key
    exact ⟨d, b', e, hp⟩
end Cl
namespace Cl
open PySem PySem.Spec PyProof.Rows L2 Mth
def ir_is_whole_0 : S := (.ret (.and (.isa (.var 0) ["int"]) (.not (.isa (.var 0) ["bool"]))))
def ir_is_whole : S := (.seq ir_is_whole_0 .nop)
def ir_is_number_0 : S := (.ret (.and (.call 0 (.cons (.var 0) .nil)) (.chain .LtE .LtE (.var 1) (.var 0) (.var 2))))
def ir_is_number : S := (.seq ir_is_number_0 .nop)
noncomputable def p_is_whole : List D → PR := fun ds => pureOf (runF (semS { tab := [] } [] ir_is_whole) 1 1 ds [])
noncomputable def p_is_number : List D → PR := fun ds => pureOf (runF (semS { tab := [(liftP p_is_whole)] } [] ir_is_number) 3 3 ds [])
theorem plD_cases {n : Nat} {v : D} (h : plD n v = true) : v = .non ∨ (∃ k, v = .bl k) ∨ (∃ i, v = .int i) ∨ (∃ x, v = .str x) ∨ ∃ m xs, n = m + 1 ∧ v = .tup xs ∧ xs.length ≤ 4000 ∧ ∀ x ∈ xs, plD m x = true := by
  cases v with
  | non => exact .inl rfl
  | bl k => exact .inr (.inl ⟨k, rfl⟩)
  | int i => exact .inr (.inr (.inl ⟨i, rfl⟩))
  | str x => exact .inr (.inr (.inr (.inl ⟨x, rfl⟩)))
  | tup xs =>
    cases n with
    | zero => simp [plD] at h
    | succ m =>
      simp only [plD, Bool.and_eq_true, decide_eq_true_eq, List.all_eq_true] at h
      exact .inr (.inr (.inr (.inr ⟨m, xs, rfl, rfl, h⟩)))
  | _ => cases n <;> simp [plD] at h
def isI : D → Bool
  | .int _ => true
  | _ => false
def numB (lo hi : Int) : D → Bool
  | .int i => decide (lo ≤ i ∧ i ≤ hi)
  | _ => false
theorem ev_is_whole {n : Nat} {v : D} (h : plD n v = true) : p_is_whole [v] = .ok (.bl (isI v)) := by
  refine p_ends [some v] ?_
  unfold ir_is_whole
  refine ends_seq (ends_rt (h := []) ?_ rfl)
  rcases plD_cases h with rfl | ⟨k, rfl⟩ | ⟨i, rfl⟩ | ⟨x, rfl⟩ | ⟨m, xs, rfl, rfl, _, _⟩ <;> simp (disch := first | omega | (simp; done) | fail) [ir_is_whole_0, semS, semE, semA, semN, semO, semI, exS, bnd, optM, pur, setTg, seqM, lsM, binM, binL, augM, biM, bnM, cmpM, cmpI, ltM, leM, inM, eqF, flatD, isM, Cl.isNon, truM, intM, idxM, slcM, lenM, lstAt, Cl.putAt, isaM, tyM, tyName, lsrcM, srcM, calmly, depOk_nil, sizeLine_eq, wipeE, gmul_r, gmul_l, gdiv, gmod, gmod', fdiv_pos, fmod_pos, grg, grg2, gsz, atI_pos, isI]
theorem ev_is_number {n : Nat} {v : D} (h : plD n v = true) (lo hi : Int) : p_is_number [v, .int lo, .int hi] = .ok (.bl (numB lo hi v)) := by
  have e1 := ev_is_whole h
  have nr := plD_noRef h
  refine p_ends [some v, some (.int lo), some (.int hi)] ?_
  unfold ir_is_number
  refine ends_seq (ends_rt (h := []) ?_ rfl)
  rcases plD_cases h with rfl | ⟨k, rfl⟩ | ⟨i, rfl⟩ | ⟨x, rfl⟩ | ⟨m, xs, rfl, rfl, _, _⟩
  · simp (disch := first | omega | (simp; done) | fail) [ir_is_number_0, semS, semE, semA, semN, semO, semI, exS, bnd, optM, pur, setTg, seqM, lsM, binM, binL, augM, biM, bnM, cmpM, cmpI, ltM, leM, inM, eqF, flatD, isM, Cl.isNon, truM, intM, idxM, slcM, lenM, lstAt, Cl.putAt, isaM, tyM, tyName, lsrcM, srcM, calmly, depOk_nil, sizeLine_eq, wipeE, gmul_r, gmul_l, gdiv, gmod, gmod', fdiv_pos, fmod_pos, grg, grg2, gsz, atI_pos, liftP, noRefL, noRef, e1, isI, numB]
  · simp (disch := first | omega | (simp; done) | fail) [ir_is_number_0, semS, semE, semA, semN, semO, semI, exS, bnd, optM, pur, setTg, seqM, lsM, binM, binL, augM, biM, bnM, cmpM, cmpI, ltM, leM, inM, eqF, flatD, isM, Cl.isNon, truM, intM, idxM, slcM, lenM, lstAt, Cl.putAt, isaM, tyM, tyName, lsrcM, srcM, calmly, depOk_nil, sizeLine_eq, wipeE, gmul_r, gmul_l, gdiv, gmod, gmod', fdiv_pos, fmod_pos, grg, grg2, gsz, atI_pos, liftP, noRefL, noRef, e1, isI, numB]
  · by_cases z : lo ≤ i <;> simp (disch := first | omega | (simp; done) | fail) [ir_is_number_0, semS, semE, semA, semN, semO, semI, exS, bnd, optM, pur, setTg, seqM, lsM, binM, binL, augM, biM, bnM, cmpM, cmpI, ltM, leM, inM, eqF, flatD, isM, Cl.isNon, truM, intM, idxM, slcM, lenM, lstAt, Cl.putAt, isaM, tyM, tyName, lsrcM, srcM, calmly, depOk_nil, sizeLine_eq, wipeE, gmul_r, gmul_l, gdiv, gmod, gmod', fdiv_pos, fmod_pos, grg, grg2, gsz, atI_pos, liftP, noRefL, noRef, e1, isI, numB, z]
  · simp (disch := first | omega | (simp; done) | fail) [ir_is_number_0, semS, semE, semA, semN, semO, semI, exS, bnd, optM, pur, setTg, seqM, lsM, binM, binL, augM, biM, bnM, cmpM, cmpI, ltM, leM, inM, eqF, flatD, isM, Cl.isNon, truM, intM, idxM, slcM, lenM, lstAt, Cl.putAt, isaM, tyM, tyName, lsrcM, srcM, calmly, depOk_nil, sizeLine_eq, wipeE, gmul_r, gmul_l, gdiv, gmod, gmod', fdiv_pos, fmod_pos, grg, grg2, gsz, atI_pos, liftP, noRefL, noRef, e1, isI, numB]
  · simp [noRef] at nr
    simp (disch := first | omega | (simp; done) | fail) [ir_is_number_0, semS, semE, semA, semN, semO, semI, exS, bnd, optM, pur, setTg, seqM, lsM, binM, binL, augM, biM, bnM, cmpM, cmpI, ltM, leM, inM, eqF, flatD, isM, Cl.isNon, truM, intM, idxM, slcM, lenM, lstAt, Cl.putAt, isaM, tyM, tyName, lsrcM, srcM, calmly, depOk_nil, sizeLine_eq, wipeE, gmul_r, gmul_l, gdiv, gmod, gmod', fdiv_pos, fmod_pos, grg, grg2, gsz, atI_pos, liftP, noRefL, noRef, e1, isI, numB, nr]
end Cl
namespace Mth
/-! ### who hangs together -/
def adj (ws : Ways) (i j : Nat) : Prop := (min i j, max i j) ∈ ws
inductive Reach (ws : Ways) : Nat → Prop
  | zero : Reach ws 0
  | step {i j : Nat} : Reach ws i → adj ws i j → Reach ws j
structure Grp (n : Nat) (ws : Ways) (W : List Nat) : Prop where
  nd : W.Nodup
  lt : ∀ w ∈ W, w < n
  rch : ∀ w ∈ W, Reach ws w
  zero : 0 ∈ W
/-- one turn of the search -/
theorem Grp.ext {n : Nat} {ws : Ways} {W : List Nat} {i : Nat} (h : Grp n ws W) (hi : i ∈ W) :
    Grp n ws (W ++ (List.range n).filter fun j => decide (j ∉ W) && decide ((min i j, max i j) ∈ ws)) := by
  refine ⟨?_, fun w hw => ?_, fun w hw => ?_, List.mem_append_left _ h.zero⟩
  · rw [List.nodup_append]
    refine ⟨h.nd, List.nodup_range.filter _, fun a ha b hb e => ?_⟩
    subst e
    simp only [List.mem_filter, Bool.and_eq_true, decide_eq_true_eq] at hb
    exact hb.2.1 ha
  · rcases List.mem_append.mp hw with m | m
    · exact h.lt w m
    · exact List.mem_range.mp (List.mem_filter.mp m).1
  · rcases List.mem_append.mp hw with m | m
    · exact h.rch w m
    · simp only [List.mem_filter, Bool.and_eq_true, decide_eq_true_eq] at m
      exact .step (h.rch i hi) m.2.2
/-! ### by rounds over the ways -/
end Mth
namespace Cl
open PySem PySem.Spec PyProof.Rows L2 Mth
theorem two_of {xs : List D} (h : xs.length = 2) : ∃ a b, xs = [a, b] := by
  rcases xs with _ | ⟨a, _ | ⟨b, _ | ⟨c, r⟩⟩⟩ <;> simp at h
  exact ⟨a, b, rfl⟩
end Cl
namespace Cl
open PySem PySem.Spec PyProof.Rows L2 Mth
end Cl
namespace Cl
open PySem PySem.Spec PyProof.Rows L2 Mth
/-- a table of m rows and n columns -/
def tabR (m n : Nat) (F : Nat → Nat → Int) : List D := (List.range m).map fun i => D.tup (rowD n (F i))
@[simp] theorem tabR_len (m n : Nat) (F : Nat → Nat → Int) : (tabR m n F).length = m := by simp [tabR]
@[simp] theorem noRef_tabR (m n : Nat) (F : Nat → Nat → Int) : noRefL (tabR m n F) = true := noRefL_map (fun _ => by simp [noRef]) _
end Cl
/-! To walk through a def: what is wanted of a result, rules for simp. -/
namespace Cl
open PySem PySem.Spec PyProof.Rows L2
abbrev XP := Addr → List (Str × D) → Hc → Prop
/-- what is wanted of a result -/
def EE {α : Type} (r : Res α) (Q : α → Hc → Prop) (X : XP) : Prop := match r with
  | .ok a h => Q a h
  | .exc c fs h => X c fs h
  | .bad => False
def noX : XP := fun _ _ _ => False
def noE : Env → Hc → Prop := fun _ _ => False
/-- .. of a statement -/
def WS (o : Out) (N : Env → Hc → Prop) (R : D → Hc → Prop) (B Ct : Env → Hc → Prop) (X : Addr → List (Str × D) → Env → Hc → Prop) : Prop := match o with
  | .nx e h => N e h
  | .bk e h => B e h
  | .ct e h => Ct e h
  | .rt d h => R d h
  | .exc c fs e h => X c fs e h
  | .bad => False
/-! ### what comes behind: by names, that nothing is done under a binder -/
section
variable {α β : Type}
def KB (f : β → M α) (Q : α → Hc → Prop) (X : XP) : β → Hc → Prop := fun a h => EE (f a h) Q X
theorem k_b {f : β → M α} {Q : α → Hc → Prop} {X : XP} {a : β} {h : Hc} : KB f Q X a h = EE (f a h) Q X := rfl
/-- of a value made of a result -/
def KF (f : β → α) (Q : α → Hc → Prop) : β → Hc → Prop := fun a h => Q (f a) h
theorem k_f {f : β → α} {Q : α → Hc → Prop} {a : β} {h : Hc} : KF f Q a h = Q (f a) h := rfl
end
section
variable {α β : Type} {Q : α → Hc → Prop} {X : XP} {h h' : Hc}
theorem ee_ok {a : α} : EE (.ok a h) Q X = Q a h := rfl
theorem ee_pur {a : α} : EE (pur a h) Q X = Q a h := rfl
theorem ee_stuck : EE (stuck h) Q X = False := rfl
theorem ee_bad : EE .bad Q X = False := rfl
theorem ee_exc {c : Addr} {fs : List (Str × D)} : EE (.exc c fs h) Q X = X c fs h := rfl
theorem ee_bnd {m : M β} {f : β → M α} : EE (bnd m f h) Q X = EE (m h) (KB f Q X) X := by
  unfold bnd EE; cases m h <;> rfl
theorem ee_guard {c : Prop} {m : M α} : EE (Cl.guard c m h) Q X = (c ∧ EE (m h) Q X) := by
  unfold Cl.guard
  by_cases q : c
  · rw [if_pos q]; simp [q]
  · rw [if_neg q]; simp [q]; exact id
theorem ee_some {a : α} : EE (optM (some a) h) Q X = Q a h := rfl
theorem ee_none : EE (optM (none : Option α) h) Q X = False := rfl
theorem ee_ite {c : Prop} [Decidable c] {m m' : M α} : EE ((if c then m else m') h) Q X = if c then EE (m h) Q X else EE (m' h) Q X := by
  by_cases q : c <;> simp only [q, if_true, if_false]
theorem ee_calmly {m : M α} : EE (calmly m h) Q X = EE (m h) Q noX := by
  unfold calmly EE; cases m h <;> rfl
theorem ee_imp {r : Res α} {Q' : α → Hc → Prop} {X' : XP} (x : EE r Q X) (f : ∀ a h, Q a h → Q' a h) (g : ∀ c fs h, X c fs h → X' c fs h) : EE r Q' X' := by
  cases r <;> first | exact f _ _ x | exact g _ _ _ x | exact x
theorem ee_of {r : Res α} {a : α} (e : r = .ok a h) (q : Q a h) : EE r Q X := by rw [e]; exact q
theorem ee_get {r : Res α} (x : EE r Q noX) : ∃ a h, r = .ok a h ∧ Q a h := by
  cases r <;> first | exact ⟨_, _, rfl, x⟩ | exact x.elim
theorem ee_eq {r : Res α} {a : α} (x : EE r (fun a' h'' => h'' = h ∧ a' = a) noX) : r = .ok a h := by
  obtain ⟨_, _, e, rfl, rfl⟩ := ee_get x; exact e
end
section
variable (G : Gt) (C : List D) (env : Env) (Q : D → Hc → Prop) (X : XP) (QL : List D → Hc → Prop)
def KbinR (o : Operator) (b : I) : D → Hc → Prop := fun x h => EE (semE G C b env h) (KB (binM o x) Q X) X
def KneG : D → Hc → Prop := fun x h => EE (intM x h) (KF (fun i => D.int (-i)) Q) X
def Ktru (Q : Bool → Hc → Prop) : D → Hc → Prop := fun x h => EE (truM x h) Q X
def KcmpR (o : CmpOp) (b : I) : D → Hc → Prop := fun x h => EE (semE G C b env h) (KB (cmpM o x) (KF D.bl Q) X) X
def Kch (p : CmpOp) (c : I) (y : D) : Bool → Hc → Prop := fun k h => if k = true then EE (semE G C c env h) (KB (cmpM p y) (KF D.bl Q) X) X else Q (.bl false) h
def KchR2 (o p : CmpOp) (c : I) (x : D) : D → Hc → Prop := fun y h => EE (cmpM o x y h) (Kch G C env Q X p c y) X
def KchR (o p : CmpOp) (b c : I) : D → Hc → Prop := fun x h => EE (semE G C b env h) (KchR2 G C env Q X o p c x) X
def KandR2 (b : I) (x : D) : Bool → Hc → Prop := fun k h => if k = true then EE (semE G C b env h) Q X else Q x h
def KandR (b : I) : D → Hc → Prop := fun x h => EE (truM x h) (KandR2 G C env Q X b x) X
def KorR2 (b : I) (x : D) : Bool → Hc → Prop := fun k h => if k = true then Q x h else EE (semE G C b env h) Q X
def KorR (b : I) : D → Hc → Prop := fun x h => EE (truM x h) (KorR2 G C env Q X b x) X
def KcondR2 (a b : I) : Bool → Hc → Prop := fun k h => if k = true then EE (semE G C a env h) Q X else EE (semE G C b env h) Q X
def Ktup : List D → Hc → Prop := fun xs h => xs.length ≤ sizeLine ∧ Q (.tup xs) h
def KlstL : List D → Hc → Prop := fun xs h => xs.length ≤ sizeLine ∧ QL xs h
def KidxR (b : I) : D → Hc → Prop := fun x h => EE (semE G C b env h) (KB (idxM x) Q X) X
def KslcR2 (hi : I) (x : D) : Option Int → Hc → Prop := fun l h => EE (semO G C hi env h) (KB (slcM x l) Q X) X
def KslcR (lo hi : I) : D → Hc → Prop := fun x h => EE (semO G C lo env h) (KslcR2 G C env Q X hi x) X
def Kcall (g : List D → M D) : List D → Hc → Prop := fun ds h => EE (g ds h) Q X
def Kbi (f : Bi) : List D → Hc → Prop := fun ds h => EE (biM f ds h) Q X
def Kisa (ts : List String) : D → Hc → Prop := fun x h => EE (isaM ts x h) (KF D.bl Q) X
def Ktrk : List D → Hc → Prop := fun xs h => Q (.ref h.length) (h ++ [.lst xs])
def KappP : Unit → Hc → Prop := fun _ h => Q .non h
def KappX (i : Nat) (y : D) : List D → Hc → Prop := fun xs h => xs.length < sizeLine ∧ EE (putAt i (.lst (xs ++ [y])) h) (KappP Q) X
def KappY (i : Nat) : D → Hc → Prop := fun y h => EE (lstAt i h) (KappX Q X i y) X
def KappL (i : Nat) (x : I) : List D → Hc → Prop := fun _ h => EE (semE G C x env h) (KappY Q X i) X
def KappR (x : I) : D → Hc → Prop := fun l h => match l with
    | .ref i => EE (lstAt i h) (KappL G C env Q X i x) X
    | _ => False
def KbnN (f : Bn) : List D → Hc → Prop := fun xs h => EE (bnM f xs h) QL X
def KbinLR (o : Operator) (b : I) : D → Hc → Prop := fun x h => EE (semE G C b env h) (KB (binL o x) QL X) X
def Kcons2 (x : D) : List D → Hc → Prop := fun xs h => QL (x :: xs) h
def Kcons (r : I) : D → Hc → Prop := fun x h => EE (semA G C r env h) (Kcons2 QL x) X
end
section
variable {G : Gt} {C : List D} {env : Env} {Q : D → Hc → Prop} {X : XP} {QL : List D → Hc → Prop} {h : Hc}
theorem k_binR {o : Operator} {b : I} {x : D} : KbinR G C env Q X o b x h = EE (semE G C b env h) (KB (binM o x) Q X) X := rfl
theorem k_neG {x : D} : KneG Q X x h = EE (intM x h) (KF (fun i => D.int (-i)) Q) X := rfl
theorem k_tru {Q : Bool → Hc → Prop} {x : D} : Ktru X Q x h = EE (truM x h) Q X := rfl
theorem k_cmpR {o : CmpOp} {b : I} {x : D} : KcmpR G C env Q X o b x h = EE (semE G C b env h) (KB (cmpM o x) (KF D.bl Q) X) X := rfl
theorem k_ch {p : CmpOp} {c : I} {y : D} {k : Bool} : Kch G C env Q X p c y k h = if k = true then EE (semE G C c env h) (KB (cmpM p y) (KF D.bl Q) X) X else Q (.bl false) h := rfl
theorem k_chR2 {o p : CmpOp} {c : I} {x y : D} : KchR2 G C env Q X o p c x y h = EE (cmpM o x y h) (Kch G C env Q X p c y) X := rfl
theorem k_chR {o p : CmpOp} {b c : I} {x : D} : KchR G C env Q X o p b c x h = EE (semE G C b env h) (KchR2 G C env Q X o p c x) X := rfl
theorem k_andR2 {b : I} {x : D} {k : Bool} : KandR2 G C env Q X b x k h = if k = true then EE (semE G C b env h) Q X else Q x h := rfl
theorem k_andR {b : I} {x : D} : KandR G C env Q X b x h = EE (truM x h) (KandR2 G C env Q X b x) X := rfl
theorem k_orR2 {b : I} {x : D} {k : Bool} : KorR2 G C env Q X b x k h = if k = true then Q x h else EE (semE G C b env h) Q X := rfl
theorem k_orR {b : I} {x : D} : KorR G C env Q X b x h = EE (truM x h) (KorR2 G C env Q X b x) X := rfl
theorem k_condR2 {a b : I} {k : Bool} : KcondR2 G C env Q X a b k h = if k = true then EE (semE G C a env h) Q X else EE (semE G C b env h) Q X := rfl
theorem k_tup {xs : List D} : Ktup Q xs h = (xs.length ≤ sizeLine ∧ Q (.tup xs) h) := rfl
theorem k_lstL {xs : List D} : KlstL QL xs h = (xs.length ≤ sizeLine ∧ QL xs h) := rfl
theorem k_idxR {b : I} {x : D} : KidxR G C env Q X b x h = EE (semE G C b env h) (KB (idxM x) Q X) X := rfl
theorem k_slcR2 {hi : I} {x : D} {l : Option Int} : KslcR2 G C env Q X hi x l h = EE (semO G C hi env h) (KB (slcM x l) Q X) X := rfl
theorem k_slcR {lo hi : I} {x : D} : KslcR G C env Q X lo hi x h = EE (semO G C lo env h) (KslcR2 G C env Q X hi x) X := rfl
theorem k_call {g : List D → M D} {ds : List D} : Kcall Q X g ds h = EE (g ds h) Q X := rfl
theorem k_bi {f : Bi} {ds : List D} : Kbi Q X f ds h = EE (biM f ds h) Q X := rfl
theorem k_isa {ts : List String} {x : D} : Kisa Q X ts x h = EE (isaM ts x h) (KF D.bl Q) X := rfl
theorem k_trk {xs : List D} : Ktrk Q xs h = Q (.ref h.length) (h ++ [.lst xs]) := rfl
theorem k_appP {u : Unit} : KappP Q u h = Q .non h := rfl
theorem k_appX {i : Nat} {y : D} {xs : List D} : KappX Q X i y xs h = (xs.length < sizeLine ∧ EE (putAt i (.lst (xs ++ [y])) h) (KappP Q) X) := rfl
theorem k_appY {i : Nat} {y : D} : KappY Q X i y h = EE (lstAt i h) (KappX Q X i y) X := rfl
theorem k_appL {i : Nat} {x : I} {xs : List D} : KappL G C env Q X i x xs h = EE (semE G C x env h) (KappY Q X i) X := rfl
theorem k_appR {i : Nat} {x : I} : KappR G C env Q X x (.ref i) h = EE (lstAt i h) (KappL G C env Q X i x) X := rfl
theorem k_bnN {f : Bn} {xs : List D} : KbnN X QL f xs h = EE (bnM f xs h) QL X := rfl
theorem k_binLR {o : Operator} {b : I} {x : D} : KbinLR G C env X QL o b x h = EE (semE G C b env h) (KB (binL o x) QL X) X := rfl
theorem k_cons2 {x : D} {xs : List D} : Kcons2 QL x xs h = QL (x :: xs) h := rfl
theorem k_cons {r : I} {x : D} : Kcons G C env X QL r x h = EE (semA G C r env h) (Kcons2 QL x) X := rfl
theorem ee_var {i : Nat} : EE (semE G C (.var i) env h) Q X = EE (optM ((env[i]?).bind id) h) Q X := by rw [semE]
theorem ee_int {n : Int} : EE (semE G C (.int n) env h) Q X = Q (.int n) h := by rw [semE]; rfl
theorem ee_str {x : String} : EE (semE G C (.str x) env h) Q X = Q (.str (Str.ofString x)) h := by rw [semE]; rfl
theorem ee_bl {b : Bool} : EE (semE G C (.bl b) env h) Q X = Q (.bl b) h := by rw [semE]; rfl
theorem ee_non : EE (semE G C .non env h) Q X = Q .non h := by rw [semE]; rfl
theorem ee_glb {j : Nat} : EE (semE G C (.glb j) env h) Q X = EE (optM C[j]? h) Q X := by rw [semE]
theorem ee_bin {o : Operator} {a b : I} : EE (semE G C (.bin o a b) env h) Q X = EE (semE G C a env h) (KbinR G C env Q X o b) X := by
  rw [semE, ee_bnd]; congr 1; funext x h; rw [k_b, ee_bnd]; rfl
theorem ee_neg {a : I} : EE (semE G C (.neg a) env h) Q X = EE (semE G C a env h) (KneG Q X) X := by
  rw [semE, ee_bnd]; congr 1; funext x h; rw [k_b, ee_bnd]; rfl
theorem ee_not {a : I} : EE (semE G C (.not a) env h) Q X = EE (semE G C a env h) (Ktru X (KF (fun k => D.bl (!k)) Q)) X := by
  rw [semE, ee_bnd]; congr 1; funext x h; rw [k_b, ee_bnd]; rfl
theorem ee_cmp {o : CmpOp} {a b : I} : EE (semE G C (.cmp o a b) env h) Q X = EE (semE G C a env h) (KcmpR G C env Q X o b) X := by
  rw [semE, ee_bnd]; congr 1; funext x h; rw [k_b, ee_bnd]; unfold KcmpR; congr 1; funext y h; rw [k_b, ee_bnd]; rfl
theorem ee_chain {o p : CmpOp} {a b c : I} : EE (semE G C (.chain o p a b c) env h) Q X = EE (semE G C a env h) (KchR G C env Q X o p b c) X := by
  rw [semE, ee_bnd]; congr 1; funext x h; rw [k_b, ee_bnd]; unfold KchR; congr 1; funext y h; rw [k_b, ee_bnd]; unfold KchR2; congr 1; funext k h
  rw [k_b]; cases k
  · rfl
  · simp only [if_true, ee_bnd, Kch]; congr 1; funext z h; rw [k_b, ee_bnd]; rfl
theorem ee_and {a b : I} : EE (semE G C (.and a b) env h) Q X = EE (semE G C a env h) (KandR G C env Q X b) X := by
  rw [semE, ee_bnd]; congr 1; funext x h; rw [k_b, ee_bnd]; unfold KandR; congr 1; funext k h; rw [k_b]; cases k <;> rfl
theorem ee_or {a b : I} : EE (semE G C (.or a b) env h) Q X = EE (semE G C a env h) (KorR G C env Q X b) X := by
  rw [semE, ee_bnd]; congr 1; funext x h; rw [k_b, ee_bnd]; unfold KorR; congr 1; funext k h; rw [k_b]; cases k <;> rfl
theorem ee_cond {t a b : I} : EE (semE G C (.ite t a b) env h) Q X = EE (semE G C t env h) (Ktru X (KcondR2 G C env Q X a b)) X := by
  rw [semE, ee_bnd]; congr 1; funext x h; rw [k_b, ee_bnd]; unfold Ktru; congr 1; funext k h; rw [k_b]; cases k <;> rfl
theorem ee_tup {as : I} : EE (semE G C (.tup as) env h) Q X = EE (semA G C as env h) (Ktup Q) X := by
  rw [semE, ee_bnd]; congr 1; funext x h; rw [k_b, ee_guard]; rfl
theorem ee_idx {a i : I} : EE (semE G C (.idx a i) env h) Q X = EE (semE G C a env h) (KidxR G C env Q X i) X := by
  rw [semE, ee_bnd]; congr 1; funext x h; rw [k_b, ee_bnd]; rfl
theorem ee_slc {a lo hi : I} : EE (semE G C (.slc a lo hi) env h) Q X = EE (semE G C a env h) (KslcR G C env Q X lo hi) X := by
  rw [semE, ee_bnd]; congr 1; funext x h; rw [k_b, ee_bnd]; unfold KslcR; congr 1; funext l h; rw [k_b, ee_bnd]; rfl
theorem ee_call {f : Nat} {as : I} : EE (semE G C (.call f as) env h) Q X = match G.tab[f]? with
    | some g => EE (semA G C as env h) (Kcall Q X g) X
    | none => False := by
  rw [semE]; generalize G.tab[f]? = o
  cases o with
  | none => rfl
  | some g => exact ee_bnd
theorem ee_bi {f : Bi} {as : I} : EE (semE G C (.bi f as) env h) Q X = EE (semA G C as env h) (Kbi Q X f) X := by
  rw [semE, ee_bnd]; rfl
theorem ee_isa {a : I} {ts : List String} : EE (semE G C (.isa a ts) env h) Q X = EE (semE G C a env h) (Kisa Q X ts) X := by
  rw [semE, ee_bnd]; congr 1; funext x h; rw [k_b, ee_bnd]; rfl
theorem ee_trk {a : I} : EE (semE G C (.trk a) env h) Q X = EE (semN G C a env h) (Ktrk Q) X := by
  rw [semE, ee_bnd]; rfl
theorem ee_app {a x : I} : EE (semE G C (.app a x) env h) Q X = EE (semE G C a env h) (KappR G C env Q X x) X := by
  rw [semE, ee_bnd]; congr 1; funext l h; rw [k_b]; cases l <;> try rfl
  simp only [ee_bnd, KappR]; congr 1; funext l h; rw [k_b, ee_bnd]; unfold KappL; congr 1; funext y h; rw [k_b, ee_bnd]; unfold KappY; congr 1; funext z h; rw [k_b, ee_guard, ee_bnd]; rfl
theorem ee_rev {a : I} : EE (semE G C (.rev a) env h) Q X = EE (semE G C a env h) (KB revM Q X) X := by rw [semE, ee_bnd]
theorem ee_lst {as : I} : EE (semE G C (.lst as) env h) Q X = EE (semN G C (.lst as) env h) (KF D.fl Q) X := by rw [semE, ee_bnd]; rfl
theorem ee_comp {own : List Nat} {tg : Tg} {src ifs elt : I} : EE (semE G C (.comp own tg src ifs elt) env h) Q X = EE (semN G C (.comp own tg src ifs elt) env h) (KF D.fl Q) X := by rw [semE, ee_bnd]; rfl
theorem ee_bn {f : Bn} {as : I} : EE (semE G C (.bn f as) env h) Q X = EE (semN G C (.bn f as) env h) (KF D.fl Q) X := by rw [semE, ee_bnd]; rfl
theorem ee_binL {o : Operator} {a b : I} : EE (semE G C (.binL o a b) env h) Q X = EE (semN G C (.binL o a b) env h) (KF D.fl Q) X := by rw [semE, ee_bnd]; rfl
theorem ee_slcL {a lo hi : I} : EE (semE G C (.slcL a lo hi) env h) Q X = EE (semN G C (.slcL a lo hi) env h) (KF D.fl Q) X := by rw [semE, ee_bnd]; rfl
theorem en_lst {as : I} : EE (semN G C (.lst as) env h) QL X = EE (semA G C as env h) (KlstL QL) X := by
  rw [semN, ee_bnd]; congr 1; funext x h; rw [k_b, ee_guard]; rfl
theorem en_bn {f : Bn} {as : I} : EE (semN G C (.bn f as) env h) QL X = EE (semA G C as env h) (KbnN X QL f) X := by rw [semN, ee_bnd]; rfl
theorem en_binL {o : Operator} {a b : I} : EE (semN G C (.binL o a b) env h) QL X = EE (semE G C a env h) (KbinLR G C env X QL o b) X := by
  rw [semN, ee_bnd]; congr 1; funext x h; rw [k_b, ee_bnd]; rfl
theorem ea_nil : EE (semA G C .nil env h) QL X = QL [] h := by rw [semA]; rfl
theorem ea_cons {a r : I} : EE (semA G C (.cons a r) env h) QL X = EE (semE G C a env h) (Kcons G C env X QL r) X := by
  rw [semA, ee_bnd]; congr 1; funext x h; rw [k_b, ee_bnd]; rfl
end
section
variable (G : Gt) (C : List D) (env : Env) (Q : D → Hc → Prop) (X : XP) (QL : List D → Hc → Prop)
def KslcL3 (x : D) (l : Option Int) : Option Int → Hc → Prop := fun u h => EE ((match x with
    | .tup _ => stuck
    | x => bnd (seqM x) fun xs => pur (cutD xs l u) : M (List D)) h) QL X
def KslcL2 (hi : I) (x : D) : Option Int → Hc → Prop := fun l h => EE (semO G C hi env h) (KslcL3 X QL x l) X
def KslcL (lo hi : I) : D → Hc → Prop := fun x h => EE (semO G C lo env h) (KslcL2 G C env X QL hi x) X
def KpopV (v : D) : Unit → Hc → Prop := fun _ h => Q v h
def KpopJ (i : Nat) (xs : List D) (j : Nat) : D → Hc → Prop := fun v h => EE (putAt i (.lst (xs.eraseIdx j)) h) (KpopV Q v) X
def KpopI (i : Nat) (xs : List D) : Nat → Hc → Prop := fun j h => EE (optM xs[j]? h) (KpopJ Q X i xs j) X
def KpopL (i : Nat) (k : Int) : List D → Hc → Prop := fun xs h => (-(2 ^ 63) ≤ k ∧ k < 2 ^ 63) ∧ EE (optM (seqIndex? k xs.length) h) (KpopI Q X i xs) X
def KpopK (i : Nat) : Int → Hc → Prop := fun k h => EE (lstAt i h) (KpopL Q X i k) X
def KpopY (i : Nat) : D → Hc → Prop := fun y h => EE (intM y h) (KpopK Q X i) X
def KpopX (i : Nat) (x : I) : List D → Hc → Prop := fun _ h => EE (semE G C x env h) (KpopY Q X i) X
def KpopA (x : I) : D → Hc → Prop := fun l h => match l with
    | .ref i => EE (lstAt i h) (KpopX G C env Q X i x) X
    | _ => False
def KpoV (i : Nat) (xs : List D) : D → Hc → Prop := fun v h => EE (putAt i (.lst xs.dropLast) h) (KpopV Q v) X
def KpoL (i : Nat) : List D → Hc → Prop := fun xs h => EE (optM xs[xs.length - 1]? h) (KpoV Q X i xs) X
def KpoA : D → Hc → Prop := fun l h => match l with
    | .ref i => EE (lstAt i h) (KpoL Q X i) X
    | _ => False
def KextL (i : Nat) (ys : List D) : List D → Hc → Prop := fun xs h => xs.length + ys.length ≤ sizeLine ∧ EE (putAt i (.lst (xs ++ ys)) h) (KappP Q) X
def KextY (i : Nat) : D → Hc → Prop := fun y h => match y with
    | .fl ys => EE (lstAt i h) (KextL Q X i ys) X
    | _ => False
def KextX (i : Nat) (x : I) : List D → Hc → Prop := fun _ h => EE (semE G C x env h) (KextY Q X i) X
def KextA (x : I) : D → Hc → Prop := fun l h => match l with
    | .ref i => EE (lstAt i h) (KextX G C env Q X i x) X
    | _ => False
end
section
variable {G : Gt} {C : List D} {env : Env} {Q : D → Hc → Prop} {X : XP} {QL : List D → Hc → Prop} {h : Hc}
theorem k_slcL3 {x : D} {l u : Option Int} : KslcL3 X QL x l u h = EE ((match x with
    | .tup _ => stuck
    | x => bnd (seqM x) fun xs => pur (cutD xs l u) : M (List D)) h) QL X := rfl
theorem k_slcL2 {hi : I} {x : D} {l : Option Int} : KslcL2 G C env X QL hi x l h = EE (semO G C hi env h) (KslcL3 X QL x l) X := rfl
theorem k_slcL {lo hi : I} {x : D} : KslcL G C env X QL lo hi x h = EE (semO G C lo env h) (KslcL2 G C env X QL hi x) X := rfl
theorem k_popV {v : D} {u : Unit} : KpopV Q v u h = Q v h := rfl
theorem k_popJ {i : Nat} {xs : List D} {j : Nat} {v : D} : KpopJ Q X i xs j v h = EE (putAt i (.lst (xs.eraseIdx j)) h) (KpopV Q v) X := rfl
theorem k_popI {i : Nat} {xs : List D} {j : Nat} : KpopI Q X i xs j h = EE (optM xs[j]? h) (KpopJ Q X i xs j) X := rfl
theorem k_popL {i : Nat} {k : Int} {xs : List D} : KpopL Q X i k xs h = ((-(2 ^ 63) ≤ k ∧ k < 2 ^ 63) ∧ EE (optM (seqIndex? k xs.length) h) (KpopI Q X i xs) X) := rfl
theorem k_popK {i : Nat} {k : Int} : KpopK Q X i k h = EE (lstAt i h) (KpopL Q X i k) X := rfl
theorem k_popY {i : Nat} {y : D} : KpopY Q X i y h = EE (intM y h) (KpopK Q X i) X := rfl
theorem k_popX {i : Nat} {x : I} {xs : List D} : KpopX G C env Q X i x xs h = EE (semE G C x env h) (KpopY Q X i) X := rfl
theorem k_popA {i : Nat} {x : I} : KpopA G C env Q X x (.ref i) h = EE (lstAt i h) (KpopX G C env Q X i x) X := rfl
theorem k_poV {i : Nat} {xs : List D} {v : D} : KpoV Q X i xs v h = EE (putAt i (.lst xs.dropLast) h) (KpopV Q v) X := rfl
theorem k_poL {i : Nat} {xs : List D} : KpoL Q X i xs h = EE (optM xs[xs.length - 1]? h) (KpoV Q X i xs) X := rfl
theorem k_poA {i : Nat} : KpoA Q X (.ref i) h = EE (lstAt i h) (KpoL Q X i) X := rfl
theorem k_extL {i : Nat} {xs ys : List D} : KextL Q X i ys xs h = (xs.length + ys.length ≤ sizeLine ∧ EE (putAt i (.lst (xs ++ ys)) h) (KappP Q) X) := rfl
theorem k_extY {i : Nat} {ys : List D} : KextY Q X i (.fl ys) h = EE (lstAt i h) (KextL Q X i ys) X := rfl
theorem k_extX {i : Nat} {x : I} {xs : List D} : KextX G C env Q X i x xs h = EE (semE G C x env h) (KextY Q X i) X := rfl
theorem k_extA {i : Nat} {x : I} : KextA G C env Q X x (.ref i) h = EE (lstAt i h) (KextX G C env Q X i x) X := rfl
theorem en_slcL {a lo hi : I} : EE (semN G C (.slcL a lo hi) env h) QL X = EE (semE G C a env h) (KslcL G C env X QL lo hi) X := by
  rw [semN, ee_bnd]; congr 1; funext x h; rw [k_b, ee_bnd]; unfold KslcL; congr 1; funext l h; rw [k_b, ee_bnd]; unfold KslcL2; congr 1
theorem ee_popAt {a x : I} : EE (semE G C (.popAt a x) env h) Q X = EE (semE G C a env h) (KpopA G C env Q X x) X := by
  rw [semE, ee_bnd]; congr 1; funext l h; rw [k_b]; cases l <;> try rfl
  simp only [ee_bnd, KpopA]; congr 1; funext l h; rw [k_b, ee_bnd]; unfold KpopX; congr 1; funext y h; rw [k_b, ee_bnd]; unfold KpopY; congr 1; funext y h; rw [k_b, ee_bnd]; unfold KpopK; congr 1; funext xs h; rw [k_b, ee_guard, ee_bnd]; unfold KpopL; congr 2; funext j h; rw [k_b, ee_bnd]; unfold KpopI; congr 1; funext v h; rw [k_b, ee_bnd]; rfl
theorem ee_pop {a : I} : EE (semE G C (.pop a) env h) Q X = EE (semE G C a env h) (KpoA Q X) X := by
  rw [semE, ee_bnd]; congr 1; funext l h; rw [k_b]; cases l <;> try rfl
  simp only [ee_bnd, KpoA]; congr 1; funext xs h; rw [k_b, ee_bnd]; unfold KpoL; congr 1; funext v h; rw [k_b, ee_bnd]; rfl
theorem ee_ext {a x : I} : EE (semE G C (.ext a x) env h) Q X = EE (semE G C a env h) (KextA G C env Q X x) X := by
  rw [semE, ee_bnd]; congr 1; funext l h; rw [k_b]; cases l <;> try rfl
  simp only [ee_bnd, KextA]; congr 1; funext l h; rw [k_b, ee_bnd]; unfold KextX; congr 1; funext y h; rw [k_b]; cases y <;> try rfl
  simp only [ee_bnd, KextY]; congr 1; funext xs h; rw [k_b, ee_guard, ee_bnd]; rfl
end
abbrev XE := Addr → List (Str × D) → Env → Hc → Prop
def KX (X : XE) (env : Env) : XP := fun c fs h => X c fs env h
theorem k_x {X : XE} {env : Env} {c : Addr} {fs : List (Str × D)} {h : Hc} : KX X env c fs h = X c fs env h := rfl
section
variable (G : Gt) (C : List D) (env : Env) (N B Ct : Env → Hc → Prop) (R : D → Hc → Prop) (X : XE)
def Kseq (b : S) : Env → Hc → Prop := fun e h => WS (semS G C b e h) N R B Ct X
def Kset (i : Nat) : D → Hc → Prop := fun d h => N (env.set i (some d)) h
def Ktg (is : List Nat) : D → Hc → Prop := fun d h => EE (setTg (.tp is) d env h) N (KX X env)
def KuN {α : Type} : α → Hc → Prop := fun _ h => N env h
def Kput (r : Nat) (xs : List D) (d : D) : Nat → Hc → Prop := fun j h => EE (putAt r (.lst (xs.set j d)) h) (KuN env N) (KX X env)
def KsubL (r : Nat) (k : Int) (d : D) : List D → Hc → Prop := fun xs h => EE (optM (ixN xs.length k) h) (Kput env N X r xs d) (KX X env)
def KsubK (d l : D) : D → Hc → Prop := fun k h => match l, k with
    | .ref r, .int k => EE (lstAt r h) (KsubL env N X r k d) (KX X env)
    | _, _ => False
def KsubI (i : I) (d : D) : D → Hc → Prop := fun l h => EE (semE G C i env h) (KsubK env N X d l) (KX X env)
def KsubA (a i : I) : D → Hc → Prop := fun d h => EE (semE G C a env h) (KsubI G C env N X i d) (KX X env)
def Kpar (is : List Nat) : List D → Hc → Prop := fun xs h => xs.length = is.length ∧ N ((is.zip xs).foldl (fun e p => e.set p.1 (some p.2)) env) h
def KaugY (i : Nat) (o : Operator) (x : D) : D → Hc → Prop := fun y h => EE (augM o x y h) (Kset env N i) (KX X env)
def KaugX (i : Nat) (o : Operator) (e : I) : D → Hc → Prop := fun x h => EE (semE G C e env h) (KaugY env N X i o x) (KX X env)
def KasD (l k : D) : D → Hc → Prop := fun d h => KsubK env N X d l k h
def KasY (o : Operator) (l k x : D) : D → Hc → Prop := fun y h => EE (augM o x y h) (KasD env N X l k) (KX X env)
def KasX (o : Operator) (e : I) (l k : D) : D → Hc → Prop := fun x h => EE (semE G C e env h) (KasY env N X o l k x) (KX X env)
def KasK (o : Operator) (e : I) (l : D) : D → Hc → Prop := fun k h => match l with
    | .ref _ => EE (idxM l k h) (KasX G C env N X o e l k) (KX X env)
    | _ => False
def KasI (i e : I) (o : Operator) : D → Hc → Prop := fun l h => EE (semE G C i env h) (KasK G C env N X o e l) (KX X env)
def Kasgs (ts : List At) : D → Hc → Prop := fun d h => match d with
    | .tup xs => EE (calmly (setAts G C ts xs env) h) N (KX X env)
    | _ => False
def Kite (a b : S) : Bool → Hc → Prop := fun k h => if k = true then WS (semS G C a env h) N R B Ct X else WS (semS G C b env h) N R B Ct X
end
section
variable {G : Gt} {C : List D} {env : Env} {h : Hc} {N B Ct : Env → Hc → Prop} {R : D → Hc → Prop} {X : XE}
theorem k_seq {b : S} {e : Env} : Kseq G C N B Ct R X b e h = WS (semS G C b e h) N R B Ct X := rfl
theorem k_set {i : Nat} {d : D} : Kset env N i d h = N (env.set i (some d)) h := rfl
theorem k_tg {is : List Nat} {d : D} : Ktg env N X is d h = EE (setTg (.tp is) d env h) N (KX X env) := rfl
theorem k_uN {α : Type} {a : α} : KuN env N a h = N env h := rfl
theorem k_put {r : Nat} {xs : List D} {d : D} {j : Nat} : Kput env N X r xs d j h = EE (putAt r (.lst (xs.set j d)) h) (KuN env N) (KX X env) := rfl
theorem k_subL {r : Nat} {k : Int} {d : D} {xs : List D} : KsubL env N X r k d xs h = EE (optM (ixN xs.length k) h) (Kput env N X r xs d) (KX X env) := rfl
theorem k_subK {d : D} {r : Nat} {k : Int} : KsubK env N X d (.ref r) (.int k) h = EE (lstAt r h) (KsubL env N X r k d) (KX X env) := rfl
theorem k_subI {i : I} {d l : D} : KsubI G C env N X i d l h = EE (semE G C i env h) (KsubK env N X d l) (KX X env) := rfl
theorem k_subA {a i : I} {d : D} : KsubA G C env N X a i d h = EE (semE G C a env h) (KsubI G C env N X i d) (KX X env) := rfl
theorem k_par {is : List Nat} {xs : List D} : Kpar env N is xs h = (xs.length = is.length ∧ N ((is.zip xs).foldl (fun e p => e.set p.1 (some p.2)) env) h) := rfl
theorem k_augY {i : Nat} {o : Operator} {x y : D} : KaugY env N X i o x y h = EE (augM o x y h) (Kset env N i) (KX X env) := rfl
theorem k_augX {i : Nat} {o : Operator} {e : I} {x : D} : KaugX G C env N X i o e x h = EE (semE G C e env h) (KaugY env N X i o x) (KX X env) := rfl
theorem k_asD {l k d : D} : KasD env N X l k d h = KsubK env N X d l k h := rfl
theorem k_asY {o : Operator} {l k x y : D} : KasY env N X o l k x y h = EE (augM o x y h) (KasD env N X l k) (KX X env) := rfl
theorem k_asX {o : Operator} {e : I} {l k x : D} : KasX G C env N X o e l k x h = EE (semE G C e env h) (KasY env N X o l k x) (KX X env) := rfl
theorem k_asK {o : Operator} {e : I} {r : Nat} {k : D} : KasK G C env N X o e (.ref r) k h = EE (idxM (.ref r) k h) (KasX G C env N X o e (.ref r) k) (KX X env) := rfl
theorem k_asI {i e : I} {o : Operator} {l : D} : KasI G C env N X i e o l h = EE (semE G C i env h) (KasK G C env N X o e l) (KX X env) := rfl
theorem k_ite {a b : S} {k : Bool} : Kite G C env N B Ct R X a b k h = if k = true then WS (semS G C a env h) N R B Ct X else WS (semS G C b env h) N R B Ct X := rfl
theorem ws_nx {e : Env} : WS (.nx e h) N R B Ct X = N e h := rfl
theorem ws_rt {d : D} : WS (.rt d h) N R B Ct X = R d h := rfl
theorem ws_exS {α : Type} {m : M α} {k : α → Hc → Out} : WS (exS m env h k) N R B Ct X = EE (m h) (fun a h => WS (k a h) N R B Ct X) (KX X env) := by
  unfold exS EE; cases m h <;> rfl
theorem ws_nop : WS (semS G C .nop env h) N R B Ct X = N env h := by rw [semS]; rfl
theorem ws_doc : WS (semS G C .doc env h) N R B Ct X = N env h := by rw [semS]; rfl
theorem ws_brk : WS (semS G C .brk env h) N R B Ct X = B env h := by rw [semS]; rfl
theorem ws_cnt : WS (semS G C .cnt env h) N R B Ct X = Ct env h := by rw [semS]; rfl
theorem ws_seq {a b : S} : WS (semS G C (.seq a b) env h) N R B Ct X = WS (semS G C a env h) (Kseq G C N B Ct R X b) R B Ct X := by
  rw [semS]; unfold WS; cases semS G C a env h <;> rfl
theorem ws_asg {i : Nat} {e : I} : WS (semS G C (.asg (.tg (.nm i)) e) env h) N R B Ct X = EE (semE G C e env h) (Kset env N i) (KX X env) := by
  rw [semS, ws_exS, ee_bnd]; simp only [setTg]; rfl
theorem ws_asgT {is : List Nat} {e : I} : WS (semS G C (.asg (.tg (.tp is)) e) env h) N R B Ct X = EE (semE G C e env h) (Ktg env N X is) (KX X env) := by
  rw [semS, ws_exS, ee_bnd]; rfl
theorem ws_sub {a i e : I} : WS (semS G C (.asg (.sub a i) e) env h) N R B Ct X = EE (semE G C e env h) (KsubA G C env N X a i) (KX X env) := by
  rw [semS, ws_exS, ee_bnd]; congr 1; funext d h; rw [k_b, ee_bnd]; unfold KsubA; congr 1; funext l h; rw [k_b, ee_bnd]; unfold KsubI; congr 1; funext k h; rw [k_b]
  cases l <;> try rfl
  cases k <;> try rfl
  simp only [ee_bnd, KsubK]; congr 1; funext xs h; rw [k_b, ee_bnd]; rfl
theorem ws_par {is : List Nat} {as : I} : WS (semS G C (.par is as) env h) N R B Ct X = EE (semA G C as env h) (Kpar env N is) (KX X env) := by
  rw [semS, ws_exS]; congr 1; funext xs h; unfold Kpar; split
  · next q => simp only [ws_nx, q, true_and]
  · next q => simp only [q, false_and]; rfl
theorem ws_aug {i : Nat} {o : Operator} {e : I} : WS (semS G C (.aug i o e) env h) N R B Ct X = EE (optM ((env[i]?).bind id) h) (KaugX G C env N X i o e) (KX X env) := by
  rw [semS, ws_exS, ee_bnd]; congr 1; funext x h; rw [k_b, ee_bnd]; rfl
theorem ws_augS {a i e : I} {o : Operator} : WS (semS G C (.augS a i o e) env h) N R B Ct X = EE (semE G C a env h) (KasI G C env N X i e o) (KX X env) := by
  rw [semS, ws_exS, ee_bnd]; congr 1; funext l h; rw [k_b, ee_bnd]; unfold KasI; congr 1; funext k h; rw [k_b]
  cases l <;> try rfl
  simp only [ee_bnd, KasK]; congr 1; funext x h; rw [k_b, ee_bnd]; unfold KasX; congr 1; funext y h; rw [k_b, ee_bnd]; unfold KasY; congr 1; funext d h; rw [k_b]
  cases k <;> try rfl
  simp only [ee_bnd, KasD, KsubK]; congr 1; funext xs h; rw [k_b, ee_bnd]; rfl
theorem ws_asgs {ts : List At} {e : I} : WS (semS G C (.asgs ts e) env h) N R B Ct X = EE (semE G C e env h) (Kasgs G C env N X ts) (KX X env) := by
  rw [semS, ws_exS]; congr 1; funext d h; cases d <;> try rfl
  show WS (exS _ _ _ _) N R B Ct X = _
  rw [ws_exS]; rfl
theorem k_asgs {ts : List At} {xs : List D} : Kasgs G C env N X ts (.tup xs) h = EE (calmly (setAts G C ts xs env) h) N (KX X env) := rfl
theorem ws_ex {e : I} : WS (semS G C (.ex e) env h) N R B Ct X = EE (semE G C e env h) (KuN env N) (KX X env) := by
  rw [semS, ws_exS]; rfl
theorem ws_ret {e : I} : WS (semS G C (.ret e) env h) N R B Ct X = EE (semE G C e env h) R (KX X env) := by
  rw [semS, ws_exS]; rfl
theorem ws_retN : WS (semS G C .retN env h) N R B Ct X = R .non h := by rw [semS]; rfl
theorem ws_ite {t : I} {a b : S} : WS (semS G C (.ite t a b) env h) N R B Ct X = EE (semE G C t env h) (Ktru (KX X env) (Kite G C env N B Ct R X a b)) (KX X env) := by
  rw [semS, ws_exS, ee_bnd]; congr 1; funext x h; rw [k_b]; unfold Ktru; congr 1; funext k h; cases k <;> rfl
theorem ws_rse {j : Nat} : WS (semS G C (.rse j) env h) N R B Ct X = match C[j]? with
    | some (.ob a) => X a [] env h
    | _ => False := by
  rw [semS]; generalize C[j]? = o
  cases o with
  | none => rfl
  | some d => cases d <;> rfl
def Ktry (G : Gt) (C : List D) (su : S) (i : Nat) (a : Addr) (N B Ct : Env → Hc → Prop) (R : D → Hc → Prop) (X : XE) : XE := fun c fs env' h' => c = a ∧ fs.isEmpty = true ∧ WS (sameFor fun x => sufX i (semS { G with xa := some x } C su (env'.set i (some (.ob x))) h')) N R B Ct X
theorem k_try {su : S} {i : Nat} {a c : Addr} {fs : List (Str × D)} : Ktry G C su i a N B Ct R X c fs env h = (c = a ∧ fs.isEmpty = true ∧ WS (sameFor fun x => sufX i (semS { G with xa := some x } C su (env.set i (some (.ob x))) h)) N R B Ct X) := rfl
/-- loops -/
theorem fl_for {α : Type} {tg : Tg} {b : S} (l : List α) (emb : α → D) (J : Nat → Env → Hc → Prop) (j0 : J 0 env h)
    (step : ∀ (i : Nat) a env h, l[i]? = some a → J i env h → EE (setTg tg (emb a) env h) (fun e h' => h' = h ∧ WS (semS G C b e h) (J (i + 1)) R N (J (i + 1)) X) noX)
    (fin : ∀ env h, J l.length env h → N env h) : WS (forL tg [] (semS G C b) (l.map emb) env h) N R B Ct X := by
  have go : ∀ (k i : Nat) (env : Env) (h : Hc), i + k = l.length → J i env h → WS (forL tg [] (semS G C b) ((l.map emb).drop i) env h) N R B Ct X := by
    intro k
    induction k with
    | zero =>
      intro i env h e hi
      have ei : i = (l.map emb).length := by rw [List.length_map]; omega
      rw [ei, List.drop_length]
      unfold forL Cl.exS
      simp only [depOk_nil, pur]
      exact fin env h (by have : i = l.length := by omega
                          rw [← this]; exact hi)
    | succ k ih =>
      intro i env h e hi
      have hlt : i < l.length := by omega
      have hlt2 : i < (l.map emb).length := by rw [List.length_map]; omega
      rw [List.drop_eq_getElem_cons hlt2]
      obtain ⟨e1, h1, es, rfl, r⟩ := ee_get (step i _ env h (List.getElem?_eq_getElem hlt) hi)
      unfold forL Cl.exS
      simp only [depOk_nil, List.getElem_map, es]
      generalize semS G C b e1 h1 = o at r
      cases o <;> first | exact ih (i + 1) _ _ (by omega) r | exact r
  have := go l.length 0 env h (by omega) j0
  simpa using this
def Kfor (G : Gt) (C : List D) (env : Env) (N B Ct : Env → Hc → Prop) (R : D → Hc → Prop) (X : XE) (tg : Tg) (b : S) : Src → Hc → Prop := fun s h => WS (forL tg s.dep (semS G C b) s.items env h) N R B Ct X
theorem k_for {tg : Tg} {b : S} {s : Src} : Kfor G C env N B Ct R X tg b s h = WS (forL tg s.dep (semS G C b) s.items env h) N R B Ct X := rfl
/-- a loop whose source is walked first -/
theorem ws_forS {tg : Tg} {src : I} {b : S} : WS (semS G C (.for tg src b) env h) N R B Ct X = EE (semI G C src env h) (Kfor G C env N B Ct R X tg b) (KX X env) := by
  rw [semS, ws_exS]; rfl
theorem ws_for {α : Type} {tg : Tg} {src : I} {b : S} (l : List α) (emb : α → D) (J : Nat → Env → Hc → Prop)
    (hs : EE (semI G C src env h) (fun s h' => s = ⟨l.map emb, []⟩ ∧ J 0 env h') noX)
    (step : ∀ (i : Nat) a env h, l[i]? = some a → J i env h → EE (setTg tg (emb a) env h) (fun e h' => h' = h ∧ WS (semS G C b e h) (J (i + 1)) R N (J (i + 1)) X) noX)
    (fin : ∀ env h, J l.length env h → N env h) : WS (semS G C (.for tg src b) env h) N R B Ct X := by
  rw [ws_forS]
  refine ee_imp hs ?_ (fun _ _ _ h => h.elim)
  rintro s h ⟨rfl, j0⟩
  exact fl_for l emb J j0 step fin
def Kwhl (G : Gt) (C : List D) (env : Env) (N : Env → Hc → Prop) (R : D → Hc → Prop) (X : XE) (b : S) (J : Nat → Env → Hc → Prop) (n : Nat) : Bool → Hc → Prop := fun k h => if k = true then WS (semS G C b env h) (fun e h => ∃ m, m < n ∧ J m e h) R N (fun e h => ∃ m, m < n ∧ J m e h) X else N env h
theorem k_whl {b : S} {J : Nat → Env → Hc → Prop} {n : Nat} {k : Bool} : Kwhl G C env N R X b J n k h = if k = true then WS (semS G C b env h) (fun e h => ∃ m, m < n ∧ J m e h) R N (fun e h => ∃ m, m < n ∧ J m e h) X else N env h := rfl
theorem ws_whl {t : I} {b : S} (J : Nat → Env → Hc → Prop) (n : Nat) (j : J n env h)
    (step : ∀ n env h, J n env h → EE (semE G C t env h) (Ktru noX (Kwhl G C env N R X b J n)) noX) :
    WS (semS G C (.whl t b) env h) N R B Ct X := by
  rw [semS]
  have go : ∀ n env h, J n env h → ∃ o k, whlN (fun env => bnd (semE G C t env) truM) (semS G C b) k env h = some o ∧ WS o N R B Ct X := by
    intro n
    induction n using Nat.strongRecOn with
    | ind n ih =>
      intro env h hi
      obtain ⟨x, h1, e1, q1⟩ := ee_get (step n env h hi)
      obtain ⟨k, h2, e2, q2⟩ := ee_get q1
      have et : bnd (semE G C t env) truM h = .ok k h2 := by simp only [bnd, e1, e2]
      cases k with
      | false => exact ⟨.nx env h2, 1, by simp only [whlN, et], q2⟩
      | true =>
        have q2 : WS (semS G C b env h2) (fun e h => ∃ m, m < n ∧ J m e h) R N (fun e h => ∃ m, m < n ∧ J m e h) X := q2
        generalize eo : semS G C b env h2 = o at q2
        cases o with
        | nx e h => obtain ⟨m, hm, hj⟩ := q2; obtain ⟨o, k, ek, q⟩ := ih m hm _ _ hj; exact ⟨o, k + 1, by simp only [whlN, et, eo]; exact ek, q⟩
        | ct e h => obtain ⟨m, hm, hj⟩ := q2; obtain ⟨o, k, ek, q⟩ := ih m hm _ _ hj; exact ⟨o, k + 1, by simp only [whlN, et, eo]; exact ek, q⟩
        | bk e h => exact ⟨.nx e h, 1, by simp only [whlN, et, eo], q2⟩
        | rt d h => exact ⟨.rt d h, 1, by simp only [whlN, et, eo], q2⟩
        | exc c fs e h => exact ⟨.exc c fs e h, 1, by simp only [whlN, et, eo], q2⟩
        | bad => exact q2.elim
  obtain ⟨o, k, ek, q⟩ := go n env h j
  rw [whlR_of ek]
  exact q
end
section
variable {G : Gt} {C : List D} {own : List Nat} {tg : Tg} {src ifs elt : I} {env : Env} {h : Hc} {α β : Type} {Q : List D → Hc → Prop} {X : XP}
/-- a comprehension -/
theorem go_map (l : List α) (emb : α → D) (f : α → D) (hs : EE (semI G C src env h) (fun s h' => h' = h ∧ s = ⟨l.map emb, []⟩) noX) (hl : l.length ≤ 16000000)
    (step : ∀ a ∈ l, EE (setTg tg (emb a) (wipeE env own) h) (fun e h' => h' = h ∧ EE (semE G C elt e h) (fun d h' => h' = h ∧ d = f a) noX) noX) (q : Q (l.map f) h) : EE (semN G C (.comp own tg src .nil elt) env h) Q X :=
  ee_of (comp_map l emb f (ee_eq hs) hl fun a ha => by
    obtain ⟨e, _, e1, rfl, e2⟩ := ee_get (step a ha)
    exact ⟨e, e1, ee_eq e2⟩) q
theorem go_filter (l : List α) (emb : α → D) (p : α → Bool) (f : α → D) (hi : ifs ≠ .nil) (hs : EE (semI G C src env h) (fun s h' => h' = h ∧ s = ⟨l.map emb, []⟩) noX) (hl : l.length ≤ 16000000)
    (step : ∀ a ∈ l, EE (setTg tg (emb a) (wipeE env own) h) (fun e h' => h' = h ∧ EE (semE G C ifs e h) (fun x h' => h' = h ∧ EE (truM x h) (fun k h' => h' = h ∧ k = p a) noX) noX ∧ (p a = true → EE (semE G C elt e h) (fun d h' => h' = h ∧ d = f a) noX)) noX) (q : Q ((l.filter p).map f) h) : EE (semN G C (.comp own tg src ifs elt) env h) Q X :=
  ee_of (comp_filter l emb p f (ee_eq hs) hl hi fun a ha => by
    obtain ⟨e, _, e1, rfl, e2, e3⟩ := ee_get (step a ha)
    obtain ⟨x, h1, e4, rfl, e5⟩ := ee_get e2
    exact ⟨e, e1, ⟨x, e4, ee_eq e5⟩, fun z => ee_eq (e3 z)⟩) q
/-- .. whose turns change the heap -/
theorem go_st (I : Hc → Prop) (enc : β → D) (P : α → β → Prop) (l : List α) (emb : α → D) (hs : EE (semI G C src env h) (fun s h' => s = ⟨l.map emb, []⟩ ∧ I h') noX) (hl : l.length ≤ 16000000)
    (step : ∀ a ∈ l, ∀ h, I h → EE (setTg tg (emb a) (wipeE env own) h) (fun e h1 => EE (semE G C elt e h1) (fun d h2 => ∃ b, d = enc b ∧ I h2 ∧ P a b) noX) noX)
    (q : ∀ (bs : List β) h', I h' → bs.length = l.length → (∀ (i : Nat) a b, l[i]? = some a → bs[i]? = some b → P a b) → Q (bs.map enc) h') : EE (semN G C (.comp own tg src .nil elt) env h) Q X := by
  obtain ⟨s, h0, es, rfl, hI⟩ := ee_get hs
  obtain ⟨bs, h', e, i1, l1, p1⟩ := comp_st (G := G) (C := C) (own := own) (tg := tg) (src := src) (elt := elt) (env := env) I enc P l emb h es hl hI fun a ha h hh => by
    obtain ⟨e, h1, e1, e2⟩ := ee_get (step a ha h hh)
    obtain ⟨d, h2, e3, b, rfl, i2, p2⟩ := ee_get e2
    exact ⟨e, h1, b, h2, e1, e3, i2, p2⟩
  exact ee_of e (q bs h' i1 l1 p1)
end
/-! ### defs -/
theorem ee_runF {s : Env → Hc → Out} {p n : Nat} {ds : List D} {hc : Hc} {Q : D → Hc → Prop} {X : XP} (hl : ds.length = p) (x : WS (s (ds.map some ++ List.replicate (n - p) none) hc) (fun _ h => Q .non h) Q noE noE (fun c fs _ h => X c fs h)) : EE (runF s p n ds hc) Q X := by
  unfold runF
  rw [if_pos hl]
  generalize s _ hc = o at x
  cases o <;> first | exact x | exact x.elim
theorem p_go {s : Env → Hc → Out} {p n : Nat} {ds : List D} {d : D} (hl : ds.length = p) (x : WS (s (ds.map some ++ List.replicate (n - p) none) []) (fun _ _ => d = .non) (fun y h => outD depth h y = some d) noE noE (fun _ _ _ _ => False)) : pureOf (runF s p n ds []) = .ok d := by
  unfold runF
  rw [if_pos hl]
  generalize s _ ([] : Hc) = o at x
  cases o <;> first | exact x.elim | skip
  · have x : d = .non := x
    subst x; exact pureOf_ok rfl
  · have x : outD depth _ _ = some d := x
    simp only [pureOf, x]
@[simp] theorem outD_int (n : Nat) (h : Hc) (i : Int) : outD n h (.int i) = some (.int i) := outD_pure rfl
@[simp] theorem outD_bl (n : Nat) (h : Hc) (i : Bool) : outD n h (.bl i) = some (.bl i) := outD_pure rfl
@[simp] theorem outD_non (n : Nat) (h : Hc) : outD n h .non = some .non := outD_pure rfl
@[simp] theorem outD_str (n : Nat) (h : Hc) (x : Str) : outD n h (.str x) = some (.str x) := outD_pure rfl
/-- the box -/
theorem go_draw {b : Bx} {rest : Hc} {many : Int} {Q : D → Hc → Prop} {X : XP} (h : 0 < many) (h2 : many < 1606938044258990275541962092341162602522202993782792835301376) (q : ∀ (r : Int) (b' : Bx), 0 ≤ r → r < many → Q (.int r) (bxH b' rest)) : EE (g_law_draw [.ref 1, .int many] (bxH b rest)) Q X := by
  obtain ⟨r, b', e, l, u⟩ := draw_ok b rest h h2
  rw [e]; exact q r b' l u
/-! values -/
theorem intsD_mapf {α : Type} (g : α → Int) : ∀ l : List α, intsD (l.map fun a => D.int (g a)) = some (l.map g)
  | [] => rfl
  | a :: l => by simp [intsD, intsD_mapf g l]
theorem blsD_mapf {α : Type} (g : α → Bool) : ∀ l : List α, blsD (l.map fun a => D.bl (g a)) = some (l.map g)
  | [] => rfl
  | a :: l => by simp [blsD, blsD_mapf g l]
theorem mulT_r {i j : Int} (h : -18446744073709551616 < j) (h' : j < 18446744073709551616) : MulOk i j = True := eq_true (mulOk_r h h')
theorem mulT_l {i j : Int} (h : -18446744073709551616 < i) (h' : i < 18446744073709551616) : MulOk i j = True := eq_true (mulOk_l h h')
theorem divT {j : Int} (h : 0 < j) (h' : j < 1606938044258990275541962092341162602522202993782792835301376) : DivOk j = True := eq_true (divOk_pos h h')
theorem rgT {i : Int} (h : -4611686018427387904 ≤ i) (h' : i < 4611686018427387904) : Rg i = True := eq_true ⟨h, h'⟩
theorem slT {n : Nat} (h : n ≤ 16000000) : (n ≤ sizeLine) = True := eq_true (sl_big h)
theorem slT2 {n : Nat} (h : n ≤ 16000000) : (n < sizeLine) = True := eq_true (by
  have : (16000000 : Nat) < sizeLine := by decide +kernel
  omega)
end Cl
/-! Sizes in bits. -/
namespace Cl
open PySem PySem.Spec PyProof.Rows L2
theorem rangeD0 (n : Nat) : rangeD 0 n = (List.range n).map fun i : Nat => D.int i := by
  unfold rangeD; congr 1; funext i; rw [Int.zero_add]
theorem noRefL_mapA {α : Type} {f : α → D} {l : List α} (h : ∀ a, noRef (f a) = true) : noRefL (l.map f) = true := noRefL_map h l
def Sm (B : Nat) (i : Int) : Prop := i.natAbs < 2 ^ B
theorem Sm.mono {A B : Nat} {i : Int} (h : Sm A i) (l : A ≤ B) : Sm B i := Nat.lt_of_lt_of_le h (Nat.pow_le_pow_right (by decide) l)
theorem Sm.neg {A : Nat} {i : Int} (h : Sm A i) : Sm A (-i) := by unfold Sm at *; rw [Int.natAbs_neg]; exact h
theorem Sm.add {A B C : Nat} {i j : Int} (h : Sm A i) (g : Sm B j) (ha : A + 1 ≤ C) (hb : B + 1 ≤ C) : Sm C (i + j) := by
  have h1 : Sm (C - 1) i := h.mono (by omega)
  have g1 : Sm (C - 1) j := g.mono (by omega)
  unfold Sm at *
  have e : 2 ^ C = 2 ^ (C - 1) + 2 ^ (C - 1) := by
    rw [← Nat.two_mul, ← Nat.pow_succ', show (C - 1).succ = C by omega]
  have := Int.natAbs_add_le i j
  omega
theorem Sm.sub {A B C : Nat} {i j : Int} (h : Sm A i) (g : Sm B j) (ha : A + 1 ≤ C) (hb : B + 1 ≤ C) : Sm C (i - j) := by
  rw [Int.sub_eq_add_neg]; exact h.add g.neg ha hb
theorem Sm.of_le {A : Nat} {i j : Int} (h : Sm A j) (l : i.natAbs ≤ j.natAbs) : Sm A i := Nat.lt_of_le_of_lt l h
theorem Sm.ediv {A : Nat} {i : Int} (h : Sm A i) (j : Int) : Sm A (i / j) := h.of_le (Int.natAbs_ediv_le_natAbs i j)
theorem Sm.emod {A : Nat} {i j : Int} (h : Sm A j) (z : j ≠ 0) : Sm A (i % j) := h.of_le (by
  have := Int.emod_nonneg i z
  have := Int.emod_lt i z
  omega)
theorem Sm.gcd {A : Nat} {i j : Int} (h : Sm A i) (z : i ≠ 0) : Sm A (Int.gcd i j) := h.of_le (by
  have := Int.gcd_dvd_left i j
  rw [Int.natAbs_natCast]
  exact Nat.le_of_dvd (by omega) (Int.natAbs_dvd_natAbs.mpr this))
theorem Sm.of {A : Nat} {i : Int} {b : Nat} (l : i.natAbs ≤ b) (h : b < 2 ^ A := by decide) : Sm A i := Nat.lt_of_le_of_lt l h
theorem Sm.log {A : Nat} {i : Int} (h : Sm A i) (p : 0 < A := by decide) : i.natAbs.log2 < A := log2_lt h p
theorem Sm.mulOk {A B : Nat} {i j : Int} (h : Sm A i) (g : Sm B j) (l : A + B ≤ 1000000 := by decide) : MulOk i j := .inr (by
  have h1 : Sm (A + 1) i := h.mono (by omega)
  have g1 : Sm (B + 1) j := g.mono (by omega)
  by_cases a : A = 0
  · have : i.natAbs = 0 := by unfold Sm at h; rw [a] at h; omega
    rw [this]
    have : Nat.log2 0 = 0 := by decide
    by_cases b : B = 0
    · have : j.natAbs = 0 := by unfold Sm at g; rw [b] at g; omega
      rw [this]; decide
    · have := g.log (by omega); omega
  · have := h.log (by omega)
    by_cases b : B = 0
    · have : j.natAbs = 0 := by unfold Sm at g; rw [b] at g; omega
      rw [this]
      have : Nat.log2 0 = 0 := by decide
      omega
    · have := g.log (by omega); omega)
theorem Sm.divOk {A : Nat} {j : Int} (h : Sm A j) (z : j ≠ 0) (l : A ≤ 9000 := by decide) : DivOk j := ⟨z, by
  have : 0 < A := by
    cases A with
    | zero => unfold Sm at h; omega
    | succ n => omega
  have := h.log this
  omega⟩
/-! ### the box -/
def IsBx (rest h : Hc) : Prop := ∃ b, h = bxH b rest
theorem IsBx.mk (b : Bx) (rest : Hc) : IsBx rest (bxH b rest) := ⟨b, rfl⟩
end Cl
/-! The rules, in bundles. -/
namespace Cl
open PySem PySem.Spec PyProof.Rows L2
section
variable (G : Gt) (C : List D) (env : Env) (Q : D → Hc → Prop) (X : XP) (QL : List D → Hc → Prop)
def KprC (p : Pq) (x y : D) : D → Hc → Prop := fun z h => EE (prM p x y z h) Q X
def KprB (p : Pq) (c : I) (x : D) : D → Hc → Prop := fun y h => EE (semE G C c env h) (KprC Q X p x y) X
def KprP (p : Pq) (b c : I) (x : D) : Unit → Hc → Prop := fun _ h => EE (semE G C b env h) (KprB G C env Q X p c x) X
def KprA (p : Pq) (b c : I) : D → Hc → Prop := fun x h => EE (preM p x h) (KprP G C env Q X p b c x) X
end
section
variable {G : Gt} {C : List D} {env : Env} {Q : D → Hc → Prop} {X : XP} {QL : List D → Hc → Prop} {h : Hc}
theorem k_prC {p : Pq} {x y z : D} : KprC Q X p x y z h = EE (prM p x y z h) Q X := rfl
theorem k_prB {p : Pq} {c : I} {x y : D} : KprB G C env Q X p c x y h = EE (semE G C c env h) (KprC Q X p x y) X := rfl
theorem k_prP {p : Pq} {b c : I} {x : D} {u : Unit} : KprP G C env Q X p b c x u h = EE (semE G C b env h) (KprB G C env Q X p c x) X := rfl
theorem k_prA {p : Pq} {b c : I} {x : D} : KprA G C env Q X p b c x h = EE (preM p x h) (KprP G C env Q X p b c x) X := rfl
theorem ee_pr {p : Pq} {a b c : I} : EE (semE G C (.pr p a b c) env h) Q X = EE (semE G C a env h) (KprA G C env Q X p b c) X := by
  rw [semE, ee_bnd]; congr 1; funext x h; rw [k_b, ee_bnd]; unfold KprA; congr 1; funext u h; rw [k_b, ee_bnd]; unfold KprP; congr 1; funext y h; rw [k_b, ee_bnd]; rfl
theorem ee_calv {i : Nat} {js : List (Nat × Nat)} {as : I} : EE (semE G C (.calv i js as) env h) Q X = EE ((match (env[i]?).bind id with
    | some (.ob a) => match pickF G C a js with
      | some g => bnd (semA G C as env) fun xs => calmly (g xs)
      | none => stuck
    | _ => stuck) h) Q X := by rw [semE] <;> rfl
theorem ee_revL {a : I} : EE (semE G C (.revL a) env h) Q X = EE (semN G C (.revL a) env h) (KF D.fl Q) X := by rw [semE, ee_bnd]; rfl
theorem en_revL {a : I} : EE (semN G C (.revL a) env h) QL X = EE (semE G C a env h) (KB revLM QL X) X := by rw [semN, ee_bnd]
end
def gwD := And.intro @ee_pr (And.intro @k_prA (And.intro @k_prP (And.intro @k_prB (And.intro @k_prC (And.intro @ee_calv (And.intro @ee_revL @en_revL))))))
def gwS := And.intro @ws_seq (And.intro @ws_nop (And.intro @ws_doc (And.intro @ws_brk (And.intro @ws_cnt (And.intro @ws_asg (And.intro @ws_asgT (And.intro @ws_sub (And.intro @ws_par (And.intro @ws_aug (And.intro @ws_augS (And.intro @ws_ex (And.intro @ws_asgs (And.intro @ws_ret (And.intro @ws_retN (And.intro @ws_ite (And.intro @ws_rse (And.intro @ws_nx (@ws_rt))))))))))))))))))
def gwE := And.intro @k_slcL3 (And.intro @k_slcL2 (And.intro @k_slcL (And.intro @k_popV (And.intro @k_popJ (And.intro @k_popI (And.intro @k_popL (And.intro @k_popK (And.intro @k_popY (And.intro @k_popX (And.intro @k_popA (And.intro @k_poV (And.intro @k_poL (And.intro @k_poA (And.intro @k_extL (And.intro @k_extY (And.intro @k_extX (And.intro @k_extA (And.intro @en_slcL (And.intro @ee_popAt (And.intro @ee_pop (And.intro @ee_ext (And.intro @k_asgs (And.intro @ee_var (And.intro @ee_int (And.intro @ee_str (And.intro @ee_bl (And.intro @ee_non (And.intro @ee_glb (And.intro @ee_bin (And.intro @ee_neg (And.intro @ee_not (And.intro @ee_cmp (And.intro @ee_chain (And.intro @ee_and (And.intro @ee_or (And.intro @ee_cond (And.intro @ee_tup (And.intro @ee_idx (And.intro @ee_slc (And.intro @ee_call (And.intro @ee_bi (And.intro @ee_isa (And.intro @ee_trk (And.intro @ee_app (And.intro @ee_rev (And.intro @ee_lst (And.intro @ee_comp (And.intro @ee_bn (And.intro @ee_binL (And.intro @ee_slcL (And.intro @en_lst (And.intro @en_bn (And.intro @en_binL (And.intro @ea_nil (And.intro @ea_cons (And.intro @k_b (And.intro @k_f (And.intro @k_binR (And.intro @k_neG (And.intro @k_tru (And.intro @k_cmpR (And.intro @k_ch (And.intro @k_chR2 (And.intro @k_chR (And.intro @k_andR2 (And.intro @k_andR (And.intro @k_orR2 (And.intro @k_orR (And.intro @k_condR2 (And.intro @k_tup (And.intro @k_lstL (And.intro @k_idxR (And.intro @k_slcR2 (And.intro @k_slcR (And.intro @k_call (And.intro @k_bi (And.intro @k_isa (And.intro @k_trk (And.intro @k_appP (And.intro @k_appX (And.intro @k_appY (And.intro @k_appL (And.intro @k_appR (And.intro @k_bnN (And.intro @k_binLR (And.intro @k_cons2 (And.intro @k_cons (And.intro @k_x (And.intro @k_seq (And.intro @k_set (And.intro @k_tg (And.intro @k_uN (And.intro @k_put (And.intro @k_subL (And.intro @k_subK (And.intro @k_subI (And.intro @k_subA (And.intro @k_par (And.intro @k_augY (And.intro @k_augX (And.intro @k_asD (And.intro @k_asY (And.intro @k_asX (And.intro @k_asK (And.intro @k_asI (And.intro @k_ite (And.intro @k_try (And.intro @k_whl (@k_for)))))))))))))))))))))))))))))))))))))))))))))))))))))))))))))))))))))))))))))))))))))))))))))))))))))))))))))
def gwV := And.intro @ee_bnd (And.intro @ee_pur (And.intro @ee_ok (And.intro @ee_bad (And.intro @ee_exc (And.intro @ee_stuck (And.intro @ee_guard (And.intro @ee_some (And.intro @ee_none (And.intro @ee_ite (And.intro @ee_calmly (And.intro @mulT_r (And.intro @mulT_l (And.intro @divT (And.intro @rgT (And.intro @slT (And.intro @slT2 (And.intro @fdiv_pos (And.intro @fmod_pos (And.intro @atI_pos (And.intro @intsD_mapf (And.intro @blsD_mapf (And.intro @Cl.intsD_map (And.intro @Cl.blsD_map (And.intro @rangeD0 (@noRefL_mapA)))))))))))))))))))))))))
end Cl
namespace Cl
open PySem PySem.Spec PyProof.Rows L2 Mth
abbrev rt (p : Int × Int) : D := .tup [.int p.1, .int p.2]
@[simp] theorem outD_rt (n : Nat) (h : Hc) (p q : Int) : outD n h (.tup [.int p, .int q]) = some (.tup [.int p, .int q]) := outD_pure rfl
theorem abs_if (p : Int) : (if p < 0 then -p else p) = (p.natAbs : Int) := by split <;> omega
theorem nat_mod (a b : Nat) : (a : Int) - (a : Int) / b * b = (a % b : Nat) := by rw [Int.mul_comm, ← Int.emod_def, Int.natCast_emod]
theorem isI_iff {d : D} : isI d = true ↔ ∃ i, d = .int i := by
  cases d <;> simp [isI]
abbrev rowI (l : List Int) : D := .tup (l.map D.int)
@[simp] theorem noRef_rowI (l : List Int) : noRef (rowI l) = true := by simp [rowI, noRef]
@[simp] theorem isI_all (l : List Int) : (l.map D.int).all isI = true := by
  rw [List.all_map]; simp [Function.comp_def, isI]
end Cl
namespace Cl
open PySem PySem.Spec PyProof.Rows L2
def ir_law_shared_b0 : S := (.seq (.par [0, 1] (.cons (.var 1) (.cons (.bin .Sub (.var 0) (.bin .Mult (.bin .FloorDiv (.var 0) (.var 1)) (.var 1))) .nil))) .nop)
def ir_law_shared_2 : S := (.ret (.var 0))
def ir_law_shared_1 : S := (.whl (.cmp .Gt (.var 1) (.int 0)) ir_law_shared_b0)
def ir_law_shared_0 : S := (.par [0, 1] (.cons (.bi .abs (.cons (.var 0) .nil)) (.cons (.bi .abs (.cons (.var 1) .nil)) .nil)))
def ir_law_shared : S := (.seq ir_law_shared_0 (.seq ir_law_shared_1 (.seq ir_law_shared_2 .nop)))
def ir_law_left_0 : S := (.ret (.bin .Sub (.var 0) (.bin .Mult (.bin .FloorDiv (.var 0) (.var 1)) (.var 1))))
def ir_law_left : S := (.seq ir_law_left_0 .nop)
noncomputable def p_law_shared : List D → PR := fun ds => pureOf (runF (semS { tab := [] } [] ir_law_shared) 2 2 ds [])
noncomputable def p_law_left : List D → PR := fun ds => pureOf (runF (semS { tab := [] } [] ir_law_left) 2 2 ds [])
end Cl
/-! Plain data is like itself. -/
namespace Cl
open PySem PySem.Spec PyProof.Rows L2
theorem same6 {d : D} {n : Nat} (h : datD n d = true) (hn : n ≤ 5) : p_law_same 6 [d, d] = .ok (.bl true) := by
  have up : ∀ k, datD (n + k) d = true := fun k => by
    induction k with
    | zero => exact h
    | succ k ih =>
      have : ∀ (n : Nat) (d : D), datD n d = true → datD (n + 1) d = true := by
        intro n
        induction n with
        | zero => intro d h; cases d <;> first | rfl | exact h | (simp [datD] at h)
        | succ n ih =>
          intro d h
          cases d <;> first | rfl | exact h | (simp only [datD, Bool.and_eq_true, decide_eq_true_eq, List.all_eq_true] at h ⊢; exact ⟨h.1, fun x hx => ih x (h.2 x hx)⟩)
      exact this _ _ ih
  have := up (5 - n)
  rw [show n + (5 - n) = 5 by omega] at this
  exact ev_same_refl 5 d this
section
variable {G : Gt} {C : List D} {own : List Nat} {tg : Tg} {src elt : I} {env : Env} {h : Hc} {α β : Type} {Q : List D → Hc → Prop} {X : XP}
/-- a comprehension whose turns change the heap, and whose source is drawn -/
theorem go_stS (I : Hc → Prop) (enc : β → D) (P : α → β → Prop) (PL : List α → Prop) (emb : α → D) (hs : EE (semI G C src env h) (fun s h' => ∃ l, s = ⟨l.map emb, []⟩ ∧ l.length ≤ 16000000 ∧ PL l ∧ I h') noX)
    (step : ∀ l, PL l → ∀ a ∈ l, ∀ h, I h → EE (setTg tg (emb a) (wipeE env own) h) (fun e h1 => EE (semE G C elt e h1) (fun d h2 => ∃ b, d = enc b ∧ I h2 ∧ P a b) noX) noX)
    (q : ∀ l, PL l → ∀ (bs : List β) h', I h' → bs.length = l.length → (∀ (i : Nat) a b, l[i]? = some a → bs[i]? = some b → P a b) → Q (bs.map enc) h') : EE (semN G C (.comp own tg src .nil elt) env h) Q X := by
  obtain ⟨s, h0, es, l, rfl, hl, pl, hI⟩ := ee_get hs
  obtain ⟨bs, h', e, i1, l1, p1⟩ := comp_st (G := G) (C := C) (own := own) (tg := tg) (src := src) (elt := elt) (env := env) I enc P l emb h es hl hI fun a ha h hh => by
    obtain ⟨e, h1, e1, e2⟩ := ee_get (step l pl a ha h hh)
    obtain ⟨d, h2, e3, b, rfl, i2, p2⟩ := ee_get e2
    exact ⟨e, h1, b, h2, e1, e3, i2, p2⟩
  exact ee_of e (q l pl bs h' i1 l1 p1)
end
theorem p_ex {s : Env → Hc → Out} {p n : Nat} {ds : List D} {P : D → Prop} (hl : ds.length = p) (x : WS (s (ds.map some ++ List.replicate (n - p) none) []) (fun _ _ => P .non) (fun y h => ∃ d, outD depth h y = some d ∧ P d) noE noE (fun _ _ _ _ => False)) : ∃ d, pureOf (runF s p n ds []) = .ok d ∧ P d := by
  unfold runF
  rw [if_pos hl]
  generalize s _ ([] : Hc) = o at x
  cases o <;> first | exact x.elim | skip
  · exact ⟨.non, pureOf_ok rfl, x⟩
  · obtain ⟨d, e, q⟩ := x
    exact ⟨d, by simp only [pureOf, e], q⟩
end Cl
/-! What several remainders tell together. -/
namespace Crt
theorem bez : ∀ (n a b : Nat), b ≤ n → ∃ x y : Int, (a : Int) * x + b * y = (Nat.gcd a b : Nat)
  | 0, a, b, h => by
    have : b = 0 := by omega
    subst this
    exact ⟨1, 0, by simp⟩
  | n + 1, a, b, h => by
    by_cases hb : b = 0
    · subst hb; exact ⟨1, 0, by simp⟩
    · obtain ⟨x, y, e⟩ := bez n b (a % b) (by have := Nat.mod_lt a (Nat.pos_of_ne_zero hb); omega)
      refine ⟨y, x - (a : Int) / b * y, ?_⟩
      have hm : ((a % b : Nat) : Int) = a - a / b * b := by rw [Int.natCast_emod, Int.emod_def, Int.mul_comm]
      rw [Nat.gcd_comm, Nat.gcd_rec, Nat.gcd_comm, ← e, hm, Int.mul_sub, Int.sub_mul, ← Int.mul_assoc, Int.mul_comm (b : Int) (a / b)]
      omega
theorem bezZ (a : Nat) (c : Int) : ∃ x y : Int, (a : Int) * x + c * y = (Int.gcd a c : Nat) := by
  obtain ⟨x, y, e⟩ := bez c.natAbs a c.natAbs (Nat.le_refl _)
  have eg : Int.gcd a c = Nat.gcd a c.natAbs := rfl
  rcases Int.natAbs_eq c with h | h
  · exact ⟨x, y, by rw [eg, ← e, h]; simp⟩
  · refine ⟨x, -y, ?_⟩
    rw [eg, ← e]
    have : c * -y = (c.natAbs : Int) * y := by
      conv => lhs; rw [h]
      rw [Int.neg_mul_neg]
    rw [this]
/-- parts of two numbers tell the part of what both make together -/
theorem part2 {a b : Nat} {c m : Int} (ha : ((Int.gcd a c : Nat) : Int) ∣ m) (hb : ((Int.gcd b c : Nat) : Int) ∣ m) (h0 : 0 < a) : ((Int.gcd (Nat.lcm a b) c : Nat) : Int) ∣ m := by
  -- m is a u by c, b w by c
  obtain ⟨x1, y1, e1⟩ := bezZ a c
  obtain ⟨x2, y2, e2⟩ := bezZ b c
  obtain ⟨t1, f1⟩ := ha
  obtain ⟨t2, f2⟩ := hb
  have m1 : m = a * (x1 * t1) + c * (y1 * t1) := by rw [f1, ← e1, Int.add_mul, Int.mul_assoc, Int.mul_assoc]
  have m2 : m = b * (x2 * t2) + c * (y2 * t2) := by rw [f2, ← e2, Int.add_mul, Int.mul_assoc, Int.mul_assoc]
  have gp : 0 < Nat.gcd a b := Nat.gcd_pos_of_pos_left b h0
  obtain ⟨a', ea⟩ := Nat.gcd_dvd_left a b
  obtain ⟨b', eb⟩ := Nat.gcd_dvd_right a b
  obtain ⟨s, t, est⟩ := bez b a b (Nat.le_refl _)
  generalize hg : Nat.gcd a b = g at *
  have el : Nat.lcm a b = g * a' * b' := by
    have := Nat.gcd_mul_lcm a b
    rw [hg] at this
    have h2 : g * Nat.lcm a b = g * (g * a' * b') := by rw [this, ea, eb]; simp only [Nat.mul_assoc, Nat.mul_left_comm, Nat.mul_comm]
    exact Nat.eq_of_mul_eq_mul_left gp h2
  have st1 : (a' : Int) * s + b' * t = 1 := by
    have ea2 : (a : Int) = g * a' := by rw [ea]; simp
    have eb2 : (b : Int) = g * b' := by rw [eb]; simp
    have h1 : (g : Int) * (a' * s + b' * t) = g * 1 := by
      rw [Int.mul_add, ← Int.mul_assoc, ← Int.mul_assoc, ← ea2, ← eb2, Int.mul_one]
      exact est
    exact Int.eq_of_mul_eq_mul_left (by omega) h1
  have key : m = (Nat.lcm a b : Nat) * (s * (x2 * t2) + t * (x1 * t1)) + c * ((y2 * t2) * (a' * s) + (y1 * t1) * (b' * t)) := by
    have h1 : m = m * (a' * s) + m * (b' * t) := by rw [← Int.mul_add, st1, Int.mul_one]
    rw [h1]
    conv => lhs; lhs; rw [m2]
    conv => lhs; rhs; rw [m1]
    rw [el]
    have ea2 : (a : Int) = g * a' := by rw [ea]; simp
    have eb2 : (b : Int) = g * b' := by rw [eb]; simp
    rw [ea2, eb2, Int.natCast_mul, Int.natCast_mul]
    simp only [Int.add_mul, Int.mul_add, Int.mul_assoc, Int.mul_left_comm, Int.mul_comm]
    omega
  rw [key]
  exact Int.dvd_add (Int.dvd_trans (Int.gcd_dvd_left _ _) (Int.dvd_mul_right _ _)) (Int.dvd_trans (Int.gcd_dvd_right _ _) (Int.dvd_mul_right _ _))
/-- the least number that all divide -/
def lcms : List (Int × Int) → Nat → Nat
  | [], L => L
  | p :: ps, L => lcms ps (Nat.lcm L p.2.natAbs)
def Ok (ps : List (Int × Int)) : Prop := ∀ p ∈ ps, 0 < p.2
/-- x leaves all -/
def Lv (x : Int) (ps : List (Int × Int)) : Prop := ∀ p ∈ ps, p.2 ∣ x - p.1
/-- all agree, two by two -/
def Agr (ps : List (Int × Int)) : Prop := ps.Pairwise fun p q => ((Int.gcd p.2 q.2 : Nat) : Int) ∣ q.1 - p.1
/-- what both tell: the step of the program -/
def bothF (F : Int) (p q : Int × Int) : Int × Int :=
  let d : Int := (Int.gcd p.2 q.2 : Nat)
  ((p.1 + p.2 * ((q.1 - p.1) / d * F % (q.2 / d))) % (p.2 * (q.2 / d)), p.2 * (q.2 / d))
theorem emod_dvd {x n : Int} : n ∣ x % n - x := by
  refine ⟨-(x / n), ?_⟩
  rw [Int.emod_def, Int.mul_neg]; omega
theorem both_ok {p q : Int × Int} {F y : Int} (hp : 0 < p.2) (hq : 0 < q.2) (hF : p.2 * F + q.2 * y = (Int.gcd p.2 q.2 : Nat)) (h : ((Int.gcd p.2 q.2 : Nat) : Int) ∣ q.1 - p.1) :
    (bothF F p q).2 = (Nat.lcm p.2.natAbs q.2.natAbs : Nat) ∧ 0 ≤ (bothF F p q).1 ∧ (bothF F p q).1 < (bothF F p q).2 ∧ p.2 ∣ (bothF F p q).1 - p.1 ∧ q.2 ∣ (bothF F p q).1 - q.1 := by
  obtain ⟨r, n⟩ := p
  obtain ⟨r', n'⟩ := q
  dsimp only at *
  unfold bothF
  dsimp only
  have gp : 0 < Int.gcd n n' := Int.gcd_pos_of_ne_zero_left _ (by omega)
  obtain ⟨a, ea⟩ := Int.gcd_dvd_left n n'
  obtain ⟨b, eb⟩ := Int.gcd_dvd_right n n'
  obtain ⟨t, et⟩ := h
  have eg : Nat.gcd n.natAbs n'.natAbs = Int.gcd n n' := rfl
  generalize hg : Int.gcd n n' = g at *
  have gz : (g : Int) ≠ 0 := by omega
  have e1 : n' / (g : Int) = b := by conv => lhs; rw [eb]
                                     exact Int.mul_ediv_cancel_left b gz
  have e2 : (r' - r) / (g : Int) = t := by rw [et]; exact Int.mul_ediv_cancel_left t gz
  rw [e1, e2]
  have bp : 0 < b := by
    rcases Int.lt_or_le 0 b with z | z
    · exact z
    · have := Int.mul_nonpos_of_nonneg_of_nonpos (show (0 : Int) ≤ g by omega) z
      omega
  have hL : n * b = (Nat.lcm n.natAbs n'.natAbs : Nat) := by
    have h1 := Nat.gcd_mul_lcm n.natAbs n'.natAbs
    rw [eg] at h1
    have h2 : (g : Int) * (Nat.lcm n.natAbs n'.natAbs : Nat) = g * (n * b) := by
      rw [← Int.natCast_mul, h1, Int.natCast_mul, Int.natAbs_of_nonneg (by omega), Int.natAbs_of_nonneg (by omega)]
      conv => lhs; rhs; rw [eb]
      rw [← Int.mul_assoc, Int.mul_comm n g, Int.mul_assoc]
    exact (Int.eq_of_mul_eq_mul_left gz h2).symm
  have Lp : 0 < n * b := Int.mul_pos hp bp
  refine ⟨hL, Int.emod_nonneg _ (by omega), Int.emod_lt_of_pos _ Lp, ?_, ?_⟩
  · have h1 : n ∣ (r + n * (t * F % b)) % (n * b) - (r + n * (t * F % b)) := Int.dvd_trans (Int.dvd_mul_right n b) emod_dvd
    have h2 : n ∣ (r + n * (t * F % b)) - r := ⟨t * F % b, by omega⟩
    have := Int.dvd_add h1 h2
    have e : (r + n * (t * F % b)) % (n * b) - (r + n * (t * F % b)) + (r + n * (t * F % b) - r) = (r + n * (t * F % b)) % (n * b) - r := by omega
    rw [e] at this; exact this
  · have dn : n' ∣ n * b := by
      refine ⟨a, ?_⟩
      conv => lhs; rw [ea]
      conv => rhs; rw [eb]
      rw [Int.mul_assoc, Int.mul_assoc, Int.mul_comm a b]
    have h1 : n' ∣ (r + n * (t * F % b)) % (n * b) - (r + n * (t * F % b)) := Int.dvd_trans dn emod_dvd
    -- n (t F mod b) is n t F by n b, and that g t
    have h2 : n' ∣ n * (t * F % b) - n * (t * F) := by
      obtain ⟨z, ez⟩ := (emod_dvd : b ∣ t * F % b - t * F)
      refine Int.dvd_trans dn ⟨z, ?_⟩
      rw [← Int.mul_sub, ez, Int.mul_assoc]
    have h3 : n' ∣ n * (t * F) - (r' - r) := by
      refine ⟨-(y * t), ?_⟩
      have : n * (t * F) = t * (n * F) := by simp only [Int.mul_left_comm]
      rw [this, et]
      have h4 : n * F = g - n' * y := by omega
      rw [h4, Int.mul_sub, Int.mul_neg, Int.mul_comm t g]
      have : t * (n' * y) = n' * (y * t) := by simp only [Int.mul_left_comm, Int.mul_comm]
      omega
    have h5 := Int.dvd_add (Int.dvd_add h1 h2) h3
    have e : (r + n * (t * F % b)) % (n * b) - (r + n * (t * F % b)) + (n * (t * F % b) - n * (t * F)) + (n * (t * F) - (r' - r)) = (r + n * (t * F % b)) % (n * b) - r' := by omega
    rw [e] at h5; exact h5
theorem lcms_app : ∀ (qs : List (Int × Int)) (ps : List (Int × Int)) (L : Nat), lcms (qs ++ ps) L = lcms ps (lcms qs L)
  | [], _, _ => rfl
  | q :: qs, ps, L => lcms_app qs ps _
theorem dvd_lcms0 : ∀ (qs : List (Int × Int)) (L : Nat), L ∣ lcms qs L
  | [], L => Nat.dvd_refl _
  | q :: qs, L => Nat.dvd_trans (Nat.dvd_lcm_left L q.2.natAbs) (dvd_lcms0 qs _)
theorem dvd_lcms : ∀ {qs : List (Int × Int)} {L : Nat} {q : Int × Int}, q ∈ qs → q.2.natAbs ∣ lcms qs L
  | q' :: qs, L, q, h => by
    rcases List.mem_cons.mp h with e | e
    · subst e; exact Nat.dvd_trans (Nat.dvd_lcm_right L q.2.natAbs) (dvd_lcms0 qs _)
    · exact dvd_lcms (qs := qs) e
theorem lcms_pos : ∀ {qs : List (Int × Int)} {L : Nat}, Ok qs → 0 < L → 0 < lcms qs L
  | [], L, _, h => h
  | q :: qs, L, ho, h => lcms_pos (qs := qs) (fun x hx => ho x (List.mem_cons_of_mem _ hx)) (Nat.lcm_pos h (by have := ho q List.mem_cons_self; omega))
/-- the least: it divides what all divide -/
theorem lcms_least : ∀ {qs : List (Int × Int)} {L : Nat} {m : Int}, (L : Int) ∣ m → (∀ q ∈ qs, q.2 ∣ m) → ((lcms qs L : Nat) : Int) ∣ m
  | [], L, m, h, _ => h
  | q :: qs, L, m, h, hq => by
    refine lcms_least (qs := qs) ?_ (fun x hx => hq x (List.mem_cons_of_mem _ hx))
    have h1 := Int.natAbs_dvd_natAbs.mpr h
    have h2 := Int.natAbs_dvd_natAbs.mpr (hq q List.mem_cons_self)
    rw [Int.natAbs_natCast] at h1
    exact Int.ofNat_dvd_left.mpr (Nat.lcm_dvd h1 h2)
theorem partL {c m : Int} : ∀ {qs : List (Int × Int)} {L : Nat}, Ok qs → 0 < L → ((Int.gcd L c : Nat) : Int) ∣ m → (∀ q ∈ qs, ((Int.gcd q.2 c : Nat) : Int) ∣ m) → ((Int.gcd (lcms qs L) c : Nat) : Int) ∣ m
  | [], L, _, _, h, _ => h
  | q :: qs, L, ho, hL, h, hq => by
    have q0 := ho q List.mem_cons_self
    refine partL (qs := qs) (fun x hx => ho x (List.mem_cons_of_mem _ hx)) (Nat.lcm_pos hL (by omega)) ?_ fun x hx => hq x (List.mem_cons_of_mem _ hx)
    refine part2 h ?_ hL
    have e : ((q.2.natAbs : Nat) : Int) = q.2 := Int.natAbs_of_nonneg (by omega)
    rw [e]
    exact hq q List.mem_cons_self
/-- the fold of the program; F tells the factors -/
def fold (F : Int → Int → Int) (f : Int × Int) (ps : List (Int × Int)) : Int × Int := ps.foldl (fun f p => bothF (F f.2 p.2) f p) f
theorem fold_ok {F : Int → Int → Int} (hF : ∀ a b, 0 < a → 0 < b → ∃ y, a * F a b + b * y = (Int.gcd a b : Nat)) : ∀ (ps qs : List (Int × Int)) (f : Int × Int), Ok (qs ++ ps) → Agr (qs ++ ps) → 0 < f.2 → f.2 = (lcms qs 1 : Nat) → 0 ≤ f.1 → f.1 < f.2 → Lv f.1 qs →
    (fold F f ps).2 = (lcms (qs ++ ps) 1 : Nat) ∧ 0 ≤ (fold F f ps).1 ∧ (fold F f ps).1 < (fold F f ps).2 ∧ Lv (fold F f ps).1 (qs ++ ps)
  | [], qs, f, ho, ha, h0, h1, h2, h3, h4 => by
    rw [List.append_nil]
    exact ⟨h1, h2, h3, h4⟩
  | p :: ps, qs, f, ho, ha, h0, h1, h2, h3, h4 => by
    have hp : 0 < p.2 := ho p (by simp)
    have hoq : Ok qs := fun x hx => ho x (List.mem_append_left _ hx)
    obtain ⟨y, ey⟩ := hF f.2 p.2 h0 hp
    have hd : ((Int.gcd f.2 p.2 : Nat) : Int) ∣ p.1 - f.1 := by
      rw [h1]
      refine partL hoq (by decide) (by simp) fun q hq => ?_
      have a1 : ((Int.gcd q.2 p.2 : Nat) : Int) ∣ p.1 - q.1 := by
        have := (List.pairwise_append.mp ha).2.2 q hq p List.mem_cons_self
        exact this
      have a2 : ((Int.gcd q.2 p.2 : Nat) : Int) ∣ f.1 - q.1 := Int.dvd_trans (Int.gcd_dvd_left _ _) (h4 q hq)
      have := Int.dvd_sub a1 a2
      have e : p.1 - q.1 - (f.1 - q.1) = p.1 - f.1 := by omega
      rw [e] at this; exact this
    obtain ⟨b1, b2, b3, b4, b5⟩ := both_ok (p := f) (q := p) h0 hp ey hd
    have e1 : (bothF (F f.2 p.2) f p).2 = (lcms (qs ++ [p]) 1 : Nat) := by
      rw [b1, lcms_app, h1]
      simp [lcms]
    have ih := fold_ok hF ps (qs ++ [p]) (bothF (F f.2 p.2) f p) (by rw [List.append_assoc]; exact ho) (by rw [List.append_assoc]; exact ha) (by
      rw [e1]
      have := lcms_pos (qs := qs ++ [p]) (L := 1) (fun x hx => by
        rcases List.mem_append.mp hx with z | z
        · exact hoq x z
        · rw [List.mem_singleton] at z; rw [z]; exact hp) (by decide)
      omega) e1 b2 b3 (fun x hx => by
        rcases List.mem_append.mp hx with z | z
        · have d1 : x.2 ∣ f.2 := by
            rw [h1]
            exact Int.ofNat_dvd_right.mpr (dvd_lcms z)
          have := Int.dvd_add (Int.dvd_trans d1 b4) (h4 x z)
          have e : (bothF (F f.2 p.2) f p).1 - f.1 + (f.1 - x.1) = (bothF (F f.2 p.2) f p).1 - x.1 := by omega
          rw [e] at this; exact this
        · rw [List.mem_singleton] at z; rw [z]; exact b5)
    rw [List.append_assoc] at ih
    exact ih
/-- who agrees, two by two, is told together -/
theorem together_ok {F : Int → Int → Int} (hF : ∀ a b, 0 < a → 0 < b → ∃ y, a * F a b + b * y = (Int.gcd a b : Nat)) {ps : List (Int × Int)} (ho : Ok ps) (ha : Agr ps) :
    (fold F (0, 1) ps).2 = (lcms ps 1 : Nat) ∧ 0 ≤ (fold F (0, 1) ps).1 ∧ (fold F (0, 1) ps).1 < (fold F (0, 1) ps).2 ∧ Lv (fold F (0, 1) ps).1 ps :=
  fold_ok hF ps [] (0, 1) ho ha (by decide) rfl (by decide) (by decide) (fun _ h => by cases h)
/-- what leaves the same, all of them -/
theorem lv_unique {x y : Int} {ps : List (Int × Int)} (hx : Lv x ps) (hy : Lv y ps) : ((lcms ps 1 : Nat) : Int) ∣ x - y := by
  refine lcms_least (by simp) fun q hq => ?_
  have := Int.dvd_sub (hx q hq) (hy q hq)
  have e : x - q.1 - (y - q.1) = x - y := by omega
  rw [e] at this; exact this
theorem lv_agr {x : Int} : ∀ {ps : List (Int × Int)}, Lv x ps → Agr ps
  | [], _ => List.Pairwise.nil
  | p :: ps, h => by
    refine List.Pairwise.cons (fun q hq => ?_) (lv_agr fun r hr => h r (List.mem_cons_of_mem _ hr))
    have h1 := Int.dvd_trans (Int.gcd_dvd_left p.2 q.2) (h p List.mem_cons_self)
    have h2 := Int.dvd_trans (Int.gcd_dvd_right p.2 q.2) (h q (List.mem_cons_of_mem _ hq))
    have := Int.dvd_sub h1 h2
    have e : x - p.1 - (x - q.1) = q.1 - p.1 := by omega
    rw [e] at this; exact this
end Crt
/-! Remainders: greater numbers; what several tell together. -/
namespace Cl
open PySem PySem.Spec PyProof.Rows L2
def ir_divisor_of_b0 : S := (.seq (.par [3, 4] (.cons (.var 4) (.cons (.bin .Mod (.var 3) (.var 4)) .nil))) .nop)
def ir_divisor_of_b1 : S := (.seq (.par [3, 4] (.cons (.var 1) (.cons (.bi .abs (.cons (.var 2) .nil)) .nil))) (.seq (.whl (.var 4) ir_divisor_of_b0) (.seq (.asg (.tg (.nm 1)) (.var 3)) .nop)))
def ir_divisor_of_2 : S := (.ret (.var 1))
def ir_divisor_of_1 : S := (.for (.nm 2) (.var 0) ir_divisor_of_b1)
def ir_divisor_of_0 : S := (.asg (.tg (.nm 1)) (.int 0))
def ir_divisor_of : S := (.seq ir_divisor_of_0 (.seq ir_divisor_of_1 (.seq ir_divisor_of_2 .nop)))
def ir_first_apart_b0 : S := (.seq (.ite (.bin .Mod (.bin .Sub (.idx (.idx (.var 0) (.var 3)) (.int 0)) (.idx (.var 2) (.int 0))) (.call 0 (.cons (.tup (.cons (.idx (.var 2) (.int 1)) (.cons (.idx (.idx (.var 0) (.var 3)) (.int 1)) .nil))) .nil))) (.seq (.ret (.tup (.cons (.var 1) (.cons (.var 3) .nil)))) .nop) .nop) .nop)
def ir_first_apart_b1 : S := (.seq (.for (.nm 3) (.rng2 (.bin .Add (.var 1) (.int 1)) (.bi .len (.cons (.var 0) .nil))) ir_first_apart_b0) .nop)
def ir_first_apart_1 : S := (.ret .non)
def ir_first_apart_0 : S := (.for (.tp [1, 2]) (.enm (.var 0)) ir_first_apart_b1)
def ir_first_apart : S := (.seq ir_first_apart_0 (.seq ir_first_apart_1 .nop))
def ir_both_3 : S := (.ret (.tup (.cons (.bin .Mod (.bin .Add (.idx (.var 0) (.int 0)) (.bin .Mult (.idx (.var 0) (.int 1)) (.var 5))) (.var 6)) (.cons (.var 6) .nil))))
def ir_both_2 : S := (.asg (.tg (.nm 6)) (.bin .Mult (.idx (.var 0) (.int 1)) (.bin .FloorDiv (.idx (.var 1) (.int 1)) (.var 2))))
def ir_both_1 : S := (.asg (.tg (.nm 5)) (.bin .Mod (.bin .Mult (.bin .FloorDiv (.bin .Sub (.idx (.var 1) (.int 0)) (.idx (.var 0) (.int 0))) (.var 2)) (.var 3)) (.bin .FloorDiv (.idx (.var 1) (.int 1)) (.var 2))))
def ir_both_0 : S := (.asg (.tg (.tp [2, 3, 4])) (.call 0 (.cons (.idx (.var 0) (.int 1)) (.cons (.idx (.var 1) (.int 1)) .nil))))
def ir_both : S := (.seq ir_both_0 (.seq ir_both_1 (.seq ir_both_2 (.seq ir_both_3 .nop))))
def ir_together_b0 : S := (.seq (.asg (.tg (.nm 2)) (.call 1 (.cons (.var 2) (.cons (.var 3) .nil)))) .nop)
def ir_together_4 : S := (.ret (.tup (.cons (.str "all") (.cons (.var 2) .nil))))
def ir_together_3 : S := (.for (.nm 3) (.var 0) ir_together_b0)
def ir_together_2 : S := (.asg (.tg (.nm 2)) (.tup (.cons (.int 0) (.cons (.int 1) .nil))))
def ir_together_1 : S := (.ite (.cmp .IsNot (.var 1) .non) (.seq (.ret (.bin .Add (.tup (.cons (.str "apart") .nil)) (.var 1))) .nop) .nop)
def ir_together_0 : S := (.asg (.tg (.nm 1)) (.call 0 (.cons (.var 0) .nil)))
def ir_together : S := (.seq ir_together_0 (.seq ir_together_1 (.seq ir_together_2 (.seq ir_together_3 (.seq ir_together_4 .nop)))))
def ir_leaves_0 : S := (.ret (.bi .all (.cons (.comp [2, 3] (.tp [2, 3]) (.var 1) .nil (.cmp .Eq (.bin .Mod (.bin .Sub (.var 0) (.var 2)) (.var 3)) (.int 0))) .nil)))
def ir_leaves : S := (.seq ir_leaves_0 .nop)
def ir_law_multiple_b0 : S := (.seq (.asg (.tg (.nm 1)) (.bin .Mult (.bin .FloorDiv (.var 1) (.call 0 (.cons (.var 1) (.cons (.var 3) .nil)))) (.var 3))) .nop)
def ir_law_multiple_2 : S := (.ret (.var 1))
def ir_law_multiple_1 : S := (.for (.tp [2, 3]) (.var 0) ir_law_multiple_b0)
def ir_law_multiple_0 : S := (.asg (.tg (.nm 1)) (.int 1))
def ir_law_multiple : S := (.seq ir_law_multiple_0 (.seq ir_law_multiple_1 (.seq ir_law_multiple_2 .nop)))
def ir_law_apart_b0 : S := (.seq (.ite (.cmp .NotEq (.call 0 (.cons (.bin .Sub (.idx (.idx (.var 0) (.var 1)) (.int 0)) (.idx (.idx (.var 0) (.var 2)) (.int 0))) (.cons (.call 1 (.cons (.idx (.idx (.var 0) (.var 1)) (.int 1)) (.cons (.idx (.idx (.var 0) (.var 2)) (.int 1)) .nil))) .nil))) (.int 0)) (.seq (.ret (.tup (.cons (.str "apart") (.cons (.var 1) (.cons (.var 2) .nil))))) .nop) .nop) .nop)
def ir_law_apart_b1 : S := (.seq (.for (.nm 2) (.rng2 (.bin .Add (.var 1) (.int 1)) (.bi .len (.cons (.var 0) .nil))) ir_law_apart_b0) .nop)
def ir_law_apart_1 : S := (.ret .non)
def ir_law_apart_0 : S := (.for (.nm 1) (.rng1 (.bi .len (.cons (.var 0) .nil))) ir_law_apart_b1)
def ir_law_apart : S := (.seq ir_law_apart_0 (.seq ir_law_apart_1 .nop))
def ir_law_leaves_0 : S := (.ret (.bi .all (.cons (.comp [2, 3] (.tp [2, 3]) (.var 1) .nil (.cmp .Eq (.call 0 (.cons (.bin .Sub (.var 0) (.var 2)) (.cons (.var 3) .nil))) (.int 0))) .nil)))
def ir_law_leaves : S := (.seq ir_law_leaves_0 .nop)
noncomputable def p_divisor_of : List D → PR := fun ds => pureOf (runF (semS { tab := [] } [] ir_divisor_of) 1 5 ds [])
noncomputable def p_first_apart : List D → PR := fun ds => pureOf (runF (semS { tab := [(liftP p_divisor_of)] } [] ir_first_apart) 1 4 ds [])
noncomputable def p_both : List D → PR := fun ds => pureOf (runF (semS { tab := [(liftP p_steps_to_divisor)] } [] ir_both) 2 7 ds [])
noncomputable def p_together : List D → PR := fun ds => pureOf (runF (semS { tab := [(liftP p_first_apart), (liftP p_both)] } [] ir_together) 1 4 ds [])
noncomputable def p_leaves : List D → PR := fun ds => pureOf (runF (semS { tab := [] } [] ir_leaves) 2 4 ds [])
noncomputable def p_law_multiple : List D → PR := fun ds => pureOf (runF (semS { tab := [(liftP p_law_shared)] } [] ir_law_multiple) 1 4 ds [])
noncomputable def p_law_apart : List D → PR := fun ds => pureOf (runF (semS { tab := [(liftP p_law_left), (liftP p_law_shared)] } [] ir_law_apart) 1 3 ds [])
noncomputable def p_law_leaves : List D → PR := fun ds => pureOf (runF (semS { tab := [(liftP p_law_left)] } [] ir_law_leaves) 2 4 ds [])
structure StB (B : Nat) (a0 b0 a b x y u v : Int) : Prop where
  pa : 0 ≤ a
  pb : 0 ≤ b
  ab : Sm B a
  bb : Sm B b
  h1 : x * a0 + y * b0 = a
  h2 : u * a0 + v * b0 = b
  g : Int.gcd a b = Int.gcd a0 b0
  sg : (0 ≤ x ∧ u ≤ 0 ∧ x * b - u * a = b0) ∨ (x ≤ 0 ∧ 0 ≤ u ∧ u * a - x * b = b0)
  ux : -b0 ≤ u ∧ u ≤ b0
  xx : (x = 1 ∨ (-b0 ≤ x ∧ x ≤ b0))
theorem StB.next {B : Nat} {a0 b0 a b x y u v : Int} (h : StB B a0 b0 a b x y u v) (hb : b ≠ 0) : StB B a0 b0 b (a - a.fdiv b * b) u v (x - a.fdiv b * u) (y - a.fdiv b * v) ∧ (a - a.fdiv b * b).natAbs < b.natAbs := by
  have hb' : 0 < b := by have := h.pb; omega
  have e : a.fdiv b = a / b := Int.fdiv_eq_ediv_of_nonneg _ h.pb
  rw [e]
  have em : a - a / b * b = a % b := by
    have := Int.emod_def a b
    rw [this, Int.mul_comm]
  have l1 := Int.emod_nonneg a hb
  have l2 := Int.emod_lt_of_pos a hb'
  have hk : 0 ≤ a / b := Int.ediv_nonneg h.pa h.pb
  have key : ((0 ≤ u ∧ x - a / b * u ≤ 0 ∧ u * (a - a / b * b) - (x - a / b * u) * b = b0) ∨ (u ≤ 0 ∧ 0 ≤ x - a / b * u ∧ (x - a / b * u) * b - u * (a - a / b * b) = b0)) ∧ (-b0 ≤ x - a / b * u ∧ x - a / b * u ≤ b0) := by
    rcases h.sg with ⟨s1, s2, s3⟩ | ⟨s1, s2, s3⟩
    · have p : 0 ≤ a / b * (-u) := Int.mul_nonneg hk (by omega)
      have p2 : a / b * (-u) = -(a / b * u) := by grind
      have e2 : (x - a / b * u) * b - u * (a - a / b * b) = b0 := by grind
      have p3 : 0 ≤ (-u) * (a - a / b * b) := Int.mul_nonneg (by omega) (by omega)
      have p4 : (-u) * (a - a / b * b) = -(u * (a - a / b * b)) := by grind
      have p5 := le_mul_pos (x := x - a / b * u) (b := b) (by omega) hb'
      exact ⟨.inr ⟨s2, by omega, e2⟩, by omega, by omega⟩
    · have p : 0 ≤ a / b * u := Int.mul_nonneg hk (by omega)
      have e2 : u * (a - a / b * b) - (x - a / b * u) * b = b0 := by grind
      have p3 : 0 ≤ u * (a - a / b * b) := Int.mul_nonneg (by omega) (by omega)
      have p5 := le_mul_pos (x := -(x - a / b * u)) (b := b) (by omega) hb'
      have p6 : -(x - a / b * u) * b = -((x - a / b * u) * b) := by grind
      exact ⟨.inl ⟨s2, by omega, e2⟩, by omega, by omega⟩
  refine ⟨⟨h.pb, by rw [em]; exact l1, h.bb, by rw [em]; exact h.bb.emod hb, h.h2, ?_, ?_, by rcases key.1 with z | z; exact .inl ⟨z.1, z.2.1, by omega⟩; exact .inr ⟨z.1, z.2.1, by omega⟩, key.2, .inr h.ux⟩, by rw [em]; omega⟩
  · have := h.h1
    have := h.h2
    grind
  · rw [Int.gcd_sub_mul_right_right, Int.gcd_comm]
    exact h.g
theorem ev_stepsB {a b : Int} (ha : 0 ≤ a) (hb : 0 ≤ b) (la : Sm 4000 a) (lb : Sm 4000 b) :
    ∃ x y : Int, p_steps_to_divisor [.int a, .int b] = .ok (.tup [.int (Int.gcd a b : Nat), .int x, .int y]) ∧ x * a + y * b = (Int.gcd a b : Nat) ∧ (x = 1 ∨ (-b ≤ x ∧ x ≤ b)) := by
  have h0 : StB 4000 a b a b 1 0 0 1 := ⟨ha, hb, la, lb, by omega, by omega, rfl, .inl ⟨by omega, by omega, by omega⟩, ⟨by omega, by omega⟩, .inl rfl⟩
  suffices hh : ∃ d : D, p_steps_to_divisor [.int a, .int b] = .ok d ∧ ∃ x y : Int, d = .tup [.int (Int.gcd a b : Nat), .int x, .int y] ∧ x * a + y * b = (Int.gcd a b : Nat) ∧ (x = 1 ∨ (-b ≤ x ∧ x ≤ b)) by
    obtain ⟨d, e, x, y, rfl, q⟩ := hh
    exact ⟨x, y, e, q⟩
  refine p_ex rfl ?_
  unfold ir_steps_to_divisor
  simp [gwS, ↓gwE, gwV, gwD, prM, preM, dctAt, keyD, revLM, semO, semI, setTg, seqM, lsM, binM, binL, augM, biM, bnM, cmpM, cmpI, ltM, leM, inM, eqF, flatD, isM, Cl.isNon, truM, intM, idxM, slcM, lenM, lstAt, Cl.putAt, isaM, tyM, tyName, lsrcM, zsrcM, srcM, pairM, wipeE, liftP, noRefL, noRef, intsD, blsD, ir_steps_to_divisor_0, ir_steps_to_divisor_1]
  refine ws_whl (fun n e h => h = [] ∧ ∃ a' b' x y u v o, n = b'.natAbs ∧ e = [some (.int a'), some (.int b'), some (.int x), some (.int y), some (.int u), some (.int v), o] ∧ StB 4000 a b a' b' x y u v) b.natAbs ⟨rfl, a, b, 1, 0, 0, 1, none, rfl, rfl, h0⟩ ?_
  rintro n e h ⟨rfl, a', b', x, y, u, v, o, rfl, rfl, hI⟩
  by_cases z : b' = 0
  · subst z
    have e1 : (Int.gcd a b : Int) = a' := by
      rw [← hI.g, Int.gcd_zero_right]
      have := hI.pa
      omega
    have pa := hI.pa
    simp [gwS, ↓gwE, gwV, gwD, prM, preM, dctAt, keyD, revLM, semO, semI, setTg, seqM, lsM, binM, binL, augM, biM, bnM, cmpM, cmpI, ltM, leM, inM, eqF, flatD, isM, Cl.isNon, truM, intM, idxM, slcM, lenM, lstAt, Cl.putAt, isaM, tyM, tyName, lsrcM, zsrcM, srcM, pairM, wipeE, liftP, noRefL, noRef, intsD, blsD, ir_steps_to_divisor_2, pa]
    refine ⟨_, outD_pure rfl, x, y, by rw [e1], ?_, hI.xx⟩
    rw [e1]; exact hI.h1
  · obtain ⟨hn, lt⟩ := hI.next z
    have sb : ∀ w : Int, (-b ≤ w ∧ w ≤ b) → Sm 4000 w := fun w h => lb.of_le (by omega)
    have m1 : MulOk (a'.fdiv b') b' := by
      rw [Int.fdiv_eq_ediv_of_nonneg _ hI.pb]
      exact Sm.mulOk (hI.ab.ediv _) hI.bb
    have d1 : DivOk b' := hI.bb.divOk z
    have m2 : MulOk (a'.fdiv b') u := by
      rw [Int.fdiv_eq_ediv_of_nonneg _ hI.pb]
      exact Sm.mulOk (hI.ab.ediv _) (sb u hI.ux)
    have bp : 0 < b := by
      rcases Int.lt_or_eq_of_le hb with h | h
      · exact h
      · exfalso
        have h1 := hI.ux
        have h2 := hI.h2
        rw [← h] at h1 h2
        have u0 : u = 0 := by omega
        rw [u0] at h2
        simp at h2
        omega
    have sv : Sm 4001 v := by
      have h2 := hI.h2
      have h1 : v.natAbs ≤ (b'.natAbs + a.natAbs) := by
        have e1 : v * b = b' - u * a := by omega
        have e2 : v.natAbs * b.natAbs ≤ b'.natAbs + b.natAbs * a.natAbs := by
          rw [← Int.natAbs_mul, e1]
          have h3 : (u * a).natAbs ≤ b.natAbs * a.natAbs := by
            rw [Int.natAbs_mul]; exact Nat.mul_le_mul_right _ (by have := hI.ux; omega)
          have := Int.natAbs_sub_le b' (u * a)
          omega
        have e3 : v.natAbs * b.natAbs ≤ (b'.natAbs + a.natAbs) * b.natAbs := by
          rw [Nat.add_mul, Nat.mul_comm a.natAbs]
          have : b'.natAbs ≤ b'.natAbs * b.natAbs := Nat.le_mul_of_pos_right _ (by omega)
          omega
        exact Nat.le_of_mul_le_mul_right e3 (by omega)
      have h3 := hI.bb
      unfold Sm at *
      have : (2 : Nat) ^ 4001 = 2 ^ 4000 + 2 ^ 4000 := by rw [← Nat.two_mul, Nat.pow_succ']
      omega
    have m3 : MulOk (a'.fdiv b') v := by
      rw [Int.fdiv_eq_ediv_of_nonneg _ hI.pb]
      exact Sm.mulOk (hI.ab.ediv _) sv
    simp [gwS, ↓gwE, gwV, gwD, prM, preM, dctAt, keyD, revLM, semO, semI, setTg, seqM, lsM, binM, binL, augM, biM, bnM, cmpM, cmpI, ltM, leM, inM, eqF, flatD, isM, Cl.isNon, truM, intM, idxM, slcM, lenM, lstAt, Cl.putAt, isaM, tyM, tyName, lsrcM, zsrcM, srcM, pairM, wipeE, liftP, noRefL, noRef, intsD, blsD, ir_steps_to_divisor_b0, z, m1, m2, m3, d1]
    refine ⟨_, lt, _, _, rfl, _, _, _, _, ⟨rfl, rfl, rfl, rfl, rfl, rfl⟩, hn⟩
theorem ev_leftB {a n : Int} (hn : 0 < n) (la : Sm 4000 a) (ln : Sm 4000 n) : p_law_left [.int a, .int n] = .ok (.int (a % n)) := by
  have e : a - a / n * n = a % n := by rw [Int.emod_def, Int.mul_comm]
  have f : a.fdiv n = a / n := Int.fdiv_eq_ediv_of_nonneg _ (by omega)
  have m : MulOk (a / n) n := Sm.mulOk (la.ediv _) ln
  have d : DivOk n := ln.divOk (by omega)
  refine p_go rfl ?_
  simp [gwS, ↓gwE, gwV, gwD, prM, preM, dctAt, keyD, revLM, semO, semI, setTg, seqM, lsM, binM, binL, augM, biM, bnM, cmpM, cmpI, ltM, leM, inM, eqF, flatD, isM, Cl.isNon, truM, intM, idxM, slcM, lenM, lstAt, Cl.putAt, isaM, tyM, tyName, lsrcM, zsrcM, srcM, pairM, wipeE, liftP, noRefL, noRef, intsD, blsD, ir_law_left, ir_law_left_0, f, m, d, e]
theorem ev_sharedB {p q : Int} (hp : Sm 4000 p) (hq : Sm 4000 q) : p_law_shared [.int p, .int q] = .ok (.int (Int.gcd p q : Nat)) := by
  refine p_go rfl ?_
  unfold ir_law_shared
  simp [gwS, ↓gwE, gwV, gwD, prM, preM, dctAt, keyD, revLM, semO, semI, setTg, seqM, lsM, binM, binL, augM, biM, bnM, cmpM, cmpI, ltM, leM, inM, eqF, flatD, isM, Cl.isNon, truM, intM, idxM, slcM, lenM, lstAt, Cl.putAt, isaM, tyM, tyName, lsrcM, zsrcM, srcM, pairM, wipeE, liftP, noRefL, noRef, intsD, blsD, ir_law_shared_0, ir_law_shared_1, abs_if]
  refine ws_whl (fun n e h => h = [] ∧ ∃ a : Nat, e = [some (.int a), some (.int n)] ∧ Sm 4000 a ∧ Sm 4000 n ∧ Nat.gcd a n = Int.gcd p q) q.natAbs ⟨rfl, p.natAbs, rfl, hp, hq, rfl⟩ ?_
  rintro n e h ⟨rfl, a, rfl, ha, hn, hg⟩
  by_cases z : 0 < n
  · have m : MulOk ((a : Int) / n) n := Sm.mulOk (ha.ediv _) hn
    have d : DivOk (n : Int) := hn.divOk (by omega)
    simp [gwS, ↓gwE, gwV, gwD, prM, preM, dctAt, keyD, revLM, semO, semI, setTg, seqM, lsM, binM, binL, augM, biM, bnM, cmpM, cmpI, ltM, leM, inM, eqF, flatD, isM, Cl.isNon, truM, intM, idxM, slcM, lenM, lstAt, Cl.putAt, isaM, tyM, tyName, lsrcM, zsrcM, srcM, pairM, wipeE, liftP, noRefL, noRef, intsD, blsD, z, ir_law_shared_b0, m, d, nat_mod]
    refine ⟨a % n, Nat.mod_lt a z, n, ⟨rfl, rfl⟩, hn, ?_, ?_⟩
    · rw [Int.natCast_emod]; exact hn.emod (by omega)
    · rw [← hg, Nat.gcd_comm n, ← Nat.gcd_rec, Nat.gcd_comm]
  · have : n = 0 := by omega
    subst this
    simp [gwS, ↓gwE, gwV, gwD, prM, preM, dctAt, keyD, revLM, semO, semI, setTg, seqM, lsM, binM, binL, augM, biM, bnM, cmpM, cmpI, ltM, leM, inM, eqF, flatD, isM, Cl.isNon, truM, intM, idxM, slcM, lenM, lstAt, Cl.putAt, isaM, tyM, tyName, lsrcM, zsrcM, srcM, pairM, wipeE, liftP, noRefL, noRef, intsD, blsD, ir_law_shared_2]
    simp at hg; omega
/-- the greatest common divisor of some -/
def gcdL (ns : List Int) : Nat := ns.foldl (fun g n => Nat.gcd g n.natAbs) 0
theorem gcdL_le {B : Nat} : ∀ {ns : List Int} {g : Nat}, Sm B g → (∀ n ∈ ns, Sm B n) → Sm B (ns.foldl (fun g n => Nat.gcd g n.natAbs) g : Nat)
  | [], g, h, _ => h
  | n :: ns, g, h, hn => by
    refine gcdL_le (ns := ns) ?_ fun x hx => hn x (List.mem_cons_of_mem _ hx)
    show Sm B (Nat.gcd g n.natAbs : Nat)
    by_cases z : g = 0
    · subst z; rw [Nat.gcd_zero_left]; exact (hn n List.mem_cons_self).of_le (by simp)
    · exact h.of_le (by rw [Int.natAbs_natCast, Int.natAbs_natCast]; exact Nat.le_of_dvd (by omega) (Nat.gcd_dvd_left _ _))
theorem ev_divisor_of {ns : List Int} {d : D} (hd : ∀ h, srcM d h = .ok ⟨ns.map D.int, []⟩ h) (hb : ∀ n ∈ ns, Sm 8000 n) : p_divisor_of [d] = .ok (.int (gcdL ns : Nat)) := by
  refine p_go rfl ?_
  unfold ir_divisor_of
  simp [gwS, ↓gwE, gwV, gwD, prM, preM, dctAt, keyD, revLM, semO, semI, setTg, seqM, lsM, binM, binL, augM, biM, bnM, cmpM, cmpI, ltM, leM, inM, eqF, flatD, isM, Cl.isNon, truM, intM, idxM, slcM, lenM, lstAt, Cl.putAt, isaM, tyM, tyName, lsrcM, zsrcM, srcM, pairM, wipeE, liftP, noRefL, noRef, intsD, blsD, ir_divisor_of_0, ir_divisor_of_1]
  refine ws_for ns D.int (fun i e h => h = [] ∧ ∃ x a b, e = [some d, some (.int ((ns.take i).foldl (fun g n => Nat.gcd g n.natAbs) 0 : Nat)), x, a, b]) ?src ?step ?fin
  case src =>
    simp [semI, gwS, ↓gwE, gwV, hd]
  case step =>
    rintro i n e h hi ⟨rfl, x, a, b, rfl⟩
    have hil : i < ns.length := by
      rcases Nat.lt_or_ge i ns.length with z | z
      · exact z
      · rw [List.getElem?_eq_none z] at hi; cases hi
    have hn : Sm 8000 n := hb n (List.mem_of_getElem? hi)
    have hg : Sm 8000 ((ns.take i).foldl (fun g n => Nat.gcd g n.natAbs) 0 : Nat) := gcdL_le (ns := ns.take i) (show Sm 8000 0 from Sm.of (b := 0) (by decide) (Nat.two_pow_pos _)) fun y hy => hb y (List.mem_of_mem_take hy)
    have et : ns.take (i + 1) = ns.take i ++ [n] := by rw [List.take_succ, hi]; rfl
    generalize hG : (ns.take i).foldl (fun g n => Nat.gcd g n.natAbs) 0 = g at *
    have eg : (ns.take (i + 1)).foldl (fun g n => Nat.gcd g n.natAbs) 0 = Nat.gcd g n.natAbs := by rw [et, List.foldl_append, hG]; rfl
    rw [eg]
    simp [gwS, ↓gwE, gwV, gwD, prM, preM, dctAt, keyD, revLM, semO, semI, setTg, seqM, lsM, binM, binL, augM, biM, bnM, cmpM, cmpI, ltM, leM, inM, eqF, flatD, isM, Cl.isNon, truM, intM, idxM, slcM, lenM, lstAt, Cl.putAt, isaM, tyM, tyName, lsrcM, zsrcM, srcM, pairM, wipeE, liftP, noRefL, noRef, intsD, blsD, ir_divisor_of_b1, abs_if]
    refine ws_whl (fun m e h => h = [] ∧ ∃ u : Nat, e = [some d, some (.int g), some (.int n), some (.int u), some (.int m)] ∧ Sm 8000 u ∧ Sm 8000 m ∧ Nat.gcd u m = Nat.gcd g n.natAbs) n.natAbs ⟨rfl, g, rfl, hg, hn.of_le (by simp), rfl⟩ ?_
    rintro m e h ⟨rfl, u, rfl, hu, hm, huv⟩
    by_cases z : m = 0
    · subst z
      simp at huv
      simp [gwS, ↓gwE, gwV, gwD, prM, preM, dctAt, keyD, revLM, semO, semI, setTg, seqM, lsM, binM, binL, augM, biM, bnM, cmpM, cmpI, ltM, leM, inM, eqF, flatD, isM, Cl.isNon, truM, intM, idxM, slcM, lenM, lstAt, Cl.putAt, isaM, tyM, tyName, lsrcM, zsrcM, srcM, pairM, wipeE, liftP, noRefL, noRef, intsD, blsD, huv]
    · have z' : (m : Int) ≠ 0 := by omega
      simp [gwS, ↓gwE, gwV, gwD, prM, preM, dctAt, keyD, revLM, semO, semI, setTg, seqM, lsM, binM, binL, augM, biM, bnM, cmpM, cmpI, ltM, leM, inM, eqF, flatD, isM, Cl.isNon, truM, intM, idxM, slcM, lenM, lstAt, Cl.putAt, isaM, tyM, tyName, lsrcM, zsrcM, srcM, pairM, wipeE, liftP, noRefL, noRef, intsD, blsD, z, ir_divisor_of_b0]
      refine ⟨u % m, Nat.mod_lt u (by omega), m, by simp, hm, ?_, ?_⟩
      · exact hm.of_le (by rw [Int.natAbs_natCast, Int.natAbs_natCast]; exact Nat.le_of_lt (Nat.mod_lt u (by omega)))
      · rw [← huv, Nat.gcd_comm m, ← Nat.gcd_rec, Nat.gcd_comm]
  case fin =>
    rintro e h ⟨rfl, x, a, b, rfl⟩
    rw [List.take_length]
    simp [gwS, ↓gwE, gwV, gwD, prM, preM, dctAt, keyD, revLM, semO, semI, setTg, seqM, lsM, binM, binL, augM, biM, bnM, cmpM, cmpI, ltM, leM, inM, eqF, flatD, isM, Cl.isNon, truM, intM, idxM, slcM, lenM, lstAt, Cl.putAt, isaM, tyM, tyName, lsrcM, zsrcM, srcM, pairM, wipeE, liftP, noRefL, noRef, intsD, blsD, ir_divisor_of_2, gcdL]
/-! ### pairs -/
abbrev prsI (ps : List (Int × Int)) : D := .tup (ps.map rt)
/-- a factor, as the program finds it where numbers are not too great -/
noncomputable def facF (a b : Int) : Int := open Classical in if h : 0 < a ∧ 0 < b ∧ Sm 4000 a ∧ Sm 4000 b then (ev_stepsB (Int.le_of_lt h.1) (Int.le_of_lt h.2.1) h.2.2.1 h.2.2.2).choose else (Crt.bezZ a.natAbs b).choose
theorem facF_ok (a b : Int) (ha : 0 < a) (hb : 0 < b) : ∃ y, a * facF a b + b * y = (Int.gcd a b : Nat) := by
  unfold facF
  split
  · next h =>
    obtain ⟨y, _, e, _⟩ := (ev_stepsB (Int.le_of_lt h.1) (Int.le_of_lt h.2.1) h.2.2.1 h.2.2.2).choose_spec
    exact ⟨y, by rw [Int.mul_comm a, Int.mul_comm b]; exact e⟩
  · obtain ⟨y, e⟩ := (Crt.bezZ a.natAbs b).choose_spec
    have ea : ((a.natAbs : Nat) : Int) = a := Int.natAbs_of_nonneg (by omega)
    exact ⟨y, by simp only [ea] at e ⊢; exact e⟩
theorem ev_stepsF {a b : Int} (ha : 0 < a) (hb : 0 < b) (la : Sm 4000 a) (lb : Sm 4000 b) : ∃ y, p_steps_to_divisor [.int a, .int b] = .ok (.tup [.int (Int.gcd a b : Nat), .int (facF a b), .int y]) ∧ Sm 4000 (facF a b) := by
  have h : 0 < a ∧ 0 < b ∧ Sm 4000 a ∧ Sm 4000 b := ⟨ha, hb, la, lb⟩
  unfold facF
  rw [dif_pos h]
  obtain ⟨y, e, _, g⟩ := (ev_stepsB (Int.le_of_lt h.1) (Int.le_of_lt h.2.1) h.2.2.1 h.2.2.2).choose_spec
  refine ⟨y, e, ?_⟩
  rcases g with g | g
  · rw [g]; exact Sm.of (b := 1) (by decide) (Nat.one_lt_two_pow (by decide))
  · exact lb.of_le (by omega)
theorem ev_both {p q : Int × Int} (hp : 0 < p.2) (hq : 0 < q.2) (s1 : Sm 1900 p.1) (s2 : Sm 1900 p.2) (s3 : Sm 1900 q.1) (s4 : Sm 1900 q.2) : p_both [rt p, rt q] = .ok (rt (Crt.bothF (facF p.2 q.2) p q)) := by
  obtain ⟨y, e, sF⟩ := ev_stepsF hp hq (s2.mono (by decide)) (s4.mono (by decide))
  have gp : (0 : Int) < Int.gcd p.2 q.2 := by
    have := Int.gcd_pos_of_ne_zero_left q.2 (show p.2 ≠ 0 by omega)
    omega
  have sg : Sm 1900 (Int.gcd p.2 q.2 : Nat) := s2.gcd (by omega)
  have d1 : DivOk (Int.gcd p.2 q.2 : Nat) := sg.divOk (by omega)
  have b0 : 0 < q.2 / (Int.gcd p.2 q.2 : Nat) := Int.ediv_pos_of_pos_of_dvd hq (by omega) (Int.gcd_dvd_right _ _)
  have f1 : ∀ x : Int, x.fmod (q.2 / (Int.gcd p.2 q.2 : Nat)) = x % (q.2 / (Int.gcd p.2 q.2 : Nat)) := fun x => Int.fmod_eq_emod_of_nonneg x (by omega)
  have n0 : 0 < p.2 * (q.2 / (Int.gcd p.2 q.2 : Nat)) := Int.mul_pos hp b0
  have f2 : ∀ x : Int, x.fmod (p.2 * (q.2 / (Int.gcd p.2 q.2 : Nat))) = x % (p.2 * (q.2 / (Int.gcd p.2 q.2 : Nat))) := fun x => Int.fmod_eq_emod_of_nonneg x (by omega)
  have m1 : MulOk ((q.1 - p.1) / (Int.gcd p.2 q.2 : Nat)) (facF p.2 q.2) := Sm.mulOk (A := 1901) ((s3.sub s1 (by decide) (by decide)).ediv _) sF
  have m2 : MulOk p.2 (q.2 / (Int.gcd p.2 q.2 : Nat)) := Sm.mulOk s2 (s4.ediv _)
  have m3 : MulOk p.2 ((q.1 - p.1) / (Int.gcd p.2 q.2 : Nat) * facF p.2 q.2 % (q.2 / (Int.gcd p.2 q.2 : Nat))) := Sm.mulOk s2 (Sm.emod (s4.ediv _) (by omega))
  have z1 : q.2 / (Int.gcd p.2 q.2 : Nat) ≠ 0 := by omega
  have z2 : p.2 * (q.2 / (Int.gcd p.2 q.2 : Nat)) ≠ 0 := by omega
  refine p_go rfl ?_
  simp [gwS, ↓gwE, gwV, gwD, prM, preM, dctAt, keyD, revLM, semO, semI, setTg, seqM, lsM, binM, binL, augM, biM, bnM, cmpM, cmpI, ltM, leM, inM, eqF, flatD, isM, Cl.isNon, truM, intM, idxM, slcM, lenM, lstAt, Cl.putAt, isaM, tyM, tyName, lsrcM, zsrcM, srcM, pairM, wipeE, liftP, noRefL, noRef, intsD, blsD, ir_both, ir_both_0, ir_both_1, ir_both_2, ir_both_3, e, d1, f1, f2, m1, m2, m3, z1, Crt.bothF, -ne_eq]
  exact ⟨z1, by omega, z1⟩
theorem atI_nat {α : Type} {xs : List α} {j : Nat} {x : α} (h : xs[j]? = some x) : atI xs (j : Int) = some x := by
  rw [atI_pos (by omega)]; simpa using h
/-- two pairs that do not agree -/
def badP (p q : Int × Int) : Prop := ¬ ((Int.gcd p.2 q.2 : Nat) : Int) ∣ q.1 - p.1
instance (p q : Int × Int) : Decidable (badP p q) := inferInstanceAs (Decidable (¬ _))
def noBad (ps : List (Int × Int)) : Prop := ∀ (i j : Nat) (p q : Int × Int), i < j → ps[i]? = some p → ps[j]? = some q → ¬ badP p q
def fstBad (ps : List (Int × Int)) (i j : Nat) : Prop := (∃ p q, i < j ∧ ps[i]? = some p ∧ ps[j]? = some q ∧ badP p q) ∧ (∀ (i' j' : Nat) (p q : Int × Int), i' < i → i' < j' → ps[i']? = some p → ps[j']? = some q → ¬ badP p q) ∧ ∀ (j' : Nat) (p q : Int × Int), i < j' → j' < j → ps[i]? = some p → ps[j']? = some q → ¬ badP p q
theorem fstBad_one {ps : List (Int × Int)} {i j i' j' : Nat} (h : fstBad ps i j) (h' : fstBad ps i' j') : i = i' ∧ j = j' := by
  obtain ⟨⟨p, q, l, e1, e2, b⟩, h1, h2⟩ := h
  obtain ⟨⟨p', q', l', e1', e2', b'⟩, h1', h2'⟩ := h'
  have ei : i = i' := by
    rcases Nat.lt_trichotomy i i' with z | z | z
    · exact absurd b (h1' _ _ _ _ z l e1 e2)
    · exact z
    · exact absurd b' (h1 _ _ _ _ z l' e1' e2')
  subst ei
  refine ⟨rfl, ?_⟩
  rcases Nat.lt_trichotomy j j' with z | z | z
  · exact absurd b (h2' _ _ _ l z e1 e2)
  · exact z
  · exact absurd b' (h2 _ _ _ l' z e1' e2')
theorem fstBad_no {ps : List (Int × Int)} {i j : Nat} (h : fstBad ps i j) (n : noBad ps) : False := by
  obtain ⟨⟨p, q, l, e1, e2, b⟩, _, _⟩ := h
  exact n _ _ _ _ l e1 e2 b
/-- what the search for such two tells -/
def ApD (ps : List (Int × Int)) (f : Nat → Nat → D) (d : D) : Prop := (noBad ps ∧ d = .non) ∨ ∃ i j, fstBad ps i j ∧ d = f i j
def SmP (B : Nat) (ps : List (Int × Int)) : Prop := ∀ p ∈ ps, 0 < p.2 ∧ Sm B p.1 ∧ Sm B p.2
theorem gcd_pos2 {a b : Int} (h : 0 < a) : 0 < Int.gcd a b := Int.gcd_pos_of_ne_zero_left b (by omega)
theorem ev_div2 {a b : Int} (sa : Sm 1900 a) (sb : Sm 1900 b) : p_divisor_of [.tup [.int a, .int b]] = .ok (.int (Int.gcd a b : Nat)) := by
  have := ev_divisor_of (ns := [a, b]) (d := .tup [.int a, .int b]) (fun h => rfl) (by
    intro n hn
    simp at hn
    rcases hn with e | e <;> subst e
    · exact sa.mono (by decide)
    · exact sb.mono (by decide))
  rw [this]
  simp [gcdL]
  rfl
theorem len_of {α : Type} {l : List α} {i : Nat} {a : α} (h : l[i]? = some a) : i < l.length := by
  rcases Nat.lt_or_ge i l.length with z | z
  · exact z
  · rw [List.getElem?_eq_none z] at h; cases h
theorem ev_first_apart {ps : List (Int × Int)} (hs : SmP 1900 ps) (hl : ps.length ≤ 4000) : ∃ d, p_first_apart [prsI ps] = .ok d ∧ ApD ps (fun i j => .tup [.int i, .int j]) d := by
  refine p_ex rfl ?_
  unfold ir_first_apart
  have hl2 : ps.length ≤ sizeLine := by rw [sizeLine_eq]; omega
  simp [gwS, ↓gwE, gwV, gwD, prM, preM, dctAt, keyD, revLM, semO, semI, setTg, seqM, lsM, binM, binL, augM, biM, bnM, cmpM, cmpI, ltM, leM, inM, eqF, flatD, isM, Cl.isNon, truM, intM, idxM, slcM, lenM, lstAt, Cl.putAt, isaM, tyM, tyName, lsrcM, zsrcM, srcM, pairM, wipeE, liftP, noRefL, noRef, intsD, blsD, ir_first_apart_0]
  refine ws_for ps.zipIdx (fun p : (Int × Int) × Nat => D.tup [.int (p.2 : Nat), rt p.1]) (fun i e h => h = [] ∧ (∃ a b c, e = [some (prsI ps), a, b, c]) ∧ ∀ (i' j' : Nat) (p q : Int × Int), i' < i → i' < j' → ps[i']? = some p → ps[j']? = some q → ¬ badP p q) ?_ ?_ ?_
  · simp [gwS, ↓gwE, gwV, gwD, prM, preM, dctAt, keyD, revLM, semO, semI, setTg, seqM, lsM, binM, binL, augM, biM, bnM, cmpM, cmpI, ltM, leM, inM, eqF, flatD, isM, Cl.isNon, truM, intM, idxM, slcM, lenM, lstAt, Cl.putAt, isaM, tyM, tyName, lsrcM, zsrcM, srcM, pairM, wipeE, liftP, noRefL, noRef, intsD, blsD, List.zipIdx_map]
  · rintro i ⟨p, k⟩ e h hi ⟨rfl, ⟨a, b, c, rfl⟩, nb⟩
    rw [List.getElem?_zipIdx] at hi
    cases hp : ps[i]? with
    | none => rw [hp] at hi; cases hi
    | some p' =>
    rw [hp] at hi
    simp at hi
    obtain ⟨rfl, rfl⟩ := hi
    have hpi := hs p' (List.mem_of_getElem? hp)
    have ei : ((ps.length : Int) - ((i : Int) + 1)).toNat = ps.length - (i + 1) := by omega
    simp [gwS, ↓gwE, gwV, gwD, prM, preM, dctAt, keyD, revLM, semO, semI, setTg, seqM, lsM, binM, binL, augM, biM, bnM, cmpM, cmpI, ltM, leM, inM, eqF, flatD, isM, Cl.isNon, truM, intM, idxM, slcM, lenM, lstAt, Cl.putAt, isaM, tyM, tyName, lsrcM, zsrcM, srcM, pairM, wipeE, liftP, noRefL, noRef, intsD, blsD, ir_first_apart_b1]
    refine ws_for (List.range (ps.length - (i + 1))) (fun k : Nat => D.int ((i : Int) + 1 + (k : Int))) (fun m e h => h = [] ∧ (∃ c, e = [some (prsI ps), some (.int (i : Nat)), some (rt p'), c]) ∧ ∀ (j' : Nat) (p q : Int × Int), i < j' → j' < i + 1 + m → ps[i]? = some p → ps[j']? = some q → ¬ badP p q) ?_ ?_ ?_
    · have r1 : Rg ((i : Int) + 1) := by unfold Rg; have := len_of hp; omega
      have r2 : Rg (ps.length : Int) := by unfold Rg; omega
      simp [gwS, ↓gwE, gwV, gwD, prM, preM, dctAt, keyD, revLM, semO, semI, setTg, seqM, lsM, binM, binL, augM, biM, bnM, cmpM, cmpI, ltM, leM, inM, eqF, flatD, isM, Cl.isNon, truM, intM, idxM, slcM, lenM, lstAt, Cl.putAt, isaM, tyM, tyName, lsrcM, zsrcM, srcM, pairM, wipeE, liftP, noRefL, noRef, intsD, blsD, r1, r2, rangeD, ei]
      intro j' a b a' b' l1 l2
      omega
    · rintro m k e h hk ⟨rfl, ⟨c, rfl⟩, nb2⟩
      have hk2 := len_of hk
      simp at hk2
      rw [List.getElem?_range hk2] at hk
      cases hk
      have hj : i + 1 + m < ps.length := by omega
      obtain ⟨q, hq⟩ : ∃ q, ps[i + 1 + m]? = some q := ⟨_, List.getElem?_eq_getElem hj⟩
      have hqi := hs q (List.mem_of_getElem? hq)
      have ha : atI (ps.map rt) ((i : Int) + 1 + (m : Int)) = some (rt q) := by
        have := atI_nat (xs := ps.map rt) (j := i + 1 + m) (x := rt q) (by rw [List.getElem?_map, hq]; rfl)
        simpa using this
      have e2 := ev_div2 hpi.2.2 hqi.2.2
      have g0 : 0 < Int.gcd p'.2 q.2 := gcd_pos2 hpi.1
      have g1 : (Int.gcd p'.2 q.2 : Int) ≠ 0 := by omega
      simp [gwS, ↓gwE, gwV, gwD, prM, preM, dctAt, keyD, revLM, semO, semI, setTg, seqM, lsM, binM, binL, augM, biM, bnM, cmpM, cmpI, ltM, leM, inM, eqF, flatD, isM, Cl.isNon, truM, intM, idxM, slcM, lenM, lstAt, Cl.putAt, isaM, tyM, tyName, lsrcM, zsrcM, srcM, pairM, wipeE, liftP, noRefL, noRef, intsD, blsD, ir_first_apart_b0, ha, e2]
      refine ⟨fun z => by omega, ?_⟩
      have hb : badP p' q ↔ ¬ (q.1 - p'.1) % (Int.gcd p'.2 q.2 : Nat) = 0 := by
        unfold badP
        exact not_congr ⟨Int.emod_eq_zero_of_dvd, Int.dvd_of_emod_eq_zero⟩
      split
      · next z =>
        intro j' a b a' b' l1 l2 h1 h2
        by_cases l3 : j' < i + 1 + m
        · exact nb2 j' _ _ l1 l3 h1 h2
        · have ej : j' = i + 1 + m := by omega
          subst ej
          rw [hp] at h1; rw [hq] at h2
          cases h1; cases h2
          rw [hb]; simpa using z
      · next z =>
        refine .inr ⟨i, i + 1 + m, ⟨⟨p', q, by omega, hp, hq, hb.mpr z⟩, nb, fun j' a b l1 l2 h1 h2 => nb2 j' a b l1 l2 h1 h2⟩, ?_⟩
        simp
    · rintro e h ⟨rfl, ⟨c, rfl⟩, nb2⟩
      simp [gwS, ↓gwE, gwV, gwD, prM, preM, dctAt, keyD, revLM, semO, semI, setTg, seqM, lsM, binM, binL, augM, biM, bnM, cmpM, cmpI, ltM, leM, inM, eqF, flatD, isM, Cl.isNon, truM, intM, idxM, slcM, lenM, lstAt, Cl.putAt, isaM, tyM, tyName, lsrcM, zsrcM, srcM, pairM, wipeE, liftP, noRefL, noRef, intsD, blsD]
      intro i' j' a b a' b' l1 l2 h1 h2
      by_cases l3 : i' < i
      · exact nb i' j' _ _ l3 l2 h1 h2
      · have ei' : i' = i := by omega
        subst ei'
        have := len_of h2
        exact nb2 j' _ _ l2 (by simp; omega) h1 h2
  · rintro e h ⟨rfl, ⟨a, b, c, rfl⟩, nb⟩
    simp [gwS, ↓gwE, gwV, gwD, prM, preM, dctAt, keyD, revLM, semO, semI, setTg, seqM, lsM, binM, binL, augM, biM, bnM, cmpM, cmpI, ltM, leM, inM, eqF, flatD, isM, Cl.isNon, truM, intM, idxM, slcM, lenM, lstAt, Cl.putAt, isaM, tyM, tyName, lsrcM, zsrcM, srcM, pairM, wipeE, liftP, noRefL, noRef, intsD, blsD, ir_first_apart_1]
    exact .inl ⟨fun i j p q l h1 h2 => nb i j p q (by have := len_of h1; simpa using this) l h1 h2, rfl⟩
theorem noBad_agr {ps : List (Int × Int)} (h : noBad ps) : Crt.Agr ps := by
  unfold Crt.Agr
  rw [List.pairwise_iff_getElem]
  intro i j hi hj l
  have := h i j ps[i] ps[j] l (List.getElem?_eq_getElem hi) (List.getElem?_eq_getElem hj)
  exact Decidable.not_not.mp this
theorem agr_noBad {ps : List (Int × Int)} (h : Crt.Agr ps) : noBad ps := by
  unfold Crt.Agr at h
  rw [List.pairwise_iff_getElem] at h
  intro i j p q l e1 e2 b
  have h1 := len_of e1
  have h2 := len_of e2
  rw [List.getElem?_eq_getElem h1] at e1
  rw [List.getElem?_eq_getElem h2] at e2
  cases e1; cases e2
  exact b (h i j h1 h2 l)
theorem SmP.ok {B : Nat} {ps : List (Int × Int)} (h : SmP B ps) : Crt.Ok ps := fun p hp => (h p hp).1
/-- what several tell -/
def togD (ps : List (Int × Int)) (d : D) : Prop := (noBad ps ∧ d = .tup [.str (Str.ofString "all"), rt (Crt.fold facF (0, 1) ps)]) ∨ ∃ i j : Nat, fstBad ps i j ∧ d = .tup [.str (Str.ofString "apart"), .int i, .int j]
theorem fold_take {ps : List (Int × Int)} {i : Nat} {p : Int × Int} (h : ps[i]? = some p) : Crt.fold facF (0, 1) (ps.take (i + 1)) = Crt.bothF (facF (Crt.fold facF (0, 1) (ps.take i)).2 p.2) (Crt.fold facF (0, 1) (ps.take i)) p := by
  rw [List.take_succ, h]
  unfold Crt.fold
  rw [Option.toList_some, List.foldl_append]
  rfl
theorem lcms_take_dvd (ps : List (Int × Int)) (i : Nat) : Crt.lcms (ps.take i) 1 ∣ Crt.lcms ps 1 := by
  conv => rhs; rw [← List.take_append_drop i ps, Crt.lcms_app]
  exact Crt.dvd_lcms0 _ _
theorem ev_together {ps : List (Int × Int)} (hs : SmP 1900 ps) (hl : ps.length ≤ 4000) (hb : Sm 1900 (Crt.lcms ps 1 : Nat)) : ∃ d, p_together [prsI ps] = .ok d ∧ togD ps d := by
  obtain ⟨d, e, q⟩ := ev_first_apart hs hl
  rcases q with ⟨nb, rfl⟩ | ⟨i, j, fb, rfl⟩
  · refine ⟨_, ?_, .inl ⟨nb, rfl⟩⟩
    refine p_go rfl ?_
    unfold ir_together
    simp [gwS, ↓gwE, gwV, gwD, prM, preM, dctAt, keyD, revLM, semO, semI, setTg, seqM, lsM, binM, binL, augM, biM, bnM, cmpM, cmpI, ltM, leM, inM, eqF, flatD, isM, Cl.isNon, truM, intM, idxM, slcM, lenM, lstAt, Cl.putAt, isaM, tyM, tyName, lsrcM, zsrcM, srcM, pairM, wipeE, liftP, noRefL, noRef, intsD, blsD, ir_together_0, ir_together_1, ir_together_2, e]
    refine ws_for ps rt (fun i e h => h = [] ∧ ∃ x, e = [some (prsI ps), some .non, some (rt (Crt.fold facF (0, 1) (ps.take i))), x]) ?_ ?_ ?_
    · simp [gwS, ↓gwE, gwV, gwD, prM, preM, dctAt, keyD, revLM, semO, semI, setTg, seqM, lsM, binM, binL, augM, biM, bnM, cmpM, cmpI, ltM, leM, inM, eqF, flatD, isM, Cl.isNon, truM, intM, idxM, slcM, lenM, lstAt, Cl.putAt, isaM, tyM, tyName, lsrcM, zsrcM, srcM, pairM, wipeE, liftP, noRefL, noRef, intsD, blsD]; exact ⟨rfl, rfl⟩
    · rintro i p e h hi ⟨rfl, x, rfl⟩
      have hp := hs p (List.mem_of_getElem? hi)
      have ag : Crt.Agr (ps.take i) := (noBad_agr nb).sublist (List.take_sublist _ _)
      have ok : Crt.Ok (ps.take i) := fun y hy => hs.ok y (List.mem_of_mem_take hy)
      obtain ⟨b1, b2, b3, b4⟩ := Crt.together_ok facF_ok ok ag
      have lp := Crt.lcms_pos (L := 1) ok (by decide)
      have s2 : Sm 1900 (Crt.fold facF (0, 1) (ps.take i)).2 := by
        rw [b1]
        refine hb.of_le ?_
        rw [Int.natAbs_natCast, Int.natAbs_natCast]
        exact Nat.le_of_dvd (Crt.lcms_pos hs.ok (by decide)) (lcms_take_dvd ps i)
      have s1 : Sm 1900 (Crt.fold facF (0, 1) (ps.take i)).1 := s2.of_le (by omega)
      have eb := ev_both (p := Crt.fold facF (0, 1) (ps.take i)) (q := p) (by rw [b1]; omega) hp.1 s1 s2 hp.2.1 hp.2.2
      rw [← fold_take hi] at eb
      simp [gwS, ↓gwE, gwV, gwD, prM, preM, dctAt, keyD, revLM, semO, semI, setTg, seqM, lsM, binM, binL, augM, biM, bnM, cmpM, cmpI, ltM, leM, inM, eqF, flatD, isM, Cl.isNon, truM, intM, idxM, slcM, lenM, lstAt, Cl.putAt, isaM, tyM, tyName, lsrcM, zsrcM, srcM, pairM, wipeE, liftP, noRefL, noRef, intsD, blsD, ir_together_b0, eb]
    · rintro e h ⟨rfl, x, rfl⟩
      rw [List.take_length]
      simp [gwS, ↓gwE, gwV, gwD, prM, preM, dctAt, keyD, revLM, semO, semI, setTg, seqM, lsM, binM, binL, augM, biM, bnM, cmpM, cmpI, ltM, leM, inM, eqF, flatD, isM, Cl.isNon, truM, intM, idxM, slcM, lenM, lstAt, Cl.putAt, isaM, tyM, tyName, lsrcM, zsrcM, srcM, pairM, wipeE, liftP, noRefL, noRef, intsD, blsD, ir_together_4]
      exact outD_pure rfl
  · refine ⟨_, ?_, .inr ⟨i, j, fb, rfl⟩⟩
    refine p_go rfl ?_
    unfold ir_together
    simp [gwS, ↓gwE, gwV, gwD, prM, preM, dctAt, keyD, revLM, semO, semI, setTg, seqM, lsM, binM, binL, augM, biM, bnM, cmpM, cmpI, ltM, leM, inM, eqF, flatD, isM, Cl.isNon, truM, intM, idxM, slcM, lenM, lstAt, Cl.putAt, isaM, tyM, tyName, lsrcM, zsrcM, srcM, pairM, wipeE, liftP, noRefL, noRef, intsD, blsD, ir_together_0, ir_together_1, e]
    exact outD_pure rfl
/-- x leaves all -/
def lvB (x : Int) (ps : List (Int × Int)) : Bool := ps.all fun p => decide (p.2 ∣ x - p.1)
theorem lvB_iff {x : Int} {ps : List (Int × Int)} : lvB x ps = true ↔ Crt.Lv x ps := by
  unfold lvB Crt.Lv
  simp [List.all_eq_true]
theorem ev_leaves {x : Int} {ps : List (Int × Int)} (hs : SmP 1900 ps) (hl : ps.length ≤ 4000) : p_leaves [.int x, prsI ps] = .ok (.bl (lvB x ps)) := by
  refine p_go rfl ?_
  unfold ir_leaves
  simp [gwS, ↓gwE, gwV, gwD, prM, preM, dctAt, keyD, revLM, semO, semI, setTg, seqM, lsM, binM, binL, augM, biM, bnM, cmpM, cmpI, ltM, leM, inM, eqF, flatD, isM, Cl.isNon, truM, intM, idxM, slcM, lenM, lstAt, Cl.putAt, isaM, tyM, tyName, lsrcM, zsrcM, srcM, pairM, wipeE, liftP, noRefL, noRef, intsD, blsD, ir_leaves_0]
  refine go_map ps rt (fun p => .bl (decide (p.2 ∣ x - p.1))) ?_ (by omega) (fun p hp => ?_) ?_
  · simp [gwS, ↓gwE, gwV, gwD, prM, preM, dctAt, keyD, revLM, semO, semI, setTg, seqM, lsM, binM, binL, augM, biM, bnM, cmpM, cmpI, ltM, leM, inM, eqF, flatD, isM, Cl.isNon, truM, intM, idxM, slcM, lenM, lstAt, Cl.putAt, isaM, tyM, tyName, lsrcM, zsrcM, srcM, pairM, wipeE, liftP, noRefL, noRef, intsD, blsD]
  · have h := (hs p hp).1
    have f : ∀ y : Int, y.fmod p.2 = y % p.2 := fun y => Int.fmod_eq_emod_of_nonneg y (by omega)
    have z : p.2 ≠ 0 := by omega
    simp [gwS, ↓gwE, gwV, gwD, prM, preM, dctAt, keyD, revLM, semO, semI, setTg, seqM, lsM, binM, binL, augM, biM, bnM, cmpM, cmpI, ltM, leM, inM, eqF, flatD, isM, Cl.isNon, truM, intM, idxM, slcM, lenM, lstAt, Cl.putAt, isaM, tyM, tyName, lsrcM, zsrcM, srcM, pairM, wipeE, liftP, noRefL, noRef, intsD, blsD, f, z]
    exact ⟨Int.dvd_of_emod_eq_zero, Int.emod_eq_zero_of_dvd⟩
  · simp [gwS, ↓gwE, gwV, gwD, prM, preM, dctAt, keyD, revLM, semO, semI, setTg, seqM, lsM, binM, binL, augM, biM, bnM, cmpM, cmpI, ltM, leM, inM, eqF, flatD, isM, Cl.isNon, truM, intM, idxM, slcM, lenM, lstAt, Cl.putAt, isaM, tyM, tyName, lsrcM, zsrcM, srcM, pairM, wipeE, liftP, noRefL, noRef, intsD, blsD]
    rfl
theorem ev_law_leaves {x : Int} {ps : List (Int × Int)} (hs : SmP 1900 ps) (hx : Sm 3000 x) (hl : ps.length ≤ 4000) : p_law_leaves [.int x, prsI ps] = .ok (.bl (lvB x ps)) := by
  refine p_go rfl ?_
  unfold ir_law_leaves
  simp [gwS, ↓gwE, gwV, gwD, prM, preM, dctAt, keyD, revLM, semO, semI, setTg, seqM, lsM, binM, binL, augM, biM, bnM, cmpM, cmpI, ltM, leM, inM, eqF, flatD, isM, Cl.isNon, truM, intM, idxM, slcM, lenM, lstAt, Cl.putAt, isaM, tyM, tyName, lsrcM, zsrcM, srcM, pairM, wipeE, liftP, noRefL, noRef, intsD, blsD, ir_law_leaves_0]
  refine go_map ps rt (fun p => .bl (decide (p.2 ∣ x - p.1))) ?_ (by omega) (fun p hp => ?_) ?_
  · simp [gwS, ↓gwE, gwV, gwD, prM, preM, dctAt, keyD, revLM, semO, semI, setTg, seqM, lsM, binM, binL, augM, biM, bnM, cmpM, cmpI, ltM, leM, inM, eqF, flatD, isM, Cl.isNon, truM, intM, idxM, slcM, lenM, lstAt, Cl.putAt, isaM, tyM, tyName, lsrcM, zsrcM, srcM, pairM, wipeE, liftP, noRefL, noRef, intsD, blsD]
  · have h := hs p hp
    have e := ev_leftB (a := x - p.1) h.1 (Sm.sub (C := 4000) hx h.2.1 (by decide) (by decide)) (h.2.2.mono (by decide))
    simp [gwS, ↓gwE, gwV, gwD, prM, preM, dctAt, keyD, revLM, semO, semI, setTg, seqM, lsM, binM, binL, augM, biM, bnM, cmpM, cmpI, ltM, leM, inM, eqF, flatD, isM, Cl.isNon, truM, intM, idxM, slcM, lenM, lstAt, Cl.putAt, isaM, tyM, tyName, lsrcM, zsrcM, srcM, pairM, wipeE, liftP, noRefL, noRef, intsD, blsD, e]
    exact ⟨Int.dvd_of_emod_eq_zero, Int.emod_eq_zero_of_dvd⟩
  · simp [gwS, ↓gwE, gwV, gwD, prM, preM, dctAt, keyD, revLM, semO, semI, setTg, seqM, lsM, binM, binL, augM, biM, bnM, cmpM, cmpI, ltM, leM, inM, eqF, flatD, isM, Cl.isNon, truM, intM, idxM, slcM, lenM, lstAt, Cl.putAt, isaM, tyM, tyName, lsrcM, zsrcM, srcM, pairM, wipeE, liftP, noRefL, noRef, intsD, blsD]
    rfl
theorem ev_law_multiple {ps : List (Int × Int)} (hs : SmP 1900 ps) (hb : Sm 1900 (Crt.lcms ps 1 : Nat)) (hl : ps.length ≤ 4000) : p_law_multiple [prsI ps] = .ok (.int (Crt.lcms ps 1 : Nat)) := by
  refine p_go rfl ?_
  unfold ir_law_multiple
  simp [gwS, ↓gwE, gwV, gwD, prM, preM, dctAt, keyD, revLM, semO, semI, setTg, seqM, lsM, binM, binL, augM, biM, bnM, cmpM, cmpI, ltM, leM, inM, eqF, flatD, isM, Cl.isNon, truM, intM, idxM, slcM, lenM, lstAt, Cl.putAt, isaM, tyM, tyName, lsrcM, zsrcM, srcM, pairM, wipeE, liftP, noRefL, noRef, intsD, blsD, ir_law_multiple_0, ir_law_multiple_1]
  refine ws_for ps rt (fun i e h => h = [] ∧ ∃ x y, e = [some (prsI ps), some (.int (Crt.lcms (ps.take i) 1 : Nat)), x, y]) ?_ ?_ ?_
  · simp [gwS, ↓gwE, gwV, gwD, prM, preM, dctAt, keyD, revLM, semO, semI, setTg, seqM, lsM, binM, binL, augM, biM, bnM, cmpM, cmpI, ltM, leM, inM, eqF, flatD, isM, Cl.isNon, truM, intM, idxM, slcM, lenM, lstAt, Cl.putAt, isaM, tyM, tyName, lsrcM, zsrcM, srcM, pairM, wipeE, liftP, noRefL, noRef, intsD, blsD, Crt.lcms]
  · rintro i p e h hi ⟨rfl, x, y, rfl⟩
    have hp := hs p (List.mem_of_getElem? hi)
    have ok : Crt.Ok (ps.take i) := fun y hy => hs.ok y (List.mem_of_mem_take hy)
    have lp := Crt.lcms_pos (L := 1) ok (by decide)
    have et : Crt.lcms (ps.take (i + 1)) 1 = Nat.lcm (Crt.lcms (ps.take i) 1) p.2.natAbs := by
      rw [List.take_succ, hi, Option.toList_some, Crt.lcms_app]; rfl
    have s2 : Sm 1900 (Crt.lcms (ps.take i) 1 : Nat) := by
      refine hb.of_le ?_
      rw [Int.natAbs_natCast, Int.natAbs_natCast]
      exact Nat.le_of_dvd (Crt.lcms_pos hs.ok (by decide)) (lcms_take_dvd ps i)
    generalize Crt.lcms (ps.take i) 1 = L at *
    have e := ev_sharedB (p := L) (q := p.2) (s2.mono (by decide)) (hp.2.2.mono (by decide))
    have gp : (0 : Int) < Int.gcd L p.2 := by
      have := Int.gcd_pos_of_ne_zero_right (L : Int) (show p.2 ≠ 0 by omega)
      omega
    have sg : Sm 1900 (Int.gcd L p.2 : Nat) := s2.gcd (by omega)
    have d1 : DivOk (Int.gcd L p.2 : Nat) := sg.divOk (by omega)
    have m1 : MulOk ((L : Int) / (Int.gcd L p.2 : Nat)) p.2 := Sm.mulOk (s2.ediv _) hp.2.2
    have el : (L : Int) / (Int.gcd L p.2 : Nat) * p.2 = (Nat.lcm L p.2.natAbs : Nat) := by
      obtain ⟨a, ea⟩ := Int.gcd_dvd_left (L : Int) p.2
      have h1 := Nat.gcd_mul_lcm L p.2.natAbs
      have eg : Nat.gcd L p.2.natAbs = Int.gcd L p.2 := rfl
      rw [eg] at h1
      have h2 : ((Int.gcd L p.2 : Nat) : Int) * (Nat.lcm L p.2.natAbs : Nat) = (L : Int) * p.2 := by
        rw [← Int.natCast_mul, h1, Int.natCast_mul, Int.natAbs_of_nonneg (by omega)]
      generalize Int.gcd (L : Int) p.2 = g at *
      have e3 : (L : Int) / (g : Int) = a := by
        conv => lhs; rw [ea]
        exact Int.mul_ediv_cancel_left a (by omega)
      rw [e3]
      have h3 : (g : Int) * (Nat.lcm L p.2.natAbs : Nat) = g * (a * p.2) := by rw [h2, ← Int.mul_assoc, ← ea]
      exact (Int.eq_of_mul_eq_mul_left (by omega) h3).symm
    simp [gwS, ↓gwE, gwV, gwD, prM, preM, dctAt, keyD, revLM, semO, semI, setTg, seqM, lsM, binM, binL, augM, biM, bnM, cmpM, cmpI, ltM, leM, inM, eqF, flatD, isM, Cl.isNon, truM, intM, idxM, slcM, lenM, lstAt, Cl.putAt, isaM, tyM, tyName, lsrcM, zsrcM, srcM, pairM, wipeE, liftP, noRefL, noRef, intsD, blsD, ir_law_multiple_b0, e, d1, m1, el, et]
  · rintro e h ⟨rfl, x, y, rfl⟩
    rw [List.take_length]
    simp [gwS, ↓gwE, gwV, gwD, prM, preM, dctAt, keyD, revLM, semO, semI, setTg, seqM, lsM, binM, binL, augM, biM, bnM, cmpM, cmpI, ltM, leM, inM, eqF, flatD, isM, Cl.isNon, truM, intM, idxM, slcM, lenM, lstAt, Cl.putAt, isaM, tyM, tyName, lsrcM, zsrcM, srcM, pairM, wipeE, liftP, noRefL, noRef, intsD, blsD, ir_law_multiple_2]
theorem ev_law_apart {ps : List (Int × Int)} (hs : SmP 1900 ps) (hl : ps.length ≤ 4000) : ∃ d, p_law_apart [prsI ps] = .ok d ∧ ApD ps (fun i j => .tup [.str (Str.ofString "apart"), .int i, .int j]) d := by
  refine p_ex rfl ?_
  unfold ir_law_apart
  have hl2 : ps.length ≤ sizeLine := by rw [sizeLine_eq]; omega
  have r2 : Rg (ps.length : Int) := by unfold Rg; omega
  simp [gwS, ↓gwE, gwV, gwD, prM, preM, dctAt, keyD, revLM, semO, semI, setTg, seqM, lsM, binM, binL, augM, biM, bnM, cmpM, cmpI, ltM, leM, inM, eqF, flatD, isM, Cl.isNon, truM, intM, idxM, slcM, lenM, lstAt, Cl.putAt, isaM, tyM, tyName, lsrcM, zsrcM, srcM, pairM, wipeE, liftP, noRefL, noRef, intsD, blsD, ir_law_apart_0]
  refine ws_for (List.range ps.length) (fun i : Nat => D.int (i : Nat)) (fun i e h => h = [] ∧ (∃ a b, e = [some (prsI ps), a, b]) ∧ ∀ (i' j' : Nat) (p q : Int × Int), i' < i → i' < j' → ps[i']? = some p → ps[j']? = some q → ¬ badP p q) ?_ ?_ ?_
  · simp [gwS, ↓gwE, gwV, gwD, prM, preM, dctAt, keyD, revLM, semO, semI, setTg, seqM, lsM, binM, binL, augM, biM, bnM, cmpM, cmpI, ltM, leM, inM, eqF, flatD, isM, Cl.isNon, truM, intM, idxM, slcM, lenM, lstAt, Cl.putAt, isaM, tyM, tyName, lsrcM, zsrcM, srcM, pairM, wipeE, liftP, noRefL, noRef, intsD, blsD, r2, rangeD]
  · rintro i k e h hi ⟨rfl, ⟨a, b, rfl⟩, nb⟩
    have hi2 := len_of hi
    simp at hi2
    rw [List.getElem?_range hi2] at hi
    cases hi
    obtain ⟨p', hp⟩ : ∃ p', ps[i]? = some p' := ⟨_, List.getElem?_eq_getElem hi2⟩
    have hpi := hs p' (List.mem_of_getElem? hp)
    have hai : atI (ps.map rt) (i : Int) = some (rt p') := atI_nat (by rw [List.getElem?_map, hp]; rfl)
    have ei : ((ps.length : Int) - ((i : Int) + 1)).toNat = ps.length - (i + 1) := by omega
    simp [gwS, ↓gwE, gwV, gwD, prM, preM, dctAt, keyD, revLM, semO, semI, setTg, seqM, lsM, binM, binL, augM, biM, bnM, cmpM, cmpI, ltM, leM, inM, eqF, flatD, isM, Cl.isNon, truM, intM, idxM, slcM, lenM, lstAt, Cl.putAt, isaM, tyM, tyName, lsrcM, zsrcM, srcM, pairM, wipeE, liftP, noRefL, noRef, intsD, blsD, ir_law_apart_b1]
    refine ws_for (List.range (ps.length - (i + 1))) (fun k : Nat => D.int ((i : Int) + 1 + (k : Int))) (fun m e h => h = [] ∧ (∃ c, e = [some (prsI ps), some (.int (i : Nat)), c]) ∧ ∀ (j' : Nat) (p q : Int × Int), i < j' → j' < i + 1 + m → ps[i]? = some p → ps[j']? = some q → ¬ badP p q) ?_ ?_ ?_
    · have r1 : Rg ((i : Int) + 1) := by unfold Rg; omega
      simp [gwS, ↓gwE, gwV, gwD, prM, preM, dctAt, keyD, revLM, semO, semI, setTg, seqM, lsM, binM, binL, augM, biM, bnM, cmpM, cmpI, ltM, leM, inM, eqF, flatD, isM, Cl.isNon, truM, intM, idxM, slcM, lenM, lstAt, Cl.putAt, isaM, tyM, tyName, lsrcM, zsrcM, srcM, pairM, wipeE, liftP, noRefL, noRef, intsD, blsD, r1, r2, rangeD, ei]
      intro j' a b a' b' l1 l2
      omega
    · rintro m k e h hk ⟨rfl, ⟨c, rfl⟩, nb2⟩
      have hk2 := len_of hk
      simp at hk2
      rw [List.getElem?_range hk2] at hk
      cases hk
      have hj : i + 1 + m < ps.length := by omega
      obtain ⟨q, hq⟩ : ∃ q, ps[i + 1 + m]? = some q := ⟨_, List.getElem?_eq_getElem hj⟩
      have hqi := hs q (List.mem_of_getElem? hq)
      have ha : atI (ps.map rt) ((i : Int) + 1 + (m : Int)) = some (rt q) := by
        have := atI_nat (xs := ps.map rt) (j := i + 1 + m) (x := rt q) (by rw [List.getElem?_map, hq]; rfl)
        simpa using this
      have e2 := ev_sharedB (hpi.2.2.mono (show 1900 ≤ 4000 by decide)) (hqi.2.2.mono (show 1900 ≤ 4000 by decide))
      have g0 : (0 : Int) < Int.gcd p'.2 q.2 := by have := gcd_pos2 (b := q.2) hpi.1; omega
      have e3 := ev_leftB (a := p'.1 - q.1) (n := (Int.gcd p'.2 q.2 : Nat)) g0 (Sm.sub (C := 4000) hpi.2.1 hqi.2.1 (by decide) (by decide)) ((hpi.2.2.gcd (by omega)).mono (by decide))
      have hb : badP p' q ↔ ¬ (p'.1 - q.1) % (Int.gcd p'.2 q.2 : Nat) = 0 := by
        unfold badP
        have en : q.1 - p'.1 = -(p'.1 - q.1) := by omega
        rw [en, Int.dvd_neg]
        exact not_congr ⟨Int.emod_eq_zero_of_dvd, Int.dvd_of_emod_eq_zero⟩
      have hg : ps[i]?.map rt = some (rt p') := by rw [hp]; rfl
      simp [gwS, ↓gwE, gwV, gwD, prM, preM, dctAt, keyD, revLM, semO, semI, setTg, seqM, lsM, binM, binL, augM, biM, bnM, cmpM, cmpI, ltM, leM, inM, eqF, flatD, isM, Cl.isNon, truM, intM, idxM, slcM, lenM, lstAt, Cl.putAt, isaM, tyM, tyName, lsrcM, zsrcM, srcM, pairM, wipeE, liftP, noRefL, noRef, intsD, blsD, ir_law_apart_b0, hg, ha, e2, e3]
      split
      · next z =>
        intro j' a b a' b' l1 l2 h1 h2
        by_cases l3 : j' < i + 1 + m
        · exact nb2 j' _ _ l1 l3 h1 h2
        · have ej : j' = i + 1 + m := by omega
          subst ej
          rw [hp] at h1; rw [hq] at h2
          cases h1; cases h2
          rw [hb]; simpa using z
      · next z =>
        refine ⟨_, outD_pure rfl, .inr ⟨i, i + 1 + m, ⟨⟨p', q, by omega, hp, hq, hb.mpr z⟩, nb, fun j' a b l1 l2 h1 h2 => nb2 j' a b l1 l2 h1 h2⟩, ?_⟩⟩
        simp
    · rintro e h ⟨rfl, ⟨c, rfl⟩, nb2⟩
      simp [gwS, ↓gwE, gwV, gwD, prM, preM, dctAt, keyD, revLM, semO, semI, setTg, seqM, lsM, binM, binL, augM, biM, bnM, cmpM, cmpI, ltM, leM, inM, eqF, flatD, isM, Cl.isNon, truM, intM, idxM, slcM, lenM, lstAt, Cl.putAt, isaM, tyM, tyName, lsrcM, zsrcM, srcM, pairM, wipeE, liftP, noRefL, noRef, intsD, blsD]
      intro i' j' a b a' b' l1 l2 h1 h2
      by_cases l3 : i' < i
      · exact nb i' j' _ _ l3 l2 h1 h2
      · have ei' : i' = i := by omega
        subst ei'
        have := len_of h2
        exact nb2 j' _ _ l2 (by simp; omega) h1 h2
  · rintro e h ⟨rfl, ⟨a, b, rfl⟩, nb⟩
    simp [gwS, ↓gwE, gwV, gwD, prM, preM, dctAt, keyD, revLM, semO, semI, setTg, seqM, lsM, binM, binL, augM, biM, bnM, cmpM, cmpI, ltM, leM, inM, eqF, flatD, isM, Cl.isNon, truM, intM, idxM, slcM, lenM, lstAt, Cl.putAt, isaM, tyM, tyName, lsrcM, zsrcM, srcM, pairM, wipeE, liftP, noRefL, noRef, intsD, blsD, ir_law_apart_1]
    exact .inl ⟨fun i j p q l h1 h2 => nb i j p q (by have := len_of h1; simpa using this) l h1 h2, rfl⟩
end Cl
namespace K38
open PySem PySem.Spec PyProof.Rows L2 Cl
def ck_is_whole : Ck := { N := ["value"], fs := [], gs := [] }
abbrev st_is_whole : Stmt := PySem.Challenge.pw_wholeanswers_k38_whole_remainders_togeth.main.body.getD 1 (.Pass ⟨0, 0, 0, 0⟩)
theorem ok_is_whole : chkB chkAll ck_is_whole ir_is_whole (defScope st_is_whole) (defBody st_is_whole) = true := by decide +kernel
theorem sc_is_whole : FnScope ck_is_whole.N ["value"] (defScope st_is_whole) := ⟨rfl, rfl, rfl, by decide +kernel, rfl, by decide +kernel, by decide +kernel⟩
def ck_is_number : Ck := { N := ["value", "least", "most"], fs := ["is_whole"], gs := [] }
abbrev st_is_number : Stmt := PySem.Challenge.pw_wholeanswers_k38_whole_remainders_togeth.main.body.getD 2 (.Pass ⟨0, 0, 0, 0⟩)
theorem ok_is_number : chkB chkAll ck_is_number ir_is_number (defScope st_is_number) (defBody st_is_number) = true := by decide +kernel
theorem sc_is_number : FnScope ck_is_number.N ["value", "least", "most"] (defScope st_is_number) := ⟨rfl, rfl, rfl, by decide +kernel, rfl, by decide +kernel, by decide +kernel⟩
def ir_is_tuple_of_0 : S := (.ret (.and (.isa (.var 0) ["tuple"]) (.and (.cmp .LtE (.bi .len (.cons (.var 0) .nil)) (.var 1)) (.bi .all (.cons (.comp [3] (.nm 3) (.var 0) .nil (.calv 2 [(0, 0)] (.cons (.var 3) .nil))) .nil)))))
def ir_is_tuple_of : S := (.seq ir_is_tuple_of_0 .nop)
def ck_is_tuple_of : Ck := { N := ["value", "size", "judge", "part"], fs := ["is_pair"], gs := ["is_pair"] }
abbrev st_is_tuple_of : Stmt := PySem.Challenge.pw_wholeanswers_k38_whole_remainders_togeth.main.body.getD 3 (.Pass ⟨0, 0, 0, 0⟩)
theorem ok_is_tuple_of : chkB chkAll ck_is_tuple_of ir_is_tuple_of (defScope st_is_tuple_of) (defBody st_is_tuple_of) = true := by decide +kernel
theorem sc_is_tuple_of : FnScope ck_is_tuple_of.N ["value", "size", "judge"] (defScope st_is_tuple_of) := ⟨rfl, rfl, rfl, by decide +kernel, rfl, by decide +kernel, by decide +kernel⟩
def ck_divisor_of : Ck := { N := ["numbers", "found", "number", "a", "b"], fs := [], gs := [] }
abbrev st_divisor_of : Stmt := PySem.Challenge.pw_wholeanswers_k38_whole_remainders_togeth.main.body.getD 4 (.Pass ⟨0, 0, 0, 0⟩)
theorem ok_divisor_of : chkB chkAll ck_divisor_of ir_divisor_of (defScope st_divisor_of) (defBody st_divisor_of) = true := by decide +kernel
theorem sc_divisor_of : FnScope ck_divisor_of.N ["numbers"] (defScope st_divisor_of) := ⟨rfl, rfl, rfl, by decide +kernel, rfl, by decide +kernel, by decide +kernel⟩
def ck_steps_to_divisor : Ck := { N := ["a", "b", "x", "y", "u", "v", "k"], fs := [], gs := [] }
abbrev st_steps_to_divisor : Stmt := PySem.Challenge.pw_wholeanswers_k38_whole_remainders_togeth.main.body.getD 5 (.Pass ⟨0, 0, 0, 0⟩)
theorem ok_steps_to_divisor : chkB chkAll ck_steps_to_divisor ir_steps_to_divisor (defScope st_steps_to_divisor) (defBody st_steps_to_divisor) = true := by decide +kernel
theorem sc_steps_to_divisor : FnScope ck_steps_to_divisor.N ["a", "b"] (defScope st_steps_to_divisor) := ⟨rfl, rfl, rfl, by decide +kernel, rfl, by decide +kernel, by decide +kernel⟩
def ir_is_pair_1 : S := (.ret (.call 0 (.cons (.idx (.var 0) (.int 0)) (.cons (.int 0) (.cons (.bin .Sub (.idx (.var 0) (.int 1)) (.int 1)) .nil)))))
def ir_is_pair_0 : S := (.ite (.or (.not (.isa (.var 0) ["tuple"])) (.or (.cmp .NotEq (.bi .len (.cons (.var 0) .nil)) (.int 2)) (.not (.call 0 (.cons (.idx (.var 0) (.int 1)) (.cons (.int 1) (.cons (.bin .Pow (.int 10) (.int 12)) .nil))))))) (.seq (.ret (.bl false)) .nop) .nop)
def ir_is_pair : S := (.seq ir_is_pair_0 (.seq ir_is_pair_1 .nop))
def ck_is_pair : Ck := { N := ["value"], fs := ["is_number"], gs := [] }
abbrev st_is_pair : Stmt := PySem.Challenge.pw_wholeanswers_k38_whole_remainders_togeth.main.body.getD 8 (.Pass ⟨0, 0, 0, 0⟩)
theorem ok_is_pair : chkB chkAll ck_is_pair ir_is_pair (defScope st_is_pair) (defBody st_is_pair) = true := by decide +kernel
theorem sc_is_pair : FnScope ck_is_pair.N ["value"] (defScope st_is_pair) := ⟨rfl, rfl, rfl, by decide +kernel, rfl, by decide +kernel, by decide +kernel⟩
def ir_are_pairs_0 : S := (.ret (.call 0 (.cons (.var 0) (.cons (.glb 0) (.cons (.glb 1) .nil)))))
def ir_are_pairs : S := (.seq ir_are_pairs_0 .nop)
def ck_are_pairs : Ck := { N := ["value"], fs := ["is_tuple_of"], gs := ["MAX_PAIRS", "is_pair"] }
abbrev st_are_pairs : Stmt := PySem.Challenge.pw_wholeanswers_k38_whole_remainders_togeth.main.body.getD 9 (.Pass ⟨0, 0, 0, 0⟩)
theorem ok_are_pairs : chkB chkAll ck_are_pairs ir_are_pairs (defScope st_are_pairs) (defBody st_are_pairs) = true := by decide +kernel
theorem sc_are_pairs : FnScope ck_are_pairs.N ["value"] (defScope st_are_pairs) := ⟨rfl, rfl, rfl, by decide +kernel, rfl, by decide +kernel, by decide +kernel⟩
def ck_first_apart : Ck := { N := ["pairs", "i", "one", "j"], fs := ["divisor_of"], gs := [] }
abbrev st_first_apart : Stmt := PySem.Challenge.pw_wholeanswers_k38_whole_remainders_togeth.main.body.getD 10 (.Pass ⟨0, 0, 0, 0⟩)
theorem ok_first_apart : chkB chkAll ck_first_apart ir_first_apart (defScope st_first_apart) (defBody st_first_apart) = true := by decide +kernel
theorem sc_first_apart : FnScope ck_first_apart.N ["pairs"] (defScope st_first_apart) := ⟨rfl, rfl, rfl, by decide +kernel, rfl, by decide +kernel, by decide +kernel⟩
def ck_both : Ck := { N := ["one", "other", "shared", "factor", "_", "step", "number"], fs := ["steps_to_divisor"], gs := [] }
abbrev st_both : Stmt := PySem.Challenge.pw_wholeanswers_k38_whole_remainders_togeth.main.body.getD 11 (.Pass ⟨0, 0, 0, 0⟩)
theorem ok_both : chkB chkAll ck_both ir_both (defScope st_both) (defBody st_both) = true := by decide +kernel
theorem sc_both : FnScope ck_both.N ["one", "other"] (defScope st_both) := ⟨rfl, rfl, rfl, by decide +kernel, rfl, by decide +kernel, by decide +kernel⟩
def ck_together : Ck := { N := ["pairs", "apart", "found", "pair"], fs := ["first_apart", "both"], gs := [] }
abbrev st_together : Stmt := PySem.Challenge.pw_wholeanswers_k38_whole_remainders_togeth.main.body.getD 12 (.Pass ⟨0, 0, 0, 0⟩)
theorem ok_together : chkB chkAll ck_together ir_together (defScope st_together) (defBody st_together) = true := by decide +kernel
theorem sc_together : FnScope ck_together.N ["pairs"] (defScope st_together) := ⟨rfl, rfl, rfl, by decide +kernel, rfl, by decide +kernel, by decide +kernel⟩
def ck_leaves : Ck := { N := ["number", "pairs", "rest", "by"], fs := [], gs := [] }
abbrev st_leaves : Stmt := PySem.Challenge.pw_wholeanswers_k38_whole_remainders_togeth.main.body.getD 13 (.Pass ⟨0, 0, 0, 0⟩)
theorem ok_leaves : chkB chkAll ck_leaves ir_leaves (defScope st_leaves) (defBody st_leaves) = true := by decide +kernel
theorem sc_leaves : FnScope ck_leaves.N ["number", "pairs"] (defScope st_leaves) := ⟨rfl, rfl, rfl, by decide +kernel, rfl, by decide +kernel, by decide +kernel⟩
def ck_law_box : Ck := { N := ["script"], fs := [], gs := [] }
abbrev st_law_box : Stmt := PySem.Challenge.pw_wholeanswers_k38_whole_remainders_togeth.main.body.getD 15 (.Pass ⟨0, 0, 0, 0⟩)
theorem ok_law_box : chkB chkAll ck_law_box ir_law_box (defScope st_law_box) (defBody st_law_box) = true := by decide +kernel
theorem sc_law_box : FnScope ck_law_box.N ["script"] (defScope st_law_box) := ⟨rfl, rfl, rfl, by decide +kernel, rfl, by decide +kernel, by decide +kernel⟩
def ck_law_load : Ck := { N := ["box", "cells", "cell", "size", "first", "second"], fs := [], gs := [] }
abbrev st_law_load : Stmt := PySem.Challenge.pw_wholeanswers_k38_whole_remainders_togeth.main.body.getD 16 (.Pass ⟨0, 0, 0, 0⟩)
theorem ok_law_load : chkB chkAll ck_law_load ir_law_load (defScope st_law_load) (defBody st_law_load) = true := by decide +kernel
theorem sc_law_load : FnScope ck_law_load.N ["box"] (defScope st_law_load) := ⟨rfl, rfl, rfl, by decide +kernel, rfl, by decide +kernel, by decide +kernel⟩
def ck_law_draw : Ck := { N := ["box", "many", "digit"], fs := ["_law_load"], gs := [] }
abbrev st_law_draw : Stmt := PySem.Challenge.pw_wholeanswers_k38_whole_remainders_togeth.main.body.getD 17 (.Pass ⟨0, 0, 0, 0⟩)
theorem ok_law_draw : chkB chkAll ck_law_draw ir_law_draw (defScope st_law_draw) (defBody st_law_draw) = true := by decide +kernel
theorem sc_law_draw : FnScope ck_law_draw.N ["box", "many"] (defScope st_law_draw) := ⟨rfl, rfl, rfl, by decide +kernel, rfl, by decide +kernel, by decide +kernel⟩
def ck_law_same : Ck := { N := ["a", "b", "k"], fs := ["_law_same"], gs := [] }
abbrev st_law_same : Stmt := PySem.Challenge.pw_wholeanswers_k38_whole_remainders_togeth.main.body.getD 18 (.Pass ⟨0, 0, 0, 0⟩)
theorem ok_law_same : chkB chkAll ck_law_same ir_law_same (defScope st_law_same) (defBody st_law_same) = true := by decide +kernel
theorem sc_law_same : FnScope ck_law_same.N ["a", "b"] (defScope st_law_same) := ⟨rfl, rfl, rfl, by decide +kernel, rfl, by decide +kernel, by decide +kernel⟩
def ck_law_bent : Ck := { N := ["box", "value", "at", "pick"], fs := ["_law_draw", "_law_bent"], gs := [] }
abbrev st_law_bent : Stmt := PySem.Challenge.pw_wholeanswers_k38_whole_remainders_togeth.main.body.getD 19 (.Pass ⟨0, 0, 0, 0⟩)
theorem ok_law_bent : chkB chkAll ck_law_bent ir_law_bent (defScope st_law_bent) (defBody st_law_bent) = true := by decide +kernel
theorem sc_law_bent : FnScope ck_law_bent.N ["box", "value"] (defScope st_law_bent) := ⟨rfl, rfl, rfl, by decide +kernel, rfl, by decide +kernel, by decide +kernel⟩
def ck_law_shared : Ck := { N := ["a", "b"], fs := [], gs := [] }
abbrev st_law_shared : Stmt := PySem.Challenge.pw_wholeanswers_k38_whole_remainders_togeth.main.body.getD 20 (.Pass ⟨0, 0, 0, 0⟩)
theorem ok_law_shared : chkB chkAll ck_law_shared ir_law_shared (defScope st_law_shared) (defBody st_law_shared) = true := by decide +kernel
theorem sc_law_shared : FnScope ck_law_shared.N ["a", "b"] (defScope st_law_shared) := ⟨rfl, rfl, rfl, by decide +kernel, rfl, by decide +kernel, by decide +kernel⟩
def ck_law_left : Ck := { N := ["a", "n"], fs := [], gs := [] }
abbrev st_law_left : Stmt := PySem.Challenge.pw_wholeanswers_k38_whole_remainders_togeth.main.body.getD 21 (.Pass ⟨0, 0, 0, 0⟩)
theorem ok_law_left : chkB chkAll ck_law_left ir_law_left (defScope st_law_left) (defBody st_law_left) = true := by decide +kernel
theorem sc_law_left : FnScope ck_law_left.N ["a", "n"] (defScope st_law_left) := ⟨rfl, rfl, rfl, by decide +kernel, rfl, by decide +kernel, by decide +kernel⟩
def ir_law_are_pairs_b0 : S := (.seq (.ite (.or (.not (.bi .all (.cons (.comp [4] (.nm 4) (.tup (.cons (.var 2) (.cons (.var 3) .nil))) .nil (.and (.isa (.var 4) ["int"]) (.not (.isa (.var 4) ["bool"])))) .nil))) (.or (.not (.chain .LtE .LtE (.int 1) (.var 3) (.int 1000000000000))) (.not (.chain .LtE .Lt (.int 0) (.var 2) (.var 3))))) (.seq (.ret (.bl false)) .nop) .nop) .nop)
def ir_law_are_pairs_2 : S := (.ret (.bl true))
def ir_law_are_pairs_1 : S := (.for (.tp [2, 3]) (.var 0) ir_law_are_pairs_b0)
def ir_law_are_pairs_0 : S := (.ite (.or (.not (.isa (.var 0) ["tuple"])) (.or (.cmp .Gt (.bi .len (.cons (.var 0) .nil)) (.int 16)) (.not (.bi .all (.cons (.comp [1] (.nm 1) (.var 0) .nil (.and (.isa (.var 1) ["tuple"]) (.cmp .Eq (.bi .len (.cons (.var 1) .nil)) (.int 2)))) .nil))))) (.seq (.ret (.bl false)) .nop) .nop)
def ir_law_are_pairs : S := (.seq ir_law_are_pairs_0 (.seq ir_law_are_pairs_1 (.seq ir_law_are_pairs_2 .nop)))
def ck_law_are_pairs : Ck := { N := ["value", "pair", "r", "n", "number"], fs := [], gs := [] }
abbrev st_law_are_pairs : Stmt := PySem.Challenge.pw_wholeanswers_k38_whole_remainders_togeth.main.body.getD 22 (.Pass ⟨0, 0, 0, 0⟩)
theorem ok_law_are_pairs : chkB chkAll ck_law_are_pairs ir_law_are_pairs (defScope st_law_are_pairs) (defBody st_law_are_pairs) = true := by decide +kernel
theorem sc_law_are_pairs : FnScope ck_law_are_pairs.N ["value"] (defScope st_law_are_pairs) := ⟨rfl, rfl, rfl, by decide +kernel, rfl, by decide +kernel, by decide +kernel⟩
def ck_law_multiple : Ck := { N := ["pairs", "found", "r", "n"], fs := ["_law_shared"], gs := [] }
abbrev st_law_multiple : Stmt := PySem.Challenge.pw_wholeanswers_k38_whole_remainders_togeth.main.body.getD 23 (.Pass ⟨0, 0, 0, 0⟩)
theorem ok_law_multiple : chkB chkAll ck_law_multiple ir_law_multiple (defScope st_law_multiple) (defBody st_law_multiple) = true := by decide +kernel
theorem sc_law_multiple : FnScope ck_law_multiple.N ["pairs"] (defScope st_law_multiple) := ⟨rfl, rfl, rfl, by decide +kernel, rfl, by decide +kernel, by decide +kernel⟩
def ck_law_apart : Ck := { N := ["pairs", "i", "j"], fs := ["_law_left", "_law_shared"], gs := [] }
abbrev st_law_apart : Stmt := PySem.Challenge.pw_wholeanswers_k38_whole_remainders_togeth.main.body.getD 24 (.Pass ⟨0, 0, 0, 0⟩)
theorem ok_law_apart : chkB chkAll ck_law_apart ir_law_apart (defScope st_law_apart) (defBody st_law_apart) = true := by decide +kernel
theorem sc_law_apart : FnScope ck_law_apart.N ["pairs"] (defScope st_law_apart) := ⟨rfl, rfl, rfl, by decide +kernel, rfl, by decide +kernel, by decide +kernel⟩
def ck_law_leaves : Ck := { N := ["number", "pairs", "r", "n"], fs := ["_law_left"], gs := [] }
abbrev st_law_leaves : Stmt := PySem.Challenge.pw_wholeanswers_k38_whole_remainders_togeth.main.body.getD 25 (.Pass ⟨0, 0, 0, 0⟩)
theorem ok_law_leaves : chkB chkAll ck_law_leaves ir_law_leaves (defScope st_law_leaves) (defBody st_law_leaves) = true := by decide +kernel
theorem sc_law_leaves : FnScope ck_law_leaves.N ["number", "pairs"] (defScope st_law_leaves) := ⟨rfl, rfl, rfl, by decide +kernel, rfl, by decide +kernel, by decide +kernel⟩
def ir_law_small_fine_5 : S := (.ret (.call 3 (.cons (.call 4 (.cons (.var 0) .nil)) (.cons (.ite (.cmp .Is (.var 4) .non) (.tup (.cons (.str "all") (.cons (.tup (.cons (.idx (.var 3) (.int 0)) (.cons (.var 1) .nil))) .nil))) (.var 4)) .nil))))
def ir_law_small_fine_4 : S := (.ite (.or (.cmp .NotEq (.cmp .Is (.var 4) .non) (.cmp .Eq (.bi .len (.cons (.var 3) .nil)) (.int 1))) (.cmp .Gt (.bi .len (.cons (.var 3) .nil)) (.int 1))) (.seq (.ret (.bl false)) .nop) .nop)
def ir_law_small_fine_3 : S := (.asg (.tg (.nm 4)) (.call 2 (.cons (.var 0) .nil)))
def ir_law_small_fine_2 : S := (.asg (.tg (.nm 3)) (.comp [2] (.nm 2) (.rng1 (.var 1)) (.call 1 (.cons (.var 2) (.cons (.var 0) .nil))) (.var 2)))
def ir_law_small_fine_1 : S := (.ite (.cmp .Gt (.var 1) (.int 6000)) (.seq (.ret (.bl true)) .nop) .nop)
def ir_law_small_fine_0 : S := (.asg (.tg (.nm 1)) (.call 0 (.cons (.var 0) .nil)))
def ir_law_small_fine : S := (.seq ir_law_small_fine_0 (.seq ir_law_small_fine_1 (.seq ir_law_small_fine_2 (.seq ir_law_small_fine_3 (.seq ir_law_small_fine_4 (.seq ir_law_small_fine_5 .nop))))))
def ck_law_small_fine : Ck := { N := ["pairs", "number", "x", "found", "apart"], fs := ["_law_multiple", "_law_leaves", "_law_apart", "_law_same", "together"], gs := [] }
abbrev st_law_small_fine : Stmt := PySem.Challenge.pw_wholeanswers_k38_whole_remainders_togeth.main.body.getD 26 (.Pass ⟨0, 0, 0, 0⟩)
theorem ok_law_small_fine : chkB chkAll ck_law_small_fine ir_law_small_fine (defScope st_law_small_fine) (defBody st_law_small_fine) = true := by decide +kernel
theorem sc_law_small_fine : FnScope ck_law_small_fine.N ["pairs"] (defScope st_law_small_fine) := ⟨rfl, rfl, rfl, by decide +kernel, rfl, by decide +kernel, by decide +kernel⟩
def ir_law_b0 : S := (.seq (.ite (.not (.call 5 (.cons (.call 6 (.cons (.var 9) .nil)) (.cons (.call 7 (.cons (.var 9) .nil)) .nil)))) (.seq (.ret (.bl false)) .nop) .nop) .nop)
def ir_law_b1 : S := (.seq (.asg (.tg (.tp [4, 5])) (.tup (.cons (.call 1 (.cons (.var 1) (.cons (.int 100000) .nil))) (.cons (.comp [3] (.nm 3) (.rng1 (.call 1 (.cons (.var 1) (.cons (.int 5) .nil)))) .nil (.bin .Add (.int 1) (.call 1 (.cons (.var 1) (.cons (.idx (.lst (.cons (.int 12) (.cons (.int 30) (.cons (.int 9) .nil)))) (.var 2)) .nil))))) .nil)))) (.seq (.asg (.tg (.nm 7)) (.bi .tuple (.cons (.comp [6] (.nm 6) (.var 5) .nil (.tup (.cons (.call 2 (.cons (.var 4) (.cons (.var 6) .nil))) (.cons (.var 6) .nil)))) .nil))) (.seq (.asg (.tg (.nm 8)) (.bi .tuple (.cons (.comp [6] (.nm 6) (.var 5) .nil (.tup (.cons (.call 1 (.cons (.var 1) (.cons (.var 6) .nil))) (.cons (.var 6) .nil)))) .nil))) (.seq (.ite (.or (.not (.call 3 (.cons (.var 7) .nil))) (.not (.call 3 (.cons (.var 8) .nil)))) (.seq (.ret (.bl false)) .nop) .nop) (.seq (.for (.nm 9) (.binL .Add (.binL .Add (.lst (.cons (.var 7) (.cons (.var 8) .nil))) (.comp [3] (.nm 3) (.rng1 (.int 6)) .nil (.call 4 (.cons (.var 1) (.cons (.var 8) .nil))))) (.lst (.cons (.ite (.cmp .NotEq (.var 8) (.tup .nil)) (.tup (.cons (.rev (.idx (.var 8) (.int 0))) .nil)) (.tup .nil)) (.cons (.tup (.cons (.tup (.cons (.int 0) (.cons (.int 1000000000000) .nil))) .nil)) (.cons (.tup (.cons (.tup (.cons (.int 0) (.cons (.int 1000000000001) .nil))) .nil)) (.cons (.tup (.cons (.tup (.cons (.int 0) (.cons (.int 0) .nil))) .nil)) .nil)))))) ir_law_b0) (.seq (.asg (.tg (.nm 10)) (.bin .Add (.bin .Sub (.call 1 (.cons (.var 1) (.cons (.int 100) .nil))) (.int 50)) (.bin .Mult (.var 4) (.call 1 (.cons (.var 1) (.cons (.int 2) .nil)))))) (.seq (.ite (.or (.not (.call 5 (.cons (.call 8 (.cons (.var 10) (.cons (.var 7) .nil))) (.cons (.call 9 (.cons (.var 10) (.cons (.var 7) .nil))) .nil)))) (.cmp .IsNot (.call 8 (.cons (.var 4) (.cons (.var 7) .nil))) (.bl true))) (.seq (.ret (.bl false)) .nop) .nop) .nop)))))))
def ir_law_12 : S := (.ret (.and (.cmp .Is (.call 6 (.cons (.bin .Mult (.tup (.cons (.tup (.cons (.int 0) (.cons (.int 1) .nil))) .nil)) (.int 16)) .nil)) (.bl true)) (.and (.cmp .Is (.call 6 (.cons (.bin .Mult (.tup (.cons (.tup (.cons (.int 0) (.cons (.int 1) .nil))) .nil)) (.int 17)) .nil)) (.bl false)) (.and (.call 5 (.cons (.call 11 (.cons (.tup .nil) .nil)) (.cons (.tup (.cons (.str "all") (.cons (.tup (.cons (.int 0) (.cons (.int 1) .nil))) .nil))) .nil))) (.call 5 (.cons (.call 11 (.cons (.tup (.cons (.tup (.cons (.int 1) (.cons (.int 4) .nil))) (.cons (.tup (.cons (.int 0) (.cons (.int 3) .nil))) (.cons (.tup (.cons (.int 2) (.cons (.int 6) .nil))) .nil)))) .nil)) (.cons (.tup (.cons (.str "apart") (.cons (.int 0) (.cons (.int 2) .nil)))) .nil)))))))
def ir_law_11 : S := (.ite (.or (.and (.cmp .IsNot (.var 13) .non) (.not (.call 5 (.cons (.var 14) (.cons (.var 13) .nil))))) (.and (.cmp .Is (.var 13) .non) (.or (.cmp .NotEq (.idx (.var 14) (.int 0)) (.str "all")) (.or (.not (.call 9 (.cons (.idx (.idx (.var 14) (.int 1)) (.int 0)) (.cons (.var 12) .nil)))) (.cmp .NotEq (.idx (.idx (.var 14) (.int 1)) (.int 1)) (.var 10)))))) (.seq (.ret (.bl false)) .nop) .nop)
def ir_law_10 : S := (.asg (.tg (.nm 14)) (.call 11 (.cons (.var 12) .nil)))
def ir_law_9 : S := (.asg (.tg (.nm 13)) (.call 12 (.cons (.var 12) .nil)))
def ir_law_8 : S := (.asg (.tg (.nm 12)) (.bin .Add (.bin .Add (.slc (.var 11) .nil (.var 3)) (.tup (.cons (.tup (.cons (.call 2 (.cons (.bin .Add (.idx (.idx (.var 11) (.var 3)) (.int 0)) (.int 1)) (.cons (.idx (.idx (.var 11) (.var 3)) (.int 1)) .nil))) (.cons (.idx (.idx (.var 11) (.var 3)) (.int 1)) .nil))) .nil))) (.slc (.var 11) (.bin .Add (.var 3) (.int 1)) .nil)))
def ir_law_7 : S := (.asg (.tg (.nm 3)) (.call 1 (.cons (.var 1) (.cons (.bi .len (.cons (.var 11) .nil)) .nil))))
def ir_law_6 : S := (.ite (.or (.not (.call 5 (.cons (.call 11 (.cons (.var 11) .nil)) (.cons (.tup (.cons (.str "all") (.cons (.tup (.cons (.call 2 (.cons (.var 4) (.cons (.var 10) .nil))) (.cons (.var 10) .nil))) .nil))) .nil)))) (.cmp .IsNot (.call 6 (.cons (.var 11) .nil)) (.bl true))) (.seq (.ret (.bl false)) .nop) .nop)
def ir_law_5 : S := (.asg (.tg (.nm 10)) (.call 10 (.cons (.var 11) .nil)))
def ir_law_4 : S := (.asg (.tg (.nm 11)) (.bi .tuple (.cons (.comp [6] (.nm 6) (.comp [3] (.nm 3) (.rng1 (.bin .Add (.int 1) (.call 1 (.cons (.var 1) (.cons (.int 16) .nil))))) .nil (.bin .Add (.int 1) (.call 1 (.cons (.var 1) (.cons (.bin .Pow (.int 10) (.int 12)) .nil))))) .nil (.tup (.cons (.call 2 (.cons (.var 4) (.cons (.var 6) .nil))) (.cons (.var 6) .nil)))) .nil)))
def ir_law_3 : S := (.asg (.tg (.nm 4)) (.bin .Sub (.call 1 (.cons (.var 1) (.cons (.bin .Pow (.int 10) (.int 40)) .nil))) (.bin .Pow (.int 10) (.int 39))))
def ir_law_2 : S := (.for (.nm 2) (.rng1 (.int 3)) ir_law_b1)
def ir_law_1 : S := (.ite (.cmp .NotEq (.glb 0) (.int 16)) (.seq (.ret (.bl false)) .nop) .nop)
def ir_law_0 : S := (.asg (.tg (.nm 1)) (.call 0 (.cons (.var 0) .nil)))
def ir_law : S := (.seq ir_law_0 (.seq ir_law_1 (.seq ir_law_2 (.seq ir_law_3 (.seq ir_law_4 (.seq ir_law_5 (.seq ir_law_6 (.seq ir_law_7 (.seq ir_law_8 (.seq ir_law_9 (.seq ir_law_10 (.seq ir_law_11 (.seq ir_law_12 .nop)))))))))))))
def ck_law : Ck := { N := ["script", "box", "turn", "k", "hidden", "numbers", "n", "pairs", "other", "value", "number", "great", "bent", "apart", "told"], fs := ["_law_box", "_law_draw", "_law_left", "_law_small_fine", "_law_bent", "_law_same", "are_pairs", "_law_are_pairs", "leaves", "_law_leaves", "_law_multiple", "together", "_law_apart"], gs := ["MAX_PAIRS"] }
abbrev st_law : Stmt := PySem.Challenge.pw_wholeanswers_k38_whole_remainders_togeth.main.body.getD 27 (.Pass ⟨0, 0, 0, 0⟩)
theorem ok_law : chkB chkAll ck_law ir_law (defScope st_law) (defBody st_law) = true := by decide +kernel
theorem sc_law : FnScope ck_law.N ["script"] (defScope st_law) := ⟨rfl, rfl, rfl, by decide +kernel, rfl, by decide +kernel, by decide +kernel⟩
end K38
namespace K38
open PySem PySem.Spec PyProof.Rows L2 Cl
noncomputable def p_is_pair : List D → PR := fun ds => pureOf (runF (semS { tab := [(liftP p_is_number)] } [] ir_is_pair) 1 1 ds [])
noncomputable def p_is_tuple_of (A : Nat → Addr) : List D → PR := fun ds => pureOf (runF (semS { tab := [(liftP p_is_pair)] } [.ob (A 6)] ir_is_tuple_of) 3 4 ds [])
noncomputable def p_are_pairs (A : Nat → Addr) : List D → PR := fun ds => pureOf (runF (semS { tab := [(liftP (p_is_tuple_of A))] } [.int 16, .ob (A 6)] ir_are_pairs) 1 1 ds [])
noncomputable def p_law_are_pairs : List D → PR := fun ds => pureOf (runF (semS { tab := [] } [] ir_law_are_pairs) 1 5 ds [])
noncomputable def p_law_small_fine : List D → PR := fun ds => pureOf (runF (semS { tab := [(liftP p_law_multiple), (liftP p_law_leaves), (liftP p_law_apart), (liftP (p_law_same 6)), (liftP p_together)] } [] ir_law_small_fine) 1 5 ds [])
noncomputable def g_law (A : Nat → Addr) : List D → M D := runF (semS { tab := [g_law_box, g_law_draw, (liftP p_law_left), (liftP p_law_small_fine), (g_law_bent 6), (liftP (p_law_same 6)), (liftP (p_are_pairs A)), (liftP p_law_are_pairs), (liftP p_leaves), (liftP p_law_leaves), (liftP p_law_multiple), (liftP p_together), (liftP p_law_apart)] } [.int 16] ir_law) 1 15
end K38
namespace K38
open PySem PySem.Spec PyProof.Rows L2 Cl
/-- a pair of a remainder and a number -/
def isPair : D → Bool
  | .tup [.int r, .int n] => decide (1 ≤ n ∧ n ≤ 1000000000000 ∧ 0 ≤ r ∧ r < n)
  | _ => false
def arePairs : D → Bool
  | .tup xs => decide (xs.length ≤ 16) && xs.all isPair
  | _ => false
theorem plD_two {n : Nat} {v : D} (h : plD n v = true) (hv : ∃ xs, v = .tup xs ∧ xs.length = 2) : ∃ m a b, v = .tup [a, b] ∧ plD m a = true ∧ plD m b = true := by
  obtain ⟨xs, rfl, hl⟩ := hv
  rcases plD_cases h with q | ⟨k, q⟩ | ⟨i, q⟩ | ⟨x, q⟩ | ⟨m, ys, _, q, _, hy⟩
  · cases q
  · cases q
  · cases q
  · cases q
  · cases q
    obtain ⟨a, b, rfl⟩ : ∃ a b, xs = [a, b] := by
      rcases xs with _ | ⟨a, _ | ⟨b, _ | ⟨c, xs⟩⟩⟩ <;> first | exact ⟨_, _, rfl⟩ | (simp at hl)
    exact ⟨m, a, b, rfl, hy a (by simp), hy b (by simp)⟩
theorem ev_is_pair {n : Nat} {v : D} (h : plD n v = true) : p_is_pair [v] = .ok (.bl (isPair v)) := by
  refine p_go rfl ?_
  unfold ir_is_pair
  rcases plD_cases h with rfl | ⟨k, rfl⟩ | ⟨i, rfl⟩ | ⟨x, rfl⟩ | ⟨m, xs, rfl, rfl, hl, hx⟩
  · simp [gwS, ↓gwE, gwV, gwD, prM, preM, dctAt, keyD, revLM, semO, semI, setTg, seqM, lsM, binM, binL, augM, biM, bnM, cmpM, cmpI, ltM, leM, inM, eqF, flatD, isM, Cl.isNon, truM, intM, idxM, slcM, lenM, lstAt, Cl.putAt, isaM, tyM, tyName, lsrcM, zsrcM, srcM, pairM, wipeE, liftP, noRefL, noRef, intsD, blsD, ir_is_pair_0, isPair]
  · simp [gwS, ↓gwE, gwV, gwD, prM, preM, dctAt, keyD, revLM, semO, semI, setTg, seqM, lsM, binM, binL, augM, biM, bnM, cmpM, cmpI, ltM, leM, inM, eqF, flatD, isM, Cl.isNon, truM, intM, idxM, slcM, lenM, lstAt, Cl.putAt, isaM, tyM, tyName, lsrcM, zsrcM, srcM, pairM, wipeE, liftP, noRefL, noRef, intsD, blsD, ir_is_pair_0, isPair]
  · simp [gwS, ↓gwE, gwV, gwD, prM, preM, dctAt, keyD, revLM, semO, semI, setTg, seqM, lsM, binM, binL, augM, biM, bnM, cmpM, cmpI, ltM, leM, inM, eqF, flatD, isM, Cl.isNon, truM, intM, idxM, slcM, lenM, lstAt, Cl.putAt, isaM, tyM, tyName, lsrcM, zsrcM, srcM, pairM, wipeE, liftP, noRefL, noRef, intsD, blsD, ir_is_pair_0, isPair]
  · simp [gwS, ↓gwE, gwV, gwD, prM, preM, dctAt, keyD, revLM, semO, semI, setTg, seqM, lsM, binM, binL, augM, biM, bnM, cmpM, cmpI, ltM, leM, inM, eqF, flatD, isM, Cl.isNon, truM, intM, idxM, slcM, lenM, lstAt, Cl.putAt, isaM, tyM, tyName, lsrcM, zsrcM, srcM, pairM, wipeE, liftP, noRefL, noRef, intsD, blsD, ir_is_pair_0, isPair]
  · rcases xs with _ | ⟨a, _ | ⟨b, _ | ⟨c, xs⟩⟩⟩
    · simp [gwS, ↓gwE, gwV, gwD, prM, preM, dctAt, keyD, revLM, semO, semI, setTg, seqM, lsM, binM, binL, augM, biM, bnM, cmpM, cmpI, ltM, leM, inM, eqF, flatD, isM, Cl.isNon, truM, intM, idxM, slcM, lenM, lstAt, Cl.putAt, isaM, tyM, tyName, lsrcM, zsrcM, srcM, pairM, wipeE, liftP, noRefL, noRef, intsD, blsD, ir_is_pair_0, isPair]
    · simp [gwS, ↓gwE, gwV, gwD, prM, preM, dctAt, keyD, revLM, semO, semI, setTg, seqM, lsM, binM, binL, augM, biM, bnM, cmpM, cmpI, ltM, leM, inM, eqF, flatD, isM, Cl.isNon, truM, intM, idxM, slcM, lenM, lstAt, Cl.putAt, isaM, tyM, tyName, lsrcM, zsrcM, srcM, pairM, wipeE, liftP, noRefL, noRef, intsD, blsD, ir_is_pair_0, isPair]
    · have ha := hx a (by simp)
      have hb := hx b (by simp)
      have e1 := ev_is_number hb 1 1000000000000
      have na := plD_noRef ha
      have nb := plD_noRef hb
      simp [gwS, ↓gwE, gwV, gwD, prM, preM, dctAt, keyD, revLM, semO, semI, setTg, seqM, lsM, binM, binL, augM, biM, bnM, cmpM, cmpI, ltM, leM, inM, eqF, flatD, isM, Cl.isNon, truM, intM, idxM, slcM, lenM, lstAt, Cl.putAt, isaM, tyM, tyName, lsrcM, zsrcM, srcM, pairM, wipeE, liftP, noRefL, noRef, intsD, blsD, ir_is_pair_0, e1, na, nb]
      cases q : numB 1 1000000000000 b with
      | false =>
        simp [gwS, ↓gwE, gwV, gwD, prM, preM, dctAt, keyD, revLM, semO, semI, setTg, seqM, lsM, binM, binL, augM, biM, bnM, cmpM, cmpI, ltM, leM, inM, eqF, flatD, isM, Cl.isNon, truM, intM, idxM, slcM, lenM, lstAt, Cl.putAt, isaM, tyM, tyName, lsrcM, zsrcM, srcM, pairM, wipeE, liftP, noRefL, noRef, intsD, blsD]
        cases b <;> first | (cases a <;> rfl) | skip
        next j =>
        simp [numB] at q
        cases a <;> first | rfl | skip
        simp [isPair]
        intro h1 h2; omega
      | true =>
        obtain ⟨j, rfl⟩ : ∃ j, b = .int j := by cases b <;> simp [numB] at q; exact ⟨_, rfl⟩
        have e2 := ev_is_number ha 0 (j - 1)
        simp [gwS, ↓gwE, gwV, gwD, prM, preM, dctAt, keyD, revLM, semO, semI, setTg, seqM, lsM, binM, binL, augM, biM, bnM, cmpM, cmpI, ltM, leM, inM, eqF, flatD, isM, Cl.isNon, truM, intM, idxM, slcM, lenM, lstAt, Cl.putAt, isaM, tyM, tyName, lsrcM, zsrcM, srcM, pairM, wipeE, liftP, noRefL, noRef, intsD, blsD, ir_is_pair_1, e2, na]
        simp [numB] at q
        cases a <;> first | rfl | skip
        next r =>
        simp [numB, isPair]
        rw [Bool.eq_iff_iff]
        simp
        omega
    · have z : ¬ ((xs.length : Int) + 1 + 1 + 1 = 2) := by omega
      simp [gwS, ↓gwE, gwV, gwD, prM, preM, dctAt, keyD, revLM, semO, semI, setTg, seqM, lsM, binM, binL, augM, biM, bnM, cmpM, cmpI, ltM, leM, inM, eqF, flatD, isM, Cl.isNon, truM, intM, idxM, slcM, lenM, lstAt, Cl.putAt, isaM, tyM, tyName, lsrcM, zsrcM, srcM, pairM, wipeE, liftP, noRefL, noRef, intsD, blsD, ir_is_pair_0, isPair, z]
theorem ev_is_tuple_of {A : Nat → Addr} {n : Nat} {v : D} (h : plD n v = true) : p_is_tuple_of A [v, .int 16, .ob (A 6)] = .ok (.bl (arePairs v)) := by
  refine p_go rfl ?_
  unfold ir_is_tuple_of
  rcases plD_cases h with rfl | ⟨k, rfl⟩ | ⟨i, rfl⟩ | ⟨x, rfl⟩ | ⟨m, xs, rfl, rfl, hl, hx⟩
  · simp [gwS, ↓gwE, gwV, gwD, prM, preM, dctAt, keyD, revLM, semO, semI, setTg, seqM, lsM, binM, binL, augM, biM, bnM, cmpM, cmpI, ltM, leM, inM, eqF, flatD, isM, Cl.isNon, truM, intM, idxM, slcM, lenM, lstAt, Cl.putAt, isaM, tyM, tyName, lsrcM, zsrcM, srcM, pairM, wipeE, liftP, noRefL, noRef, intsD, blsD, ir_is_tuple_of_0, arePairs]
  · simp [gwS, ↓gwE, gwV, gwD, prM, preM, dctAt, keyD, revLM, semO, semI, setTg, seqM, lsM, binM, binL, augM, biM, bnM, cmpM, cmpI, ltM, leM, inM, eqF, flatD, isM, Cl.isNon, truM, intM, idxM, slcM, lenM, lstAt, Cl.putAt, isaM, tyM, tyName, lsrcM, zsrcM, srcM, pairM, wipeE, liftP, noRefL, noRef, intsD, blsD, ir_is_tuple_of_0, arePairs]
  · simp [gwS, ↓gwE, gwV, gwD, prM, preM, dctAt, keyD, revLM, semO, semI, setTg, seqM, lsM, binM, binL, augM, biM, bnM, cmpM, cmpI, ltM, leM, inM, eqF, flatD, isM, Cl.isNon, truM, intM, idxM, slcM, lenM, lstAt, Cl.putAt, isaM, tyM, tyName, lsrcM, zsrcM, srcM, pairM, wipeE, liftP, noRefL, noRef, intsD, blsD, ir_is_tuple_of_0, arePairs]
  · simp [gwS, ↓gwE, gwV, gwD, prM, preM, dctAt, keyD, revLM, semO, semI, setTg, seqM, lsM, binM, binL, augM, biM, bnM, cmpM, cmpI, ltM, leM, inM, eqF, flatD, isM, Cl.isNon, truM, intM, idxM, slcM, lenM, lstAt, Cl.putAt, isaM, tyM, tyName, lsrcM, zsrcM, srcM, pairM, wipeE, liftP, noRefL, noRef, intsD, blsD, ir_is_tuple_of_0, arePairs]
  · simp [gwS, ↓gwE, gwV, gwD, prM, preM, dctAt, keyD, revLM, semO, semI, setTg, seqM, lsM, binM, binL, augM, biM, bnM, cmpM, cmpI, ltM, leM, inM, eqF, flatD, isM, Cl.isNon, truM, intM, idxM, slcM, lenM, lstAt, Cl.putAt, isaM, tyM, tyName, lsrcM, zsrcM, srcM, pairM, wipeE, liftP, noRefL, noRef, intsD, blsD, ir_is_tuple_of_0]
    split
    · next z =>
      refine go_map xs id (fun d => .bl (isPair d)) ?_ (by omega) (fun d hd => ?_) ?_
      · simp [gwS, ↓gwE, gwV, gwD, prM, preM, dctAt, keyD, revLM, semO, semI, setTg, seqM, lsM, binM, binL, augM, biM, bnM, cmpM, cmpI, ltM, leM, inM, eqF, flatD, isM, Cl.isNon, truM, intM, idxM, slcM, lenM, lstAt, Cl.putAt, isaM, tyM, tyName, lsrcM, zsrcM, srcM, pairM, wipeE, liftP, noRefL, noRef, intsD, blsD]
      · have e := ev_is_pair (hx d hd)
        simp [gwS, ↓gwE, gwV, gwD, prM, preM, dctAt, keyD, revLM, semO, semI, setTg, seqM, lsM, binM, binL, augM, biM, bnM, cmpM, cmpI, ltM, leM, inM, eqF, flatD, isM, Cl.isNon, truM, intM, idxM, slcM, lenM, lstAt, Cl.putAt, isaM, tyM, tyName, lsrcM, zsrcM, srcM, pairM, wipeE, liftP, noRefL, noRef, intsD, blsD, pickF, e, plD_noRef (hx d hd)]
      · have z' : xs.length ≤ 16 := by omega
        simp [gwS, ↓gwE, gwV, gwD, prM, preM, dctAt, keyD, revLM, semO, semI, setTg, seqM, lsM, binM, binL, augM, biM, bnM, cmpM, cmpI, ltM, leM, inM, eqF, flatD, isM, Cl.isNon, truM, intM, idxM, slcM, lenM, lstAt, Cl.putAt, isaM, tyM, tyName, lsrcM, zsrcM, srcM, pairM, wipeE, liftP, noRefL, noRef, intsD, blsD, arePairs, z']
    · next z =>
      have z' : ¬ xs.length ≤ 16 := by omega
      simp [arePairs, z']
      omega
theorem ev_are_pairs {A : Nat → Addr} {n : Nat} {v : D} (h : plD n v = true) : p_are_pairs A [v] = .ok (.bl (arePairs v)) := by
  have e := ev_is_tuple_of (A := A) h
  refine p_go rfl ?_
  simp [gwS, ↓gwE, gwV, gwD, prM, preM, dctAt, keyD, revLM, semO, semI, setTg, seqM, lsM, binM, binL, augM, biM, bnM, cmpM, cmpI, ltM, leM, inM, eqF, flatD, isM, Cl.isNon, truM, intM, idxM, slcM, lenM, lstAt, Cl.putAt, isaM, tyM, tyName, lsrcM, zsrcM, srcM, pairM, wipeE, liftP, noRefL, noRef, intsD, blsD, ir_are_pairs, ir_are_pairs_0, e, plD_noRef h]
/-- a tuple of two -/
def isTwo : D → Bool
  | .tup [_, _] => true
  | _ => false
theorem two_of {d : D} (h : isTwo d = true) : ∃ a b, d = .tup [a, b] := by
  cases d <;> simp [isTwo] at h
  next xs =>
  rcases xs with _ | ⟨a, _ | ⟨b, _ | ⟨c, xs⟩⟩⟩ <;> simp [isTwo] at h
  exact ⟨a, b, rfl⟩
theorem pair_two {d : D} (h : isPair d = true) : isTwo d = true := by
  unfold isPair at h
  split at h
  · rfl
  · cases h
def okP (xs : List D) (i : Nat) : Prop := (xs.take i).all isPair = true
theorem okP_next {xs : List D} {i : Nat} {d : D} (h : okP xs i) (hi : xs[i]? = some d) (hd : isPair d = true) : okP xs (i + 1) := by
  unfold okP at *
  rw [List.take_succ, hi, List.all_append, h]; simp [hd]
theorem ev_law_are_pairs {n : Nat} {v : D} (h : plD n v = true) : p_law_are_pairs [v] = .ok (.bl (arePairs v)) := by
  refine p_go rfl ?_
  unfold ir_law_are_pairs
  rcases plD_cases h with rfl | ⟨k, rfl⟩ | ⟨i, rfl⟩ | ⟨x, rfl⟩ | ⟨m, xs, rfl, rfl, hl, hx⟩
  · simp [gwS, ↓gwE, gwV, gwD, prM, preM, dctAt, keyD, revLM, semO, semI, setTg, seqM, lsM, binM, binL, augM, biM, bnM, cmpM, cmpI, ltM, leM, inM, eqF, flatD, isM, Cl.isNon, truM, intM, idxM, slcM, lenM, lstAt, Cl.putAt, isaM, tyM, tyName, lsrcM, zsrcM, srcM, pairM, wipeE, liftP, noRefL, noRef, intsD, blsD, ir_law_are_pairs_0, arePairs]
  · simp [gwS, ↓gwE, gwV, gwD, prM, preM, dctAt, keyD, revLM, semO, semI, setTg, seqM, lsM, binM, binL, augM, biM, bnM, cmpM, cmpI, ltM, leM, inM, eqF, flatD, isM, Cl.isNon, truM, intM, idxM, slcM, lenM, lstAt, Cl.putAt, isaM, tyM, tyName, lsrcM, zsrcM, srcM, pairM, wipeE, liftP, noRefL, noRef, intsD, blsD, ir_law_are_pairs_0, arePairs]
  · simp [gwS, ↓gwE, gwV, gwD, prM, preM, dctAt, keyD, revLM, semO, semI, setTg, seqM, lsM, binM, binL, augM, biM, bnM, cmpM, cmpI, ltM, leM, inM, eqF, flatD, isM, Cl.isNon, truM, intM, idxM, slcM, lenM, lstAt, Cl.putAt, isaM, tyM, tyName, lsrcM, zsrcM, srcM, pairM, wipeE, liftP, noRefL, noRef, intsD, blsD, ir_law_are_pairs_0, arePairs]
  · simp [gwS, ↓gwE, gwV, gwD, prM, preM, dctAt, keyD, revLM, semO, semI, setTg, seqM, lsM, binM, binL, augM, biM, bnM, cmpM, cmpI, ltM, leM, inM, eqF, flatD, isM, Cl.isNon, truM, intM, idxM, slcM, lenM, lstAt, Cl.putAt, isaM, tyM, tyName, lsrcM, zsrcM, srcM, pairM, wipeE, liftP, noRefL, noRef, intsD, blsD, ir_law_are_pairs_0, arePairs]
  · simp [gwS, ↓gwE, gwV, gwD, prM, preM, dctAt, keyD, revLM, semO, semI, setTg, seqM, lsM, binM, binL, augM, biM, bnM, cmpM, cmpI, ltM, leM, inM, eqF, flatD, isM, Cl.isNon, truM, intM, idxM, slcM, lenM, lstAt, Cl.putAt, isaM, tyM, tyName, lsrcM, zsrcM, srcM, pairM, wipeE, liftP, noRefL, noRef, intsD, blsD, ir_law_are_pairs_0]
    by_cases z : xs.length ≤ 16
    · have z1 : ¬ 16 < xs.length := by omega
      have z2 : ¬ 16 < (xs.length : Int) := by omega
      simp [z1, z2]
      refine go_map xs id (fun d => .bl (isTwo d)) ?_ (by omega) (fun d hd => ?_) ?_
      · simp [gwS, ↓gwE, gwV, gwD, prM, preM, dctAt, keyD, revLM, semO, semI, setTg, seqM, lsM, binM, binL, augM, biM, bnM, cmpM, cmpI, ltM, leM, inM, eqF, flatD, isM, Cl.isNon, truM, intM, idxM, slcM, lenM, lstAt, Cl.putAt, isaM, tyM, tyName, lsrcM, zsrcM, srcM, pairM, wipeE, liftP, noRefL, noRef, intsD, blsD]
      · have hd' := hx d hd
        rcases plD_cases hd' with rfl | ⟨k, rfl⟩ | ⟨i, rfl⟩ | ⟨x, rfl⟩ | ⟨m, ys, rfl, rfl, _, _⟩
        · simp [gwS, ↓gwE, gwV, gwD, prM, preM, dctAt, keyD, revLM, semO, semI, setTg, seqM, lsM, binM, binL, augM, biM, bnM, cmpM, cmpI, ltM, leM, inM, eqF, flatD, isM, Cl.isNon, truM, intM, idxM, slcM, lenM, lstAt, Cl.putAt, isaM, tyM, tyName, lsrcM, zsrcM, srcM, pairM, wipeE, liftP, noRefL, noRef, intsD, blsD, isTwo]
        · simp [gwS, ↓gwE, gwV, gwD, prM, preM, dctAt, keyD, revLM, semO, semI, setTg, seqM, lsM, binM, binL, augM, biM, bnM, cmpM, cmpI, ltM, leM, inM, eqF, flatD, isM, Cl.isNon, truM, intM, idxM, slcM, lenM, lstAt, Cl.putAt, isaM, tyM, tyName, lsrcM, zsrcM, srcM, pairM, wipeE, liftP, noRefL, noRef, intsD, blsD, isTwo]
        · simp [gwS, ↓gwE, gwV, gwD, prM, preM, dctAt, keyD, revLM, semO, semI, setTg, seqM, lsM, binM, binL, augM, biM, bnM, cmpM, cmpI, ltM, leM, inM, eqF, flatD, isM, Cl.isNon, truM, intM, idxM, slcM, lenM, lstAt, Cl.putAt, isaM, tyM, tyName, lsrcM, zsrcM, srcM, pairM, wipeE, liftP, noRefL, noRef, intsD, blsD, isTwo]
        · simp [gwS, ↓gwE, gwV, gwD, prM, preM, dctAt, keyD, revLM, semO, semI, setTg, seqM, lsM, binM, binL, augM, biM, bnM, cmpM, cmpI, ltM, leM, inM, eqF, flatD, isM, Cl.isNon, truM, intM, idxM, slcM, lenM, lstAt, Cl.putAt, isaM, tyM, tyName, lsrcM, zsrcM, srcM, pairM, wipeE, liftP, noRefL, noRef, intsD, blsD, isTwo]
        · rcases ys with _ | ⟨a, _ | ⟨b, _ | ⟨c, ys⟩⟩⟩
          · simp [gwS, ↓gwE, gwV, gwD, prM, preM, dctAt, keyD, revLM, semO, semI, setTg, seqM, lsM, binM, binL, augM, biM, bnM, cmpM, cmpI, ltM, leM, inM, eqF, flatD, isM, Cl.isNon, truM, intM, idxM, slcM, lenM, lstAt, Cl.putAt, isaM, tyM, tyName, lsrcM, zsrcM, srcM, pairM, wipeE, liftP, noRefL, noRef, intsD, blsD, isTwo]
          · simp [gwS, ↓gwE, gwV, gwD, prM, preM, dctAt, keyD, revLM, semO, semI, setTg, seqM, lsM, binM, binL, augM, biM, bnM, cmpM, cmpI, ltM, leM, inM, eqF, flatD, isM, Cl.isNon, truM, intM, idxM, slcM, lenM, lstAt, Cl.putAt, isaM, tyM, tyName, lsrcM, zsrcM, srcM, pairM, wipeE, liftP, noRefL, noRef, intsD, blsD, isTwo]
          · simp [gwS, ↓gwE, gwV, gwD, prM, preM, dctAt, keyD, revLM, semO, semI, setTg, seqM, lsM, binM, binL, augM, biM, bnM, cmpM, cmpI, ltM, leM, inM, eqF, flatD, isM, Cl.isNon, truM, intM, idxM, slcM, lenM, lstAt, Cl.putAt, isaM, tyM, tyName, lsrcM, zsrcM, srcM, pairM, wipeE, liftP, noRefL, noRef, intsD, blsD, isTwo]
          · simp [gwS, ↓gwE, gwV, gwD, prM, preM, dctAt, keyD, revLM, semO, semI, setTg, seqM, lsM, binM, binL, augM, biM, bnM, cmpM, cmpI, ltM, leM, inM, eqF, flatD, isM, Cl.isNon, truM, intM, idxM, slcM, lenM, lstAt, Cl.putAt, isaM, tyM, tyName, lsrcM, zsrcM, srcM, pairM, wipeE, liftP, noRefL, noRef, intsD, blsD, isTwo]; omega
      · simp [gwS, ↓gwE, gwV, gwD, prM, preM, dctAt, keyD, revLM, semO, semI, setTg, seqM, lsM, binM, binL, augM, biM, bnM, cmpM, cmpI, ltM, leM, inM, eqF, flatD, isM, Cl.isNon, truM, intM, idxM, slcM, lenM, lstAt, Cl.putAt, isaM, tyM, tyName, lsrcM, zsrcM, srcM, pairM, wipeE, liftP, noRefL, noRef, intsD, blsD]
        split
        · next ex =>
          obtain ⟨x, hxm, hx0⟩ := ex
          simp [arePairs]
          intro _
          refine ⟨x, hxm, ?_⟩
          cases q : isPair x with
          | false => rfl
          | true => rw [pair_two q] at hx0; cases hx0
        · next nex =>
          have all2 : ∀ x ∈ xs, isTwo x = true := fun x hxm => by
            cases q : isTwo x with
            | true => rfl
            | false => exact absurd ⟨x, hxm, q⟩ nex
          refine ws_for xs id (fun i e h => h = [] ∧ (∃ a b c d, e = [some (.tup xs), a, b, c, d]) ∧ okP xs i) ?_ ?_ ?_
          · simp [gwS, ↓gwE, gwV, gwD, prM, preM, dctAt, keyD, revLM, semO, semI, setTg, seqM, lsM, binM, binL, augM, biM, bnM, cmpM, cmpI, ltM, leM, inM, eqF, flatD, isM, Cl.isNon, truM, intM, idxM, slcM, lenM, lstAt, Cl.putAt, isaM, tyM, tyName, lsrcM, zsrcM, srcM, pairM, wipeE, liftP, noRefL, noRef, intsD, blsD, okP]
          · rintro i d e h hi ⟨rfl, ⟨a, b, c, d', rfl⟩, al⟩
            have hm := List.mem_of_getElem? hi
            obtain ⟨r, n, rfl⟩ := two_of (all2 d hm)
            have hd := hx _ hm
            have neg : isPair (.tup [r, n]) = false → arePairs (.tup xs) = false := fun q => by
              simp only [arePairs]
              have : xs.all isPair = false := by
                rw [List.all_eq_false]
                exact ⟨_, hm, by rw [q]; decide⟩
              rw [this]; simp
            obtain ⟨k, hr, hn⟩ : ∃ k, plD k r = true ∧ plD k n = true := by
              obtain ⟨k, a, b, q, h1, h2⟩ := plD_two hd ⟨_, rfl, rfl⟩
              cases q
              exact ⟨k, h1, h2⟩
            simp [gwS, ↓gwE, gwV, gwD, prM, preM, dctAt, keyD, revLM, semO, semI, setTg, seqM, lsM, binM, binL, augM, biM, bnM, cmpM, cmpI, ltM, leM, inM, eqF, flatD, isM, Cl.isNon, truM, intM, idxM, slcM, lenM, lstAt, Cl.putAt, isaM, tyM, tyName, lsrcM, zsrcM, srcM, pairM, wipeE, liftP, noRefL, noRef, intsD, blsD, ir_law_are_pairs_b0]
            refine go_map [r, n] id (fun d => .bl (isI d)) ?_ (by simp) (fun a ha => ?_) ?_
            · simp [gwS, ↓gwE, gwV, gwD, prM, preM, dctAt, keyD, revLM, semO, semI, setTg, seqM, lsM, binM, binL, augM, biM, bnM, cmpM, cmpI, ltM, leM, inM, eqF, flatD, isM, Cl.isNon, truM, intM, idxM, slcM, lenM, lstAt, Cl.putAt, isaM, tyM, tyName, lsrcM, zsrcM, srcM, pairM, wipeE, liftP, noRefL, noRef, intsD, blsD]
            · have hpa : plD k a = true := by
                simp at ha
                rcases ha with rfl | rfl <;> assumption
              rcases plD_cases hpa with rfl | ⟨k, rfl⟩ | ⟨i, rfl⟩ | ⟨x, rfl⟩ | ⟨m, ys, rfl, rfl, _, _⟩ <;> simp [gwS, ↓gwE, gwV, gwD, prM, preM, dctAt, keyD, revLM, semO, semI, setTg, seqM, lsM, binM, binL, augM, biM, bnM, cmpM, cmpI, ltM, leM, inM, eqF, flatD, isM, Cl.isNon, truM, intM, idxM, slcM, lenM, lstAt, Cl.putAt, isaM, tyM, tyName, lsrcM, zsrcM, srcM, pairM, wipeE, liftP, noRefL, noRef, intsD, blsD, isI]
            · cases q : (isI r && isI n) with
              | false =>
                have q2 : isI r = false ∨ isI n = false := by
                  cases h1 : isI r <;> cases h2 : isI n <;> simp [h1, h2] at q ⊢
                have q3 : isPair (.tup [r, n]) = false := by
                  cases r <;> cases n <;> first | rfl | (simp [isI] at q)
                simp [gwS, ↓gwE, gwV, gwD, prM, preM, dctAt, keyD, revLM, semO, semI, setTg, seqM, lsM, binM, binL, augM, biM, bnM, cmpM, cmpI, ltM, leM, inM, eqF, flatD, isM, Cl.isNon, truM, intM, idxM, slcM, lenM, lstAt, Cl.putAt, isaM, tyM, tyName, lsrcM, zsrcM, srcM, pairM, wipeE, liftP, noRefL, noRef, intsD, blsD, q2, neg q3]
              | true =>
                rw [Bool.and_eq_true] at q
                obtain ⟨r', rfl⟩ := isI_iff.mp q.1
                obtain ⟨n', rfl⟩ := isI_iff.mp q.2
                simp [gwS, ↓gwE, gwV, gwD, prM, preM, dctAt, keyD, revLM, semO, semI, setTg, seqM, lsM, binM, binL, augM, biM, bnM, cmpM, cmpI, ltM, leM, inM, eqF, flatD, isM, Cl.isNon, truM, intM, idxM, slcM, lenM, lstAt, Cl.putAt, isaM, tyM, tyName, lsrcM, zsrcM, srcM, pairM, wipeE, liftP, noRefL, noRef, intsD, blsD, isI]
                have ng : ¬ (1 ≤ n' ∧ n' ≤ 1000000000000 ∧ 0 ≤ r' ∧ r' < n') → arePairs (.tup xs) = false := fun w => neg (by simp only [isPair, decide_eq_false_iff_not]; exact w)
                have ps : (1 ≤ n' ∧ n' ≤ 1000000000000 ∧ 0 ≤ r' ∧ r' < n') → okP xs (i + 1) := fun w => okP_next al hi (by simp only [isPair, decide_eq_true_eq]; exact w)
                split
                · split
                  · exact ng (by omega)
                  · split
                    · split
                      · exact ng (by omega)
                      · exact ps (by omega)
                    · exact ng (by omega)
                · exact ng (by omega)
          · rintro e h ⟨rfl, ⟨a, b, c, d', rfl⟩, al⟩
            unfold okP at al
            rw [List.take_length] at al
            simp [gwS, ↓gwE, gwV, gwD, prM, preM, dctAt, keyD, revLM, semO, semI, setTg, seqM, lsM, binM, binL, augM, biM, bnM, cmpM, cmpI, ltM, leM, inM, eqF, flatD, isM, Cl.isNon, truM, intM, idxM, slcM, lenM, lstAt, Cl.putAt, isaM, tyM, tyName, lsrcM, zsrcM, srcM, pairM, wipeE, liftP, noRefL, noRef, intsD, blsD, ir_law_are_pairs_2, arePairs, al, z]
    · have z1 : 16 < (xs.length : Int) := by omega
      simp [z1, arePairs]
      intro h; omega
theorem filter_one {n x0 : Nat} {p : Nat → Bool} (hx : x0 < n) (hp : ∀ i, i < n → (p i = true ↔ i = x0)) : (List.range n).filter p = [x0] := by
  have nd : ((List.range n).filter p).Nodup := List.Pairwise.filter p List.nodup_range
  have mem : ∀ y, y ∈ (List.range n).filter p ↔ y = x0 := fun y => by
    rw [List.mem_filter, List.mem_range]
    exact ⟨fun h => (hp y h.1).mp h.2, fun h => by subst h; exact ⟨hx, (hp y hx).mpr rfl⟩⟩
  generalize (List.range n).filter p = l at *
  cases l with
  | nil => exact absurd ((mem x0).mpr rfl) (by simp)
  | cons a r =>
    have ha := (mem a).mp (by simp)
    subst ha
    cases r with
    | nil => rfl
    | cons b r =>
      have hb := (mem b).mp (by simp)
      subst hb
      simp at nd
/-- the remainders that leave all, below the least common multiple -/
def fnd (ps : List (Int × Int)) : List Nat := (List.range (Crt.lcms ps 1)).filter fun i : Nat => lvB (i : Int) ps
theorem fnd_one {ps : List (Int × Int)} (ho : Crt.Ok ps) (nb : noBad ps) : (fnd ps).map (fun i : Nat => D.int (i : Nat)) = [.int (Crt.fold facF (0, 1) ps).1] ∧ (Crt.fold facF (0, 1) ps).2 = (Crt.lcms ps 1 : Nat) := by
  obtain ⟨b1, b2, b3, b4⟩ := Crt.together_ok facF_ok ho (noBad_agr nb)
  refine ⟨?_, b1⟩
  rw [b1] at b3
  have e : ((Crt.fold facF (0, 1) ps).1.toNat : Int) = (Crt.fold facF (0, 1) ps).1 := by omega
  have h : fnd ps = [(Crt.fold facF (0, 1) ps).1.toNat] := by
    refine filter_one (by omega) fun i hi => ?_
    rw [lvB_iff]
    refine ⟨fun h => ?_, fun h => by rw [h, e]; exact b4⟩
    obtain ⟨t, ht⟩ := Crt.lv_unique h b4
    have t0 : t = 0 := by
      rcases Int.lt_trichotomy t 0 with z | z | z
      · have := Int.mul_le_mul_of_nonneg_left (show t ≤ -1 by omega) (show (0 : Int) ≤ (Crt.lcms ps 1 : Nat) by omega)
        omega
      · exact z
      · have := Int.mul_le_mul_of_nonneg_left (show 1 ≤ t by omega) (show (0 : Int) ≤ (Crt.lcms ps 1 : Nat) by omega)
        omega
    rw [t0, Int.mul_zero] at ht
    omega
  rw [h]
  simp [e]
theorem fnd_none {ps : List (Int × Int)} {i j : Nat} (fb : fstBad ps i j) : fnd ps = [] := by
  unfold fnd
  rw [List.filter_eq_nil_iff]
  intro x _ h
  exact fstBad_no fb (agr_noBad (Crt.lv_agr (lvB_iff.mp h)))
theorem ap_cases {ps : List (Int × Int)} {f : Nat → Nat → D} {d : D} (h : ApD ps f d) {d' : D} (h' : togD ps d') (hf : ∀ i j, f i j = .tup [.str (Str.ofString "apart"), .int i, .int j]) : (noBad ps ∧ d = .non ∧ d' = .tup [.str (Str.ofString "all"), rt (Crt.fold facF (0, 1) ps)]) ∨ ∃ i j : Nat, fstBad ps i j ∧ d = .tup [.str (Str.ofString "apart"), .int i, .int j] ∧ d' = d := by
  rcases h with ⟨nb, e⟩ | ⟨i, j, fb, e⟩
  · rcases h' with ⟨_, e'⟩ | ⟨i', j', fb', _⟩
    · exact .inl ⟨nb, e, e'⟩
    · exact (fstBad_no fb' nb).elim
  · rcases h' with ⟨nb, _⟩ | ⟨i', j', fb', e'⟩
    · exact (fstBad_no fb nb).elim
    · obtain ⟨rfl, rfl⟩ := fstBad_one fb fb'
      exact .inr ⟨i, j, fb, by rw [e, hf], by rw [e', e, hf]⟩
theorem lcms_le {B : Nat} : ∀ {ps : List (Int × Int)} {L : Nat}, 0 < L → (∀ p ∈ ps, 0 < p.2 ∧ p.2.natAbs ≤ B) → Crt.lcms ps L ≤ L * B ^ ps.length
  | [], L, _, _ => by simp [Crt.lcms]
  | p :: ps, L, hL, hp => by
    have h0 := hp p List.mem_cons_self
    have l1 : Nat.lcm L p.2.natAbs ≤ L * p.2.natAbs := Nat.le_of_dvd (Nat.mul_pos hL (by omega)) (Nat.lcm_dvd (Nat.dvd_mul_right _ _) (Nat.dvd_mul_left _ _))
    have ih := lcms_le (ps := ps) (L := Nat.lcm L p.2.natAbs) (Nat.lcm_pos hL (by omega)) fun q hq => hp q (List.mem_cons_of_mem _ hq)
    have l2 : Nat.lcm L p.2.natAbs ≤ L * B := Nat.le_trans l1 (Nat.mul_le_mul_left _ h0.2)
    have l3 := Nat.mul_le_mul_right (B ^ ps.length) l2
    show Crt.lcms ps (Nat.lcm L p.2.natAbs) ≤ L * B ^ (ps.length + 1)
    rw [Nat.pow_succ', ← Nat.mul_assoc]
    exact Nat.le_trans ih l3
theorem small_of {ps : List (Int × Int)} (h : ∀ p ∈ ps, 0 < p.2 ∧ p.2 ≤ 2 ^ 41 ∧ 0 ≤ p.1 ∧ p.1 < p.2) (hl : ps.length ≤ 16) : SmP 1900 ps ∧ Sm 1900 (Crt.lcms ps 1 : Nat) := by
  refine ⟨fun p hp => ?_, ?_⟩
  · obtain ⟨h1, h2, h3, h4⟩ := h p hp
    have e : (2 : Nat) ^ 41 < 2 ^ 1900 := Nat.pow_lt_pow_right (by decide) (by decide)
    exact ⟨h1, Sm.of (b := 2 ^ 41) (by omega) e, Sm.of (b := 2 ^ 41) (by omega) e⟩
  · have l := lcms_le (B := 2 ^ 41) (ps := ps) (L := 1) (by decide) fun p hp => ⟨(h p hp).1, by have := (h p hp).1; have := (h p hp).2.1; omega⟩
    rw [Nat.one_mul, ← Nat.pow_mul] at l
    have l2 : 2 ^ (41 * ps.length) ≤ 2 ^ 656 := Nat.pow_le_pow_right (by decide) (by omega)
    have l3 : (2 : Nat) ^ 656 < 2 ^ 1900 := Nat.pow_lt_pow_right (by decide) (by decide)
    unfold Sm
    rw [Int.natAbs_natCast]
    exact Nat.lt_of_le_of_lt (Nat.le_trans l l2) l3
theorem same_all (p : Int × Int) : p_law_same 6 [.tup [.str (Str.ofString "all"), rt p], .tup [.str (Str.ofString "all"), rt p]] = .ok (.bl true) :=
  same6 (n := 2) (by simp [datD, sizeLine_eq]; decide +kernel) (by decide)
theorem same_apart (i j : Int) : p_law_same 6 [.tup [.str (Str.ofString "apart"), .int i, .int j], .tup [.str (Str.ofString "apart"), .int i, .int j]] = .ok (.bl true) :=
  same6 (n := 1) (by simp [datD, sizeLine_eq]; decide +kernel) (by decide)
theorem ev_small {ps : List (Int × Int)} (hs : SmP 1900 ps) (hl : ps.length ≤ 100) (hb : Sm 1900 (Crt.lcms ps 1 : Nat)) : p_law_small_fine [prsI ps] = .ok (.bl true) := by
  have e1 := ev_law_multiple hs hb (by omega)
  obtain ⟨d, e2, q2⟩ := ev_law_apart hs (by omega)
  obtain ⟨d', e3, q3⟩ := ev_together hs (by omega) hb
  refine p_go rfl ?_
  unfold ir_law_small_fine
  simp [gwS, ↓gwE, gwV, gwD, prM, preM, dctAt, keyD, revLM, semO, semI, setTg, seqM, lsM, binM, binL, augM, biM, bnM, cmpM, cmpI, ltM, leM, inM, eqF, flatD, isM, Cl.isNon, truM, intM, idxM, slcM, lenM, lstAt, Cl.putAt, isaM, tyM, tyName, lsrcM, zsrcM, srcM, pairM, wipeE, liftP, noRefL, noRef, intsD, blsD, ir_law_small_fine_0, ir_law_small_fine_1, e1]
  intro z
  have rg : Rg (Crt.lcms ps 1 : Nat) := by unfold Rg; omega
  simp [gwS, ↓gwE, gwV, gwD, prM, preM, dctAt, keyD, revLM, semO, semI, setTg, seqM, lsM, binM, binL, augM, biM, bnM, cmpM, cmpI, ltM, leM, inM, eqF, flatD, isM, Cl.isNon, truM, intM, idxM, slcM, lenM, lstAt, Cl.putAt, isaM, tyM, tyName, lsrcM, zsrcM, srcM, pairM, wipeE, liftP, noRefL, noRef, intsD, blsD, ir_law_small_fine_2]
  refine go_filter (List.range (Crt.lcms ps 1)) (fun i : Nat => .int (i : Nat)) (fun i : Nat => lvB (i : Int) ps) (fun i : Nat => .int (i : Nat)) ?_ ?_ (by simp; omega) (fun i hi => ?_) ?_
  · simp
  · simp [gwS, ↓gwE, gwV, gwD, prM, preM, dctAt, keyD, revLM, semO, semI, setTg, seqM, lsM, binM, binL, augM, biM, bnM, cmpM, cmpI, ltM, leM, inM, eqF, flatD, isM, Cl.isNon, truM, intM, idxM, slcM, lenM, lstAt, Cl.putAt, isaM, tyM, tyName, lsrcM, zsrcM, srcM, pairM, wipeE, liftP, noRefL, noRef, intsD, blsD, rg, rangeD]
  · have e4 := ev_law_leaves (x := (i : Int)) hs (Sm.of (b := 6000) (by simp at hi; omega) (Nat.lt_of_lt_of_le (by decide : 6000 < 2 ^ 13) (Nat.pow_le_pow_right (by decide) (by decide)))) (by omega)
    simp [gwS, ↓gwE, gwV, gwD, prM, preM, dctAt, keyD, revLM, semO, semI, setTg, seqM, lsM, binM, binL, augM, biM, bnM, cmpM, cmpI, ltM, leM, inM, eqF, flatD, isM, Cl.isNon, truM, intM, idxM, slcM, lenM, lstAt, Cl.putAt, isaM, tyM, tyName, lsrcM, zsrcM, srcM, pairM, wipeE, liftP, noRefL, noRef, intsD, blsD, e4]
  · rcases ap_cases q2 q3 (fun _ _ => rfl) with ⟨nb, rfl, rfl⟩ | ⟨i, j, fb, rfl, rfl⟩
    · obtain ⟨f1, f2⟩ := fnd_one hs.ok nb
      unfold fnd at f1
      rw [f1]
      have sm := same_all (Crt.fold facF (0, 1) ps)
      rw [← f2]
      simp [gwS, ↓gwE, gwV, gwD, prM, preM, dctAt, keyD, revLM, semO, semI, setTg, seqM, lsM, binM, binL, augM, biM, bnM, cmpM, cmpI, ltM, leM, inM, eqF, flatD, isM, Cl.isNon, truM, intM, idxM, slcM, lenM, lstAt, Cl.putAt, isaM, tyM, tyName, lsrcM, zsrcM, srcM, pairM, wipeE, liftP, noRefL, noRef, intsD, blsD, ir_law_small_fine_3, ir_law_small_fine_4, ir_law_small_fine_5, e2, e3, sm]
    · have f1 := fnd_none fb
      unfold fnd at f1
      rw [f1]
      have sm := same_apart i j
      simp [gwS, ↓gwE, gwV, gwD, prM, preM, dctAt, keyD, revLM, semO, semI, setTg, seqM, lsM, binM, binL, augM, biM, bnM, cmpM, cmpI, ltM, leM, inM, eqF, flatD, isM, Cl.isNon, truM, intM, idxM, slcM, lenM, lstAt, Cl.putAt, isaM, tyM, tyName, lsrcM, zsrcM, srcM, pairM, wipeE, liftP, noRefL, noRef, intsD, blsD, ir_law_small_fine_3, ir_law_small_fine_4, ir_law_small_fine_5, e2, e3, sm]
theorem cut_take {xs : List D} {k : Int} (h : 0 ≤ k) : cutD xs none (some k) = xs.take k.toNat := by
  obtain ⟨n, rfl⟩ := Int.eq_ofNat_of_zero_le h
  unfold Cl.cutD
  rw [show HT.sIx xs.length xs.length (some (n : Int)) = min n xs.length from HT.sIx_nat xs.length _ n, HT.sIx_none, Nat.sub_zero, List.drop_zero, Int.toNat_natCast]
  rcases Nat.le_total n xs.length with l | l
  · rw [Nat.min_eq_left l]
  · rw [Nat.min_eq_right l, List.take_of_length_le l, List.take_length]
theorem cut_drop {xs : List D} {k : Int} (h : 0 ≤ k) : cutD xs (some k) none = xs.drop k.toNat := by
  obtain ⟨n, rfl⟩ := Int.eq_ofNat_of_zero_le h
  unfold Cl.cutD
  rw [show HT.sIx xs.length 0 (some (n : Int)) = min n xs.length from HT.sIx_nat xs.length _ n, HT.sIx_none, Int.toNat_natCast]
  rcases Nat.le_total n xs.length with l | l
  · rw [Nat.min_eq_left l, List.take_of_length_le (by simp)]
  · rw [Nat.min_eq_right l, List.drop_of_length_le l, List.drop_of_length_le (Nat.le_refl _)]; simp
theorem lcms_congr : ∀ {ps qs : List (Int × Int)}, ps.map (·.2) = qs.map (·.2) → ∀ L, Crt.lcms ps L = Crt.lcms qs L
  | [], [], _, _ => rfl
  | p :: ps, q :: qs, h, L => by
    simp at h
    show Crt.lcms ps (Nat.lcm L p.2.natAbs) = Crt.lcms qs (Nat.lcm L q.2.natAbs)
    rw [h.1]
    exact lcms_congr h.2 _
  | [], q :: qs, h, _ => by simp at h
  | p :: ps, [], h, _ => by simp at h
noncomputable abbrev Gl (A : Nat → Addr) : Gt := { tab := [g_law_box, g_law_draw, (liftP p_law_left), (liftP p_law_small_fine), (g_law_bent 6), (liftP (p_law_same 6)), (liftP (p_are_pairs A)), (liftP p_law_are_pairs), (liftP p_leaves), (liftP p_law_leaves), (liftP p_law_multiple), (liftP p_together), (liftP p_law_apart)] }
theorem plD_prs {ps : List (Int × Int)} (h : ps.length ≤ 100) : plD 6 (.tup (ps.map rt)) = true := by
  simp only [plD, Bool.and_eq_true, decide_eq_true_eq, List.all_eq_true]
  refine ⟨by simp; omega, fun x hx => ?_⟩
  obtain ⟨p, _, rfl⟩ := List.mem_map.mp hx
  simp [plD]
theorem vals_ok (A : Nat → Addr) {vs : List D} (hv : ∀ v ∈ vs, plD 6 v = true) {h : Hc} {e0 e2 e3 e4 e5 e6 e7 e8 e9 e10 e11 e12 e13 e14 : Option D} {N B Ct : Cl.Env → Hc → Prop} {R : D → Hc → Prop} {X : Addr → List (Str × D) → Cl.Env → Hc → Prop}
    (q : ∀ o9, N [e0, some (.ref 1), e2, e3, e4, e5, e6, e7, e8, o9, e10, e11, e12, e13, e14] h) :
    WS (forL (Tg.nm 9) [] (semS (Gl A) [.int 16] ir_law_b0) vs [e0, some (.ref 1), e2, e3, e4, e5, e6, e7, e8, e9, e10, e11, e12, e13, e14] h) N R B Ct X := by
  have em : vs.map id = vs := List.map_id vs
  rw [← em]
  refine fl_for vs id (fun _ e h' => h' = h ∧ ∃ o9, e = [e0, some (.ref 1), e2, e3, e4, e5, e6, e7, e8, o9, e10, e11, e12, e13, e14]) ⟨rfl, _, rfl⟩ ?_ ?_
  · rintro i v e h' hi ⟨rfl, o9, rfl⟩
    have hp := hv v (List.mem_of_getElem? hi)
    have e1 := ev_are_pairs (A := A) hp
    have e2 := ev_law_are_pairs hp
    have nr := plD_noRef hp
    have sm := same6 (d := .bl (arePairs v)) (n := 0) rfl (by decide)
    simp [gwS, ↓gwE, gwV, gwD, prM, preM, dctAt, keyD, revLM, semO, semI, setTg, seqM, lsM, binM, binL, augM, biM, bnM, cmpM, cmpI, ltM, leM, inM, eqF, flatD, isM, Cl.isNon, truM, intM, idxM, slcM, lenM, lstAt, Cl.putAt, isaM, tyM, tyName, lsrcM, zsrcM, srcM, pairM, wipeE, liftP, noRefL, noRef, intsD, blsD, Gl, ir_law_b0, e1, e2, nr, sm]
  · rintro e h' ⟨rfl, o9, rfl⟩
    exact q o9
theorem the_law (A : Nat → Addr) : ∀ ns : List Int, ns.length ≤ 63 → ∃ hc, g_law A [.kl (ns.map .int)] [] = .ok (.bl true) hc := by
  intro ns hn
  refine (fun x => ?_ : EE (g_law A [.kl (ns.map .int)] []) (fun d _ => d = .bl true) noX → _) ?_
  · obtain ⟨d, h, e, rfl⟩ := ee_get x
    exact ⟨h, e⟩
  refine ee_runF rfl ?_
  unfold ir_law
  obtain ⟨b, e0⟩ := box_ok hn
  simp [gwS, ↓gwE, gwV, gwD, prM, preM, dctAt, keyD, revLM, semO, semI, setTg, seqM, lsM, binM, binL, augM, biM, bnM, cmpM, cmpI, ltM, leM, inM, eqF, flatD, isM, Cl.isNon, truM, intM, idxM, slcM, lenM, lstAt, Cl.putAt, isaM, tyM, tyName, lsrcM, zsrcM, srcM, pairM, wipeE, liftP, noRefL, noRef, intsD, blsD, ir_law_0, ir_law_1, ir_law_2, e0]
  refine ws_for (List.range 3) (fun i : Nat => D.int (i : Nat)) (fun _ e h => IsBx [] h ∧ ∃ o2 o3 o4 o5 o6 o7 o8 o9 o10 o11 o12 o13 o14, e = [some (.kl (ns.map .int)), some (.ref 1), o2, o3, o4, o5, o6, o7, o8, o9, o10, o11, o12, o13, o14]) ?_ ?_ ?_
  · have r3 : Rg 3 := ⟨by decide, by decide⟩
    simp [gwS, ↓gwE, gwV, gwD, prM, preM, dctAt, keyD, revLM, semO, semI, setTg, seqM, lsM, binM, binL, augM, biM, bnM, cmpM, cmpI, ltM, leM, inM, eqF, flatD, isM, Cl.isNon, truM, intM, idxM, slcM, lenM, lstAt, Cl.putAt, isaM, tyM, tyName, lsrcM, zsrcM, srcM, pairM, wipeE, liftP, noRefL, noRef, intsD, blsD, r3, rangeD]
    exact IsBx.mk b []
  · rintro i t e h hi ⟨⟨b, rfl⟩, o2, o3, o4, o5, o6, o7, o8, o9, o10, o11, o12, o13, o14, rfl⟩
    have hi2 := len_of hi
    simp at hi2
    rw [List.getElem?_range hi2] at hi
    cases hi
    simp [gwS, ↓gwE, gwV, gwD, prM, preM, dctAt, keyD, revLM, semO, semI, setTg, seqM, lsM, binM, binL, augM, biM, bnM, cmpM, cmpI, ltM, leM, inM, eqF, flatD, isM, Cl.isNon, truM, intM, idxM, slcM, lenM, lstAt, Cl.putAt, isaM, tyM, tyName, lsrcM, zsrcM, srcM, pairM, wipeE, liftP, noRefL, noRef, intsD, blsD, ir_law_b1]
    refine go_draw (by decide) (by decide) fun hid b h0 h1 => ?_
    simp [gwS, ↓gwE, gwV, gwD, prM, preM, dctAt, keyD, revLM, semO, semI, setTg, seqM, lsM, binM, binL, augM, biM, bnM, cmpM, cmpI, ltM, leM, inM, eqF, flatD, isM, Cl.isNon, truM, intM, idxM, slcM, lenM, lstAt, Cl.putAt, isaM, tyM, tyName, lsrcM, zsrcM, srcM, pairM, wipeE, liftP, noRefL, noRef, intsD, blsD]
    refine go_stS (IsBx []) D.int (fun (_ : Nat) (n : Int) => 1 ≤ n ∧ n ≤ 30) (fun l : List Nat => l.length ≤ 4) (fun i : Nat => .int (i : Nat)) ?_ ?_ ?_
    · simp [gwS, ↓gwE, gwV, gwD, prM, preM, dctAt, keyD, revLM, semO, semI, setTg, seqM, lsM, binM, binL, augM, biM, bnM, cmpM, cmpI, ltM, leM, inM, eqF, flatD, isM, Cl.isNon, truM, intM, idxM, slcM, lenM, lstAt, Cl.putAt, isaM, tyM, tyName, lsrcM, zsrcM, srcM, pairM, wipeE, liftP, noRefL, noRef, intsD, blsD]
      refine go_draw (by decide) (by decide) fun r b l u => ?_
      have rg : Rg r := ⟨by omega, by omega⟩
      simp [gwS, ↓gwE, gwV, gwD, prM, preM, dctAt, keyD, revLM, semO, semI, setTg, seqM, lsM, binM, binL, augM, biM, bnM, cmpM, cmpI, ltM, leM, inM, eqF, flatD, isM, Cl.isNon, truM, intM, idxM, slcM, lenM, lstAt, Cl.putAt, isaM, tyM, tyName, lsrcM, zsrcM, srcM, pairM, wipeE, liftP, noRefL, noRef, intsD, blsD, rg, rangeD]
      exact ⟨List.range r.toNat, rfl, by simp; omega, by simp; omega, IsBx.mk b []⟩
    · rintro l hl a ha h ⟨b, rfl⟩
      obtain ⟨x, hx, x1, x2⟩ : ∃ x : Int, [D.int 12, D.int 30, D.int 9][i]? = some (.int x) ∧ 1 ≤ x ∧ x ≤ 30 := by
        have : i = 0 ∨ i = 1 ∨ i = 2 := by omega
        rcases this with rfl | rfl | rfl
        · exact ⟨12, rfl, by decide, by decide⟩
        · exact ⟨30, rfl, by decide, by decide⟩
        · exact ⟨9, rfl, by decide, by decide⟩
      simp [gwS, ↓gwE, gwV, gwD, prM, preM, dctAt, keyD, revLM, semO, semI, setTg, seqM, lsM, binM, binL, augM, biM, bnM, cmpM, cmpI, ltM, leM, inM, eqF, flatD, isM, Cl.isNon, truM, intM, idxM, slcM, lenM, lstAt, Cl.putAt, isaM, tyM, tyName, lsrcM, zsrcM, srcM, pairM, wipeE, liftP, noRefL, noRef, intsD, blsD, hx]
      refine go_draw (by omega) (by omega) fun r b l u => ?_
      simp [gwS, ↓gwE, gwV, gwD, prM, preM, dctAt, keyD, revLM, semO, semI, setTg, seqM, lsM, binM, binL, augM, biM, bnM, cmpM, cmpI, ltM, leM, inM, eqF, flatD, isM, Cl.isNon, truM, intM, idxM, slcM, lenM, lstAt, Cl.putAt, isaM, tyM, tyName, lsrcM, zsrcM, srcM, pairM, wipeE, liftP, noRefL, noRef, intsD, blsD]
      exact ⟨IsBx.mk b [], by omega, by omega⟩
    · rintro l hl nl h ⟨b, rfl⟩ hnl hP
      have hn30 : ∀ n ∈ nl, 1 ≤ n ∧ n ≤ 30 := fun n hm => by
        obtain ⟨j, hj, e⟩ := List.mem_iff_getElem.mp hm
        exact hP j l[j] n (List.getElem?_eq_getElem (by omega)) (by rw [List.getElem?_eq_getElem hj, e])
      clear hP
      have sl : ∀ n : Int, 1 ≤ n ∧ n ≤ 30 → p_law_left [.int hid, .int n] = .ok (.int (hid % n)) := fun n h => ev_leftB (by omega) (Sm.of (b := 100000) (by omega) (Nat.lt_of_lt_of_le (by decide : 100000 < 2 ^ 17) (Nat.pow_le_pow_right (by decide) (by decide)))) (Sm.of (b := 30) (by omega) (Nat.lt_of_lt_of_le (by decide : 30 < 2 ^ 17) (Nat.pow_le_pow_right (by decide) (by decide))))
      simp [gwS, ↓gwE, gwV, gwD, prM, preM, dctAt, keyD, revLM, semO, semI, setTg, seqM, lsM, binM, binL, augM, biM, bnM, cmpM, cmpI, ltM, leM, inM, eqF, flatD, isM, Cl.isNon, truM, intM, idxM, slcM, lenM, lstAt, Cl.putAt, isaM, tyM, tyName, lsrcM, zsrcM, srcM, pairM, wipeE, liftP, noRefL, noRef, intsD, blsD]
      refine go_map nl D.int (fun n => rt (hid % n, n)) ?_ (by omega) (fun n hm => ?_) ?_
      · simp [gwS, ↓gwE, gwV, gwD, prM, preM, dctAt, keyD, revLM, semO, semI, setTg, seqM, lsM, binM, binL, augM, biM, bnM, cmpM, cmpI, ltM, leM, inM, eqF, flatD, isM, Cl.isNon, truM, intM, idxM, slcM, lenM, lstAt, Cl.putAt, isaM, tyM, tyName, lsrcM, zsrcM, srcM, pairM, wipeE, liftP, noRefL, noRef, intsD, blsD]
      · simp [gwS, ↓gwE, gwV, gwD, prM, preM, dctAt, keyD, revLM, semO, semI, setTg, seqM, lsM, binM, binL, augM, biM, bnM, cmpM, cmpI, ltM, leM, inM, eqF, flatD, isM, Cl.isNon, truM, intM, idxM, slcM, lenM, lstAt, Cl.putAt, isaM, tyM, tyName, lsrcM, zsrcM, srcM, pairM, wipeE, liftP, noRefL, noRef, intsD, blsD, sl n (hn30 n hm)]
      simp [gwS, ↓gwE, gwV, gwD, prM, preM, dctAt, keyD, revLM, semO, semI, setTg, seqM, lsM, binM, binL, augM, biM, bnM, cmpM, cmpI, ltM, leM, inM, eqF, flatD, isM, Cl.isNon, truM, intM, idxM, slcM, lenM, lstAt, Cl.putAt, isaM, tyM, tyName, lsrcM, zsrcM, srcM, pairM, wipeE, liftP, noRefL, noRef, intsD, blsD]
      refine go_st (IsBx []) rt (fun (n : Int) (p : Int × Int) => p.2 = n ∧ 0 ≤ p.1 ∧ p.1 < n) nl D.int ?_ (by omega) ?_ ?_
      · simp [gwS, ↓gwE, gwV, gwD, prM, preM, dctAt, keyD, revLM, semO, semI, setTg, seqM, lsM, binM, binL, augM, biM, bnM, cmpM, cmpI, ltM, leM, inM, eqF, flatD, isM, Cl.isNon, truM, intM, idxM, slcM, lenM, lstAt, Cl.putAt, isaM, tyM, tyName, lsrcM, zsrcM, srcM, pairM, wipeE, liftP, noRefL, noRef, intsD, blsD]; exact IsBx.mk b []
      · rintro n hm h ⟨b, rfl⟩
        have := hn30 n hm
        simp [gwS, ↓gwE, gwV, gwD, prM, preM, dctAt, keyD, revLM, semO, semI, setTg, seqM, lsM, binM, binL, augM, biM, bnM, cmpM, cmpI, ltM, leM, inM, eqF, flatD, isM, Cl.isNon, truM, intM, idxM, slcM, lenM, lstAt, Cl.putAt, isaM, tyM, tyName, lsrcM, zsrcM, srcM, pairM, wipeE, liftP, noRefL, noRef, intsD, blsD]
        refine go_draw (by omega) (by omega) fun r b l u => ?_
        simp [gwS, ↓gwE, gwV, gwD, prM, preM, dctAt, keyD, revLM, semO, semI, setTg, seqM, lsM, binM, binL, augM, biM, bnM, cmpM, cmpI, ltM, leM, inM, eqF, flatD, isM, Cl.isNon, truM, intM, idxM, slcM, lenM, lstAt, Cl.putAt, isaM, tyM, tyName, lsrcM, zsrcM, srcM, pairM, wipeE, liftP, noRefL, noRef, intsD, blsD]
        exact ⟨r, n, ⟨rfl, rfl⟩, IsBx.mk b [], rfl, l, u⟩
      rintro os h ⟨b, rfl⟩ hol hoP
      have ho : ∀ p ∈ os, 0 < p.2 ∧ p.2 ≤ 2 ^ 41 ∧ 0 ≤ p.1 ∧ p.1 < p.2 := fun p hm => by
        obtain ⟨j, hj, e⟩ := List.mem_iff_getElem.mp hm
        have := hoP j nl[j] p (List.getElem?_eq_getElem (by omega)) (by rw [List.getElem?_eq_getElem hj, e])
        have := hn30 nl[j] (List.getElem_mem (by omega))
        omega
      clear hoP
      rw [show (nl.map fun n => rt (hid % n, n)) = (nl.map fun n => (hid % n, n)).map rt by simp]
      have hp : ∀ p ∈ nl.map (fun n => (hid % n, n)), 0 < p.2 ∧ p.2 ≤ 2 ^ 41 ∧ 0 ≤ p.1 ∧ p.1 < p.2 := fun p hm => by
        obtain ⟨n, hn, rfl⟩ := List.mem_map.mp hm
        have := hn30 n hn
        have := Int.emod_nonneg hid (show n ≠ 0 by omega)
        have := Int.emod_lt_of_pos hid (show 0 < n by omega)
        dsimp only
        omega
      have hlv : Crt.Lv hid (nl.map fun n => (hid % n, n)) := fun p hm => by
        obtain ⟨n, hn, rfl⟩ := List.mem_map.mp hm
        have := Crt.emod_dvd (x := hid) (n := n)
        have e : hid - hid % n = -(hid % n - hid) := by omega
        dsimp only
        rw [e, Int.dvd_neg]; exact this
      have hpl : (nl.map fun n => (hid % n, n)).length ≤ 4 := by simp; omega
      generalize (nl.map fun n => (hid % n, n)) = ps at hp hlv hpl ⊢
      obtain ⟨sp1, sp2⟩ := small_of hp (by omega)
      obtain ⟨so1, so2⟩ := small_of ho (by omega)
      have es1 := ev_small sp1 (by omega) sp2
      have es2 := ev_small so1 (by omega) so2
      simp [gwS, ↓gwE, gwV, gwD, prM, preM, dctAt, keyD, revLM, semO, semI, setTg, seqM, lsM, binM, binL, augM, biM, bnM, cmpM, cmpI, ltM, leM, inM, eqF, flatD, isM, Cl.isNon, truM, intM, idxM, slcM, lenM, lstAt, Cl.putAt, isaM, tyM, tyName, lsrcM, zsrcM, srcM, pairM, wipeE, liftP, noRefL, noRef, intsD, blsD, es1, es2]
      rw [ws_forS]
      simp [gwS, ↓gwE, gwV, gwD, prM, preM, dctAt, keyD, revLM, semO, semI, setTg, seqM, lsM, binM, binL, augM, biM, bnM, cmpM, cmpI, ltM, leM, inM, eqF, flatD, isM, Cl.isNon, truM, intM, idxM, slcM, lenM, lstAt, Cl.putAt, isaM, tyM, tyName, lsrcM, zsrcM, srcM, pairM, wipeE, liftP, noRefL, noRef, intsD, blsD]
      have pI : plI 5 (prsI os) = true := by
        simp only [plI, Bool.and_eq_true, decide_eq_true_eq, List.all_eq_true]
        refine ⟨by simp; omega, fun x hx => ?_⟩
        obtain ⟨p, hpm, rfl⟩ := List.mem_map.mp hx
        have h1 := so1 p hpm
        have h2 := h1.2.1.log
        have h3 := h1.2.2.log
        simp [plI, h2, h3]
      refine go_st (IsBx []) id (fun (_ : Nat) (d : D) => plD 6 d = true) (List.range 6) (fun i : Nat => .int (i : Nat)) ?_ (by simp) ?_ ?_
      · have r6 : Rg 6 := ⟨by decide, by decide⟩
        simp [gwS, ↓gwE, gwV, gwD, prM, preM, dctAt, keyD, revLM, semO, semI, setTg, seqM, lsM, binM, binL, augM, biM, bnM, cmpM, cmpI, ltM, leM, inM, eqF, flatD, isM, Cl.isNon, truM, intM, idxM, slcM, lenM, lstAt, Cl.putAt, isaM, tyM, tyName, lsrcM, zsrcM, srcM, pairM, wipeE, liftP, noRefL, noRef, intsD, blsD, r6, rangeD]
        exact IsBx.mk b []
      · rintro k _ h ⟨b, rfl⟩
        obtain ⟨v', b', e, hv'⟩ := ev_bent 5 (prsI os) pI b []
        simp [gwS, ↓gwE, gwV, gwD, prM, preM, dctAt, keyD, revLM, semO, semI, setTg, seqM, lsM, binM, binL, augM, biM, bnM, cmpM, cmpI, ltM, leM, inM, eqF, flatD, isM, Cl.isNon, truM, intM, idxM, slcM, lenM, lstAt, Cl.putAt, isaM, tyM, tyName, lsrcM, zsrcM, srcM, pairM, wipeE, liftP, noRefL, noRef, intsD, blsD, e]
        exact ⟨IsBx.mk b' [], hv'⟩
      rintro vs h ⟨b, rfl⟩ hvl hvP
      have eq0 : ∀ h, eqM (.tup (os.map rt)) (.tup []) h = .ok (decide (os = [])) h := fun h => by
        rw [eqM_dat 2 (a := .tup (os.map rt)) (b := .tup []) (by simp [datP]) (by simp [datP])]
        cases os <;> simp
      have hl8 : 2 + vs.length ≤ sizeLine := by rw [sizeLine_eq, hvl]; simp
      have hvp : ∀ v ∈ vs, plD 6 v = true := fun v hm => by
        obtain ⟨j, hj, e⟩ := List.mem_iff_getElem.mp hm
        have hj2 : j < (List.range 6).length := by omega
        exact hvP j _ v (List.getElem?_eq_getElem hj2) (by rw [List.getElem?_eq_getElem hj, e])
      have hl9 : vs.length + 1 + 1 + 4 ≤ sizeLine := by rw [sizeLine_eq, hvl]; simp
      rcases os with _ | ⟨p, os⟩
      · have eq1 : ∀ h, eqM (.tup []) (.tup []) h = .ok true h := eq0
        simp [gwS, ↓gwE, gwV, gwD, prM, preM, dctAt, keyD, revLM, semO, semI, setTg, seqM, lsM, binM, binL, augM, biM, bnM, cmpM, cmpI, ltM, leM, inM, eqF, flatD, isM, Cl.isNon, truM, intM, idxM, slcM, lenM, lstAt, Cl.putAt, isaM, tyM, tyName, lsrcM, zsrcM, srcM, pairM, wipeE, liftP, noRefL, noRef, intsD, blsD, eq1, hl8, hl9]
        refine vals_ok A ?_ fun o9 => ?_
        · intro v hm
          simp at hm
          rcases hm with rfl | rfl | hm | rfl | rfl | rfl | rfl
          · exact plD_prs (by omega)
          · rfl
          · exact hvp v hm
          all_goals simp [plD]
        · simp [gwS, ↓gwE, gwV, gwD, prM, preM, dctAt, keyD, revLM, semO, semI, setTg, seqM, lsM, binM, binL, augM, biM, bnM, cmpM, cmpI, ltM, leM, inM, eqF, flatD, isM, Cl.isNon, truM, intM, idxM, slcM, lenM, lstAt, Cl.putAt, isaM, tyM, tyName, lsrcM, zsrcM, srcM, pairM, wipeE, liftP, noRefL, noRef, intsD, blsD]
          refine go_draw (by decide) (by decide) fun r1 b l1 u1 => ?_
          simp [gwS, ↓gwE, gwV, gwD, prM, preM, dctAt, keyD, revLM, semO, semI, setTg, seqM, lsM, binM, binL, augM, biM, bnM, cmpM, cmpI, ltM, leM, inM, eqF, flatD, isM, Cl.isNon, truM, intM, idxM, slcM, lenM, lstAt, Cl.putAt, isaM, tyM, tyName, lsrcM, zsrcM, srcM, pairM, wipeE, liftP, noRefL, noRef, intsD, blsD]
          refine go_draw (by decide) (by decide) fun r2 b l2 u2 => ?_
          have big : (200000 : Nat) < 2 ^ 2000 := Nat.lt_of_lt_of_le (by decide : 200000 < 2 ^ 18) (Nat.pow_le_pow_right (by decide) (by decide))
          have sh : Sm 2000 hid := Sm.of (b := 200000) (by omega) big
          have sr : Sm 2000 r2 := Sm.of (b := 200000) (by omega) big
          have mo : MulOk hid r2 := Sm.mulOk sh sr
          have hx : hid * r2 = 0 ∨ hid * r2 = hid := by
            have : r2 = 0 ∨ r2 = 1 := by omega
            rcases this with rfl | rfl
            · left; omega
            · right; omega
          have sx : Sm 3000 (r1 - 50 + hid * r2) := (Sm.of (b := 200000) (by omega) big : Sm 2000 _).mono (by decide)
          have el1 := ev_leaves (x := r1 - 50 + hid * r2) sp1 (by omega)
          have el2 := ev_law_leaves sp1 sx (by omega)
          have el3 := ev_leaves (x := hid) sp1 (by omega)
          rw [lvB_iff.mpr hlv] at el3
          have sm := same6 (d := .bl (lvB (r1 - 50 + hid * r2) ps)) (n := 0) rfl (by decide)
          simp [gwS, ↓gwE, gwV, gwD, prM, preM, dctAt, keyD, revLM, semO, semI, setTg, seqM, lsM, binM, binL, augM, biM, bnM, cmpM, cmpI, ltM, leM, inM, eqF, flatD, isM, Cl.isNon, truM, intM, idxM, slcM, lenM, lstAt, Cl.putAt, isaM, tyM, tyName, lsrcM, zsrcM, srcM, pairM, wipeE, liftP, noRefL, noRef, intsD, blsD, mo, el1, el2, el3, sm]
          exact IsBx.mk b []
      · have eq1 : ∀ h, eqM (.tup (rt p :: os.map rt)) (.tup []) h = .ok false h := eq0
        simp [gwS, ↓gwE, gwV, gwD, prM, preM, dctAt, keyD, revLM, semO, semI, setTg, seqM, lsM, binM, binL, augM, biM, bnM, cmpM, cmpI, ltM, leM, inM, eqF, flatD, isM, Cl.isNon, truM, intM, idxM, slcM, lenM, lstAt, Cl.putAt, isaM, tyM, tyName, lsrcM, zsrcM, srcM, pairM, wipeE, liftP, noRefL, noRef, intsD, blsD, eq1, hl8, hl9, revM]
        refine vals_ok A ?_ fun o9 => ?_
        · intro v hm
          simp at hm
          rcases hm with rfl | rfl | hm | rfl | rfl | rfl | rfl
          · exact plD_prs (by omega)
          · exact plD_prs (ps := p :: os) (by simp at *; omega)
          · exact hvp v hm
          all_goals simp [plD]
        · simp [gwS, ↓gwE, gwV, gwD, prM, preM, dctAt, keyD, revLM, semO, semI, setTg, seqM, lsM, binM, binL, augM, biM, bnM, cmpM, cmpI, ltM, leM, inM, eqF, flatD, isM, Cl.isNon, truM, intM, idxM, slcM, lenM, lstAt, Cl.putAt, isaM, tyM, tyName, lsrcM, zsrcM, srcM, pairM, wipeE, liftP, noRefL, noRef, intsD, blsD]
          refine go_draw (by decide) (by decide) fun r1 b l1 u1 => ?_
          simp [gwS, ↓gwE, gwV, gwD, prM, preM, dctAt, keyD, revLM, semO, semI, setTg, seqM, lsM, binM, binL, augM, biM, bnM, cmpM, cmpI, ltM, leM, inM, eqF, flatD, isM, Cl.isNon, truM, intM, idxM, slcM, lenM, lstAt, Cl.putAt, isaM, tyM, tyName, lsrcM, zsrcM, srcM, pairM, wipeE, liftP, noRefL, noRef, intsD, blsD]
          refine go_draw (by decide) (by decide) fun r2 b l2 u2 => ?_
          have big : (200000 : Nat) < 2 ^ 2000 := Nat.lt_of_lt_of_le (by decide : 200000 < 2 ^ 18) (Nat.pow_le_pow_right (by decide) (by decide))
          have sh : Sm 2000 hid := Sm.of (b := 200000) (by omega) big
          have sr : Sm 2000 r2 := Sm.of (b := 200000) (by omega) big
          have mo : MulOk hid r2 := Sm.mulOk sh sr
          have hx : hid * r2 = 0 ∨ hid * r2 = hid := by
            have : r2 = 0 ∨ r2 = 1 := by omega
            rcases this with rfl | rfl
            · left; omega
            · right; omega
          have sx : Sm 3000 (r1 - 50 + hid * r2) := (Sm.of (b := 200000) (by omega) big : Sm 2000 _).mono (by decide)
          have el1 := ev_leaves (x := r1 - 50 + hid * r2) sp1 (by omega)
          have el2 := ev_law_leaves sp1 sx (by omega)
          have el3 := ev_leaves (x := hid) sp1 (by omega)
          rw [lvB_iff.mpr hlv] at el3
          have sm := same6 (d := .bl (lvB (r1 - 50 + hid * r2) ps)) (n := 0) rfl (by decide)
          simp [gwS, ↓gwE, gwV, gwD, prM, preM, dctAt, keyD, revLM, semO, semI, setTg, seqM, lsM, binM, binL, augM, biM, bnM, cmpM, cmpI, ltM, leM, inM, eqF, flatD, isM, Cl.isNon, truM, intM, idxM, slcM, lenM, lstAt, Cl.putAt, isaM, tyM, tyName, lsrcM, zsrcM, srcM, pairM, wipeE, liftP, noRefL, noRef, intsD, blsD, mo, el1, el2, el3, sm]
          exact IsBx.mk b []
  · rintro e h ⟨⟨b, rfl⟩, o2, o3, o4, o5, o6, o7, o8, o9, o10, o11, o12, o13, o14, rfl⟩
    simp [gwS, ↓gwE, gwV, gwD, prM, preM, dctAt, keyD, revLM, semO, semI, setTg, seqM, lsM, binM, binL, augM, biM, bnM, cmpM, cmpI, ltM, leM, inM, eqF, flatD, isM, Cl.isNon, truM, intM, idxM, slcM, lenM, lstAt, Cl.putAt, isaM, tyM, tyName, lsrcM, zsrcM, srcM, pairM, wipeE, liftP, noRefL, noRef, intsD, blsD, ir_law_3]
    refine go_draw (by decide) (by decide) fun r b l u => ?_
    simp [gwS, ↓gwE, gwV, gwD, prM, preM, dctAt, keyD, revLM, semO, semI, setTg, seqM, lsM, binM, binL, augM, biM, bnM, cmpM, cmpI, ltM, leM, inM, eqF, flatD, isM, Cl.isNon, truM, intM, idxM, slcM, lenM, lstAt, Cl.putAt, isaM, tyM, tyName, lsrcM, zsrcM, srcM, pairM, wipeE, liftP, noRefL, noRef, intsD, blsD, ir_law_4]
    have shid : Sm 3000 (r - 1000000000000000000000000000000000000000) := by
      have big : (10000000000000000000000000000000000000000 : Nat) < 2 ^ 3000 := Nat.lt_of_lt_of_le (by decide : 10000000000000000000000000000000000000000 < 2 ^ 140) (Nat.pow_le_pow_right (by decide) (by decide))
      exact Sm.of (b := 10000000000000000000000000000000000000000) (by omega) big
    generalize r - 1000000000000000000000000000000000000000 = hid at shid ⊢
    refine go_stS (IsBx []) rt (fun (n : Int) (p : Int × Int) => p = (hid % n, n)) (fun l : List Int => 1 ≤ l.length ∧ l.length ≤ 16 ∧ ∀ n ∈ l, 1 ≤ n ∧ n ≤ 1000000000000) D.int ?src ?step ?fin
    case src =>
      simp [gwS, ↓gwE, gwV, gwD, prM, preM, dctAt, keyD, revLM, semO, semI, setTg, seqM, lsM, binM, binL, augM, biM, bnM, cmpM, cmpI, ltM, leM, inM, eqF, flatD, isM, Cl.isNon, truM, intM, idxM, slcM, lenM, lstAt, Cl.putAt, isaM, tyM, tyName, lsrcM, zsrcM, srcM, pairM, wipeE, liftP, noRefL, noRef, intsD, blsD]
      refine go_stS (IsBx []) D.int (fun (_ : Nat) (n : Int) => 1 ≤ n ∧ n ≤ 1000000000000) (fun l : List Nat => 1 ≤ l.length ∧ l.length ≤ 16) (fun i : Nat => .int (i : Nat)) ?_ ?_ ?_
      · simp [gwS, ↓gwE, gwV, gwD, prM, preM, dctAt, keyD, revLM, semO, semI, setTg, seqM, lsM, binM, binL, augM, biM, bnM, cmpM, cmpI, ltM, leM, inM, eqF, flatD, isM, Cl.isNon, truM, intM, idxM, slcM, lenM, lstAt, Cl.putAt, isaM, tyM, tyName, lsrcM, zsrcM, srcM, pairM, wipeE, liftP, noRefL, noRef, intsD, blsD]
        refine go_draw (by decide) (by decide) fun r b l u => ?_
        have rg : Rg (1 + r) := ⟨by omega, by omega⟩
        simp [gwS, ↓gwE, gwV, gwD, prM, preM, dctAt, keyD, revLM, semO, semI, setTg, seqM, lsM, binM, binL, augM, biM, bnM, cmpM, cmpI, ltM, leM, inM, eqF, flatD, isM, Cl.isNon, truM, intM, idxM, slcM, lenM, lstAt, Cl.putAt, isaM, tyM, tyName, lsrcM, zsrcM, srcM, pairM, wipeE, liftP, noRefL, noRef, intsD, blsD, rg]
        exact ⟨List.range (1 + r).toNat, rfl, by simp; omega, ⟨by simp; omega, by simp; omega⟩, b, rfl⟩
      · rintro l hl a ha h ⟨b, rfl⟩
        simp [gwS, ↓gwE, gwV, gwD, prM, preM, dctAt, keyD, revLM, semO, semI, setTg, seqM, lsM, binM, binL, augM, biM, bnM, cmpM, cmpI, ltM, leM, inM, eqF, flatD, isM, Cl.isNon, truM, intM, idxM, slcM, lenM, lstAt, Cl.putAt, isaM, tyM, tyName, lsrcM, zsrcM, srcM, pairM, wipeE, liftP, noRefL, noRef, intsD, blsD]
        refine go_draw (by decide) (by decide) fun r b l u => ?_
        simp [gwS, ↓gwE, gwV, gwD, prM, preM, dctAt, keyD, revLM, semO, semI, setTg, seqM, lsM, binM, binL, augM, biM, bnM, cmpM, cmpI, ltM, leM, inM, eqF, flatD, isM, Cl.isNon, truM, intM, idxM, slcM, lenM, lstAt, Cl.putAt, isaM, tyM, tyName, lsrcM, zsrcM, srcM, pairM, wipeE, liftP, noRefL, noRef, intsD, blsD]
        exact ⟨IsBx.mk b [], by omega, by omega⟩
      · rintro l hl nl h ⟨b, rfl⟩ hnl hP
        simp [gwS, ↓gwE, gwV, gwD, prM, preM, dctAt, keyD, revLM, semO, semI, setTg, seqM, lsM, binM, binL, augM, biM, bnM, cmpM, cmpI, ltM, leM, inM, eqF, flatD, isM, Cl.isNon, truM, intM, idxM, slcM, lenM, lstAt, Cl.putAt, isaM, tyM, tyName, lsrcM, zsrcM, srcM, pairM, wipeE, liftP, noRefL, noRef, intsD, blsD]
        refine ⟨by omega, ⟨by omega, by omega, fun n hm => ?_⟩, IsBx.mk b []⟩
        obtain ⟨j, hj, e⟩ := List.mem_iff_getElem.mp hm
        exact hP j l[j] n (List.getElem?_eq_getElem (by omega)) (by rw [List.getElem?_eq_getElem hj, e])
    case step =>
      rintro l ⟨_, _, hl⟩ n hn h ⟨b, rfl⟩
      have h12 := hl n hn
      have e := ev_leftB (a := hid) (n := n) (by omega) (shid.mono (by decide)) (Sm.of (b := 1000000000000) (by omega) (Nat.lt_of_lt_of_le (by decide : 1000000000000 < 2 ^ 41) (Nat.pow_le_pow_right (by decide) (by decide))))
      simp [gwS, ↓gwE, gwV, gwD, prM, preM, dctAt, keyD, revLM, semO, semI, setTg, seqM, lsM, binM, binL, augM, biM, bnM, cmpM, cmpI, ltM, leM, inM, eqF, flatD, isM, Cl.isNon, truM, intM, idxM, slcM, lenM, lstAt, Cl.putAt, isaM, tyM, tyName, lsrcM, zsrcM, srcM, pairM, wipeE, liftP, noRefL, noRef, intsD, blsD, e]
      exact IsBx.mk b []
    case fin =>
      rintro nl ⟨l1, l16, hn12⟩ gs h ⟨b, rfl⟩ hgl hgP
      have hg : ∀ (i : Nat) p, gs[i]? = some p → p = (hid % p.2, p.2) ∧ 1 ≤ p.2 ∧ p.2 ≤ 1000000000000 := fun i p hp => by
        have hi := len_of hp
        have := hgP i nl[i] p (List.getElem?_eq_getElem (by omega)) hp
        have h2 := hn12 nl[i] (List.getElem_mem (by omega))
        subst this
        exact ⟨rfl, h2⟩
      clear hgP
      have hgm : ∀ p ∈ gs, p = (hid % p.2, p.2) ∧ 1 ≤ p.2 ∧ p.2 ≤ 1000000000000 := fun p hp => by
        obtain ⟨i, hi, e⟩ := List.mem_iff_getElem.mp hp
        exact hg i p (by rw [List.getElem?_eq_getElem hi, e])
      have hb : ∀ p ∈ gs, 0 < p.2 ∧ p.2 ≤ 2 ^ 41 ∧ 0 ≤ p.1 ∧ p.1 < p.2 := fun p hp => by
        obtain ⟨e, h1, h2⟩ := hgm p hp
        have := Int.emod_nonneg hid (show p.2 ≠ 0 by omega)
        have := Int.emod_lt_of_pos hid (show 0 < p.2 by omega)
        rw [e]; dsimp only; omega
      have hlv : Crt.Lv hid gs := fun p hp => by
        obtain ⟨e, h1, h2⟩ := hgm p hp
        have := Crt.emod_dvd (x := hid) (n := p.2)
        have e2 : hid - p.1 = -(hid % p.2 - hid) := by rw [e]; dsimp only; omega
        rw [e2, Int.dvd_neg]; exact this
      obtain ⟨sg, sL⟩ := small_of hb (by omega)
      have em := ev_law_multiple sg sL (by omega)
      have Lp : 0 < Crt.lcms gs 1 := Crt.lcms_pos sg.ok (by decide)
      have nb : noBad gs := agr_noBad (Crt.lv_agr hlv)
      obtain ⟨d, e1, q1⟩ := ev_together sg (by omega) sL
      have ed : d = .tup [.str (Str.ofString "all"), rt (Crt.fold facF (0, 1) gs)] := by
        rcases q1 with ⟨_, e⟩ | ⟨i, j, fb, _⟩
        · exact e
        · exact (fstBad_no fb nb).elim
      subst ed
      obtain ⟨b1, b2, b3, b4⟩ := Crt.together_ok facF_ok sg.ok (noBad_agr nb)
      have ef : Crt.fold facF (0, 1) gs = (hid % (Crt.lcms gs 1 : Nat), ((Crt.lcms gs 1 : Nat) : Int)) := by
        refine Prod.ext ?_ b1
        dsimp only
        rw [b1] at b3
        have dv := Crt.lv_unique hlv b4
        have := Int.emod_emod_of_dvd
        have e3 := Int.emod_eq_emod_iff_emod_sub_eq_zero.mpr (Int.emod_eq_zero_of_dvd dv)
        rw [e3, Int.emod_eq_of_lt b2 b3]
      rw [ef] at e1
      have el := ev_leftB (a := hid) (n := (Crt.lcms gs 1 : Nat)) (by omega) (shid.mono (by decide)) (sL.mono (by decide))
      have ea := ev_are_pairs (A := A) (plD_prs (ps := gs) (by omega))
      have ap : arePairs (.tup (gs.map rt)) = true := by
        simp only [arePairs, Bool.and_eq_true, decide_eq_true_eq, List.all_eq_true]
        refine ⟨by simp; omega, fun x hx => ?_⟩
        obtain ⟨p, hp, rfl⟩ := List.mem_map.mp hx
        have h1 := hb p hp
        have h2 := hgm p hp
        simp only [isPair, decide_eq_true_eq]; omega
      rw [ap] at ea
      have sm := same_all (hid % (Crt.lcms gs 1 : Nat), ((Crt.lcms gs 1 : Nat) : Int))
      simp [gwS, ↓gwE, gwV, gwD, prM, preM, dctAt, keyD, revLM, semO, semI, setTg, seqM, lsM, binM, binL, augM, biM, bnM, cmpM, cmpI, ltM, leM, inM, eqF, flatD, isM, Cl.isNon, truM, intM, idxM, slcM, lenM, lstAt, Cl.putAt, isaM, tyM, tyName, lsrcM, zsrcM, srcM, pairM, wipeE, liftP, noRefL, noRef, intsD, blsD, ir_law_5, ir_law_6, em, e1, el, ea, sm, ir_law_7]
      refine go_draw (by omega) (by omega) fun k b l u => ?_
      obtain ⟨k, rfl⟩ := Int.eq_ofNat_of_zero_le l
      have hk : k < gs.length := by omega
      have hk0 : gs[k]? = some gs[k] := List.getElem?_eq_getElem hk
      have mk := hb gs[k] (List.getElem_mem hk)
      have ell := ev_leftB (a := gs[k].1 + 1) (n := gs[k].2) (by omega) (Sm.of (b := 2 ^ 41) (by omega) (Nat.pow_lt_pow_right (by decide) (by decide))) (Sm.of (b := 2 ^ 41) (by omega) (Nat.pow_lt_pow_right (by decide) (by decide)))
      have c1 : cutD (gs.map rt) none (some (k : Int)) = (gs.take k).map rt := by rw [cut_take (by omega)]; simp [List.map_take]
      have c2 : cutD (gs.map rt) (some ((k : Int) + 1)) none = (gs.drop (k + 1)).map rt := by rw [cut_drop (by omega)]; simp [List.map_drop]
      simp [gwS, ↓gwE, gwV, gwD, prM, preM, dctAt, keyD, revLM, semO, semI, setTg, seqM, lsM, binM, binL, augM, biM, bnM, cmpM, cmpI, ltM, leM, inM, eqF, flatD, isM, Cl.isNon, truM, intM, idxM, slcM, lenM, lstAt, Cl.putAt, isaM, tyM, tyName, lsrcM, zsrcM, srcM, pairM, wipeE, liftP, noRefL, noRef, intsD, blsD, ir_law_8, hk0, ell, c1, c2]
      refine ⟨by rw [sizeLine_eq]; omega, by rw [sizeLine_eq]; omega, ?_⟩
      obtain ⟨bs, hbs, hbm, hbv, hbl⟩ : ∃ bs : List (Int × Int), List.take k (gs.map rt) ++ D.tup [D.int ((gs[k].1 + 1) % gs[k].2), D.int gs[k].2] :: List.drop (k + 1) (gs.map rt) = bs.map rt ∧ bs.map (·.2) = gs.map (·.2) ∧ (∀ p ∈ bs, 0 < p.2 ∧ p.2 ≤ 2 ^ 41 ∧ 0 ≤ p.1 ∧ p.1 < p.2) ∧ bs.length = gs.length := by
        refine ⟨gs.set k ((gs[k].1 + 1) % gs[k].2, gs[k].2), ?_, ?_, ?_, by simp⟩
        · rw [List.set_eq_take_append_cons_drop, if_pos hk]; simp [List.map_take, List.map_drop]
        · apply List.ext_getElem (by simp)
          intro i h1 h2
          simp at h1 h2
          simp [List.getElem_set]
          intro z; subst z; rfl
        · intro p hp
          rcases List.mem_or_eq_of_mem_set hp with z | z
          · exact hb p z
          · have := Int.emod_nonneg (gs[k].1 + 1) (show gs[k].2 ≠ 0 by omega)
            have := Int.emod_lt_of_pos (gs[k].1 + 1) (show 0 < gs[k].2 by omega)
            rw [z]; dsimp only; omega
      rw [hbs]
      obtain ⟨sb, sbL⟩ := small_of hbv (by omega)
      have eL : Crt.lcms bs 1 = Crt.lcms gs 1 := lcms_congr hbm 1
      obtain ⟨d, ea1, qa⟩ := ev_law_apart sb (by omega)
      obtain ⟨d', ea2, qb⟩ := ev_together sb (by omega) sbL
      have t0 : p_are_pairs A [.tup (List.replicate 16 (.tup [.int 0, .int 1]))] = .ok (.bl true) := by
        have := ev_are_pairs (A := A) (n := 6) (v := .tup (List.replicate 16 (.tup [.int 0, .int 1]))) (by decide)
        rw [this, show arePairs (.tup (List.replicate 16 (.tup [.int 0, .int 1]))) = true by decide]
      have t1 : p_are_pairs A [.tup (List.replicate 17 (.tup [.int 0, .int 1]))] = .ok (.bl false) := by
        have := ev_are_pairs (A := A) (n := 6) (v := .tup (List.replicate 17 (.tup [.int 0, .int 1]))) (by decide)
        rw [this, show arePairs (.tup (List.replicate 17 (.tup [.int 0, .int 1]))) = false by decide]
      simp only [List.replicate] at t0 t1
      have sm1 : ∀ n : Nat, Sm 1900 (n : Int) → True := fun _ _ => trivial
      obtain ⟨n0, n1⟩ := small_of (ps := []) (by simp) (by simp)
      obtain ⟨d2, et2, q2⟩ := ev_together n0 (by simp) n1
      have ed2 : d2 = .tup [.str (Str.ofString "all"), rt (0, 1)] := by
        rcases q2 with ⟨_, e⟩ | ⟨i, j, ⟨⟨p, q, _, e, _⟩, _⟩, _⟩
        · exact e
        · simp at e
      subst ed2
      obtain ⟨m0, m1⟩ := small_of (ps := [(1, 4), (0, 3), (2, 6)]) (by simp) (by simp)
      obtain ⟨d3, et3, q3⟩ := ev_together m0 (by simp) m1
      have fb3 : fstBad [(1, 4), (0, 3), (2, 6)] 0 2 := by
        refine ⟨⟨(1, 4), (2, 6), by decide, rfl, rfl, by decide⟩, fun i' j' p q h => by omega, fun j' p q h1 h2 e1 e2 => ?_⟩
        have : j' = 1 := by omega
        subst this
        simp at e1 e2
        subst e1; subst e2; decide
      have ed3 : d3 = .tup [.str (Str.ofString "apart"), .int 0, .int 2] := by
        rcases q3 with ⟨nb, _⟩ | ⟨i, j, fb, e⟩
        · exact (fstBad_no fb3 nb).elim
        · obtain ⟨rfl, rfl⟩ := fstBad_one fb3 fb
          exact e
      subst ed3
      have sm2 := same_all (0, 1)
      have sm3 := same_apart 0 2
      have et2' : p_together [.tup []] = _ := et2
      have et3' : p_together [.tup [.tup [.int 1, .int 4], .tup [.int 0, .int 3], .tup [.int 2, .int 6]]] = _ := et3
      have lst : ∀ d d' : D, WS (semS (Gl A) [.int 16] ir_law_12 [some (D.kl (List.map D.int ns)), some (D.ref 1), o2, some (D.int ↑k), some (D.int hid), o5, o6, o7, o8, o9, some (D.int ↑(Crt.lcms gs 1)), some (D.tup (List.map rt gs)), some (.tup (bs.map rt)), some d, some d'] (bxH b [])) (fun x h => False) (fun d x => d = D.bl true) noE noE (fun c fs x h => noX c fs h) := fun d d' => by
        simp [gwS, ↓gwE, gwV, gwD, prM, preM, dctAt, keyD, revLM, semO, semI, setTg, seqM, lsM, binM, binL, augM, biM, bnM, cmpM, cmpI, ltM, leM, inM, eqF, flatD, isM, Cl.isNon, truM, intM, idxM, slcM, lenM, lstAt, Cl.putAt, isaM, tyM, tyName, lsrcM, zsrcM, srcM, pairM, wipeE, liftP, noRefL, noRef, intsD, blsD, Gl, ir_law_12, t0, t1, et2', et3', sm2, sm3]
      unfold Gl at lst
      rcases ap_cases qa qb (fun _ _ => rfl) with ⟨nb2, rfl, rfl⟩ | ⟨i, j, fb, rfl, rfl⟩
      · obtain ⟨c1, c2, c3, c4⟩ := Crt.together_ok facF_ok sb.ok (noBad_agr nb2)
        have sf : Sm 3000 (Crt.fold facF (0, 1) bs).1 := (sbL.of_le (by rw [c1] at c3; omega)).mono (by decide)
        have elv := ev_law_leaves (x := (Crt.fold facF (0, 1) bs).1) sb sf (by omega)
        rw [lvB_iff.mpr c4] at elv
        rw [eL] at c1
        have es : ∀ h, eqM (.str (Str.ofString "all")) (.str (Str.ofString "all")) h = .ok true h := fun h => by
          rw [eqM_str (by decide +kernel) (by decide +kernel)]; simp
        simp [gwS, ↓gwE, gwV, gwD, prM, preM, dctAt, keyD, revLM, semO, semI, setTg, seqM, lsM, binM, binL, augM, biM, bnM, cmpM, cmpI, ltM, leM, inM, eqF, flatD, isM, Cl.isNon, truM, intM, idxM, slcM, lenM, lstAt, Cl.putAt, isaM, tyM, tyName, lsrcM, zsrcM, srcM, pairM, wipeE, liftP, noRefL, noRef, intsD, blsD, ir_law_9, ir_law_10, ir_law_11, ea1, ea2, elv, es, c1]
        exact lst _ _
      · have sm := same_apart i j
        simp [gwS, ↓gwE, gwV, gwD, prM, preM, dctAt, keyD, revLM, semO, semI, setTg, seqM, lsM, binM, binL, augM, biM, bnM, cmpM, cmpI, ltM, leM, inM, eqF, flatD, isM, Cl.isNon, truM, intM, idxM, slcM, lenM, lstAt, Cl.putAt, isaM, tyM, tyName, lsrcM, zsrcM, srcM, pairM, wipeE, liftP, noRefL, noRef, intsD, blsD, ir_law_9, ir_law_10, ir_law_11, ea1, ea2, sm]
        exact lst _ _
end K38
namespace K38
open PySem PySem.Spec PyProof.Rows L2 Cl
/-- what the top has written -/
structure T (K : PySem.W.Frag) (mg : Str → Option Value) (A : Nat → Addr) : Prop where
  nb : ∀ x ∈ bNames, mg x = none
  f_is_whole : FF K mg "is_whole" st_is_whole ["value"]
  f_is_number : FF K mg "is_number" st_is_number ["value", "least", "most"]
  f_is_pair : FF K mg "is_pair" st_is_pair ["value"]
  f_is_tuple_of : FF K mg "is_tuple_of" st_is_tuple_of ["value", "size", "judge"]
  f_divisor_of : FF K mg "divisor_of" st_divisor_of ["numbers"]
  f_steps_to_divisor : FF K mg "steps_to_divisor" st_steps_to_divisor ["a", "b"]
  f_are_pairs : FF K mg "are_pairs" st_are_pairs ["value"]
  f_first_apart : FF K mg "first_apart" st_first_apart ["pairs"]
  f_both : FF K mg "both" st_both ["one", "other"]
  f_together : FF K mg "together" st_together ["pairs"]
  f_leaves : FF K mg "leaves" st_leaves ["number", "pairs"]
  f_law_box : FF K mg "_law_box" st_law_box ["script"]
  f_law_load : FF K mg "_law_load" st_law_load ["box"]
  f_law_draw : FF K mg "_law_draw" st_law_draw ["box", "many"]
  f_law_same : FF K mg "_law_same" st_law_same ["a", "b"]
  f_law_bent : FF K mg "_law_bent" st_law_bent ["box", "value"]
  f_law_shared : FF K mg "_law_shared" st_law_shared ["a", "b"]
  f_law_left : FF K mg "_law_left" st_law_left ["a", "n"]
  f_law_are_pairs : FF K mg "_law_are_pairs" st_law_are_pairs ["value"]
  f_law_multiple : FF K mg "_law_multiple" st_law_multiple ["pairs"]
  f_law_apart : FF K mg "_law_apart" st_law_apart ["pairs"]
  f_law_leaves : FF K mg "_law_leaves" st_law_leaves ["number", "pairs"]
  f_law_small_fine : FF K mg "_law_small_fine" st_law_small_fine ["pairs"]
  f_law : FF K mg "law" st_law ["script"]
  c_is_pair : mg "is_pair" = some (.ref (A 6))
  v_MAX_PAIRS : ∃ t, mg "MAX_PAIRS" = some (.int 16 t)
section
variable {P : Program} {w : World} {K : PySem.W.Frag} {mg : Str → Option Value} {base : Heap} {A : Nat → Addr}
theorem at_is_whole (t : T K mg A) : FnAt P w K mg base 1 "is_whole" (liftP p_is_whole) := (fnAt t.f_is_whole sc_is_whole ok_is_whole t.nb fs_none cf_nil rfl).imp lift_sub
theorem at_is_number (t : T K mg A) : FnAt P w K mg base 2 "is_number" (liftP p_is_number) := (fnAt t.f_is_number sc_is_number ok_is_number t.nb (fs_cons ((at_is_whole t).mono (by decide)) fs_none) cf_nil rfl).imp lift_sub
theorem at_is_pair (t : T K mg A) : FnAt P w K mg base 3 "is_pair" (liftP p_is_pair) := (fnAt t.f_is_pair sc_is_pair ok_is_pair t.nb (fs_cons ((at_is_number t).mono (by decide)) fs_none) cf_nil rfl).imp lift_sub
theorem cf_is_tuple_of (t : T K mg A) : ClsF K mg ck_is_tuple_of [.ob (A 6)] := by
  refine ⟨(gcs_cons (gc_cls t.c_is_pair) gcs_nil), fun j h a q => ?_, fun j k h a q => ?_, fun j ks b h a q => ?_⟩
  · simp [ck_is_tuple_of] at h
  · simp [ck_is_tuple_of] at h
  · simp [ck_is_tuple_of] at h
theorem at_is_tuple_of (t : T K mg A) : FnAt P w K mg base 4 "is_tuple_of" (liftP (p_is_tuple_of A)) := (fnAt t.f_is_tuple_of sc_is_tuple_of ok_is_tuple_of t.nb (fs_cons ((at_is_pair t).mono (by decide)) fs_none) (cf_is_tuple_of t) rfl).imp lift_sub
theorem at_divisor_of (t : T K mg A) : FnAt P w K mg base 1 "divisor_of" (liftP p_divisor_of) := (fnAt t.f_divisor_of sc_divisor_of ok_divisor_of t.nb fs_none cf_nil rfl).imp lift_sub
theorem at_steps_to_divisor (t : T K mg A) : FnAt P w K mg base 1 "steps_to_divisor" (liftP p_steps_to_divisor) := (fnAt t.f_steps_to_divisor sc_steps_to_divisor ok_steps_to_divisor t.nb fs_none cf_nil rfl).imp lift_sub
theorem cf_are_pairs (t : T K mg A) : ClsF K mg ck_are_pairs [.int 16, .ob (A 6)] := by
  refine ⟨(gcs_cons (gc_intE t.v_MAX_PAIRS) (gcs_cons (gc_cls t.c_is_pair) gcs_nil)), fun j h a q => ?_, fun j k h a q => ?_, fun j ks b h a q => ?_⟩
  · simp [ck_are_pairs] at h
  · simp [ck_are_pairs] at h
  · simp [ck_are_pairs] at h
theorem at_are_pairs (t : T K mg A) : FnAt P w K mg base 5 "are_pairs" (liftP (p_are_pairs A)) := (fnAt t.f_are_pairs sc_are_pairs ok_are_pairs t.nb (fs_cons ((at_is_tuple_of t).mono (by decide)) fs_none) (cf_are_pairs t) rfl).imp lift_sub
theorem at_first_apart (t : T K mg A) : FnAt P w K mg base 2 "first_apart" (liftP p_first_apart) := (fnAt t.f_first_apart sc_first_apart ok_first_apart t.nb (fs_cons ((at_divisor_of t).mono (by decide)) fs_none) cf_nil rfl).imp lift_sub
theorem at_both (t : T K mg A) : FnAt P w K mg base 2 "both" (liftP p_both) := (fnAt t.f_both sc_both ok_both t.nb (fs_cons ((at_steps_to_divisor t).mono (by decide)) fs_none) cf_nil rfl).imp lift_sub
theorem at_together (t : T K mg A) : FnAt P w K mg base 3 "together" (liftP p_together) := (fnAt t.f_together sc_together ok_together t.nb (fs_cons ((at_first_apart t).mono (by decide)) (fs_cons ((at_both t).mono (by decide)) fs_none)) cf_nil rfl).imp lift_sub
theorem at_leaves (t : T K mg A) : FnAt P w K mg base 1 "leaves" (liftP p_leaves) := (fnAt t.f_leaves sc_leaves ok_leaves t.nb fs_none cf_nil rfl).imp lift_sub
theorem at_law_box (t : T K mg A) : FnAt P w K mg base 1 "_law_box" g_law_box := fnAt t.f_law_box sc_law_box ok_law_box t.nb fs_none cf_nil rfl
theorem at_law_load (t : T K mg A) : FnAt P w K mg base 1 "_law_load" g_law_load := fnAt t.f_law_load sc_law_load ok_law_load t.nb fs_none cf_nil rfl
theorem at_law_draw (t : T K mg A) : FnAt P w K mg base 2 "_law_draw" g_law_draw := fnAt t.f_law_draw sc_law_draw ok_law_draw t.nb (fs_cons ((at_law_load t).mono (by decide)) fs_none) cf_nil rfl
theorem at_law_same_n (t : T K mg A) : ∀ n : Nat, FnAt P w K mg base (0 + n) "_law_same" (liftP (p_law_same n))
  | 0 => (fnAt_bad t.f_law_same).imp (Sub.of_eq fun ds hc h => absurd (by unfold liftP; split <;> (try rfl) <;> (split <;> rfl)) h)
  | n + 1 => (fnAt t.f_law_same sc_law_same ok_law_same t.nb (fs_cons (at_law_same_n t n) fs_none) cf_nil rfl).imp lift_sub
theorem at_law_same (t : T K mg A) : FnAt P w K mg base 6 "_law_same" (liftP (p_law_same 6)) := at_law_same_n t 6
theorem at_law_bent_n (t : T K mg A) : ∀ n : Nat, FnAt P w K mg base (2 + n) "_law_bent" (g_law_bent n)
  | 0 => fnAt_bad t.f_law_bent
  | n + 1 => fnAt t.f_law_bent sc_law_bent ok_law_bent t.nb (fs_cons ((at_law_draw t).mono (Nat.le_trans (by decide) (Nat.le_add_right 2 n))) (fs_cons (at_law_bent_n t n) fs_none)) cf_nil rfl
theorem at_law_bent (t : T K mg A) : FnAt P w K mg base 8 "_law_bent" (g_law_bent 6) := at_law_bent_n t 6
theorem at_law_shared (t : T K mg A) : FnAt P w K mg base 1 "_law_shared" (liftP p_law_shared) := (fnAt t.f_law_shared sc_law_shared ok_law_shared t.nb fs_none cf_nil rfl).imp lift_sub
theorem at_law_left (t : T K mg A) : FnAt P w K mg base 1 "_law_left" (liftP p_law_left) := (fnAt t.f_law_left sc_law_left ok_law_left t.nb fs_none cf_nil rfl).imp lift_sub
theorem at_law_are_pairs (t : T K mg A) : FnAt P w K mg base 1 "_law_are_pairs" (liftP p_law_are_pairs) := (fnAt t.f_law_are_pairs sc_law_are_pairs ok_law_are_pairs t.nb fs_none cf_nil rfl).imp lift_sub
theorem at_law_multiple (t : T K mg A) : FnAt P w K mg base 2 "_law_multiple" (liftP p_law_multiple) := (fnAt t.f_law_multiple sc_law_multiple ok_law_multiple t.nb (fs_cons ((at_law_shared t).mono (by decide)) fs_none) cf_nil rfl).imp lift_sub
theorem at_law_apart (t : T K mg A) : FnAt P w K mg base 2 "_law_apart" (liftP p_law_apart) := (fnAt t.f_law_apart sc_law_apart ok_law_apart t.nb (fs_cons ((at_law_left t).mono (by decide)) (fs_cons ((at_law_shared t).mono (by decide)) fs_none)) cf_nil rfl).imp lift_sub
theorem at_law_leaves (t : T K mg A) : FnAt P w K mg base 2 "_law_leaves" (liftP p_law_leaves) := (fnAt t.f_law_leaves sc_law_leaves ok_law_leaves t.nb (fs_cons ((at_law_left t).mono (by decide)) fs_none) cf_nil rfl).imp lift_sub
theorem at_law_small_fine (t : T K mg A) : FnAt P w K mg base 7 "_law_small_fine" (liftP p_law_small_fine) := (fnAt t.f_law_small_fine sc_law_small_fine ok_law_small_fine t.nb (fs_cons ((at_law_multiple t).mono (by decide)) (fs_cons ((at_law_leaves t).mono (by decide)) (fs_cons ((at_law_apart t).mono (by decide)) (fs_cons ((at_law_same t).mono (by decide)) (fs_cons ((at_together t).mono (by decide)) fs_none))))) cf_nil rfl).imp lift_sub
theorem cf_law (t : T K mg A) : ClsF K mg ck_law [.int 16] := by
  refine ⟨(gcs_cons (gc_intE t.v_MAX_PAIRS) gcs_nil), fun j h a q => ?_, fun j k h a q => ?_, fun j ks b h a q => ?_⟩
  · simp [ck_law] at h
  · simp [ck_law] at h
  · simp [ck_law] at h
theorem ok_the_law {fa : Addr} {fd : FuncData} (t : T K mg A) (F : Fun K "law" "law" st_law fa fd) : FnOk P w K mg base (L2.CX P w) 9 fa fd ["script"] (spC K (g_law A)) := fnOk F sc_law ok_law t.nb (fs_cons ((at_law_box t).mono (by decide)) (fs_cons ((at_law_draw t).mono (by decide)) (fs_cons ((at_law_left t).mono (by decide)) (fs_cons ((at_law_small_fine t).mono (by decide)) (fs_cons ((at_law_bent t).mono (by decide)) (fs_cons ((at_law_same t).mono (by decide)) (fs_cons ((at_are_pairs t).mono (by decide)) (fs_cons ((at_law_are_pairs t).mono (by decide)) (fs_cons ((at_leaves t).mono (by decide)) (fs_cons ((at_law_leaves t).mono (by decide)) (fs_cons ((at_law_multiple t).mono (by decide)) (fs_cons ((at_together t).mono (by decide)) (fs_cons ((at_law_apart t).mono (by decide)) fs_none))))))))))))) (cf_law t) rfl
end
theorem all_mk {l : PySem.W.OpenLaw} {w : World} {K : PySem.W.Frag} {h : Heap} {mg : Str → Option Value} {fa : Addr} (X : K.In h) (G : h.Ns mainGlobals mg) (hfa : mg "law" = some (.ref fa))
    {f0 : Addr} {od0 an0 : Option Addr} {sl0 : Array (Option Value)} {oc0 kV0 dc0 pm0 cd0 ct0 : Value}
    {f1 : Addr} {od1 an1 : Option Addr} {sl1 : Array (Option Value)} {oc1 kV1 dc1 pm1 cd1 ct1 : Value}
    {f2 : Addr} {od2 an2 : Option Addr} {sl2 : Array (Option Value)} {oc2 kV2 dc2 pm2 cd2 ct2 : Value}
    {f3 : Addr} {od3 an3 : Option Addr} {sl3 : Array (Option Value)} {oc3 kV3 dc3 pm3 cd3 ct3 : Value}
    {f4 : Addr} {od4 an4 : Option Addr} {sl4 : Array (Option Value)} {oc4 kV4 dc4 pm4 cd4 ct4 : Value}
    {f5 : Addr} {od5 an5 : Option Addr} {sl5 : Array (Option Value)} {oc5 kV5 dc5 pm5 cd5 ct5 : Value}
    {f6 : Addr} {od6 an6 : Option Addr} {sl6 : Array (Option Value)} {oc6 kV6 dc6 pm6 cd6 ct6 : Value}
    {f7 : Addr} {od7 an7 : Option Addr} {sl7 : Array (Option Value)} {oc7 kV7 dc7 pm7 cd7 ct7 : Value}
    {f8 : Addr} {od8 an8 : Option Addr} {sl8 : Array (Option Value)} {oc8 kV8 dc8 pm8 cd8 ct8 : Value}
    {f9 : Addr} {od9 an9 : Option Addr} {sl9 : Array (Option Value)} {oc9 kV9 dc9 pm9 cd9 ct9 : Value}
    {f10 : Addr} {od10 an10 : Option Addr} {sl10 : Array (Option Value)} {oc10 kV10 dc10 pm10 cd10 ct10 : Value}
    {f11 : Addr} {od11 an11 : Option Addr} {sl11 : Array (Option Value)} {oc11 kV11 dc11 pm11 cd11 ct11 : Value}
    {f12 : Addr} {od12 an12 : Option Addr} {sl12 : Array (Option Value)} {oc12 kV12 dc12 pm12 cd12 ct12 : Value}
    {f13 : Addr} {od13 an13 : Option Addr} {sl13 : Array (Option Value)} {oc13 kV13 dc13 pm13 cd13 ct13 : Value}
    {f14 : Addr} {od14 an14 : Option Addr} {sl14 : Array (Option Value)} {oc14 kV14 dc14 pm14 cd14 ct14 : Value}
    {f15 : Addr} {od15 an15 : Option Addr} {sl15 : Array (Option Value)} {oc15 kV15 dc15 pm15 cd15 ct15 : Value}
    {f16 : Addr} {od16 an16 : Option Addr} {sl16 : Array (Option Value)} {oc16 kV16 dc16 pm16 cd16 ct16 : Value}
    {f17 : Addr} {od17 an17 : Option Addr} {sl17 : Array (Option Value)} {oc17 kV17 dc17 pm17 cd17 ct17 : Value}
    {f18 : Addr} {od18 an18 : Option Addr} {sl18 : Array (Option Value)} {oc18 kV18 dc18 pm18 cd18 ct18 : Value}
    {f19 : Addr} {od19 an19 : Option Addr} {sl19 : Array (Option Value)} {oc19 kV19 dc19 pm19 cd19 ct19 : Value}
    {f20 : Addr} {od20 an20 : Option Addr} {sl20 : Array (Option Value)} {oc20 kV20 dc20 pm20 cd20 ct20 : Value}
    {f21 : Addr} {od21 an21 : Option Addr} {sl21 : Array (Option Value)} {oc21 kV21 dc21 pm21 cd21 ct21 : Value}
    {f22 : Addr} {od22 an22 : Option Addr} {sl22 : Array (Option Value)} {oc22 kV22 dc22 pm22 cd22 ct22 : Value}
    {f23 : Addr} {od23 an23 : Option Addr} {sl23 : Array (Option Value)} {oc23 kV23 dc23 pm23 cd23 ct23 : Value}
    {C6 : Addr}
    {w0 : Tok}
    (a0 : PySem.W.nsIn K mainGlobals "is_whole" = some (some (.ref f0)))
    (l0 : K.lookup f0 = some ⟨oc0, od0, .func (PySem.W.fnOf "is_whole" "is_whole" (defArgs st_is_whole) (defBody st_is_whole) (defScope st_is_whole) .none kV0 dc0 pm0 an0 cd0 ct0), sl0⟩)
    (c0 : PySem.W.codeIn K cd0 "is_whole" = true)
    (k0 : PySem.W.keepIn K (.ref f0) = true)
    (a1 : PySem.W.nsIn K mainGlobals "is_number" = some (some (.ref f1)))
    (l1 : K.lookup f1 = some ⟨oc1, od1, .func (PySem.W.fnOf "is_number" "is_number" (defArgs st_is_number) (defBody st_is_number) (defScope st_is_number) .none kV1 dc1 pm1 an1 cd1 ct1), sl1⟩)
    (c1 : PySem.W.codeIn K cd1 "is_number" = true)
    (k1 : PySem.W.keepIn K (.ref f1) = true)
    (a2 : PySem.W.nsIn K mainGlobals "is_pair" = some (some (.ref f2)))
    (l2 : K.lookup f2 = some ⟨oc2, od2, .func (PySem.W.fnOf "is_pair" "is_pair" (defArgs st_is_pair) (defBody st_is_pair) (defScope st_is_pair) .none kV2 dc2 pm2 an2 cd2 ct2), sl2⟩)
    (c2 : PySem.W.codeIn K cd2 "is_pair" = true)
    (k2 : PySem.W.keepIn K (.ref f2) = true)
    (a3 : PySem.W.nsIn K mainGlobals "is_tuple_of" = some (some (.ref f3)))
    (l3 : K.lookup f3 = some ⟨oc3, od3, .func (PySem.W.fnOf "is_tuple_of" "is_tuple_of" (defArgs st_is_tuple_of) (defBody st_is_tuple_of) (defScope st_is_tuple_of) .none kV3 dc3 pm3 an3 cd3 ct3), sl3⟩)
    (c3 : PySem.W.codeIn K cd3 "is_tuple_of" = true)
    (k3 : PySem.W.keepIn K (.ref f3) = true)
    (a4 : PySem.W.nsIn K mainGlobals "divisor_of" = some (some (.ref f4)))
    (l4 : K.lookup f4 = some ⟨oc4, od4, .func (PySem.W.fnOf "divisor_of" "divisor_of" (defArgs st_divisor_of) (defBody st_divisor_of) (defScope st_divisor_of) .none kV4 dc4 pm4 an4 cd4 ct4), sl4⟩)
    (c4 : PySem.W.codeIn K cd4 "divisor_of" = true)
    (k4 : PySem.W.keepIn K (.ref f4) = true)
    (a5 : PySem.W.nsIn K mainGlobals "steps_to_divisor" = some (some (.ref f5)))
    (l5 : K.lookup f5 = some ⟨oc5, od5, .func (PySem.W.fnOf "steps_to_divisor" "steps_to_divisor" (defArgs st_steps_to_divisor) (defBody st_steps_to_divisor) (defScope st_steps_to_divisor) .none kV5 dc5 pm5 an5 cd5 ct5), sl5⟩)
    (c5 : PySem.W.codeIn K cd5 "steps_to_divisor" = true)
    (k5 : PySem.W.keepIn K (.ref f5) = true)
    (a6 : PySem.W.nsIn K mainGlobals "are_pairs" = some (some (.ref f6)))
    (l6 : K.lookup f6 = some ⟨oc6, od6, .func (PySem.W.fnOf "are_pairs" "are_pairs" (defArgs st_are_pairs) (defBody st_are_pairs) (defScope st_are_pairs) .none kV6 dc6 pm6 an6 cd6 ct6), sl6⟩)
    (c6 : PySem.W.codeIn K cd6 "are_pairs" = true)
    (k6 : PySem.W.keepIn K (.ref f6) = true)
    (a7 : PySem.W.nsIn K mainGlobals "first_apart" = some (some (.ref f7)))
    (l7 : K.lookup f7 = some ⟨oc7, od7, .func (PySem.W.fnOf "first_apart" "first_apart" (defArgs st_first_apart) (defBody st_first_apart) (defScope st_first_apart) .none kV7 dc7 pm7 an7 cd7 ct7), sl7⟩)
    (c7 : PySem.W.codeIn K cd7 "first_apart" = true)
    (k7 : PySem.W.keepIn K (.ref f7) = true)
    (a8 : PySem.W.nsIn K mainGlobals "both" = some (some (.ref f8)))
    (l8 : K.lookup f8 = some ⟨oc8, od8, .func (PySem.W.fnOf "both" "both" (defArgs st_both) (defBody st_both) (defScope st_both) .none kV8 dc8 pm8 an8 cd8 ct8), sl8⟩)
    (c8 : PySem.W.codeIn K cd8 "both" = true)
    (k8 : PySem.W.keepIn K (.ref f8) = true)
    (a9 : PySem.W.nsIn K mainGlobals "together" = some (some (.ref f9)))
    (l9 : K.lookup f9 = some ⟨oc9, od9, .func (PySem.W.fnOf "together" "together" (defArgs st_together) (defBody st_together) (defScope st_together) .none kV9 dc9 pm9 an9 cd9 ct9), sl9⟩)
    (c9 : PySem.W.codeIn K cd9 "together" = true)
    (k9 : PySem.W.keepIn K (.ref f9) = true)
    (a10 : PySem.W.nsIn K mainGlobals "leaves" = some (some (.ref f10)))
    (l10 : K.lookup f10 = some ⟨oc10, od10, .func (PySem.W.fnOf "leaves" "leaves" (defArgs st_leaves) (defBody st_leaves) (defScope st_leaves) .none kV10 dc10 pm10 an10 cd10 ct10), sl10⟩)
    (c10 : PySem.W.codeIn K cd10 "leaves" = true)
    (k10 : PySem.W.keepIn K (.ref f10) = true)
    (a11 : PySem.W.nsIn K mainGlobals "_law_box" = some (some (.ref f11)))
    (l11 : K.lookup f11 = some ⟨oc11, od11, .func (PySem.W.fnOf "_law_box" "_law_box" (defArgs st_law_box) (defBody st_law_box) (defScope st_law_box) .none kV11 dc11 pm11 an11 cd11 ct11), sl11⟩)
    (c11 : PySem.W.codeIn K cd11 "_law_box" = true)
    (k11 : PySem.W.keepIn K (.ref f11) = true)
    (a12 : PySem.W.nsIn K mainGlobals "_law_load" = some (some (.ref f12)))
    (l12 : K.lookup f12 = some ⟨oc12, od12, .func (PySem.W.fnOf "_law_load" "_law_load" (defArgs st_law_load) (defBody st_law_load) (defScope st_law_load) .none kV12 dc12 pm12 an12 cd12 ct12), sl12⟩)
    (c12 : PySem.W.codeIn K cd12 "_law_load" = true)
    (k12 : PySem.W.keepIn K (.ref f12) = true)
    (a13 : PySem.W.nsIn K mainGlobals "_law_draw" = some (some (.ref f13)))
    (l13 : K.lookup f13 = some ⟨oc13, od13, .func (PySem.W.fnOf "_law_draw" "_law_draw" (defArgs st_law_draw) (defBody st_law_draw) (defScope st_law_draw) .none kV13 dc13 pm13 an13 cd13 ct13), sl13⟩)
    (c13 : PySem.W.codeIn K cd13 "_law_draw" = true)
    (k13 : PySem.W.keepIn K (.ref f13) = true)
    (a14 : PySem.W.nsIn K mainGlobals "_law_same" = some (some (.ref f14)))
    (l14 : K.lookup f14 = some ⟨oc14, od14, .func (PySem.W.fnOf "_law_same" "_law_same" (defArgs st_law_same) (defBody st_law_same) (defScope st_law_same) .none kV14 dc14 pm14 an14 cd14 ct14), sl14⟩)
    (c14 : PySem.W.codeIn K cd14 "_law_same" = true)
    (k14 : PySem.W.keepIn K (.ref f14) = true)
    (a15 : PySem.W.nsIn K mainGlobals "_law_bent" = some (some (.ref f15)))
    (l15 : K.lookup f15 = some ⟨oc15, od15, .func (PySem.W.fnOf "_law_bent" "_law_bent" (defArgs st_law_bent) (defBody st_law_bent) (defScope st_law_bent) .none kV15 dc15 pm15 an15 cd15 ct15), sl15⟩)
    (c15 : PySem.W.codeIn K cd15 "_law_bent" = true)
    (k15 : PySem.W.keepIn K (.ref f15) = true)
    (a16 : PySem.W.nsIn K mainGlobals "_law_shared" = some (some (.ref f16)))
    (l16 : K.lookup f16 = some ⟨oc16, od16, .func (PySem.W.fnOf "_law_shared" "_law_shared" (defArgs st_law_shared) (defBody st_law_shared) (defScope st_law_shared) .none kV16 dc16 pm16 an16 cd16 ct16), sl16⟩)
    (c16 : PySem.W.codeIn K cd16 "_law_shared" = true)
    (k16 : PySem.W.keepIn K (.ref f16) = true)
    (a17 : PySem.W.nsIn K mainGlobals "_law_left" = some (some (.ref f17)))
    (l17 : K.lookup f17 = some ⟨oc17, od17, .func (PySem.W.fnOf "_law_left" "_law_left" (defArgs st_law_left) (defBody st_law_left) (defScope st_law_left) .none kV17 dc17 pm17 an17 cd17 ct17), sl17⟩)
    (c17 : PySem.W.codeIn K cd17 "_law_left" = true)
    (k17 : PySem.W.keepIn K (.ref f17) = true)
    (a18 : PySem.W.nsIn K mainGlobals "_law_are_pairs" = some (some (.ref f18)))
    (l18 : K.lookup f18 = some ⟨oc18, od18, .func (PySem.W.fnOf "_law_are_pairs" "_law_are_pairs" (defArgs st_law_are_pairs) (defBody st_law_are_pairs) (defScope st_law_are_pairs) .none kV18 dc18 pm18 an18 cd18 ct18), sl18⟩)
    (c18 : PySem.W.codeIn K cd18 "_law_are_pairs" = true)
    (k18 : PySem.W.keepIn K (.ref f18) = true)
    (a19 : PySem.W.nsIn K mainGlobals "_law_multiple" = some (some (.ref f19)))
    (l19 : K.lookup f19 = some ⟨oc19, od19, .func (PySem.W.fnOf "_law_multiple" "_law_multiple" (defArgs st_law_multiple) (defBody st_law_multiple) (defScope st_law_multiple) .none kV19 dc19 pm19 an19 cd19 ct19), sl19⟩)
    (c19 : PySem.W.codeIn K cd19 "_law_multiple" = true)
    (k19 : PySem.W.keepIn K (.ref f19) = true)
    (a20 : PySem.W.nsIn K mainGlobals "_law_apart" = some (some (.ref f20)))
    (l20 : K.lookup f20 = some ⟨oc20, od20, .func (PySem.W.fnOf "_law_apart" "_law_apart" (defArgs st_law_apart) (defBody st_law_apart) (defScope st_law_apart) .none kV20 dc20 pm20 an20 cd20 ct20), sl20⟩)
    (c20 : PySem.W.codeIn K cd20 "_law_apart" = true)
    (k20 : PySem.W.keepIn K (.ref f20) = true)
    (a21 : PySem.W.nsIn K mainGlobals "_law_leaves" = some (some (.ref f21)))
    (l21 : K.lookup f21 = some ⟨oc21, od21, .func (PySem.W.fnOf "_law_leaves" "_law_leaves" (defArgs st_law_leaves) (defBody st_law_leaves) (defScope st_law_leaves) .none kV21 dc21 pm21 an21 cd21 ct21), sl21⟩)
    (c21 : PySem.W.codeIn K cd21 "_law_leaves" = true)
    (k21 : PySem.W.keepIn K (.ref f21) = true)
    (a22 : PySem.W.nsIn K mainGlobals "_law_small_fine" = some (some (.ref f22)))
    (l22 : K.lookup f22 = some ⟨oc22, od22, .func (PySem.W.fnOf "_law_small_fine" "_law_small_fine" (defArgs st_law_small_fine) (defBody st_law_small_fine) (defScope st_law_small_fine) .none kV22 dc22 pm22 an22 cd22 ct22), sl22⟩)
    (c22 : PySem.W.codeIn K cd22 "_law_small_fine" = true)
    (k22 : PySem.W.keepIn K (.ref f22) = true)
    (a23 : PySem.W.nsIn K mainGlobals "law" = some (some (.ref f23)))
    (l23 : K.lookup f23 = some ⟨oc23, od23, .func (PySem.W.fnOf "law" "law" (defArgs st_law) (defBody st_law) (defScope st_law) .none kV23 dc23 pm23 an23 cd23 ct23), sl23⟩)
    (c23 : PySem.W.codeIn K cd23 "law" = true)
    (k23 : PySem.W.keepIn K (.ref f23) = true)
    (z0 : PySem.W.nsIn K mainGlobals "len" = some none)
    (z1 : PySem.W.nsIn K mainGlobals "abs" = some none)
    (z2 : PySem.W.nsIn K mainGlobals "min" = some none)
    (z3 : PySem.W.nsIn K mainGlobals "max" = some none)
    (z4 : PySem.W.nsIn K mainGlobals "sum" = some none)
    (z5 : PySem.W.nsIn K mainGlobals "all" = some none)
    (z6 : PySem.W.nsIn K mainGlobals "any" = some none)
    (z7 : PySem.W.nsIn K mainGlobals "int" = some none)
    (z8 : PySem.W.nsIn K mainGlobals "str" = some none)
    (z9 : PySem.W.nsIn K mainGlobals "tuple" = some none)
    (z10 : PySem.W.nsIn K mainGlobals "ord" = some none)
    (z11 : PySem.W.nsIn K mainGlobals "chr" = some none)
    (z12 : PySem.W.nsIn K mainGlobals "bool" = some none)
    (z13 : PySem.W.nsIn K mainGlobals "list" = some none)
    (z14 : PySem.W.nsIn K mainGlobals "sorted" = some none)
    (z15 : PySem.W.nsIn K mainGlobals "isinstance" = some none)
    (z16 : PySem.W.nsIn K mainGlobals "range" = some none)
    (z17 : PySem.W.nsIn K mainGlobals "zip" = some none)
    (z18 : PySem.W.nsIn K mainGlobals "enumerate" = some none)
    (z19 : PySem.W.nsIn K mainGlobals "dict" = some none)
    (ca6 : PySem.W.nsIn K mainGlobals "is_pair" = some (some (.ref C6)))
    (v0 : PySem.W.nsIn K mainGlobals "MAX_PAIRS" = some (some (.int 16 w0)))
    : ∃ fd : FuncData, (∀ (s : Shared) (v : Value), BindsTo s fd ⟨[v], []⟩ [("script", v)]) ∧ ∀ base : Heap, K.In base → base.Ns mainGlobals mg → FnOk l.prog w K mg base (L2.CX l.prog w) 9 fa fd ["script"] (specLaw K) := by
  have e := hfa.symm.trans (PySem.W.mg_of X G a23)
  cases e
  have t : T K mg (fun i => ([0, 0, 0, 0, 0, 0, C6] : List Addr).getD i 0) := by
    refine ⟨?_, ?_, ?_, ?_, ?_, ?_, ?_, ?_, ?_, ?_, ?_, ?_, ?_, ?_, ?_, ?_, ?_, ?_, ?_, ?_, ?_, ?_, ?_, ?_, ?_, ?_, ?_⟩
    · intro x hx
      simp only [bNames, List.mem_cons, List.not_mem_nil, or_false] at hx
      rcases hx with hx | hx | hx | hx | hx | hx | hx | hx | hx | hx | hx | hx | hx | hx | hx | hx | hx | hx | hx | hx
      · rw [hx]; exact PySem.W.mg_none_of X G z0
      · rw [hx]; exact PySem.W.mg_none_of X G z1
      · rw [hx]; exact PySem.W.mg_none_of X G z2
      · rw [hx]; exact PySem.W.mg_none_of X G z3
      · rw [hx]; exact PySem.W.mg_none_of X G z4
      · rw [hx]; exact PySem.W.mg_none_of X G z5
      · rw [hx]; exact PySem.W.mg_none_of X G z6
      · rw [hx]; exact PySem.W.mg_none_of X G z7
      · rw [hx]; exact PySem.W.mg_none_of X G z8
      · rw [hx]; exact PySem.W.mg_none_of X G z9
      · rw [hx]; exact PySem.W.mg_none_of X G z10
      · rw [hx]; exact PySem.W.mg_none_of X G z11
      · rw [hx]; exact PySem.W.mg_none_of X G z12
      · rw [hx]; exact PySem.W.mg_none_of X G z13
      · rw [hx]; exact PySem.W.mg_none_of X G z14
      · rw [hx]; exact PySem.W.mg_none_of X G z15
      · rw [hx]; exact PySem.W.mg_none_of X G z16
      · rw [hx]; exact PySem.W.mg_none_of X G z17
      · rw [hx]; exact PySem.W.mg_none_of X G z18
      · rw [hx]; exact PySem.W.mg_none_of X G z19
    · exact (ff_mk X G a0 l0 c0 k0 (fun _ _ _ _ _ _ us hl => match us, hl with | [_], _ => rfl))
    · exact (ff_mk X G a1 l1 c1 k1 (fun _ _ _ _ _ _ us hl => match us, hl with | [_, _, _], _ => rfl))
    · exact (ff_mk X G a2 l2 c2 k2 (fun _ _ _ _ _ _ us hl => match us, hl with | [_], _ => rfl))
    · exact (ff_mk X G a3 l3 c3 k3 (fun _ _ _ _ _ _ us hl => match us, hl with | [_, _, _], _ => rfl))
    · exact (ff_mk X G a4 l4 c4 k4 (fun _ _ _ _ _ _ us hl => match us, hl with | [_], _ => rfl))
    · exact (ff_mk X G a5 l5 c5 k5 (fun _ _ _ _ _ _ us hl => match us, hl with | [_, _], _ => rfl))
    · exact (ff_mk X G a6 l6 c6 k6 (fun _ _ _ _ _ _ us hl => match us, hl with | [_], _ => rfl))
    · exact (ff_mk X G a7 l7 c7 k7 (fun _ _ _ _ _ _ us hl => match us, hl with | [_], _ => rfl))
    · exact (ff_mk X G a8 l8 c8 k8 (fun _ _ _ _ _ _ us hl => match us, hl with | [_, _], _ => rfl))
    · exact (ff_mk X G a9 l9 c9 k9 (fun _ _ _ _ _ _ us hl => match us, hl with | [_], _ => rfl))
    · exact (ff_mk X G a10 l10 c10 k10 (fun _ _ _ _ _ _ us hl => match us, hl with | [_, _], _ => rfl))
    · exact (ff_mk X G a11 l11 c11 k11 (fun _ _ _ _ _ _ us hl => match us, hl with | [_], _ => rfl))
    · exact (ff_mk X G a12 l12 c12 k12 (fun _ _ _ _ _ _ us hl => match us, hl with | [_], _ => rfl))
    · exact (ff_mk X G a13 l13 c13 k13 (fun _ _ _ _ _ _ us hl => match us, hl with | [_, _], _ => rfl))
    · exact (ff_mk X G a14 l14 c14 k14 (fun _ _ _ _ _ _ us hl => match us, hl with | [_, _], _ => rfl))
    · exact (ff_mk X G a15 l15 c15 k15 (fun _ _ _ _ _ _ us hl => match us, hl with | [_, _], _ => rfl))
    · exact (ff_mk X G a16 l16 c16 k16 (fun _ _ _ _ _ _ us hl => match us, hl with | [_, _], _ => rfl))
    · exact (ff_mk X G a17 l17 c17 k17 (fun _ _ _ _ _ _ us hl => match us, hl with | [_, _], _ => rfl))
    · exact (ff_mk X G a18 l18 c18 k18 (fun _ _ _ _ _ _ us hl => match us, hl with | [_], _ => rfl))
    · exact (ff_mk X G a19 l19 c19 k19 (fun _ _ _ _ _ _ us hl => match us, hl with | [_], _ => rfl))
    · exact (ff_mk X G a20 l20 c20 k20 (fun _ _ _ _ _ _ us hl => match us, hl with | [_], _ => rfl))
    · exact (ff_mk X G a21 l21 c21 k21 (fun _ _ _ _ _ _ us hl => match us, hl with | [_, _], _ => rfl))
    · exact (ff_mk X G a22 l22 c22 k22 (fun _ _ _ _ _ _ us hl => match us, hl with | [_], _ => rfl))
    · exact (ff_mk X G a23 l23 c23 k23 (fun _ _ _ _ _ _ us hl => match us, hl with | [_], _ => rfl))
    · exact PySem.W.mg_of X G ca6
    · exact ⟨_, PySem.W.mg_of X G v0⟩
  have F := fun_mk (st := st_law) l23 c23 k23
  exact ⟨_, fun s v => .of_eq rfl, fun base _ _ => (ok_the_law t F).imp (specLaw_le (the_law _))⟩
end K38
open PySem PySem.W PyProof.Rows
set_option maxHeartbeats 0 in
theorem PySem.Challenge.cw_wholeanswers_k38_whole_remainders_togeth_holds : PySem.Challenge.rw_wholeanswers_k38_whole_remainders_togeth.Holds := by
  w_on; o_law; k_head; (case hw => w_witness2)
  k_fill
  refine L2.walk_of (l := PySem.Challenge.rw_wholeanswers_k38_whole_remainders_togeth) (n := 63) (k := 9) (x := "script") (CX := fun w => L2.CX PySem.Challenge.rw_wholeanswers_k38_whole_remainders_togeth.prog w) (sp := fun w => Cl.specLaw _) rfl (by decide) rfl ⟨rfl, by decide, by decide⟩ (fun w h Y => PySem.W.kIn_of Y) ?F (fun w H a ns hl ho hS => Cl.specLaw_of H a ns hl ho hS) (fun w H s e s1 h => Cl.cx_none H s e s1 h)
  case F =>
    intro w mg fa h KX G hmg
    refine' K38.all_mk KX G hmg ?a0 ?l0 ?c0 ?k0 ?a1 ?l1 ?c1 ?k1 ?a2 ?l2 ?c2 ?k2 ?a3 ?l3 ?c3 ?k3 ?a4 ?l4 ?c4 ?k4 ?a5 ?l5 ?c5 ?k5 ?a6 ?l6 ?c6 ?k6 ?a7 ?l7 ?c7 ?k7 ?a8 ?l8 ?c8 ?k8 ?a9 ?l9 ?c9 ?k9 ?a10 ?l10 ?c10 ?k10 ?a11 ?l11 ?c11 ?k11 ?a12 ?l12 ?c12 ?k12 ?a13 ?l13 ?c13 ?k13 ?a14 ?l14 ?c14 ?k14 ?a15 ?l15 ?c15 ?k15 ?a16 ?l16 ?c16 ?k16 ?a17 ?l17 ?c17 ?k17 ?a18 ?l18 ?c18 ?k18 ?a19 ?l19 ?c19 ?k19 ?a20 ?l20 ?c20 ?k20 ?a21 ?l21 ?c21 ?k21 ?a22 ?l22 ?c22 ?k22 ?a23 ?l23 ?c23 ?k23 ?z0 ?z1 ?z2 ?z3 ?z4 ?z5 ?z6 ?z7 ?z8 ?z9 ?z10 ?z11 ?z12 ?z13 ?z14 ?z15 ?z16 ?z17 ?z18 ?z19 ?ca6 ?v0
    (case a0 => k_is)
    (case l0 => k_is)
    (case c0 => k_is)
    (case k0 => k_is)
    (case a1 => k_is)
    (case l1 => k_is)
    (case c1 => k_is)
    (case k1 => k_is)
    (case a2 => k_is)
    (case l2 => k_is)
    (case c2 => k_is)
    (case k2 => k_is)
    (case a3 => k_is)
    (case l3 => k_is)
    (case c3 => k_is)
    (case k3 => k_is)
    (case a4 => k_is)
    (case l4 => k_is)
    (case c4 => k_is)
    (case k4 => k_is)
    (case a5 => k_is)
    (case l5 => k_is)
    (case c5 => k_is)
    (case k5 => k_is)
    (case a6 => k_is)
    (case l6 => k_is)
    (case c6 => k_is)
    (case k6 => k_is)
    (case a7 => k_is)
    (case l7 => k_is)
    (case c7 => k_is)
    (case k7 => k_is)
    (case a8 => k_is)
    (case l8 => k_is)
    (case c8 => k_is)
    (case k8 => k_is)
    (case a9 => k_is)
    (case l9 => k_is)
    (case c9 => k_is)
    (case k9 => k_is)
    (case a10 => k_is)
    (case l10 => k_is)
    (case c10 => k_is)
    (case k10 => k_is)
    (case a11 => k_is)
    (case l11 => k_is)
    (case c11 => k_is)
    (case k11 => k_is)
    (case a12 => k_is)
    (case l12 => k_is)
    (case c12 => k_is)
    (case k12 => k_is)
    (case a13 => k_is)
    (case l13 => k_is)
    (case c13 => k_is)
    (case k13 => k_is)
    (case a14 => k_is)
    (case l14 => k_is)
    (case c14 => k_is)
    (case k14 => k_is)
    (case a15 => k_is)
    (case l15 => k_is)
    (case c15 => k_is)
    (case k15 => k_is)
    (case a16 => k_is)
    (case l16 => k_is)
    (case c16 => k_is)
    (case k16 => k_is)
    (case a17 => k_is)
    (case l17 => k_is)
    (case c17 => k_is)
    (case k17 => k_is)
    (case a18 => k_is)
    (case l18 => k_is)
    (case c18 => k_is)
    (case k18 => k_is)
    (case a19 => k_is)
    (case l19 => k_is)
    (case c19 => k_is)
    (case k19 => k_is)
    (case a20 => k_is)
    (case l20 => k_is)
    (case c20 => k_is)
    (case k20 => k_is)
    (case a21 => k_is)
    (case l21 => k_is)
    (case c21 => k_is)
    (case k21 => k_is)
    (case a22 => k_is)
    (case l22 => k_is)
    (case c22 => k_is)
    (case k22 => k_is)
    (case a23 => k_is)
    (case l23 => k_is)
    (case c23 => k_is)
    (case k23 => k_is)
    (case z0 => k_is)
    (case z1 => k_is)
    (case z2 => k_is)
    (case z3 => k_is)
    (case z4 => k_is)
    (case z5 => k_is)
    (case z6 => k_is)
    (case z7 => k_is)
    (case z8 => k_is)
    (case z9 => k_is)
    (case z10 => k_is)
    (case z11 => k_is)
    (case z12 => k_is)
    (case z13 => k_is)
    (case z14 => k_is)
    (case z15 => k_is)
    (case z16 => k_is)
    (case z17 => k_is)
    (case z18 => k_is)
    (case z19 => k_is)
    (case ca6 => k_is)
    (case v0 => k_is)
