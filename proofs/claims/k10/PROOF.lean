import PyProof.Rows.All
import Wide.All
import OpenK.AllK
import Wide.FinOn
import HandS.ForMost
import HandS.ForExc
import HandS.TupSets
import KE.KTupSum
import KE.KStateDown
import HandS.Wide
import HandS.TupAny
import HandS.IsInst
import HandS.Strs
import HandS.Style
import HandS.Defaults
import HandS.More
import HandS.Head0
import HandS.Head1
import HandS.Head2
import HandS.HeadEnd
import HandS.HeadHook1
import HandS.HeadHook2
import HandS.Iter
import HandS.Conv
import KE.GoesEnum
import KE.KSortTupG
import HandS.ExcInit
import HandS.ExcField
import KE.KExcIs
import HandS.TryOnly
import PySem.Challenge.RW_echoesend_k10_nets_looked_at
set_option Elab.async false
set_option linter.all false
set_option maxRecDepth 100000
set_option maxHeartbeats 0
namespace CP
open PySem PySem.Spec PyProof.Rows L2

/-! ### data: what never changes (D), what a place of a def holds (M) -/
inductive D where
  | non | bl (b : Bool) | int (i : Int) | str (s : Str)
  | tup (ds : List D) | lst (ds : List D) | kt (ds : List D)
  | ty (n : String) | obj (a : Addr)
inductive M where
  | im (d : D)
  | lst (ds : List D)
  | nst (ms : List M)
  | dct (kvs : List (Key × D))
  | dnn (kvs : List (Key × M))
  | dcT (kvs : List (List Key × D))
abbrev Env := List (Option M)

/-! ### footprints -/
def FP := Addr → Prop
def fpE : FP := fun _ => False
def fpI (a : Addr) (F : FP) : FP := fun b => b = a ∨ F b
def fpU (F G : FP) : FP := fun b => F b ∨ G b
def Disj (F G : FP) : Prop := ∀ a, F a → G a → False

section
variable (K : PySem.W.Frag)
def SqF (H : Hp) (a : Addr) (xs : List V) : Prop := (∃ o, H a = some (.frz o (.lst xs))) ∨
    ∃ (o : Obj) (its : Array Value) (n : Nat), K.lookup a = some o ∧ o.cls = .type "list" ∧ o.dict = none ∧ o.data = .seq its n ∧ its.size ≤ sizeLine ∧ Vals xs its.toList
def SqK (H : Hp) (a : Addr) (xs : List V) : Prop := (∃ (o : Obj) (its : Array Value) (n : Nat), K.lookup a = some o ∧ o.cls = .type "tuple" ∧ o.dict = none ∧ o.data = .seq its n ∧ its.size ≤ sizeLine ∧ Vals xs its.toList) ∨
    ∃ o : Obj, H a = some (.frz o (.tup xs)) ∧ o.dict = none
variable (H : Hp)
mutual
def RepD : D → V → Prop
  | .non, v => v = .non
  | .bl b, v => v = .bl b
  | .int i, v => v = .int i
  | .str s, v => v = .str s
  | .ty n, v => v = .ty n
  | .obj a, v => v = .ref a
  | .tup ds, v => ∃ a vs, v = .ref a ∧ H a = some (.tup vs) ∧ RepDs ds vs
  | .kt ds, v => ∃ a vs, v = .ref a ∧ SqK K H a vs ∧ RepDs ds vs
  | .lst ds, v => ∃ a vs, v = .ref a ∧ SqF K H a vs ∧ RepDs ds vs
def RepDs : List D → List V → Prop
  | [], vs => vs = []
  | d :: ds, vs => ∃ v r, vs = v :: r ∧ RepD d v ∧ RepDs ds r
end
def RepKs {κ : Type} : List (κ × D) → List (κ × V) → Prop
  | [], ws => ws = []
  | (k, d) :: ds, ws => ∃ v r, ws = (k, v) :: r ∧ RepD K H d v ∧ RepKs ds r
mutual
def RepM : M → V → FP → Prop
  | .im d, v, F => RepD K H d v ∧ F = fpE
  | .lst ds, v, F => ∃ a vs, v = .ref a ∧ H a = some (.lst vs) ∧ RepDs K H ds vs ∧ F = fpI a fpE
  | .nst ms, v, F => ∃ a vs G, v = .ref a ∧ H a = some (.lst vs) ∧ RepMs ms vs G ∧ ¬ G a ∧ F = fpI a G
  | .dct kvs, v, F => ∃ a ws, v = .ref a ∧ H a = some (.dK ws) ∧ RepKs K H kvs ws ∧ F = fpI a fpE
  | .dnn kvs, v, F => ∃ a ws G, v = .ref a ∧ H a = some (.dK ws) ∧ RepKMs kvs ws G ∧ ¬ G a ∧ F = fpI a G
  | .dcT kvs, v, F => ∃ a ws, v = .ref a ∧ H a = some (.dT ws) ∧ RepKs K H kvs ws ∧ F = fpI a fpE
def RepMs : List M → List V → FP → Prop
  | [], vs, F => vs = [] ∧ F = fpE
  | m :: ms, vs, F => ∃ v r F1 F2, vs = v :: r ∧ RepM m v F1 ∧ RepMs ms r F2 ∧ Disj F1 F2 ∧ F = fpU F1 F2
def RepKMs : List (Key × M) → List (Key × V) → FP → Prop
  | [], ws, F => ws = [] ∧ F = fpE
  | (k, m) :: ms, ws, F => ∃ v r F1 F2, ws = (k, v) :: r ∧ RepM m v F1 ∧ RepKMs ms r F2 ∧ Disj F1 F2 ∧ F = fpU F1 F2
end
end

/-! ### what persists -/
structure Keep (H H' : Hp) : Prop where
  tup : ∀ b xs, H b = some (.tup xs) → H' b = some (.tup xs)
  frz : ∀ b o u, H b = some (.frz o u) → H' b = some (.frz o u)
  xd : ∀ b fs, H b = some (.xd fs) → H' b = some (.xd fs)
theorem Keep.refl {H : Hp} : Keep H H := ⟨fun _ _ h => h, fun _ _ _ h => h, fun _ _ h => h⟩
theorem Keep.trans {H H1 H2 : Hp} (a : Keep H H1) (b : Keep H1 H2) : Keep H H2 :=
  ⟨fun c x h => b.tup c x (a.tup c x h), fun c x u h => b.frz c x u (a.frz c x u h), fun c x h => b.xd c x (a.xd c x h)⟩
theorem Keep.sqT {K : PySem.W.Frag} {H H' : Hp} {a : Addr} {xs : List V} (k : Keep H H') (h : SqT K H a xs) : SqT K H' a xs := by
  rcases h with (h | ⟨o, h⟩) | h
  · exact .inl (.inl (k.tup _ _ h))
  · exact .inl (.inr ⟨o, k.frz _ _ _ h⟩)
  · exact .inr h
theorem Keep.sqF {K : PySem.W.Frag} {H H' : Hp} {a : Addr} {xs : List V} (k : Keep H H') (h : SqF K H a xs) : SqF K H' a xs := by
  rcases h with ⟨o, h⟩ | h
  · exact .inl ⟨o, k.frz _ _ _ h⟩
  · exact .inr h
theorem Keep.sqK {K : PySem.W.Frag} {H H' : Hp} {a : Addr} {xs : List V} (k : Keep H H') (h : SqK K H a xs) : SqK K H' a xs := by
  rcases h with h | ⟨o, h, d⟩
  · exact .inl h
  · exact .inr ⟨o, k.frz _ _ _ h, d⟩
theorem SqF.sqL {K : PySem.W.Frag} {H : Hp} {a : Addr} {xs : List V} (h : SqF K H a xs) : SqL K H a xs := by
  rcases h with ⟨o, h⟩ | h
  · exact .inl (.inr ⟨o, h⟩)
  · exact .inr h
mutual
theorem keepD {K : PySem.W.Frag} {H H' : Hp} (k : Keep H H') : ∀ (d : D) (v : V), RepD K H d v → RepD K H' d v
  | .non, _, h | .bl _, _, h | .int _, _, h | .str _, _, h | .ty _, _, h | .obj _, _, h => by simpa only [RepD] using h
  | .tup ds, _, h => by
    simp only [RepD] at h ⊢
    obtain ⟨a, vs, e, s, r⟩ := h
    exact ⟨a, vs, e, k.tup _ _ s, keepDs k ds vs r⟩
  | .kt ds, _, h => by
    simp only [RepD] at h ⊢
    obtain ⟨a, vs, e, s, r⟩ := h
    exact ⟨a, vs, e, k.sqK s, keepDs k ds vs r⟩
  | .lst ds, _, h => by
    simp only [RepD] at h ⊢
    obtain ⟨a, vs, e, s, r⟩ := h
    exact ⟨a, vs, e, k.sqF s, keepDs k ds vs r⟩
theorem keepDs {K : PySem.W.Frag} {H H' : Hp} (k : Keep H H') : ∀ (ds : List D) (vs : List V), RepDs K H ds vs → RepDs K H' ds vs
  | [], _, h => by simpa only [RepDs] using h
  | d :: ds, _, h => by
    simp only [RepDs] at h ⊢
    obtain ⟨v, r, e, r1, r2⟩ := h
    exact ⟨v, r, e, keepD k d v r1, keepDs k ds r r2⟩
end
theorem keepKs {κ : Type} {K : PySem.W.Frag} {H H' : Hp} (k : Keep H H') : ∀ (ds : List (κ × D)) (vs : List (κ × V)), RepKs K H ds vs → RepKs K H' ds vs
  | [], _, h => by simpa only [RepKs] using h
  | (q, d) :: ds, _, h => by
    simp only [RepKs] at h ⊢
    obtain ⟨v, r, e, r1, r2⟩ := h
    exact ⟨v, r, e, keepD k d v r1, keepKs k ds r r2⟩
mutual
theorem keepM {K : PySem.W.Frag} {H H' : Hp} (k : Keep H H') : ∀ (m : M) (v : V) (F : FP), (∀ a, F a → H' a = H a) → RepM K H m v F → RepM K H' m v F
  | .im d, v, F, f, h => by
    simp only [RepM] at h ⊢
    exact ⟨keepD k d v h.1, h.2⟩
  | .lst ds, v, F, f, h => by
    simp only [RepM] at h ⊢
    obtain ⟨a, vs, e, ha, r, rfl⟩ := h
    exact ⟨a, vs, e, (f a (.inl rfl)).trans ha, keepDs k ds vs r, rfl⟩
  | .nst ms, v, F, f, h => by
    simp only [RepM] at h ⊢
    obtain ⟨a, vs, G, e, ha, r, n, rfl⟩ := h
    exact ⟨a, vs, G, e, (f a (.inl rfl)).trans ha, keepMs k ms vs G (fun b hb => f b (.inr hb)) r, n, rfl⟩
  | .dct kvs, v, F, f, h => by
    simp only [RepM] at h ⊢
    obtain ⟨a, vs, e, ha, r, rfl⟩ := h
    exact ⟨a, vs, e, (f a (.inl rfl)).trans ha, keepKs k kvs vs r, rfl⟩
  | .dnn kvs, v, F, f, h => by
    simp only [RepM] at h ⊢
    obtain ⟨a, vs, G, e, ha, r, n, rfl⟩ := h
    exact ⟨a, vs, G, e, (f a (.inl rfl)).trans ha, keepKMs k kvs vs G (fun b hb => f b (.inr hb)) r, n, rfl⟩
  | .dcT kvs, v, F, f, h => by
    simp only [RepM] at h ⊢
    obtain ⟨a, vs, e, ha, r, rfl⟩ := h
    exact ⟨a, vs, e, (f a (.inl rfl)).trans ha, keepKs k kvs vs r, rfl⟩
theorem keepMs {K : PySem.W.Frag} {H H' : Hp} (k : Keep H H') : ∀ (ms : List M) (vs : List V) (F : FP), (∀ a, F a → H' a = H a) → RepMs K H ms vs F → RepMs K H' ms vs F
  | [], _, _, _, h => by simpa only [RepMs] using h
  | m :: ms, vs, F, f, h => by
    simp only [RepMs] at h ⊢
    obtain ⟨v, r, F1, F2, e, r1, r2, d, rfl⟩ := h
    exact ⟨v, r, F1, F2, e, keepM k m v F1 (fun a ha => f a (.inl ha)) r1, keepMs k ms r F2 (fun a ha => f a (.inr ha)) r2, d, rfl⟩
theorem keepKMs {K : PySem.W.Frag} {H H' : Hp} (k : Keep H H') : ∀ (ms : List (Key × M)) (vs : List (Key × V)) (F : FP), (∀ a, F a → H' a = H a) → RepKMs K H ms vs F → RepKMs K H' ms vs F
  | [], _, _, _, h => by simpa only [RepKMs] using h
  | (q, m) :: ms, vs, F, f, h => by
    simp only [RepKMs] at h ⊢
    obtain ⟨v, r, F1, F2, e, r1, r2, d, rfl⟩ := h
    exact ⟨v, r, F1, F2, e, keepM k m v F1 (fun a ha => f a (.inl ha)) r1, keepKMs k ms r F2 (fun a ha => f a (.inr ha)) r2, d, rfl⟩
end
mutual
/-- every place of a footprint is tracked, and may be written -/
theorem mutM {K : PySem.W.Frag} {H : Hp} : ∀ (m : M) (v : V) (F : FP), RepM K H m v F → ∀ a, F a → Mut (H a)
  | .im d, v, F, h => by
    simp only [RepM] at h
    rw [h.2]
    exact fun _ z => z.elim
  | .lst ds, v, F, h => by
    simp only [RepM] at h
    obtain ⟨a, vs, e, ha, r, rfl⟩ := h
    rintro b (rfl | z)
    · rw [ha]; trivial
    · exact z.elim
  | .nst ms, v, F, h => by
    simp only [RepM] at h
    obtain ⟨a, vs, G, e, ha, r, n, rfl⟩ := h
    rintro b (rfl | z)
    · rw [ha]; trivial
    · exact mutMs ms vs G r b z
  | .dct kvs, v, F, h => by
    simp only [RepM] at h
    obtain ⟨a, vs, e, ha, r, rfl⟩ := h
    rintro b (rfl | z)
    · rw [ha]; trivial
    · exact z.elim
  | .dnn kvs, v, F, h => by
    simp only [RepM] at h
    obtain ⟨a, vs, G, e, ha, r, n, rfl⟩ := h
    rintro b (rfl | z)
    · rw [ha]; trivial
    · exact mutKMs kvs vs G r b z
  | .dcT kvs, v, F, h => by
    simp only [RepM] at h
    obtain ⟨a, vs, e, ha, r, rfl⟩ := h
    rintro b (rfl | z)
    · rw [ha]; trivial
    · exact z.elim
theorem mutMs {K : PySem.W.Frag} {H : Hp} : ∀ (ms : List M) (vs : List V) (F : FP), RepMs K H ms vs F → ∀ a, F a → Mut (H a)
  | [], _, _, h => by
    simp only [RepMs] at h
    rw [h.2]
    exact fun _ z => z.elim
  | m :: ms, vs, F, h => by
    simp only [RepMs] at h
    obtain ⟨v, r, F1, F2, e, r1, r2, d, rfl⟩ := h
    rintro b (z | z)
    · exact mutM m v F1 r1 b z
    · exact mutMs ms r F2 r2 b z
theorem mutKMs {K : PySem.W.Frag} {H : Hp} : ∀ (ms : List (Key × M)) (vs : List (Key × V)) (F : FP), RepKMs K H ms vs F → ∀ a, F a → Mut (H a)
  | [], _, _, h => by
    simp only [RepKMs] at h
    rw [h.2]
    exact fun _ z => z.elim
  | (q, m) :: ms, vs, F, h => by
    simp only [RepKMs] at h
    obtain ⟨v, r, F1, F2, e, r1, r2, d, rfl⟩ := h
    rintro b (z | z)
    · exact mutM m v F1 r1 b z
    · exact mutKMs ms r F2 r2 b z
end
end CP
namespace CP
open PySem PySem.Spec PyProof.Rows L2

/-! ### the places of a def and the heap -/
section
variable (K : PySem.W.Frag) (H : Hp)
def EnvR (σ : Env) (σV : L2.St) (F : FP) : Prop := ∃ Fs : Nat → FP, σ.length = σV.length ∧
  (∀ i m, σ[i]? = some (some m) → ∃ v, σV[i]? = some (some v) ∧ RepM K H m v (Fs i)) ∧
  (∀ i a, Fs i a → ∃ m, σ[i]? = some (some m)) ∧ (∀ i j a, Fs i a → Fs j a → i = j) ∧ ∀ a, F a ↔ ∃ i, Fs i a
end
/-- what a piece of a run does to the heap: what it does not own stays; what it owns behind it was its own or is new -/
structure Step (H : Hp) (F : FP) (H' : Hp) (F' : FP) : Prop where
  frame : ∀ a o, H a = some o → ¬ F a → H' a = some o
  new : ∀ a, F' a → F a ∨ H a = none
section
variable {K : PySem.W.Frag} {H H1 H2 H' : Hp} {σ σ1 : Env} {σV : L2.St} {F F1 F2 G G1 G2 F' : FP} {m : M} {v : V} {i : Nat}
theorem fp_ext (h : ∀ a, F a ↔ G a) : F = G := funext fun a => propext (h a)
def fsSet (Fs : Nat → FP) (i : Nat) (G : FP) : Nat → FP := fun j => if j = i then G else Fs j
theorem fsSet_same {Fs : Nat → FP} : fsSet Fs i G i = G := if_pos rfl
theorem fsSet_ne {Fs : Nat → FP} {j : Nat} (h : ¬ j = i) : fsSet Fs i G j = Fs j := if_neg h
theorem Step.refl : Step H F H F := ⟨fun _ _ h _ => h, fun _ h => .inl h⟩
theorem Step.trans (a : Step H F H1 F1) (b : Step H1 F1 H2 F2) : Step H F H2 F2 :=
  ⟨fun c o h n => (b.frame c o (a.frame c o h n) fun z => by
    rcases a.new c z with z | z
    · exact n z
    · rw [h] at z; cases z), fun c h => by
    rcases b.new c h with z | z
    · exact a.new c z
    · by_cases n : F c
      · exact .inl n
      · right
        cases q : H c with
        | none => rfl
        | some o => rw [a.frame c o q n] at z; cases z⟩
theorem Step.sub (a : Step H F H1 F1) (s : ∀ c, F2 c → F1 c) : Step H F H1 F2 := ⟨a.frame, fun c h => a.new c (s c h)⟩
/-- more is owned ahead and behind -/
theorem Step.more (a : Step H F H1 F1) : Step H (fpU F G) H1 (fpU F1 G) :=
  ⟨fun c o h n => a.frame c o h fun z => n (.inl z), fun c h => by
    rcases h with h | h
    · rcases a.new c h with z | z
      · exact .inl (.inl z)
      · exact .inr z
    · exact .inl (.inr h)⟩
/-- only new objects come -/
structure Ext (H H' : Hp) (G : FP) : Prop where
  keep : ∀ a o, H a = some o → H' a = some o
  new : ∀ a, G a → H a = none
theorem Ext.refl : Ext H H fpE := ⟨fun _ _ h => h, fun _ z => z.elim⟩
theorem Ext.step (e : Ext H H' G) : Step H F H' (fpU F G) := ⟨fun a o h _ => e.keep a o h, fun a h => h.elim .inl fun z => .inr (e.new a z)⟩
theorem Ext.toKeep (e : Ext H H' G) : Keep H H' := ⟨fun b _ h => e.keep b _ h, fun b _ _ h => e.keep b _ h, fun b _ h => e.keep b _ h⟩
theorem Ext.upd {a : Addr} {o : HO} (h : H a = none) : Ext H (upd H a o) (fpI a fpE) :=
  ⟨fun b u e => by rw [upd_ne (ne_of_none e h)]; exact e, fun b z => by
    rcases z with rfl | z
    · exact h
    · exact z.elim⟩
theorem Ext.trans (a : Ext H H1 G1) (b : Ext H1 H2 G2) : Ext H H2 (fpU G1 G2) :=
  ⟨fun c o h => b.keep c o (a.keep c o h), fun c h => by
    rcases h with h | h
    · exact a.new c h
    · have := b.new c h
      cases q : H c with
      | none => rfl
      | some o => rw [a.keep c o q] at this; cases this⟩
theorem Ext.sub (a : Ext H H1 G1) (s : ∀ c, G2 c → G1 c) : Ext H H1 G2 := ⟨a.keep, fun c h => a.new c (s c h)⟩
theorem not_mut_none {o : Option HO} (h : Mut o) : ∃ u, o = some u := by
  cases o with
  | none => exact h.elim
  | some u => exact ⟨u, rfl⟩
theorem Step.keepOf (s : Step H F H1 F1) (mu : ∀ a, F a → Mut (H a)) : Keep H H1 :=
  ⟨fun b xs h => s.frame b _ h fun z => by have := mu b z; rw [h] at this; exact this,
   fun b o u h => s.frame b _ h fun z => by have := mu b z; rw [h] at this; exact this,
   fun b fs h => s.frame b _ h fun z => by have := mu b z; rw [h] at this; exact this⟩
theorem EnvR.mut (e : EnvR K H σ σV F) : ∀ a, F a → Mut (H a) := fun a ha => by
  obtain ⟨Fs, _, h2, h3, _, h5⟩ := e
  obtain ⟨i, hi⟩ := (h5 a).mp ha
  obtain ⟨m, hm⟩ := h3 i a hi
  obtain ⟨v, _, r⟩ := h2 i m hm
  exact mutM m v _ r a hi
theorem EnvR.len (e : EnvR K H σ σV F) : σ.length = σV.length := e.choose_spec.1
theorem EnvR.keep (e : EnvR K H σ σV F) (k : Keep H H') (f : ∀ a, F a → H' a = H a) : EnvR K H' σ σV F := by
  obtain ⟨Fs, h1, h2, h3, h4, h5⟩ := e
  refine ⟨Fs, h1, fun i m hm => ?_, h3, h4, h5⟩
  obtain ⟨v, hv, r⟩ := h2 i m hm
  exact ⟨v, hv, keepM k m v _ (fun a ha => f a ((h5 a).mpr ⟨i, ha⟩)) r⟩
theorem EnvR.ext (e : EnvR K H σ σV F) (x : Ext H H' G) : EnvR K H' σ σV F ∧ Disj F G := by
  refine ⟨e.keep x.toKeep fun a ha => ?_, fun a ha hg => ?_⟩
  · obtain ⟨u, hu⟩ := not_mut_none (e.mut a ha)
    rw [hu]; exact x.keep a u hu
  · obtain ⟨u, hu⟩ := not_mut_none (e.mut a ha)
    have := x.new a hg
    rw [hu] at this; cases this
theorem RepM.ext (r : RepM K H m v G) (x : Ext H H' G1) : RepM K H' m v G ∧ Disj G G1 := by
  refine ⟨keepM x.toKeep m v G (fun a ha => ?_) r, fun a ha hg => ?_⟩
  · obtain ⟨u, hu⟩ := not_mut_none (mutM m v G r a ha)
    rw [hu]; exact x.keep a u hu
  · obtain ⟨u, hu⟩ := not_mut_none (mutM m v G r a ha)
    have := x.new a hg
    rw [hu] at this; cases this
/-- a value that is held while something else runs -/
theorem RepM.hold (r : RepM K H m v G) (mu : ∀ a, F a → Mut (H a)) (d : Disj F G) (s : Step H F H1 F1) : RepM K H1 m v G ∧ Disj F1 G := by
  refine ⟨keepM (s.keepOf mu) m v G (fun a ha => ?_) r, fun a h1 h2 => ?_⟩
  · obtain ⟨u, hu⟩ := not_mut_none (mutM m v G r a ha)
    rw [hu]; exact s.frame a u hu fun z => d a z ha
  · obtain ⟨u, hu⟩ := not_mut_none (mutM m v G r a h2)
    rcases s.new a h1 with z | z
    · exact d a z h2
    · rw [hu] at z; cases z
theorem RepDs.hold {ds : List D} {vs : List V} (r : RepDs K H ds vs) (mu : ∀ a, F a → Mut (H a)) (s : Step H F H1 F1) : RepDs K H1 ds vs := keepDs (s.keepOf mu) ds vs r
theorem EnvR.look (e : EnvR K H σ σV F) (h : σ[i]? = some (some m)) : ∃ v G, σV[i]? = some (some v) ∧ RepM K H m v G ∧ ∀ a, G a → F a := by
  obtain ⟨Fs, _, h2, _, _, h5⟩ := e
  obtain ⟨v, hv, r⟩ := h2 i m h
  exact ⟨v, Fs i, hv, r, fun a ha => (h5 a).mpr ⟨i, ha⟩⟩
theorem EnvR.take (e : EnvR K H σ σV F) (h : σ[i]? = some (some m)) : ∃ v G F', σV[i]? = some (some v) ∧ RepM K H m v G ∧ EnvR K H (σ.set i none) σV F' ∧ Disj F' G ∧ F = fpU F' G := by
  obtain ⟨Fs, h1, h2, h3, h4, h5⟩ := e
  obtain ⟨v, hv, r⟩ := h2 i m h
  have hi : i < σ.length := (List.getElem?_eq_some_iff.mp h).1
  refine ⟨v, Fs i, fun a => ∃ j, j ≠ i ∧ Fs j a, hv, r, ⟨fsSet Fs i fpE, by simpa using h1, fun j m' hj => ?_, fun j a hj => ?_, fun j k a hj hk => ?_, fun a => ?_⟩, fun a ⟨j, hj, z⟩ z2 => hj (h4 j i a z z2), fp_ext fun a => ?_⟩
  · by_cases e : j = i
    · subst e
      rw [List.getElem?_set_self hi] at hj; cases hj
    · rw [List.getElem?_set_ne (Ne.symm e)] at hj
      rw [fsSet_ne e]
      exact h2 j m' hj
  · by_cases e : j = i
    · rw [e, fsSet_same] at hj; exact hj.elim
    · rw [fsSet_ne e] at hj
      rw [List.getElem?_set_ne (Ne.symm e)]
      exact h3 j a hj
  · by_cases e : j = i
    · rw [e, fsSet_same] at hj; exact hj.elim
    · rw [fsSet_ne e] at hj
      by_cases e2 : k = i
      · rw [e2, fsSet_same] at hk; exact hk.elim
      · rw [fsSet_ne e2] at hk
        exact h4 j k a hj hk
  · constructor
    · rintro ⟨j, hj, z⟩
      exact ⟨j, by rw [fsSet_ne hj]; exact z⟩
    · rintro ⟨j, hj⟩
      by_cases e : j = i
      · rw [e, fsSet_same] at hj; exact hj.elim
      · rw [fsSet_ne e] at hj; exact ⟨j, e, hj⟩
  · rw [h5 a]
    constructor
    · rintro ⟨j, hj⟩
      by_cases e : j = i
      · subst e; exact .inr hj
      · exact .inl ⟨j, e, hj⟩
    · rintro (⟨j, _, hj⟩ | hj)
      · exact ⟨j, hj⟩
      · exact ⟨i, hj⟩
theorem EnvR.set {om : Option M} (e : EnvR K H σ σV F) (hi : i < σ.length) {ov : Option V} (r : ∀ m, om = some m → ∃ v, ov = some v ∧ RepM K H m v G) (rn : om = none → ∀ a, ¬ G a) (d : Disj F G) :
    ∃ F', EnvR K H (σ.set i om) (σV.set i ov) F' ∧ ∀ a, F' a → F a ∨ G a := by
  obtain ⟨Fs, h1, h2, h3, h4, h5⟩ := e
  have hV : i < σV.length := by rw [← h1]; exact hi
  refine ⟨fun a => G a ∨ ∃ j, j ≠ i ∧ Fs j a, ⟨fsSet Fs i G, by simpa using h1, fun j m' hj => ?_, fun j a hj => ?_, fun j k a hj hk => ?_, fun a => ?_⟩, fun a z => ?_⟩
  · by_cases e : j = i
    · subst e
      rw [List.getElem?_set_self hi] at hj; cases hj
      obtain ⟨v, ev, r2⟩ := r m' rfl
      subst ev
      exact ⟨v, List.getElem?_set_self hV, by rw [fsSet_same]; exact r2⟩
    · rw [List.getElem?_set_ne (Ne.symm e)] at hj
      obtain ⟨v, hv, r⟩ := h2 j m' hj
      exact ⟨v, by rw [List.getElem?_set_ne (Ne.symm e)]; exact hv, by rw [fsSet_ne e]; exact r⟩
  · by_cases e : j = i
    · subst e
      rw [fsSet_same] at hj
      cases q : om with
      | none => exact (rn q a hj).elim
      | some m => exact ⟨m, List.getElem?_set_self hi⟩
    · rw [fsSet_ne e] at hj
      rw [List.getElem?_set_ne (Ne.symm e)]
      exact h3 j a hj
  · by_cases e : j = i
    · rw [e, fsSet_same] at hj
      by_cases e2 : k = i
      · rw [e, e2]
      · rw [fsSet_ne e2] at hk
        exact (d a ((h5 a).mpr ⟨k, hk⟩) hj).elim
    · rw [fsSet_ne e] at hj
      by_cases e2 : k = i
      · rw [e2, fsSet_same] at hk
        exact (d a ((h5 a).mpr ⟨j, hj⟩) hk).elim
      · rw [fsSet_ne e2] at hk
        exact h4 j k a hj hk
  · constructor
    · rintro (z | ⟨j, hj, z⟩)
      · exact ⟨i, by rw [fsSet_same]; exact z⟩
      · exact ⟨j, by rw [fsSet_ne hj]; exact z⟩
    · rintro ⟨j, hj⟩
      by_cases e : j = i
      · rw [e, fsSet_same] at hj; exact .inl hj
      · rw [fsSet_ne e] at hj; exact .inr ⟨j, e, hj⟩
  · rcases z with z | ⟨j, _, z⟩
    · exact .inr z
    · exact .inl ((h5 a).mpr ⟨j, z⟩)
theorem set_self_get {α : Type} {l : List α} {i : Nat} {x : α} (h : l[i]? = some x) : l.set i x = l := by
  apply List.ext_getElem?
  intro j
  by_cases e : i = j
  · subst e
    rw [List.getElem?_set_self (List.getElem?_eq_some_iff.mp h).1, h]
  · rw [List.getElem?_set_ne e]
/-- a place gets its value (again), the heap's slot as it was -/
theorem EnvR.put (e : EnvR K H σ σV F) (hv : σV[i]? = some (some v)) (r : RepM K H m v G) (d : Disj F G) : ∃ F', EnvR K H (σ.set i (some m)) σV F' ∧ ∀ a, F' a → F a ∨ G a := by
  have hi : i < σ.length := by rw [e.len]; exact (List.getElem?_eq_some_iff.mp hv).1
  obtain ⟨F', h, s⟩ := e.set hi (om := some m) (ov := some v) (fun m' q => by cases q; exact ⟨v, rfl, r⟩) (fun q => nomatch q) d
  rw [set_self_get hv] at h
  exact ⟨F', h, s⟩
/-- a new value is stored -/
theorem EnvR.store (e : EnvR K H σ σV F) (hi : i < σ.length) (r : RepM K H m v G) (d : Disj F G) : ∃ F', EnvR K H (σ.set i (some m)) (σV.set i (some v)) F' ∧ ∀ a, F' a → F a ∨ G a :=
  e.set hi (om := some m) (ov := some v) (fun m' q => by cases q; exact ⟨v, rfl, r⟩) (fun q => nomatch q) d
/-- a place is forgotten -/
theorem EnvR.forget (e : EnvR K H σ σV F) (i : Nat) (ov : Option V) : ∃ F', EnvR K H (σ.set i none) (σV.set i ov) F' ∧ ∀ a, F' a → F a := by
  by_cases hi : i < σ.length
  · obtain ⟨F', h, s⟩ := e.set hi (om := none) (ov := ov) (G := fpE) (fun m' q => nomatch q) (fun _ _ z => z) (fun _ _ z => z)
    exact ⟨F', h, fun a z => (s a z).elim id fun z => z.elim⟩
  · refine ⟨F, ?_, fun _ z => z⟩
    rw [List.set_eq_of_length_le (by omega), List.set_eq_of_length_le (by rw [← e.len]; omega)]
    exact e
theorem EnvR.forget0 (e : EnvR K H σ σV F) (i : Nat) : ∃ F', EnvR K H (σ.set i none) σV F' ∧ ∀ a, F' a → F a := by
  cases q : σV[i]? with
  | none =>
    have : σV.length ≤ i := List.getElem?_eq_none_iff.mp q
    refine ⟨F, ?_, fun _ z => z⟩
    rw [List.set_eq_of_length_le (by rw [e.len]; omega)]
    exact e
  | some ov =>
    obtain ⟨F', h, s⟩ := e.forget i ov
    rw [set_self_get q] at h
    exact ⟨F', h, s⟩
end

/-! ### exceptions -/
structure XD where
  cls : Str
  fs : List (Str × D)
/-- cc: where a class of the text stands -/
def XR (K : PySem.W.Frag) (cc : Str → Addr) (H : Hp) (x : XD) (cls : Value) (d : Option Addr) : Prop :=
  cls = .ref (cc x.cls) ∧ ((x.fs = [] ∧ d = none) ∨ ∃ dx ws, d = some dx ∧ H dx = some (.xd ws) ∧ RepKs K H x.fs ws)

/-! ### readings over data -/
abbrev QM := M → Env → Prop
abbrev QX := XD → Env → Prop
abbrev TE := Env → QM → QX → Prop
abbrev TB := Env → (Bool → Env → Prop) → QX → Prop

def Post (K : PySem.W.Frag) (H : Hp) (σV : L2.St) (F : FP) (Q1 : QM) (v : V) (H' : Hp) : Prop :=
  ∃ m σ' F1 G, Q1 m σ' ∧ EnvR K H' σ' σV F1 ∧ RepM K H' m v G ∧ Disj F1 G ∧ Step H F H' (fpU F1 G)
def PostB (K : PySem.W.Frag) (H : Hp) (σV : L2.St) (F : FP) (Q1 : Bool → Env → Prop) (b : Bool) (H' : Hp) : Prop :=
  ∃ σ' F1, Q1 b σ' ∧ EnvR K H' σ' σV F1 ∧ Step H F H' F1
def PostX (K : PySem.W.Frag) (cc : Str → Addr) (H : Hp) (σV : L2.St) (F : FP) (E1 : QX) (cls : Value) (d : Option Addr) (H' : Hp) : Prop :=
  ∃ x σ' F1, E1 x σ' ∧ EnvR K H' σ' σV F1 ∧ Step H F H' F1 ∧ XR K cc H' x cls d
/-- an expression's reading, from one over data -/
def LE (K : PySem.W.Frag) (cc : Str → Addr) (W : WX) (t : TE) : L2.TE := fun σV H Q => ∃ σ F Q1 E1, EnvR K H σ σV F ∧ t σ Q1 E1 ∧ (∀ v H', Post K H σV F Q1 v H' → Q v H') ∧ ∀ cls d H', PostX K cc H σV F E1 cls d H' → W cls d σV H'
def LB (K : PySem.W.Frag) (cc : Str → Addr) (W : WX) (t : TB) : L2.TT := fun σV H Q => ∃ σ F Q1 E1, EnvR K H σ σV F ∧ t σ Q1 E1 ∧ (∀ b H', PostB K H σV F Q1 b H' → Q b H') ∧ ∀ cls d H', PostX K cc H σV F E1 cls d H' → W cls d σV H'
structure QE (X : Cx) (cc : Str → Addr) (W : WX) (e : Expr) (t : TE) : Prop where
  pe : PE X e (LE X.K cc W t)
structure QT (X : Cx) (cc : Str → Addr) (W : WX) (e : Expr) (t : TB) : Prop where
  pt : PT X e (LB X.K cc W t)
theorem PE.imp {X : Cx} {e : Expr} {t t' : L2.TE} (h : PE X e t) (i : ∀ σ H Q, t' σ H Q → t σ H Q) : PE X e t' := ⟨fun pins s σ H Q I hw => h.run pins s σ H Q I (i _ _ _ hw)⟩
theorem PT.imp {X : Cx} {e : Expr} {t t' : L2.TT} (h : PT X e t) (i : ∀ σ H Q, t' σ H Q → t σ H Q) : PT X e t' := ⟨fun pins s σ H Q I hw => h.run pins s σ H Q I (i _ _ _ hw)⟩
theorem PW.imp {X : Cx} {e : Expr} {t t' : L2.TT} (h : PW X e t) (i : ∀ σ H Q, t' σ H Q → t σ H Q) : PW X e t' := ⟨fun wh pins s σ H Q I hw => h.run wh pins s σ H Q I (i _ _ _ hw)⟩
theorem PS.imp {X : Cx} {e : Stmt} {t t' : L2.TS} (h : PS X e t) (i : ∀ D σ H, t' D σ H → t D σ H) : PS X e t' := ⟨fun pins s σ H Q I hw => h.run pins s σ H Q I (i _ _ _ hw)⟩
theorem PSs.imp {X : Cx} {e : List Stmt} {t t' : L2.TS} (h : PSs X e t) (i : ∀ D σ H, t' D σ H → t D σ H) : PSs X e t' := ⟨fun pins s σ H Q I hw => h.run pins s σ H Q I (i _ _ _ hw)⟩
theorem PA.imp {X : Cx} {e : List Expr} {t t' : L2.TA} (h : PA X e t) (i : ∀ σ H Q, t' σ H Q → t σ H Q) : PA X e t' := ⟨fun pos pins s σ H Q I hw => h.run pos pins s σ H Q I (i _ _ _ hw)⟩

section
variable {K : PySem.W.Frag} {cc : Str → Addr} {W : WX} {H H1 : Hp} {σ σ1 : Env} {σV : L2.St} {F F1 G : FP}
theorem PostX.go {E1 : QX} {cls : Value} {d : Option Addr} {H' : Hp} (s : Step H F H1 F1) (x : PostX K cc H1 σV F1 E1 cls d H') : PostX K cc H σV F E1 cls d H' := by
  obtain ⟨x, σ', F2, q, e, st, r⟩ := x
  exact ⟨x, σ', F2, q, e, s.trans st, r⟩
/-- one part, then what hangs on its value -/
theorem le1 {t : TE} {R : QM} {E1 : QX} {P : VK} (e : EnvR K H σ σV F) (h : t σ R E1) (kx : ∀ cls d H', PostX K cc H σV F E1 cls d H' → W cls d σV H')
    (k : ∀ m σ' v H' F1 G, R m σ' → EnvR K H' σ' σV F1 → RepM K H' m v G → Disj F1 G → Step H F H' (fpU F1 G) → P v H') : LE K cc W t σV H P :=
  ⟨σ, F, R, E1, e, h, fun v H' ⟨m, σ', F1, G, q, e1, r, d, s⟩ => k m σ' v H' F1 G q e1 r d s, kx⟩
theorem lb1 {t : TB} {R : Bool → Env → Prop} {E1 : QX} {P : Bool → Hp → Prop} (e : EnvR K H σ σV F) (h : t σ R E1) (kx : ∀ cls d H', PostX K cc H σV F E1 cls d H' → W cls d σV H')
    (k : ∀ b σ' H' F1, R b σ' → EnvR K H' σ' σV F1 → Step H F H' F1 → P b H') : LB K cc W t σV H P :=
  ⟨σ, F, R, E1, e, h, fun v H' ⟨σ', F1, q, e1, s⟩ => k v σ' H' F1 q e1 s, kx⟩
/-- two parts -/
theorem le2 {ta tb : TE} {R : M → M → Env → Prop} {E1 : QX} {P : V → V → Hp → Prop} (e : EnvR K H σ σV F) (h : ta σ (fun x σ1 => tb σ1 (fun y σ2 => R x y σ2) E1) E1)
    (kx : ∀ cls d H', PostX K cc H σV F E1 cls d H' → W cls d σV H')
    (k : ∀ x y σ2 vx vy H2 F2 G1 G2, R x y σ2 → EnvR K H2 σ2 σV F2 → RepM K H2 x vx G1 → RepM K H2 y vy G2 → Disj F2 G1 → Disj F2 G2 → Disj G1 G2 → Step H F H2 (fpU F2 (fpU G1 G2)) → P vx vy H2) :
    LE K cc W ta σV H fun vx H1 => LE K cc W tb σV H1 fun vy H2 => P vx vy H2 := by
  refine le1 e h kx fun x σ1 vx H1 F1 G1 h1 e1 r1 d1 s1 => ?_
  have sF : Step H F H1 F1 := s1.sub fun _ z => .inl z
  refine le1 e1 h1 (fun cls d H' x => kx cls d H' (x.go sF)) fun y σ2 vy H2 F2 G2 h2 e2 r2 d2 s2 => ?_
  obtain ⟨r1', dd⟩ := r1.hold e1.mut d1 s2
  refine k x y σ2 vx vy H2 F2 G1 G2 h2 e2 r1' r2 (fun a z w => dd a (.inl z) w) d2 (fun a z w => dd a (.inr w) z) ?_
  refine (s1.trans (s2.more (G := G1))).sub fun a z => ?_
  rcases z with z | z | z
  · exact .inl (.inl z)
  · exact .inr z
  · exact .inl (.inr z)
end
end CP
namespace CP
open PySem PySem.Spec PyProof.Rows L2

/-! ### the core language: expressions that lay nothing and call nothing -/
inductive P where
  | var (i : Nat) | int (n : Int) | str (s : Str) | bl (b : Bool) | non
  | con (g : Nat)
  | idx (p q : P) | len (p : P) | add (p q : P) | sub (p q : P) | neg (p : P)
inductive O1 where
  | neg | abs | int | str | len | sum | list | tuple | rev | bool | keys | upper | tkeys | tuplek
  deriving DecidableEq
inductive O2 where
  | add | sub | mul | mod | fdiv | pow | shl | shr | eq | ne | lt | le | gt | ge | is | isn | inn | nin | max | min | idx | index | join | startsw
  deriving DecidableEq
/-- what isinstance asks -/
inductive Ty where
  | int | bool | str | tuple | list | dict
  deriving DecidableEq
/-- targets -/
inductive T where
  | v (i : Nat) | tup (ts : List T)
inductive MO where
  | append | extend | pop | popAt | insert | reverse
  deriving DecidableEq
/-- what a clause's suite gives back -/
inductive HX where
  | c (d : D) | fld (f : Str) | isi (cs : List Str)
inductive HT where
  | isi (cs : List Str) | not (t : HT) | and (a b : HT) | or (a b : HT)
inductive HS where
  | one (x : HX) | tup (xs : List HX) | ife (t : HT) (a b : HS)
mutual
inductive CE where
  | v (i : Nat)                       -- a name's value: handed over if it is owned
  | p (p : P)
  | op1 (o : O1) (a : CE)
  | op2 (o : O2) (a b : CE)
  | chain (o1 o2 : O2) (a b c : CE)
  | and (a b : CE) | or (a b : CE) | not (a : CE)
  | ife (t : CT) (a b : CE)
  | tup (es : CEs) | lst (es : CEs)
  | dis (ks : List Str) (es : CEs)    -- {'k': e, ..}
  | dnew (t : Bool)                   -- {}: t: its keys will be tuples
  | slc (a : CE) (lo hi : Option P)
  | call (f : Nat) (es : CEs)
  | callk (f : Nat) (es : CEs) (nm : List Str) (ks : CEs) (perm : List Nat)
  | isi (a : CE) (ts : List Ty)
  | get1 (p : P) (k : CE) | get2 (p : P) (k d : CE)
  | lc (elt : CE) (t : T) (it : CI) (ifs : CTs) (own : List Nat)
  | mth0 (o : MO) (p : P) | mth1 (o : MO) (p : P) (a : CE)
  | sm (o : O2) (a b : CE)            -- a text's method
  | srt (a : CE)                      -- sorted(a), a a list of tuples of ints
inductive CEs where
  | nil | cons (e : CE) (r : CEs)
inductive CT where
  | c (a : CE) | and (a b : CT) | or (a b : CT) | not (a : CT)
inductive CTs where
  | nil | cons (e : CT) (r : CTs)
inductive CI where
  | seq (a : CE) | rng1 (a : CE) | rng2 (a b : CE) | enum (a : CE) | zip (a b : CE)
end
mutual
inductive CS where
  | asg (t : T) (e : CE)
  | par (is : List Nat) (es : CEs)
  | aug (i : Nat) (o : O2) (e : CE)
  | sub (p : P) (k : CE) (e : CE)
  | exp (e : CE)
  | ret (e : CE) | retn
  | ife (t : CT) (a b : CSs)
  | for (t : T) (it : CI) (b : CSs)
  | whl (t : CT) (b : CSs)
  | brk | cnt | pas
  | trt (b : CSs)                     -- try whose body raises nothing
  | rai (c : Str) (es : CEs)
  | trx (b : CSs) (hs : List (Str × HS))
inductive CSs where
  | nil | cons (s : CS) (r : CSs)
end

/-! ### values of operations -/
def imsOf : List M → Option (List D)
  | [] => some []
  | .im d :: r => (imsOf r).map (d :: ·)
  | _ :: _ => none
def mkL (ms : List M) : M := match imsOf ms with
  | some ds => .lst ds
  | none => .nst ms
def mkD (kvs : List (Key × M)) : M := match imsOf (kvs.map (·.2)) with
  | some ds => .dct ((kvs.map (·.1)).zip ds)
  | none => .dnn kvs
/-- what a tuple may hold -/
def fzM : M → Option D
  | .im d => some d
  | _ => none
def fzs : List M → Option (List D)
  | [] => some []
  | m :: r => (fzM m).bind fun d => (fzs r).map (d :: ·)
def kget {κ α : Type} [DecidableEq κ] (kvs : List (κ × α)) (k : κ) : Option α := (kvs.find? fun kv => decide (kv.1 = k)).map (·.2)
def kput {κ α : Type} [DecidableEq κ] (kvs : List (κ × α)) (k : κ) (v : α) : List (κ × α) :=
  if (kvs.any fun kv => decide (kv.1 = k)) then kvs.map (fun kv => if kv.1 = k then (kv.1, v) else kv) else kvs ++ [(k, v)]
def keyOf : D → Option Key
  | .int i => some (.inl i)
  | .str s => some (.inr s)
  | _ => none
def keysOf : List D → Option (List Key)
  | [] => some []
  | d :: r => (keyOf d).bind fun k => (keysOf r).map (k :: ·)
def getM : M → M → Option M
  | .im (.tup ds), .im (.int i) => (atI ds i).map .im
  | .im (.lst ds), .im (.int i) => (atI ds i).map .im
  | .im (.kt ds), .im (.int i) => (atI ds i).map .im
  | .lst ds, .im (.int i) => (atI ds i).map .im
  | .nst ms, .im (.int i) => atI ms i
  | .im (.str s), .im (.int i) => if s.length ≤ sizeLine then (atI s.cps.toList i).map (fun c => .im (.str ⟨#[c]⟩)) else none
  | .dct kvs, .im (.int i) => (kget kvs (Sum.inl i)).map .im
  | .dct kvs, .im (.str s) => (kget kvs (Sum.inr s)).map .im
  | .dnn kvs, .im (.int i) => kget kvs (Sum.inl i)
  | .dnn kvs, .im (.str s) => kget kvs (Sum.inr s)
  | .dcT kvs, .im (.tup ds) => (keysOf ds).bind fun k => (kget kvs k).map .im
  | _, _ => none
def setM : M → M → M → Option M
  | .lst ds, .im (.int i), .im d => (ixN ds.length i).map fun j => .lst (ds.set j d)
  | .nst ms, .im (.int i), m => (ixN ms.length i).map fun j => .nst (ms.set j m)
  | .dct kvs, .im q, .im d => (keyOf q).bind fun k => if kvs.length < sizeLine then some (.dct (kput kvs k d)) else none
  | .dct kvs, .im q, m => (keyOf q).bind fun k => if kvs.length < sizeLine ∧ (kvs.any fun kv => decide (kv.1 = k)) = false then some (.dnn ((kvs.map fun x => (x.1, .im x.2)) ++ [(k, m)])) else none
  | .dnn kvs, .im q, .im d => (keyOf q).bind fun k => if kvs.length < sizeLine then some (.dnn (kput kvs k (.im d))) else none
  | .dnn kvs, .im q, m => (keyOf q).bind fun k => if kvs.length < sizeLine ∧ (kvs.any fun kv => decide (kv.1 = k)) = false then some (.dnn (kvs ++ [(k, m)])) else none
  | .dcT kvs, .im (.tup ds), .im d => if kvs.length < sizeLine then (keysOf ds).map fun k => .dcT (kput kvs k d) else none
  | _, _, _ => none
def krep {κ α : Type} [DecidableEq κ] : List (κ × α) → κ → α → List (κ × α)
  | [], _, _ => []
  | (q, x) :: r, k, v => if q = k then (q, v) :: r else (q, x) :: krep r k v
/-- a part of a nested thing, changed in its place -/
def repM : M → M → M → Option M
  | .nst ms, .im (.int i), m => (ixN ms.length i).map fun j => .nst (ms.set j m)
  | .dnn kvs, .im (.int i), m => some (.dnn (krep kvs (Sum.inl i) m))
  | .dnn kvs, .im (.str s), m => some (.dnn (krep kvs (Sum.inr s) m))
  | _, _, _ => none
def seqM : M → Option (List D)
  | .im (.tup ds) => some ds
  | .im (.lst ds) => some ds
  | .im (.kt ds) => some ds
  | .lst ds => some ds
  | _ => none
def lenM : M → Option Int
  | .im (.tup ds) => some ds.length
  | .im (.lst ds) => some ds.length
  | .im (.kt ds) => some ds.length
  | .im (.str s) => if s.length ≤ sizeLine then some s.length else none
  | .lst ds => some ds.length
  | .nst ms => some ms.length
  | .dct kvs => some kvs.length
  | .dnn kvs => some kvs.length
  | _ => none
def iD (m : M) : Option Int := match m with
  | .im (.int i) => some i
  | _ => none
/-- the globals of a text: written constants by name -/
structure Glob where
  cons : List (Str × D)
  sub : List (Str × List Str) := []   -- a class of exceptions: those it is of
  flds : List (Str × List Str) := []  -- its fields
def evP (G : Glob) : P → Env → Option M
  | .var i, σ => (σ[i]?).bind id
  | .int n, _ => some (.im (.int n))
  | .str s, _ => some (.im (.str s))
  | .bl b, _ => some (.im (.bl b))
  | .non, _ => some (.im .non)
  | .con g, _ => (G.cons[g]?).map fun x => .im x.2
  | .idx p q, σ => (evP G p σ).bind fun m => (evP G q σ).bind fun k => getM m k
  | .len p, σ => (evP G p σ).bind fun m => (lenM m).map fun n => .im (.int n)
  | .add p q, σ => (evP G p σ).bind fun m => (evP G q σ).bind fun k => (iD m).bind fun i => (iD k).map fun j => .im (.int (i + j))
  | .sub p q, σ => (evP G p σ).bind fun m => (evP G q σ).bind fun k => (iD m).bind fun i => (iD k).map fun j => .im (.int (i - j))
  | .neg p, σ => (evP G p σ).bind fun m => (iD m).map fun i => .im (.int (-i))
def setP (G : Glob) : P → Env → M → Option Env
  | .var i, σ, m => if i < σ.length then some (σ.set i (some m)) else none
  | .idx p q, σ, m => (evP G p σ).bind fun c => (evP G q σ).bind fun k => (repM c k m).bind fun c' => setP G p σ c'
  | _, _, _ => none
end CP
namespace CP
open PySem PySem.Spec PyProof.Rows L2

/-! ### what the operations are worth -/
def small64 (i : Int) : Bool := decide (-(2 ^ 64) < i) && decide (i < 2 ^ 64)
def mulOk (i j : Int) : Bool := small64 i || small64 j || (decide (i.natAbs < 2 ^ 100000) && decide (j.natAbs < 2 ^ 100000))
def sumI : List D → Option Int
  | [] => some 0
  | .int i :: r => (sumI r).map (i + ·)
  | _ => none
def truM : M → Option Bool
  | .im .non => some false
  | .im (.bl b) => some b
  | .im (.int i) => some (i != 0)
  | .im (.str s) => if s.length ≤ sizeLine then some (s.length != 0) else none
  | .im (.tup ds) => some (!ds.isEmpty)
  | .im (.lst ds) => some (!ds.isEmpty)
  | .im (.kt ds) => some (!ds.isEmpty)
  | .lst ds => some (!ds.isEmpty)
  | .nst ms => some (!ms.isEmpty)
  | .dct kvs => some (!kvs.isEmpty)
  | _ => none
def lstM : M → Option (List D)
  | .im (.lst ds) => some ds
  | .lst ds => some ds
  | _ => none
def tupM : M → Option (List D)
  | .im (.tup ds) => some ds
  | .im (.kt ds) => some ds
  | _ => none
def iM (m : M) (f : Int → Option D) : Option M := match m with
  | .im (.int i) => (f i).map .im
  | _ => none
def keyD : Key → D
  | .inl i => .int i
  | .inr s => .str s
def keysM : M → Option (List D)
  | .dct kvs => some (kvs.map fun kv => keyD kv.1)
  | .dnn kvs => some (kvs.map fun kv => keyD kv.1)
  | _ => none
def op1M (o : O1) (m : M) : Option M := match o with
  | .neg => iM m fun i => some (.int (-i))
  | .abs => iM m fun i => some (.int (if i < 0 then -i else i))
  | .int => (match m with
    | .im (.int i) => some (.im (.int i))
    | .im (.bl b) => some (.im (.int (if b then 1 else 0)))
    | .im (.str s) => if s.length ≤ 640 then (PySem.intText? s).map fun n => .im (.int n) else none
    | _ => none)
  | .str => iM m fun i => if i.natAbs.log2 < 1920 then some (.str (toString i)) else none
  | .len => (lenM m).map fun n => .im (.int n)
  | .sum => (seqM m).bind fun ds => (sumI ds).map fun n => .im (.int n)
  | .list => (seqM m).map .lst
  | .tuple => (match m with
    | .im (.kt _) => none
    | m => (seqM m).map fun ds => .im (.tup ds))
  | .rev => none
  | .keys => (keysM m).map .lst
  | .upper => (match m with
    | .im (.str s) => if s.length ≤ 5592405 then some (.im (.str (Txt.upper s))) else none
    | _ => none)
  | .tuplek => (lstM m).map fun ds => .im (.kt ds)
  | .tkeys => (match m with
    | .dcT kvs => some (.lst (kvs.map fun kv => .tup (kv.1.map keyD)))
    | _ => none)
  | .bool => (match m with
    | .im (.int i) => some (.im (.bl (i != 0)))
    | .im (.bl b) => some (.im (.bl b))
    | _ => none)
/-- scalars that == tells apart -/
def scalD : D → D → Bool
  | .non, .non => true | .non, .int _ => true | .int _, .non => true | .non, .bl _ => true | .bl _, .non => true | .non, .str _ => true | .str _, .non => true
  | .int _, .int _ => true | .bl _, .bl _ => true | .str _, .str _ => true
  | .int _, .str _ => true | .str _, .int _ => true | .bl _, .str _ => true | .str _, .bl _ => true
  | _, _ => false
def sameD : D → D → Bool
  | .non, .non => true
  | .int i, .int j => decide (i = j)
  | .bl i, .bl j => decide (i = j)
  | .str i, .str j => decide (i = j)
  | _, _ => false
mutual
def toPy : D → Option PyData
  | .non => some .none
  | .bl b => some (.bool b)
  | .int i => some (.int i)
  | .str s => some (.str s)
  | .tup ds => (toPys ds).map .tuple
  | .lst ds => (toPys ds).map .list
  | .kt ds => (toPys ds).map .tuple
  | _ => none
def toPys : List D → Option (List PyData)
  | [] => some []
  | d :: r => (toPy d).bind fun x => (toPys r).map (x :: ·)
end
def asD : M → Option D
  | .im d => some d
  | .lst ds => some (.lst ds)
  | _ => none
def eqM (x y : M) : Option Bool := (asD x).bind fun d => (asD y).bind fun e =>
  if scalD d e = true then some (sameD d e) else (toPy d).bind fun a => (toPy e).bind fun b => if SeqAt.shaped a = true ∧ SeqAt.shaped b = true then some (PyData.eqv a b) else none
def flatD : D → Bool
  | .non => true | .bl _ => true | .int _ => true | .str _ => true
  | _ => false
def eqF : D → D → Bool
  | .non, .non => true
  | .bl a, .bl b => a == b
  | .bl a, .int b => (if a then 1 else 0) == b
  | .int a, .bl b => a == (if b then 1 else 0)
  | .int a, .int b => a == b
  | .str a, .str b => a == b
  | _, _ => false
def inD (d : D) (ds : List D) : Bool := ds.any fun e => eqF e d
def findD (d : D) : List D → Nat → Option Nat
  | [], _ => none
  | e :: r, k => if eqF e d then some k else findD d r (k + 1)
def inM (x y : M) : Option Bool := match x, y with
  | .im (.str a), .im (.str z) => (match a.cps.toList with
    | [c] => some (decide (c ∈ z.cps.toList))
    | _ => some (!(Builtin.Str.occurrences z a 0 z.length 1).isEmpty))
  | .im d, y => (match y, d with
    | .dct kvs, d => (keyOf d).map fun k => (kget kvs k).isSome
    | .dnn kvs, d => (keyOf d).map fun k => (kget kvs k).isSome
    | .dcT kvs, .tup ds => (keysOf ds).map fun k => (kget kvs k).isSome
    | y, d => (seqM y).bind fun ds => if flatD d = true ∧ ds.all flatD = true then some (inD d ds) else none)
  | _, _ => none
def strsOf : List D → Option (List Str)
  | [] => some []
  | .str s :: r => (strsOf r).map (s :: ·)
  | _ => none
def bI (x y : M) (f : Int → Int → Option D) : Option M := match x, y with
  | .im (.int i), .im (.int j) => (f i j).map .im
  | _, _ => none
def op2M (o : O2) (x y : M) : Option M := match o with
  | .add => (match x, y with
    | .im (.int i), .im (.int j) => some (.im (.int (i + j)))
    | .im (.str a), .im (.str b) => if a.length + b.length ≤ sizeLine then some (.im (.str (a ++ b))) else none
    | .im (.tup a), .im (.tup b) => if a.length + b.length ≤ sizeLine then some (.im (.tup (a ++ b))) else none
    | .lst a, .lst b => if a.length + b.length ≤ sizeLine then some (.lst (a ++ b)) else none
    | _, _ => none)
  | .sub => bI x y fun i j => some (.int (i - j))
  | .mul => (match x, y with
    | .im (.int i), .im (.int j) => if mulOk i j = true then some (.im (.int (i * j))) else none
    | .im (.int i), .im (.bl b) => some (.im (.int (i * if b = true then 1 else 0)))
    | .lst a, .im (.int k) => if -(2 ^ 63) ≤ k ∧ k < 2 ^ 63 ∧ a.length * k.toNat ≤ sizeLine then some (.lst (List.replicate k.toNat a).flatten) else none
    | _, _ => none)
  | .mod => bI x y fun i j => if 0 < j then some (.int (i % j)) else none
  | .fdiv => bI x y fun i j => if 0 < j ∧ j < 1073741824 then some (.int (i / j)) else none
  | .pow => bI x y fun i j => if 0 ≤ j ∧ j ≤ 1000000 ∧ i.natAbs < 2 ^ 64 then some (.int (i ^ j.toNat)) else none
  | .shl => bI x y fun i j => if 0 ≤ j ∧ j ≤ 1000000 ∧ i.natAbs < 2 ^ 64 then some (.int (i * 2 ^ j.toNat)) else none
  | .shr => bI x y fun i j => if 0 ≤ j then some (.int (i / 2 ^ j.toNat)) else none
  | .eq => (eqM x y).map fun b => .im (.bl b)
  | .ne => (eqM x y).map fun b => .im (.bl !b)
  | .lt => bI x y fun i j => some (.bl (decide (i < j)))
  | .le => bI x y fun i j => some (.bl (decide (i ≤ j)))
  | .gt => bI x y fun i j => some (.bl (decide (j < i)))
  | .ge => bI x y fun i j => some (.bl (decide (j ≤ i)))
  | .is => (match x, y with
    | .im .non, .im .non => some (.im (.bl true))
    | _, .im .non => some (.im (.bl false))
    | _, _ => none)
  | .isn => (match x, y with
    | .im .non, .im .non => some (.im (.bl false))
    | _, .im .non => some (.im (.bl true))
    | _, _ => none)
  | .inn => (inM x y).map fun b => .im (.bl b)
  | .nin => (inM x y).map fun b => .im (.bl !b)
  | .max => bI x y fun i j => some (.int (if j > i then j else i))
  | .min => bI x y fun i j => some (.int (if j < i then j else i))
  | .idx => (match getM x y with
    | some (.im d) => some (.im d)
    | _ => none)
  | .index => (match y with
    | .im d => (match lstM x with
      | some ds => if flatD d = true ∧ ds.all flatD = true then (findD d ds 0).map fun k => .im (.int k) else none
      | none => (match x, d with
        | .im (.kt ds), .str z => (strsOf ds).bind fun ss => (ss.idxOf? z).map fun (k : Nat) => .im (.int k)
        | _, _ => none))
    | _ => none)
  | .join => (match x with
    | .im (.str a) => (seqM y).bind fun ds => (strsOf ds).bind fun ss => if (ss.map Str.length).sum + ss.length * a.length ≤ 16777216 then some (.im (.str (Txt.join a ss))) else none
    | _ => none)
  | .startsw => (match x, y with
    | .im (.str a), .im (.str b) => some (.im (.bl (Txt.startswith a b)))
    | _, _ => none)
def augM (o : O2) (x y : M) : Option M := match x, y with
  | .im (.int i), .im (.int j) => op2M o (.im (.int i)) (.im (.int j))
  | .im (.str a), .im (.str b) => (match o with
    | .add => op2M .add (.im (.str a)) (.im (.str b))
    | _ => none)
  | _, _ => none
def tyM (t : Ty) : M → Option Bool
  | .im .non => some false
  | .im (.bl _) => some (t == .bool || t == .int)
  | .im (.int _) => some (t == .int)
  | .im (.str _) => some (t == .str)
  | .im (.tup _) => some (t == .tuple)
  | .im (.kt _) => some (t == .tuple)
  | .im (.lst _) => some (t == .list)
  | .lst _ => some (t == .list)
  | .nst _ => some (t == .list)
  | .dct _ => some (t == .dict)
  | .dnn _ => some (t == .dict)
  | .dcT _ => some (t == .dict)
  | _ => none
def isiM (m : M) : List Ty → Option Bool
  | [] => some false
  | t :: r => (tyM t m).bind fun b => (isiM m r).map fun c => b || c
def cutD (ds : List D) (lo hi : Option Int) : List D := (ds.drop (HT.sIx ds.length 0 lo)).take (HT.sIx ds.length ds.length hi - HT.sIx ds.length 0 lo)
def slcM (m : M) (lo hi : Option Int) : Option M := match m with
  | .im (.tup ds) => some (.im (.tup (cutD ds lo hi)))
  | .im (.lst ds) => some (.lst (cutD ds lo hi))
  | .lst ds => some (.lst (cutD ds lo hi))
  | .im (.str s) => if s.length ≤ sizeLine then some (.im (.str (cutS s lo hi))) else none
  | _ => none
def partP (G : Glob) (o : Option P) (σ : Env) : Option (Option Int) := match o with
  | none => some none
  | some p => (evP G p σ).bind fun m => (iD m).map some
/-- a method that changes its list: the list behind it, its answer -/
def mth0M (o : MO) (m : M) : Option (M × M) := match o, m with
  | .pop, .lst ds => (ds[ds.length - 1]?).map fun d => (.lst ds.dropLast, .im d)
  | .pop, .nst ms => (ms[ms.length - 1]?).map fun d => (.nst ms.dropLast, d)
  | .reverse, .lst ds => some (.lst ds.reverse, .im .non)
  | _, _ => none
def mth1M (o : MO) (m x : M) : Option (M × M) := match o, m with
  | .append, .lst ds => (match x with
    | .im d => if ds.length < sizeLine then some (.lst (ds ++ [d]), .im .non) else none
    | x => if ds.length < sizeLine then some (.nst (ds.map .im ++ [x]), .im .non) else none)
  | .append, .nst ms => if ms.length < sizeLine then some (.nst (ms ++ [x]), .im .non) else none
  | .extend, .lst ds => (match x with
    | .lst es => if ds.length + es.length ≤ sizeLine then some (.lst (ds ++ es), .im .non) else none
    | _ => none)
  | _, _ => none

def isLm : M → Bool
  | .lst _ => true
  | .nst _ => true
  | _ => false
def isDc : M → Bool
  | .dct _ => true
  | .dcT _ => true
  | _ => false
def dgetM (c : M) (q : D) : Option (Option D) := match c, q with
  | .dct kvs, q => (keyOf q).map fun k => kget kvs k
  | .dcT kvs, .tup ds => (keysOf ds).map fun k => kget kvs k
  | _, _ => none

/-! ### readings -/
abbrev Fin := Option M → Env → QM → Prop
def fin (r : Option M) (σ : Env) (Q : QM) : Prop := match r with
  | some m => Q m σ
  | none => False
def slot (σ : Env) (i : Nat) (k : M → Prop) : Prop := match σ[i]? with
  | some (some m) => k m
  | _ => False
/-- a piece that is only looked at: a name, a place keep what they hold -/
def bor (G : Glob) (c : CE) (t : TE) : TE := match c with
  | .v i => fun σ Q _ => slot σ i fun m => Q m σ
  | .p p => fun σ Q _ => fin (evP G p σ) σ Q
  | _ => t
/-- the first of two pieces: a name is looked at when both are there -/
def two (G : Glob) (a b : CE) (ta tb : TE) (k : M → M → Env → Prop) (σ : Env) (E : QX) : Prop := match a with
  | .v i => slot σ i fun _ => bor G b tb σ (fun y σ2 => slot σ2 i fun x => k x y σ2) E
  | _ => ta σ (fun x σ1 => bor G b tb σ1 (fun y σ2 => k x y σ2) E) E
abbrev Arg := Sum Nat M
abbrev TAs := Env → (List Arg → Env → Prop) → QX → Prop
abbrev TMs := Env → (List M → Env → Prop) → QX → Prop
def owned : M → Bool
  | .im _ => false
  | _ => true
def takeA : List Arg → Env → Option (List M × Env)
  | [], σ => some ([], σ)
  | .inl i :: r, σ => (match σ[i]? with
    | some (some m) => (takeA r (if owned m then σ.set i none else σ)).map fun q => (m :: q.1, q.2)
    | _ => none)
  | .inr m :: r, σ => (takeA r σ).map fun q => (m :: q.1, q.2)
def putA : List Arg → List M → List (Option M) → Env → Env
  | .inl i :: r, m :: ms, o :: os, σ => putA r ms os (if owned m then σ.set i o else σ)
  | _ :: r, _ :: ms, _ :: os, σ => putA r ms os σ
  | _, _, _, σ => σ
/-- a def's promise over data: arguments, what follows with the value and what the arguments are then, what is raised -/
abbrev Sp := List M → (M → List (Option M) → Prop) → (XD → List (Option M) → Prop) → Prop
def takeK (l : List Arg) (σ : Env) (k : List M → Env → Prop) : Prop := match takeA l σ with
  | some (ms, σ1) => k ms σ1
  | none => False
def callA (sp : Sp) (l : List Arg) (σ : Env) (Q : QM) (E : QX) : Prop := match takeA l σ with
  | some (ms, σ1) => sp ms (fun r os => Q r (putA l ms os σ1)) (fun x os => E x (putA l ms os σ1))
  | none => False
def unsetAll : Env → List Nat → Env
  | σ, [] => σ
  | σ, v :: vs => (unsetAll σ vs).set v none
mutual
def bindT : T → M → Env → Option Env
  | .v i, m, σ => if i < σ.length then some (σ.set i (some m)) else none
  | .tup ts, m, σ => (tupM m).bind fun ds => bindTs ts ds σ
def bindTs : List T → List D → Env → Option Env
  | [], [], σ => some σ
  | t :: ts, d :: ds, σ => (bindT t (.im d) σ).bind fun σ1 => bindTs ts ds σ1
  | _, _, _ => none
end
def parM : List Nat → List M → Env → Option Env
  | [], [], σ => some σ
  | i :: is, m :: ms, σ => if i < σ.length then parM is ms (σ.set i (some m)) else none
  | _, _, _ => none
/-- what stands still while a loop walks it -/
def stays (c : CE) (m : M) : Env → Prop := match c, m with
  | _, .im _ => fun _ => True
  | .v i, m => fun σ => σ[i]? = some (some m)
  | .p _, _ => fun _ => False
  | _, _ => fun _ => True
def itemsM : M → Option (List D)
  | .im (.str s) => some (s.cps.toList.map fun c => .str ⟨#[c]⟩)
  | m => seqM m
abbrev TIt := Env → (List D → (Env → Prop) → Env → Prop) → QX → Prop
def enumD (ds : List D) : List D := (List.range ds.length).zip ds |>.map fun p => .tup [.int p.1, p.2]
def zipD (ds es : List D) : List D := (ds.zip es).map fun p => .tup [p.1, p.2]
def bindO (r : Option Env) (k : Env → Prop) : Prop := match r with
  | some σ => k σ
  | none => False
/-- a comprehension: the items, J: what stands still -/
def lcR (J : Env → Prop) (bind : D → Env → Option Env) (tt : TB) (te : TE) (own : List Nat) (E : QX) : List D → List M → Env → QM → Prop
  | [], acc, σ, Q => Q (mkL acc) σ
  | d :: r, acc, σ, Q => bindO (bind d (unsetAll σ own)) fun σ1 => tt σ1 (fun b σ2 => if b = true then te σ2 (fun m σ3 => acc.length < sizeLine ∧ J (unsetAll σ3 own) ∧ lcR J bind tt te own E r (acc ++ [m]) (unsetAll σ3 own) Q) E
      else J (unsetAll σ2 own) ∧ lcR J bind tt te own E r acc (unsetAll σ2 own) Q) E
structure Ks where
  nx : Env → Prop
  rt : M → Env → Prop
  bk : Env → Prop
  ct : Env → Prop
  ex : QX
abbrev TS := Ks → Env → Prop
def forR (J : Env → Prop) (bind : D → Env → Option Env) (tb : TS) (K : Ks) : List D → Env → Prop
  | [], σ => K.nx σ
  | d :: r, σ => bindO (bind d σ) fun σ1 => tb { K with nx := fun σ' => J σ' ∧ forR J bind tb K r σ', ct := fun σ' => J σ' ∧ forR J bind tb K r σ', bk := K.nx } σ1
def whlR (tt : TB) (tb : TS) (K : Ks) : Nat → Env → Prop
  | 0, _ => False
  | n + 1, σ => tt σ (fun b σ1 => if b = true then tb { K with nx := whlR tt tb K n, ct := whlR tt tb K n, bk := K.nx } σ1 else K.nx σ1) K.ex
/-- sorted: what it asks, what it gives -/
def srtR (ds : List D) (k : List D → Prop) : Prop := ds.length ≤ 1000 ∧ (∀ x ∈ ds, ∃ ns : List Int, ns ≠ [] ∧ x = .tup (ns.map .int)) ∧ ∀ es : List D, es.Perm ds → k es
/-- clauses -/
def Glob.sub? (G : Glob) (x : Str) : Option (List Str) := kget G.sub x
def anyS (l : List Str) (cs : List Str) : Bool := cs.any fun c => decide (c ∈ l)
def hxE (G : Glob) (x : XD) : HX → Option D
  | .c d => some d
  | .fld f => (G.sub? x.cls).bind fun _ => kget x.fs f
  | .isi cs => (G.sub? x.cls).map fun l => .bl (anyS l cs)
def hxsE (G : Glob) (x : XD) : List HX → Option (List D)
  | [] => some []
  | h :: r => (hxE G x h).bind fun d => (hxsE G x r).map (d :: ·)
def htE (G : Glob) (x : XD) : HT → Option Bool
  | .isi cs => (G.sub? x.cls).map fun l => anyS l cs
  | .not t => (htE G x t).map (!·)
  | .and a b => (htE G x a).bind fun p => if p = true then htE G x b else some false
  | .or a b => (htE G x a).bind fun p => if p = true then some true else htE G x b
def hsE (G : Glob) (x : XD) : HS → Option D
  | .one h => hxE G x h
  | .tup hs => (hxsE G x hs).map .tup
  | .ife t a b => (htE G x t).bind fun p => if p = true then hsE G x a else hsE G x b
/-- an exception meets the clauses: K what it leads to -/
def catch_ (G : Glob) (x : XD) (rt : D → Prop) (out : Prop) : List (Str × HS) → Prop
  | [] => out
  | (c, s) :: r => (match G.sub? x.cls with
    | some l => if c ∈ l then (match hsE G x s with
      | some d => rt d
      | none => False) else catch_ G x rt out r
    | none => False)
section
variable (G : Glob) (Γ : Nat → Sp)
mutual
def ev : CE → TE
  | .v i, σ, Q, _ => slot σ i fun m => Q m (if owned m then σ.set i none else σ)
  | .p p, σ, Q, _ => (match evP G p σ with
    | some (.im d) => Q (.im d) σ
    | _ => False)
  | .op1 o a, σ, Q, E => bor G a (ev a) σ (fun m σ1 => fin (op1M o m) σ1 Q) E
  | .op2 o a b, σ, Q, E => two G a b (ev a) (ev b) (fun x y σ2 => fin (op2M o x y) σ2 Q) σ E
  | .chain o1 o2 a b c, σ, Q, E => ev a σ (fun x σ1 => ev b σ1 (fun y σ2 => match op2M o1 x y with
    | some (.im (.bl true)) => ev c σ2 (fun z σ3 => fin (op2M o2 y z) σ3 Q) E
    | some (.im (.bl false)) => Q (.im (.bl false)) σ2
    | _ => False) E) E
  | .and a b, σ, Q, E => ev a σ (fun x σ1 => match x with
    | .im (.bl true) => ev b σ1 Q E
    | .im (.bl false) => Q (.im (.bl false)) σ1
    | _ => False) E
  | .or a b, σ, Q, E => ev a σ (fun x σ1 => match x with
    | .im (.bl true) => Q (.im (.bl true)) σ1
    | .im (.bl false) => ev b σ1 Q E
    | _ => False) E
  | .not a, σ, Q, E => ev a σ (fun x σ1 => match x with
    | .im (.bl b) => Q (.im (.bl !b)) σ1
    | _ => False) E
  | .ife t a b, σ, Q, E => evT t σ (fun c σ1 => if c = true then ev a σ1 Q E else ev b σ1 Q E) E
  | .tup es, σ, Q, E => evA es σ (fun l σ1 => takeK l σ1 fun ms σ2 => match fzs ms with
    | some ds => Q (.im (.tup ds)) σ2
    | none => False) E
  | .lst es, σ, Q, E => evA es σ (fun l σ1 => takeK l σ1 fun ms σ2 => Q (mkL ms) σ2) E
  | .dis ks es, σ, Q, E => evA es σ (fun l σ1 => takeK l σ1 fun ms σ2 => Q (mkD ((ks.map Sum.inr).zip ms)) σ2) E
  | .dnew t, σ, Q, _ => Q (if t then .dcT [] else .dct []) σ
  | .slc a lo hi, σ, Q, E => bor G a (ev a) σ (fun m σ1 => match partP G lo σ1, partP G hi σ1 with
    | some l, some h => fin (slcM m l h) σ1 Q
    | _, _ => False) E
  | .call f es, σ, Q, E => evA es σ (fun l σ1 => callA (Γ f) l σ1 Q E) E
  | .callk f es nm ks perm, σ, Q, E => evA es σ (fun l σ1 => evA ks σ1 (fun l2 σ2 => callA (Γ f) (perm.filterMap fun i => (l ++ l2)[i]?) σ2 Q E) E) E
  | .isi a ts, σ, Q, E => bor G a (ev a) σ (fun m σ1 => match isiM m ts with
    | some b => Q (.im (.bl b)) σ1
    | none => False) E
  | .get1 p k, σ, Q, E => (match evP G p σ with
    | some m0 => isDc m0 = true ∧ bor G k (ev k) σ (fun y σ1 => match evP G p σ1, y with
      | some c, .im q => (match dgetM c q with
        | some r => Q (.im (r.getD .non)) σ1
        | none => False)
      | _, _ => False) E
    | none => False)
  | .get2 p k d, σ, Q, E => (match evP G p σ with
    | some m0 => isDc m0 = true ∧ bor G k (ev k) σ (fun y σ1 => bor G d (ev d) σ1 (fun z σ2 => match evP G p σ2, y, z with
      | some c, .im q, .im w => (match dgetM c q with
        | some r => Q (.im (r.getD w)) σ2
        | none => False)
      | _, _, _ => False) E) E
    | none => False)
  | .lc elt t it ifs own, σ, Q, E => evI it σ (fun ds J σ1 => J σ1 ∧ lcR J (fun d s => bindT t (.im d) s) (evTs ifs) (ev elt) own (fun _ _ => False) ds [] σ1 Q) E
  | .mth0 o p, σ, Q, _ => (match evP G p σ with
    | some m => (match mth0M o m with
      | some (m', r) => bindO (setP G p σ m') fun σ1 => Q r σ1
      | none => False)
    | none => False)
  | .mth1 o p a, σ, Q, E => (match evP G p σ with
    | some m0 => isLm m0 = true ∧ (if o = .extend then bor G a (ev a) else ev a) σ (fun x σ1 => match evP G p σ1 with
      | some m => (match mth1M o m x with
        | some (m', r) => bindO (setP G p σ1 m') fun σ2 => Q r σ2
        | none => False)
      | none => False) E
    | none => False)
  | .sm o a b, σ, Q, E => ev a σ (fun x σ1 => match x with
    | .im (.str _) => bor G b (ev b) σ1 (fun y σ2 => fin (op2M o x y) σ2 Q) E
    | _ => False) E
  | .srt a, σ, Q, E => bor G a (ev a) σ (fun m σ1 => match lstM m with
    | some ds => srtR ds fun es => Q (.lst es) σ1
    | none => False) E
def evA : CEs → TAs
  | .nil, σ, Q, _ => Q [] σ
  | .cons e r, σ, Q, E => (match e with
    | .v i => slot σ i fun _ => evA r σ (fun l σ2 => Q (.inl i :: l) σ2) E
    | _ => ev e σ (fun m σ1 => evA r σ1 (fun l σ2 => Q (.inr m :: l) σ2) E) E)
def evT : CT → TB
  | .c a, σ, Q, E => bor G a (ev a) σ (fun m σ1 => match truM m with
    | some b => Q b σ1
    | none => False) E
  | .and a b, σ, Q, E => evT a σ (fun c σ1 => if c = true then evT b σ1 Q E else Q false σ1) E
  | .or a b, σ, Q, E => evT a σ (fun c σ1 => if c = true then Q true σ1 else evT b σ1 Q E) E
  | .not a, σ, Q, E => evT a σ (fun c σ1 => Q (!c) σ1) E
def evTs : CTs → TB
  | .nil, σ, Q, _ => Q true σ
  | .cons e r, σ, Q, E => evT e σ (fun b σ1 => if b = true then evTs r σ1 Q E else Q false σ1) E
def evI : CI → TIt
  | .seq a, σ, Q, E => bor G a (ev a) σ (fun m σ1 => match itemsM m with
    | some ds => Q ds (stays a m) σ1
    | none => False) E
  | .rng1 a, σ, Q, E => ev a σ (fun m σ1 => match m with
    | .im (.int n) => (-(2 ^ 62) ≤ n ∧ n < 2 ^ 62) ∧ Q ((List.range n.toNat).map fun (k : Nat) => .int (k : Int)) (fun _ => True) σ1
    | _ => False) E
  | .rng2 a b, σ, Q, E => ev a σ (fun x σ1 => ev b σ1 (fun y σ2 => match x, y with
    | .im (.int i), .im (.int j) => (-(2 ^ 62) ≤ i ∧ i < 2 ^ 62 ∧ -(2 ^ 62) ≤ j ∧ j < 2 ^ 62) ∧ Q ((List.range (j - i).toNat).map fun (k : Nat) => .int (i + (k : Int))) (fun _ => True) σ2
    | _, _ => False) E) E
  | .enum a, σ, Q, E => bor G a (ev a) σ (fun m σ1 => match seqM m with
    | some ds => Q (enumD ds) (stays a m) σ1
    | none => False) E
  | .zip a b, σ, Q, E => two G a b (ev a) (ev b) (fun x y σ2 => match seqM x, seqM y with
    | some ds, some es => Q (zipD ds es) (fun s => stays a x s ∧ stays b y s) σ2
    | _, _ => False) σ E
end
def evs (es : CEs) : TMs := fun σ Q E => evA G Γ es σ (fun l σ1 => takeK l σ1 Q) E
mutual
def xs : CS → TS
  | .asg t e, K, σ => ev G Γ e σ (fun m σ1 => bindO (bindT t m σ1) K.nx) K.ex
  | .par is es, K, σ => evs G Γ es σ (fun ms σ1 => bindO (parM is ms σ1) K.nx) K.ex
  | .aug i o e, K, σ => slot σ i fun _ => ev G Γ e σ (fun y σ1 => slot σ1 i fun x => fin (augM o x y) σ1 fun z σ2 => K.nx (σ2.set i (some z))) K.ex
  | .sub p k e, K, σ => ev G Γ e σ (fun m σ1 => match p with
    | .var i => slot σ1 i fun _ => ev G Γ k σ1 (fun q σ2 => match evP G p σ2 with
      | some c => (match setM c q m with
        | some c' => bindO (setP G p σ2 c') K.nx
        | none => False)
      | none => False) K.ex
    | _ => bor G k (fun _ _ _ => False) σ1 (fun q σ2 => match evP G p σ2 with
      | some c => (match setM c q m with
        | some c' => bindO (setP G p σ2 c') K.nx
        | none => False)
      | none => False) K.ex) K.ex
  | .exp e, K, σ => ev G Γ e σ (fun _ σ1 => K.nx σ1) K.ex
  | .ret e, K, σ => ev G Γ e σ (fun m σ1 => K.rt m σ1) K.ex
  | .retn, K, σ => K.rt (.im .non) σ
  | .ife t a b, K, σ => evT G Γ t σ (fun c σ1 => if c = true then xss a K σ1 else xss b K σ1) K.ex
  | .for t it b, K, σ => evI G Γ it σ (fun ds J σ1 => J σ1 ∧ forR J (fun d s => bindT t (.im d) s) (xss b) K ds σ1) K.ex
  | .whl t b, K, σ => ∃ n, whlR (evT G Γ t) (xss b) K n σ
  | .brk, K, σ => K.bk σ
  | .cnt, K, σ => K.ct σ
  | .pas, K, σ => K.nx σ
  | .trt b, K, σ => xss b { K with ex := fun _ _ => False } σ
  | .rai c es, K, σ => evs G Γ es σ (fun ms σ1 => match fzs ms, kget G.flds c with
    | some ds, some fs => ds.length = fs.length ∧ K.ex ⟨c, (fs.zip ds).reverse⟩ σ1
    | _, _ => False) K.ex
  | .trx b hs, K, σ => xss b { K with ex := fun x σ1 => catch_ G x (fun d => K.rt (.im d) σ1) (K.ex x σ1) hs } σ
def xss : CSs → TS
  | .nil, K, σ => K.nx σ
  | .cons s r, K, σ => xs s { K with nx := fun σ1 => xss r K σ1 } σ
end
end
end CP
namespace CP
open PySem PySem.Spec PyProof.Rows L2

section
variable {K : PySem.W.Frag} {H H1 H2 H' : Hp} {σ σ1 σ2 : Env} {σV : L2.St} {F F1 F2 G G1 G2 F' : FP} {m : M} {v : V} {i : Nat}
theorem EnvR.nil : EnvR K H [] [] fpE := ⟨fun _ => fpE, rfl, fun i m h => by simp at h, fun _ _ z => z.elim, fun _ _ _ z => z.elim, fun a => ⟨fun z => z.elim, fun ⟨_, z⟩ => z.elim⟩⟩
theorem EnvR.cons {o : Option M} {ov : Option V} (e : EnvR K H σ σV F) (r : ∀ m, o = some m → ∃ v, ov = some v ∧ RepM K H m v G) (rn : o = none → ∀ a, ¬ G a) (d : Disj F G) : EnvR K H (o :: σ) (ov :: σV) (fpU F G) := by
  obtain ⟨Fs, h1, h2, h3, h4, h5⟩ := e
  refine ⟨fun j => match j with | 0 => G | j + 1 => Fs j, by simp [h1], fun j m hj => ?_, fun j a hj => ?_, fun j k a hj hk => ?_, fun a => ?_⟩
  · cases j with
    | zero =>
      have e : o = some m := by simpa using hj
      obtain ⟨v, e2, r⟩ := r m e
      exact ⟨v, by simp [e2], r⟩
    | succ j =>
      obtain ⟨v, hv, r⟩ := h2 j m (by simpa using hj)
      exact ⟨v, by simpa using hv, r⟩
  · cases j with
    | zero =>
      cases o with
      | none => exact (rn rfl a hj).elim
      | some m => exact ⟨m, rfl⟩
    | succ j => simpa using h3 j a hj
  · cases j with
    | zero =>
      cases k with
      | zero => rfl
      | succ k => exact (d a ((h5 a).mpr ⟨k, hk⟩) hj).elim
    | succ j =>
      cases k with
      | zero => exact (d a ((h5 a).mpr ⟨j, hj⟩) hk).elim
      | succ k => rw [h4 j k a hj hk]
  · constructor
    · rintro (z | z)
      · obtain ⟨j, hj⟩ := (h5 a).mp z
        exact ⟨j + 1, hj⟩
      · exact ⟨0, z⟩
    · rintro ⟨j, hj⟩
      cases j with
      | zero => exact .inr hj
      | succ j => exact .inl ((h5 a).mpr ⟨j, hj⟩)
theorem EnvR.uncons {o : Option M} {ov : Option V} (e : EnvR K H (o :: σ) (ov :: σV) F) : ∃ F1 G, EnvR K H σ σV F1 ∧ (∀ m, o = some m → ∃ v, ov = some v ∧ RepM K H m v G) ∧ (o = none → ∀ a, ¬ G a) ∧ Disj F1 G ∧ F = fpU F1 G := by
  obtain ⟨Fs, h1, h2, h3, h4, h5⟩ := e
  refine ⟨fun a => ∃ j, Fs (j + 1) a, Fs 0, ⟨fun j => Fs (j + 1), by simpa using h1, fun j m hj => ?_, fun j a hj => ?_, fun j k a hj hk => ?_, fun a => Iff.rfl⟩, fun m e => ?_, fun e a z => ?_, fun a ⟨j, hj⟩ z => ?_, fp_ext fun a => ?_⟩
  · simpa using h2 (j + 1) m (by simpa using hj)
  · simpa using h3 (j + 1) a hj
  · have := h4 _ _ a hj hk
    omega
  · simpa using h2 0 m (by simp [e])
  · obtain ⟨m, hm⟩ := h3 0 a z
    simp [e] at hm
  · have := h4 _ _ a hj z
    omega
  · rw [h5 a]
    constructor
    · rintro ⟨j, hj⟩
      cases j with
      | zero => exact .inr hj
      | succ j => exact .inl ⟨j, hj⟩
    · rintro (⟨j, hj⟩ | z)
      · exact ⟨j + 1, hj⟩
      · exact ⟨0, z⟩
theorem EnvR.nones (n : Nat) : EnvR K H (List.replicate n none) (List.replicate n none) fpE :=
  ⟨fun _ => fpE, by simp, fun i m h => by simp [List.getElem?_replicate] at h, fun _ _ z => z.elim, fun _ _ _ z => z.elim, fun a => ⟨fun z => z.elim, fun ⟨_, z⟩ => z.elim⟩⟩
theorem EnvR.app : ∀ {σ : Env} {σV : L2.St} {F : FP}, EnvR K H σ σV F → ∀ n, EnvR K H (σ ++ List.replicate n none) (σV ++ List.replicate n none) F
  | [], [], F, e, n => by
    have : F = fpE := fp_ext fun a => ⟨fun z => by
      obtain ⟨Fs, _, _, h3, _, h5⟩ := e
      obtain ⟨j, hj⟩ := (h5 a).mp z
      obtain ⟨m, hm⟩ := h3 j a hj
      simp at hm, fun z => z.elim⟩
    rw [this]
    exact EnvR.nones n
  | [], _ :: _, F, e, n => by have := e.len; simp at this
  | _ :: _, [], F, e, n => by have := e.len; simp at this
  | o :: σ, ov :: σV, F, e, n => by
    obtain ⟨F1, G, e1, r, rn, d, rfl⟩ := e.uncons
    exact (EnvR.app e1 n).cons r rn d
theorem EnvR.sub (e : EnvR K H σ σV F) (h : ∀ (i : Nat) (m : M), σ1[i]? = some (some m) → σ[i]? = some (some m)) (hl : σ1.length = σ.length) : ∃ F', EnvR K H σ1 σV F' ∧ ∀ a, F' a → F a := by
  obtain ⟨Fs, h1, h2, h3, h4, h5⟩ := e
  refine ⟨fun a => ∃ i, (∃ m : M, σ1[i]? = some (some m)) ∧ Fs i a, ⟨fun i a => (∃ m : M, σ1[i]? = some (some m)) ∧ Fs i a, by rw [hl, h1], fun i m hm => ?_, fun i a z => z.1, fun i j a z w => h4 i j a z.2 w.2, fun a => Iff.rfl⟩, fun a ⟨i, _, z⟩ => (h5 a).mpr ⟨i, z⟩⟩
  obtain ⟨v, hv, r⟩ := h2 i m (h i m hm)
  refine ⟨v, hv, ?_⟩
  have : (fun a => (∃ m : M, σ1[i]? = some (some m)) ∧ Fs i a) = Fs i := fp_ext fun a => ⟨fun z => z.2, fun z => ⟨⟨m, hm⟩, z⟩⟩
  exact (congrArg (RepM K H m v) this).mpr r

/-! ### arguments -/
def ARep (K : PySem.W.Frag) (H : Hp) (σV : L2.St) : List Arg → List V → FP → Prop
  | [], vs, F => vs = [] ∧ F = fpE
  | .inl i :: l, vs, F => ∃ v r, vs = v :: r ∧ σV[i]? = some (some v) ∧ ARep K H σV l r F
  | .inr m :: l, vs, F => ∃ v r F1 F2, vs = v :: r ∧ RepM K H m v F1 ∧ ARep K H σV l r F2 ∧ Disj F1 F2 ∧ F = fpU F1 F2
theorem ARep.mut : ∀ {l : List Arg} {vs : List V} {F : FP}, ARep K H σV l vs F → ∀ a, F a → Mut (H a)
  | [], _, _, h => by rw [h.2]; exact fun _ z => z.elim
  | .inl i :: l, _, _, h => by
    obtain ⟨v, r, _, _, h⟩ := h
    exact ARep.mut h
  | .inr m :: l, _, _, h => by
    obtain ⟨v, r, F1, F2, _, r1, r2, _, rfl⟩ := h
    rintro a (z | z)
    · exact mutM m v F1 r1 a z
    · exact ARep.mut r2 a z
theorem ARep.hold : ∀ {l : List Arg} {vs : List V} {G : FP}, ARep K H σV l vs G → (∀ a, F a → Mut (H a)) → Disj F G → Step H F H1 F1 → ARep K H1 σV l vs G
  | [], _, _, h, _, _, _ => h
  | .inl i :: l, _, _, h, mu, d, s => by
    obtain ⟨v, r, e, hv, h⟩ := h
    exact ⟨v, r, e, hv, ARep.hold h mu d s⟩
  | .inr m :: l, _, _, h, mu, d, s => by
    obtain ⟨v, r, G1, G2, e, r1, r2, dd, rfl⟩ := h
    exact ⟨v, r, G1, G2, e, (r1.hold mu (fun a x y => d a x (.inl y)) s).1, ARep.hold r2 mu (fun a x y => d a x (.inr y)) s, dd, rfl⟩
theorem ARep.disj {l : List Arg} {vs : List V} (h : ARep K H σV l vs G) (d : Disj F G) (s : Step H F H1 F1) : Disj F1 G := fun a x y => by
  obtain ⟨u, hu⟩ := not_mut_none (h.mut a y)
  rcases s.new a x with z | z
  · exact d a z y
  · rw [hu] at z; cases z
theorem im_of {m : M} (h : owned m = false) : ∃ d, m = .im d := by
  cases m with
  | im d => exact ⟨d, rfl⟩
  | _ => cases h
theorem RepM.im_fp {d : D} (h : RepM K H (.im d) v G) : RepD K H d v ∧ G = fpE := by simpa only [RepM] using h
theorem repM_im {d : D} (h : RepD K H d v) : RepM K H (.im d) v fpE := by simp only [RepM]; exact ⟨h, trivial⟩
theorem takeA_ok : ∀ {l : List Arg} {vs : List V} {σ : Env} {F G : FP} {ms : List M} {σ2 : Env}, EnvR K H σ σV F → ARep K H σV l vs G → Disj F G → takeA l σ = some (ms, σ2) →
    ∃ F2 Fm, EnvR K H σ2 σV F2 ∧ EnvR K H (ms.map some) (vs.map some) Fm ∧ Disj F2 Fm ∧ (∀ a, F2 a → F a) ∧ ∀ a, Fm a → F a ∨ G a
  | [], vs, σ, F, G, ms, σ2, e, h, d, t => by
    obtain ⟨rfl, rfl⟩ := h
    simp only [takeA, Option.some.injEq, Prod.mk.injEq] at t
    obtain ⟨rfl, rfl⟩ := t
    exact ⟨F, fpE, e, EnvR.nil, fun _ _ z => z.elim, fun _ z => z, fun _ z => z.elim⟩
  | .inl i :: l, vs, σ, F, G, ms, σ2, e, h, d, t => by
    obtain ⟨v, r, rfl, hv, h⟩ := h
    simp only [takeA] at t
    split at t
    · rename_i m hm
      obtain ⟨⟨ms', σ2'⟩, ht, e2⟩ := Option.map_eq_some_iff.mp t
      simp only [Prod.mk.injEq] at e2
      obtain ⟨rfl, rfl⟩ := e2
      by_cases ho : owned m = true
      · rw [if_pos ho] at ht
        obtain ⟨v', Gm, F', hv', rm, e1, dd, rfl⟩ := e.take hm
        rw [hv] at hv'
        cases hv'
        obtain ⟨F2, Fm, a1, a2, a3, a4, a5⟩ := takeA_ok e1 h (fun a x y => d a (.inl x) y) ht
        have dm : Disj Fm Gm := fun a x y => by
          rcases a5 a x with z | z
          · exact dd a z y
          · exact d a (.inr y) z
        refine ⟨F2, fpU Fm Gm, a1, EnvR.cons a2 (fun m' q => ⟨v, rfl, by cases q; exact rm⟩) (fun q => nomatch q) dm, fun a x y => ?_, fun a z => .inl (a4 a z), fun a z => ?_⟩
        · rcases y with y | y
          · exact a3 a x y
          · exact dd a (a4 a x) y
        · rcases z with z | z
          · exact (a5 a z).imp .inl id
          · exact .inl (.inr z)
      · rw [if_neg ho] at ht
        obtain ⟨dat, rfl⟩ := im_of (by simpa using ho)
        obtain ⟨v', Gm, hv', rm, _⟩ := e.look hm
        rw [hv] at hv'
        cases hv'
        obtain ⟨rd, rfl⟩ := rm.im_fp
        obtain ⟨F2, Fm, a1, a2, a3, a4, a5⟩ := takeA_ok e h d ht
        refine ⟨F2, fpU Fm fpE, a1, EnvR.cons a2 (fun m' q => ⟨v, rfl, by cases q; exact rm⟩) (fun q => nomatch q) (fun _ _ z => z), fun a x y => ?_, a4, fun a z => ?_⟩
        · rcases y with y | y
          · exact a3 a x y
          · exact y.elim
        · rcases z with z | z
          · exact a5 a z
          · exact z.elim
    · cases t
  | .inr m :: l, vs, σ, F, G, ms, σ2, e, h, d, t => by
    obtain ⟨v, r, G1, G2, rfl, rm, h, dg, rfl⟩ := h
    simp only [takeA] at t
    obtain ⟨⟨ms', σ2'⟩, ht, e2⟩ := Option.map_eq_some_iff.mp t
    simp only [Prod.mk.injEq] at e2
    obtain ⟨rfl, rfl⟩ := e2
    obtain ⟨F2, Fm, a1, a2, a3, a4, a5⟩ := takeA_ok e h (fun a x y => d a x (.inr y)) ht
    have dm : Disj Fm G1 := fun a x y => by
      rcases a5 a x with z | z
      · exact d a z (.inl y)
      · exact dg a y z
    refine ⟨F2, fpU Fm G1, a1, EnvR.cons a2 (fun m' q => ⟨v, rfl, by cases q; exact rm⟩) (fun q => nomatch q) dm, fun a x y => ?_, a4, fun a z => ?_⟩
    · rcases y with y | y
      · exact a3 a x y
      · exact d a (a4 a x) (.inl y)
    · rcases z with z | z
      · exact (a5 a z).imp id .inr
      · exact .inr (.inl z)
/-- the places that the arguments name -/
def ANames (σV : L2.St) : List Arg → List V → Prop
  | [], _ => True
  | .inl i :: l, vs => ∃ v r, vs = v :: r ∧ σV[i]? = some (some v) ∧ ANames σV l r
  | .inr _ :: l, vs => ∃ v r, vs = v :: r ∧ ANames σV l r
theorem ARep.names : ∀ {l : List Arg} {vs : List V} {G : FP}, ARep K H σV l vs G → ANames σV l vs
  | [], _, _, _ => trivial
  | .inl i :: l, _, _, h => by
    obtain ⟨v, r, e, hv, h⟩ := h
    exact ⟨v, r, e, hv, ARep.names h⟩
  | .inr m :: l, _, _, h => by
    obtain ⟨v, r, F1, F2, e, r1, r2, _, rfl⟩ := h
    exact ⟨v, r, e, ARep.names r2⟩
theorem putA_ok : ∀ {l : List Arg} {vs : List V} {ms : List M} {os : List (Option M)} {σ : Env} {F Fo : FP}, EnvR K H σ σV F → EnvR K H os (vs.map some) Fo → ANames σV l vs → Disj F Fo →
    ∃ F3, EnvR K H (putA l ms os σ) σV F3 ∧ ∀ a, F3 a → F a ∨ Fo a
  | [], vs, ms, os, σ, F, Fo, e, o, n, d => by
    have : putA [] ms os σ = σ := by cases ms <;> cases os <;> rfl
    rw [this]
    exact ⟨F, e, fun _ z => .inl z⟩
  | .inl i :: l, vs, [], os, σ, F, Fo, e, o, n, d => ⟨F, by simpa only [putA] using e, fun _ z => .inl z⟩
  | .inl i :: l, vs, m :: ms, [], σ, F, Fo, e, o, n, d => ⟨F, by simpa only [putA] using e, fun _ z => .inl z⟩
  | .inr m' :: l, vs, [], os, σ, F, Fo, e, o, n, d => ⟨F, by simpa only [putA] using e, fun _ z => .inl z⟩
  | .inr m' :: l, vs, m :: ms, [], σ, F, Fo, e, o, n, d => ⟨F, by simpa only [putA] using e, fun _ z => .inl z⟩
  | .inr m' :: l, vs, m :: ms, x :: os, σ, F, Fo, e, o, n, d => by
    obtain ⟨v, r, rfl, n⟩ := n
    obtain ⟨F1, G, o1, _, _, dd, rfl⟩ := o.uncons
    obtain ⟨F3, h, s⟩ := putA_ok (ms := ms) e o1 n (fun a z w => d a z (.inl w))
    exact ⟨F3, h, fun a z => (s a z).imp id .inl⟩
  | .inl i :: l, vs, m :: ms, x :: os, σ, F, Fo, e, o, n, d => by
    obtain ⟨v, r, rfl, hv, n⟩ := n
    obtain ⟨F1, G, o1, rx, rn, dd, rfl⟩ := o.uncons
    show ∃ F3, EnvR K H (putA l ms os (if owned m then σ.set i x else σ)) σV F3 ∧ _
    by_cases ho : owned m = true
    · rw [if_pos ho]
      cases x with
      | none =>
        obtain ⟨F', e', s'⟩ := e.forget0 i
        obtain ⟨F3, h, s⟩ := putA_ok (ms := ms) e' o1 n (fun a z w => d a (s' a z) (.inl w))
        exact ⟨F3, h, fun a z => (s a z).imp (s' a) .inl⟩
      | some m' =>
        obtain ⟨v', ev, rm⟩ := rx m' rfl
        cases ev
        obtain ⟨F', e', s'⟩ := e.put hv rm (fun a z w => d a z (.inr w))
        obtain ⟨F3, h, s⟩ := putA_ok (ms := ms) e' o1 n (fun a z w => by
          rcases s' a z with z | z
          · exact d a z (.inl w)
          · exact dd a w z)
        refine ⟨F3, h, fun a z => ?_⟩
        rcases s a z with z | z
        · exact (s' a z).imp id .inr
        · exact .inr (.inl z)
    · rw [if_neg ho]
      obtain ⟨F3, h, s⟩ := putA_ok (ms := ms) e o1 n (fun a z w => d a z (.inl w))
      exact ⟨F3, h, fun a z => (s a z).imp id .inl⟩
end

/-! ### a def's promise, over the heap -/
def PostC (K : PySem.W.Frag) (H : Hp) (vs : List V) (F : FP) (Q1 : M → List (Option M) → Prop) (v : V) (H' : Hp) : Prop :=
  ∃ m os F1 G, Q1 m os ∧ EnvR K H' os (vs.map some) F1 ∧ RepM K H' m v G ∧ Disj F1 G ∧ Step H F H' (fpU F1 G)
def PostCX (K : PySem.W.Frag) (cc : Str → Addr) (H : Hp) (vs : List V) (F : FP) (E1 : XD → List (Option M) → Prop) (cls : Value) (d : Option Addr) (H' : Hp) : Prop :=
  ∃ x os F1, E1 x os ∧ EnvR K H' os (vs.map some) F1 ∧ Step H F H' F1 ∧ XR K cc H' x cls d
def toSp (K : PySem.W.Frag) (cc : Str → Addr) (n : Nat) (sp : Sp) : L2.Sp := fun vs H Q E => vs.length = n ∧ ∃ ms F Q1 E1, EnvR K H (ms.map some) (vs.map some) F ∧ sp ms Q1 E1 ∧
  (∀ v H', PostC K H vs F Q1 v H' → Q v H') ∧ ∀ cls d H', PostCX K cc H vs F E1 cls d H' → E cls d H'
end CP
namespace CP
open PySem PySem.Spec PyProof.Rows L2

section
variable {K : PySem.W.Frag} {H H1 H2 H' : Hp} {F F1 F2 G G1 G2 F' : FP} {m : M} {v : V} {i : Nat}
/-! ### parts of data -/
theorem RepDs.len : ∀ {ds : List D} {vs : List V}, RepDs K H ds vs → ds.length = vs.length
  | [], _, h => by simp only [RepDs] at h; rw [h]; rfl
  | d :: ds, _, h => by
    simp only [RepDs] at h
    obtain ⟨v, r, rfl, _, h⟩ := h
    simp [RepDs.len h]
theorem RepDs.get : ∀ {ds : List D} {vs : List V} {j : Nat} {d : D}, RepDs K H ds vs → ds[j]? = some d → ∃ v, vs[j]? = some v ∧ RepD K H d v
  | [], _, _, _, _, e => by simp at e
  | d :: ds, _, j, e, h, q => by
    simp only [RepDs] at h
    obtain ⟨v, r, rfl, h1, h⟩ := h
    cases j with
    | zero => simp at q; subst q; exact ⟨v, rfl, h1⟩
    | succ j =>
      obtain ⟨w, hw, r⟩ := RepDs.get h (by simpa using q)
      exact ⟨w, by simpa using hw, r⟩
theorem RepDs.set : ∀ {ds : List D} {vs : List V} {j : Nat} {d : D} {v : V}, RepDs K H ds vs → RepD K H d v → RepDs K H (ds.set j d) (vs.set j v)
  | [], _, _, _, _, h, _ => by simp only [RepDs] at h; subst h; simp [RepDs]
  | e :: ds, _, j, d, w, h, r => by
    simp only [RepDs] at h
    obtain ⟨v, r', rfl, h1, h⟩ := h
    cases j with
    | zero => simp only [List.set_cons_zero, RepDs]; exact ⟨w, r', rfl, r, h⟩
    | succ j => simp only [List.set_cons_succ, RepDs]; exact ⟨v, _, rfl, h1, RepDs.set h r⟩
theorem RepDs.app : ∀ {ds es : List D} {vs ws : List V}, RepDs K H ds vs → RepDs K H es ws → RepDs K H (ds ++ es) (vs ++ ws)
  | [], es, vs, ws, h, g => by simp only [RepDs] at h; subst h; exact g
  | d :: ds, es, _, ws, h, g => by
    simp only [RepDs] at h
    obtain ⟨v, r, rfl, h1, h⟩ := h
    show RepDs K H (d :: (ds ++ es)) (v :: (r ++ ws))
    simp only [RepDs]
    exact ⟨v, _, rfl, h1, RepDs.app h g⟩
theorem RepDs.drop : ∀ {ds : List D} {vs : List V} (n : Nat), RepDs K H ds vs → RepDs K H (ds.drop n) (vs.drop n)
  | ds, vs, 0, h => by simpa using h
  | [], _, n + 1, h => by simp only [RepDs] at h; subst h; simp [RepDs]
  | d :: ds, _, n + 1, h => by
    simp only [RepDs] at h
    obtain ⟨v, r, rfl, h1, h⟩ := h
    simpa using RepDs.drop n h
theorem RepDs.take : ∀ {ds : List D} {vs : List V} (n : Nat), RepDs K H ds vs → RepDs K H (ds.take n) (vs.take n)
  | ds, vs, 0, h => by simp [RepDs]
  | [], _, n + 1, h => by simp only [RepDs] at h; subst h; simp [RepDs]
  | d :: ds, _, n + 1, h => by
    simp only [RepDs] at h
    obtain ⟨v, r, rfl, h1, h⟩ := h
    simp only [List.take_succ_cons, RepDs]
    exact ⟨v, _, rfl, h1, RepDs.take n h⟩
theorem RepDs.rev : ∀ {ds : List D} {vs : List V}, RepDs K H ds vs → RepDs K H ds.reverse vs.reverse
  | [], _, h => by simp only [RepDs] at h; subst h; simp [RepDs]
  | d :: ds, _, h => by
    simp only [RepDs] at h
    obtain ⟨v, r, rfl, h1, h⟩ := h
    rw [List.reverse_cons, List.reverse_cons]
    exact (RepDs.rev h).app (by simp only [RepDs]; exact ⟨v, [], rfl, h1, rfl⟩)
theorem RepDs.dropLast {ds : List D} {vs : List V} (h : RepDs K H ds vs) : RepDs K H ds.dropLast vs.dropLast := by
  rw [List.dropLast_eq_take, List.dropLast_eq_take, h.len]
  exact h.take _
theorem RepDs.rep {ds : List D} {vs : List V} (h : RepDs K H ds vs) : ∀ n : Nat, RepDs K H (List.replicate n ds).flatten (List.replicate n vs).flatten
  | 0 => by simp [RepDs]
  | n + 1 => by
    rw [List.replicate_succ, List.replicate_succ, List.flatten_cons, List.flatten_cons]
    exact h.app (RepDs.rep h n)
theorem RepDs.one {d : D} {v : V} (h : RepD K H d v) : RepDs K H [d] [v] := by simp only [RepDs]; exact ⟨v, [], rfl, h, rfl⟩
theorem RepMs.len : ∀ {ms : List M} {vs : List V} {F : FP}, RepMs K H ms vs F → ms.length = vs.length
  | [], _, _, h => by simp only [RepMs] at h; rw [h.1]; rfl
  | d :: ds, _, _, h => by
    simp only [RepMs] at h
    obtain ⟨v, r, F1, F2, rfl, _, h, _⟩ := h
    simp [RepMs.len h]
theorem RepMs.get : ∀ {ms : List M} {vs : List V} {F : FP} {j : Nat}, RepMs K H ms vs F → ms[j]? = some m → ∃ v F1 F2, vs[j]? = some v ∧ RepM K H m v F1 ∧ F = fpU F1 F2 ∧ Disj F1 F2 ∧
    ∀ H' c' G', Keep H H' → (∀ a, F2 a → H' a = H a) → RepM K H' c' v G' → Disj G' F2 → RepMs K H' (ms.set j c') vs (fpU G' F2)
  | [], _, _, _, _, e => by simp at e
  | d :: ds, _, _, j, h, q => by
    simp only [RepMs] at h
    obtain ⟨v, r, F1, F2, rfl, h1, h, dd, rfl⟩ := h
    cases j with
    | zero =>
      simp at q; subst q
      refine ⟨v, F1, F2, rfl, h1, rfl, dd, fun H' c' G' k f r' d' => ?_⟩
      simp only [List.set_cons_zero, RepMs]
      exact ⟨v, r, G', F2, rfl, r', keepMs k _ _ _ f h, d', rfl⟩
    | succ j =>
      obtain ⟨w, A, B, hw, rw', rfl, d2, cl⟩ := RepMs.get h (by simpa using q)
      refine ⟨w, A, fpU F1 B, by simpa using hw, rw', fp_ext fun a => by simp only [fpU]; constructor <;> (intro z; rcases z with z | z | z <;> simp [z]), fun a x y => ?_, fun H' c' G' k f r' d' => ?_⟩
      · rcases y with y | y
        · exact dd a y (.inl x)
        · exact d2 a x y
      · simp only [List.set_cons_succ, RepMs]
        refine ⟨v, r, F1, fpU G' B, rfl, keepM k _ _ _ (fun a z => f a (.inl z)) h1, cl H' c' G' k (fun a z => f a (.inr z)) r' fun a x y => d' a x (.inr y), fun a x y => ?_, fp_ext fun a => by simp only [fpU]; constructor <;> (intro z; rcases z with z | z | z <;> simp [z])⟩
        rcases y with y | y
        · exact d' a y (.inl x)
        · exact dd a x (.inr y)
theorem kget_nil {κ α : Type} [DecidableEq κ] {k : κ} : kget ([] : List (κ × α)) k = none := rfl
theorem kget_cons {κ α : Type} [DecidableEq κ] {q k : κ} {x : α} {r : List (κ × α)} : kget ((q, x) :: r) k = if q = k then some x else kget r k := by
  unfold kget
  by_cases h : q = k <;> simp [List.find?_cons, h]
theorem valV_cons {κ : Type} [DecidableEq κ] {q k : κ} {x : V} {r : List (κ × V)} : valV ((q, x) :: r) k = if q = k then some x else valV r k := by
  by_cases h : q = k
  · rw [if_pos h]; exact valV_pos h
  · rw [if_neg h]; exact valV_neg h
theorem RepKs.get {κ : Type} [DecidableEq κ] {k : κ} : ∀ {kvs : List (κ × D)} {ws : List (κ × V)}, RepKs K H kvs ws → (∀ d, kget kvs k = some d → ∃ v, valV ws k = some v ∧ RepD K H d v) ∧ (kget kvs k = none → valV ws k = none)
  | [], _, h => by
    simp only [RepKs] at h
    subst h
    exact ⟨fun d e => (by rw [kget_nil] at e; cases e), fun _ => valV_nil⟩
  | (q, x) :: r, _, h => by
    simp only [RepKs] at h
    obtain ⟨v, r', rfl, h1, h⟩ := h
    rw [kget_cons, valV_cons]
    by_cases e : q = k
    · rw [if_pos e, if_pos e]
      exact ⟨fun d e => (by cases e; exact ⟨v, rfl, h1⟩), fun z => nomatch z⟩
    · rw [if_neg e, if_neg e]
      exact RepKs.get h
theorem RepKs.len {κ : Type} : ∀ {kvs : List (κ × D)} {ws : List (κ × V)}, RepKs K H kvs ws → kvs.length = ws.length
  | [], _, h => by simp only [RepKs] at h; rw [h]; rfl
  | (q, x) :: r, _, h => by
    simp only [RepKs] at h
    obtain ⟨v, r', rfl, h1, h⟩ := h
    simp [RepKs.len h]
theorem RepKs.any {κ : Type} [DecidableEq κ] {k : κ} : ∀ {kvs : List (κ × D)} {ws : List (κ × V)}, RepKs K H kvs ws → (kvs.any fun kv => decide (kv.1 = k)) = ws.any fun kv => decide (kv.1 = k)
  | [], _, h => by simp only [RepKs] at h; rw [h]; rfl
  | (q, x) :: r, _, h => by
    simp only [RepKs] at h
    obtain ⟨v, r', rfl, h1, h⟩ := h
    simp only [List.any_cons]
    rw [RepKs.any h]
theorem RepKs.map {κ : Type} [DecidableEq κ] {k : κ} {d : D} {v : V} (rd : RepD K H d v) : ∀ {kvs : List (κ × D)} {ws : List (κ × V)}, RepKs K H kvs ws → RepKs K H (kvs.map fun kv => if kv.1 = k then (kv.1, d) else kv) (ws.map fun kv => if kv.1 = k then (kv.1, v) else kv)
  | [], _, h => by simp only [RepKs] at h; subst h; simp [RepKs]
  | (q, x) :: r, _, h => by
    simp only [RepKs] at h
    obtain ⟨w, r', rfl, h1, h⟩ := h
    have ih := RepKs.map (k := k) rd h
    by_cases e : q = k
    · simp only [List.map_cons, e, if_true, RepKs]; exact ⟨v, _, rfl, rd, ih⟩
    · simp only [List.map_cons, e, if_false, RepKs]; exact ⟨w, _, rfl, h1, ih⟩
theorem RepKs.app {κ : Type} : ∀ {kvs kvs2 : List (κ × D)} {ws ws2 : List (κ × V)}, RepKs K H kvs ws → RepKs K H kvs2 ws2 → RepKs K H (kvs ++ kvs2) (ws ++ ws2)
  | [], _, _, _, h, g => by simp only [RepKs] at h; subst h; exact g
  | (q, x) :: r, kvs2, _, ws2, h, g => by
    simp only [RepKs] at h
    obtain ⟨w, r', rfl, h1, h⟩ := h
    show RepKs K H ((q, x) :: (r ++ kvs2)) ((q, w) :: (r' ++ ws2))
    simp only [RepKs]
    exact ⟨w, _, rfl, h1, RepKs.app h g⟩
theorem RepKs.put {κ : Type} [DecidableEq κ] {k : κ} {d : D} {v : V} {kvs : List (κ × D)} {ws : List (κ × V)} (rd : RepD K H d v) (h : RepKs K H kvs ws) : RepKs K H (kput kvs k d) (putK ws k v) := by
  unfold kput putK
  rw [h.any]
  split
  · exact RepKs.map rd h
  · exact h.app (by simp only [RepKs]; exact ⟨v, [], rfl, rd, rfl⟩)
theorem RepKMs.len : ∀ {kvs : List (Key × M)} {ws : List (Key × V)} {F : FP}, RepKMs K H kvs ws F → kvs.length = ws.length
  | [], _, _, h => by simp only [RepKMs] at h; rw [h.1]; rfl
  | (q, x) :: r, _, _, h => by
    simp only [RepKMs] at h
    obtain ⟨v, r', F1, F2, rfl, h1, h, _⟩ := h
    simp [RepKMs.len h]
theorem RepKMs.get {k : Key} : ∀ {kvs : List (Key × M)} {ws : List (Key × V)} {F : FP}, RepKMs K H kvs ws F → kget kvs k = some m → ∃ v F1 F2, valV ws k = some v ∧ RepM K H m v F1 ∧ F = fpU F1 F2 ∧ Disj F1 F2 ∧
    ∀ H' c' G', Keep H H' → (∀ a, F2 a → H' a = H a) → RepM K H' c' v G' → Disj G' F2 → RepKMs K H' (krep kvs k c') ws (fpU G' F2)
  | [], _, _, _, e => by rw [kget_nil] at e; cases e
  | (q, x) :: r, _, _, h, e => by
    simp only [RepKMs] at h
    obtain ⟨v, r', F1, F2, rfl, h1, h, dd, rfl⟩ := h
    rw [kget_cons] at e
    rw [valV_cons]
    by_cases eq : q = k
    · rw [if_pos eq] at e ⊢
      cases e
      refine ⟨v, F1, F2, rfl, h1, rfl, dd, fun H' c' G' k2 f r2 d' => ?_⟩
      unfold krep
      rw [if_pos eq]
      simp only [RepKMs]
      exact ⟨v, r', G', F2, rfl, r2, keepKMs k2 _ _ _ f h, d', rfl⟩
    · rw [if_neg eq] at e ⊢
      obtain ⟨w, A, B, hw, rw', rfl, d2, cl⟩ := RepKMs.get h e
      refine ⟨w, A, fpU F1 B, hw, rw', fp_ext fun a => by simp only [fpU]; constructor <;> (intro z; rcases z with z | z | z <;> simp [z]), fun a x y => ?_, fun H' c' G' k2 f r2 d' => ?_⟩
      · rcases y with y | y
        · exact dd a y (.inl x)
        · exact d2 a x y
      · unfold krep
        rw [if_neg eq]
        simp only [RepKMs]
        refine ⟨v, r', F1, fpU G' B, rfl, keepM k2 _ _ _ (fun a z => f a (.inl z)) h1, cl H' c' G' k2 (fun a z => f a (.inr z)) r2 fun a x y => d' a x (.inr y), fun a x y => ?_, fp_ext fun a => by simp only [fpU]; constructor <;> (intro z; rcases z with z | z | z <;> simp [z])⟩
        rcases y with y | y
        · exact d' a y (.inl x)
        · exact dd a x (.inr y)
theorem atI_rep {ds : List D} {vs : List V} {i : Int} {d : D} (h : RepDs K H ds vs) (e : atI ds i = some d) : ∃ v, atI vs i = some v ∧ RepD K H d v := by
  unfold atI at e ⊢
  rw [← h.len]
  obtain ⟨j, hj, e2⟩ := Option.bind_eq_some_iff.mp e
  obtain ⟨v, hv, r⟩ := h.get e2
  exact ⟨v, by rw [hj]; exact hv, r⟩
theorem keyOf_rep {d : D} {k : Key} {v : V} (h : keyOf d = some k) (r : RepD K H d v) : v = kV k := by
  cases d <;> simp only [keyOf] at h <;> first | (cases h; done) | (cases h; simpa only [RepD, kV] using r)
theorem keysOf_rep : ∀ {ds : List D} {ks : List Key} {vs : List V}, keysOf ds = some ks → RepDs K H ds vs → vs = ks.map kV
  | [], ks, vs, h, r => by
    simp only [keysOf, Option.some.injEq] at h
    simp only [RepDs] at r
    rw [← h, r]; rfl
  | d :: ds, ks, vs, h, r => by
    simp only [keysOf] at h
    obtain ⟨k, hk, h⟩ := Option.bind_eq_some_iff.mp h
    obtain ⟨ks', h', e⟩ := Option.map_eq_some_iff.mp h
    subst e
    simp only [RepDs] at r
    obtain ⟨v, r', rfl, r1, r2⟩ := r
    rw [keyOf_rep hk r1, keysOf_rep h' r2]
    rfl
end
end CP
namespace CP
open PySem PySem.Spec PyProof.Rows L2

/-! ### results -/
def Res (K : PySem.W.Frag) (z : M) (H : Hp) (Q : VK) : Prop := ∀ v H' Gz, RepM K H' z v Gz → Ext H H' Gz → Q v H'
def RO2 (K : PySem.W.Frag) (o : O2) : R2 := fun vx vy H Q => ∃ x y z Gx Gy, RepM K H x vx Gx ∧ RepM K H y vy Gy ∧ op2M o x y = some z ∧ Res K z H Q
def RO1 (K : PySem.W.Frag) (o : O1) : V → Hp → VK → Prop := fun vx H Q => ∃ x z Gx, RepM K H x vx Gx ∧ op1M o x = some z ∧ Res K z H Q
section
variable {K : PySem.W.Frag} {H H' : Hp} {d : D} {ds : List D} {vs : List V} {v : V} {Q : VK} {G : FP}
theorem Res.im (q : Res K (.im d) H Q) (r : RepD K H d v) : Q v H := q v H fpE (repM_im r) Ext.refl
theorem Res.lst (q : Res K (.lst ds) H Q) (r : RepDs K H ds vs) : ∀ p, H p = none → Q (.ref p) (upd H p (.lst vs)) := fun p hp =>
  q _ _ (fpI p fpE) (by simp only [RepM]; exact ⟨p, vs, rfl, upd_same, keepDs (Ext.upd hp).toKeep ds vs r, rfl⟩) (Ext.upd hp)
theorem Res.tup (q : Res K (.im (.tup ds)) H Q) (r : RepDs K H ds vs) : ∀ p, H p = none → Q (.ref p) (upd H p (.tup vs)) := fun p hp =>
  q _ _ fpE (repM_im (by simp only [RepD]; exact ⟨p, vs, rfl, upd_same, keepDs (Ext.upd hp).toKeep ds vs r⟩)) ((Ext.upd hp).sub fun _ z => z.elim)
end
theorem rep_int {K : PySem.W.Frag} {H : Hp} {i : Int} {v : V} : RepD K H (.int i) v ↔ v = .int i := by simp only [RepD]
theorem rep_str {K : PySem.W.Frag} {H : Hp} {i : Str} {v : V} : RepD K H (.str i) v ↔ v = .str i := by simp only [RepD]
theorem rep_bl {K : PySem.W.Frag} {H : Hp} {i : Bool} {v : V} : RepD K H (.bl i) v ↔ v = .bl i := by simp only [RepD]
theorem rep_non {K : PySem.W.Frag} {H : Hp} {v : V} : RepD K H .non v ↔ v = .non := by simp only [RepD]
theorem rep_tup {K : PySem.W.Frag} {H : Hp} {ds : List D} {v : V} : RepD K H (.tup ds) v ↔ ∃ a vs, v = .ref a ∧ H a = some (.tup vs) ∧ RepDs K H ds vs := by simp only [RepD]
theorem rep_kt {K : PySem.W.Frag} {H : Hp} {ds : List D} {v : V} : RepD K H (.kt ds) v ↔ ∃ a vs, v = .ref a ∧ SqK K H a vs ∧ RepDs K H ds vs := by simp only [RepD]
theorem SqK.sqT {K : PySem.W.Frag} {H : Hp} {a : Addr} {xs : List V} (h : SqK K H a xs) : SqT K H a xs := by
  rcases h with ⟨o, its, n, h1, h2, _, h3, h4, h5⟩ | ⟨o, h, _⟩
  · exact .inr ⟨o, its, n, h1, h2, h3, h4, h5⟩
  · exact .inl (.inr ⟨o, h⟩)
theorem rep_flst {K : PySem.W.Frag} {H : Hp} {ds : List D} {v : V} : RepD K H (.lst ds) v ↔ ∃ a vs, v = .ref a ∧ SqF K H a vs ∧ RepDs K H ds vs := by simp only [RepD]
theorem repM_lst {K : PySem.W.Frag} {H : Hp} {ds : List D} {v : V} {F : FP} : RepM K H (.lst ds) v F ↔ ∃ a vs, v = .ref a ∧ H a = some (.lst vs) ∧ RepDs K H ds vs ∧ F = fpI a fpE := by simp only [RepM]
theorem repM_nst {K : PySem.W.Frag} {H : Hp} {ms : List M} {v : V} {F : FP} : RepM K H (.nst ms) v F ↔ ∃ a vs G, v = .ref a ∧ H a = some (.lst vs) ∧ RepMs K H ms vs G ∧ ¬ G a ∧ F = fpI a G := by simp only [RepM]
theorem repM_dct {K : PySem.W.Frag} {H : Hp} {kvs : List (Key × D)} {v : V} {F : FP} : RepM K H (.dct kvs) v F ↔ ∃ a ws, v = .ref a ∧ H a = some (.dK ws) ∧ RepKs K H kvs ws ∧ F = fpI a fpE := by simp only [RepM]
theorem repM_dnn {K : PySem.W.Frag} {H : Hp} {kvs : List (Key × M)} {v : V} {F : FP} : RepM K H (.dnn kvs) v F ↔ ∃ a ws G, v = .ref a ∧ H a = some (.dK ws) ∧ RepKMs K H kvs ws G ∧ ¬ G a ∧ F = fpI a G := by simp only [RepM]
theorem repM_dcT {K : PySem.W.Frag} {H : Hp} {kvs : List (List Key × D)} {v : V} {F : FP} : RepM K H (.dcT kvs) v F ↔ ∃ a ws, v = .ref a ∧ H a = some (.dT ws) ∧ RepKs K H kvs ws ∧ F = fpI a fpE := by simp only [RepM]
theorem repM_imI {K : PySem.W.Frag} {H : Hp} {d : D} {v : V} {F : FP} : RepM K H (.im d) v F ↔ RepD K H d v ∧ F = fpE := by simp only [RepM]

/-! ### what stands at a place -/
def rIxD : R2 := fun x y H Q => ∃ a v, x = .ref a ∧ DGet H a y (some v) ∧ Q v H
theorem ix_dict {X : Cx} (hu : X.A.units + 1 < cLine) : IxR X rIxD := by
  intro value slice pins s σ H x y v u Q I rx ry h hs
  obtain ⟨a, z, rfl, g, q⟩ := h
  obtain rfl : v = Value.ref a := rx
  exact tail_any (dict_typeIs I g) PySem.F.slot_dict_getitem.lookup (d_getItem hu I g ry fun w' s3 I3 rw' => ⟨z, H, I3, rw', q⟩) hs
def rAll (K : PySem.W.Frag) : R2 := fun x y H Q => rIxL K x y H Q ∨ rIxT K x y H Q ∨ rIxS x y H Q ∨ rIxD x y H Q
theorem ix_all {X : Cx} (hu : X.A.units + 1 < cLine) : IxR X (rAll X.K) := ix_list.or (ix_tup.or (ix_str.or (ix_dict hu)))
section
variable {K : PySem.W.Frag} {H : Hp}
theorem tupKey {ds : List D} {vy : V} {ks : List Key} {Gy : FP} (hy : RepM K H (.im (.tup ds)) vy Gy) (hk : keysOf ds = some ks) : ∃ b, vy = .ref b ∧ H b = some (.tup (ks.map kV)) := by
  obtain ⟨hy, _⟩ := repM_imI.mp hy
  obtain ⟨b, vs, e, s, r⟩ := rep_tup.mp hy
  exact ⟨b, e, by rw [← keysOf_rep hk r]; exact s⟩
theorem getM_ok {x y r : M} {vx vy : V} {Gx Gy : FP} (hx : RepM K H x vx Gx) (hy : RepM K H y vy Gy) (e : getM x y = some r) :
    ∃ v' Gr, (∀ Q : VK, Q v' H → rAll K vx vy H Q) ∧ RepM K H r v' Gr ∧ (∀ a, Gr a → Gx a) ∧
      ∀ H' c' G' x', Keep H H' → (∀ a, Gx a → ¬ Gr a → H' a = H a) → RepM K H' c' v' G' → (∀ a, G' a → Gx a → Gr a) → repM x y c' = some x' → ∃ Gx', RepM K H' x' vx Gx' ∧ ∀ a, Gx' a → (Gx a ∧ ¬ Gr a) ∨ G' a := by
  unfold getM at e
  split at e
  · rename_i ds i
    obtain ⟨d, hd, rfl⟩ := Option.map_eq_some_iff.mp e
    obtain ⟨a, vs, rfl, s, rs⟩ := rep_tup.mp (repM_imI.mp hx).1
    obtain rfl := rep_int.mp (repM_imI.mp hy).1
    obtain ⟨w, hw, rw'⟩ := atI_rep rs hd
    exact ⟨w, fpE, fun Q q => .inr (.inl ⟨a, vs, i, w, rfl, rfl, SqT.of s, hw, q⟩), repM_im rw', fun _ z => z.elim, fun H' c' G' x' _ _ _ _ z => by simp only [repM] at z; cases z⟩
  · rename_i ds i
    obtain ⟨d, hd, rfl⟩ := Option.map_eq_some_iff.mp e
    obtain ⟨a, vs, rfl, s, rs⟩ := rep_flst.mp (repM_imI.mp hx).1
    obtain rfl := rep_int.mp (repM_imI.mp hy).1
    obtain ⟨w, hw, rw'⟩ := atI_rep rs hd
    exact ⟨w, fpE, fun Q q => .inl ⟨a, vs, i, w, rfl, rfl, s.sqL, hw, q⟩, repM_im rw', fun _ z => z.elim, fun H' c' G' x' _ _ _ _ z => by simp only [repM] at z; cases z⟩
  · rename_i ds i
    obtain ⟨d, hd, rfl⟩ := Option.map_eq_some_iff.mp e
    obtain ⟨a, vs, rfl, s, rs⟩ := rep_kt.mp (repM_imI.mp hx).1
    obtain rfl := rep_int.mp (repM_imI.mp hy).1
    obtain ⟨w, hw, rw'⟩ := atI_rep rs hd
    exact ⟨w, fpE, fun Q q => .inr (.inl ⟨a, vs, i, w, rfl, rfl, s.sqT, hw, q⟩), repM_im rw', fun _ z => z.elim, fun H' c' G' x' _ _ _ _ z => by simp only [repM] at z; cases z⟩
  · rename_i ds i
    obtain ⟨d, hd, rfl⟩ := Option.map_eq_some_iff.mp e
    obtain ⟨a, vs, rfl, s, rs, _⟩ := repM_lst.mp hx
    obtain rfl := rep_int.mp (repM_imI.mp hy).1
    obtain ⟨w, hw, rw'⟩ := atI_rep rs hd
    exact ⟨w, fpE, fun Q q => .inl ⟨a, vs, i, w, rfl, rfl, SqL.of s, hw, q⟩, repM_im rw', fun _ z => z.elim, fun H' c' G' x' _ _ _ _ z => by simp only [repM] at z; cases z⟩
  · rename_i ms i
    obtain ⟨a, vs, G, rfl, s, rs, na, rfl⟩ := repM_nst.mp hx
    obtain rfl := rep_int.mp (repM_imI.mp hy).1
    unfold atI at e
    obtain ⟨j, hj, e⟩ := Option.bind_eq_some_iff.mp e
    obtain ⟨w, A, B, hw, rw', rfl, dd, cl⟩ := rs.get e
    refine ⟨w, A, fun Q q => .inl ⟨a, vs, i, w, rfl, rfl, SqL.of s, by unfold atI; rw [← rs.len, hj]; exact hw, q⟩, rw', fun b z => .inr (.inl z), fun H' c' G' x' k f rc dg z => ?_⟩
    simp only [repM, hj, Option.map_some, Option.some.injEq] at z
    subst z
    have nA : ¬ A a := fun z => na (.inl z)
    have hB : ∀ b, B b → H' b = H b := fun b z => f b (.inr (.inr z)) fun w => dd b w z
    refine ⟨fpI a (fpU G' B), repM_nst.mpr ⟨a, vs, fpU G' B, rfl, (f a (.inl rfl) nA).trans s, cl H' c' G' k hB rc fun b z w => dd b (dg b z (.inr (.inr w))) w, fun z => ?_, rfl⟩, fun b z => ?_⟩
    · rcases z with z | z
      · exact nA (dg a z (.inl rfl))
      · exact na (.inr z)
    · rcases z with rfl | z | z
      · exact .inl ⟨.inl rfl, nA⟩
      · exact .inr z
      · exact .inl ⟨.inr (.inr z), fun w => dd b w z⟩
  · rename_i s i
    split at e
    · rename_i hz
      obtain ⟨c, hc, rfl⟩ := Option.map_eq_some_iff.mp e
      obtain rfl := rep_str.mp (repM_imI.mp hx).1
      obtain rfl := rep_int.mp (repM_imI.mp hy).1
      exact ⟨.str ⟨#[c]⟩, fpE, fun Q q => .inr (.inr (.inl ⟨s, i, c, rfl, rfl, hz, hc, q⟩)), repM_im (rep_str.mpr rfl), fun _ z => z.elim, fun H' c' G' x' _ _ _ _ z => by simp only [repM] at z; cases z⟩
    · cases e
  · rename_i kvs i
    obtain ⟨d, hd, rfl⟩ := Option.map_eq_some_iff.mp e
    obtain ⟨a, ws, rfl, s, rs, _⟩ := repM_dct.mp hx
    obtain rfl := rep_int.mp (repM_imI.mp hy).1
    obtain ⟨w, hw, rw'⟩ := rs.get.1 d hd
    exact ⟨w, fpE, fun Q q => .inr (.inr (.inr ⟨a, w, rfl, by rw [← hw]; exact DGet.k (k := Sum.inl i) s, q⟩)), repM_im rw', fun _ z => z.elim, fun H' c' G' x' _ _ _ _ z => by simp only [repM] at z; cases z⟩
  · rename_i kvs i
    obtain ⟨d, hd, rfl⟩ := Option.map_eq_some_iff.mp e
    obtain ⟨a, ws, rfl, s, rs, _⟩ := repM_dct.mp hx
    obtain rfl := rep_str.mp (repM_imI.mp hy).1
    obtain ⟨w, hw, rw'⟩ := rs.get.1 d hd
    exact ⟨w, fpE, fun Q q => .inr (.inr (.inr ⟨a, w, rfl, by rw [← hw]; exact DGet.k (k := Sum.inr i) s, q⟩)), repM_im rw', fun _ z => z.elim, fun H' c' G' x' _ _ _ _ z => by simp only [repM] at z; cases z⟩
  · rename_i kvs i
    obtain ⟨a, ws, G, rfl, s, rs, na, rfl⟩ := repM_dnn.mp hx
    obtain rfl := rep_int.mp (repM_imI.mp hy).1
    obtain ⟨w, A, B, hw, rw', rfl, dd, cl⟩ := rs.get e
    refine ⟨w, A, fun Q q => .inr (.inr (.inr ⟨a, w, rfl, by rw [← hw]; exact DGet.k (k := Sum.inl i) s, q⟩)), rw', fun b z => .inr (.inl z), fun H' c' G' x' k f rc dg z => ?_⟩
    simp only [repM, Option.some.injEq] at z
    subst z
    have nA : ¬ A a := fun z => na (.inl z)
    have hB : ∀ b, B b → H' b = H b := fun b z => f b (.inr (.inr z)) fun w => dd b w z
    refine ⟨fpI a (fpU G' B), repM_dnn.mpr ⟨a, ws, fpU G' B, rfl, (f a (.inl rfl) nA).trans s, cl H' c' G' k hB rc fun b z w => dd b (dg b z (.inr (.inr w))) w, fun z => ?_, rfl⟩, fun b z => ?_⟩
    · rcases z with z | z
      · exact nA (dg a z (.inl rfl))
      · exact na (.inr z)
    · rcases z with rfl | z | z
      · exact .inl ⟨.inl rfl, nA⟩
      · exact .inr z
      · exact .inl ⟨.inr (.inr z), fun w => dd b w z⟩
  · rename_i kvs i
    obtain ⟨a, ws, G, rfl, s, rs, na, rfl⟩ := repM_dnn.mp hx
    obtain rfl := rep_str.mp (repM_imI.mp hy).1
    obtain ⟨w, A, B, hw, rw', rfl, dd, cl⟩ := rs.get e
    refine ⟨w, A, fun Q q => .inr (.inr (.inr ⟨a, w, rfl, by rw [← hw]; exact DGet.k (k := Sum.inr i) s, q⟩)), rw', fun b z => .inr (.inl z), fun H' c' G' x' k f rc dg z => ?_⟩
    simp only [repM, Option.some.injEq] at z
    subst z
    have nA : ¬ A a := fun z => na (.inl z)
    have hB : ∀ b, B b → H' b = H b := fun b z => f b (.inr (.inr z)) fun w => dd b w z
    refine ⟨fpI a (fpU G' B), repM_dnn.mpr ⟨a, ws, fpU G' B, rfl, (f a (.inl rfl) nA).trans s, cl H' c' G' k hB rc fun b z w => dd b (dg b z (.inr (.inr w))) w, fun z => ?_, rfl⟩, fun b z => ?_⟩
    · rcases z with z | z
      · exact nA (dg a z (.inl rfl))
      · exact na (.inr z)
    · rcases z with rfl | z | z
      · exact .inl ⟨.inl rfl, nA⟩
      · exact .inr z
      · exact .inl ⟨.inr (.inr z), fun w => dd b w z⟩
  · rename_i kvs ds
    obtain ⟨ks, hk, e⟩ := Option.bind_eq_some_iff.mp e
    obtain ⟨d, hd, rfl⟩ := Option.map_eq_some_iff.mp e
    obtain ⟨a, ws, rfl, s, rs, _⟩ := repM_dcT.mp hx
    obtain ⟨b, rfl, sb⟩ := tupKey hy hk
    obtain ⟨w, hw, rw'⟩ := rs.get.1 d hd
    exact ⟨w, fpE, fun Q q => .inr (.inr (.inr ⟨a, w, rfl, by rw [← hw]; exact DGet.t s sb, q⟩)), repM_im rw', fun _ z => z.elim, fun H' c' G' x' _ _ _ _ z => by simp only [repM] at z; cases z⟩
  · cases e
end
end CP
namespace CP
open PySem PySem.Spec PyProof.Rows L2

theorem isE_len {α β : Type} {l : List α} {k : List β} (h : l.length = k.length) : (!l.isEmpty) = !k.isEmpty := by
  cases l <;> cases k <;> simp at h <;> rfl
section
variable {K : PySem.W.Frag} {H : Hp} {m x y z : M} {v vx vy : V} {Gm Gx Gy : FP} {Q : VK}
theorem seqM_ok {ds : List D} (h : RepM K H m v Gm) (e : seqM m = some ds) : ∃ p vs, v = .ref p ∧ (SqL K H p vs ∨ SqT K H p vs) ∧ RepDs K H ds vs := by
  unfold seqM at e
  split at e <;> first | (cases e; done) | skip
  · cases e
    obtain ⟨a, vs, rfl, s, r⟩ := rep_tup.mp (repM_imI.mp h).1
    exact ⟨a, vs, rfl, .inr (SqT.of s), r⟩
  · cases e
    obtain ⟨a, vs, rfl, s, r⟩ := rep_flst.mp (repM_imI.mp h).1
    exact ⟨a, vs, rfl, .inl s.sqL, r⟩
  · cases e
    obtain ⟨a, vs, rfl, s, r⟩ := rep_kt.mp (repM_imI.mp h).1
    exact ⟨a, vs, rfl, .inr s.sqT, r⟩
  · cases e
    obtain ⟨a, vs, rfl, s, r, _⟩ := repM_lst.mp h
    exact ⟨a, vs, rfl, .inl (SqL.of s), r⟩
theorem lstM_ok {ds : List D} (h : RepM K H m v Gm) (e : lstM m = some ds) : ∃ p vs, v = .ref p ∧ SqL K H p vs ∧ RepDs K H ds vs := by
  unfold lstM at e
  split at e <;> first | (cases e; done) | skip
  · cases e
    obtain ⟨a, vs, rfl, s, r⟩ := rep_flst.mp (repM_imI.mp h).1
    exact ⟨a, vs, rfl, s.sqL, r⟩
  · cases e
    obtain ⟨a, vs, rfl, s, r, _⟩ := repM_lst.mp h
    exact ⟨a, vs, rfl, SqL.of s, r⟩
theorem ints_of : ∀ {ds : List D} {vs : List V} {n : Int}, RepDs K H ds vs → sumI ds = some n → ∃ ns : List Int, vs = ns.map V.int ∧ ns.sum = n
  | [], vs, n, r, e => by
    simp only [RepDs] at r
    simp only [sumI, Option.some.injEq] at e
    subst r e
    exact ⟨[], rfl, rfl⟩
  | d :: ds, vs, n, r, e => by
    simp only [RepDs] at r
    obtain ⟨w, ws, rfl, r1, r2⟩ := r
    cases d <;> simp only [sumI] at e <;> first | (cases e; done) | skip
    rename_i i
    obtain ⟨k, hk, rfl⟩ := Option.map_eq_some_iff.mp e
    obtain ⟨ns, rfl, rfl⟩ := ints_of r2 hk
    obtain rfl := rep_int.mp r1
    exact ⟨i :: ns, rfl, by simp⟩
theorem strs_ofD : ∀ {ds : List D} {vs : List V} {ss : List Str}, RepDs K H ds vs → strsOf ds = some ss → vs = ss.map V.str
  | [], vs, n, r, e => by
    simp only [RepDs] at r
    simp only [strsOf, Option.some.injEq] at e
    subst r e
    rfl
  | d :: ds, vs, n, r, e => by
    simp only [RepDs] at r
    obtain ⟨w, ws, rfl, r1, r2⟩ := r
    cases d <;> simp only [strsOf] at e <;> first | (cases e; done) | skip
    rename_i i
    obtain ⟨k, hk, rfl⟩ := Option.map_eq_some_iff.mp e
    rw [strs_ofD r2 hk, rep_str.mp r1]
    rfl
theorem len_ok {n : Int} (h : RepM K H m v Gm) (e : lenM m = some n) : ∃ k : Nat, n = k ∧ ((∃ z : Str, v = .str z ∧ z.length ≤ sizeLine ∧ k = z.length) ∨ (∃ p vs, v = .ref p ∧ (SqL K H p vs ∨ SqT K H p vs) ∧ k = vs.length) ∨ ∃ p ws, v = .ref p ∧ H p = some (.dK ws) ∧ k = ws.length) := by
  unfold lenM at e
  split at e <;> first | (cases e; done) | skip
  · cases e
    obtain ⟨a, vs, rfl, s, r⟩ := rep_tup.mp (repM_imI.mp h).1
    exact ⟨_, rfl, .inr (.inl ⟨a, vs, rfl, .inr (SqT.of s), r.len⟩)⟩
  · cases e
    obtain ⟨a, vs, rfl, s, r⟩ := rep_flst.mp (repM_imI.mp h).1
    exact ⟨_, rfl, .inr (.inl ⟨a, vs, rfl, .inl s.sqL, r.len⟩)⟩
  · cases e
    obtain ⟨a, vs, rfl, s, r⟩ := rep_kt.mp (repM_imI.mp h).1
    exact ⟨_, rfl, .inr (.inl ⟨a, vs, rfl, .inr s.sqT, r.len⟩)⟩
  · split at e
    · cases e
      obtain rfl := rep_str.mp (repM_imI.mp h).1
      exact ⟨_, rfl, .inl ⟨_, rfl, by assumption, rfl⟩⟩
    · cases e
  · cases e
    obtain ⟨a, vs, rfl, s, r, _⟩ := repM_lst.mp h
    exact ⟨_, rfl, .inr (.inl ⟨a, vs, rfl, .inl (SqL.of s), r.len⟩)⟩
  · cases e
    obtain ⟨a, vs, G, rfl, s, r, _⟩ := repM_nst.mp h
    exact ⟨_, rfl, .inr (.inl ⟨a, vs, rfl, .inl (SqL.of s), r.len⟩)⟩
  · cases e
    obtain ⟨a, vs, rfl, s, r, _⟩ := repM_dct.mp h
    exact ⟨_, rfl, .inr (.inr ⟨a, vs, rfl, s, r.len⟩)⟩
  · cases e
    obtain ⟨a, vs, G, rfl, s, r, _⟩ := repM_dnn.mp h
    exact ⟨_, rfl, .inr (.inr ⟨a, vs, rfl, s, r.len⟩)⟩
theorem truth_ok {b : Bool} (h : RepM K H m v Gm) (e : truM m = some b) : TruV K v H b := by
  have ie : ∀ {ds : List D} {vs : List V}, RepDs K H ds vs → (!ds.isEmpty) = !vs.isEmpty := fun {ds vs} r => by
    have := r.len
    cases ds <;> cases vs <;> simp at this <;> rfl
  unfold truM at e
  split at e <;> first | (cases e; done) | skip
  · cases e
    obtain rfl := rep_non.mp (repM_imI.mp h).1
    rfl
  · cases e
    obtain rfl := rep_bl.mp (repM_imI.mp h).1
    rfl
  · cases e
    obtain rfl := rep_int.mp (repM_imI.mp h).1
    rfl
  · split at e
    · rename_i s hs
      cases e
      obtain rfl := rep_str.mp (repM_imI.mp h).1
      refine ⟨hs, ?_⟩
      show (s.length != 0) = ((s.length : Int) != 0)
      cases s.length <;> rfl
    · cases e
  · cases e
    obtain ⟨a, vs, rfl, s, r⟩ := rep_tup.mp (repM_imI.mp h).1
    exact .inr (.inl ⟨vs, SqT.of s, ie r⟩)
  · cases e
    obtain ⟨a, vs, rfl, s, r⟩ := rep_flst.mp (repM_imI.mp h).1
    exact .inl ⟨vs, s.sqL, ie r⟩
  · cases e
    obtain ⟨a, vs, rfl, s, r⟩ := rep_kt.mp (repM_imI.mp h).1
    exact .inr (.inl ⟨vs, s.sqT, ie r⟩)
  · cases e
    obtain ⟨a, vs, rfl, s, r, _⟩ := repM_lst.mp h
    exact .inl ⟨vs, SqL.of s, ie r⟩
  · cases e
    obtain ⟨a, vs, G, rfl, s, r, _⟩ := repM_nst.mp h
    exact .inl ⟨vs, SqL.of s, isE_len r.len⟩
  · cases e
    obtain ⟨a, vs, rfl, s, r, _⟩ := repM_dct.mp h
    exact .inr (.inr ⟨vs, s, isE_len r.len⟩)
theorem toPy_ok : (∀ (d : D) (v : V) (a : PyData), RepD K H d v → toPy d = some a → Dp K H v a) := by
  intro d
  exact D.rec (motive_1 := fun d => ∀ (v : V) (a : PyData), RepD K H d v → toPy d = some a → Dp K H v a)
    (motive_2 := fun ds => ∀ (vs : List V) (as : List PyData), RepDs K H ds vs → toPys ds = some as → DpAll K H vs as)
    (fun v a r e => by simp only [RepD] at r; simp only [toPy, Option.some.injEq] at e; subst r e; exact .non)
    (fun b v a r e => by simp only [RepD] at r; simp only [toPy, Option.some.injEq] at e; subst r e; exact .bl b)
    (fun b v a r e => by simp only [RepD] at r; simp only [toPy, Option.some.injEq] at e; subst r e; exact .int b)
    (fun b v a r e => by simp only [RepD] at r; simp only [toPy, Option.some.injEq] at e; subst r e; exact .str b)
    (fun ds ih v a r e => by
      obtain ⟨p, vs, rfl, s, r⟩ := rep_tup.mp r
      simp only [toPy] at e
      obtain ⟨as, h, rfl⟩ := Option.map_eq_some_iff.mp e
      exact .tup (SqT.of s) (ih vs as r h))
    (fun ds ih v a r e => by
      obtain ⟨p, vs, rfl, s, r⟩ := rep_flst.mp r
      simp only [toPy] at e
      obtain ⟨as, h, rfl⟩ := Option.map_eq_some_iff.mp e
      exact .lst s.sqL (ih vs as r h))
    (fun ds ih v a r e => by
      obtain ⟨p, vs, rfl, s, r⟩ := rep_kt.mp r
      simp only [toPy] at e
      obtain ⟨as, h, rfl⟩ := Option.map_eq_some_iff.mp e
      exact .tup s.sqT (ih vs as r h))
    (fun n v a r e => by simp only [toPy] at e; cases e)
    (fun n v a r e => by simp only [toPy] at e; cases e)
    (fun vs as r e => by
      simp only [RepDs] at r
      simp only [toPys, Option.some.injEq] at e
      subst r e
      exact .nil)
    (fun d ds ih1 ih2 vs as r e => by
      simp only [RepDs] at r
      obtain ⟨w, ws, rfl, r1, r2⟩ := r
      simp only [toPys] at e
      obtain ⟨a, ha, e⟩ := Option.bind_eq_some_iff.mp e
      obtain ⟨as', h, rfl⟩ := Option.map_eq_some_iff.mp e
      exact .cons (ih1 w a r1 ha) (ih2 ws as' r2 h)) d
theorem toPys_ok : ∀ {ds : List D} {vs : List V} {as : List PyData}, RepDs K H ds vs → toPys ds = some as → DpAll K H vs as
  | [], vs, as, r, e => by
    simp only [RepDs] at r
    simp only [toPys, Option.some.injEq] at e
    subst r e
    exact .nil
  | d :: ds, vs, as, r, e => by
    simp only [RepDs] at r
    obtain ⟨w, ws, rfl, r1, r2⟩ := r
    simp only [toPys] at e
    obtain ⟨a, ha, e⟩ := Option.bind_eq_some_iff.mp e
    obtain ⟨as', h, rfl⟩ := Option.map_eq_some_iff.mp e
    exact .cons (toPy_ok d w a r1 ha) (toPys_ok r2 h)
theorem scal_ok {d e : D} (h : scalD d e = true) (rd : RepD K H d vx) (re : RepD K H e vy) : scal vx vy = true ∧ decide (vx = vy) = sameD d e := by
  unfold scalD at h
  split at h <;> first | (cases h; done) | skip
  all_goals (simp only [RepD] at rd re; subst rd re; refine ⟨rfl, ?_⟩; simp [sameD])
theorem asPy_ok {d : D} {a : PyData} (h : RepM K H x vx Gx) (e : asD x = some d) (e2 : toPy d = some a) : Dp K H vx a := by
  cases x with
  | im d' =>
    simp only [asD, Option.some.injEq] at e
    subst e
    exact toPy_ok _ _ _ (repM_imI.mp h).1 e2
  | lst ds =>
    simp only [asD, Option.some.injEq] at e
    subst e
    simp only [toPy] at e2
    obtain ⟨as, ha, rfl⟩ := Option.map_eq_some_iff.mp e2
    obtain ⟨p, vs, rfl, s, r, _⟩ := repM_lst.mp h
    exact .lst (SqL.of s) (toPys_ok r ha)
  | _ => simp only [asD] at e; cases e
theorem asScal_ok {d e : D} (hx : RepM K H x vx Gx) (hy : RepM K H y vy Gy) (ex : asD x = some d) (ey : asD y = some e) (h : scalD d e = true) : scal vx vy = true ∧ decide (vx = vy) = sameD d e := by
  have one : ∀ {x : M} {vx : V} {Gx : FP} {d : D}, RepM K H x vx Gx → asD x = some d → (∀ ds, d ≠ .lst ds) → RepD K H d vx := fun {x vx Gx d} hx ex n => by
    cases x with
    | im d' => simp only [asD, Option.some.injEq] at ex; subst ex; exact (repM_imI.mp hx).1
    | lst ds => simp only [asD, Option.some.injEq] at ex; subst ex; exact absurd rfl (n ds)
    | _ => simp only [asD] at ex; cases ex
  refine scal_ok h (one hx ex fun ds z => ?_) (one hy ey fun ds z => ?_)
  · subst z; cases e <;> simp [scalD] at h
  · subst z; cases d <;> simp [scalD] at h
theorem flat_ok {d : D} (h : flatD d = true) (r : RepD K H d v) : flatV v = true := by
  cases d <;> simp only [flatD] at h <;> first | (cases h; done) | (simp only [RepD] at r; subst r; rfl)
theorem eqF_ok {d e : D} {w : V} (r : RepD K H d v) (re : RepD K H e w) (fd : flatD d = true) (fe : flatD e = true) : eqV v w = eqF d e := by
  cases d <;> simp only [flatD] at fd <;> first | (cases fd; done) | skip
  all_goals cases e <;> simp only [flatD] at fe <;> first | (cases fe; done) | skip
  all_goals (simp only [RepD] at r re; subst r re; rfl)
theorem flats_ok : ∀ {ds : List D} {vs : List V}, ds.all flatD = true → RepDs K H ds vs → vs.all flatV = true
  | [], vs, _, r => by simp only [RepDs] at r; subst r; rfl
  | d :: ds, vs, h, r => by
    simp only [RepDs] at r
    obtain ⟨w, ws, rfl, r1, r2⟩ := r
    rw [List.all_cons, Bool.and_eq_true] at h ⊢
    exact ⟨flat_ok h.1 r1, flats_ok h.2 r2⟩
theorem inD_ok {d : D} (fd : flatD d = true) (rd : RepD K H d v) : ∀ {ds : List D} {vs : List V}, ds.all flatD = true → RepDs K H ds vs → inV v vs = inD d ds
  | [], vs, _, r => by simp only [RepDs] at r; subst r; rfl
  | e :: ds, vs, h, r => by
    simp only [RepDs] at r
    obtain ⟨w, ws, rfl, r1, r2⟩ := r
    rw [List.all_cons, Bool.and_eq_true] at h
    have ih := inD_ok fd rd h.2 r2
    unfold inV inD at ih ⊢
    rw [List.any_cons, List.any_cons, ih, eqF_ok r1 rd h.1 fd]
theorem findD_ok {d : D} (fd : flatD d = true) (rd : RepD K H d v) : ∀ {ds : List D} {vs : List V} {k j : Nat}, ds.all flatD = true → RepDs K H ds vs → findD d ds k = some j →
    ∃ i z, j = k + i ∧ vs[i]? = some z ∧ eqV z v = true ∧ ∀ (q : Nat) z', q < i → vs[q]? = some z' → eqV z' v = false
  | [], vs, k, j, _, r, e => by simp only [findD] at e; cases e
  | e :: ds, vs, k, j, h, r, q => by
    simp only [RepDs] at r
    obtain ⟨w, ws, rfl, r1, r2⟩ := r
    rw [List.all_cons, Bool.and_eq_true] at h
    simp only [findD] at q
    have ee := eqF_ok r1 rd h.1 fd
    by_cases c : eqF e d = true
    · rw [if_pos c] at q
      cases q
      exact ⟨0, w, rfl, rfl, ee.trans c, fun q z hq => absurd hq (Nat.not_lt_zero _)⟩
    · rw [if_neg c] at q
      obtain ⟨i, z, e1, e2, e3, e4⟩ := findD_ok fd rd h.2 r2 q
      refine ⟨i + 1, z, by omega, by simpa using e2, e3, fun q z' hq hz => ?_⟩
      cases q with
      | zero =>
        simp at hz
        subst hz
        rw [ee]
        simpa using c
      | succ q => exact e4 q z' (by omega) (by simpa using hz)
end
end CP
namespace CP
open PySem PySem.Spec PyProof.Rows L2

section
variable {X : Cx}
theorem bI_ok {x y z : M} {f : Int → Int → Option D} (h : bI x y f = some z) : ∃ i j d, x = .im (.int i) ∧ y = .im (.int j) ∧ f i j = some d ∧ z = .im d := by
  unfold bI at h
  split at h
  · rename_i i j
    obtain ⟨d, hd, rfl⟩ := Option.map_eq_some_iff.mp h
    exact ⟨i, j, d, rfl, rfl, hd, rfl⟩
  · cases h
theorem ints2 {K : PySem.W.Frag} {H : Hp} {i j : Int} {vx vy : V} {Gx Gy : FP} (hx : RepM K H (.im (.int i)) vx Gx) (hy : RepM K H (.im (.int j)) vy Gy) : vx = .int i ∧ vy = .int j := ⟨rep_int.mp (repM_imI.mp hx).1, rep_int.mp (repM_imI.mp hy).1⟩
/-- an operation of two ints -/
theorem or_int {f : Value → Value → Sem Value} {o : O2} {C : Int → Int → Prop} {g : Int → Int → V} {q : Int → Int → Option D} (h : OpR X f (rI C g)) (e : ∀ x y, op2M o x y = bI x y q) (hq : ∀ i j d, q i j = some d → C i j ∧ ∀ (K : PySem.W.Frag) (H : Hp), RepD K H d (g i j)) : OpR X f (RO2 X.K o) := by
  intro pins s σ H vx vy v u Q I rx ry hh
  obtain ⟨x, y, z, Gx, Gy, hx, hy, e1, r⟩ := hh
  rw [e] at e1
  obtain ⟨i, j, d, rfl, rfl, hd, rfl⟩ := bI_ok e1
  obtain ⟨rfl, rfl⟩ := ints2 hx hy
  obtain ⟨c, rd⟩ := hq i j d hd
  exact h pins s σ H _ _ v u Q I rx ry ⟨i, j, rfl, rfl, c, r.im (rd _ _)⟩
theorem or_int0 {f : Value → Value → Sem Value} {o : O2} {g : Int → Int → V} {q : Int → Int → Option D} (h : OpR X f (rI0 g)) (e : ∀ x y, op2M o x y = bI x y q) (hq : ∀ i j d, q i j = some d → ∀ (K : PySem.W.Frag) (H : Hp), RepD K H d (g i j)) : OpR X f (RO2 X.K o) := by
  intro pins s σ H vx vy v u Q I rx ry hh
  obtain ⟨x, y, z, Gx, Gy, hx, hy, e1, r⟩ := hh
  rw [e] at e1
  obtain ⟨i, j, d, rfl, rfl, hd, rfl⟩ := bI_ok e1
  obtain ⟨rfl, rfl⟩ := ints2 hx hy
  exact h pins s σ H _ _ v u Q I rx ry ⟨i, j, rfl, rfl, r.im (hq i j d hd _ _)⟩
theorem or_sub : OpR X (binaryOp .Sub) (RO2 X.K .sub) := or_int0 op_sub (fun _ _ => rfl) fun i j d e K H => by cases e; exact rep_int.mpr rfl
theorem or_mod : OpR X (binaryOp .Mod) (RO2 X.K .mod) := or_int op_mod (fun _ _ => rfl) fun i j d e => by
  split at e
  · rename_i h; cases e; exact ⟨h, fun _ _ => rep_int.mpr rfl⟩
  · cases e
theorem or_fdiv : OpR X (binaryOp .FloorDiv) (RO2 X.K .fdiv) := or_int op_fdiv (fun _ _ => rfl) fun i j d e => by
  split at e
  · rename_i h; cases e; exact ⟨h, fun _ _ => rep_int.mpr rfl⟩
  · cases e
theorem or_pow : OpR X (binaryOp .Pow) (RO2 X.K .pow) := or_int op_pow (fun _ _ => rfl) fun i j d e => by
  split at e
  · rename_i h; cases e; exact ⟨h, fun _ _ => rep_int.mpr rfl⟩
  · cases e
theorem or_shl : OpR X (binaryOp .LShift) (RO2 X.K .shl) := or_int op_shl (fun _ _ => rfl) fun i j d e => by
  split at e
  · rename_i h; cases e; exact ⟨h, fun _ _ => rep_int.mpr rfl⟩
  · cases e
theorem or_shr : OpR X (binaryOp .RShift) (RO2 X.K .shr) := or_int op_shr (fun _ _ => rfl) fun i j d e => by
  split at e
  · rename_i h; cases e; exact ⟨h, fun _ _ => rep_int.mpr rfl⟩
  · cases e
theorem or_lt : OpR X (compareOp .Lt) (RO2 X.K .lt) := or_int0 op_lt (fun _ _ => rfl) fun i j d e K H => by cases e; exact rep_bl.mpr rfl
theorem or_le : OpR X (compareOp .LtE) (RO2 X.K .le) := or_int0 op_le (fun _ _ => rfl) fun i j d e K H => by cases e; exact rep_bl.mpr rfl
theorem or_gt : OpR X (compareOp .Gt) (RO2 X.K .gt) := or_int0 op_gt (fun _ _ => rfl) fun i j d e K H => by cases e; exact rep_bl.mpr rfl
theorem or_ge : OpR X (compareOp .GtE) (RO2 X.K .ge) := or_int0 op_ge (fun _ _ => rfl) fun i j d e K H => by cases e; exact rep_bl.mpr rfl
theorem small64_ok {i : Int} (h : small64 i = true) : -(2 ^ 64) < i ∧ i < 2 ^ 64 := by
  unfold small64 at h
  rw [Bool.and_eq_true] at h
  exact ⟨of_decide_eq_true h.1, of_decide_eq_true h.2⟩
theorem or_mul : OpR X (binaryOp .Mult) (RO2 X.K .mul) := by
  intro pins s σ H vx vy v u Q I rx ry hh
  obtain ⟨x, y, z, Gx, Gy, hx, hy, e, r⟩ := hh
  simp only [op2M] at e
  split at e
  · rename_i i j
    obtain ⟨rfl, rfl⟩ := ints2 hx hy
    split at e
    · rename_i hm
      cases e
      have q : Q (.int (i * j)) H := r.im (rep_int.mpr rfl)
      unfold mulOk at hm
      rw [Bool.or_eq_true, Bool.or_eq_true, Bool.and_eq_true] at hm
      rcases hm with (hm | hm) | hm
      · exact op_mul pins s σ H _ _ v u Q I rx ry ⟨i, j, rfl, rfl, .inl (small64_ok hm), q⟩
      · exact op_mul pins s σ H _ _ v u Q I rx ry ⟨i, j, rfl, rfl, .inr (small64_ok hm), q⟩
      · exact op_mulW pins s σ H _ _ v u Q I rx ry ⟨i, j, rfl, rfl, wide_mul (of_decide_eq_true hm.1) (of_decide_eq_true hm.2) (by decide) (by decide) (by decide), q⟩
    · cases e
  · rename_i i b
    cases e
    obtain rfl := rep_int.mp (repM_imI.mp hx).1
    obtain rfl := rep_bl.mp (repM_imI.mp hy).1
    obtain ⟨t, rfl⟩ := rx
    cases ry
    exact PySem.IntBool.mul_int_bool ⟨.int (i * if b = true then 1 else 0), H, I.tok _, ⟨_, rfl⟩, r.im (rep_int.mpr rfl)⟩
  · rename_i ds k
    split at e
    · rename_i hc
      cases e
      obtain ⟨a, vs, rfl, s1, r1, _⟩ := repM_lst.mp hx
      obtain rfl := rep_int.mp (repM_imI.mp hy).1
      exact op_rep pins s σ H _ _ v u Q I rx ry ⟨a, k, vs, rfl, rfl, s1, hc.1, hc.2.1, by rw [← r1.len]; exact hc.2.2, r.lst (r1.rep _)⟩
    · cases e
  · cases e
theorem or_add : OpR X (binaryOp .Add) (RO2 X.K .add) := by
  intro pins s σ H vx vy v u Q I rx ry hh
  obtain ⟨x, y, z, Gx, Gy, hx, hy, e, r⟩ := hh
  simp only [op2M] at e
  split at e
  · rename_i i j
    obtain ⟨rfl, rfl⟩ := ints2 hx hy
    cases e
    exact op_add pins s σ H _ _ v u Q I rx ry ⟨i, j, rfl, rfl, r.im (rep_int.mpr rfl)⟩
  · rename_i a b
    split at e
    · rename_i hz
      cases e
      obtain rfl := rep_str.mp (repM_imI.mp hx).1
      obtain rfl := rep_str.mp (repM_imI.mp hy).1
      exact op_add_str pins s σ H _ _ v u Q I rx ry ⟨a, b, rfl, rfl, hz, r.im (rep_str.mpr rfl)⟩
    · cases e
  · rename_i a b
    split at e
    · rename_i hz
      cases e
      obtain ⟨p, vs, rfl, s1, r1⟩ := rep_tup.mp (repM_imI.mp hx).1
      obtain ⟨q, ws, rfl, s2, r2⟩ := rep_tup.mp (repM_imI.mp hy).1
      refine op_catA pins s σ H _ _ v u Q I rx ry ⟨p, q, vs, ws, rfl, rfl, SqT.of s1, SqT.of s2, by rw [← r1.len, ← r2.len]; exact hz, fun h => ?_, fun h1 h2 => ?_, fun h1 h2 => r.tup (r1.app r2)⟩
      · subst h
        refine r.im (rep_tup.mpr ⟨q, ws, rfl, s2, ?_⟩)
        have : a = [] := List.eq_nil_of_length_eq_zero r1.len
        rw [this]; exact r2
      · subst h2
        refine r.im (rep_tup.mpr ⟨p, vs, rfl, s1, ?_⟩)
        have : b = [] := List.eq_nil_of_length_eq_zero r2.len
        rw [this, List.append_nil]; exact r1
    · cases e
  · rename_i a b
    split at e
    · rename_i hz
      cases e
      obtain ⟨p, vs, rfl, s1, r1, _⟩ := repM_lst.mp hx
      obtain ⟨q, ws, rfl, s2, r2, _⟩ := repM_lst.mp hy
      exact op_cat pins s σ H _ _ v u Q I rx ry ⟨p, q, vs, ws, rfl, rfl, s1, s2, by rw [← r1.len, ← r2.len]; exact hz, r.lst (r1.app r2)⟩
    · cases e
  · cases e
theorem or_eq (hu : X.A.units + 64 < cLine) : OpR X (compareOp .Eq) (RO2 X.K .eq) := by
  intro pins s σ H vx vy v u Q I rx ry hh
  obtain ⟨x, y, z, Gx, Gy, hx, hy, e, r⟩ := hh
  simp only [op2M] at e
  obtain ⟨b, hb, rfl⟩ := Option.map_eq_some_iff.mp e
  have q := r.im (rep_bl.mpr rfl)
  unfold eqM at hb
  obtain ⟨d, hd, hb⟩ := Option.bind_eq_some_iff.mp hb
  obtain ⟨d2, hd2, hb⟩ := Option.bind_eq_some_iff.mp hb
  split at hb
  · rename_i hs
    obtain ⟨h1, h2⟩ := asScal_ok hx hy hd hd2 hs
    cases hb
    exact op_eq pins s σ H _ _ v u Q I rx ry ⟨h1, by rw [h2]; exact q⟩
  · obtain ⟨a, ha, hb⟩ := Option.bind_eq_some_iff.mp hb
    obtain ⟨a2, ha2, hb⟩ := Option.bind_eq_some_iff.mp hb
    split at hb
    · rename_i hs
      cases hb
      exact op_eqD hu pins s σ H _ _ v u Q I rx ry ⟨a, a2, asPy_ok hx hd ha, asPy_ok hy hd2 ha2, hs.1, hs.2, q⟩
    · cases hb
theorem or_ne (hu : X.A.units + 64 < cLine) : OpR X (compareOp .NotEq) (RO2 X.K .ne) := by
  intro pins s σ H vx vy v u Q I rx ry hh
  obtain ⟨x, y, z, Gx, Gy, hx, hy, e, r⟩ := hh
  simp only [op2M] at e
  obtain ⟨b, hb, rfl⟩ := Option.map_eq_some_iff.mp e
  have q := r.im (rep_bl.mpr rfl)
  unfold eqM at hb
  obtain ⟨d, hd, hb⟩ := Option.bind_eq_some_iff.mp hb
  obtain ⟨d2, hd2, hb⟩ := Option.bind_eq_some_iff.mp hb
  split at hb
  · rename_i hs
    obtain ⟨h1, h2⟩ := asScal_ok hx hy hd hd2 hs
    cases hb
    exact op_ne pins s σ H _ _ v u Q I rx ry ⟨h1, by rw [h2]; exact q⟩
  · obtain ⟨a, ha, hb⟩ := Option.bind_eq_some_iff.mp hb
    obtain ⟨a2, ha2, hb⟩ := Option.bind_eq_some_iff.mp hb
    split at hb
    · rename_i hs
      cases hb
      exact op_neD hu pins s σ H _ _ v u Q I rx ry ⟨a, a2, asPy_ok hx hd ha, asPy_ok hy hd2 ha2, hs.1, hs.2, q⟩
    · cases hb
theorem notNon {K : PySem.W.Frag} {H : Hp} {m : M} {v : V} {G : FP} (h : RepM K H m v G) (n : m ≠ .im .non) : v ≠ .non := by
  intro e
  subst e
  cases m with
  | im d =>
    have r := (repM_imI.mp h).1
    cases d <;> simp only [RepD] at r <;> first | (cases r; done) | (exact n rfl) | skip
    all_goals (obtain ⟨a, vs, e, _⟩ := r; cases e)
  | lst ds => obtain ⟨a, vs, e, _⟩ := repM_lst.mp h; cases e
  | nst ds => obtain ⟨a, vs, G, e, _⟩ := repM_nst.mp h; cases e
  | dct ds => obtain ⟨a, vs, e, _⟩ := repM_dct.mp h; cases e
  | dnn ds => obtain ⟨a, vs, G, e, _⟩ := repM_dnn.mp h; cases e
  | dcT ds => obtain ⟨a, vs, e, _⟩ := repM_dcT.mp h; cases e
theorem or_is : OpR X (compareOp .Is) (RO2 X.K .is) := by
  intro pins s σ H vx vy v u Q I rx ry hh
  obtain ⟨x, y, z, Gx, Gy, hx, hy, e, r⟩ := hh
  simp only [op2M] at e
  split at e
  · cases e
    obtain rfl := rep_non.mp (repM_imI.mp hx).1
    obtain rfl := rep_non.mp (repM_imI.mp hy).1
    exact op_isN pins s σ H _ _ v u Q I rx ry ⟨rfl, r.im (rep_bl.mpr rfl)⟩
  · rename_i hn
    cases e
    obtain rfl := rep_non.mp (repM_imI.mp hy).1
    have := notNon hx hn
    exact op_isN pins s σ H _ _ v u Q I rx ry ⟨rfl, by rw [decide_eq_false this]; exact r.im (rep_bl.mpr rfl)⟩
  · cases e
theorem or_isn : OpR X (compareOp .IsNot) (RO2 X.K .isn) := by
  intro pins s σ H vx vy v u Q I rx ry hh
  obtain ⟨x, y, z, Gx, Gy, hx, hy, e, r⟩ := hh
  simp only [op2M] at e
  split at e
  · cases e
    obtain rfl := rep_non.mp (repM_imI.mp hx).1
    obtain rfl := rep_non.mp (repM_imI.mp hy).1
    exact op_notN pins s σ H _ _ v u Q I rx ry ⟨rfl, r.im (rep_bl.mpr rfl)⟩
  · rename_i hn
    cases e
    obtain rfl := rep_non.mp (repM_imI.mp hy).1
    have := notNon hx hn
    exact op_notN pins s σ H _ _ v u Q I rx ry ⟨rfl, by rw [decide_eq_false this]; exact r.im (rep_bl.mpr rfl)⟩
  · cases e
theorem op_dIn (hu : X.A.units + 1 < cLine) : OpR X (compareOp .In) (fun x y H Q => ∃ a o, y = .ref a ∧ DGet H a x o ∧ Q (.bl o.isSome) H) := by
  intro pins s σ H x y v u Q I rx ry ⟨a, o, e, g, q⟩
  subst e
  obtain rfl : u = Value.ref a := ry
  exact d_in hu I g rx fun s' I' => ⟨.bl _, H, I', rfl, q⟩
theorem op_dNotIn (hu : X.A.units + 1 < cLine) : OpR X (compareOp .NotIn) (fun x y H Q => ∃ a o, y = .ref a ∧ DGet H a x o ∧ Q (.bl (!o.isSome)) H) := by
  intro pins s σ H x y v u Q I rx ry ⟨a, o, e, g, q⟩
  subst e
  obtain rfl : u = Value.ref a := ry
  exact d_notIn hu I g rx fun s' I' => ⟨.bl _, H, I', rfl, q⟩
theorem some_eq {κ : Type} [DecidableEq κ] {K : PySem.W.Frag} {H : Hp} {kvs : List (κ × D)} {ws : List (κ × V)} (r : RepKs K H kvs ws) (k : κ) : (valV ws k).isSome = (kget kvs k).isSome := by
  cases q : kget kvs k with
  | none => rw [r.get.2 q]; rfl
  | some d => obtain ⟨v, hv, _⟩ := r.get.1 d q; rw [hv]; rfl
theorem some_eqM {K : PySem.W.Frag} {H : Hp} {k : Key} : ∀ {kvs : List (Key × M)} {ws : List (Key × V)} {F : FP}, RepKMs K H kvs ws F → (valV ws k).isSome = (kget kvs k).isSome
  | [], ws, F, r => by simp only [RepKMs] at r; rw [r.1]; rfl
  | (q, m) :: kvs, ws, F, r => by
    simp only [RepKMs] at r
    obtain ⟨v, r', F1, F2, rfl, r1, r2, _⟩ := r
    rw [kget_cons, valV_cons]
    split
    · rfl
    · exact some_eqM r2
/-- what in is worth: one of these four -/
theorem inM_ok {K : PySem.W.Frag} {H : Hp} {x y : M} {vx vy : V} {Gx Gy : FP} {b : Bool} (hx : RepM K H x vx Gx) (hy : RepM K H y vy Gy) (e : inM x y = some b) :
    (∃ (c : Nat) (z : Str), vx = .str ⟨#[c]⟩ ∧ vy = .str z ∧ b = decide (c ∈ z.cps.toList)) ∨ (∃ i j, vx = .str i ∧ vy = .str j ∧ b = !(Builtin.Str.occurrences j i 0 j.length 1).isEmpty) ∨
    (∃ a o, vy = .ref a ∧ DGet H a vx o ∧ b = o.isSome) ∨ ∃ p xs, vy = .ref p ∧ (SqL K H p xs ∨ SqT K H p xs) ∧ flatV vx = true ∧ xs.all flatV = true ∧ b = inV vx xs := by
  unfold inM at e
  split at e
  · rename_i a z
    obtain rfl := rep_str.mp (repM_imI.mp hx).1
    obtain rfl := rep_str.mp (repM_imI.mp hy).1
    split at e
    · rename_i c hc
      cases e
      refine .inl ⟨c, z, ?_, rfl, rfl⟩
      have : a = ⟨#[c]⟩ := Str.ext' (Array.toList_inj.mp hc)
      rw [this]
    · cases e
      exact .inr (.inl ⟨a, z, rfl, rfl, rfl⟩)
  · rename_i d y hn
    have rd := (repM_imI.mp hx).1
    split at e
    · rename_i kvs d
      obtain ⟨k, hk, rfl⟩ := Option.map_eq_some_iff.mp e
      obtain ⟨a, ws, rfl, s, r, _⟩ := repM_dct.mp hy
      rw [keyOf_rep hk rd]
      exact .inr (.inr (.inl ⟨a, _, rfl, DGet.k s, (some_eq r k).symm⟩))
    · rename_i kvs d
      obtain ⟨k, hk, rfl⟩ := Option.map_eq_some_iff.mp e
      obtain ⟨a, ws, G, rfl, s, r, _⟩ := repM_dnn.mp hy
      rw [keyOf_rep hk rd]
      exact .inr (.inr (.inl ⟨a, _, rfl, DGet.k s, (some_eqM r).symm⟩))
    · rename_i kvs ds
      obtain ⟨k, hk, rfl⟩ := Option.map_eq_some_iff.mp e
      obtain ⟨a, ws, rfl, s, r, _⟩ := repM_dcT.mp hy
      obtain ⟨c, rfl, sc⟩ := tupKey hx hk
      exact .inr (.inr (.inl ⟨a, _, rfl, DGet.t s sc, (some_eq r k).symm⟩))
    · obtain ⟨ds, hd, e⟩ := Option.bind_eq_some_iff.mp e
      split at e
      · rename_i hf
        cases e
        obtain ⟨p, vs, rfl, s, r⟩ := seqM_ok hy hd
        exact .inr (.inr (.inr ⟨p, vs, rfl, s, flat_ok hf.1 rd, flats_ok hf.2 r, (inD_ok hf.1 rd hf.2 r).symm⟩))
      · cases e
  · cases e
theorem or_in (hu : X.A.units + 1 < cLine) : OpR X (compareOp .In) (RO2 X.K .inn) := by
  intro pins s σ H vx vy v u Q I rx ry hh
  obtain ⟨x, y, z, Gx, Gy, hx, hy, e, r⟩ := hh
  simp only [op2M] at e
  obtain ⟨b, hb, rfl⟩ := Option.map_eq_some_iff.mp e
  have q := r.im (rep_bl.mpr rfl)
  rcases inM_ok hx hy hb with ⟨c, w, rfl, rfl, rfl⟩ | ⟨i, j, rfl, rfl, rfl⟩ | ⟨a, o, rfl, g, rfl⟩ | ⟨p, xs, rfl, sq, f1, f2, rfl⟩
  · exact op_in_sign pins s σ H _ _ v u Q I rx ry ⟨c, w, rfl, rfl, q⟩
  · exact op_in_str pins s σ H _ _ v u Q I rx ry ⟨i, j, rfl, rfl, q⟩
  · exact op_dIn hu pins s σ H _ _ v u Q I rx ry ⟨a, o, rfl, g, q⟩
  · exact op_in_seq pins s σ H _ _ v u Q I rx ry ⟨p, xs, rfl, sq, f1, f2, by rw [if_neg (by decide)]; exact q⟩
theorem or_nin (hu : X.A.units + 1 < cLine) : OpR X (compareOp .NotIn) (RO2 X.K .nin) := by
  intro pins s σ H vx vy v u Q I rx ry hh
  obtain ⟨x, y, z, Gx, Gy, hx, hy, e, r⟩ := hh
  simp only [op2M] at e
  obtain ⟨b, hb, rfl⟩ := Option.map_eq_some_iff.mp e
  have q := r.im (rep_bl.mpr rfl)
  rcases inM_ok hx hy hb with ⟨c, w, rfl, rfl, rfl⟩ | ⟨i, j, rfl, rfl, rfl⟩ | ⟨a, o, rfl, g, rfl⟩ | ⟨p, xs, rfl, sq, f1, f2, rfl⟩
  · exact op_notIn_sign pins s σ H _ _ v u Q I rx ry ⟨c, w, rfl, rfl, q⟩
  · exact op_notIn_str pins s σ H _ _ v u Q I rx ry ⟨i, j, rfl, rfl, q⟩
  · exact op_dNotIn hu pins s σ H _ _ v u Q I rx ry ⟨a, o, rfl, g, q⟩
  · exact op_notIn_seq pins s σ H _ _ v u Q I rx ry ⟨p, xs, rfl, sq, f1, f2, by rw [if_pos rfl]; exact q⟩
theorem ix_idx (hu : X.A.units + 1 < cLine) : IxR X (RO2 X.K .idx) := by
  intro value slice pins s σ H vx vy v u Q I rx ry hh hs
  obtain ⟨x, y, z, Gx, Gy, hx, hy, e, r⟩ := hh
  simp only [op2M] at e
  split at e
  · rename_i d hd
    cases e
    obtain ⟨w, Gr, hq, rw', _, _⟩ := getM_ok hx hy hd
    exact ix_all hu value slice pins s σ H vx vy v u Q I rx ry (hq Q (r.im (repM_imI.mp rw').1)) hs
  · cases e
theorem cr_max2 (hc : X.calm = true) : CallR X (.builtin "max") (fun vs H Q => ∃ a b, vs = [a, b] ∧ RO2 X.K .max a b H Q) := by
  intro pins s σ H vs us Q I rv hh
  obtain ⟨a, b, rfl, x, y, z, Gx, Gy, hx, hy, e, r⟩ := hh
  obtain ⟨i, j, d, rfl, rfl, hd, rfl⟩ := bI_ok (f := fun i j => some (.int (if j > i then j else i))) e
  obtain ⟨rfl, rfl⟩ := ints2 hx hy
  cases hd
  exact call_max2 hc pins s σ H _ us Q I rv ⟨i, j, rfl, r.im (rep_int.mpr rfl)⟩
theorem cr_min2 (hc : X.calm = true) : CallR X (.builtin "min") (fun vs H Q => ∃ a b, vs = [a, b] ∧ RO2 X.K .min a b H Q) := by
  intro pins s σ H vs us Q I rv hh
  obtain ⟨a, b, rfl, x, y, z, Gx, Gy, hx, hy, e, r⟩ := hh
  obtain ⟨i, j, d, rfl, rfl, hd, rfl⟩ := bI_ok (f := fun i j => some (.int (if j < i then j else i))) e
  obtain ⟨rfl, rfl⟩ := ints2 hx hy
  cases hd
  exact call_min2 hc pins s σ H _ us Q I rv ⟨i, j, rfl, r.im (rep_int.mpr rfl)⟩
theorem mr_startsw : MtR X "str.startswith" (fun x xs H Q => ∃ y, xs = [y] ∧ RO2 X.K .startsw x y H Q) := by
  intro pins s σ H vx vs v us Q I rx rv hh
  obtain ⟨b, rfl, x, y, z, Gx, Gy, hx, hy, e, r⟩ := hh
  simp only [op2M] at e
  split at e
  · rename_i a c
    cases e
    obtain rfl := rep_str.mp (repM_imI.mp hx).1
    obtain rfl := rep_str.mp (repM_imI.mp hy).1
    exact mt_startswith pins s σ H _ _ v us Q I rx rv ⟨a, c, rfl, rfl, r.im (rep_bl.mpr rfl)⟩
  · cases e
theorem mr_join : MtR X "str.join" (fun x xs H Q => ∃ y, xs = [y] ∧ RO2 X.K .join x y H Q) := by
  intro pins s σ H vx vs v us Q I rx rv hh
  obtain ⟨b, rfl, x, y, z, Gx, Gy, hx, hy, e, r⟩ := hh
  simp only [op2M] at e
  split at e
  · rename_i a
    obtain ⟨ds, hd, e⟩ := Option.bind_eq_some_iff.mp e
    obtain ⟨ss, hs, e⟩ := Option.bind_eq_some_iff.mp e
    split at e
    · rename_i hz
      cases e
      obtain rfl := rep_str.mp (repM_imI.mp hx).1
      obtain ⟨p, ws, rfl, sq, rs⟩ := seqM_ok hy hd
      rw [strs_ofD rs hs] at sq
      exact mt_join pins s σ H _ _ v us Q I rx rv ⟨a, p, ss, rfl, rfl, sq, hz, r.im (rep_str.mpr rfl)⟩
    · cases e
  · cases e
/-! ### of one value -/
theorem iM_ok {m z : M} {f : Int → Option D} (h : iM m f = some z) : ∃ i d, m = .im (.int i) ∧ f i = some d ∧ z = .im d := by
  unfold iM at h
  split at h
  · rename_i i
    obtain ⟨d, hd, rfl⟩ := Option.map_eq_some_iff.mp h
    exact ⟨i, d, rfl, hd, rfl⟩
  · cases h
theorem un_negR : UnR X (unaryOp .USub) (RO1 X.K .neg) := by
  intro pins s σ H vx v Q I rx hh
  obtain ⟨x, z, Gx, hx, e, r⟩ := hh
  obtain ⟨i, d, rfl, hd, rfl⟩ := iM_ok (f := fun i => some (.int (-i))) e
  cases hd
  obtain rfl := rep_int.mp (repM_imI.mp hx).1
  exact un_neg pins s σ H _ v Q I rx ⟨i, rfl, r.im (rep_int.mpr rfl)⟩
abbrev R1 (K : PySem.W.Frag) (o : O1) : List V → Hp → VK → Prop := fun vs H Q => ∃ a, vs = [a] ∧ RO1 K o a H Q
theorem cr_absR : CallR X (.builtin "abs") (R1 X.K .abs) := by
  intro pins s σ H vs us Q I rv hh
  obtain ⟨a, rfl, x, z, Gx, hx, e, r⟩ := hh
  obtain ⟨i, d, rfl, hd, rfl⟩ := iM_ok (f := fun i => some (.int (if i < 0 then -i else i))) e
  cases hd
  obtain rfl := rep_int.mp (repM_imI.mp hx).1
  exact call_abs pins s σ H _ us Q I rv ⟨i, rfl, r.im (rep_int.mpr rfl)⟩
theorem cr_strR : CallR X (.type "str") (R1 X.K .str) := by
  intro pins s σ H vs us Q I rv hh
  obtain ⟨a, rfl, x, z, Gx, hx, e, r⟩ := hh
  obtain ⟨i, d, rfl, hd, rfl⟩ := iM_ok (f := fun i => if i.natAbs.log2 < 1920 then some (.str (toString i)) else none) e
  split at hd
  · rename_i hz
    cases hd
    obtain rfl := rep_int.mp (repM_imI.mp hx).1
    exact call_str_int pins s σ H _ us Q I rv ⟨i, rfl, hz, r.im (rep_str.mpr rfl)⟩
  · cases hd
theorem cr_intR : CallR X (.type "int") (R1 X.K .int) := by
  intro pins s σ H vs us Q I rv hh
  obtain ⟨a, rfl, x, z, Gx, hx, e, r⟩ := hh
  simp only [op1M] at e
  split at e
  · cases e
    obtain rfl := rep_int.mp (repM_imI.mp hx).1
    exact call_int1 pins s σ H _ us Q I rv (.inl ⟨_, rfl, r.im (rep_int.mpr rfl)⟩)
  · cases e
    obtain rfl := rep_bl.mp (repM_imI.mp hx).1
    exact call_int1 pins s σ H _ us Q I rv (.inr ⟨_, rfl, r.im (rep_int.mpr rfl)⟩)
  · split at e
    · rename_i hz
      obtain ⟨n, hn, rfl⟩ := Option.map_eq_some_iff.mp e
      obtain rfl := rep_str.mp (repM_imI.mp hx).1
      exact call_int_str pins s σ H _ us Q I rv ⟨_, n, rfl, hn, hz, r.im (rep_int.mpr rfl)⟩
    · cases e
  · cases e
theorem cr_boolR : CallR X (.type "bool") (R1 X.K .bool) := by
  intro pins s σ H vs us Q I rv hh
  obtain ⟨a, rfl, x, z, Gx, hx, e, r⟩ := hh
  simp only [op1M] at e
  split at e
  · cases e
    obtain rfl := rep_int.mp (repM_imI.mp hx).1
    exact call_bool1 pins s σ H _ us Q I rv (.inl ⟨_, rfl, r.im (rep_bl.mpr rfl)⟩)
  · cases e
    obtain rfl := rep_bl.mp (repM_imI.mp hx).1
    exact call_bool1 pins s σ H _ us Q I rv (.inr ⟨_, rfl, r.im (rep_bl.mpr rfl)⟩)
  · cases e
theorem call_lenD : CallR X (.builtin "len") (fun xs H Q => ∃ p ws, xs = [.ref p] ∧ H p = some (.dK ws) ∧ Q (.int ws.length) H) := by
  intro pins s σ H xs us Q I r ⟨p, ws, e, h, q⟩
  subst e
  obtain rfl := Vals.ref1 r
  exact d_len I (.inl h) fun t s' I' => ⟨.int ws.length, H, I', ⟨t, rfl⟩, q⟩
theorem cr_lenP : CallR X (.builtin "len") (fun vs H Q => ∃ a m n Gm, vs = [a] ∧ RepM X.K H m a Gm ∧ lenM m = some n ∧ Q (.int n) H) := by
  intro pins s σ H vs us Q I rv hh
  obtain ⟨a, x, n, Gx, rfl, hx, hn, r⟩ := hh
  obtain ⟨k, rfl, h | h | h⟩ := len_ok hx hn
  · obtain ⟨w, rfl, h1, h2⟩ := h
    exact call_len_str pins s σ H _ us Q I rv ⟨w, rfl, h1, by rw [← h2]; exact r⟩
  · obtain ⟨p, ws, rfl, h1, h2⟩ := h
    exact call_len_seq pins s σ H _ us Q I rv ⟨p, ws, rfl, h1, by rw [← h2]; exact r⟩
  · obtain ⟨p, ws, rfl, h1, h2⟩ := h
    exact call_lenD pins s σ H _ us Q I rv ⟨p, ws, rfl, h1, by rw [← h2]; exact r⟩
theorem cr_lenR : CallR X (.builtin "len") (R1 X.K .len) := by
  intro pins s σ H vs us Q I rv hh
  obtain ⟨a, rfl, x, z, Gx, hx, e, r⟩ := hh
  obtain ⟨n, hn, rfl⟩ := Option.map_eq_some_iff.mp (show (lenM x).map (fun n => M.im (.int n)) = some z from e)
  exact cr_lenP pins s σ H _ us Q I rv ⟨a, x, n, Gx, rfl, hx, hn, r.im (rep_int.mpr rfl)⟩
theorem cr_sumT (hc : X.calm = true) : CallR X (.builtin "sum") (fun vs H Q => ∃ (a : Addr) (ns : List Int), vs = [V.ref a] ∧ SqT X.K H a (ns.map V.int) ∧ Q (.int ns.sum) H) := by
  intro pins st σ H vs us Q I rv hh
  obtain ⟨a, ns, rfl, sq, q⟩ := hh
  obtain ⟨its, r', ht, _⟩ := I.tuple sq
  rw [Vals.ref1 rv]
  obtain ⟨xs, e⟩ := r'.ints.allInts.items
  have hn : numsOf (intItems xs).toList = ns := by rw [← e]; exact r'.ints.numsOf
  rw [nums_intItems] at hn
  have ht2 : st.heap.IsTuple a (intItems xs) := by rw [← e]; exact ht
  refine PySem.W.ktm_sumG (I.ok.hd hc) ht2 fun h' tk t' hk => ?_
  rw [preSum_eq, List.take_of_length_le (by simp), hn]
  exact ⟨.int ns.sum, H, I.kept hk, ⟨_, rfl⟩, q⟩
theorem cr_sumR (hc : X.calm = true) : CallR X (.builtin "sum") (R1 X.K .sum) := by
  intro pins s σ H vs us Q I rv hh
  obtain ⟨a, rfl, x, z, Gx, hx, e, r⟩ := hh
  obtain ⟨ds, hd, e⟩ := Option.bind_eq_some_iff.mp (show (seqM x).bind (fun ds => (sumI ds).map fun n => M.im (.int n)) = some z from e)
  obtain ⟨n, hn, rfl⟩ := Option.map_eq_some_iff.mp e
  obtain ⟨p, ws, rfl, sq, rs⟩ := seqM_ok hx hd
  obtain ⟨ns, rfl, rfl⟩ := ints_of rs hn
  rcases sq with sq | sq
  · exact cr_sum hc pins s σ H _ us Q I rv ⟨p, ns, rfl, sq, r.im (rep_int.mpr rfl)⟩
  · exact cr_sumT hc pins s σ H _ us Q I rv ⟨p, ns, rfl, sq, r.im (rep_int.mpr rfl)⟩
theorem cr_listR : CallR X (.type "list") (R1 X.K .list) := by
  intro pins s σ H vs us Q I rv hh
  obtain ⟨a, rfl, x, z, Gx, hx, e, r⟩ := hh
  obtain ⟨ds, hd, rfl⟩ := Option.map_eq_some_iff.mp (show (seqM x).map M.lst = some z from e)
  obtain ⟨p, ws, rfl, sq, rs⟩ := seqM_ok hx hd
  exact call_list_of pins s σ H _ us Q I rv ⟨p, ws, rfl, sq, r.lst rs⟩
theorem cr_tupleR : CallR X (.type "tuple") (R1 X.K .tuple) := by
  intro pins s σ H vs us Q I rv hh
  obtain ⟨a, rfl, x, z, Gx, hx, e, r⟩ := hh
  simp only [op1M] at e
  split at e
  · cases e
  · rename_i hk
    obtain ⟨ds, hd, rfl⟩ := Option.map_eq_some_iff.mp e
    unfold seqM at hd
    split at hd <;> first | (cases hd; done) | skip
    · cases hd
      obtain ⟨p, ws, rfl, sq, rs⟩ := rep_tup.mp (repM_imI.mp hx).1
      exact call_tuple_of pins s σ H _ us Q I rv ⟨p, ws, rfl, .inr ⟨SqT.of sq, r.im (rep_tup.mpr ⟨p, ws, rfl, sq, rs⟩)⟩⟩
    · cases hd
      obtain ⟨p, ws, rfl, sq, rs⟩ := rep_flst.mp (repM_imI.mp hx).1
      exact call_tuple_of pins s σ H _ us Q I rv ⟨p, ws, rfl, .inl ⟨sq.sqL, r.tup rs⟩⟩
    · exact (hk _ rfl).elim
    · cases hd
      obtain ⟨p, ws, rfl, sq, rs, _⟩ := repM_lst.mp hx
      exact call_tuple_of pins s σ H _ us Q I rv ⟨p, ws, rfl, .inl ⟨SqL.of sq, r.tup rs⟩⟩
end
end CP
namespace CP
open PySem PySem.Spec PyProof.Rows L2

theorem slot_ok {σ : Env} {i : Nat} {k : M → Prop} (h : slot σ i k) : ∃ m, σ[i]? = some (some m) ∧ k m := by
  unfold slot at h
  split at h
  · exact ⟨_, by assumption, h⟩
  · exact h.elim
theorem fin_ok {r : Option M} {σ : Env} {Q : QM} (h : fin r σ Q) : ∃ m, r = some m ∧ Q m σ := by
  unfold fin at h
  split at h
  · exact ⟨_, rfl, h⟩
  · exact h.elim
theorem bindO_ok {r : Option Env} {k : Env → Prop} (h : bindO r k) : ∃ σ, r = some σ ∧ k σ := by
  unfold bindO at h
  split at h
  · exact ⟨_, rfl, h⟩
  · exact h.elim

/-! ### pure pieces -/
def Foc (K : PySem.W.Frag) (G : Glob) (H : Hp) (σ : Env) (σV : L2.St) (F : FP) (p : P) (v : V) (Gm : FP) : Prop :=
  ∀ H' c' G' σ', Keep H H' → (∀ a, F a → ¬ Gm a → H' a = H a) → RepM K H' c' v G' → (∀ a, G' a → F a → Gm a) → setP G p σ c' = some σ' → ∃ F', EnvR K H' σ' σV F' ∧ ∀ a, F' a → (F a ∧ ¬ Gm a) ∨ G' a
def LP (K : PySem.W.Frag) (G : Glob) (p : P) : L2.TE := fun σV H Q => ∃ σ F m, EnvR K H σ σV F ∧ evP G p σ = some m ∧ ∀ v Gm, RepM K H m v Gm → (∀ a, Gm a → F a) → Foc K G H σ σV F p v Gm → Q v H
theorem Foc.no {K : PySem.W.Frag} {G : Glob} {H : Hp} {σ : Env} {σV : L2.St} {F Gm : FP} {p : P} {v : V} (h : ∀ σ c, setP G p σ c = none) : Foc K G H σ σV F p v Gm := fun H' c' G' σ' _ _ _ _ z => by rw [h] at z; cases z
section
variable {X : Cx} {G : Glob}
theorem lp_var {i : Nat} {x : Str} {pos : Pos} (h : PE X (.Name x pos) (tVar i)) : PE X (.Name x pos) (LP X.K G (.var i)) := PE.imp h fun σV H Q ⟨σ, F, m, e, hm, k⟩ => by
  have hs : σ[i]? = some (some m) := by
    simp only [evP] at hm
    cases q : σ[i]? with
    | none => rw [q] at hm; cases hm
    | some o => rw [q] at hm; exact congrArg some hm
  obtain ⟨v, Gm, F', hv, rm, e', d, rfl⟩ := e.take hs
  refine ⟨v, hv, k v Gm rm (fun a z => .inr z) fun H' c' G' σ' kp f rc dg z => ?_⟩
  simp only [setP] at z
  split at z
  · cases z
    have e2 : EnvR X.K H' (σ.set i none) σV F' := e'.keep kp fun a ha => f a (.inl ha) fun w => d a ha w
    obtain ⟨F3, e3, s3⟩ := e2.put hv rc fun a x y => d a x (dg a y (.inl x))
    rw [List.set_set] at e3
    refine ⟨F3, e3, fun a z => ?_⟩
    rcases s3 a z with z | z
    · exact .inl ⟨.inl z, fun w => d a z w⟩
    · exact .inr z
  · cases z
theorem lp_im {e : Expr} {p : P} {v : V} {d : D} (h : PE X e (tC v)) (he : ∀ σ, evP G p σ = some (.im d)) (hr : ∀ K H, RepD K H d v) (hs : ∀ σ c, setP G p σ c = none) : PE X e (LP X.K G p) := PE.imp h fun σV H Q ⟨σ, F, m, e, hm, k⟩ => by
  rw [he] at hm
  cases hm
  exact k v fpE (repM_im (hr _ _)) (fun _ z => z.elim) (Foc.no hs)
theorem lp_int {n : Int} {j : Nat} {pos : Pos} : PE X (.Constant (.int n) j pos) (LP X.K G (.int n)) := lp_im pe_int (fun _ => rfl) (fun _ _ => rep_int.mpr rfl) fun _ _ => rfl
theorem lp_str {n : Str} {j : Nat} {pos : Pos} : PE X (.Constant (.str n) j pos) (LP X.K G (.str n)) := lp_im pe_str (fun _ => rfl) (fun _ _ => rep_str.mpr rfl) fun _ _ => rfl
theorem lp_bl {n : Bool} {j : Nat} {pos : Pos} : PE X (.Constant (.bool n) j pos) (LP X.K G (.bl n)) := lp_im pe_bl (fun _ => rfl) (fun _ _ => rep_bl.mpr rfl) fun _ _ => rfl
theorem lp_non {j : Nat} {pos : Pos} : PE X (.Constant .none j pos) (LP X.K G .non) := lp_im pe_non (fun _ => rfl) (fun _ _ => rep_non.mpr rfl) fun _ _ => rfl
theorem lp_con {x : Str} {pos : Pos} {v : V} {g : Nat} {d : D} (h : PE X (.Name x pos) (tC v)) (hd : G.cons[g]? = some (x, d)) (hr : ∀ H, RepD X.K H d v) : PE X (.Name x pos) (LP X.K G (.con g)) := PE.imp h fun σV H Q ⟨σ, F, m, e, hm, k⟩ => by
  simp only [evP, hd, Option.map_some, Option.some.injEq] at hm
  subst hm
  exact k v fpE (repM_im (hr _)) (fun _ z => z.elim) (Foc.no fun _ _ => rfl)
theorem lp_idx {a b : Expr} {p q : P} {pos : Pos} (hu : X.A.units + 1 < cLine) (ha : PE X a (LP X.K G p)) (hb : PE X b (LP X.K G q)) (hs : PlainIx b) : PE X (.Subscript a b pos) (LP X.K G (.idx p q)) := PE.imp (pe_ix (ix_all hu) ha hb hs) fun σV H Q ⟨σ, F, m, e, hm, k⟩ => by
  simp only [evP] at hm
  obtain ⟨mp, hp, hm⟩ := Option.bind_eq_some_iff.mp hm
  obtain ⟨kq, hq, hm⟩ := Option.bind_eq_some_iff.mp hm
  refine ⟨σ, F, mp, e, hp, fun vp Gp rp sp fp => ⟨σ, F, kq, e, hq, fun vq Gq rq sq _ => ?_⟩⟩
  obtain ⟨v', Gr, hall, rr, sr, cl⟩ := getM_ok rp rq hm
  refine hall Q (k v' Gr rr (fun a z => sp a (sr a z)) fun H' c' G' σ' kp f rc dg z => ?_)
  simp only [setP, hp, hq, Option.bind_some] at z
  obtain ⟨x', hx, z⟩ := Option.bind_eq_some_iff.mp z
  obtain ⟨Gx, rx, sx⟩ := cl H' c' G' x' kp (fun a h1 h2 => f a (sp a h1) h2) rc (fun a h1 h2 => dg a h1 (sp a h2)) hx
  obtain ⟨F', e', s'⟩ := fp H' x' Gx σ' kp (fun a h1 h2 => f a h1 fun w => h2 (sr a w)) rx (fun a h1 h2 => by
    rcases sx a h1 with ⟨w, _⟩ | w
    · exact w
    · exact sr a (dg a w h2)) z
  refine ⟨F', e', fun a z => ?_⟩
  rcases s' a z with ⟨w1, w2⟩ | w
  · exact .inl ⟨w1, fun w => w2 (sr a w)⟩
  · rcases sx a w with ⟨w1, w2⟩ | w
    · exact .inl ⟨sp a w1, w2⟩
    · exact .inr w
theorem lp_len {e : Expr} {p : P} {pn pos : Pos} (hg : Gl X "len") (hm : X.mg "len" = none) (he : PE X e (LP X.K G p)) (h1 : starEach [e] X.env = (false, eval e X.env) :: starEach [] X.env) : PE X (.Call (.Name "len" pn) [e] [] pos) (LP X.K G (.len p)) :=
  PE.imp (pe_callB cr_lenP hg hm boot_len (pa_cons he pa_nil h1) (by decide) (by decide) h1) fun σV H Q ⟨σ, F, m, e, hm, k⟩ => by
  simp only [evP] at hm
  obtain ⟨mp, hp, hm⟩ := Option.bind_eq_some_iff.mp hm
  obtain ⟨n, hn, rfl⟩ := Option.map_eq_some_iff.mp hm
  exact ⟨σ, F, mp, e, hp, fun vp Gp rp sp fp => ⟨vp, mp, n, Gp, rfl, rp, hn, k _ fpE (repM_im (rep_int.mpr rfl)) (fun _ z => z.elim) (Foc.no fun _ _ => rfl)⟩⟩
theorem iD_ok {m : M} {i : Int} {K : PySem.W.Frag} {H : Hp} {v : V} {Gm : FP} (h : iD m = some i) (r : RepM K H m v Gm) : v = .int i := by
  unfold iD at h
  split at h
  · cases h; exact rep_int.mp (repM_imI.mp r).1
  · cases h
theorem lp_add {a b : Expr} {p q : P} {pos : Pos} (ha : PE X a (LP X.K G p)) (hb : PE X b (LP X.K G q)) : PE X (.BinOp a .Add b pos) (LP X.K G (.add p q)) := PE.imp (pe_op op_add ha hb) fun σV H Q ⟨σ, F, m, e, hm, k⟩ => by
  simp only [evP] at hm
  obtain ⟨mp, hp, hm⟩ := Option.bind_eq_some_iff.mp hm
  obtain ⟨kq, hq, hm⟩ := Option.bind_eq_some_iff.mp hm
  obtain ⟨i, hi, hm⟩ := Option.bind_eq_some_iff.mp hm
  obtain ⟨j, hj, rfl⟩ := Option.map_eq_some_iff.mp hm
  exact ⟨σ, F, mp, e, hp, fun vp Gp rp sp fp => ⟨σ, F, kq, e, hq, fun vq Gq rq sq _ => ⟨i, j, iD_ok hi rp, iD_ok hj rq, k _ fpE (repM_im (rep_int.mpr rfl)) (fun _ z => z.elim) (Foc.no fun _ _ => rfl)⟩⟩⟩
theorem lp_sub {a b : Expr} {p q : P} {pos : Pos} (ha : PE X a (LP X.K G p)) (hb : PE X b (LP X.K G q)) : PE X (.BinOp a .Sub b pos) (LP X.K G (.sub p q)) := PE.imp (pe_op op_sub ha hb) fun σV H Q ⟨σ, F, m, e, hm, k⟩ => by
  simp only [evP] at hm
  obtain ⟨mp, hp, hm⟩ := Option.bind_eq_some_iff.mp hm
  obtain ⟨kq, hq, hm⟩ := Option.bind_eq_some_iff.mp hm
  obtain ⟨i, hi, hm⟩ := Option.bind_eq_some_iff.mp hm
  obtain ⟨j, hj, rfl⟩ := Option.map_eq_some_iff.mp hm
  exact ⟨σ, F, mp, e, hp, fun vp Gp rp sp fp => ⟨σ, F, kq, e, hq, fun vq Gq rq sq _ => ⟨i, j, iD_ok hi rp, iD_ok hj rq, k _ fpE (repM_im (rep_int.mpr rfl)) (fun _ z => z.elim) (Foc.no fun _ _ => rfl)⟩⟩⟩
theorem lp_neg {a : Expr} {p : P} {pos : Pos} (ha : PE X a (LP X.K G p)) : PE X (.UnaryOp .USub a pos) (LP X.K G (.neg p)) := PE.imp (pe_un un_neg ha) fun σV H Q ⟨σ, F, m, e, hm, k⟩ => by
  simp only [evP] at hm
  obtain ⟨mp, hp, hm⟩ := Option.bind_eq_some_iff.mp hm
  obtain ⟨i, hi, rfl⟩ := Option.map_eq_some_iff.mp hm
  exact ⟨σ, F, mp, e, hp, fun vp Gp rp sp fp => ⟨i, iD_ok hi rp, k _ fpE (repM_im (rep_int.mpr rfl)) (fun _ z => z.elim) (Foc.no fun _ _ => rfl)⟩⟩
end

/-! ### pieces that are looked at; two pieces -/
def PostO (K : PySem.W.Frag) (H : Hp) (σV : L2.St) (F : FP) (Q1 : QM) (v : V) (H' : Hp) : Prop :=
  ∃ m σ' F1 Gm, Q1 m σ' ∧ EnvR K H' σ' σV F1 ∧ RepM K H' m v Gm ∧ ((∀ a, Gm a → F1 a) ∨ Disj F1 Gm) ∧ Step H F H' (fpU F1 Gm)
def LO (K : PySem.W.Frag) (cc : Str → Addr) (W : WX) (G : Glob) (c : CE) (t : TE) : L2.TE := fun σV H Q => ∃ σ F Q1 E1, EnvR K H σ σV F ∧ bor G c t σ Q1 E1 ∧ (∀ v H', PostO K H σV F Q1 v H' → Q v H') ∧ ∀ cls d H', PostX K cc H σV F E1 cls d H' → W cls d σV H'
def LF (K : PySem.W.Frag) (cc : Str → Addr) (W : WX) (c : CE) (t : TE) : L2.TE := match c with
  | .v i => tVar i
  | _ => LE K cc W t
def isVP : CE → Bool
  | .v _ => true
  | .p _ => true
  | _ => false
theorem bor_gen {G : Glob} {c : CE} {t : TE} (h : isVP c = false) : bor G c t = t := by
  cases c <;> first | rfl | cases h
section
variable {X : Cx} {cc : Str → Addr} {W : WX} {G : Glob} {c : CE} {t : TE} {e : Expr}
theorem lo_var {i : Nat} (h : PE X e (tVar i)) : PE X e (LO X.K cc W G (.v i) t) := PE.imp h fun σV H Q ⟨σ, F, Q1, E1, er, h, k, _⟩ => by
  obtain ⟨m, hm, q⟩ := slot_ok (show slot σ i fun m => Q1 m σ from h)
  obtain ⟨v, Gm, hv, rm, s⟩ := er.look hm
  refine ⟨v, hv, k v H ⟨m, σ, F, Gm, q, er, rm, .inl s, Step.refl.sub fun a z => ?_⟩⟩
  exact z.elim id (s a)
theorem lo_p {p : P} (h : PE X e (LP X.K G p)) : PE X e (LO X.K cc W G (.p p) t) := PE.imp h fun σV H Q ⟨σ, F, Q1, E1, er, h, k, _⟩ => by
  obtain ⟨m, hm, q⟩ := fin_ok (show fin (evP G p σ) σ Q1 from h)
  refine ⟨σ, F, m, er, hm, fun v Gm rm s _ => k v H ⟨m, σ, F, Gm, q, er, rm, .inl s, Step.refl.sub fun a z => ?_⟩⟩
  exact z.elim id (s a)
theorem lo_gen (hc : isVP c = false) (h : QE X cc W e t) : PE X e (LO X.K cc W G c t) := PE.imp h.pe fun σV H Q ⟨σ, F, Q1, E1, er, h, k, kx⟩ => by
  rw [bor_gen hc] at h
  exact ⟨σ, F, Q1, E1, er, h, fun v H' ⟨m, σ', F1, Gm, q, e1, rm, d, st⟩ => k v H' ⟨m, σ', F1, Gm, q, e1, rm, .inr d, st⟩, kx⟩
end
section
variable {K : PySem.W.Frag} {cc : Str → Addr} {W : WX} {H : Hp} {σ : Env} {σV : L2.St} {F : FP} {G : Glob}
theorem lo1 {c : CE} {t : TE} {R : QM} {E1 : QX} {P : VK} (e : EnvR K H σ σV F) (h : bor G c t σ R E1) (kx : ∀ cls d H', PostX K cc H σV F E1 cls d H' → W cls d σV H')
    (k : ∀ m σ' v H' F1 Gm, R m σ' → EnvR K H' σ' σV F1 → RepM K H' m v Gm → Step H F H' F1 → P v H') : LO K cc W G c t σV H P :=
  ⟨σ, F, R, E1, e, h, fun v H' ⟨m, σ', F1, Gm, q, e1, r, d, s⟩ => k m σ' v H' F1 Gm q e1 r (s.sub fun _ z => .inl z), kx⟩
theorem two_ok {a b : CE} {ta tb : TE} {k : M → M → Env → Prop} {E1 : QX} {P : V → V → Hp → Prop} (e : EnvR K H σ σV F) (h : two G a b ta tb k σ E1) (kx : ∀ cls d H', PostX K cc H σV F E1 cls d H' → W cls d σV H')
    (hk : ∀ x y vx vy σ2 H2 F2 Gx Gy, k x y σ2 → EnvR K H2 σ2 σV F2 → RepM K H2 x vx Gx → RepM K H2 y vy Gy → Step H F H2 F2 → P vx vy H2) :
    LF K cc W a ta σV H fun vx H1 => LO K cc W G b tb σV H1 fun vy H2 => P vx vy H2 := by
  have gen : (∀ i, a ≠ .v i) → LE K cc W ta σV H fun vx H1 => LO K cc W G b tb σV H1 fun vy H2 => P vx vy H2 := fun n => by
    have h' : ta σ (fun x σ1 => bor G b tb σ1 (fun y σ2 => k x y σ2) E1) E1 := by
      unfold two at h
      split at h
      · exact absurd rfl (n _)
      · exact h
    refine le1 e h' kx fun x σ1 vx H1 F1 G1 h1 e1 r1 d1 s1 => ?_
    have sF : Step H F H1 F1 := s1.sub fun _ z => .inl z
    refine ⟨σ1, F1, _, E1, e1, h1, fun vy H2 ⟨y, σ2, F2, G2, h2, e2, r2, dd, s2⟩ => ?_, fun cls d H' x => kx cls d H' (x.go sF)⟩
    exact hk x y vx vy σ2 H2 F2 G1 G2 h2 e2 (r1.hold e1.mut d1 s2).1 r2 (sF.trans (s2.sub fun _ z => .inl z))
  cases a with
  | v i =>
    obtain ⟨m, hm, h⟩ := slot_ok (show slot σ i fun _ => bor G b tb σ (fun y σ2 => slot σ2 i fun x => k x y σ2) E1 from h)
    obtain ⟨v, _, hv, _, _⟩ := e.look hm
    refine ⟨v, hv, ?_⟩
    refine ⟨σ, F, _, E1, e, h, fun vy H2 ⟨y, σ2, F2, G2, h2, e2, r2, dd, s2⟩ => ?_, kx⟩
    obtain ⟨x, hx, h2⟩ := slot_ok h2
    obtain ⟨v2, Gx, hv2, rx, _⟩ := e2.look hx
    rw [hv] at hv2
    cases hv2
    exact hk x y v vy σ2 H2 F2 Gx G2 h2 e2 rx r2 (s2.sub fun _ z => .inl z)
  | _ => exact gen fun i z => nomatch z
end
end CP
namespace CP
open PySem PySem.Spec PyProof.Rows L2

section
variable {X : Cx} {cc : Str → Addr} {W : WX} {G : Glob} {Γ : Nat → Sp} {e e1 e2 e3 : Expr} {a b c : CE} {pos : Pos}
theorem Step.dropR {H H' : Hp} {F F1 F2 : FP} (s : Step H F H' (fpU F1 F2)) : Step H F H' F1 := s.sub fun _ z => .inl z
theorem qe_v {i : Nat} (h : PE X e (tVar i)) : QE X cc W e (ev G Γ (.v i)) := ⟨PE.imp h fun σV H Q ⟨σ, F, Q1, E1, er, h, k, _⟩ => by
  simp only [ev] at h
  obtain ⟨m, hm, q⟩ := slot_ok h
  by_cases ho : owned m = true
  · rw [if_pos ho] at q
    obtain ⟨v, Gm, F', hv, rm, e', d, rfl⟩ := er.take hm
    exact ⟨v, hv, k v H ⟨m, _, F', Gm, q, e', rm, d, Step.refl⟩⟩
  · rw [if_neg ho] at q
    obtain ⟨d, rfl⟩ := im_of (by simpa using ho)
    obtain ⟨v, Gm, hv, rm, _⟩ := er.look hm
    obtain ⟨rd, rfl⟩ := rm.im_fp
    exact ⟨v, hv, k v H ⟨_, σ, F, fpE, q, er, rm, fun _ _ z => z, Step.refl.sub fun a z => z.elim id fun z => z.elim⟩⟩⟩
theorem qe_p {p : P} (h : PE X e (LP X.K G p)) : QE X cc W e (ev G Γ (.p p)) := ⟨PE.imp h fun σV H Q ⟨σ, F, Q1, E1, er, h, k, _⟩ => by
  simp only [ev] at h
  split at h
  · rename_i d hd
    refine ⟨σ, F, _, er, hd, fun v Gm rm _ _ => k v H ⟨_, σ, F, Gm, h, er, rm, ?_, ?_⟩⟩
    · rw [rm.im_fp.2]; exact fun _ _ z => z
    · rw [rm.im_fp.2]; exact Step.refl.sub fun a z => z.elim id fun z => z.elim
  · exact h.elim⟩
/-- the first of two operands, the second -/
def QF (X : Cx) (cc : Str → Addr) (W : WX) (e : Expr) (c : CE) (t : TE) : Prop := PE X e (LF X.K cc W c t)
def QO (X : Cx) (cc : Str → Addr) (W : WX) (G : Glob) (e : Expr) (c : CE) (t : TE) : Prop := PE X e (LO X.K cc W G c t)
theorem qf_of (hv : ∀ i, c = .v i → PE X e (tVar i)) (h : (∀ i, c ≠ .v i) → QE X cc W e t) : QF X cc W e c t := by
  unfold QF LF
  split
  · exact hv _ rfl
  · rename_i n; exact (h fun i z => n i z).pe
/-- two values and an operation on them -/
theorem ro2_go {K : PySem.W.Frag} {H : Hp} {σ : Env} {σV : L2.St} {F : FP} {Q1 : QM} {E1 : QX} {Q : VK} {ta tb : TE} {o : O2} (er : EnvR K H σ σV F) (h : two G a b ta tb (fun x y σ2 => fin (op2M o x y) σ2 Q1) σ E1)
    (k : ∀ v H', Post K H σV F Q1 v H' → Q v H') (kx : ∀ cls d H', PostX K cc H σV F E1 cls d H' → W cls d σV H') : LF K cc W a ta σV H fun vx H1 => LO K cc W G b tb σV H1 fun vy H2 => RO2 K o vx vy H2 Q :=
  two_ok er h kx fun x y vx vy σ2 H2 F2 Gx Gy hf e2 rx ry s => by
    obtain ⟨z, hz, q⟩ := fin_ok hf
    exact ⟨x, y, z, Gx, Gy, rx, ry, hz, fun v H' Gz rz ext => k v H' ⟨z, σ2, F2, Gz, q, (e2.ext ext).1, rz, (e2.ext ext).2, s.trans ext.step⟩⟩
theorem qe_bin {o : O2} {op : Operator} (ho : OpR X (binaryOp op) (RO2 X.K o)) (h1 : QF X cc W e1 a (ev G Γ a)) (h2 : QO X cc W G e2 b (ev G Γ b)) : QE X cc W (.BinOp e1 op e2 pos) (ev G Γ (.op2 o a b)) :=
  ⟨PE.imp (pe_op ho h1 h2) fun σV H Q ⟨σ, F, Q1, E1, er, h, k, kx⟩ => ro2_go er (by simpa only [ev] using h) k kx⟩
theorem qe_cmp {o : O2} {op : CmpOp} (ho : OpR X (compareOp op) (RO2 X.K o)) (h1 : QF X cc W e1 a (ev G Γ a)) (h2 : QO X cc W G e2 b (ev G Γ b)) (hm : behindInMarks op e2 = false) : QE X cc W (.Compare e1 [op] [e2] pos) (ev G Γ (.op2 o a b)) :=
  ⟨PE.imp (pe_cmpR ho h1 h2 hm) fun σV H Q ⟨σ, F, Q1, E1, er, h, k, kx⟩ => ro2_go er (by simpa only [ev] using h) k kx⟩
theorem qe_idx (hu : X.A.units + 1 < cLine) (h1 : QF X cc W e1 a (ev G Γ a)) (h2 : QO X cc W G e2 b (ev G Γ b)) (hs : PlainIx e2) : QE X cc W (.Subscript e1 e2 pos) (ev G Γ (.op2 .idx a b)) :=
  ⟨PE.imp (pe_ix (ix_idx hu) h1 h2 hs) fun σV H Q ⟨σ, F, Q1, E1, er, h, k, kx⟩ => ro2_go er (by simpa only [ev] using h) k kx⟩
theorem qe_call2 {o : O2} {x id : _} {pn : Pos} (hc : CallR X (.builtin id) (fun vs H Q => ∃ a b, vs = [a, b] ∧ RO2 X.K o a b H Q)) (hg : Gl X x) (hm : X.mg x = none) (hv : bootBuiltins x = some (.builtin id)) (hn : x ≠ "__name__") (hdb : (x == ("__debug__" : Str)) = false)
    (h1 : QF X cc W e1 a (ev G Γ a)) (h2 : QO X cc W G e2 b (ev G Γ b)) (s1 : starEach [e1, e2] X.env = (false, eval e1 X.env) :: starEach [e2] X.env) (s2 : starEach [e2] X.env = (false, eval e2 X.env) :: starEach [] X.env) : QE X cc W (.Call (.Name x pn) [e1, e2] [] pos) (ev G Γ (.op2 o a b)) :=
  ⟨PE.imp (pe_callB hc hg hm hv (pa_cons h1 (pa_cons h2 pa_nil s2) s1) hn hdb s1 (by rw [s2]; rfl)) fun σV H Q ⟨σ, F, Q1, E1, er, h, k, kx⟩ => by
    have := ro2_go (cc := cc) (W := W) (Q := Q) er (by simpa only [ev] using h) k kx
    show LF X.K cc W a (ev G Γ a) σV H fun vx H1 => LO X.K cc W G b (ev G Γ b) σV H1 fun vy H2 => _
    refine two_ok er (by simpa only [ev] using h) kx fun x y vx vy σ2 H2 F2 Gx Gy hf e2 rx ry s => ?_
    obtain ⟨z, hz, q⟩ := fin_ok hf
    exact ⟨vx, vy, rfl, x, y, z, Gx, Gy, rx, ry, hz, fun v H' Gz rz ext => k v H' ⟨z, σ2, F2, Gz, q, (e2.ext ext).1, rz, (e2.ext ext).2, s.trans ext.step⟩⟩⟩
/-- one value and an operation on it -/
theorem ro1_go {K : PySem.W.Frag} {H : Hp} {σ : Env} {σV : L2.St} {F : FP} {Q1 : QM} {E1 : QX} {Q : VK} {ta : TE} {o : O1} (er : EnvR K H σ σV F) (h : bor G a ta σ (fun m σ1 => fin (op1M o m) σ1 Q1) E1)
    (k : ∀ v H', Post K H σV F Q1 v H' → Q v H') (kx : ∀ cls d H', PostX K cc H σV F E1 cls d H' → W cls d σV H') : LO K cc W G a ta σV H fun vx H1 => RO1 K o vx H1 Q :=
  lo1 er h kx fun x σ2 vx H2 F2 Gx hf e2 rx s => by
    obtain ⟨z, hz, q⟩ := fin_ok hf
    exact ⟨x, z, Gx, rx, hz, fun v H' Gz rz ext => k v H' ⟨z, σ2, F2, Gz, q, (e2.ext ext).1, rz, (e2.ext ext).2, s.trans ext.step⟩⟩
theorem qe_un {o : O1} {op : UnaryOp} (ho : UnR X (unaryOp op) (RO1 X.K o)) (h1 : QO X cc W G e1 a (ev G Γ a)) : QE X cc W (.UnaryOp op e1 pos) (ev G Γ (.op1 o a)) :=
  ⟨PE.imp (pe_un ho h1) fun σV H Q ⟨σ, F, Q1, E1, er, h, k, kx⟩ => ro1_go er (by simpa only [ev] using h) k kx⟩
theorem qe_callB1 {o : O1} {x id : _} {pn : Pos} (hc : CallR X (.builtin id) (R1 X.K o)) (hg : Gl X x) (hm : X.mg x = none) (hv : bootBuiltins x = some (.builtin id)) (hn : x ≠ "__name__") (hdb : (x == ("__debug__" : Str)) = false)
    (h1 : QO X cc W G e1 a (ev G Γ a)) (s1 : starEach [e1] X.env = (false, eval e1 X.env) :: starEach [] X.env) : QE X cc W (.Call (.Name x pn) [e1] [] pos) (ev G Γ (.op1 o a)) :=
  ⟨PE.imp (pe_callB hc hg hm hv (pa_cons h1 pa_nil s1) hn hdb s1) fun σV H Q ⟨σ, F, Q1, E1, er, h, k, kx⟩ => by
    refine lo1 er (by simpa only [ev] using h) kx fun x σ2 vx H2 F2 Gx hf e2 rx s => ?_
    obtain ⟨z, hz, q⟩ := fin_ok hf
    exact ⟨vx, rfl, x, z, Gx, rx, hz, fun v H' Gz rz ext => k v H' ⟨z, σ2, F2, Gz, q, (e2.ext ext).1, rz, (e2.ext ext).2, s.trans ext.step⟩⟩⟩
theorem qe_callT1 {o : O1} {x Ty : _} {pn : Pos} (hc : CallR X (.type Ty) (R1 X.K o)) (hg : Gl X x) (hm : X.mg x = none) (hv : bootBuiltins x = some (.type Ty)) (hn : x ≠ "__name__") (hdb : (x == ("__debug__" : Str)) = false)
    (h1 : QO X cc W G e1 a (ev G Γ a)) (s1 : starEach [e1] X.env = (false, eval e1 X.env) :: starEach [] X.env) : QE X cc W (.Call (.Name x pn) [e1] [] pos) (ev G Γ (.op1 o a)) :=
  ⟨PE.imp (pe_callTy hc hg hm hv (pa_cons h1 pa_nil s1) hn hdb s1) fun σV H Q ⟨σ, F, Q1, E1, er, h, k, kx⟩ => by
    refine lo1 er (by simpa only [ev] using h) kx fun x σ2 vx H2 F2 Gx hf e2 rx s => ?_
    obtain ⟨z, hz, q⟩ := fin_ok hf
    exact ⟨vx, rfl, x, z, Gx, rx, hz, fun v H' Gz rz ext => k v H' ⟨z, σ2, F2, Gz, q, (e2.ext ext).1, rz, (e2.ext ext).2, s.trans ext.step⟩⟩⟩
/-- a op1 b op2 c -/
theorem chain_go {K : PySem.W.Frag} {H : Hp} {σ : Env} {σV : L2.St} {F : FP} {Q1 : QM} {E1 : QX} {Q : VK} {o1 o2 : O2} (er : EnvR K H σ σV F) (h : ev G Γ (.chain o1 o2 a b c) σ Q1 E1)
    (hbl : ∀ x y z, op2M o2 x y = some z → ∃ b, z = .im (.bl b)) (k : ∀ v H', Post K H σV F (fun m σ => Q1 m σ ∧ ∃ b, m = .im (.bl b)) v H' → Q v H') (kx : ∀ cls d H', PostX K cc H σV F E1 cls d H' → W cls d σV H') : tChain (RO2 K o1) (RO2 K o2) (LE K cc W (ev G Γ a)) (LE K cc W (ev G Γ b)) (LE K cc W (ev G Γ c)) σV H Q := by
  simp only [ev] at h
  refine le2 er h kx fun x y σ2 vx vy H2 F2 G1 G2 hk e2 rx ry d1 d2 d12 s => ?_
  have sF : Step H F H2 F2 := s.sub fun _ z => .inl z
  split at hk
  · rename_i ho
    refine ⟨x, y, _, G1, G2, rx, ry, ho, fun v H3 Gz rz ext => ⟨true, rep_bl.mp (repM_imI.mp rz).1, ?_⟩⟩
    rw [if_pos rfl]
    obtain ⟨e3, _⟩ := e2.ext ext
    have s3 : Step H F H3 F2 := (sF.trans ext.step).sub fun _ z => .inl z
    have ry3 := (ry.ext ext).1
    have dy3 : Disj F2 G2 := d2
    refine le1 e3 hk (fun cls d H' x => kx cls d H' (x.go s3)) fun z σ4 vz H4 F4 G4 hq e4 rz4 d4 s4 => ?_
    obtain ⟨w, hw, q⟩ := fin_ok hq
    refine ⟨y, z, w, G2, G4, (ry3.hold e3.mut dy3 s4).1, rz4, hw, fun v H' Gz rz ext => k v H' ⟨w, σ4, F4, Gz, ⟨q, hbl _ _ _ hw⟩, (e4.ext ext).1, rz, (e4.ext ext).2, (s3.trans s4.dropR).trans ext.step⟩⟩
  · rename_i ho
    refine ⟨x, y, _, G1, G2, rx, ry, ho, fun v H3 Gz rz ext => ⟨false, rep_bl.mp (repM_imI.mp rz).1, ?_⟩⟩
    rw [if_neg Bool.false_ne_true]
    obtain ⟨e3, _⟩ := e2.ext ext
    exact k _ H3 ⟨_, σ2, F2, fpE, ⟨hk, false, rfl⟩, e3, repM_im (rep_bl.mpr rfl), fun _ _ z => z, (sF.trans ext.step).sub fun a z => z.elim .inl fun z => z.elim⟩
  · exact hk.elim
theorem qe_chain {o1 o2 : O2} {p1 p2 : CmpOp} (h1 : OpR X (compareOp p1) (RO2 X.K o1)) (h2 : OpR X (compareOp p2) (RO2 X.K o2)) (ha : QE X cc W e1 (ev G Γ a)) (hb : QE X cc W e2 (ev G Γ b)) (hc : QE X cc W e3 (ev G Γ c)) (hbl : ∀ x y z, op2M o2 x y = some z → ∃ b, z = .im (.bl b)) (hm : lastMarks [p1, p2] [e2, e3] = false) : QE X cc W (.Compare e1 [p1, p2] [e2, e3] pos) (ev G Γ (.chain o1 o2 a b c)) :=
  ⟨PE.imp (pe_chain h1 h2 ha.pe hb.pe hc.pe hm) fun σV H Q ⟨σ, F, Q1, E1, er, h, k, kx⟩ => chain_go er h hbl (fun v H' ⟨m, σ', F1, Gm, q, x⟩ => k v H' ⟨m, σ', F1, Gm, q.1, x⟩) kx⟩
theorem qe_and {rest : List Expr} (ha : QE X cc W e1 (ev G Γ a)) (hb : QE X cc W (.BoolOp .And (e2 :: rest) pos) (ev G Γ b)) : QE X cc W (.BoolOp .And (e1 :: e2 :: rest) pos) (ev G Γ (.and a b)) :=
  ⟨PE.imp (pe_and ha.pe hb.pe) fun σV H Q ⟨σ, F, Q1, E1, er, h, k, kx⟩ => by
    simp only [ev] at h
    refine le1 er h kx fun x σ1 vx H1 F1 G1 hk e1 r1 d1 s1 => ?_
    split at hk
    · refine ⟨true, rep_bl.mp (repM_imI.mp r1).1, ?_⟩
      rw [if_pos rfl]
      exact le1 e1 hk (fun cls d H' x => kx cls d H' (x.go s1.dropR)) fun y σ2 vy H2 F2 G2 hq e2 r2 d2 s2 => k _ _ ⟨y, σ2, F2, G2, hq, e2, r2, d2, s1.dropR.trans s2⟩
    · refine ⟨false, rep_bl.mp (repM_imI.mp r1).1, ?_⟩
      rw [if_neg Bool.false_ne_true]
      exact k _ _ ⟨_, σ1, F1, fpE, hk, e1, repM_im (rep_bl.mpr rfl), fun _ _ z => z, s1.dropR.sub fun a z => z.elim id fun z => z.elim⟩
    · exact hk.elim⟩
theorem qe_or {rest : List Expr} (ha : QE X cc W e1 (ev G Γ a)) (hb : QE X cc W (.BoolOp .Or (e2 :: rest) pos) (ev G Γ b)) : QE X cc W (.BoolOp .Or (e1 :: e2 :: rest) pos) (ev G Γ (.or a b)) :=
  ⟨PE.imp (pe_or ha.pe hb.pe) fun σV H Q ⟨σ, F, Q1, E1, er, h, k, kx⟩ => by
    simp only [ev] at h
    refine le1 er h kx fun x σ1 vx H1 F1 G1 hk e1 r1 d1 s1 => ?_
    split at hk
    · refine ⟨true, rep_bl.mp (repM_imI.mp r1).1, ?_⟩
      rw [if_pos rfl]
      exact k _ _ ⟨_, σ1, F1, fpE, hk, e1, repM_im (rep_bl.mpr rfl), fun _ _ z => z, s1.dropR.sub fun a z => z.elim id fun z => z.elim⟩
    · refine ⟨false, rep_bl.mp (repM_imI.mp r1).1, ?_⟩
      rw [if_neg Bool.false_ne_true]
      exact le1 e1 hk (fun cls d H' x => kx cls d H' (x.go s1.dropR)) fun y σ2 vy H2 F2 G2 hq e2 r2 d2 s2 => k _ _ ⟨y, σ2, F2, G2, hq, e2, r2, d2, s1.dropR.trans s2⟩
    · exact hk.elim⟩
theorem qe_one {op : BoolOp} {t : TE} (h : QE X cc W e t) : QE X cc W (.BoolOp op [e] pos) t := ⟨pe_one h.pe⟩
theorem qe_not (ha : QE X cc W e1 (ev G Γ a)) : QE X cc W (.UnaryOp .Not e1 pos) (ev G Γ (.not a)) :=
  ⟨PE.imp (pe_not ha.pe) fun σV H Q ⟨σ, F, Q1, E1, er, h, k, kx⟩ => by
    simp only [ev] at h
    refine le1 er h kx fun x σ1 vx H1 F1 G1 hk e1 r1 d1 s1 => ?_
    split at hk
    · exact ⟨_, rep_bl.mp (repM_imI.mp r1).1, k _ _ ⟨_, σ1, F1, fpE, hk, e1, repM_im (rep_bl.mpr rfl), fun _ _ z => z, s1.dropR.sub fun a z => z.elim id fun z => z.elim⟩⟩
    · exact hk.elim⟩

/-! ### tests -/
def isCmp : O2 → Bool
  | .eq | .ne | .lt | .le | .gt | .ge | .is | .isn | .inn | .nin => true
  | _ => false
theorem cmp_bl {o : O2} (h : isCmp o = true) : ∀ x y z, op2M o x y = some z → ∃ b, z = .im (.bl b) := by
  intro x y z e
  cases o <;> simp only [isCmp] at h <;> first | (cases h; done) | skip
  all_goals simp only [op2M] at e
  all_goals first
    | (obtain ⟨b, _, rfl⟩ := Option.map_eq_some_iff.mp e; exact ⟨_, rfl⟩)
    | (obtain ⟨i, j, d, _, _, hd, rfl⟩ := bI_ok e; cases hd; exact ⟨_, rfl⟩)
    | (split at e <;> first | (cases e; exact ⟨_, rfl⟩) | cases e)
theorem qt_cmp {o : O2} {op : CmpOp} (hb : isCmp o = true) (ho : OpR X (compareOp op) (RO2 X.K o)) (h1 : QF X cc W e1 a (ev G Γ a)) (h2 : QO X cc W G e2 b (ev G Γ b)) (hm : behindInMarks op e2 = false) : QT X cc W (.Compare e1 [op] [e2] pos) (evT G Γ (.c (.op2 o a b))) :=
  ⟨PT.imp (pt_cmpR ho h1 h2 hm) fun σV H Q ⟨σ, F, Q1, E1, er, h, k, kx⟩ => by
    simp only [evT, bor, ev] at h
    refine two_ok er h kx fun x y vx vy σ2 H2 F2 Gx Gy hf e2 rx ry s => ?_
    obtain ⟨z, hz, q⟩ := fin_ok hf
    obtain ⟨b, rfl⟩ := cmp_bl hb _ _ _ hz
    exact ⟨x, y, _, Gx, Gy, rx, ry, hz, fun v H' Gz rz ext => ⟨b, rep_bl.mp (repM_imI.mp rz).1, k _ _ ⟨σ2, F2, q, (e2.ext ext).1, (s.trans ext.step).dropR⟩⟩⟩⟩
theorem qt_chain {o1 o2 : O2} {p1 p2 : CmpOp} (h1 : OpR X (compareOp p1) (RO2 X.K o1)) (h2 : OpR X (compareOp p2) (RO2 X.K o2)) (hb2 : isCmp o2 = true) (ha : QE X cc W e1 (ev G Γ a)) (hb : QE X cc W e2 (ev G Γ b)) (hc : QE X cc W e3 (ev G Γ c)) (hm : lastMarks [p1, p2] [e2, e3] = false) : QT X cc W (.Compare e1 [p1, p2] [e2, e3] pos) (evT G Γ (.c (.chain o1 o2 a b c))) :=
  ⟨PT.imp (pt_chain h1 h2 ha.pe hb.pe hc.pe hm) fun σV H Q ⟨σ, F, Q1, E1, er, h, k, kx⟩ => by
    simp only [evT, bor] at h
    exact chain_go er h (cmp_bl hb2) (fun v H' ⟨m, σ', F1, Gm, ⟨q, b, eb⟩, e1, rm, d, s⟩ => by
      subst eb
      exact ⟨b, rep_bl.mp (repM_imI.mp rm).1, k _ _ ⟨σ', F1, q, e1, s.dropR⟩⟩) kx⟩
theorem qt_truth (h : QO X cc W G e a (ev G Γ a)) (he : ∀ whole, isTrue e X.env whole = (do let v ← whole; standAt e.pos; holding [v] (truthy v))) : QT X cc W e (evT G Γ (.c a)) :=
  ⟨PT.imp (pt_truth h he) fun σV H Q ⟨σ, F, Q1, E1, er, h, k, kx⟩ => by
    simp only [evT] at h
    refine lo1 er h kx fun x σ2 vx H2 F2 Gx hf e2 rx s => ?_
    split at hf
    · rename_i b hb
      exact ⟨b, truth_ok rx hb, k _ _ ⟨σ2, F2, hf, e2, s⟩⟩
    · exact hf.elim⟩
structure QW (X : Cx) (cc : Str → Addr) (W : WX) (e : Expr) (t : TB) : Prop where
  pw : PW X e (LB X.K cc W t)
theorem QW.qt {t : TB} (h : QW X cc W e t) : QT X cc W e t := ⟨h.pw.pt⟩
theorem andT_go {K : PySem.W.Frag} {ta tb : TB} {σV : L2.St} {H : Hp} {Q : Bool → Hp → Prop} (h : LB K cc W (fun σ Q E => ta σ (fun c σ1 => if c = true then tb σ1 Q E else Q false σ1) E) σV H Q) : tAnd (LB K cc W ta) (LB K cc W tb) σV H Q := by
  obtain ⟨σ, F, Q1, E1, er, h, k, kx⟩ := h
  refine lb1 er h kx fun c σ1 H1 F1 hk e1 s1 => ?_
  cases c with
  | true =>
    rw [if_pos rfl] at hk ⊢
    exact lb1 e1 hk (fun cls d H' x => kx cls d H' (x.go s1)) fun c2 σ2 H2 F2 hq e2 s2 => k _ _ ⟨σ2, F2, hq, e2, s1.trans s2⟩
  | false =>
    rw [if_neg Bool.false_ne_true] at hk ⊢
    exact k _ _ ⟨σ1, F1, hk, e1, s1⟩
theorem orT_go {K : PySem.W.Frag} {ta tb : TB} {σV : L2.St} {H : Hp} {Q : Bool → Hp → Prop} (h : LB K cc W (fun σ Q E => ta σ (fun c σ1 => if c = true then Q true σ1 else tb σ1 Q E) E) σV H Q) : tOr (LB K cc W ta) (LB K cc W tb) σV H Q := by
  obtain ⟨σ, F, Q1, E1, er, h, k, kx⟩ := h
  refine lb1 er h kx fun c σ1 H1 F1 hk e1 s1 => ?_
  cases c with
  | true =>
    rw [if_pos rfl] at hk ⊢
    exact k _ _ ⟨σ1, F1, hk, e1, s1⟩
  | false =>
    rw [if_neg Bool.false_ne_true] at hk ⊢
    exact lb1 e1 hk (fun cls d H' x => kx cls d H' (x.go s1)) fun c2 σ2 H2 F2 hq e2 s2 => k _ _ ⟨σ2, F2, hq, e2, s1.trans s2⟩
theorem evT_and {ta tb : CT} : evT G Γ (.and ta tb) = fun σ Q E => evT G Γ ta σ (fun c σ1 => if c = true then evT G Γ tb σ1 Q E else Q false σ1) E := by funext σ Q E; simp only [evT]
theorem evT_or {ta tb : CT} : evT G Γ (.or ta tb) = fun σ Q E => evT G Γ ta σ (fun c σ1 => if c = true then Q true σ1 else evT G Γ tb σ1 Q E) E := by funext σ Q E; simp only [evT]
theorem qw_and1 {t : TB} (h : QT X cc W e t) : QW X cc W (.BoolOp .And [e] pos) t := ⟨pw_and1 h.pt⟩
theorem qw_or1 {t : TB} (h : QT X cc W e t) : QW X cc W (.BoolOp .Or [e] pos) t := ⟨pw_or1 h.pt⟩
theorem qw_and {ta tb : CT} {rest : List Expr} (ha : QT X cc W e1 (evT G Γ ta)) (hb : QW X cc W (.BoolOp .And (e2 :: rest) pos) (evT G Γ tb)) : QW X cc W (.BoolOp .And (e1 :: e2 :: rest) pos) (evT G Γ (.and ta tb)) :=
  ⟨PW.imp (pw_and ha.pt hb.pw) fun σV H Q h => andT_go (by rw [evT_and] at h; exact h)⟩
theorem qw_or {ta tb : CT} {rest : List Expr} (ha : QT X cc W e1 (evT G Γ ta)) (hb : QW X cc W (.BoolOp .Or (e2 :: rest) pos) (evT G Γ tb)) : QW X cc W (.BoolOp .Or (e1 :: e2 :: rest) pos) (evT G Γ (.or ta tb)) :=
  ⟨PW.imp (pw_or ha.pt hb.pw) fun σV H Q h => orT_go (by rw [evT_or] at h; exact h)⟩
theorem qt_not {ta : CT} (ha : QT X cc W e1 (evT G Γ ta)) : QT X cc W (.UnaryOp .Not e1 pos) (evT G Γ (.not ta)) :=
  ⟨PT.imp (pt_not ha.pt) fun σV H Q ⟨σ, F, Q1, E1, er, h, k, kx⟩ => by
    simp only [evT] at h
    exact lb1 er h kx fun c σ1 H1 F1 hk e1 s1 => k _ _ ⟨σ1, F1, hk, e1, s1⟩⟩
theorem qe_ife {t : CT} (ht : QT X cc W e1 (evT G Γ t)) (ha : QE X cc W e2 (ev G Γ a)) (hb : QE X cc W e3 (ev G Γ b)) : QE X cc W (.IfExp e1 e2 e3 pos) (ev G Γ (.ife t a b)) :=
  ⟨PE.imp (pe_ifExp ht.pt ha.pe hb.pe) fun σV H Q ⟨σ, F, Q1, E1, er, h, k, kx⟩ => by
    simp only [ev] at h
    refine lb1 er h kx fun c σ1 H1 F1 hk e1 s1 => ?_
    cases c with
    | true =>
      rw [if_pos rfl] at hk ⊢
      exact le1 e1 hk (fun cls d H' x => kx cls d H' (x.go s1)) fun y σ2 vy H2 F2 G2 hq e2 r2 d2 s2 => k _ _ ⟨y, σ2, F2, G2, hq, e2, r2, d2, s1.trans s2⟩
    | false =>
      rw [if_neg Bool.false_ne_true] at hk ⊢
      exact le1 e1 hk (fun cls d H' x => kx cls d H' (x.go s1)) fun y σ2 vy H2 F2 G2 hq e2 r2 d2 s2 => k _ _ ⟨y, σ2, F2, G2, hq, e2, r2, d2, s1.trans s2⟩⟩
end
end CP
namespace CP
open PySem PySem.Spec PyProof.Rows L2

/-! ### several values -/
def LMs (K : PySem.W.Frag) (cc : Str → Addr) (W : WX) (n : Nat) (t : TMs) : L2.TA := fun σV H Q => ∃ σ F Q1 E1, EnvR K H σ σV F ∧ t σ Q1 E1 ∧
  (∀ vs H', (∃ ms σ' F1 Gm, Q1 ms σ' ∧ vs.length = n ∧ EnvR K H' σ' σV F1 ∧ RepMs K H' ms vs Gm ∧ Disj F1 Gm ∧ Step H F H' (fpU F1 Gm)) → Q vs H') ∧ ∀ cls d H', PostX K cc H σV F E1 cls d H' → W cls d σV H'
def LAs (K : PySem.W.Frag) (cc : Str → Addr) (W : WX) (n : Nat) (t : TAs) : L2.TA := fun σV H Q => ∃ σ F Q1 E1, EnvR K H σ σV F ∧ t σ Q1 E1 ∧
  (∀ vs H', (∃ ms σ' F1 Gm, Q1 ms σ' ∧ vs.length = n ∧ EnvR K H' σ' σV F1 ∧ ARep K H' σV ms vs Gm ∧ Disj F1 Gm ∧ Step H F H' (fpU F1 Gm)) → Q vs H') ∧ ∀ cls d H', PostX K cc H σV F E1 cls d H' → W cls d σV H'
theorem imsOf_ok {K : PySem.W.Frag} {H : Hp} : ∀ {ms : List M} {vs : List V} {F : FP} {ds : List D}, RepMs K H ms vs F → imsOf ms = some ds → RepDs K H ds vs ∧ F = fpE
  | [], vs, F, ds, r, e => by
    simp only [RepMs] at r
    simp only [imsOf, Option.some.injEq] at e
    subst e
    exact ⟨by simp only [RepDs]; exact r.1, r.2⟩
  | m :: ms, vs, F, ds, r, e => by
    simp only [RepMs] at r
    obtain ⟨v, vr, F1, F2, rfl, r1, r2, d, rfl⟩ := r
    cases m <;> simp only [imsOf] at e <;> first | (cases e; done) | skip
    rename_i x
    obtain ⟨ds', h, rfl⟩ := Option.map_eq_some_iff.mp e
    obtain ⟨rd, rfl⟩ := repM_imI.mp r1
    obtain ⟨rds, rfl⟩ := imsOf_ok r2 h
    exact ⟨by simp only [RepDs]; exact ⟨v, vr, rfl, rd, rds⟩, fp_ext fun a => ⟨fun z => z.elim id id, fun z => z.elim⟩⟩
theorem RepMs.hold : ∀ {K : PySem.W.Frag} {H H1 : Hp} {ms : List M} {vs : List V} {F F1 G : FP}, RepMs K H ms vs G → (∀ a, F a → Mut (H a)) → Disj F G → Step H F H1 F1 → RepMs K H1 ms vs G ∧ Disj F1 G := by
  intro K H H1 ms vs F F1 G r mu d s
  refine ⟨keepMs (s.keepOf mu) ms vs G (fun a ha => ?_) r, fun a h1 h2 => ?_⟩
  · obtain ⟨u, hu⟩ := not_mut_none (mutMs ms vs G r a ha)
    rw [hu]; exact s.frame a u hu fun z => d a z ha
  · obtain ⟨u, hu⟩ := not_mut_none (mutMs ms vs G r a h2)
    rcases s.new a h1 with z | z
    · exact d a z h2
    · rw [hu] at z; cases z
theorem RepMs.ext {K : PySem.W.Frag} {H H' : Hp} {ms : List M} {vs : List V} {G G1 : FP} (r : RepMs K H ms vs G) (x : Ext H H' G1) : RepMs K H' ms vs G ∧ Disj G G1 := by
  refine ⟨keepMs x.toKeep ms vs G (fun a ha => ?_) r, fun a ha hg => ?_⟩
  · obtain ⟨u, hu⟩ := not_mut_none (mutMs ms vs G r a ha)
    rw [hu]; exact x.keep a u hu
  · obtain ⟨u, hu⟩ := not_mut_none (mutMs ms vs G r a ha)
    have := x.new a hg
    rw [hu] at this; cases this
theorem fpU_E {F : FP} : fpU F fpE = F := fp_ext fun a => ⟨fun z => z.elim id fun z => z.elim, .inl⟩
theorem fzs_ok {K : PySem.W.Frag} {H : Hp} : ∀ {ms : List M} {vs : List V} {F : FP} {ds : List D}, RepMs K H ms vs F → fzs ms = some ds → RepDs K H ds vs ∧ F = fpE
  | [], vs, F, ds, r, e => by
    simp only [RepMs] at r
    simp only [fzs, Option.some.injEq] at e
    subst e
    exact ⟨by simp only [RepDs]; exact r.1, r.2⟩
  | m :: ms, vs, F, ds, r, e => by
    simp only [RepMs] at r
    obtain ⟨v, vr, F1, F2, rfl, r1, r2, d, rfl⟩ := r
    simp only [fzs] at e
    obtain ⟨x, hx, e⟩ := Option.bind_eq_some_iff.mp e
    obtain ⟨ds', h, rfl⟩ := Option.map_eq_some_iff.mp e
    cases m <;> simp only [fzM, Option.some.injEq] at hx <;> first | (cases hx; done) | skip
    subst hx
    obtain ⟨rd, rfl⟩ := repM_imI.mp r1
    obtain ⟨rds, rfl⟩ := fzs_ok r2 h
    exact ⟨by simp only [RepDs]; exact ⟨v, vr, rfl, rd, rds⟩, fp_ext fun a => ⟨fun z => z.elim id id, fun z => z.elim⟩⟩
section
variable {X : Cx} {cc : Str → Addr} {W : WX} {G : Glob} {Γ : Nat → Sp} {e e1 e2 e3 : Expr} {a b c : CE} {pos : Pos} {es : List Expr} {rs : CEs} {n : Nat}
theorem la_nil {K : PySem.W.Frag} : ∀ σV H Q, LAs K cc W 0 (evA G Γ .nil) σV H Q → tNil σV H Q := fun σV H Q ⟨σ, F, Q1, E1, er, h, k, kx⟩ => by
  simp only [evA] at h
  exact k [] H ⟨[], σ, F, fpE, h, rfl, er, ⟨rfl, rfl⟩, fun _ _ z => z, by rw [fpU_E]; exact Step.refl⟩
theorem la_var {K : PySem.W.Frag} {i : Nat} : ∀ σV H Q, LAs K cc W (n + 1) (evA G Γ (.cons (.v i) rs)) σV H Q → tCons (tVar i) (LAs K cc W n (evA G Γ rs)) σV H Q := fun σV H Q ⟨σ, F, Q1, E1, er, h, k, kx⟩ => by
  simp only [evA] at h
  obtain ⟨m, hm, h⟩ := slot_ok h
  obtain ⟨v, _, hv, _, _⟩ := er.look hm
  refine ⟨v, hv, σ, F, _, E1, er, h, fun vs H2 ⟨l, σ2, F2, G2, hq, hl, e2, r2, d2, s2⟩ => ?_, kx⟩
  exact k _ _ ⟨.inl i :: l, σ2, F2, G2, hq, congrArg (· + 1) hl, e2, ⟨v, vs, rfl, hv, r2⟩, d2, s2⟩
theorem evA_ne (ha : ∀ i, a ≠ .v i) : evA G Γ (.cons a rs) = fun σ Q E => ev G Γ a σ (fun m σ1 => evA G Γ rs σ1 (fun l σ2 => Q (.inr m :: l) σ2) E) E := by
  funext σ Q E
  simp only [evA]
theorem la_cons {K : PySem.W.Frag} (ha : ∀ i, a ≠ .v i) : ∀ σV H Q, LAs K cc W (n + 1) (evA G Γ (.cons a rs)) σV H Q → tCons (LE K cc W (ev G Γ a)) (LAs K cc W n (evA G Γ rs)) σV H Q := fun σV H Q ⟨σ, F, Q1, E1, er, h, k, kx⟩ => by
  rw [evA_ne ha] at h
  refine le1 er h kx fun x σ1 vx H1 F1 G1 hk e1 r1 d1 s1 => ?_
  refine ⟨σ1, F1, _, E1, e1, hk, fun vs H2 ⟨l, σ2, F2, G2, hq, hl, e2, r2, d2, s2⟩ => ?_, fun cls d H' x => kx cls d H' (x.go s1.dropR)⟩
  obtain ⟨r1', dd⟩ := r1.hold e1.mut d1 s2
  refine k _ _ ⟨.inr x :: l, σ2, F2, fpU G1 G2, hq, congrArg (· + 1) hl, e2, ⟨vx, vs, G1, G2, rfl, r1', r2, fun a z w => dd a (.inr w) z, rfl⟩, fun a z w => ?_, ?_⟩
  · rcases w with w | w
    · exact dd a (.inl z) w
    · exact d2 a z w
  · refine (s1.trans (s2.more (G := G1))).sub fun a z => ?_
    rcases z with z | z | z
    · exact .inl (.inl z)
    · exact .inr z
    · exact .inl (.inr z)

theorem qa_nil : PA X [] (LAs X.K cc W 0 (evA G Γ .nil)) := PA.imp pa_nil la_nil
theorem qa_var {i : Nat} (h1 : PE X e (tVar i)) (h2 : PA X es (LAs X.K cc W n (evA G Γ rs))) (s : starEach (e :: es) X.env = (false, eval e X.env) :: starEach es X.env) : PA X (e :: es) (LAs X.K cc W (n + 1) (evA G Γ (.cons (.v i) rs))) := PA.imp (pa_cons h1 h2 s) la_var
theorem qa_cons (ha : ∀ i, a ≠ .v i) (h1 : QE X cc W e (ev G Γ a)) (h2 : PA X es (LAs X.K cc W n (evA G Γ rs))) (s : starEach (e :: es) X.env = (false, eval e X.env) :: starEach es X.env) : PA X (e :: es) (LAs X.K cc W (n + 1) (evA G Γ (.cons a rs))) := PA.imp (pa_cons h1.pe h2 s) (la_cons ha)
theorem PK.imp {kws : List Keyword} {t t' : L2.TA} (h : PK X kws t) (i : ∀ σ H Q, t' σ H Q → t σ H Q) : PK X kws t' := ⟨fun pos pins s σ H Q I hw => h.run pos pins s σ H Q I (i _ _ _ hw)⟩
theorem qk_nil : PK X [] (LAs X.K cc W 0 (evA G Γ .nil)) := PK.imp pk_nil la_nil
theorem qk_var {i : Nat} {nm : Option Str} {kpos : Pos} {kws : List Keyword} (h1 : PE X e (tVar i)) (h2 : PK X kws (LAs X.K cc W n (evA G Γ rs))) : PK X (⟨nm, e, kpos⟩ :: kws) (LAs X.K cc W (n + 1) (evA G Γ (.cons (.v i) rs))) := PK.imp (pk_cons h1 h2) la_var
theorem qk_cons {nm : Option Str} {kpos : Pos} {kws : List Keyword} (ha : ∀ i, a ≠ .v i) (h1 : QE X cc W e (ev G Γ a)) (h2 : PK X kws (LAs X.K cc W n (evA G Γ rs))) : PK X (⟨nm, e, kpos⟩ :: kws) (LAs X.K cc W (n + 1) (evA G Γ (.cons a rs))) := PK.imp (pk_cons h1.pe h2) (la_cons ha)

theorem repOf {K : PySem.W.Frag} {H : Hp} : ∀ {ms : List M} {vs : List V} {F : FP}, ms.length = vs.length → EnvR K H (ms.map some) (vs.map some) F → RepMs K H ms vs F
  | [], [], F, _, e => by
    have : F = fpE := fp_ext fun a => ⟨fun z => by
      obtain ⟨Fs, _, _, h3, _, h5⟩ := e
      obtain ⟨j, hj⟩ := (h5 a).mp z
      obtain ⟨m, hm⟩ := h3 j a hj
      simp at hm, fun z => z.elim⟩
    simp only [RepMs]
    exact ⟨trivial, this⟩
  | m :: ms, v :: vs, F, hl, e => by
    obtain ⟨F1, G, e1, r, rn, d, rfl⟩ := EnvR.uncons (o := some m) (ov := some v) (σ := ms.map some) (σV := vs.map some) e
    obtain ⟨v', ev, r⟩ := r m rfl
    cases ev
    simp only [RepMs]
    refine ⟨v, vs, G, F1, rfl, r, repOf (by simpa using hl) e1, fun a z w => d a w z, fp_ext fun a => ⟨fun z => z.elim .inr .inl, fun z => z.elim .inr .inl⟩⟩
  | [], _ :: _, _, hl, _ => by simp at hl
  | _ :: _, [], _, hl, _ => by simp at hl
theorem takeA_len : ∀ {l : List Arg} {σ : Env} {ms : List M} {σ2 : Env}, takeA l σ = some (ms, σ2) → ms.length = l.length
  | [], σ, ms, σ2, h => by simp only [takeA, Option.some.injEq, Prod.mk.injEq] at h; exact h.1 ▸ rfl
  | .inl i :: l, σ, ms, σ2, h => by
    simp only [takeA] at h
    split at h
    · obtain ⟨⟨a, b⟩, h1, h2⟩ := Option.map_eq_some_iff.mp h
      simp only [Prod.mk.injEq] at h2
      rw [← h2.1, List.length_cons, List.length_cons, takeA_len h1]
    · cases h
  | .inr m :: l, σ, ms, σ2, h => by
    simp only [takeA] at h
    obtain ⟨⟨a, b⟩, h1, h2⟩ := Option.map_eq_some_iff.mp h
    simp only [Prod.mk.injEq] at h2
    rw [← h2.1, List.length_cons, List.length_cons, takeA_len h1]
theorem ARep.len0 {K : PySem.W.Frag} {H : Hp} {σV : L2.St} : ∀ {l : List Arg} {vs : List V} {F : FP}, ARep K H σV l vs F → l.length = vs.length
  | [], _, _, h => by rw [h.1]; rfl
  | .inl i :: l, _, _, h => by
    obtain ⟨v, r, rfl, _, h⟩ := h
    simp [ARep.len0 h]
  | .inr m :: l, _, _, h => by
    obtain ⟨v, r, F1, F2, rfl, _, h, _⟩ := h
    simp [ARep.len0 h]
/-- the named ones are taken when all are there -/
theorem takeK_ok {K : PySem.W.Frag} {H H1 : Hp} {σ1 : Env} {σV : L2.St} {F F1 G1 : FP} {l : List Arg} {vs : List V} {k : List M → Env → Prop} (hq : takeK l σ1 k) (e1 : EnvR K H1 σ1 σV F1) (r1 : ARep K H1 σV l vs G1) (d1 : Disj F1 G1) (s1 : Step H F H1 (fpU F1 G1)) :
    ∃ ms σ2 F2 Gm, k ms σ2 ∧ ms.length = vs.length ∧ EnvR K H1 σ2 σV F2 ∧ RepMs K H1 ms vs Gm ∧ Disj F2 Gm ∧ Step H F H1 (fpU F2 Gm) := by
  unfold takeK at hq
  split at hq
  · rename_i ms σ2 ht
    obtain ⟨F2, Fm, e2, em, d2, sF, sm⟩ := takeA_ok e1 r1 d1 ht
    have hl : ms.length = vs.length := (takeA_len ht).trans r1.len0
    exact ⟨ms, σ2, F2, Fm, hq, hl, e2, repOf hl em, d2, s1.sub fun a z => z.elim (fun z => .inl (sF a z)) (sm a)⟩
  · exact hq.elim
theorem qm_of (h : PA X es (LAs X.K cc W n (evA G Γ rs))) : PA X es (LMs X.K cc W n (evs G Γ rs)) := PA.imp h fun σV H Q ⟨σ, F, Q1, E1, er, h, k, kx⟩ => by
  refine ⟨σ, F, _, E1, er, h, fun vs H1 ⟨l, σ1, F1, G1, hq, hl, e1, r1, d1, s1⟩ => ?_, kx⟩
  obtain ⟨ms, σ2, F2, Gm, q, hml, e2, rm, d2, s2⟩ := takeK_ok hq e1 r1 d1 s1
  exact k _ _ ⟨ms, σ2, F2, Gm, q, hl, e2, rm, d2, s2⟩

/-! ### displays -/
theorem qe_tup {x1 : Nat} (h : PA X es (LMs X.K cc W n (evs G Γ rs))) (hn : n ≤ 1000) : QE X cc W (.Tuple es x1 pos) (ev G Γ (.tup rs)) :=
  ⟨PE.imp (pe_tup h) fun σV H Q ⟨σ, F, Q1, E1, er, h, k, kx⟩ => by
  simp only [ev] at h
  refine ⟨σ, F, _, E1, er, h, fun vs H1 ⟨ms, σ1, F1, G1, hq, hl, e1, r1, d1, s1⟩ => ?_, kx⟩
  split at hq
  · rename_i ds hds
    obtain ⟨rds, rfl⟩ := fzs_ok r1 hds
    refine ⟨by rw [hl]; exact Nat.le_of_lt (small1000 hn), fun p hp => ?_⟩
    have x := Ext.upd (o := .tup vs) hp
    refine k _ _ ⟨_, σ1, F1, fpE, hq, (e1.ext x).1, repM_im (rep_tup.mpr ⟨p, vs, rfl, upd_same, keepDs x.toKeep _ _ rds⟩), fun _ _ z => z, ?_⟩
    refine (s1.trans x.step).sub fun a z => ?_
    rcases z with z | z
    · exact .inl (.inl z)
    · exact z.elim
  · exact hq.elim⟩
theorem mkL_ok {K : PySem.W.Frag} {H : Hp} {ms : List M} {vs : List V} {G1 : FP} (r : RepMs K H ms vs G1) {p : Addr} (hp : H p = none) : ∃ Gz, RepM K (upd H p (.lst vs)) (mkL ms) (.ref p) Gz ∧ ∀ a, Gz a → G1 a ∨ a = p := by
  have x := Ext.upd (o := .lst vs) hp
  unfold mkL
  split
  · rename_i ds hds
    obtain ⟨rds, rfl⟩ := imsOf_ok r hds
    exact ⟨fpI p fpE, repM_lst.mpr ⟨p, vs, rfl, upd_same, keepDs x.toKeep _ _ rds, rfl⟩, fun a z => z.elim .inr fun z => z.elim⟩
  · refine ⟨fpI p G1, repM_nst.mpr ⟨p, vs, G1, rfl, upd_same, (r.ext x).1, fun z => (r.ext x).2 p z (.inl rfl), rfl⟩, fun a z => z.elim .inr .inl⟩
theorem qe_lst (h : PA X es (LMs X.K cc W n (evs G Γ rs))) (hn : n ≤ 1000) : QE X cc W (.List es pos) (ev G Γ (.lst rs)) :=
  ⟨PE.imp (pe_lst h) fun σV H Q ⟨σ, F, Q1, E1, er, h, k, kx⟩ => by
  simp only [ev] at h
  refine ⟨σ, F, _, E1, er, h, fun vs H1 ⟨ms, σ1, F1, G1, hq, hl, e1, r1, d1, s1⟩ => ?_, kx⟩
  refine ⟨by rw [hl]; exact Nat.le_of_lt (small1000 hn), fun p hp => ?_⟩
  have x := Ext.upd (o := .lst vs) hp
  obtain ⟨Gz, rz, sz⟩ := mkL_ok r1 hp
  refine k _ _ ⟨_, σ1, F1, Gz, hq, (e1.ext x).1, rz, fun a z w => ?_, ?_⟩
  · rcases sz a w with w | rfl
    · exact d1 a z w
    · exact (e1.ext x).2 a z (.inl rfl)
  · refine (s1.trans x.step).sub fun a z => ?_
    rcases z with z | z
    · exact .inl (.inl z)
    · rcases sz a z with z | z
      · exact .inl (.inr z)
      · exact .inr (.inl z)⟩
theorem qe_dnK : QE X cc W (.Dict [] [] pos) (ev G Γ (.dnew false)) :=
  ⟨PE.imp pe_dnewK fun σV H Q ⟨σ, F, Q1, E1, er, h, k, kx⟩ p hp => by
  simp only [ev, Bool.false_eq_true, if_false] at h
  have x := Ext.upd (o := .dK []) hp
  exact k _ _ ⟨_, σ, F, fpI p fpE, h, (er.ext x).1, repM_dct.mpr ⟨p, [], rfl, upd_same, by simp only [RepKs], rfl⟩, (er.ext x).2, x.step⟩⟩
theorem qe_dnT : QE X cc W (.Dict [] [] pos) (ev G Γ (.dnew true)) :=
  ⟨PE.imp pe_dnewT fun σV H Q ⟨σ, F, Q1, E1, er, h, k, kx⟩ p hp => by
  simp only [ev, if_true] at h
  have x := Ext.upd (o := .dT []) hp
  exact k _ _ ⟨_, σ, F, fpI p fpE, h, (er.ext x).1, repM_dcT.mpr ⟨p, [], rfl, upd_same, by simp only [RepKs], rfl⟩, (er.ext x).2, x.step⟩⟩
end
end CP
namespace CP
open PySem PySem.Spec PyProof.Rows L2

/-! ### arguments in another order -/
def AR2 (K : PySem.W.Frag) (H : Hp) (σV : L2.St) : List (Arg × V) → FP → Prop
  | [], F => F = fpE
  | (.inl i, v) :: l, F => σV[i]? = some (some v) ∧ AR2 K H σV l F
  | (.inr m, v) :: l, F => ∃ F1 F2, RepM K H m v F1 ∧ AR2 K H σV l F2 ∧ Disj F1 F2 ∧ F = fpU F1 F2
section
variable {K : PySem.W.Frag} {H : Hp} {σV : L2.St}
theorem ARep.len : ∀ {l : List Arg} {vs : List V} {F : FP}, ARep K H σV l vs F → l.length = vs.length
  | [], _, _, h => by rw [h.1]; rfl
  | .inl i :: l, _, _, h => by
    obtain ⟨v, r, rfl, _, h⟩ := h
    simp [ARep.len h]
  | .inr m :: l, _, _, h => by
    obtain ⟨v, r, F1, F2, rfl, _, h, _⟩ := h
    simp [ARep.len h]
theorem ARep.to2 : ∀ {l : List Arg} {vs : List V} {F : FP}, ARep K H σV l vs F → AR2 K H σV (l.zip vs) F
  | [], _, _, h => by simpa [AR2] using h.2
  | .inl i :: l, _, _, h => by
    obtain ⟨v, r, rfl, hv, h⟩ := h
    exact ⟨hv, ARep.to2 h⟩
  | .inr m :: l, _, _, h => by
    obtain ⟨v, r, F1, F2, rfl, r1, h, d, rfl⟩ := h
    exact ⟨F1, F2, r1, ARep.to2 h, d, rfl⟩
theorem AR2.of : ∀ {ps : List (Arg × V)} {F : FP}, AR2 K H σV ps F → ARep K H σV (ps.map (·.1)) (ps.map (·.2)) F
  | [], _, h => ⟨rfl, h⟩
  | (.inl i, v) :: l, _, h => ⟨v, _, rfl, h.1, AR2.of h.2⟩
  | (.inr m, v) :: l, _, h => by
    obtain ⟨F1, F2, r1, h, d, rfl⟩ := h
    exact ⟨v, _, F1, F2, rfl, r1, AR2.of h, d, rfl⟩
theorem AR2.perm {ps qs : List (Arg × V)} (p : ps.Perm qs) : ∀ {F : FP}, AR2 K H σV ps F → AR2 K H σV qs F := by
  induction p with
  | nil => exact id
  | @cons x l1 l2 _ ih =>
    intro F h
    obtain ⟨x1, v⟩ := x
    cases x1 with
    | inl i => exact ⟨h.1, ih h.2⟩
    | inr m => exact let ⟨F1, F2, r1, h, d, e⟩ := h; ⟨F1, F2, r1, ih h, d, e⟩
  | swap x y l =>
    intro F h
    obtain ⟨x1, v⟩ := x
    obtain ⟨y1, w⟩ := y
    cases x1 with
    | inl i =>
      cases y1 with
      | inl j => exact ⟨h.2.1, h.1, h.2.2⟩
      | inr m =>
        obtain ⟨F1, F2, r1, h, d, e⟩ := h
        exact ⟨h.1, F1, F2, r1, h.2, d, e⟩
    | inr n =>
      cases y1 with
      | inl j =>
        obtain ⟨hj, F1, F2, r1, h, d, e⟩ := h
        exact ⟨F1, F2, r1, ⟨hj, h⟩, d, e⟩
      | inr m =>
        obtain ⟨F1, F2, r1, ⟨F3, F4, r3, h, d2, rfl⟩, d, rfl⟩ := h
        refine ⟨F3, fpU F1 F4, r3, ⟨F1, F4, r1, h, fun a z w => d a z (.inr w), rfl⟩, fun a z w => ?_, fp_ext fun a => ?_⟩
        · rcases w with w | w
          · exact d a w (.inl z)
          · exact d2 a z w
        · constructor
          · rintro (z | z | z)
            · exact .inr (.inl z)
            · exact .inl z
            · exact .inr (.inr z)
          · rintro (z | z | z)
            · exact .inr (.inl z)
            · exact .inl z
            · exact .inr (.inr z)
  | trans _ _ i1 i2 => exact fun h => i2 (i1 h)
theorem fm_range {α : Type} (l : List α) : (List.range l.length).filterMap (fun i => l[i]?) = l := by
  induction l with
  | nil => rfl
  | cons a l ih =>
    rw [List.length_cons, List.range_succ_eq_map, List.filterMap_cons, List.filterMap_map]
    simp only [List.getElem?_cons_zero]
    exact congrArg (a :: ·) ih
theorem zip_get {α β : Type} : ∀ {l : List α} {k : List β} (i : Nat), l.length = k.length → (l.zip k)[i]? = (l[i]?).bind fun a => (k[i]?).map fun b => (a, b)
  | [], [], i, _ => by simp
  | a :: l, b :: k, 0, _ => by simp
  | a :: l, b :: k, i + 1, h => by simpa using zip_get (l := l) (k := k) i (by simpa using h)
  | [], _ :: _, _, h => by simp at h
  | _ :: _, [], _, h => by simp at h
def pick {α : Type} (perm : List Nat) (l : List α) : List α := perm.filterMap fun i => l[i]?
theorem pick_zip {α β : Type} {l : List α} {k : List β} (h : l.length = k.length) : ∀ perm : List Nat, (pick perm (l.zip k)).map (·.1) = pick perm l ∧ (pick perm (l.zip k)).map (·.2) = pick perm k
  | [] => ⟨rfl, rfl⟩
  | i :: r => by
    obtain ⟨h1, h2⟩ := pick_zip h r
    unfold pick at h1 h2 ⊢
    rw [List.filterMap_cons, List.filterMap_cons, List.filterMap_cons, zip_get i h]
    cases q : l[i]? with
    | none =>
      have : k[i]? = none := by rw [List.getElem?_eq_none_iff] at q ⊢; omega
      rw [this]
      exact ⟨h1, h2⟩
    | some a =>
      have : ∃ b, k[i]? = some b := by
        have := (List.getElem?_eq_some_iff.mp q).1
        exact ⟨k[i], List.getElem?_eq_getElem (by omega)⟩
      obtain ⟨b, hb⟩ := this
      rw [hb]
      exact ⟨congrArg (a :: ·) h1, congrArg (b :: ·) h2⟩
theorem ARep.pick {l : List Arg} {vs : List V} {F : FP} {perm : List Nat} (h : ARep K H σV l vs F) (p : perm.Perm (List.range l.length)) : ARep K H σV (CP.pick perm l) (CP.pick perm vs) F := by
  have e := h.len
  have h2 := h.to2
  have q : (CP.pick perm (l.zip vs)).Perm (l.zip vs) := by
    have hl : (l.zip vs).length = l.length := by simp [e]
    have := p.filterMap fun i => (l.zip vs)[i]?
    rw [← hl, fm_range] at this
    exact this
  have h3 := (AR2.perm q.symm h2).of
  obtain ⟨e1, e2⟩ := pick_zip e perm
  rw [e1, e2] at h3
  exact h3
theorem ARep.app : ∀ {l l2 : List Arg} {vs vs2 : List V} {F F2 : FP}, ARep K H σV l vs F → ARep K H σV l2 vs2 F2 → Disj F F2 → ARep K H σV (l ++ l2) (vs ++ vs2) (fpU F F2)
  | [], l2, _, vs2, _, F2, h, h2, d => by
    obtain ⟨rfl, rfl⟩ := h
    rw [show fpU fpE F2 = F2 from fp_ext fun a => ⟨fun z => z.elim (fun z => z.elim) id, .inr⟩]
    exact h2
  | .inl i :: l, l2, _, vs2, _, F2, h, h2, d => by
    obtain ⟨v, r, rfl, hv, h⟩ := h
    exact ⟨v, _, rfl, hv, ARep.app h h2 d⟩
  | .inr m :: l, l2, _, vs2, _, F2, h, h2, d => by
    obtain ⟨v, r, F1, F3, rfl, r1, h, d1, rfl⟩ := h
    refine ⟨v, _, F1, fpU F3 F2, rfl, r1, ARep.app h h2 (fun a z w => d a (.inr z) w), fun a z w => ?_, fp_ext fun a => ?_⟩
    · rcases w with w | w
      · exact d1 a z w
      · exact d a (.inl z) w
    · constructor
      · rintro ((z | z) | z)
        · exact .inl z
        · exact .inr (.inl z)
        · exact .inr (.inr z)
      · rintro (z | z | z)
        · exact .inl (.inl z)
        · exact .inl (.inr z)
        · exact .inr z
end

/-! ### calls -/
section
variable {X : Cx} {cc : Str → Addr} {W : WX} {G : Glob} {Γ : Nat → Sp} {e e1 e2 e3 : Expr} {a b c : CE} {pos p : Pos} {es : List Expr} {rs : CEs} {n : Nat} {f : Nat}
theorem call_go {K : PySem.W.Frag} {H H1 : Hp} {σ1 : Env} {σV : L2.St} {F F1 G1 : FP} {sp : Sp} {l : List Arg} {vs : List V} {Q : VK} {Q1 : QM} {E1 : QX} (n : Nat) (hn : vs.length = n) (hq : callA sp l σ1 Q1 E1) (e1 : EnvR K H1 σ1 σV F1) (r1 : ARep K H1 σV l vs G1) (d1 : Disj F1 G1) (s1 : Step H F H1 (fpU F1 G1))
    (k : ∀ v H', Post K H σV F Q1 v H' → Q v H') (kx : ∀ cls d H', PostX K cc H σV F E1 cls d H' → W cls d σV H') : toSp K cc n sp vs H1 Q (WE W σV) := by
  unfold callA at hq
  split at hq
  · rename_i ms σ2 ht
    obtain ⟨F2, Fm, e2, em, d2, sF, sm⟩ := takeA_ok e1 r1 d1 ht
    have s2 : Step H F H1 (fpU F2 Fm) := s1.sub fun a z => by
      rcases z with z | z
      · exact .inl (sF a z)
      · exact sm a z
    have fr : ∀ {H2 F3}, Step H1 Fm H2 F3 → EnvR K H2 σ2 σV F2 ∧ Disj F2 F3 := fun {H2 F3} st => by
      refine ⟨e2.keep (st.keepOf em.mut) fun a ha => ?_, fun a z w => ?_⟩
      · obtain ⟨u, hu⟩ := not_mut_none (e2.mut a ha)
        rw [hu]; exact st.frame a u hu fun w => d2 a ha w
      · rcases st.new a w with w | w
        · exact d2 a z w
        · obtain ⟨u, hu⟩ := not_mut_none (e2.mut a z)
          rw [hu] at w; cases w
    have tot : ∀ {H2 F3}, Step H1 Fm H2 F3 → Step H F H2 (fpU F2 F3) := fun {H2 F3} st => by
      refine s2.trans ⟨fun a o h n => st.frame a o h fun w => n (.inr w), fun a z => ?_⟩
      rcases z with z | z
      · exact .inl (.inl z)
      · exact (st.new a z).imp .inr id
    refine ⟨hn, ms, Fm, _, _, em, hq, fun v H2 ⟨m, os, F3, G3, hq2, e3, r3, d3, s3⟩ => ?_, fun cls d H2 ⟨x, os, F3, hx, e3, s3, xr⟩ => ?_⟩
    · obtain ⟨e4, d4⟩ := fr s3
      obtain ⟨F5, e5, s5⟩ := putA_ok (ms := ms) e4 e3 r1.names (fun a z w => d4 a z (.inl w))
      refine k v H2 ⟨m, _, F5, G3, hq2, e5, r3, fun a z w => ?_, (tot s3).sub fun a z => ?_⟩
      · rcases s5 a z with z | z
        · exact d4 a z (.inr w)
        · exact d3 a z w
      · rcases z with z | z
        · exact (s5 a z).imp id .inl
        · exact .inr (.inr z)
    · obtain ⟨e4, d4⟩ := fr s3
      obtain ⟨F5, e5, s5⟩ := putA_ok (ms := ms) e4 e3 r1.names (fun a z w => d4 a z w)
      exact kx cls d H2 ⟨x, _, F5, hx, e5, (tot s3).sub fun a z => s5 a z, xr⟩
  · exact hq.elim
variable {kk : Nat} {fa : Addr} {fd : FuncData} {ps : List Str} {x : Str}
theorem qe_call (F : FnOk X.prog X.w X.K X.mg X.base (L2.CX X.prog X.w) kk fa fd ps (toSp X.K cc n (Γ f))) (hr : Room kk X.A) (tk : Takes X W) (hg : Gl X x) (hm : X.mg x = some (.ref fa)) (hk : PySem.W.keepIn X.K (.ref fa) = true) (hb : Binds X.K fd ps [])
    (ha : PA X (e :: es) (LAs X.K cc W n (evA G Γ rs))) (hdb : (x == ("__debug__" : Str)) = false) (he : starEach (e :: es) X.env = (false, eval e X.env) :: starEach es X.env) (hpl : (backTo pos (starEach es X.env)).any (·.1) = false) :
    QE X cc W (.Call (.Name x p) (e :: es) [] pos) (ev G Γ (.call f rs)) :=
  ⟨PE.imp (pe_callS (E := WE W) F hr hg hm hk hb (fun σ => passAt tk σ) ha hdb he hpl) fun σV H Q ⟨σ, F, Q1, E1, er, h, k, kx⟩ => by
  simp only [ev] at h
  exact ⟨σ, F, _, E1, er, h, fun vs H1 ⟨l, σ1, F1, G1, hq, hl, e1, r1, d1, s1⟩ => call_go n hl hq e1 r1 d1 s1 k kx, kx⟩⟩

/-- how a call with keywords binds: n positional values, the names ks -/
def KB (K : PySem.W.Frag) (fd : FuncData) (ps : List Str) (n : Nat) (ks : List Str) (perm : List Nat) : Prop :=
  ∀ (s : Shared) (us ws : List Value), K.In s.heap → us.length = n → ws.length = ks.length → BindsTo s fd ⟨us, ks.zip ws⟩ (ps.zip (pick perm (us ++ ws)))
theorem Vals.pick {vs : List V} {us : List Value} (r : Vals vs us) : ∀ perm : List Nat, Vals (CP.pick perm vs) (CP.pick perm us)
  | [] => .nil
  | i :: p => by
    have ih := Vals.pick r p
    unfold CP.pick at ih ⊢
    rw [List.filterMap_cons, List.filterMap_cons]
    cases q : vs[i]? with
    | none =>
      rw [Vals.none_of r q]
      exact ih
    | some v =>
      obtain ⟨u, hu, ru⟩ := Vals.get r q
      rw [hu]
      exact .cons ru ih
theorem run_k {pins : List (Addr × Obj)} {σ : L2.St} {H : Hp} {s : Shared} {Q : VK} {us ws : List Value} {vs zs : List V} {sp : L2.Sp} {ks : List Str} {perm : List Nat} (F : FnOk X.prog X.w X.K X.mg X.base (L2.CX X.prog X.w) kk fa fd ps sp) (hr : Room kk X.A) (hb : KB X.K fd ps n ks perm) (tk : Takes X W)
    (I : Inv X pins σ H s) (r : Vals vs us) (rz : Vals zs ws) (hn : vs.length = n) (hz : zs.length = ks.length) (h : sp (pick perm (vs ++ zs)) H Q (WE W σ)) : wpAny (model X.prog X.w) X.A (call (.ref fa) us (ks.zip ws)) (EP X pins σ Q) X.xe s := by
  have r2 : Vals (pick perm (vs ++ zs)) (pick perm (us ++ ws)) := Vals.pick (r.append rz) perm
  refine wpAny_call (codeAny_mono (F.run X.A X.stack s H ⟨us, ks.zip ws⟩ (pick perm (us ++ ws)) (pick perm (vs ++ zs)) Q (WE W σ) hr I.env0 (hb s us ws I.kIn (by rw [← r.length]; exact hn) (by rw [← rz.length]; exact hz)) r2 h) fun r s' hq => ?_)
  cases r with
  | error e => exact passAt tk σ pins H s e s' I hq
  | ok fl =>
    cases fl with
    | ret u => exact I.after hq
    | next => exact False.elim hq
    | brk => exact False.elim hq
    | cont => exact False.elim hq
theorem callk_go {K : PySem.W.Frag} {perm : List Nat} {n2 : Nat} {sp : Sp} {rs2 : CEs} {σV : L2.St} {H : Hp} {Q : VK} (hp : perm.Perm (List.range (n + n2))) (h : LE K cc W (fun σ Q E => evA G Γ rs σ (fun l σ1 => evA G Γ rs2 σ1 (fun l2 σ2 => callA sp (perm.filterMap fun i => (l ++ l2)[i]?) σ2 Q E) E) E) σV H Q) :
    LAs K cc W n (evA G Γ rs) σV H fun vs H1 => vs.length = n ∧ LAs K cc W n2 (evA G Γ rs2) σV H1 fun zs H2 => zs.length = n2 ∧ toSp K cc (n + n2) sp (pick perm (vs ++ zs)) H2 Q (WE W σV) := by
  obtain ⟨σ, F, Q1, E1, er, h, k, kx⟩ := h
  refine ⟨σ, F, _, E1, er, h, fun vs H1 ⟨l, σ1, F1, G1, hq, hl, e1, r1, d1, s1⟩ => ⟨hl, ?_⟩, kx⟩
  refine ⟨σ1, F1, _, E1, e1, hq, fun zs H2 ⟨l2, σ2, F2, G2, hq2, hl2, e2, r2, d2, s2⟩ => ⟨hl2, ?_⟩, fun cls d H' x => kx cls d H' (x.go s1.dropR)⟩
  have r1' := r1.hold e1.mut d1 s2
  have dd := r1.disj d1 s2
  have ra := r1'.app r2 (fun a z w => dd a (.inr w) z)
  have len : (l ++ l2).length = n + n2 := by rw [List.length_append, r1.len, r2.len, hl, hl2]
  have rp := ra.pick (perm := perm) (by rw [len]; exact hp)
  have pl : (pick perm (vs ++ zs)).length = n + n2 := by
    rw [← rp.len]
    have q : (pick perm (l ++ l2)).Perm (l ++ l2) := by
      have := hp.filterMap fun i => (l ++ l2)[i]?
      rw [← len, fm_range] at this
      exact this
    rw [q.length_eq, len]
  refine call_go (n + n2) pl hq2 e2 rp (fun a z w => ?_) ?_ k kx
  · rcases w with w | w
    · exact dd a (.inl z) w
    · exact d2 a z w
  · refine (s1.trans (s2.more (G := G1))).sub fun a z => ?_
    rcases z with z | z | z
    · exact .inl (.inl z)
    · exact .inr z
    · exact .inl (.inr z)
theorem qe_callk {ks : List Str} {perm : List Nat} {n2 : Nat} {rs2 : CEs} {kws : List Keyword} (F : FnOk X.prog X.w X.K X.mg X.base (L2.CX X.prog X.w) kk fa fd ps (toSp X.K cc (n + n2) (Γ f))) (hr : Room kk X.A) (tk : Takes X W) (hg : Gl X x) (hm : X.mg x = some (.ref fa)) (hk : PySem.W.keepIn X.K (.ref fa) = true)
    (hb : KB X.K fd ps n ks perm) (hp : perm.Perm (List.range (n + n2))) (hl : ks.length = n2) (ha : PA X (e :: es) (LAs X.K cc W n (evA G Γ rs))) (hkw : PK X kws (LAs X.K cc W n2 (evA G Γ rs2))) (hall : (backToKw pos (keywordEach kws X.env)).all (·.1.isSome) = true) (hks : (backToKw pos (keywordEach kws X.env)).filterMap (·.1) = ks)
    (hdb : (x == ("__debug__" : Str)) = false) (he : starEach (e :: es) X.env = (false, eval e X.env) :: starEach es X.env)
    (hpl : ((backTo pos (starEach (e :: es) X.env)).any (·.1) || (backToKw pos (keywordEach kws X.env)).any (·.1.isNone)) = false) : QE X cc W (.Call (.Name x p) (e :: es) kws pos) (ev G Γ (.callk f rs ks rs2 perm)) :=
  ⟨⟨fun pins s σ H Q I h => by
    have h' := callk_go (cc := cc) (W := W) (G := G) (Γ := Γ) (sp := Γ f) (rs := rs) (rs2 := rs2) hp (by simpa only [ev] using h)
    refine wpAny_Call_Name_kw (ld_glob I hg hm ?_ hdb)
    refine PySem.W.callWith_KW (h₀ := X.base) I.ok.mod.kin hk hall (thn (ha.run pos pins s σ H _ I h') fun us s1 ⟨vs, H1, I1, r, hn, q⟩ => ?_) hpl he
    refine thn (hkw.run pos pins s1 σ H1 _ I1 q) fun ws s2 ⟨zs, H2, I2, rz, hz, q2⟩ => ⟨I2.kIn, ?_⟩
    rw [hks]
    exact run_k F hr hb tk I2 r rz hn (hz.trans hl.symm) q2⟩⟩
theorem qe_callk0 {ks : List Str} {perm : List Nat} {n2 : Nat} {rs2 : CEs} {kws : List Keyword} (F : FnOk X.prog X.w X.K X.mg X.base (L2.CX X.prog X.w) kk fa fd ps (toSp X.K cc (0 + n2) (Γ f))) (hr : Room kk X.A) (tk : Takes X W) (hg : Gl X x) (hm : X.mg x = some (.ref fa)) (hk : PySem.W.keepIn X.K (.ref fa) = true)
    (hb : KB X.K fd ps 0 ks perm) (hp : perm.Perm (List.range (0 + n2))) (hl : ks.length = n2) (hkw : PK X kws (LAs X.K cc W n2 (evA G Γ rs2))) (hall : (backToKw pos (keywordEach kws X.env)).all (·.1.isSome) = true) (hks : (backToKw pos (keywordEach kws X.env)).filterMap (·.1) = ks)
    (hdb : (x == ("__debug__" : Str)) = false) (hpl : ((backTo pos (starEach [] X.env)).any (·.1) || (backToKw pos (keywordEach kws X.env)).any (·.1.isNone)) = false) : QE X cc W (.Call (.Name x p) [] kws pos) (ev G Γ (.callk f .nil ks rs2 perm)) :=
  ⟨⟨fun pins s σ H Q I h => by
    have h' := callk_go (cc := cc) (W := W) (G := G) (Γ := Γ) (sp := Γ f) (rs := .nil) (rs2 := rs2) hp (by simpa only [ev] using h)
    have h2 := la_nil _ _ _ h'
    obtain ⟨hn, q⟩ := h2
    refine wpAny_Call_Name_kw (ld_glob I hg hm ?_ hdb)
    refine PySem.W.callWith_KW0 (h₀ := X.base) I.ok.mod.kin hk hall (thn (hkw.run pos pins s σ H _ I q) fun ws s2 ⟨zs, H2, I2, rz, hz, q2⟩ => ⟨I2.kIn, ?_⟩) hpl
    rw [hks]
    exact run_k (us := []) (vs := []) F hr hb tk I2 .nil rz rfl (hz.trans hl.symm) q2⟩⟩
end
end CP
namespace CP
open PySem PySem.Spec PyProof.Rows L2

section
variable {X : Cx} {cc : Str → Addr} {W : WX} {G : Glob} {Γ : Nat → Sp} {e e1 e2 e3 : Expr} {a b c : CE} {pos p2 apos cpos : Pos} {es : List Expr} {rs : CEs} {n : Nat}
/-! ### slices -/
def LPart (K : PySem.W.Frag) (G : Glob) (o : Option P) : TO := fun σV H Q => ∃ σ F l, EnvR K H σ σV F ∧ partP G o σ = some l ∧ Q l H
theorem PO.imp {e : Option Expr} {t t' : TO} (h : PO X e t) (i : ∀ σ H Q, t' σ H Q → t σ H Q) : PO X e t' := ⟨fun pins s σ H Q I hw => h.run pins s σ H Q I (i _ _ _ hw)⟩
theorem qpo_none : PO X none (LPart X.K G none) := PO.imp po_none fun σV H Q ⟨σ, F, l, er, h, q⟩ => by
  simp only [partP, Option.some.injEq] at h
  subst h
  exact q
theorem qpo_some {p : P} (h : PE X e (LP X.K G p)) : PO X (some e) (LPart X.K G (some p)) := PO.imp (po_some h) fun σV H Q ⟨σ, F, l, er, h, q⟩ => by
  simp only [partP] at h
  obtain ⟨m, hm, h⟩ := Option.bind_eq_some_iff.mp h
  obtain ⟨i, hi, rfl⟩ := Option.map_eq_some_iff.mp h
  exact ⟨σ, F, m, er, hm, fun v Gm rm _ _ => ⟨i, iD_ok hi rm, q⟩⟩
def rAllS (K : PySem.W.Frag) : V → Option Int → Option Int → Hp → VK → Prop := fun x lo hi H Q => rSlL K x lo hi H Q ∨ rSlA K x lo hi H Q ∨ rSlS x lo hi H Q
theorem sl_all : SlR X (rAllS X.K) := sl_list.or (sl_tupA.or sl_str)
theorem cut_rep {K : PySem.W.Frag} {H : Hp} {ds : List D} {vs : List V} (r : RepDs K H ds vs) (lo hi : Option Int) : RepDs K H (cutD ds lo hi) (cutV vs lo hi) := by
  unfold cutD cutV
  rw [r.len]
  exact (r.drop _).take _
theorem cut_whole {ds : List D} {lo hi : Option Int} (h : HT.sIx ds.length 0 lo = 0 ∧ HT.sIx ds.length ds.length hi = ds.length) : cutD ds lo hi = ds := by
  unfold cutD
  rw [h.1, h.2, List.drop_zero, Nat.sub_zero, List.take_length]
theorem slc_ok {K : PySem.W.Frag} {H : Hp} {m z : M} {v : V} {Gm : FP} {lo hi : Option Int} {Q : VK} (r : RepM K H m v Gm) (e : slcM m lo hi = some z) (q : Res K z H Q) : rAllS K v lo hi H Q := by
  unfold slcM at e
  split at e
  · rename_i ds
    cases e
    obtain ⟨a, vs, rfl, s, rs⟩ := rep_tup.mp (repM_imI.mp r).1
    refine .inr (.inl ⟨a, vs, rfl, SqT.of s, fun h => ?_, fun _ => q.tup (cut_rep rs lo hi)⟩)
    rw [← rs.len] at h
    rw [cut_whole h] at q
    exact q.im (rep_tup.mpr ⟨a, vs, rfl, s, rs⟩)
  · rename_i ds
    cases e
    obtain ⟨a, vs, rfl, s, rs⟩ := rep_flst.mp (repM_imI.mp r).1
    exact .inl ⟨a, vs, rfl, s.sqL, q.lst (cut_rep rs lo hi)⟩
  · rename_i ds
    cases e
    obtain ⟨a, vs, rfl, s, rs, _⟩ := repM_lst.mp r
    exact .inl ⟨a, vs, rfl, SqL.of s, q.lst (cut_rep rs lo hi)⟩
  · rename_i s
    split at e
    · rename_i hz
      cases e
      obtain rfl := rep_str.mp (repM_imI.mp r).1
      exact .inr (.inr ⟨s, rfl, hz, q.im (rep_str.mpr rfl)⟩)
    · cases e
  · cases e
theorem qe_slc {lo hi : Option Expr} {pl ph : Option P} (h : QO X cc W G e a (ev G Γ a)) (hl : PO X lo (LPart X.K G pl)) (hh : PO X hi (LPart X.K G ph)) : QE X cc W (.Subscript e (.Slice lo hi none p2) pos) (ev G Γ (.slc a pl ph)) :=
  ⟨PE.imp (pe_slice sl_all h hl hh) fun σV H Q ⟨σ, F, Q1, E1, er, h, k, kx⟩ => by
    refine lo1 er (by simpa only [ev] using h) kx fun x σ2 vx H2 F2 Gx hf e2 rx s => ?_
    split at hf
    · rename_i l u hl hu
      obtain ⟨z, hz, q⟩ := fin_ok hf
      exact ⟨σ2, F2, l, e2, hl, σ2, F2, u, e2, hu, slc_ok rx hz fun v H' Gz rz ext => k v H' ⟨z, σ2, F2, Gz, q, (e2.ext ext).1, rz, (e2.ext ext).2, s.trans ext.step⟩⟩
    · exact hf.elim⟩

/-! ### {'k': e, ..} -/
def isV : CE → Option Nat
  | .v i => some i
  | _ => none
def disE (K : PySem.W.Frag) (cc : Str → Addr) (W : WX) (G : Glob) (Γ : Nat → Sp) (e : CE) : L2.TE := match isV e with
  | some i => tVar i
  | none => LE K cc W (ev G Γ e)
def disT (K : PySem.W.Frag) (cc : Str → Addr) (W : WX) (G : Glob) (Γ : Nat → Sp) : List Str → CEs → List (L2.TE × L2.TE)
  | k :: ks, .cons e r => (tC (.str k), disE K cc W G Γ e) :: disT K cc W G Γ ks r
  | _, _ => []
theorem qd_nil : PPs X pos [] [] (disT X.K cc W G Γ [] .nil) := pps_nil
theorem qd_cons {k : Str} {ks : List Str} {j : Nat} {kp : Pos} {keys : List (Option Expr)} (ha : isV a = none) (h : QE X cc W e (ev G Γ a)) (hr : PPs X pos keys es (disT X.K cc W G Γ ks rs)) : PPs X pos (some (.Constant (.str k) j kp) :: keys) (e :: es) (disT X.K cc W G Γ (k :: ks) (.cons a rs)) := by
  have : disE X.K cc W G Γ a = LE X.K cc W (ev G Γ a) := by unfold disE; rw [ha]
  show PPs X pos _ _ ((tC (.str k), disE X.K cc W G Γ a) :: disT X.K cc W G Γ ks rs)
  rw [this]
  exact pps_cons pe_str h.pe hr
theorem qd_var {k : Str} {ks : List Str} {i j : Nat} {kp : Pos} {keys : List (Option Expr)} (h : PE X e (tVar i)) (hr : PPs X pos keys es (disT X.K cc W G Γ ks rs)) : PPs X pos (some (.Constant (.str k) j kp) :: keys) (e :: es) (disT X.K cc W G Γ (k :: ks) (.cons (.v i) rs)) := pps_cons pe_str h hr
theorem mergeK_app : ∀ {more acc : List (Key × V)}, (more.map (·.1)).Nodup → (∀ k ∈ more.map (·.1), k ∉ acc.map (·.1)) → mergeK acc more = acc ++ more
  | [], acc, _, _ => by simp [mergeK]
  | kv :: r, acc, h, d => by
    have hn : putK acc kv.1 kv.2 = acc ++ [kv] := by
      have : (acc.any fun x => decide (x.1 = kv.1)) = false := by
        rw [List.any_eq_false]
        intro x hx
        have := d kv.1 (by simp)
        simp only [decide_eq_true_eq]
        intro e
        exact this (by rw [← e]; exact List.mem_map_of_mem hx)
      unfold putK
      rw [if_neg (by rw [this]; exact Bool.false_ne_true)]
    have h' : kv.1 ∉ r.map (·.1) ∧ (r.map (·.1)).Nodup := List.nodup_cons.mp h
    show mergeK (putK acc kv.1 kv.2) r = _
    rw [hn, mergeK_app h'.2 (fun k hk => ?_)]
    · simp
    · intro hc
      rw [List.map_append, List.mem_append] at hc
      rcases hc with hc | hc
      · exact d k (by simp [List.mem_map.mp hk]) hc
      · simp only [List.map_cons, List.map_nil, List.mem_singleton] at hc
        subst hc
        exact h'.1 hk
def clen : CEs → Nat
  | .nil => 0
  | .cons _ r => clen r + 1
theorem dis_go {K : PySem.W.Frag} : ∀ {ks : List Str} {rs : CEs} {σ : Env} {σV : L2.St} {H : Hp} {F : FP} {Q1 : List Arg → Env → Prop} {E1 : QX} {Q : List (V × V) → Hp → Prop} (_ : EnvR K H σ σV F) (_ : evA G Γ rs σ Q1 E1) (_ : clen rs = ks.length)
    (_ : ∀ cls d H', PostX K cc H σV F E1 cls d H' → W cls d σV H') (_ : ∀ ps H', (∃ l σ' F1 Gm vs, Q1 l σ' ∧ vs.length = ks.length ∧ ps = (ks.zip vs).map (fun q => (V.str q.1, q.2)) ∧ EnvR K H' σ' σV F1 ∧ ARep K H' σV l vs Gm ∧ Disj F1 Gm ∧ Step H F H' (fpU F1 Gm)) → Q ps H'), tPairs (disT K cc W G Γ ks rs) σV H Q
  | [], .nil, σ, σV, H, F, Q1, E1, Q, er, h, hl, kx, k => by
    simp only [evA] at h
    exact k [] H ⟨[], σ, F, fpE, [], h, rfl, rfl, er, ⟨rfl, rfl⟩, fun _ _ z => z, by rw [fpU_E]; exact Step.refl⟩
  | kk :: ks, .nil, σ, σV, H, F, Q1, E1, Q, er, h, hl, kx, k => by simp [clen] at hl
  | [], .cons e r, σ, σV, H, F, Q1, E1, Q, er, h, hl, kx, k => by simp [clen] at hl
  | kk :: ks, .cons e r, σ, σV, H, F, Q1, E1, Q, er, h, hl, kx, k => by
    show disE K cc W G Γ e σV H fun y H2 => tPairs (disT K cc W G Γ ks r) σV H2 fun ps H3 => Q ((.str kk, y) :: ps) H3
    cases hv : isV e with
    | some i =>
      have he : e = .v i := by cases e <;> simp [isV] at hv; rw [hv]
      subst he
      simp only [evA] at h
      obtain ⟨m, hm, h⟩ := slot_ok h
      obtain ⟨v, _, hv2, _, _⟩ := er.look hm
      refine ⟨v, hv2, dis_go (Q1 := fun l σ' => Q1 (.inl i :: l) σ') er h (by simpa [clen] using hl) kx fun ps H2 ⟨l, σ2, F2, G2, vs, hq, hln, hps, e2, r2, d2, s2⟩ => ?_⟩
      exact k _ _ ⟨.inl i :: l, σ2, F2, G2, v :: vs, hq, by simp [hln], by simp [hps], e2, ⟨v, vs, rfl, hv2, r2⟩, d2, s2⟩
    | none =>
      have hne : ∀ i, e ≠ .v i := fun i z => by rw [z] at hv; cases hv
      rw [evA_ne hne] at h
      have : disE K cc W G Γ e = LE K cc W (ev G Γ e) := by unfold disE; rw [hv]
      rw [this]
      refine le1 er h kx fun x σ1 vx H1 F1 G1 hk e1 r1 d1 s1 => ?_
      refine dis_go (Q1 := fun l σ' => Q1 (.inr x :: l) σ') e1 hk (by simpa [clen] using hl) (fun cls d H' x => kx cls d H' (x.go s1.dropR)) fun ps H2 ⟨l, σ2, F2, G2, vs, hq, hln, hps, e2, r2, d2, s2⟩ => ?_
      obtain ⟨r1', dd⟩ := r1.hold e1.mut d1 s2
      refine k _ _ ⟨.inr x :: l, σ2, F2, fpU G1 G2, vx :: vs, hq, by simp [hln], by simp [hps], e2, ⟨vx, vs, G1, G2, rfl, r1', r2, fun a z w => dd a (.inr w) z, rfl⟩, fun a z w => ?_, ?_⟩
      · rcases w with w | w
        · exact dd a (.inl z) w
        · exact d2 a z w
      · refine (s1.trans (s2.more (G := G1))).sub fun a z => ?_
        rcases z with z | z | z
        · exact .inl (.inl z)
        · exact .inr z
        · exact .inl (.inr z)
theorem mkD_ok {K : PySem.W.Frag} {H : Hp} : ∀ {ks : List Key} {ms : List M} {vs : List V} {G1 : FP}, ms.length = ks.length → RepMs K H ms vs G1 → RepKMs K H (ks.zip ms) (ks.zip vs) G1
  | [], [], vs, G1, _, r => by
    simp only [RepMs] at r
    simp only [List.zip_nil_left, RepKMs]
    exact ⟨trivial, r.2⟩
  | k :: ks, m :: ms, vs, G1, hl, r => by
    simp only [RepMs] at r
    obtain ⟨v, r', F1, F2, rfl, r1, r2, d, rfl⟩ := r
    simp only [List.zip_cons_cons, RepKMs]
    exact ⟨v, _, F1, F2, rfl, r1, mkD_ok (by simpa using hl) r2, d, rfl⟩
  | [], _ :: _, _, _, hl, _ => by simp at hl
  | _ :: _, [], _, _, hl, _ => by simp at hl
theorem mkDs_ok {K : PySem.W.Frag} {H : Hp} : ∀ {ks : List Key} {ds : List D} {vs : List V}, ds.length = ks.length → RepDs K H ds vs → RepKs K H (ks.zip ds) (ks.zip vs)
  | [], [], vs, _, r => by simp only [List.zip_nil_left, RepKs]
  | k :: ks, d :: ds, vs, hl, r => by
    simp only [RepDs] at r
    obtain ⟨v, r', rfl, r1, r2⟩ := r
    simp only [List.zip_cons_cons, RepKs]
    exact ⟨v, _, rfl, r1, mkDs_ok (by simpa using hl) r2⟩
  | [], _ :: _, _, hl, _ => by simp at hl
  | _ :: _, [], _, hl, _ => by simp at hl
theorem Keep.upd {H : Hp} {p : Addr} {o o2 : HO} (hp : H p = some o) (ho : Mut (some o)) : Keep H (L2.upd H p o2) := by
  refine ⟨fun b xs h => ?_, fun b ob u h => ?_, fun b fs h => ?_⟩
  all_goals
    by_cases e : b = p
    · rw [e, hp] at h
      cases h
      exact ho.elim
    · rw [upd_ne e]; exact h
theorem qe_dis {ks : List Str} {keys : List (Option Expr)} (h : PPs X pos keys es (disT X.K cc W G Γ ks rs)) (hall : keys.all (·.isSome) = true) (hl : keys.length = es.length) (h0 : keys ≠ []) (h15 : keys.length ≤ 15) (hk : clen rs = ks.length) (hk15 : ks.length ≤ 15) (nd : (ks.map (Sum.inr : Str → Key)).Nodup) :
    QE X cc W (.Dict keys es pos) (ev G Γ (.dis ks rs)) :=
  ⟨PE.imp (pe_disp h hall hl h0 h15) fun σV H Q ⟨σ, F, Q1, E1, er, h, k, kx⟩ p hp => by
  simp only [ev] at h
  have x := Ext.upd (o := .dK []) hp
  obtain ⟨e1, d1⟩ := er.ext x
  have st1 : Step H F (upd H p (.dK [])) F := x.step.dropR
  refine dis_go e1 h hk (fun cls d H' y => kx cls d H' (y.go st1)) fun ps H2 ⟨l, σ1, F1, G1, vs, hq, hvl0, hps, e1', r1', d1', s1'⟩ => ?_
  obtain ⟨ms, σ2, F2, G2, hq, hvl, e2, r2, d2, s2⟩ := takeK_ok hq e1' r1' d1' s1'
  have hln : ms.length = ks.length := hvl.trans hvl0
  have hp2 : H2 p = some (.dK []) := s2.frame p _ upd_same fun z => d1 p z (.inl rfl)
  have np : ¬ fpU F2 G2 p := fun z => by
    rcases s2.new p z with w | w
    · exact d1 p w (.inl rfl)
    · rw [upd_same] at w; cases w
  let kvs : List (Key × V) := (ks.map Sum.inr).zip vs
  have hkm : kvs.map (·.1) = ks.map Sum.inr := List.map_fst_zip (by rw [List.length_map]; omega)
  have hmk : mergeK [] kvs = kvs := by
    rw [mergeK_app (by rw [hkm]; exact nd) (fun k _ => by simp)]
    rfl
  refine ⟨hp2, kvs, ?_, ?_, ?_⟩
  · rw [hps]
    show _ = ((ks.map Sum.inr).zip vs).map _
    rw [List.zip_map_left, List.map_map]
    rfl
  · show ((ks.map Sum.inr).zip vs).length ≤ 15
    rw [List.length_zip, List.length_map]; omega
  · rw [hmk]
    have kp : Keep H2 (upd H2 p (.dK kvs)) := Keep.upd hp2 trivial
    have r3 : RepMs X.K (upd H2 p (.dK kvs)) ms vs G2 := keepMs kp ms vs G2 (fun a ha => upd_ne fun e => np (.inr (e ▸ ha))) r2
    have e3 : EnvR X.K (upd H2 p (.dK kvs)) σ2 σV F2 := e2.keep kp fun a ha => upd_ne fun e => np (.inl (e ▸ ha))
    have fr : ∀ G3 : FP, (∀ a, G3 a → G2 a ∨ a = p) → Step H F (upd H2 p (.dK kvs)) (fpU F2 G3) := fun G3 sub => by
      have s3 := st1.trans s2
      refine ⟨fun a o ha na => ?_, fun a z => ?_⟩
      · have : a ≠ p := fun e => by rw [e, hp] at ha; cases ha
        rw [upd_ne this]
        exact s3.frame a o ha na
      · rcases z with z | z
        · exact s3.new a (.inl z)
        · rcases sub a z with z | rfl
          · exact s3.new a (.inr z)
          · exact .inr hp
    have hzl : ms.length = (ks.map (Sum.inr : Str → Key)).length := by rw [List.length_map]; exact hln
    unfold mkD at hq
    rw [List.map_snd_zip (by omega)] at hq
    split at hq
    · rename_i ds hds
      obtain ⟨rds, rfl⟩ := imsOf_ok r3 hds
      rw [List.map_fst_zip (by omega)] at hq
      have hdl : ds.length = (ks.map (Sum.inr : Str → Key)).length := by rw [rds.len, ← hvl]; exact hzl
      exact k _ _ ⟨_, σ2, F2, fpI p fpE, hq, e3, repM_dct.mpr ⟨p, kvs, rfl, upd_same, mkDs_ok hdl rds, rfl⟩, fun a z w => w.elim (fun e => np (.inl (e ▸ z))) id, fr _ fun a z => z.elim .inr fun z => z.elim⟩
    · refine k _ _ ⟨_, σ2, F2, fpI p G2, hq, e3, repM_dnn.mpr ⟨p, kvs, G2, rfl, upd_same, mkD_ok hzl r3, fun z => np (.inr z), rfl⟩, fun a z w => ?_, fr _ fun a z => z.elim .inr .inl⟩
      rcases w with w | w
      · exact np (.inl (w ▸ z))
      · exact d2 a z w⟩
end
end CP
namespace CP
open PySem PySem.Spec PyProof.Rows L2

/-! ### isinstance -/
def tyS : Ty → String
  | .int => "int" | .bool => "bool" | .str => "str" | .tuple => "tuple" | .list => "list" | .dict => "dict"
def tyStr : Ty → Str
  | .int => "int" | .bool => "bool" | .str => "str" | .tuple => "tuple" | .list => "list" | .dict => "dict"
def nmM : M → Option String
  | .im .non => some "NoneType"
  | .im (.bl _) => some "bool"
  | .im (.int _) => some "int"
  | .im (.str _) => some "str"
  | .im (.tup _) => some "tuple"
  | .im (.kt _) => some "tuple"
  | .im (.lst _) => some "list"
  | .lst _ => some "list"
  | .nst _ => some "list"
  | .dct _ => some "dict"
  | .dnn _ => some "dict"
  | .dcT _ => some "dict"
  | _ => none
def kitT (n : String) (t : Ty) : Bool := match n with
  | "bool" => t == .bool || t == .int
  | "int" => t == .int
  | "str" => t == .str
  | "tuple" => t == .tuple
  | "list" => t == .list
  | "dict" => t == .dict
  | _ => false
theorem kitT_ok {n : String} {t : Ty} (h : n ∈ ["NoneType", "bool", "int", "str", "tuple", "list", "dict"]) : kitB n (tyS t) = some (kitT n t) := by
  have : ∀ n ∈ ["NoneType", "bool", "int", "str", "tuple", "list", "dict"], ∀ t ∈ [Ty.int, Ty.bool, Ty.str, Ty.tuple, Ty.list, Ty.dict], kitB n (tyS t) = some (kitT n t) := by decide +kernel
  exact this n h t (by cases t <;> decide)
theorem tyM_ok {t : Ty} {m : M} {b : Bool} (h : tyM t m = some b) : ∃ n, nmM m = some n ∧ n ∈ ["NoneType", "bool", "int", "str", "tuple", "list", "dict"] ∧ b = kitT n t := by
  unfold tyM at h
  split at h <;> first | (cases h; done) | (cases h; exact ⟨_, rfl, by decide, by cases t <;> rfl⟩)
section
variable {K : PySem.W.Frag} {H H' : Hp} {m : M} {v : V} {Gm : FP}
theorem tyX_ok {n : String} (r : RepM K H m v Gm) (h : nmM m = some n) : TyX K H v (.type n) := by
  unfold nmM at h
  split at h <;> first | (cases h; done) | cases h
  · obtain rfl := rep_non.mp (repM_imI.mp r).1; exact .base .non
  · obtain rfl := rep_bl.mp (repM_imI.mp r).1; exact .base (.bl _)
  · obtain rfl := rep_int.mp (repM_imI.mp r).1; exact .base (.int _)
  · obtain rfl := rep_str.mp (repM_imI.mp r).1; exact .base (.str _)
  · obtain ⟨a, vs, rfl, s, _⟩ := rep_tup.mp (repM_imI.mp r).1; exact .base (.tup s)
  · obtain ⟨a, vs, rfl, s, _⟩ := rep_kt.mp (repM_imI.mp r).1
    rcases s with ⟨o, _, _, l, c, _⟩ | ⟨o, l, _⟩
    · exact .kTuple l c
    · exact .fTuple l
  · obtain ⟨a, vs, rfl, s, _⟩ := rep_flst.mp (repM_imI.mp r).1
    rcases s with ⟨o, s⟩ | ⟨o, _, _, l, c, _⟩
    · exact .base (.frz s)
    · exact .kList l c
  · obtain ⟨a, vs, rfl, s, _⟩ := repM_lst.mp r; exact .base (.lst s)
  · obtain ⟨a, vs, G, rfl, s, _⟩ := repM_nst.mp r; exact .base (.lst s)
  · obtain ⟨a, vs, rfl, s, _⟩ := repM_dct.mp r; exact .base (.dK s)
  · obtain ⟨a, vs, G, rfl, s, _⟩ := repM_dnn.mp r; exact .base (.dK s)
  · obtain ⟨a, vs, rfl, s, _⟩ := repM_dcT.mp r; exact .base (.dT s)
theorem isiM_nm : ∀ {ts : List Ty} {m : M} {b : Bool} {n : String}, nmM m = some n → isiM m ts = some b → PySem.W.kitAny K (.type n) (ts.map fun t => .type (tyS t)) = some b
  | [], m, b, n, _, h => by
    simp only [isiM, Option.some.injEq] at h
    subst h
    rfl
  | t :: ts, m, b, n, hn, h => by
    simp only [isiM] at h
    obtain ⟨b1, h1, h⟩ := Option.bind_eq_some_iff.mp h
    obtain ⟨b2, h2, rfl⟩ := Option.map_eq_some_iff.mp h
    obtain ⟨n', hn', hmem, rfl⟩ := tyM_ok h1
    rw [hn] at hn'
    cases hn'
    have ih := isiM_nm hn h2
    refine kitAny_cons (kit_ty (kitT_ok hmem)) (fun e => ?_) fun e => by rw [e]; rfl
    rw [e, Bool.false_or]
    exact ih
end
section
variable {X : Cx} {cc : Str → Addr} {W : WX} {G : Glob} {Γ : Nat → Sp} {e e1 e2 e3 : Expr} {a b c : CE} {pos p2 apos cpos pn : Pos} {es : List Expr} {rs : CEs} {n : Nat}
theorem boot_ty (t : Ty) : bootBuiltins (tyStr t) = some (.type (tyS t)) := by cases t <;> decide +kernel
theorem ty_nn (t : Ty) : tyStr t ≠ "__name__" := by cases t <;> decide
theorem ty_nd (t : Ty) : (tyStr t == ("__debug__" : Str)) = false := by cases t <;> decide
theorem qe_isi1 {t : Ty} {tp : Pos} {tn : Str} (ht : tn = tyStr t) (hg : Gl X "isinstance") (hm : X.mg "isinstance" = none) (hgt : Gl X tn) (hmt : X.mg tn = none) (h : QO X cc W G e a (ev G Γ a)) (s1 : starEach [e, .Name tn tp] X.env = (false, eval e X.env) :: starEach [.Name tn tp] X.env) :
    QE X cc W (.Call (.Name "isinstance" pn) [e, .Name tn tp] [] pos) (ev G Γ (.isi a [t])) := by
  subst ht
  refine ⟨PE.imp (pe_callB call_isi hg hm (by decide +kernel) (pa_cons h (pa_cons (pe_bltn (v := .ty (tyS t)) hgt hmt (boot_ty t) rfl (ty_nn t) (ty_nd t)) pa_nil rfl) s1) (by decide) (by decide) s1 rfl) fun σV H Q ⟨σ, F, Q1, E1, er, h, k, kx⟩ => ?_⟩
  refine lo1 er (by simpa only [ev] using h) kx fun x σ2 vx H2 F2 Gx hf e2 rx s => ?_
  split at hf
  · rename_i b hb
    simp only [isiM] at hb
    obtain ⟨b1, h1, hb⟩ := Option.bind_eq_some_iff.mp hb
    simp only [Option.map_some, Bool.or_false, Option.some.injEq] at hb
    subst hb
    obtain ⟨n, hn, hmem, rfl⟩ := tyM_ok h1
    exact ⟨vx, .ty (tyS t), .type n, .type (tyS t), _, rfl, .ty _, tyX_ok rx hn, kit_ty (kitT_ok hmem), k _ _ ⟨_, σ2, F2, fpE, hf, e2, repM_im (rep_bl.mpr rfl), fun _ _ z => z, s.sub fun a z => z.elim id fun z => z.elim⟩⟩
  · exact hf.elim
theorem clsVs : ∀ ts : List Ty, Paired ClsV (ts.map fun t => V.ty (tyS t)) (ts.map fun t => Value.type (tyS t))
  | [] => .nil
  | t :: ts => .cons (.ty _) (clsVs ts)
/-- the names of types, in a tuple -/
def tTys : List Ty → L2.TA := fun ts _ H Q => Q (ts.map fun t => V.ty (tyS t)) H
theorem pty_nil : PA X [] (tTys []) := PA.imp pa_nil fun _ _ _ h => h
theorem pty_cons {t : Ty} {ts : List Ty} {tn : Str} {tp : Pos} (ht : tn = tyStr t) (hgt : Gl X tn) (hmt : X.mg tn = none) (h : PA X es (tTys ts)) : PA X (.Name tn tp :: es) (tTys (t :: ts)) := by
  subst ht
  exact PA.imp (pa_cons (pe_bltn (v := .ty (tyS t)) hgt hmt (boot_ty t) rfl (ty_nn t) (ty_nd t)) h rfl) fun _ _ _ h => h
theorem qe_isiT {ts : List Ty} {x1 : Nat} {tp : Pos} (hg : Gl X "isinstance") (hm : X.mg "isinstance" = none) (hts : PA X es (tTys ts)) (hlen : ts.length ≤ 1000) (hnz : ts ≠ []) (h : QO X cc W G e a (ev G Γ a)) (s1 : starEach [e, .Tuple es x1 tp] X.env = (false, eval e X.env) :: starEach [.Tuple es x1 tp] X.env) :
    QE X cc W (.Call (.Name "isinstance" pn) [e, .Tuple es x1 tp] [] pos) (ev G Γ (.isi a ts)) := by
  refine ⟨PE.imp (pe_callB call_isiT hg hm (by decide +kernel) (pa_cons h (pa_cons (pe_tup hts) pa_nil rfl) s1) (by decide) (by decide) s1 rfl) fun σV H Q ⟨σ, F, Q1, E1, er, h, k, kx⟩ => ?_⟩
  refine lo1 er (by simpa only [ev] using h) kx fun x σ2 vx H2 F2 Gx hf e2 rx s => ?_
  split at hf
  · rename_i b hb
    show (ts.map fun t => V.ty (tyS t)).length ≤ sizeLine ∧ _
    refine ⟨by rw [List.length_map]; exact Nat.le_of_lt (small1000 hlen), fun p hp => ?_⟩
    have ext := Ext.upd (o := .tup (ts.map fun t => V.ty (tyS t))) hp
    have rx' := (rx.ext ext).1
    have : ∃ n, nmM x = some n := by
      cases ts with
      | nil => exact absurd rfl hnz
      | cons t ts =>
        simp only [isiM] at hb
        obtain ⟨b1, h1, _⟩ := Option.bind_eq_some_iff.mp hb
        obtain ⟨n, hn, _⟩ := tyM_ok h1
        exact ⟨n, hn⟩
    obtain ⟨n, hn⟩ := this
    refine ⟨vx, p, _, .type n, _, b, rfl, upd_same, clsVs ts, tyX_ok rx' hn, isiM_nm hn hb, k _ _ ⟨_, σ2, F2, fpE, hf, (e2.ext ext).1, repM_im (rep_bl.mpr rfl), fun _ _ z => z, (s.trans ext.step).sub fun a z => z.elim .inl fun z => z.elim⟩⟩
  · exact hf.elim

/-! ### dict.get -/
theorem isDc_ok {K : PySem.W.Frag} {H : Hp} {m : M} {v : V} {Gm : FP} (h : isDc m = true) (r : RepM K H m v Gm) : ∃ a, v = .ref a ∧ IsD H a := by
  unfold isDc at h
  split at h
  · obtain ⟨a, ws, rfl, s, _⟩ := repM_dct.mp r; exact ⟨a, rfl, .inl ⟨_, .of s⟩⟩
  · obtain ⟨a, ws, rfl, s, _⟩ := repM_dcT.mp r; exact ⟨a, rfl, .inr ⟨_, .of s⟩⟩
  · cases h
theorem dget_ok {K : PySem.W.Frag} {H : Hp} {m : M} {q : D} {v y : V} {Gm : FP} {r : Option D} (rm : RepM K H m v Gm) (ry : RepD K H q y) (e : dgetM m q = some r) : ∃ a o, v = .ref a ∧ DGet H a y o ∧ (∀ d, r = some d → ∃ w, o = some w ∧ RepD K H d w) ∧ (r = none → o = none) := by
  unfold dgetM at e
  split at e
  · obtain ⟨k, hk, rfl⟩ := Option.map_eq_some_iff.mp e
    obtain ⟨a, ws, rfl, s, rs, _⟩ := repM_dct.mp rm
    rw [keyOf_rep hk ry]
    exact ⟨a, _, rfl, DGet.k s, rs.get.1, rs.get.2⟩
  · obtain ⟨k, hk, rfl⟩ := Option.map_eq_some_iff.mp e
    obtain ⟨a, ws, rfl, s, rs, _⟩ := repM_dcT.mp rm
    obtain ⟨b, rfl, sb⟩ := tupKey (repM_im ry) hk
    exact ⟨a, _, rfl, DGet.t s sb, rs.get.1, rs.get.2⟩
  · cases e
theorem getD_ok {K : PySem.W.Frag} {H : Hp} {r : Option D} {o : Option V} {d : D} {w : V} (h1 : ∀ d, r = some d → ∃ w, o = some w ∧ RepD K H d w) (h2 : r = none → o = none) (hd : RepD K H d w) : RepD K H (r.getD d) (o.getD w) := by
  cases r with
  | none => rw [h2 rfl]; exact hd
  | some x =>
    obtain ⟨w', rfl, hw⟩ := h1 x rfl
    exact hw
theorem evP_var {i : Nat} {σ : Env} {m : M} (h : evP G (.var i) σ = some m) : σ[i]? = some (some m) := by
  simp only [evP] at h
  cases q : σ[i]? with
  | none => rw [q] at h; cases h
  | some o => rw [q] at h; exact congrArg some h
theorem qe_get1v (hu : X.A.units + 1 < cLine) {i : Nat} (ho : PE X e1 (tVar i)) (h : QO X cc W G e a (ev G Γ a)) (m : M1 X e1 "get" apos e cpos) : QE X cc W (.Call (.Attribute e1 "get" apos) [e] [] cpos) (ev G Γ (.get1 (.var i) a)) :=
  ⟨PE.imp (pe_dget1 hu ho h m) fun σV H Q ⟨σ, F, Q1, E1, er, h, k, kx⟩ => by
  simp only [ev] at h
  split at h
  · rename_i m0 hm0
    obtain ⟨hd, h⟩ := h
    obtain ⟨v, G0, hv, r0, _⟩ := er.look (evP_var hm0)
    obtain ⟨p, rfl, ip⟩ := isDc_ok hd r0
    refine ⟨_, hv, p, rfl, ip, lo1 er h kx fun x σ2 vx H2 F2 Gx hf e2 rx s => ?_⟩
    split at hf
    · rename_i c q hc
      split at hf
      · rename_i r hr
        obtain ⟨v2, G2, hv2, r2, _⟩ := e2.look (evP_var hc)
        rw [hv] at hv2
        cases hv2
        obtain ⟨p', o, ep, g, h1, h2⟩ := dget_ok r2 (repM_imI.mp rx).1 hr
        cases ep
        exact ⟨o, g, k _ _ ⟨_, σ2, F2, fpE, hf, e2, repM_im (getD_ok h1 h2 (rep_non.mpr rfl)), fun _ _ z => z, s.sub fun a z => z.elim id fun z => z.elim⟩⟩
      · exact hf.elim
    · exact hf.elim
  · exact h.elim⟩
theorem qe_get2v (hu : X.A.units + 1 < cLine) {i : Nat} (ho : PE X e1 (tVar i)) (h : QO X cc W G e a (ev G Γ a)) (h2 : QO X cc W G e2 b (ev G Γ b)) (m : M2 X e1 "get" apos e e2 cpos) : QE X cc W (.Call (.Attribute e1 "get" apos) [e, e2] [] cpos) (ev G Γ (.get2 (.var i) a b)) :=
  ⟨PE.imp (pe_dget2 hu ho h h2 m) fun σV H Q ⟨σ, F, Q1, E1, er, h, k, kx⟩ => by
  simp only [ev] at h
  split at h
  · rename_i m0 hm0
    obtain ⟨hd, h⟩ := h
    obtain ⟨v, G0, hv, r0, _⟩ := er.look (evP_var hm0)
    obtain ⟨p, rfl, ip⟩ := isDc_ok hd r0
    refine ⟨_, hv, p, rfl, ip, ?_⟩
    refine ⟨σ, F, _, E1, er, h, fun y H1 ⟨my, σ1, F1, G1, hk, e1, r1, dd1, s1⟩ => ?_, kx⟩
    have s1' : Step H F H1 F1 := s1.sub fun _ z => .inl z
    refine ⟨σ1, F1, _, E1, e1, hk, fun z H2 ⟨mz, σ2, F2, G2, hf, e2, r2, dd2, s2⟩ => ?_, fun cls d H' x => kx cls d H' (x.go s1')⟩
    have s2' : Step H1 F1 H2 F2 := s2.sub fun _ z => .inl z
    dsimp only at hf
    cases hc : evP G (.var i) σ2 with
    | none => rw [hc] at hf; exact hf.elim
    | some c =>
      rw [hc] at hf
      cases my with
      | im q =>
        cases mz with
        | im w =>
          dsimp only at hf
          split at hf
          · rename_i r hr
            obtain ⟨v2, G3, hv2, r3, _⟩ := e2.look (evP_var hc)
            rw [hv] at hv2
            cases hv2
            have ry := keepD (s2'.keepOf e1.mut) _ _ (repM_imI.mp r1).1
            obtain ⟨p', o, ep, g, h1, h2⟩ := dget_ok r3 ry hr
            cases ep
            exact ⟨o, g, k _ _ ⟨_, σ2, F2, fpE, hf, e2, repM_im (getD_ok h1 h2 (repM_imI.mp r2).1), fun _ _ z => z, (s1'.trans s2').sub fun a z => z.elim id fun z => z.elim⟩⟩
          · exact hf.elim
        | _ => exact hf.elim
      | _ => exact hf.elim
  · exact h.elim⟩

/-! ### a text's methods -/
theorem qe_sm {o : O2} {id : String} {name : Str} (slot : Slot "str" name id) (ty : typeOf (.builtin id) = pure (.type "method_descriptor")) (rule : MtR X id (fun x xs H Q => ∃ y, xs = [y] ∧ RO2 X.K o x y H Q)) (h1 : QE X cc W e1 (ev G Γ a)) (h2 : QO X cc W G e2 b (ev G Γ b))
    (hs : starEach [e2] X.env = [(false, eval e2 X.env)]) (hbase : attributeBase e1 name X.env (eval e1 X.env) = eval e1 X.env) (hline : (apos.endLine == cpos.line) = true) : QE X cc W (.Call (.Attribute e1 name apos) [e2] [] cpos) (ev G Γ (.sm o a b)) :=
  ⟨PE.imp (pe_m1 slot ty rule h1.pe h2 hs hbase hline) fun σV H Q ⟨σ, F, Q1, E1, er, h, k, kx⟩ => by
  refine le1 er (by simpa only [ev] using h) kx fun x σ1 vx H1 F1 G1 hk e1 r1 d1 s1 => ?_
  split at hk
  · rename_i z
    obtain rfl := rep_str.mp (repM_imI.mp r1).1
    refine ⟨⟨z, rfl⟩, lo1 e1 hk (fun cls d H' x => kx cls d H' (x.go s1.dropR)) fun y σ2 vy H2 F2 Gy hf e2 ry s => ?_⟩
    obtain ⟨w, hw, q⟩ := fin_ok hf
    exact ⟨vy, rfl, _, y, w, fpE, Gy, repM_im (rep_str.mpr rfl), ry, hw, fun v H' Gz rz ext => k v H' ⟨w, σ2, F2, Gz, q, (e2.ext ext).1, rz, (e2.ext ext).2, (s1.dropR.trans s).trans ext.step⟩⟩
  · exact hk.elim⟩
end
end CP
namespace CP
open PySem PySem.Spec PyProof.Rows L2

/-! ### methods of lists -/
theorem imsR {K : PySem.W.Frag} {H : Hp} : ∀ {ds : List D} {vs : List V}, RepDs K H ds vs → RepMs K H (ds.map .im) vs fpE
  | [], vs, r => by
    simp only [RepDs] at r
    simp only [List.map_nil, RepMs]
    exact ⟨r, trivial⟩
  | d :: ds, vs, r => by
    simp only [RepDs] at r
    obtain ⟨v, r', rfl, r1, r2⟩ := r
    simp only [List.map_cons, RepMs]
    exact ⟨v, r', fpE, fpE, rfl, repM_im r1, imsR r2, fun _ z => z.elim, by rw [fpU_E]⟩
theorem RepMs.app {K : PySem.W.Frag} {H : Hp} : ∀ {ms ns : List M} {vs ws : List V} {F G : FP}, RepMs K H ms vs F → RepMs K H ns ws G → Disj F G → RepMs K H (ms ++ ns) (vs ++ ws) (fpU F G)
  | [], ns, vs, ws, F, G, r, q, d => by
    simp only [RepMs] at r
    obtain ⟨rfl, rfl⟩ := r
    rw [show fpU fpE G = G from fp_ext fun a => ⟨fun z => z.elim (fun z => z.elim) id, .inr⟩]
    exact q
  | m :: ms, ns, vs, ws, F, G, r, q, d => by
    simp only [RepMs] at r
    obtain ⟨v, r', F1, F2, rfl, r1, r2, dd, rfl⟩ := r
    simp only [List.cons_append, RepMs]
    refine ⟨v, _, F1, fpU F2 G, rfl, r1, RepMs.app r2 q (fun a z w => d a (.inr z) w), fun a z w => ?_, fp_ext fun a => ?_⟩
    · rcases w with w | w
      · exact dd a z w
      · exact d a (.inl z) w
    · constructor
      · rintro ((z | z) | z)
        · exact .inl z
        · exact .inr (.inl z)
        · exact .inr (.inr z)
      · rintro (z | z | z)
        · exact .inl (.inl z)
        · exact .inl (.inr z)
        · exact .inr z
theorem RepMs.one {K : PySem.W.Frag} {H : Hp} {m : M} {v : V} {F : FP} (r : RepM K H m v F) : RepMs K H [m] [v] F := by
  simp only [RepMs]
  exact ⟨v, [], F, fpE, rfl, r, ⟨rfl, rfl⟩, fun _ _ z => z, by rw [fpU_E]⟩
theorem RepMs.split {K : PySem.W.Frag} {H : Hp} : ∀ {ms : List M} {m : M} {vs : List V} {F : FP}, RepMs K H (ms ++ [m]) vs F → ∃ ws w F1 F2, vs = ws ++ [w] ∧ RepMs K H ms ws F1 ∧ RepM K H m w F2 ∧ Disj F1 F2 ∧ F = fpU F1 F2
  | [], m, vs, F, r => by
    simp only [List.nil_append, RepMs] at r
    obtain ⟨v, r', F1, F2, rfl, r1, ⟨rfl, rfl⟩, d, rfl⟩ := r
    refine ⟨[], v, fpE, F1, rfl, by simp only [RepMs]; exact ⟨trivial, trivial⟩, r1, fun _ z => z.elim, ?_⟩
    rw [fpU_E]
    exact (fp_ext fun a => ⟨.inr, fun z => z.elim (fun z => z.elim) id⟩)
  | x :: ms, m, vs, F, r => by
    simp only [List.cons_append, RepMs] at r
    obtain ⟨v, r', F1, F2, rfl, r1, r2, d, rfl⟩ := r
    obtain ⟨ws, w, F3, F4, rfl, r3, r4, d2, rfl⟩ := RepMs.split r2
    refine ⟨v :: ws, w, fpU F1 F3, F4, rfl, ?_, r4, fun a z y => ?_, fp_ext fun a => ?_⟩
    · simp only [RepMs]
      exact ⟨v, ws, F1, F3, rfl, r1, r3, fun a z y => d a z (.inl y), rfl⟩
    · rcases z with z | z
      · exact d a z (.inr y)
      · exact d2 a z y
    · constructor
      · rintro (z | z | z)
        · exact .inl (.inl z)
        · exact .inl (.inr z)
        · exact .inr z
      · rintro ((z | z) | z)
        · exact .inl z
        · exact .inr (.inl z)
        · exact .inr (.inr z)
theorem last_split {α : Type} {l : List α} {a : α} (h : l[l.length - 1]? = some a) : l = l.dropLast ++ [a] := by
  have hne : l ≠ [] := by rintro rfl; simp at h
  have : l.getLast hne = a := by
    rw [List.getLast_eq_getElem]
    exact (List.getElem?_eq_some_iff.mp h).2
  rw [← this]
  exact (List.dropLast_concat_getLast hne).symm
theorem isLm_ok {K : PySem.W.Frag} {H : Hp} {m : M} {v : V} {Gm : FP} (h : isLm m = true) (r : RepM K H m v Gm) : ∃ a vs, v = .ref a ∧ H a = some (.lst vs) := by
  unfold isLm at h
  split at h
  · obtain ⟨a, ws, rfl, s, _⟩ := repM_lst.mp r; exact ⟨a, _, rfl, s⟩
  · obtain ⟨a, ws, G, rfl, s, _⟩ := repM_nst.mp r; exact ⟨a, _, rfl, s⟩
  · cases h
/-- a list is rewritten at its place -/
theorem upd_lst {K : PySem.W.Frag} {H : Hp} {σ : Env} {σV : L2.St} {F : FP} {p : Addr} {vs ws : List V} (er : EnvR K H σ σV F) (hp : H p = some (.lst vs)) : Keep H (upd H p (.lst ws)) ∧ ∀ a, a ≠ p → upd H p (.lst ws) a = H a := ⟨Keep.upd hp trivial, fun a ha => upd_ne ha⟩
section
variable {X : Cx} {cc : Str → Addr} {W : WX} {G : Glob} {Γ : Nat → Sp} {e e1 e2 e3 : Expr} {a b c : CE} {pos p2 apos cpos pn : Pos} {es : List Expr} {rs : CEs} {n : Nat}
theorem tyL {K : PySem.W.Frag} {H : Hp} {p : Addr} {vs : List V} (h : H p = some (.lst vs)) : tyV K "list" (.ref p) H := .inl ⟨rfl, vs, SqL.of h⟩
theorem qe_pop {p : P} (ho : PE X e1 (LP X.K G p)) (hbase : attributeBase e1 "pop" X.env (eval e1 X.env) = eval e1 X.env) (hline : (apos.endLine == cpos.line) = true) : QE X cc W (.Call (.Attribute e1 "pop" apos) [] [] cpos) (ev G Γ (.mth0 .pop p)) :=
  ⟨PE.imp (pe_bm0 PySem.F.plainAttrs_list PySem.F.slot_list_pop PySem.F.type_list_pop mt_pop ho hbase hline) fun σV H Q ⟨σ, F, Q1, E1, er, h, k, kx⟩ => by
  simp only [ev] at h
  split at h
  · rename_i m hm
    refine ⟨σ, F, m, er, hm, fun v Gm rm sm fo => ?_⟩
    split at h
    · rename_i m' r hmr
      obtain ⟨σ1, hs, q⟩ := bindO_ok h
      unfold mth0M at hmr
      split at hmr
      · rename_i ds
        obtain ⟨d, hd, hmr⟩ := Option.map_eq_some_iff.mp hmr
        cases hmr
        obtain ⟨a, vs, rfl, sa, rs, rfl⟩ := repM_lst.mp rm
        obtain ⟨w, hw, rw'⟩ := rs.get hd
        refine ⟨tyL sa, a, vs, w, rfl, rfl, sa, by rw [← rs.len]; exact hw, ?_⟩
        have kp : Keep H (upd H a (.lst vs.dropLast)) := Keep.upd sa trivial
        obtain ⟨F', e', s'⟩ := fo (upd H a (.lst vs.dropLast)) _ (fpI a fpE) σ1 kp (fun b _ hb => upd_ne fun e => hb (.inl e)) (repM_lst.mpr ⟨a, _, rfl, upd_same, keepDs kp _ _ rs.dropLast, rfl⟩) (fun b z _ => z) hs
        refine k _ _ ⟨_, σ1, F', fpE, q, e', repM_im (keepD kp _ _ rw'), fun _ _ z => z, fun b o hb nb => ?_, fun b z => ?_⟩
        · rw [upd_ne]; exact hb
          rintro rfl
          exact nb (sm b (.inl rfl))
        · rcases z with z | z
          · rcases s' b z with z | z
            · exact .inl z.1
            · exact .inl (sm b z)
          · exact z.elim
      · rename_i ms
        obtain ⟨d, hd, hmr⟩ := Option.map_eq_some_iff.mp hmr
        cases hmr
        obtain ⟨a, vs, Gs, rfl, sa, rs, na, rfl⟩ := repM_nst.mp rm
        rw [last_split hd] at rs
        obtain ⟨ws, w, F1, F2, rfl, r1, r2, dd, rfl⟩ := rs.split
        refine ⟨tyL sa, a, ws ++ [w], w, rfl, rfl, sa, by simp, ?_⟩
        rw [List.dropLast_concat]
        have kp : Keep H (upd H a (.lst ws)) := Keep.upd sa trivial
        have na1 : ∀ b, F1 b → b ≠ a := fun b z e => na (e ▸ .inl z)
        have na2 : ∀ b, F2 b → b ≠ a := fun b z e => na (e ▸ .inr z)
        obtain ⟨F', e', s'⟩ := fo (upd H a (.lst ws)) _ (fpI a F1) σ1 kp (fun b _ hb => upd_ne fun e => hb (.inl e)) (repM_nst.mpr ⟨a, ws, F1, rfl, upd_same, keepMs kp _ _ _ (fun b hb => upd_ne (na1 b hb)) r1, fun z => na1 a z rfl, rfl⟩) (fun b z _ => z.elim .inl fun z => .inr (.inl z)) hs
        have dF : Disj F' F2 := fun b z w => by
          rcases s' b z with z | z
          · exact z.2 (.inr (.inr w))
          · rcases z with z | z
            · exact na2 b w z
            · exact dd b z w
        refine k _ _ ⟨_, σ1, F', F2, q, e', keepM kp _ _ _ (fun b hb => upd_ne (na2 b hb)) r2, dF, fun b o hb nb => ?_, fun b z => ?_⟩
        · rw [upd_ne]; exact hb
          rintro rfl
          exact nb (sm b (.inl rfl))
        · rcases z with z | z
          · rcases s' b z with z | z
            · exact .inl z.1
            · exact .inl (sm b (z.elim .inl fun z => .inr (.inl z)))
          · exact .inl (sm b (.inr (.inr z)))
      · cases ‹MO.pop = MO.reverse›
      · cases hmr
    · exact h.elim
  · exact h.elim⟩
theorem qe_rev {p : P} (ho : PE X e1 (LP X.K G p)) (hbase : attributeBase e1 "reverse" X.env (eval e1 X.env) = eval e1 X.env) (hline : (apos.endLine == cpos.line) = true) : QE X cc W (.Call (.Attribute e1 "reverse" apos) [] [] cpos) (ev G Γ (.mth0 .reverse p)) :=
  ⟨PE.imp (pe_bm0 PySem.F.plainAttrs_list PySem.F.slot_list_reverse PySem.F.type_list_reverse mt_reverse ho hbase hline) fun σV H Q ⟨σ, F, Q1, E1, er, h, k, kx⟩ => by
  simp only [ev] at h
  split at h
  · rename_i m hm
    refine ⟨σ, F, m, er, hm, fun v Gm rm sm fo => ?_⟩
    split at h
    · rename_i m' r hmr
      obtain ⟨σ1, hs, q⟩ := bindO_ok h
      unfold mth0M at hmr
      split at hmr
      · cases ‹MO.reverse = MO.pop›
      · cases ‹MO.reverse = MO.pop›
      · rename_i ds _
        cases hmr
        obtain ⟨a, vs, rfl, sa, rs, rfl⟩ := repM_lst.mp rm
        refine ⟨tyL sa, a, vs, rfl, rfl, sa, ?_⟩
        have kp : Keep H (upd H a (.lst vs.reverse)) := Keep.upd sa trivial
        obtain ⟨F', e', s'⟩ := fo (upd H a (.lst vs.reverse)) _ (fpI a fpE) σ1 kp (fun b _ hb => upd_ne fun e => hb (.inl e)) (repM_lst.mpr ⟨a, _, rfl, upd_same, keepDs kp _ _ rs.rev, rfl⟩) (fun b z _ => z) hs
        refine k _ _ ⟨_, σ1, F', fpE, q, e', repM_im (rep_non.mpr rfl), fun _ _ z => z, fun b o hb nb => ?_, fun b z => ?_⟩
        · rw [upd_ne]; exact hb
          rintro rfl
          exact nb (sm b (.inl rfl))
        · rcases z with z | z
          · rcases s' b z with z | z
            · exact .inl z.1
            · exact .inl (sm b z)
          · exact z.elim
      · cases hmr
    · exact h.elim
  · exact h.elim⟩

theorem foc_var {K : PySem.W.Frag} {H : Hp} {σ : Env} {σV : L2.St} {F : FP} {i : Nat} {m : M} (e : EnvR K H σ σV F) (hs : σ[i]? = some (some m)) : ∃ v Gm, σV[i]? = some (some v) ∧ RepM K H m v Gm ∧ (∀ a, Gm a → F a) ∧ Foc K G H σ σV F (.var i) v Gm := by
  obtain ⟨v, Gm, F', hv, rm, e', d, rfl⟩ := e.take hs
  refine ⟨v, Gm, hv, rm, (fun a z => .inr z), fun H' c' G' σ' kp f rc dg z => ?_⟩
  simp only [setP] at z
  split at z
  · cases z
    have e2 : EnvR K H' (σ.set i none) σV F' := e'.keep kp fun a ha => f a (.inl ha) fun w => d a ha w
    obtain ⟨F3, e3, s3⟩ := e2.put hv rc fun a x y => d a x (dg a y (.inl x))
    rw [List.set_set] at e3
    refine ⟨F3, e3, fun a z => ?_⟩
    rcases s3 a z with z | z
    · exact .inl ⟨.inl z, fun w => d a z w⟩
    · exact .inr z
  · cases z
theorem nst_app {K : PySem.W.Frag} {H : Hp} {ms : List M} {x : M} {p : Addr} {vs : List V} {vx : V} {Gs G1 : FP} (hp : H p = some (.lst vs)) (rs : RepMs K H ms vs Gs) (na : ¬ Gs p) (rx : RepM K H x vx G1) (d : Disj (fpI p Gs) G1) :
    RepM K (upd H p (.lst (vs ++ [vx]))) (.nst (ms ++ [x])) (.ref p) (fpI p (fpU Gs G1)) := by
  have kp : Keep H (upd H p (.lst (vs ++ [vx]))) := Keep.upd hp trivial
  have n1 : ¬ G1 p := fun z => d p (.inl rfl) z
  refine repM_nst.mpr ⟨p, _, fpU Gs G1, rfl, upd_same, ?_, fun z => z.elim na n1, rfl⟩
  exact RepMs.app (keepMs kp _ _ _ (fun a ha => upd_ne fun e => na (e ▸ ha)) rs) (RepMs.one (keepM kp _ _ _ (fun a ha => upd_ne fun e => n1 (e ▸ ha)) rx)) fun a z w => d a (.inr z) w
theorem app_ok {K : PySem.W.Frag} {H : Hp} {m x m' r : M} {v vx : V} {Gm G1 : FP} (rm : RepM K H m v Gm) (rx : RepM K H x vx G1) (d : Disj Gm G1) (e : mth1M .append m x = some (m', r)) :
    ∃ p vs, v = .ref p ∧ Gm p ∧ H p = some (.lst vs) ∧ vs.length < sizeLine ∧ r = .im .non ∧ ∃ G', RepM K (upd H p (.lst (vs ++ [vx]))) m' (.ref p) G' ∧ ∀ a, G' a → Gm a ∨ G1 a := by
  unfold mth1M at e
  split at e
  · rename_i ds _
    obtain ⟨p, vs, rfl, hp, rs, rfl⟩ := repM_lst.mp rm
    split at e
    · rename_i dd
      split at e
      · rename_i hz
        cases e
        have kp : Keep H (upd H p (.lst (vs ++ [vx]))) := Keep.upd hp trivial
        refine ⟨p, vs, rfl, .inl rfl, hp, by rw [← rs.len]; exact hz, rfl, fpI p fpE, repM_lst.mpr ⟨p, _, rfl, upd_same, (keepDs kp _ _ rs).app (RepDs.one (keepD kp _ _ (repM_imI.mp rx).1)), rfl⟩, fun a z => .inl z⟩
      · cases e
    · split at e
      · rename_i hz
        cases e
        refine ⟨p, vs, rfl, .inl rfl, hp, by rw [← rs.len]; exact hz, rfl, _, nst_app hp (imsR rs) (fun z => z) rx d, fun a z => ?_⟩
        rcases z with z | z | z
        · exact .inl (.inl z)
        · exact z.elim
        · exact .inr z
      · cases e
  · rename_i ms _
    obtain ⟨p, vs, Gs, rfl, hp, rs, na, rfl⟩ := repM_nst.mp rm
    split at e
    · rename_i hz
      cases e
      refine ⟨p, vs, rfl, .inl rfl, hp, by rw [← rs.len]; exact hz, rfl, _, nst_app hp rs na rx d, fun a z => ?_⟩
      rcases z with z | z | z
      · exact .inl (.inl z)
      · exact .inl (.inr z)
      · exact .inr z
    · cases e
  · cases ‹MO.append = MO.extend›
  · cases e
theorem app_go {K : PySem.W.Frag} {H H1 : Hp} {σ1 σ2 : Env} {σV : L2.St} {F F1 G1 Gm G' : FP} {p : P} {pa : Addr} {vs ws : List V} {m' : M} (e1 : EnvR K H1 σ1 σV F1) (st : Step H F H1 (fpU F1 G1)) (d1 : Disj F1 G1) (sm : ∀ a, Gm a → F1 a) (hg : Gm pa) (hp : H1 pa = some (.lst vs)) (fo : Foc K G H1 σ1 σV F1 p (.ref pa) Gm)
    (r' : RepM K (upd H1 pa (.lst ws)) m' (.ref pa) G') (s' : ∀ a, G' a → Gm a ∨ G1 a) (hs : setP G p σ1 m' = some σ2) : ∃ F2, EnvR K (upd H1 pa (.lst ws)) σ2 σV F2 ∧ Step H F (upd H1 pa (.lst ws)) F2 := by
  have kp : Keep H1 (upd H1 pa (.lst ws)) := Keep.upd hp trivial
  obtain ⟨F2, e2, s2⟩ := fo _ _ _ _ kp (fun b _ hb => upd_ne fun e => hb (e ▸ hg)) r' (fun b z w => (s' b z).elim id fun z => (d1 b w z).elim) hs
  refine ⟨F2, e2, fun b o hb nb => ?_, fun b z => ?_⟩
  · have q := st.frame b o hb nb
    rw [upd_ne]; exact q
    rintro rfl
    rcases st.new b (.inl (sm b hg)) with z | z
    · exact nb z
    · rw [hb] at z; cases z
  · refine st.new b ?_
    rcases s2 b z with z | z
    · exact .inl z.1
    · exact (s' b z).imp (sm b) id
theorem qe_app {i : Nat} (ho : PE X e1 (tVar i)) (ha : QE X cc W e (ev G Γ a)) (hbase : attributeBase e1 "append" X.env (eval e1 X.env) = eval e1 X.env)
    (hfew : ((backTo cpos (starEach [e] X.env)).all (fun x => !x.1) && (backToKw cpos (keywordEach [] X.env)).all (fun x => x.1.isSome) && decide ([e].length + ([] : List Keyword).length + (if ([] : List Keyword).isEmpty then 0 else 1) < 30)) = true)
    (hline : (apos.endLine == cpos.line) = true) (hs : starEach [e] X.env = (false, eval e X.env) :: starEach [] X.env) : QE X cc W (.Call (.Attribute e1 "append" apos) [e] [] cpos) (ev G Γ (.mth1 .append (.var i) a)) :=
  ⟨PE.imp (pe_bm PySem.F.plainAttrs_list PySem.F.slot_list_append PySem.F.type_list_append mt_append ho (pa_cons ha.pe pa_nil hs) hbase hfew hline hs rfl) fun σV H Q ⟨σ, F, Q1, E1, er, h, k, kx⟩ => by
  simp only [ev] at h
  split at h
  · rename_i m0 hm0
    obtain ⟨hl, h⟩ := h
    rw [if_neg (by decide)] at h
    obtain ⟨v, G0, hv, r0, _⟩ := er.look (evP_var hm0)
    obtain ⟨pa, vs0, rfl, sa0⟩ := isLm_ok hl r0
    refine ⟨_, hv, tyL sa0, le1 er h kx fun x σ1 vx H1 F1 G1 hk e1 r1 d1 s1 => ?_⟩
    split at hk
    · rename_i m hm
      split at hk
      · rename_i m' r hmr
        obtain ⟨σ2, hs, q⟩ := bindO_ok hk
        obtain ⟨v2, Gm, hv2, rm, sm, fo⟩ := foc_var (G := G) e1 (evP_var hm)
        rw [hv] at hv2
        cases hv2
        obtain ⟨p, vs, ev, hg, hp, hz, rfl, G', r', s'⟩ := app_ok rm r1 (fun b z w => d1 b (sm b z) w) hmr
        cases ev
        obtain ⟨F2, e2, st⟩ := app_go e1 s1 d1 sm hg hp fo r' s' hs
        exact ⟨_, vs, vx, rfl, rfl, hp, hz, k _ _ ⟨_, σ2, F2, fpE, q, e2, repM_im (rep_non.mpr rfl), fun _ _ z => z, by rw [fpU_E]; exact st⟩⟩
      · exact hk.elim
    · exact hk.elim
  · exact h.elim⟩
theorem ext_ok {K : PySem.W.Frag} {H : Hp} {m x m' r : M} {v vx : V} {Gm G1 : FP} (rm : RepM K H m v Gm) (rx : RepM K H x vx G1) (e : mth1M .extend m x = some (m', r)) :
    ∃ p b vs ws, v = .ref p ∧ vx = .ref b ∧ Gm p ∧ H p = some (.lst vs) ∧ H b = some (.lst ws) ∧ vs.length + ws.length ≤ sizeLine ∧ r = .im .non ∧ RepM K (upd H p (.lst (vs ++ ws))) m' (.ref p) (fpI p fpE) := by
  unfold mth1M at e
  split at e
  · cases ‹MO.extend = MO.append›
  · cases ‹MO.extend = MO.append›
  · rename_i ds _
    obtain ⟨p, vs, rfl, hp, rs, rfl⟩ := repM_lst.mp rm
    split at e
    · rename_i es
      obtain ⟨b, ws, rfl, hb, qs, rfl⟩ := repM_lst.mp rx
      split at e
      · rename_i hz
        cases e
        have kp : Keep H (upd H p (.lst (vs ++ ws))) := Keep.upd hp trivial
        exact ⟨p, b, vs, ws, rfl, rfl, .inl rfl, hp, hb, by rw [← rs.len, ← qs.len]; exact hz, rfl, repM_lst.mpr ⟨p, _, rfl, upd_same, (keepDs kp _ _ rs).app (keepDs kp _ _ qs), rfl⟩⟩
      · cases e
    · cases e
  · cases e
theorem qe_ext {i : Nat} (ho : PE X e1 (tVar i)) (ha : QO X cc W G e a (ev G Γ a)) (hbase : attributeBase e1 "extend" X.env (eval e1 X.env) = eval e1 X.env)
    (hfew : ((backTo cpos (starEach [e] X.env)).all (fun x => !x.1) && (backToKw cpos (keywordEach [] X.env)).all (fun x => x.1.isSome) && decide ([e].length + ([] : List Keyword).length + (if ([] : List Keyword).isEmpty then 0 else 1) < 30)) = true)
    (hline : (apos.endLine == cpos.line) = true) (hs : starEach [e] X.env = (false, eval e X.env) :: starEach [] X.env) : QE X cc W (.Call (.Attribute e1 "extend" apos) [e] [] cpos) (ev G Γ (.mth1 .extend (.var i) a)) :=
  ⟨PE.imp (pe_bm PySem.F.plainAttrs_list PySem.F.slot_list_extend PySem.F.type_list_extend mt_extend ho (pa_cons ha pa_nil hs) hbase hfew hline hs rfl) fun σV H Q ⟨σ, F, Q1, E1, er, h, k, kx⟩ => by
  simp only [ev] at h
  split at h
  · rename_i m0 hm0
    obtain ⟨hl, h⟩ := h
    rw [if_pos trivial] at h
    obtain ⟨v, G0, hv, r0, _⟩ := er.look (evP_var hm0)
    obtain ⟨pa, vs0, rfl, sa0⟩ := isLm_ok hl r0
    refine ⟨_, hv, tyL sa0, lo1 er h kx fun x σ1 vx H1 F1 G1 hk e1 r1 s1 => ?_⟩
    split at hk
    · rename_i m hm
      split at hk
      · rename_i m' r hmr
        obtain ⟨σ2, hs, q⟩ := bindO_ok hk
        obtain ⟨v2, Gm, hv2, rm, sm, fo⟩ := foc_var (G := G) e1 (evP_var hm)
        rw [hv] at hv2
        cases hv2
        obtain ⟨p, b, vs, ws, ev, rfl, hg, hp, hb, hz, rfl, r'⟩ := ext_ok rm r1 hmr
        cases ev
        obtain ⟨F2, e2, st⟩ := app_go (G1 := fpE) e1 (by rw [fpU_E]; exact s1) (fun _ _ z => z) sm hg hp fo r' (fun b z => z.elim (fun z => .inl (z ▸ hg)) fun z => z.elim) hs
        exact ⟨_, b, vs, ws, rfl, rfl, hp, hb, hz, k _ _ ⟨_, σ2, F2, fpE, q, e2, repM_im (rep_non.mpr rfl), fun _ _ z => z, by rw [fpU_E]; exact st⟩⟩
      · exact hk.elim
    · exact hk.elim
  · exact h.elim⟩
end
end CP
namespace CP
open PySem PySem.Spec PyProof.Rows L2

/-! ### targets -/
def SameO (A : List Nat) (σV σV' : L2.St) : Prop := σV'.length = σV.length ∧ ∀ j, j ∉ A → σV'[j]? = σV[j]?
theorem SameO.refl {A : List Nat} {σV : L2.St} : SameO A σV σV := ⟨rfl, fun _ _ => rfl⟩
theorem SameO.trans {A : List Nat} {a b c : L2.St} (h : SameO A a b) (k : SameO A b c) : SameO A a c := ⟨k.1.trans h.1, fun j hj => (k.2 j hj).trans (h.2 j hj)⟩
theorem SameO.mono {A B : List Nat} {a b : L2.St} (h : SameO A a b) (s : ∀ i ∈ A, i ∈ B) : SameO B a b := ⟨h.1, fun j hj => h.2 j fun z => hj (s j z)⟩
theorem SameO.set {A : List Nat} {a : L2.St} {i : Nat} {v : Option V} (h : i ∈ A) : SameO A a (a.set i v) := ⟨by simp, fun j hj => by
  rw [List.getElem?_set_ne]
  rintro rfl
  exact hj h⟩
def LG (K : PySem.W.Frag) (t : T) (A : List Nat) : TG := fun v σV H Q => ∃ σ F m G σ', EnvR K H σ σV F ∧ RepM K H m v G ∧ Disj F G ∧ bindT t m σ = some σ' ∧ ∀ σV' F', EnvR K H σ' σV' F' → (∀ a, F' a → F a ∨ G a) → SameO A σV σV' → Q σV' H
def LGs (K : PySem.W.Frag) (ts : List T) (A : List Nat) : TGs := fun vs σV H Q => ∃ σ F ds σ', EnvR K H σ σV F ∧ RepDs K H ds vs ∧ bindTs ts ds σ = some σ' ∧ ∀ σV' F', EnvR K H σ' σV' F' → (∀ a, F' a → F a) → SameO A σV σV' → Q σV' H
theorem PG.imp {X : Cx} {e : Expr} {t t' : TG} (h : PG X e t) (i : ∀ v σ H Q, t' v σ H Q → t v σ H Q) : PG X e t' := ⟨fun pins s σ H v u Q I r hw => h.run pins s σ H v u Q I r (i _ _ _ _ hw)⟩
theorem PGs.imp {X : Cx} {e : List Expr} {t t' : TGs} (h : PGs X e t) (i : ∀ v σ H Q, t' v σ H Q → t v σ H Q) : PGs X e t' := ⟨fun pins s σ H v u Q I r hw => h.run pins s σ H v u Q I r (i _ _ _ _ hw)⟩
section
variable {X : Cx} {A : List Nat} {pos : Pos} {e : Expr} {es : List Expr}
theorem qg_v {i : Nat} {x : Str} (h : PG X (.Name x pos) (gName i)) (hA : i ∈ A) : PG X (.Name x pos) (LG X.K (.v i) A) := PG.imp h fun v σV H Q ⟨σ, F, m, G, σ', er, r, d, hb, k⟩ => by
  simp only [bindT] at hb
  split at hb
  · rename_i hi
    cases hb
    obtain ⟨F', e', s'⟩ := er.store hi r d
    exact k _ F' e' s' (SameO.set hA)
  · cases hb
theorem qgs_nil : PGs X [] (LGs X.K [] A) := PGs.imp pgs_nil fun vs σV H Q ⟨σ, F, ds, σ', er, r, hb, k⟩ => by
  cases ds with
  | nil =>
    simp only [bindTs, Option.some.injEq] at hb
    subst hb
    simp only [RepDs] at r
    exact ⟨r, k _ F er (fun _ z => z) SameO.refl⟩
  | cons d ds => simp [bindTs] at hb
theorem qgs_cons {t : T} {ts : List T} (h1 : PG X e (LG X.K t A)) (h2 : PGs X es (LGs X.K ts A)) (hs : (assignEach (e :: es) X.env).map (·.2) = assign e X.env :: (assignEach es X.env).map (·.2)) : PGs X (e :: es) (LGs X.K (t :: ts) A) := PGs.imp (pgs_cons h1 h2 hs) fun vs σV H Q ⟨σ, F, ds, σ', er, r, hb, k⟩ => by
  cases ds with
  | nil => simp [bindTs] at hb
  | cons d ds =>
    simp only [bindTs] at hb
    obtain ⟨σ1, h1, hb⟩ := Option.bind_eq_some_iff.mp hb
    simp only [RepDs] at r
    obtain ⟨v, vr, rfl, rd, rds⟩ := r
    refine ⟨v, vr, rfl, σ, F, .im d, fpE, σ1, er, repM_im rd, fun _ _ z => z, h1, fun σV' F' e' s' so => ⟨σ1, F', ds, σ', e', rds, hb, fun σV2 F2 e2 s2 so2 => k _ F2 e2 (fun a z => (s' a (s2 a z)).elim id fun z => z.elim) (so.trans so2)⟩⟩
theorem tupM_ok {K : PySem.W.Frag} {H : Hp} {m : M} {v : V} {Gm : FP} {ds : List D} (h : RepM K H m v Gm) (e : tupM m = some ds) : ∃ p vs, v = .ref p ∧ SqT K H p vs ∧ RepDs K H ds vs := by
  unfold tupM at e
  split at e
  · cases e; obtain ⟨p, vs, rfl, s, r⟩ := rep_tup.mp (repM_imI.mp h).1; exact ⟨p, vs, rfl, SqT.of s, r⟩
  · cases e; obtain ⟨p, vs, rfl, s, r⟩ := rep_kt.mp (repM_imI.mp h).1; exact ⟨p, vs, rfl, s.sqT, r⟩
  · cases e
theorem bindTs_len : ∀ {ts : List T} {ds : List D} {σ σ' : Env}, bindTs ts ds σ = some σ' → ds.length = ts.length
  | [], [], _, _, _ => rfl
  | t :: ts, d :: ds, σ, σ', h => by
    simp only [bindTs] at h
    obtain ⟨σ1, _, h⟩ := Option.bind_eq_some_iff.mp h
    simp [bindTs_len h]
  | [], _ :: _, _, _, h => by simp [bindTs] at h
  | _ :: _, [], _, _, h => by simp [bindTs] at h
theorem qg_tup {ts : List T} {k : Nat} (hc : X.calm = true) (h : PGs X es (LGs X.K ts A)) (hn : (assignEach es X.env).length = ts.length) (hst : (assignEach es X.env).findIdx? (·.1) = none) : PG X (.Tuple es k pos) (LG X.K (.tup ts) A) := PG.imp (pg_tup hc h hn hst) fun v σV H Q ⟨σ, F, m, G, σ', er, r, d, hb, k⟩ => by
  simp only [bindT] at hb
  obtain ⟨ds, hd, hb⟩ := Option.bind_eq_some_iff.mp hb
  obtain ⟨p, vs, rfl, s, rs⟩ := tupM_ok r hd
  exact ⟨p, vs, rfl, s, by rw [← rs.len]; exact bindTs_len hb, σ, F, ds, σ', er, rs, hb, fun σV' F' e' s' so => k _ F' e' (fun a z => .inl (s' a z)) so⟩
end

/-! ### what a loop walks -/
/-- at every later state -/
def Later (K : PySem.W.Frag) (σV : L2.St) (H1 : Hp) (Gh : FP) (J0 : Env → Prop) (fx : List Nat) (p : Hp → Prop) : Prop :=
  ∀ σ' σV' H' F', EnvR K H' σ' σV' F' → J0 σ' → (∀ j ∈ fx, σV'[j]? = σV[j]?) → Keep H1 H' → (∀ a, Gh a → H' a = H1 a) → p H'
def Walks (K : PySem.W.Frag) (J : It) (ds : List D) (H' : Hp) : Prop :=
  ∀ i, (i < ds.length → J.go i H' ∧ ∀ x H2, J.yld i H' x H2 → ∃ d, ds[i]? = some d ∧ RepD K H2 d x ∧ Ext H' H2 fpE) ∧ (ds.length ≤ i → J.stop i H')
def LI (K : PySem.W.Frag) (cc : Str → Addr) (W : WX) (t : TIt) (fx : List Nat) : L2.TI := fun σV H R => ∃ σ F Q1 E1, EnvR K H σ σV F ∧ t σ Q1 E1 ∧
  (∀ J H', (∃ ds J0 σ' F1 Gh, Q1 ds J0 σ' ∧ EnvR K H' σ' σV F1 ∧ Disj F1 Gh ∧ (∀ a, Gh a → Mut (H' a)) ∧ Step H F H' (fpU F1 Gh) ∧ Later K σV H' Gh J0 fx (Walks K J ds)) → R J H') ∧ ∀ cls d H', PostX K cc H σV F E1 cls d H' → W cls d σV H'
theorem PI.imp {X : Cx} {tg e : Expr} {t t' : L2.TI} (h : PI X tg e t) (i : ∀ σ H Q, t' σ H Q → t σ H Q) : PI X tg e t' := ⟨fun pins s σ H R I hw => h.run pins s σ H R I (i _ _ _ hw)⟩
/-- how a walked thing is held -/
def Held (c : CE) (fx : List Nat) (σV : L2.St) (m : M) (v : V) (F1 Gm : FP) : Prop := (∃ d, m = .im d) ∨ (∃ i, c = .v i ∧ i ∈ fx ∧ σV[i]? = some (some v)) ∨ (isVP c = false ∧ Disj F1 Gm) ∨ ∃ p, c = .p p
def LH (K : PySem.W.Frag) (cc : Str → Addr) (W : WX) (G : Glob) (c : CE) (fx : List Nat) (t : TE) : L2.TE := fun σV H Q => ∃ σ F Q1 E1, EnvR K H σ σV F ∧ bor G c t σ Q1 E1 ∧
  (∀ v H', (∃ m σ' F1 Gm, Q1 m σ' ∧ EnvR K H' σ' σV F1 ∧ RepM K H' m v Gm ∧ Held c fx σV m v F1 Gm ∧ Step H F H' (fpU F1 Gm)) → Q v H') ∧ ∀ cls d H', PostX K cc H σV F E1 cls d H' → W cls d σV H'
section
variable {X : Cx} {cc : Str → Addr} {W : WX} {G : Glob} {Γ : Nat → Sp} {e e1 e2 e3 tg : Expr} {a b c : CE} {t : TE} {fx : List Nat} {pos pn : Pos}
theorem lh_var {i : Nat} (h : PE X e (tVar i)) (hf : i ∈ fx) : PE X e (LH X.K cc W G (.v i) fx t) := PE.imp h fun σV H Q ⟨σ, F, Q1, E1, er, h, k, _⟩ => by
  obtain ⟨m, hm, q⟩ := slot_ok (show slot σ i fun m => Q1 m σ from h)
  obtain ⟨v, Gm, hv, rm, s⟩ := er.look hm
  exact ⟨v, hv, k v H ⟨m, σ, F, Gm, q, er, rm, .inr (.inl ⟨i, rfl, hf, hv⟩), Step.refl.sub fun a z => z.elim id (s a)⟩⟩
theorem lh_p {p : P} (h : PE X e (LP X.K G p)) : PE X e (LH X.K cc W G (.p p) fx t) := PE.imp h fun σV H Q ⟨σ, F, Q1, E1, er, h, k, _⟩ => by
  obtain ⟨m, hm, q⟩ := fin_ok (show fin (evP G p σ) σ Q1 from h)
  exact ⟨σ, F, m, er, hm, fun v Gm rm s _ => k v H ⟨m, σ, F, Gm, q, er, rm, .inr (.inr (.inr ⟨p, rfl⟩)), Step.refl.sub fun a z => z.elim id (s a)⟩⟩
theorem lh_gen (hc : isVP c = false) (h : QE X cc W e t) : PE X e (LH X.K cc W G c fx t) := PE.imp h.pe fun σV H Q ⟨σ, F, Q1, E1, er, h, k, kx⟩ => by
  rw [bor_gen hc] at h
  exact ⟨σ, F, Q1, E1, er, h, fun v H' ⟨m, σ', F1, Gm, q, e1, rm, d, st⟩ => k v H' ⟨m, σ', F1, Gm, q, e1, rm, .inr (.inr (.inl ⟨hc, d⟩)), st⟩, kx⟩
/-- a sequence that is held -/
theorem held_seq {K : PySem.W.Frag} {H1 : Hp} {σ1 : Env} {σV : L2.St} {F1 Gm : FP} {m : M} {v : V} {ds : List D} (e1 : EnvR K H1 σ1 σV F1) (rm : RepM K H1 m v Gm) (hd : Held c fx σV m v F1 Gm) (hs : seqM m = some ds) :
    ∃ (p : Addr) (Gh : FP), v = .ref p ∧ Disj F1 Gh ∧ (∀ a, Gh a → Gm a) ∧ (((∃ xs, SqL K H1 p xs) ∧ Later K σV H1 Gh (stays c m) fx fun H' => ∃ xs, SqL K H' p xs ∧ RepDs K H' ds xs) ∨ ((∃ xs, SqT K H1 p xs) ∧ Later K σV H1 Gh (stays c m) fx fun H' => ∃ xs, SqT K H' p xs ∧ RepDs K H' ds xs)) := by
  unfold seqM at hs
  split at hs
  · cases hs
    obtain ⟨p, vs, rfl, s, r⟩ := rep_tup.mp (repM_imI.mp rm).1
    exact ⟨p, fpE, rfl, fun _ _ z => z, fun _ z => z.elim, .inr ⟨⟨vs, SqT.of s⟩, fun σ' σV' H' F' _ _ _ k _ => ⟨vs, SqT.of (k.tup _ _ s), keepDs k _ _ r⟩⟩⟩
  · cases hs
    obtain ⟨p, vs, rfl, s, r⟩ := rep_flst.mp (repM_imI.mp rm).1
    exact ⟨p, fpE, rfl, fun _ _ z => z, fun _ z => z.elim, .inl ⟨⟨vs, s.sqL⟩, fun σ' σV' H' F' _ _ _ k _ => ⟨vs, (k.sqF s).sqL, keepDs k _ _ r⟩⟩⟩
  · cases hs
    obtain ⟨p, vs, rfl, s, r⟩ := rep_kt.mp (repM_imI.mp rm).1
    exact ⟨p, fpE, rfl, fun _ _ z => z, fun _ z => z.elim, .inr ⟨⟨vs, s.sqT⟩, fun σ' σV' H' F' _ _ _ k _ => ⟨vs, (k.sqK s).sqT, keepDs k _ _ r⟩⟩⟩
  · rename_i ds'
    cases hs
    obtain ⟨p, vs, rfl, s, r, rfl⟩ := repM_lst.mp rm
    rcases hd with ⟨d, hd⟩ | ⟨i, rfl, hf, hv⟩ | ⟨hc, dj⟩ | ⟨q, rfl⟩
    · cases hd
    · refine ⟨p, fpE, rfl, fun _ _ z => z, fun _ z => z.elim, .inl ⟨⟨vs, SqL.of s⟩, fun σ' σV' H' F' e' j sv k _ => ?_⟩⟩
      obtain ⟨w, Gw, hw, rw', _⟩ := e'.look (show σ'[i]? = some (some (.lst ds)) from j)
      rw [sv i hf, hv] at hw
      cases hw
      obtain ⟨p', vs', ep, s', r', _⟩ := repM_lst.mp rw'
      cases ep
      exact ⟨vs', SqL.of s', r'⟩
    · exact ⟨p, fpI p fpE, rfl, dj, fun _ z => z, .inl ⟨⟨vs, SqL.of s⟩, fun σ' σV' H' F' e' j sv k g => ⟨vs, SqL.of ((g p (.inl rfl)).trans s), keepDs k _ _ r⟩⟩⟩
    · exact ⟨p, fpE, rfl, fun _ _ z => z, fun _ z => z.elim, .inl ⟨⟨vs, SqL.of s⟩, fun σ' σV' H' F' e' j sv k g => (show False from j).elim⟩⟩
  · cases hs
theorem walkL {K : PySem.W.Frag} {H' : Hp} {p : Addr} {ds : List D} (h : ∃ xs, SqL K H' p xs ∧ RepDs K H' ds xs) : Walks K (Itl K p) ds H' := fun i => by
  obtain ⟨xs, s, r⟩ := h
  refine ⟨fun hi => ?_, fun hi => ⟨xs, s, by rw [← r.len]; exact hi⟩⟩
  obtain ⟨v, hv, rv⟩ := r.get (List.getElem?_eq_getElem hi)
  refine ⟨⟨xs, v, s, hv⟩, fun x H2 ⟨e, hx⟩ => ?_⟩
  subst e
  have := hx xs s
  rw [hv] at this
  cases this
  exact ⟨_, List.getElem?_eq_getElem hi, rv, Ext.refl⟩
theorem walkT {K : PySem.W.Frag} {H' : Hp} {p : Addr} {ds : List D} (h : ∃ xs, SqT K H' p xs ∧ RepDs K H' ds xs) : Walks K (Itt K p) ds H' := fun i => by
  obtain ⟨xs, s, r⟩ := h
  refine ⟨fun hi => ?_, fun hi => ⟨xs, s, by rw [← r.len]; exact hi⟩⟩
  obtain ⟨v, hv, rv⟩ := r.get (List.getElem?_eq_getElem hi)
  refine ⟨⟨xs, v, s, hv⟩, fun x H2 ⟨e, hx⟩ => ?_⟩
  subst e
  have := hx xs s
  rw [hv] at this
  cases this
  exact ⟨_, List.getElem?_eq_getElem hi, rv, Ext.refl⟩
theorem walkS {K : PySem.W.Frag} {H' : Hp} {z : Str} : Walks K (Its z) (z.cps.toList.map fun c => .str ⟨#[c]⟩) H' := fun i => by
  rw [List.length_map, Array.length_toList]
  refine ⟨fun hi => ⟨hi, fun x H2 ⟨e, c, hc, hx⟩ => ?_⟩, fun hi => hi⟩
  subst e hx
  exact ⟨.str ⟨#[c]⟩, by rw [List.getElem?_map, Array.getElem?_toList, hc]; rfl, rep_str.mpr rfl, Ext.refl⟩
theorem walkR {K : PySem.W.Frag} {H' : Hp} {lo : Int} {n : Nat} : Walks K (Itr lo n) ((List.range n).map fun (k : Nat) => .int (lo + (k : Int))) H' := fun i => by
  rw [List.length_map, List.length_range]
  refine ⟨fun hi => ⟨hi, fun x H2 ⟨e, hx⟩ => ?_⟩, fun hi => hi⟩
  subst e hx
  exact ⟨.int (lo + i), by rw [List.getElem?_map, List.getElem?_range hi]; rfl, rep_int.mpr rfl, Ext.refl⟩
/-- a list, a tuple, a text -/
def iAny (K : PySem.W.Frag) (tl : L2.TE) : L2.TI := fun σ H R => tl σ H fun x H1 => (∃ a, x = .ref a ∧ (∃ xs, SqL K H1 a xs) ∧ R (Itl K a) H1) ∨ (∃ a, x = .ref a ∧ (∃ xs, SqT K H1 a xs) ∧ R (Itt K a) H1) ∨ ∃ z, x = .str z ∧ R (Its z) H1
theorem pi_any {tl : L2.TE} (hl : PE X e tl) : PI X tg e (iAny X.K tl) := by
  refine ⟨fun pins s σ H R I h => thn (hl.run pins s σ H _ I h) fun v s1 ⟨x, H1, I1, r1, q1⟩ => ?_⟩
  rcases q1 with ⟨a, rfl, ⟨xs, hq⟩, q⟩ | ⟨a, rfl, ⟨xs, hq⟩, q⟩ | ⟨z, rfl, q⟩
  · cases r1
    obtain ⟨its, rv, p, hz⟩ := I1.list hq
    exact wpAny_pyIter_list p.isList (pi_one (tk := s1.toks) I1 _ (turn_list a _) ⟨_, Heap.get?_push_size _ rfl, rfl, rfl⟩ q)
  · cases r1
    obtain ⟨its, rv, p, hz⟩ := I1.tuple hq
    exact wpAny_pyIter_tuple (show s1.heap.IsTuple a its.toArray from p) (pi_one (tk := s1.toks) I1 _ (turn_tuple a _) ⟨_, Heap.get?_push_size _ rfl, rfl, rfl⟩ q)
  · obtain ⟨t, rfl⟩ := r1
    cases ha : z.cps.all (· < 128)
    · exact wpAny_pyIter_wide ha (pi_one (tk := s1.toks) I1 _ (turn_str _ z t "str_iterator" (.inr rfl)) ⟨_, Heap.get?_push_size _ rfl, rfl, rfl⟩ q)
    · exact wpAny_pyIter_ascii ha (pi_one (tk := s1.toks) I1 _ (turn_str _ z t "str_ascii_iterator" (.inl rfl)) ⟨_, Heap.get?_push_size _ rfl, rfl, rfl⟩ q)
theorem qi_seq (h : PE X e (LH X.K cc W G a fx (ev G Γ a))) : PI X tg e (LI X.K cc W (evI G Γ (.seq a)) fx) := PI.imp (pi_any h) fun σV H R ⟨σ, F, Q1, E1, er, h, k, kx⟩ => by
  simp only [evI] at h
  refine ⟨σ, F, _, E1, er, h, fun v H1 ⟨m, σ1, F1, Gm, hq, e1, rm, hd, st⟩ => ?_, kx⟩
  split at hq
  · rename_i ds hds
    have key : (∃ ds', seqM m = some ds' ∧ ds' = ds) ∨ ∃ z, m = .im (.str z) ∧ ds = z.cps.toList.map fun c => .str ⟨#[c]⟩ := by
      unfold itemsM at hds
      split at hds
      · cases hds; exact .inr ⟨_, rfl, rfl⟩
      · exact .inl ⟨ds, hds, rfl⟩
    rcases key with ⟨ds', hs, rfl⟩ | ⟨z, rfl, rfl⟩
    · obtain ⟨p, Gh, rfl, dj, sub, h⟩ := held_seq e1 rm hd hs
      have mu : ∀ a, Gh a → Mut (H1 a) := fun a z => mutM m _ _ rm a (sub a z)
      have st' : Step H F H1 (fpU F1 Gh) := st.sub fun a z => z.imp id (sub a)
      rcases h with ⟨hx, hl⟩ | ⟨hx, hl⟩
      · exact .inl ⟨p, rfl, hx, k _ _ ⟨ds', _, σ1, F1, Gh, hq, e1, dj, mu, st', fun σ' σV' H' F' e' j sv kp g => walkL (hl σ' σV' H' F' e' j sv kp g)⟩⟩
      · exact .inr (.inl ⟨p, rfl, hx, k _ _ ⟨ds', _, σ1, F1, Gh, hq, e1, dj, mu, st', fun σ' σV' H' F' e' j sv kp g => walkT (hl σ' σV' H' F' e' j sv kp g)⟩⟩)
    · obtain rfl := rep_str.mp (repM_imI.mp rm).1
      exact .inr (.inr ⟨z, rfl, k _ _ ⟨_, _, σ1, F1, fpE, hq, e1, fun _ _ z => z, fun _ z => z.elim, st.sub fun a z => z.elim .inl fun z => z.elim, fun σ' σV' H' F' e' j sv kp g => walkS⟩⟩)
  · exact hq.elim
theorem qi_rng1 (hg : Gl X "range") (hm : X.mg "range" = none) (h : QE X cc W e (ev G Γ a)) (hs : starEach [e] X.env = [(false, eval e X.env)]) : PI X tg (.Call (.Name "range" pn) [e] [] pos) (LI X.K cc W (evI G Γ (.rng1 a)) fx) := PI.imp (pi_range1 hg hm (pa_cons h.pe pa_nil hs) hs) fun σV H R ⟨σ, F, Q1, E1, er, h, k, kx⟩ => by
  simp only [evI] at h
  refine le1 er h kx fun m σ1 v H1 F1 G1 hq e1 r1 d1 s1 => ?_
  split at hq
  · rename_i n
    obtain rfl := rep_int.mp (repM_imI.mp r1).1
    refine ⟨n, rfl, hq.1.1, hq.1.2, k _ _ ⟨_, _, σ1, F1, fpE, hq.2, e1, fun _ _ z => z, fun _ z => z.elim, s1.sub fun a z => z.elim .inl fun z => z.elim, fun σ' σV' H' F' e' j sv kp g => ?_⟩⟩
    have := walkR (K := X.K) (H' := H') (lo := 0) (n := n.toNat)
    simp only [Int.zero_add] at this
    exact this
  · exact hq.elim
theorem qi_rng2 (hg : Gl X "range") (hm : X.mg "range" = none) (h : QE X cc W e1 (ev G Γ a)) (h2 : QE X cc W e2 (ev G Γ b)) (hs : starEach [e1, e2] X.env = [(false, eval e1 X.env), (false, eval e2 X.env)]) (hs2 : starEach [e2] X.env = [(false, eval e2 X.env)]) : PI X tg (.Call (.Name "range" pn) [e1, e2] [] pos) (LI X.K cc W (evI G Γ (.rng2 a b)) fx) := PI.imp (pi_range2 hg hm (pa_cons h.pe (pa_cons h2.pe pa_nil hs2) (by rw [hs, hs2])) hs hs2) fun σV H R ⟨σ, F, Q1, E1, er, h, k, kx⟩ => by
  simp only [evI] at h
  refine le1 er h kx fun m σ1 v H1 F1 G1 hq1 e1 r1 d1 s1 => ?_
  refine le1 e1 hq1 (fun cls d H' x => kx cls d H' (x.go s1.dropR)) fun m2 σ2 v2 H2 F2 G2 hq e2 r2 d2 s2 => ?_
  split at hq
  · rename_i i j
    obtain rfl := rep_int.mp (repM_imI.mp r1).1
    obtain rfl := rep_int.mp (repM_imI.mp r2).1
    exact ⟨i, j, rfl, hq.1, k _ _ ⟨_, _, σ2, F2, fpE, hq.2, e2, fun _ _ z => z, fun _ z => z.elim, (s1.dropR.trans s2).sub fun a z => z.elim .inl fun z => z.elim, fun σ' σV' H' F' e' j sv kp g => walkR⟩⟩
  · exact hq.elim
end
end CP
namespace CP
open PySem PySem.Spec PyProof.Rows L2

/-! ### statements -/
def EndS (K : PySem.W.Frag) (H : Hp) (σV : L2.St) (F : FP) (A : List Nat) (q : Env → Prop) (σV' : L2.St) (H' : Hp) : Prop := ∃ σ' F1, q σ' ∧ EnvR K H' σ' σV' F1 ∧ Step H F H' F1 ∧ SameO A σV σV'
def EndR (K : PySem.W.Frag) (H : Hp) (σV : L2.St) (F : FP) (A : List Nat) (q : M → Env → Prop) (v : V) (H' : Hp) : Prop := ∃ m σ' σV' F1 G, q m σ' ∧ EnvR K H' σ' σV' F1 ∧ RepM K H' m v G ∧ Disj F1 G ∧ Step H F H' (fpU F1 G) ∧ SameO A σV σV'
def EndX (K : PySem.W.Frag) (cc : Str → Addr) (H : Hp) (σV : L2.St) (F : FP) (A : List Nat) (q : QX) (cls : Value) (d : Option Addr) (σV' : L2.St) (H' : Hp) : Prop := ∃ x σ' F1, q x σ' ∧ EnvR K H' σ' σV' F1 ∧ Step H F H' F1 ∧ XR K cc H' x cls d ∧ SameO A σV σV'
structure EndsOk (K : PySem.W.Frag) (cc : Str → Addr) (W : WX) (A : List Nat) (H : Hp) (σV : L2.St) (F : FP) (Kk : Ks) (D : Ends) : Prop where
  nx : ∀ σV' H', EndS K H σV F A Kk.nx σV' H' → D.nx σV' H'
  bk : ∀ σV' H', EndS K H σV F A Kk.bk σV' H' → D.bk σV' H'
  ct : ∀ σV' H', EndS K H σV F A Kk.ct σV' H' → D.ct σV' H'
  rt : ∀ v H', EndR K H σV F A Kk.rt v H' → D.rt v H'
  ex : ∀ cls d σV' H', EndX K cc H σV F A Kk.ex cls d σV' H' → W cls d σV' H'
def LS (K : PySem.W.Frag) (cc : Str → Addr) (W : WX) (A : List Nat) (t : TS) : L2.TS := fun D σV H => ∃ σ F Kk, EnvR K H σ σV F ∧ t Kk σ ∧ EndsOk K cc W A H σV F Kk D
section
variable {K : PySem.W.Frag} {cc : Str → Addr} {W : WX} {A B : List Nat} {H H1 H' : Hp} {σV σV1 σV' : L2.St} {F F1 F2 : FP} {Kk : Ks} {D : Ends}
theorem EndS.go {q : Env → Prop} (s : Step H F H1 F1) (so : SameO A σV σV1) (h : EndS K H1 σV1 F1 A q σV' H') : EndS K H σV F A q σV' H' := by
  obtain ⟨σ', F2, hq, e, st, so2⟩ := h
  exact ⟨σ', F2, hq, e, s.trans st, so.trans so2⟩
theorem EndR.go {q : M → Env → Prop} {v : V} (s : Step H F H1 F1) (so : SameO A σV σV1) (h : EndR K H1 σV1 F1 A q v H') : EndR K H σV F A q v H' := by
  obtain ⟨m, σ', σV2, F2, G, hq, e, r, d, st, so2⟩ := h
  exact ⟨m, σ', σV2, F2, G, hq, e, r, d, s.trans st, so.trans so2⟩
theorem EndX.go {q : QX} {cls : Value} {d : Option Addr} (s : Step H F H1 F1) (so : SameO A σV σV1) (h : EndX K cc H1 σV1 F1 A q cls d σV' H') : EndX K cc H σV F A q cls d σV' H' := by
  obtain ⟨x, σ', F2, hq, e, st, xr, so2⟩ := h
  exact ⟨x, σ', F2, hq, e, s.trans st, xr, so.trans so2⟩
theorem EndsOk.go (o : EndsOk K cc W A H σV F Kk D) (s : Step H F H1 F1) (so : SameO A σV σV1) : EndsOk K cc W A H1 σV1 F1 Kk D :=
  ⟨fun _ _ h => o.nx _ _ (h.go s so), fun _ _ h => o.bk _ _ (h.go s so), fun _ _ h => o.ct _ _ (h.go s so), fun _ _ h => o.rt _ _ (h.go s so), fun _ _ _ _ h => o.ex _ _ _ _ (h.go s so)⟩
theorem EndsOk.sub (o : EndsOk K cc W A H σV F Kk D) (s : ∀ i ∈ B, i ∈ A) : EndsOk K cc W B H σV F Kk D :=
  ⟨fun _ _ ⟨a, b, c, d, e, f⟩ => o.nx _ _ ⟨a, b, c, d, e, f.mono s⟩, fun _ _ ⟨a, b, c, d, e, f⟩ => o.bk _ _ ⟨a, b, c, d, e, f.mono s⟩, fun _ _ ⟨a, b, c, d, e, f⟩ => o.ct _ _ ⟨a, b, c, d, e, f.mono s⟩,
   fun _ _ ⟨m, a, b, c, g, h1, h2, h3, h4, h5, f⟩ => o.rt _ _ ⟨m, a, b, c, g, h1, h2, h3, h4, h5, f.mono s⟩, fun _ _ _ _ ⟨x, a, b, c, d, e, xr, f⟩ => o.ex _ _ _ _ ⟨x, a, b, c, d, e, xr, f.mono s⟩⟩
theorem EndsOk.kx (o : EndsOk K cc W A H σV F Kk D) : ∀ cls d H', PostX K cc H σV F Kk.ex cls d H' → W cls d σV H' := fun cls d H' ⟨x, σ', F1, hx, e, s, xr⟩ => o.ex cls d σV H' ⟨x, σ', F1, hx, e, s, xr, SameO.refl⟩
end
section
variable {X : Cx} {cc : Str → Addr} {W : WX} {G : Glob} {Γ : Nat → Sp} {A Ab : List Nat} {e e1 e2 e3 tg iter : Expr} {a b c : CE} {s : CS} {ss s1 s2 : CSs} {pos pn p2 : Pos} {st : Stmt} {sts body b1 b2 : List Stmt} {es : List Expr} {rs : CEs} {n : Nat}
def QS (X : Cx) (cc : Str → Addr) (W : WX) (A : List Nat) (st : Stmt) (t : TS) : Prop := PS X st (LS X.K cc W A t)
def QSs (X : Cx) (cc : Str → Addr) (W : WX) (A : List Nat) (st : List Stmt) (t : TS) : Prop := PSs X st (LS X.K cc W A t)
theorem qss_nil : QSs X cc W A [] (xss G Γ .nil) := PSs.imp pss_nil fun D σV H ⟨σ, F, Kk, er, h, ok⟩ => by
  simp only [xss] at h
  exact ok.nx _ _ ⟨σ, F, h, er, Step.refl, SameO.refl⟩
theorem qss_cons (h1 : QS X cc W A st (xs G Γ s)) (h2 : QSs X cc W A sts (xss G Γ ss)) : QSs X cc W A (st :: sts) (xss G Γ (.cons s ss)) := PSs.imp (pss_cons h1 h2) fun D σV H ⟨σ, F, Kk, er, h, ok⟩ => by
  simp only [xss] at h
  exact ⟨σ, F, _, er, h, fun σV' H' ⟨σ', F1, hq, e1, st, so⟩ => ⟨σ', F1, Kk, e1, hq, ok.go st so⟩, ok.bk, ok.ct, ok.rt, ok.ex⟩
theorem qs_asg {t : T} (he : QE X cc W e (ev G Γ a)) (hg : PG X tg (LG X.K t A)) (hs : swapsWithSole [tg] e pos.line X.env = pure false) (hw : swappedStores [tg] e X.env = pure none) (h1 : (assignEach [tg] X.env).map (·.2) = [assign tg X.env]) : QS X cc W A (.Assign [tg] e pos) (xs G Γ (.asg t a)) :=
  PS.imp (ps_asg he.pe hg hs hw h1) fun D σV H ⟨σ, F, Kk, er, h, ok⟩ => by
  simp only [xs] at h
  refine le1 er h ok.kx fun m σ1 v H1 F1 G1 hk e1 r1 d1 st => ?_
  obtain ⟨σ2, hb, q⟩ := bindO_ok hk
  exact ⟨σ1, F1, m, G1, σ2, e1, r1, d1, hb, fun σV' F' e' s' so => ok.nx _ _ ⟨σ2, F', q, e', st.sub s', so⟩⟩
def setV : List Nat → List V → L2.St → L2.St
  | i :: is, v :: vs, σ => setV is vs (σ.set i (some v))
  | _, _, σ => σ
theorem par_ok {K : PySem.W.Frag} {H : Hp} : ∀ {is : List Nat} {ms : List M} {vs : List V} {σ σ' : Env} {σV : L2.St} {F Gm : FP}, EnvR K H σ σV F → RepMs K H ms vs Gm → Disj F Gm → parM is ms σ = some σ' → (∀ i ∈ is, i ∈ A) →
    ∃ F', EnvR K H σ' (setV is vs σV) F' ∧ (∀ a, F' a → F a ∨ Gm a) ∧ SameO A σV (setV is vs σV)
  | [], [], vs, σ, σ', σV, F, Gm, er, r, d, h, _ => by
    simp only [parM, Option.some.injEq] at h
    subst h
    exact ⟨F, by simpa only [setV] using er, fun _ z => .inl z, by simp only [setV]; exact SameO.refl⟩
  | i :: is, m :: ms, vs, σ, σ', σV, F, Gm, er, r, d, h, hA => by
    simp only [RepMs] at r
    obtain ⟨v, vr, G1, G2, rfl, r1, r2, d12, rfl⟩ := r
    simp only [parM] at h
    split at h
    · rename_i hi
      obtain ⟨F1, e1, s1⟩ := er.store hi r1 (fun a z w => d a z (.inl w))
      obtain ⟨F2, e2, s2, so⟩ := par_ok e1 r2 (fun a z w => by
        rcases s1 a z with z | z
        · exact d a z (.inr w)
        · exact d12 a z w) h (fun j hj => hA j (by simp [hj]))
      refine ⟨F2, by simpa only [setV] using e2, fun a z => ?_, ?_⟩
      · rcases s2 a z with z | z
        · exact (s1 a z).imp id .inl
        · exact .inr (.inr z)
      · simp only [setV]
        exact (SameO.set (hA i (by simp))).trans so
    · cases h
  | [], _ :: _, _, _, _, _, _, _, _, _, _, h, _ => by simp [parM] at h
  | _ :: _, [], _, _, _, _, _, _, _, _, _, h, _ => by simp [parM] at h
theorem parM_len : ∀ {is : List Nat} {ms : List M} {σ σ' : Env}, parM is ms σ = some σ' → ms.length = is.length
  | [], [], _, _, _ => rfl
  | i :: is, m :: ms, σ, σ', h => by
    simp only [parM] at h
    split at h
    · simp [parM_len h]
    · cases h
  | [], _ :: _, _, _, h => by simp [parM] at h
  | _ :: _, [], _, _, h => by simp [parM] at h
theorem par_go {is : List Nat} {D : Ends} {σV : L2.St} {H : Hp} (hA : ∀ i ∈ is, i ∈ A) (h : LS X.K cc W A (xs G Γ (.par is rs)) D σV H) : LMs X.K cc W n (evs G Γ rs) σV H fun vs H1 => vs.length = is.length ∧ D.nx (setV is vs σV) H1 := by
  obtain ⟨σ, F, Kk, er, h, ok⟩ := h
  simp only [xs] at h
  refine ⟨σ, F, _, _, er, h, fun vs H1 ⟨ms, σ1, F1, Gm, hq, _, e1, r1, d1, st⟩ => ?_, ok.kx⟩
  obtain ⟨σ2, hp, q⟩ := bindO_ok hq
  obtain ⟨F2, e2, s2, so⟩ := par_ok e1 r1 d1 hp hA
  exact ⟨by rw [← r1.len]; exact parM_len hp, ok.nx _ _ ⟨σ2, F2, q, e2, st.sub s2, so⟩⟩
theorem qs_par2 {i j : Nat} {x y : Str} {px py pt : Pos} {kt k2 pt2} (hc : X.calm = true) (hN : X.N.Nodup) (hi : X.N[i]? = some x) (hj : X.N[j]? = some y) (hij : i ≠ j) (hx : X.env.scope.names.lookup x = some .local) (hy : X.env.scope.names.lookup y = some .local) (ha : PA X [e1, e2] (LMs X.K cc W n (evs G Γ rs)))
    (hw : swappedStores [.Tuple [.Name x px, .Name y py] kt pt] (.Tuple [e1, e2] k2 pt2) X.env = pure (some [x, y])) (hs : swapsWithSole [.Tuple [.Name x px, .Name y py] kt pt] (.Tuple [e1, e2] k2 pt2) pos.line X.env = pure false) (hA : ∀ l ∈ [i, j], l ∈ A) :
    QS X cc W A (.Assign [.Tuple [.Name x px, .Name y py] kt pt] (.Tuple [e1, e2] k2 pt2) pos) (xs G Γ (.par [i, j] rs)) :=
  PS.imp (ps_par hc hN hi hj hij hx hy ha hw hs) fun D σV H h => by
  obtain ⟨σ, F, Q1, E1, er, h, k, kx⟩ := par_go (n := n) hA h
  refine ⟨σ, F, Q1, E1, er, h, fun vs H1 z => ?_, kx⟩
  obtain ⟨hl, q⟩ := k vs H1 z
  match vs, hl with
  | [v, w], _ => exact ⟨v, w, rfl, q⟩
theorem qs_par3 {i j l : Nat} {x y z : Str} {px py pz pt : Pos} {kt k2 pt2} (hc : X.calm = true) (hN : X.N.Nodup) (hi : X.N[i]? = some x) (hj : X.N[j]? = some y) (hl : X.N[l]? = some z) (hij : i ≠ j) (hil : i ≠ l) (hjl : j ≠ l) (hx : X.env.scope.names.lookup x = some .local) (hy : X.env.scope.names.lookup y = some .local) (hz : X.env.scope.names.lookup z = some .local) (ha : PA X [e1, e2, e3] (LMs X.K cc W n (evs G Γ rs)))
    (hw : swappedStores [.Tuple [.Name x px, .Name y py, .Name z pz] kt pt] (.Tuple [e1, e2, e3] k2 pt2) X.env = pure (some [x, y, z])) (hs : swapsWithSole [.Tuple [.Name x px, .Name y py, .Name z pz] kt pt] (.Tuple [e1, e2, e3] k2 pt2) pos.line X.env = pure false) (hA : ∀ m ∈ [i, j, l], m ∈ A) :
    QS X cc W A (.Assign [.Tuple [.Name x px, .Name y py, .Name z pz] kt pt] (.Tuple [e1, e2, e3] k2 pt2) pos) (xs G Γ (.par [i, j, l] rs)) :=
  PS.imp (ps_par3 hc hN hi hj hl hij hil hjl hx hy hz ha hw hs) fun D σV H h => by
  obtain ⟨σ, F, Q1, E1, er, h, k, kx⟩ := par_go (n := n) hA h
  refine ⟨σ, F, Q1, E1, er, h, fun vs H1 z => ?_, kx⟩
  obtain ⟨hl, q⟩ := k vs H1 z
  match vs, hl with
  | [u, v, w], _ => exact ⟨u, v, w, rfl, q⟩
/-- a op= b of ints, of texts -/
def PIpR (K : PySem.W.Frag) (o : O2) : TIp := fun vx vy H Q => ∃ x y z Gx Gy, RepM K H x vx Gx ∧ RepM K H y vy Gy ∧ augM o x y = some z ∧ Res K z H Q
theorem qs_aug {i : Nat} {x : Str} {o : O2} {op : Operator} (hN : X.N.Nodup) (hi : X.N[i]? = some x) (hx : Loc X.env.scope x) (he : QE X cc W e (ev G Γ a)) (ho : PIp X op (PIpR X.K o)) (hf : X.fn x = true ∨ X.env.scope.names.lookup x = some .local) (hA : i ∈ A) : QS X cc W A (.AugAssign (.Name x pn) op e pos) (xs G Γ (.aug i o a)) :=
  PS.imp (ps_aug hN hi hx he.pe ho hf) fun D σV H ⟨σ, F, Kk, er, h, ok⟩ => by
  simp only [xs] at h
  obtain ⟨m0, hm0, h⟩ := slot_ok h
  obtain ⟨v0, _, hv0, _, _⟩ := er.look hm0
  refine ⟨v0, hv0, le1 er h ok.kx fun y σ1 vy H1 F1 G1 hk e1 r1 d1 st => ?_⟩
  obtain ⟨m, hm, hf⟩ := slot_ok hk
  obtain ⟨z, hz, q⟩ := fin_ok hf
  obtain ⟨v, Gm, hv, rm, sm⟩ := e1.look hm
  rw [hv0] at hv
  cases hv
  refine ⟨m, y, z, Gm, G1, rm, r1, hz, fun w H2 Gz rz ext => ?_⟩
  have hiσ : i < σ1.length := (List.getElem?_eq_some_iff.mp hm).1
  obtain ⟨e2, d2⟩ := e1.ext ext
  obtain ⟨F3, e3, s3⟩ := e2.store hiσ rz d2
  exact ok.nx _ _ ⟨_, F3, q, e3, ((st.dropR).trans ext.step).sub s3, SameO.set hA⟩
theorem qs_exp (he : QE X cc W e (ev G Γ a)) (hs : swapsWith e none pos.line X.env = pure false) : QS X cc W A (.Expr e pos) (xs G Γ (.exp a)) :=
  PS.imp (ps_expr he.pe hs) fun D σV H ⟨σ, F, Kk, er, h, ok⟩ => by
  simp only [xs] at h
  exact le1 er h ok.kx fun y σ1 vy H1 F1 G1 hk e1 r1 d1 st => ok.nx _ _ ⟨σ1, F1, hk, e1, st.dropR, SameO.refl⟩
theorem qs_ret (he : QE X cc W e (ev G Γ a)) : QS X cc W A (.Return (some e) pos) (xs G Γ (.ret a)) :=
  PS.imp (ps_ret he.pe) fun D σV H ⟨σ, F, Kk, er, h, ok⟩ => by
  simp only [xs] at h
  exact le1 er h ok.kx fun y σ1 vy H1 F1 G1 hk e1 r1 d1 st => ok.rt _ _ ⟨y, σ1, σV, F1, G1, hk, e1, r1, d1, st, SameO.refl⟩
theorem qs_retn : QS X cc W A (.Return none pos) (xs G Γ .retn) :=
  PS.imp ps_retN fun D σV H ⟨σ, F, Kk, er, h, ok⟩ => by
  simp only [xs] at h
  exact ok.rt _ _ ⟨_, σ, σV, F, fpE, h, er, repM_im (rep_non.mpr rfl), fun _ _ z => z, by rw [fpU_E]; exact Step.refl, SameO.refl⟩
theorem qs_ife {t : CT} (hc : QT X cc W e (evT G Γ t)) (ha : QSs X cc W A b1 (xss G Γ s1)) (hb : QSs X cc W A b2 (xss G Γ s2)) : QS X cc W A (.If e b1 b2 pos) (xs G Γ (.ife t s1 s2)) :=
  PS.imp (ps_if hc.pt ha hb) fun D σV H ⟨σ, F, Kk, er, h, ok⟩ => by
  simp only [xs] at h
  refine lb1 er h ok.kx fun c σ1 H1 F1 hk e1 st => ?_
  cases c with
  | true => rw [if_pos rfl] at hk ⊢; exact ⟨σ1, F1, Kk, e1, hk, ok.go st SameO.refl⟩
  | false => rw [if_neg Bool.false_ne_true] at hk ⊢; exact ⟨σ1, F1, Kk, e1, hk, ok.go st SameO.refl⟩
theorem qs_brk : QS X cc W A (.Break pos) (xs G Γ .brk) := PS.imp ps_break fun D σV H ⟨σ, F, Kk, er, h, ok⟩ => by
  simp only [xs] at h
  exact ok.bk _ _ ⟨σ, F, h, er, Step.refl, SameO.refl⟩
theorem qs_cnt : QS X cc W A (.Continue pos) (xs G Γ .cnt) := PS.imp ps_continue fun D σV H ⟨σ, F, Kk, er, h, ok⟩ => by
  simp only [xs] at h
  exact ok.ct _ _ ⟨σ, F, h, er, Step.refl, SameO.refl⟩
theorem qs_pas : QS X cc W A (.Pass pos) (xs G Γ .pas) := PS.imp ps_pass fun D σV H ⟨σ, F, Kk, er, h, ok⟩ => by
  simp only [xs] at h
  exact ok.nx _ _ ⟨σ, F, h, er, Step.refl, SameO.refl⟩
abbrev WF : WX := fun _ _ _ _ => False
theorem takesF {X : Cx} : Takes X WF := fun u s' ⟨a, B, sI, pins, σ, H, cls, d, e, I, nb, up, sky, na, os, ag, w⟩ => w.elim
theorem qs_trt {h₀ : ExceptHandler} {hs : List ExceptHandler} (hb : QSs X.nox cc WF A body (xss G Γ ss)) : QS X cc W A (.Try body (h₀ :: hs) [] [] pos) (xs G Γ (.trt ss)) :=
  PS.imp (ps_try_thru0 hb) fun D σV H ⟨σ, F, Kk, er, h, ok⟩ => by
  simp only [xs] at h
  exact ⟨σ, F, _, er, h, ok.nx, ok.bk, ok.ct, ok.rt, fun _ _ _ _ ⟨_, _, _, z, _⟩ => z.elim⟩

/-! ### loops -/
theorem qs_whl {t : CT} (hp : PassesOwn (model X.prog X.w) X.A X.env X.xe) (hc : QT X cc W e (evT G Γ t)) (hb : QSs X cc W A body (xss G Γ ss)) : QS X cc W A (.While e body [] pos) (xs G Γ (.whl t ss)) :=
  PS.imp (ps_while hp hc.pt hb) fun D σV H ⟨σ, F, Kk, er, h, ok⟩ => by
  simp only [xs] at h
  obtain ⟨n, h⟩ := h
  refine ⟨fun m σV' H' => ∃ σ' F', EnvR X.K H' σ' σV' F' ∧ Step H F H' F' ∧ SameO A σV σV' ∧ whlR (evT G Γ t) (xss G Γ ss) Kk m σ', ⟨n, σ, F, er, Step.refl, SameO.refl, h⟩, fun m σV1 H1 ⟨σ1, F1, e1, st, so, hw⟩ => ?_⟩
  cases m with
  | zero => exact hw.elim
  | succ m =>
    simp only [whlR] at hw
    have ok1 := ok.go st so
    refine lb1 e1 hw ok1.kx fun c σ2 H2 F2 hk e2 st2 => ?_
    have ok2 := ok1.go st2 SameO.refl
    cases c with
    | true =>
      rw [if_pos rfl] at hk ⊢
      refine ⟨fun σV' H' => ∃ σ' F', EnvR X.K H' σ' σV' F' ∧ Step H F H' F' ∧ SameO A σV σV' ∧ whlR (evT G Γ t) (xss G Γ ss) Kk m σ', fun σV' H' z => ⟨m, Nat.lt_succ_self m, z⟩, σ2, F2, _, e2, hk, ?_⟩
      have nx : ∀ σV' H', EndS X.K H2 σV1 F2 A (whlR (evT G Γ t) (xss G Γ ss) Kk m) σV' H' → ∃ σ' F', EnvR X.K H' σ' σV' F' ∧ Step H F H' F' ∧ SameO A σV σV' ∧ whlR (evT G Γ t) (xss G Γ ss) Kk m σ' := fun σV' H' ⟨σ', F', q, e', s', so'⟩ => ⟨σ', F', e', (st.trans st2).trans s', so.trans so', q⟩
      exact ⟨nx, fun _ _ z => ok2.nx _ _ z, nx, ok2.rt, ok2.ex⟩
    | false =>
      rw [if_neg Bool.false_ne_true] at hk ⊢
      exact ok2.nx _ _ ⟨σ2, F2, hk, e2, Step.refl, SameO.refl⟩
theorem qs_for {t : T} {it : CI} {fx : List Nat} (hp : PassesOwn (model X.prog X.w) X.A X.env X.xe) (hc : X.calm = true) (hi : PI X tg iter (LI X.K cc W (evI G Γ it) fx)) (hg : PG X tg (LG X.K t Ab)) (hb : QSs X cc W Ab body (xss G Γ ss)) (hs : ∀ x, foldedSetIterable iter X.env x = pure x)
    (hA : ∀ i ∈ Ab, i ∈ A) (hfx : ∀ i ∈ fx, i ∉ Ab) : QS X cc W A (.For tg iter body [] pos) (xs G Γ (.for t it ss)) :=
  PS.imp (ps_for hp hc hi hg hb hs) fun D σV H ⟨σ, F, Kk, er, h, ok⟩ => by
  simp only [xs] at h
  refine ⟨σ, F, _, _, er, h, fun J H1 ⟨ds, J0, σ1, F1, Gh, ⟨hj, hf⟩, e1, dj, mu, st, lt⟩ => ?_, ok.kx⟩
  have st1 : Step H F H1 F1 := st.dropR
  let fr := forR J0 (fun d s => bindT t (.im d) s) (xss G Γ ss) Kk
  refine ⟨fun i m σV' H' => m = ds.length - i ∧ i ≤ ds.length ∧ ∃ σ' F', EnvR X.K H' σ' σV' F' ∧ Step H1 F1 H' F' ∧ SameO Ab σV σV' ∧ J0 σ' ∧ fr (ds.drop i) σ', ⟨ds.length, by simp, Nat.zero_le _, σ1, F1, e1, Step.refl, SameO.refl, hj, hf⟩, fun i m σV2 H2 ⟨hm, hi, σ2, F2, e2, st2, so2, j2, f2⟩ => ?_⟩
  have w := lt σ2 σV2 H2 F2 e2 j2 (fun j hj => so2.2 j (hfx j hj)) (st2.keepOf e1.mut) (fun a ha => by
    obtain ⟨u, hu⟩ := not_mut_none (mu a ha)
    rw [hu]; exact st2.frame a u hu fun z => dj a z ha) i
  have ok2 : EndsOk X.K cc W A H2 σV2 F2 Kk D := ok.go (st1.trans st2) (so2.mono hA)
  rcases Nat.lt_or_ge i ds.length with hlt | hge
  · right
    obtain ⟨go, yl⟩ := w.1 hlt
    refine ⟨go, fun σV' H' => ∃ σ' F', EnvR X.K H' σ' σV' F' ∧ Step H1 F1 H' F' ∧ SameO Ab σV σV' ∧ J0 σ' ∧ fr (ds.drop (i + 1)) σ', fun σV' H' z => ⟨ds.length - (i + 1), by omega, rfl, hlt, z⟩, fun x H3 hx => ?_⟩
    obtain ⟨d, hd, rd, ext⟩ := yl x H3 hx
    have hdr : ds.drop i = d :: ds.drop (i + 1) := by
      rw [List.drop_eq_getElem_cons hlt]
      rw [List.getElem?_eq_getElem hlt] at hd
      cases hd
      rfl
    have f2' : fr (d :: ds.drop (i + 1)) σ2 := hdr ▸ f2
    obtain ⟨σ3, hb3, q3⟩ := bindO_ok f2'
    have e3 := (e2.ext ext).1
    have st3 : Step H2 F2 H3 F2 := ext.step.dropR
    refine ⟨σ2, F2, .im d, fpE, σ3, e3, repM_im rd, fun _ _ z => z, hb3, fun σV4 F4 e4 s4 so4 => ?_⟩
    have st4 : Step H2 F2 H3 F4 := st3.sub fun a z => (s4 a z).elim id fun z => z.elim
    have ok4 : EndsOk X.K cc W A H3 σV4 F4 Kk D := ok2.go st4 (so4.mono hA)
    refine ⟨σ3, F4, _, e4, q3, ?_⟩
    have nx : ∀ σV' H', EndS X.K H3 σV4 F4 Ab (fun σ' => J0 σ' ∧ fr (ds.drop (i + 1)) σ') σV' H' → ∃ σ' F', EnvR X.K H' σ' σV' F' ∧ Step H1 F1 H' F' ∧ SameO Ab σV σV' ∧ J0 σ' ∧ fr (ds.drop (i + 1)) σ' := fun σV' H' ⟨σ', F', q, e', s', so'⟩ => ⟨σ', F', e', (st2.trans st4).trans s', (so2.trans so4).trans so', q.1, q.2⟩
    have ok5 := ok4.sub hA
    exact ⟨nx, fun _ _ z => ok5.nx _ _ z, nx, ok5.rt, ok5.ex⟩
  · left
    refine ⟨w.2 hge, ?_⟩
    have : ds.drop i = [] := List.drop_eq_nil_of_le hge
    have f2' : fr [] σ2 := this ▸ f2
    exact ok2.nx _ _ ⟨σ2, F2, f2', e2, Step.refl, SameO.refl⟩
end
end CP
namespace CP
open PySem PySem.Spec PyProof.Rows L2

/-! ### p[k] = e -/
theorem kput_putK {κ : Type} [DecidableEq κ] {K : PySem.W.Frag} {H : Hp} {k : κ} {d : D} {v : V} {kvs : List (κ × D)} {ws : List (κ × V)} (rd : RepD K H d v) (h : RepKs K H kvs ws) : RepKs K H (kput kvs k d) (putK ws k v) := RepKs.put rd h
theorem kput_cons {κ α : Type} [DecidableEq κ] {q k : κ} {x v : α} {r : List (κ × α)} : (q = k → kput ((q, x) :: r) k v = (q, v) :: r.map fun kv => if kv.1 = k then (kv.1, v) else kv) ∧ (q ≠ k → kput ((q, x) :: r) k v = (q, x) :: kput r k v) := by
  refine ⟨fun e => ?_, fun e => ?_⟩
  · unfold kput
    simp [e]
  · unfold kput
    by_cases h : (r.any fun kv => decide (kv.1 = k)) = true
    · have h2 : (((q, x) :: r).any fun kv => decide (kv.1 = k)) = true := by rw [List.any_cons, h, Bool.or_true]
      rw [if_pos h, if_pos h2]
      simp [e]
    · have h2 : ¬ (((q, x) :: r).any fun kv => decide (kv.1 = k)) = true := by rw [List.any_cons]; simp [e] at h ⊢; exact h
      rw [if_neg h, if_neg h2]
      rfl
theorem RepMs.set {K : PySem.W.Frag} {H : Hp} {m : M} {v : V} {Gm : FP} (rm : RepM K H m v Gm) : ∀ {ms : List M} {vs : List V} {F : FP} (j : Nat), RepMs K H ms vs F → Disj F Gm → j < ms.length → ∃ G', RepMs K H (ms.set j m) (vs.set j v) G' ∧ ∀ b, G' b → F b ∨ Gm b
  | [], _, _, j, _, _, hj => by simp at hj
  | x :: ms, vs, F, 0, r, d, _ => by
    simp only [RepMs] at r
    obtain ⟨w, r', F1, F2, rfl, r1, r2, dd, rfl⟩ := r
    refine ⟨fpU Gm F2, ?_, fun b z => z.elim .inr fun z => .inl (.inr z)⟩
    simp only [List.set_cons_zero, RepMs]
    exact ⟨v, r', Gm, F2, rfl, rm, r2, fun a z w => d a (.inr w) z, rfl⟩
  | x :: ms, vs, F, j + 1, r, d, hj => by
    simp only [RepMs] at r
    obtain ⟨w, r', F1, F2, rfl, r1, r2, dd, rfl⟩ := r
    obtain ⟨G', h, s⟩ := RepMs.set rm j r2 (fun a z w => d a (.inr z) w) (by simpa using hj)
    refine ⟨fpU F1 G', ?_, fun b z => ?_⟩
    · simp only [List.set_cons_succ, RepMs]
      refine ⟨w, _, F1, G', rfl, r1, h, fun a z w => ?_, rfl⟩
      rcases s a w with w | w
      · exact dd a z w
      · exact d a (.inl z) w
    · rcases z with z | z
      · exact .inl (.inl z)
      · exact (s b z).imp .inr id
theorem any_repKM {K : PySem.W.Frag} {H : Hp} {k : Key} : ∀ {kvs : List (Key × M)} {ws : List (Key × V)} {F : FP}, RepKMs K H kvs ws F → (kvs.any fun kv => decide (kv.1 = k)) = ws.any fun kv => decide (kv.1 = k)
  | [], ws, F, r => by simp only [RepKMs] at r; rw [r.1]; rfl
  | (q, m) :: kvs, ws, F, r => by
    simp only [RepKMs] at r
    obtain ⟨v, r', F1, F2, rfl, r1, r2, _⟩ := r
    rw [List.any_cons, List.any_cons, any_repKM r2]
theorem app_repKM {K : PySem.W.Frag} {H : Hp} {k : Key} {m : M} {v : V} {Gm : FP} (rm : RepM K H m v Gm) : ∀ {kvs : List (Key × M)} {ws : List (Key × V)} {F : FP}, RepKMs K H kvs ws F → Disj F Gm → RepKMs K H (kvs ++ [(k, m)]) (ws ++ [(k, v)]) (fpU F Gm)
  | [], ws, F, r, d => by
    simp only [RepKMs] at r
    obtain ⟨rfl, rfl⟩ := r
    simp only [List.nil_append, RepKMs]
    refine ⟨v, [], Gm, fpE, rfl, rm, ⟨rfl, rfl⟩, fun _ _ z => z, fp_ext fun a => ⟨fun z => z.elim (fun z => z.elim) .inl, fun z => z.elim .inr fun z => z.elim⟩⟩
  | (q, x) :: kvs, ws, F, r, d => by
    simp only [RepKMs] at r
    obtain ⟨w, r', F1, F2, rfl, r1, r2, dd, rfl⟩ := r
    simp only [List.cons_append, RepKMs]
    refine ⟨w, _, F1, fpU F2 Gm, rfl, r1, app_repKM rm r2 (fun a z w => d a (.inr z) w), fun a z w => ?_, fp_ext fun a => ?_⟩
    · rcases w with w | w
      · exact dd a z w
      · exact d a (.inl z) w
    · constructor
      · rintro ((z | z) | z)
        · exact .inl z
        · exact .inr (.inl z)
        · exact .inr (.inr z)
      · rintro (z | z | z)
        · exact .inl (.inl z)
        · exact .inl (.inr z)
        · exact .inr z
theorem mapIm_repKM {K : PySem.W.Frag} {H : Hp} {k : Key} {d : D} {v : V} (rd : RepD K H d v) : ∀ {kvs : List (Key × M)} {ws : List (Key × V)} {F : FP}, RepKMs K H kvs ws F → ∃ G', RepKMs K H (kvs.map fun kv => if kv.1 = k then (kv.1, .im d) else kv) (ws.map fun kv => if kv.1 = k then (kv.1, v) else kv) G' ∧ ∀ b, G' b → F b
  | [], ws, F, r => by
    simp only [RepKMs] at r
    obtain ⟨rfl, rfl⟩ := r
    exact ⟨fpE, by simp only [List.map_nil, RepKMs]; exact ⟨trivial, trivial⟩, fun _ z => z⟩
  | (q, x) :: kvs, ws, F, r => by
    simp only [RepKMs] at r
    obtain ⟨w, r', F1, F2, rfl, r1, r2, dd, rfl⟩ := r
    obtain ⟨G', h, s⟩ := mapIm_repKM rd r2
    rw [List.map_cons, List.map_cons]
    by_cases e : q = k
    · rw [if_pos e, if_pos e]
      refine ⟨fpU fpE G', ?_, fun b z => z.elim (fun z => z.elim) fun z => .inr (s b z)⟩
      simp only [RepKMs]
      exact ⟨v, _, fpE, G', rfl, repM_im rd, h, fun _ z => z.elim, rfl⟩
    · rw [if_neg e, if_neg e]
      refine ⟨fpU F1 G', ?_, fun b z => z.imp id (s b)⟩
      simp only [RepKMs]
      exact ⟨w, _, F1, G', rfl, r1, h, fun a z w => dd a z (s a w), rfl⟩
theorem imsK {K : PySem.W.Frag} {H : Hp} : ∀ {kvs : List (Key × D)} {ws : List (Key × V)}, RepKs K H kvs ws → RepKMs K H (kvs.map fun x => (x.1, .im x.2)) ws fpE
  | [], ws, r => by
    simp only [RepKs] at r
    simp only [List.map_nil, RepKMs]
    exact ⟨r, trivial⟩
  | (q, d) :: kvs, ws, r => by
    simp only [RepKs] at r
    obtain ⟨v, r', rfl, r1, r2⟩ := r
    simp only [List.map_cons, RepKMs]
    exact ⟨v, r', fpE, fpE, rfl, repM_im r1, imsK r2, fun _ z => z.elim, by rw [fpU_E]⟩
/-- what a store does: the object at a is rewritten -/
theorem setM_ok {K : PySem.W.Frag} {H : Hp} {c q m c' : M} {o i v : V} {Gc Gq Gm : FP} (rc : RepM K H c o Gc) (rq : RepM K H q i Gq) (rm : RepM K H m v Gm) (dj : Disj Gc Gm) (e : setM c q m = some c') :
    ∃ a, o = .ref a ∧ Gc a ∧ ∃ ho G', ((∃ xs k j, i = .int k ∧ H a = some (.lst xs) ∧ ixN xs.length k = some j ∧ ho = .lst (xs.set j v)) ∨ DPut H a i v (upd H a ho) ∧ ∃ u, H a = some u ∧ Mut (some u)) ∧ RepM K (upd H a ho) c' o G' ∧ ∀ b, G' b → Gc b ∨ Gm b := by
  unfold setM at e
  split at e
  · rename_i ds k d
    obtain ⟨j, hj, rfl⟩ := Option.map_eq_some_iff.mp e
    obtain ⟨a, vs, rfl, s, rs, rfl⟩ := repM_lst.mp rc
    obtain rfl := rep_int.mp (repM_imI.mp rq).1
    have kp : Keep H (upd H a (.lst (vs.set j v))) := Keep.upd s trivial
    exact ⟨a, rfl, .inl rfl, _, fpI a fpE, .inl ⟨vs, k, j, rfl, s, by rw [← rs.len]; exact hj, rfl⟩, repM_lst.mpr ⟨a, _, rfl, upd_same, keepDs kp _ _ (rs.set (repM_imI.mp rm).1), rfl⟩, fun b z => .inl z⟩
  · rename_i ms k
    obtain ⟨j, hj, rfl⟩ := Option.map_eq_some_iff.mp e
    obtain ⟨a, vs, Gs, rfl, s, rs, na, rfl⟩ := repM_nst.mp rc
    obtain rfl := rep_int.mp (repM_imI.mp rq).1
    have kp : Keep H (upd H a (.lst (vs.set j v))) := Keep.upd s trivial
    have hjl : j < ms.length := (ixN_seq hj).2.1
    have nm : ¬ Gm a := fun z => dj a (.inl rfl) z
    obtain ⟨G', h, sub⟩ := RepMs.set (keepM kp _ _ _ (fun b hb => upd_ne fun e => nm (e ▸ hb)) rm) j (keepMs kp _ _ _ (fun b hb => upd_ne fun e => na (e ▸ hb)) rs) (fun b z w => dj b (.inr z) w) hjl
    exact ⟨a, rfl, .inl rfl, _, fpI a G', .inl ⟨vs, k, j, rfl, s, by rw [← rs.len]; exact hj, rfl⟩, repM_nst.mpr ⟨a, _, G', rfl, upd_same, h, fun z => (sub a z).elim na nm, rfl⟩, fun b z => z.elim (fun z => .inl (.inl z)) fun z => (sub b z).imp .inr id⟩
  · rename_i kvs q d
    obtain ⟨k, hk, e⟩ := Option.bind_eq_some_iff.mp e
    split at e
    · rename_i hz
      cases e
      obtain ⟨a, ws, rfl, s, rs, rfl⟩ := repM_dct.mp rc
      obtain rfl := keyOf_rep hk (repM_imI.mp rq).1
      have kp : Keep H (upd H a (.dK (putK ws k v))) := Keep.upd s trivial
      exact ⟨a, rfl, .inl rfl, _, fpI a fpE, .inr ⟨DPut.k s (by rw [← rs.len]; exact hz), _, s, trivial⟩, repM_dct.mpr ⟨a, _, rfl, upd_same, keepKs kp _ _ (RepKs.put (repM_imI.mp rm).1 rs), rfl⟩, fun b z => .inl z⟩
    · cases e
  · rename_i kvs q nim
    obtain ⟨k, hk, e⟩ := Option.bind_eq_some_iff.mp e
    split at e
    · rename_i hz
      cases e
      obtain ⟨a, ws, rfl, s, rs, rfl⟩ := repM_dct.mp rc
      obtain rfl := keyOf_rep hk (repM_imI.mp rq).1
      have kp : Keep H (upd H a (.dK (putK ws k v))) := Keep.upd s trivial
      have hp : putK ws k v = ws ++ [(k, v)] := by
        unfold putK
        rw [if_neg]
        rw [← rs.any, hz.2]
        exact Bool.false_ne_true
      have nm : ¬ Gm a := fun z => dj a (.inl rfl) z
      refine ⟨a, rfl, .inl rfl, _, fpI a (fpU fpE Gm), .inr ⟨DPut.k s (by rw [← rs.len]; exact hz.1), _, s, trivial⟩, repM_dnn.mpr ⟨a, _, fpU fpE Gm, rfl, upd_same, ?_, fun z => z.elim id nm, rfl⟩, fun b z => ?_⟩
      · rw [hp]
        have kp' : Keep H (upd H a (.dK (ws ++ [(k, v)]))) := Keep.upd s trivial
        exact app_repKM (k := k) (keepM kp' _ _ _ (fun b hb => upd_ne fun e => nm (e ▸ hb)) rm) (imsK (keepKs kp' _ _ rs)) (fun _ z => z.elim)
      · rcases z with z | z | z
        · exact .inl (.inl z)
        · exact z.elim
        · exact .inr z
    · cases e
  · rename_i kvs q d
    obtain ⟨k, hk, e⟩ := Option.bind_eq_some_iff.mp e
    split at e
    · rename_i hz
      cases e
      obtain ⟨a, ws, Gs, rfl, s, rs, na, rfl⟩ := repM_dnn.mp rc
      obtain rfl := keyOf_rep hk (repM_imI.mp rq).1
      have kp : Keep H (upd H a (.dK (putK ws k v))) := Keep.upd s trivial
      have rs' := keepKMs kp _ _ _ (fun b hb => upd_ne fun e => na (e ▸ hb)) rs
      have rv' := keepD kp _ _ (repM_imI.mp rm).1
      have : ∃ G', RepKMs K (upd H a (.dK (putK ws k v))) (kput kvs k (.im d)) (putK ws k v) G' ∧ ∀ b, G' b → Gs b := by
        by_cases ha : (kvs.any fun kv => decide (kv.1 = k)) = true
        · have hb : (ws.any fun kv => decide (kv.1 = k)) = true := by rw [← any_repKM rs]; exact ha
          obtain ⟨G', h, s⟩ := mapIm_repKM (k := k) rv' rs'
          refine ⟨G', ?_, s⟩
          have e1 : kput kvs k (.im d) = kvs.map fun kv => if kv.1 = k then (kv.1, .im d) else kv := by unfold kput; rw [if_pos ha]
          have e2 : putK ws k v = ws.map fun kv => if kv.1 = k then (kv.1, v) else kv := by unfold putK; rw [if_pos hb]
          rw [e1]
          exact (congrArg (fun l => RepKMs K (upd H a (.dK (putK ws k v))) _ l G') e2).mpr h
        · have hb : ¬ (ws.any fun kv => decide (kv.1 = k)) = true := by rw [← any_repKM rs]; exact ha
          have e1 : kput kvs k (.im d) = kvs ++ [(k, .im d)] := by unfold kput; rw [if_neg ha]
          have e2 : putK ws k v = ws ++ [(k, v)] := by unfold putK; rw [if_neg hb]
          have h := app_repKM (k := k) (repM_im rv') rs' (fun _ _ z => z)
          rw [e1]
          refine ⟨_, (congrArg (fun l => RepKMs K (upd H a (.dK (putK ws k v))) _ l _) e2).mpr h, fun b z => z.elim id fun z => z.elim⟩
      obtain ⟨G', h, sub⟩ := this
      exact ⟨a, rfl, .inl rfl, _, fpI a G', .inr ⟨DPut.k s (by rw [← rs.len]; exact hz), _, s, trivial⟩, repM_dnn.mpr ⟨a, _, G', rfl, upd_same, h, fun z => na (sub a z), rfl⟩, fun b z => .inl (z.imp id (sub b))⟩
    · cases e
  · rename_i kvs q nim
    obtain ⟨k, hk, e⟩ := Option.bind_eq_some_iff.mp e
    split at e
    · rename_i hz
      cases e
      obtain ⟨a, ws, Gs, rfl, s, rs, na, rfl⟩ := repM_dnn.mp rc
      obtain rfl := keyOf_rep hk (repM_imI.mp rq).1
      have kp : Keep H (upd H a (.dK (putK ws k v))) := Keep.upd s trivial
      have hp : putK ws k v = ws ++ [(k, v)] := by
        unfold putK
        rw [if_neg]
        rw [← any_repKM rs, hz.2]
        exact Bool.false_ne_true
      have nm : ¬ Gm a := fun z => dj a (.inl rfl) z
      refine ⟨a, rfl, .inl rfl, _, fpI a (fpU Gs Gm), .inr ⟨DPut.k s (by rw [← rs.len]; exact hz.1), _, s, trivial⟩, repM_dnn.mpr ⟨a, _, fpU Gs Gm, rfl, upd_same, ?_, fun z => z.elim na nm, rfl⟩, fun b z => ?_⟩
      · rw [hp]
        have kp' : Keep H (upd H a (.dK (ws ++ [(k, v)]))) := Keep.upd s trivial
        exact app_repKM (k := k) (keepM kp' _ _ _ (fun b hb => upd_ne fun e => nm (e ▸ hb)) rm) (keepKMs kp' _ _ _ (fun b hb => upd_ne fun e => na (e ▸ hb)) rs) (fun b z w => dj b (.inr z) w)
      · rcases z with z | z | z
        · exact .inl (.inl z)
        · exact .inl (.inr z)
        · exact .inr z
    · cases e
  · rename_i kvs ds d
    split at e
    · rename_i hz
      obtain ⟨k, hk, rfl⟩ := Option.map_eq_some_iff.mp e
      obtain ⟨a, ws, rfl, s, rs, rfl⟩ := repM_dcT.mp rc
      obtain ⟨b, rfl, sb⟩ := tupKey rq hk
      have kp : Keep H (upd H a (.dT (putK ws k v))) := Keep.upd s trivial
      exact ⟨a, rfl, .inl rfl, _, fpI a fpE, .inr ⟨DPut.t s sb (by rw [← rs.len]; exact hz), _, s, trivial⟩, repM_dcT.mpr ⟨a, _, rfl, upd_same, keepKs kp _ _ (RepKs.put (repM_imI.mp rm).1 rs), rfl⟩, fun b z => .inl z⟩
    · cases e
  · cases e

/-- o[i] = v at a place that is changed -/
def TSetR : TSet := fun o i v H Q => ∃ a ho, o = .ref a ∧ ((∃ xs k j, i = .int k ∧ H a = some (.lst xs) ∧ ixN xs.length k = some j ∧ ho = .lst (xs.set j v)) ∨ DPut H a i v (upd H a ho)) ∧ Q (upd H a ho)
section
variable {X : Cx} {cc : Str → Addr} {W : WX} {G : Glob} {Γ : Nat → Sp} {A Ab : List Nat} {e e1 e2 e3 tg iter : Expr} {a b c : CE} {pos pn p2 : Pos}
theorem set_all (hu : X.A.units + 1 < cLine) : PSet X TSetR := by
  intro pins s σ H o i v ov iv u Q I ro ri rv h
  obtain ⟨a, ho, rfl, h, q⟩ := h
  rcases h with ⟨xs, k, j, rfl, ha, hj, rfl⟩ | hp
  · exact set_list pins s σ H _ _ v ov iv u Q I ro ri rv ⟨a, xs, k, j, rfl, rfl, ha, hj, q⟩
  · obtain rfl : ov = Value.ref a := ro
    exact d_setItem hu I hp ri rv fun s' I' => ⟨_, I', q⟩
/-- the store's target: its thing at a name; the key's reading behind the value -/
theorem sub_go {K : PySem.W.Frag} {H H1 : Hp} {σ1 σ2 : Env} {σV : L2.St} {F F1 G1 Gq Gc : FP} {p : P} {m c q c' : M} {v o i : V} {Kk : Ks} {D : Ends} (ok : EndsOk K cc W A H σV F Kk D) (e1 : EnvR K H1 σ1 σV F1) (rm : RepM K H1 m v G1) (d1 : Disj F1 G1) (st : Step H F H1 (fpU F1 G1))
    (rq : RepM K H1 q i Gq) (rc : RepM K H1 c o Gc) (sc : ∀ a, Gc a → F1 a) (fo : Foc K G H1 σ1 σV F1 p o Gc) (hs : setM c q m = some c') (hp : setP G p σ1 c' = some σ2) (hn : Kk.nx σ2) : TSetR o i v H1 fun H3 => D.nx σV H3 := by
  obtain ⟨a, rfl, ga, ho, G', hcase, r', s'⟩ := setM_ok rc rq rm (fun b z w => d1 b (sc b z) w) hs
  refine ⟨a, ho, rfl, hcase.imp id (·.1), ?_⟩
  have hu : ∃ u, H1 a = some u ∧ Mut (some u) := by
    rcases hcase with ⟨xs, k, j, _, ha, _, _⟩ | ⟨_, h⟩
    · exact ⟨_, ha, trivial⟩
    · exact h
  obtain ⟨u, hu, mu⟩ := hu
  have kp : Keep H1 (upd H1 a ho) := Keep.upd hu mu
  obtain ⟨F2, e2, s2⟩ := fo _ _ _ _ kp (fun b _ hb => upd_ne fun e => hb (e ▸ ga)) r' (fun b z w => (s' b z).elim id fun z => (d1 b w z).elim) hp
  refine ok.nx _ _ ⟨σ2, F2, hn, e2, ⟨fun b w hb nb => ?_, fun b z => ?_⟩, SameO.refl⟩
  · have q := st.frame b w hb nb
    rw [upd_ne]; exact q
    rintro rfl
    rcases st.new b (.inl (sc b ga)) with z | z
    · exact nb z
    · rw [hb] at z; cases z
  · refine st.new b ?_
    rcases s2 b z with z | z
    · exact .inl z.1
    · exact (s' b z).imp (sc b) id
theorem qs_subv {i : Nat} (hu : X.A.units + 1 < cLine) (ho : PE X e1 (tVar i)) (hk : QE X cc W e2 (ev G Γ b)) (he : QE X cc W e (ev G Γ a)) (hs : swapsWithSole [.Subscript e1 e2 p2] e pos.line X.env = pure false) (hw : swappedStores [.Subscript e1 e2 p2] e X.env = pure none) (h1 : (assignEach [.Subscript e1 e2 p2] X.env).map (·.2) = [assign (.Subscript e1 e2 p2) X.env])
    (ha : ∀ v, assign (.Subscript e1 e2 p2) X.env v = (do
      let ov ← holding [v] (eval e1 X.env)
      let iv ← holding [v, ov] (eval e2 X.env)
      standAt p2
      holding [v, ov, iv] (setItem ov iv v)
      release [v, ov, iv] [])) : QS X cc W A (.Assign [.Subscript e1 e2 p2] e pos) (xs G Γ (.sub (.var i) b a)) :=
  PS.imp (ps_asg he.pe (pg_sub ho hk.pe (set_all hu) ha) hs hw h1) fun D σV H ⟨σ, F, Kk, er, h, ok⟩ => by
  simp only [xs] at h
  refine le1 er h ok.kx fun m σ1 v H1 F1 G1 hk e1 r1 d1 st => ?_
  obtain ⟨m0, hm0, hk⟩ := slot_ok hk
  obtain ⟨o, _, ho, _, _⟩ := e1.look hm0
  refine ⟨o, ho, le1 e1 hk (fun cls d H' x => ok.kx cls d H' (x.go st.dropR)) fun q σ2 i H2 F2 G2 hk2 e2 r2 d2 st2 => ?_⟩
  split at hk2
  · rename_i c hc
    split at hk2
    · rename_i c' hc'
      obtain ⟨σ3, hp, hn⟩ := bindO_ok hk2
      obtain ⟨o', Gc, ho', rc, sc, fo⟩ := foc_var (G := G) e2 (evP_var hc)
      rw [ho] at ho'
      cases ho'
      obtain ⟨r1', dd⟩ := r1.hold e1.mut d1 st2
      refine sub_go ok e2 r1' (fun a z w => dd a (.inl z) w) ?_ r2 rc sc fo hc' hp hn
      refine (st.trans (st2.more (G := G1))).sub fun a z => ?_
      rcases z with z | z
      · exact .inl (.inl z)
      · exact .inr z
    · exact hk2.elim
  · exact hk2.elim
end
end CP
namespace CP
open PySem PySem.Spec PyProof.Rows L2

/-! ### comprehensions -/
section
variable {K : PySem.W.Frag} {H : Hp} {σ σ' : Env} {σV σV2 : L2.St} {F : FP}
theorem EnvR.wipe (e : EnvR K H σ σV F) : ∀ own : List Nat, ∃ F', EnvR K H (unsetAll σ own) (L2.wipe σV own) F' ∧ ∀ a, F' a → F a
  | [] => ⟨F, e, fun _ z => z⟩
  | v :: vs => by
    obtain ⟨F1, e1, s1⟩ := EnvR.wipe e vs
    obtain ⟨F2, e2, s2⟩ := e1.forget v none
    exact ⟨F2, e2, fun a z => s1 a (s2 a z)⟩
theorem wipe_get {σV : L2.St} {i : Nat} : ∀ {vs : List Nat}, i ∉ vs → (L2.wipe σV vs)[i]? = σV[i]?
  | [], _ => rfl
  | v :: vs, h => by
    simp only [List.mem_cons, not_or] at h
    unfold L2.wipe
    rw [List.getElem?_set_ne (Ne.symm h.1), wipe_get h.2]
theorem wipe_in {σV : L2.St} {i : Nat} : ∀ {vs : List Nat}, i ∈ vs → i < σV.length → (L2.wipe σV vs)[i]? = some none
  | [], h, _ => by simp at h
  | v :: vs, h, hl => by
    unfold L2.wipe
    by_cases e : v = i
    · subst e
      rw [List.getElem?_set_self (by rw [wipe_length]; exact hl)]
    · rw [List.getElem?_set_ne e]
      exact wipe_in (by simpa [Ne.symm e] using h) hl
theorem wipe_same {own : List Nat} {a b : L2.St} (h : SameO own a b) : L2.wipe b own = L2.wipe a own := by
  apply List.ext_getElem?
  intro i
  by_cases hi : i ∈ own
  · by_cases hl : i < a.length
    · rw [wipe_in hi hl, wipe_in hi (by rw [h.1]; exact hl)]
    · rw [List.getElem?_eq_none (by rw [wipe_length, h.1]; omega), List.getElem?_eq_none (by rw [wipe_length]; omega)]
  · rw [wipe_get hi, wipe_get hi, h.2 i hi]
theorem wipe_wipe {own : List Nat} {a : L2.St} : L2.wipe (L2.wipe a own) own = L2.wipe a own := (wipe_same ⟨(wipe_length a own), fun j hj => wipe_get hj⟩)
theorem EnvR.back {own : List Nat} (e : EnvR K H σ' σV2 F) (h : L2.wipe σV2 own = L2.wipe σV own) : ∃ F', EnvR K H (unsetAll σ' own) σV F' ∧ ∀ a, F' a → F a := by
  obtain ⟨F1, e1, s1⟩ := e.wipe own
  rw [h] at e1
  obtain ⟨Fs, h1, h2, h3, h4, h5⟩ := e1
  refine ⟨F1, ⟨Fs, by rw [h1, wipe_length], fun i m hm => ?_, h3, h4, h5⟩, s1⟩
  obtain ⟨v, hv, r⟩ := h2 i m hm
  exact ⟨v, (wipe_some hv).1, r⟩
end
theorem mkL_at {K : PySem.W.Frag} {H : Hp} {ms : List M} {vs : List V} {G1 : FP} {p : Addr} (r : RepMs K H ms vs G1) (hp : H p = some (.lst vs)) (np : ¬ G1 p) : ∃ Gz, RepM K H (mkL ms) (.ref p) Gz ∧ ∀ a, Gz a → a = p ∨ G1 a := by
  unfold mkL
  split
  · rename_i ds hds
    obtain ⟨rds, rfl⟩ := imsOf_ok r hds
    exact ⟨fpI p fpE, repM_lst.mpr ⟨p, vs, rfl, hp, rds, rfl⟩, fun a z => z⟩
  · exact ⟨fpI p G1, repM_nst.mpr ⟨p, vs, G1, rfl, hp, r, np, rfl⟩, fun a z => z⟩
section
variable {X : Cx} {cc : Str → Addr} {W : WX} {G : Glob} {Γ : Nat → Sp} {A : List Nat} {e elt tg iter : Expr} {ifs : List Expr} {scope : Scope} {own : List (Str × Nat)} {a : CE} {t : T} {it : CI} {is : CTs} {fx : List Nat} {pos spos : Pos}
theorem PTs.imp {X : Cx} {e : List Expr} {t t' : L2.TT} (h : PTs X e t) (i : ∀ σ H Q, t' σ H Q → t σ H Q) : PTs X e t' := ⟨fun pins s σ H Q I hw => h.run pins s σ H Q I (i _ _ _ hw)⟩
theorem qts_nil : PTs X [] (LB X.K cc W (evTs G Γ .nil)) := PTs.imp pts_nil fun σV H Q ⟨σ, F, Q1, E1, er, h, k, kx⟩ => by
  simp only [evTs] at h
  exact k _ _ ⟨σ, F, h, er, Step.refl⟩
theorem qts_one {c : CT} (h : QT X cc W e (evT G Γ c)) : PTs X [e] (LB X.K cc W (evTs G Γ (.cons c .nil))) := PTs.imp (pts_one h.pt) fun σV H Q ⟨σ, F, Q1, E1, er, h, k, kx⟩ => by
  simp only [evTs] at h
  refine ⟨σ, F, _, E1, er, h, fun b H' ⟨σ', F1, q, e1, st⟩ => k b H' ⟨σ', F1, ?_, e1, st⟩, kx⟩
  cases b with
  | true => exact q
  | false => exact q
theorem lc_go {K : PySem.W.Frag} {σV : L2.St} {H : Hp} {Q : VK} (h : LE K cc W (ev G Γ (.lc a t it is (own.map (·.2)))) σV H Q) : tLc (LI K cc W (evI G Γ it) fx) (LG K t (own.map (·.2))) (LB K cc WF (evTs G Γ is)) (LE K cc WF (ev G Γ a)) (own.map (·.2)) σV H Q := by
  obtain ⟨σ, F, Q1, E1, er, h, k, kx⟩ := h
  simp only [ev] at h
  refine ⟨σ, F, _, E1, er, h, fun J H1 ⟨ds, J0, σ1, F1, Gh, ⟨hj, hf⟩, e1, dj, mu, st, lt⟩ D hD => ?_, kx⟩
  have st1 : Step H F H1 F1 := st.dropR
  let lr := lcR J0 (fun d s => bindT t (.im d) s) (evTs G Γ is) (ev G Γ a) (own.map (·.2)) (fun _ _ => False)
  have xD := Ext.upd (o := .lst []) hD
  refine ⟨fun i m H' => m = ds.length - i ∧ i ≤ ds.length ∧ ∃ acc vs σc Fc Ga, EnvR K H' σc σV Fc ∧ H' D = some (.lst vs) ∧ RepMs K H' acc vs Ga ∧ ¬ Fc D ∧ ¬ Ga D ∧ Disj Fc Ga ∧ Step H1 F1 H' (fpU Fc (fpI D Ga)) ∧ J0 σc ∧ lr (ds.drop i) acc σc Q1,
    ⟨ds.length, by simp, Nat.zero_le _, [], [], σ1, F1, fpE, (e1.ext xD).1, upd_same, by simp only [RepMs]; exact ⟨trivial, trivial⟩, fun z => (e1.ext xD).2 D z (.inl rfl), fun z => z, fun _ _ z => z, xD.step, hj, hf⟩, fun i m H2 ⟨hm, hi, acc, vs, σ2, F2, Ga, e2, hD2, ra, nF, nG, dFG, st2, j2, f2⟩ => ?_⟩
  have w := lt σ2 σV H2 F2 e2 j2 (fun _ _ => rfl) (st2.keepOf e1.mut) (fun b hb => by
    obtain ⟨u, hu⟩ := not_mut_none (mu b hb)
    rw [hu]; exact st2.frame b u hu fun z => dj b z hb) i
  rcases Nat.lt_or_ge i ds.length with hlt | hge
  · right
    obtain ⟨go, yl⟩ := w.1 hlt
    refine ⟨go, fun H' => ∃ acc vs σc Fc Ga, EnvR K H' σc σV Fc ∧ H' D = some (.lst vs) ∧ RepMs K H' acc vs Ga ∧ ¬ Fc D ∧ ¬ Ga D ∧ Disj Fc Ga ∧ Step H1 F1 H' (fpU Fc (fpI D Ga)) ∧ J0 σc ∧ lr (ds.drop (i + 1)) acc σc Q1, fun H' z => ⟨ds.length - (i + 1), by omega, rfl, hlt, z⟩, fun x H3 hx => ?_⟩
    obtain ⟨d, hd, rd, ext⟩ := yl x H3 hx
    have hdr : ds.drop i = d :: ds.drop (i + 1) := by
      rw [List.drop_eq_getElem_cons hlt]
      rw [List.getElem?_eq_getElem hlt] at hd
      cases hd
      rfl
    have f2' : lr (d :: ds.drop (i + 1)) acc σ2 Q1 := hdr ▸ f2
    obtain ⟨σ3, hb3, q3⟩ := bindO_ok f2'
    obtain ⟨Fw, ew, sw⟩ := ((e2.ext ext).1).wipe (own.map (·.2))
    refine ⟨unsetAll σ2 (own.map (·.2)), Fw, .im d, fpE, σ3, ew, repM_im rd, fun _ _ z => z, hb3, fun σV4 F4 e4 s4 so4 => ?_⟩
    have s4' : ∀ b, F4 b → F2 b := fun b z => (s4 b z).elim (sw b) fun z => z.elim
    have wp : L2.wipe σV4 (own.map (·.2)) = L2.wipe σV (own.map (·.2)) := (wipe_same so4).trans wipe_wipe
    refine ⟨wp, σ3, F4, _, _, e4, q3, fun b H4 ⟨σ5, F5, q5, e5, st5⟩ => ?_, fun _ _ _ ⟨_, _, _, z, _⟩ => z.elim⟩
    -- what stays of the new list
    have hold : ∀ {H5 : Hp} {F6 : FP}, Step H3 F4 H5 F6 → H5 D = some (.lst vs) ∧ RepMs K H5 acc vs Ga ∧ ¬ F6 D ∧ Disj F6 Ga := fun {H5 F6} s => by
      have hD3 : H3 D = some (.lst vs) := ext.keep _ _ hD2
      have ra3 := (ra.ext ext).1
      have n4 : ¬ F4 D := fun z => nF (s4' D z)
      obtain ⟨ra5, d5⟩ := ra3.hold e4.mut (fun b z w => dFG b (s4' b z) w) s
      refine ⟨s.frame D _ hD3 n4, ra5, fun z => ?_, d5⟩
      rcases s.new D z with z | z
      · exact n4 z
      · rw [hD3] at z; cases z
    have tot : ∀ {H5 : Hp} {F6 : FP}, Step H3 F4 H5 F6 → ∀ Fc : FP, (∀ b, Fc b → F6 b) → Step H1 F1 H5 (fpU Fc (fpI D Ga)) := fun {H5 F6} s Fc sub => by
      refine ⟨fun b o hb nb => ?_, fun b z => ?_⟩
      · have h2 := st2.frame b o hb nb
        refine s.frame b o (ext.keep _ _ h2) fun z => ?_
        rcases st2.new b (.inl (s4' b z)) with w | w
        · exact nb w
        · rw [hb] at w; cases w
      · rcases z with z | z
        · rcases s.new b (sub b z) with w | w
          · exact st2.new b (.inl (s4' b w))
          · by_cases n : F1 b
            · exact .inl n
            · right
              cases q : H1 b with
              | none => rfl
              | some o => rw [ext.keep _ _ (st2.frame b o q n)] at w; cases w
        · exact st2.new b (.inr z)
    cases b with
    | true =>
      rw [if_pos rfl] at q5
      show LE K cc WF (ev G Γ a) σV4 H4 _
      refine le1 e5 q5 (fun _ _ _ ⟨_, _, _, z, _⟩ => z.elim) fun m6 σ6 v6 H6 F6 G6 q6 e6 r6 d6 st6 => ?_
      obtain ⟨hz, j6, f6⟩ := q6
      have s56 := st5.trans st6
      obtain ⟨hD6, ra6, nF6, dF6⟩ := hold s56
      have n6 : ¬ G6 D := fun z => nF6 (.inr z)
      refine ⟨vs, hD6, by rw [← ra6.len]; exact hz, ?_⟩
      have kp : Keep H6 (upd H6 D (.lst (vs ++ [v6]))) := Keep.upd hD6 trivial
      have er6 : EnvR K (upd H6 D (.lst (vs ++ [v6]))) σ6 σV4 F6 := e6.keep kp fun b hb => upd_ne fun e => nF6 (.inl (e ▸ hb))
      obtain ⟨F7, e7, s7⟩ := er6.back wp
      refine ⟨acc ++ [m6], vs ++ [v6], _, F7, fpU Ga G6, e7, upd_same, ?_, fun z => nF6 (.inl (s7 D z)), fun z => z.elim nG n6, fun b z y => ?_, ⟨fun b o hb nb => ?_, fun b z => ?_⟩, j6, f6⟩
      · exact RepMs.app (keepMs kp _ _ _ (fun b hb => upd_ne fun e => nG (e ▸ hb)) ra6) (RepMs.one (keepM kp _ _ _ (fun b hb => upd_ne fun e => n6 (e ▸ hb)) r6)) fun b z y => dF6 b (.inr y) z
      · rcases y with y | y
        · exact dF6 b (.inl (s7 b z)) y
        · exact d6 b (s7 b z) y
      · have hbD : b ≠ D := fun e => by rw [e, hD] at hb; cases hb
        rw [upd_ne hbD]
        exact (tot s56 _ (fun _ z => z)).frame b o hb nb
      · have := (tot s56 (fpU F6 G6) (fun _ z => z)).new b
        rcases z with z | z | z | z
        · exact this (.inl (.inl (s7 b z)))
        · exact this (.inr (.inl z))
        · exact this (.inr (.inr z))
        · exact this (.inl (.inr z))
    | false =>
      rw [if_neg Bool.false_ne_true] at q5
      show ∃ acc vs σc Fc Ga, EnvR K H4 σc σV Fc ∧ H4 D = some (.lst vs) ∧ RepMs K H4 acc vs Ga ∧ ¬ Fc D ∧ ¬ Ga D ∧ Disj Fc Ga ∧ Step H1 F1 H4 (fpU Fc (fpI D Ga)) ∧ J0 σc ∧ lr (ds.drop (i + 1)) acc σc Q1
      obtain ⟨j5, f5⟩ := q5
      obtain ⟨hD5, ra5, nF5, dF5⟩ := hold st5
      obtain ⟨F7, e7, s7⟩ := e5.back wp
      exact ⟨acc, vs, _, F7, Ga, e7, hD5, ra5, fun z => nF5 (s7 D z), nG, fun b z y => dF5 b (s7 b z) y, tot st5 F7 s7, j5, f5⟩
  · left
    refine ⟨w.2 hge, ?_⟩
    have : ds.drop i = [] := List.drop_eq_nil_of_le hge
    have f2' : lr [] acc σ2 Q1 := this ▸ f2
    obtain ⟨Gz, rz, sz⟩ := mkL_at ra hD2 nG
    refine k _ _ ⟨mkL acc, σ2, F2, Gz, f2', e2, rz, fun b z y => ?_, (st1.trans st2).sub fun b z => z.imp id (sz b)⟩
    rcases sz b y with y | y
    · exact nF (y ▸ z)
    · exact dFG b z y
theorem qe_lc (hc : X.calm = true) (hN : X.N.Nodup) (hi : PI X tg iter (LI X.K cc W (evI G Γ it) fx)) (ok : BlkOk X.N X.env.scope scope own)
    (hg : ∀ (s : Shared) (H : Hp) (C : Addr) (cl : List (Str × Addr)) (fp : List Addr), PG (X.blk s H scope (compEnvC scope cl C X.env) fp) tg (LG X.K t (own.map (·.2))))
    (ht : ∀ (s : Shared) (H : Hp) (C : Addr) (cl : List (Str × Addr)) (fp : List Addr), PTs (X.blk s H scope (compEnvC scope cl C X.env) fp) ifs (LB X.K cc WF (evTs G Γ is)))
    (he : ∀ (s : Shared) (H : Hp) (C : Addr) (cl : List (Str × Addr)) (fp : List Addr), QE (X.blk s H scope (compEnvC scope cl C X.env) fp) cc WF elt (ev G Γ a)) (hs : ∀ x, foldedSetIterable iter X.env x = pure x) :
    QE X cc W (.ListComp elt [⟨tg, iter, ifs, 0⟩] scope pos) (ev G Γ (.lc a t it is (own.map (·.2)))) :=
  ⟨PE.imp (pe_lc hc hN hi ok hg ht (fun s H C cl fp => (he s H C cl fp).pe) hs) fun σV H Q h => lc_go h⟩
theorem qs_setlc {i : Nat} {y : Str} {py : Pos} (hc : X.calm = true) (hN : X.N.Nodup) (hy : X.N[i]? = some y) (hyl : X.env.scope.names.lookup y = some .local)
    (hsw : swapsWith (.ListComp elt [⟨tg, iter, ifs, 0⟩] scope pos) (some (.Name y py)) spos.line X.env = pure true) (hi : PI X tg iter (LI X.K cc W (evI G Γ it) fx)) (ok : BlkOk X.N X.env.scope scope own)
    (hg : ∀ (s : Shared) (H : Hp) (C : Addr) (cl : List (Str × Addr)) (fp : List Addr), PG (X.blk s H scope (compEnvC scope cl C X.env) fp) tg (LG X.K t (own.map (·.2))))
    (ht : ∀ (s : Shared) (H : Hp) (C : Addr) (cl : List (Str × Addr)) (fp : List Addr), PTs (X.blk s H scope (compEnvC scope cl C X.env) fp) ifs (LB X.K cc WF (evTs G Γ is)))
    (he : ∀ (s : Shared) (H : Hp) (C : Addr) (cl : List (Str × Addr)) (fp : List Addr), QE (X.blk s H scope (compEnvC scope cl C X.env) fp) cc WF elt (ev G Γ a)) (hs : ∀ x, foldedSetIterable iter X.env x = pure x) (hA : i ∈ A) :
    QS X cc W A (.Assign [.Name y py] (.ListComp elt [⟨tg, iter, ifs, 0⟩] scope pos) spos) (xs G Γ (.asg (.v i) (.lc a t it is (own.map (·.2))))) :=
  PS.imp (ps_setLc hc hN hy hyl hsw hi ok hg ht (fun s H C cl fp => (he s H C cl fp).pe) hs) fun D σV H ⟨σ, F, Kk, er, h, ok⟩ => by
  simp only [xs] at h
  refine lc_go ⟨σ, F, _, _, er, h, fun v H1 ⟨m, σ1, F1, G1, hk, e1, r1, d1, st⟩ => ?_, ok.kx⟩
  obtain ⟨σ2, hb, q⟩ := bindO_ok hk
  simp only [bindT] at hb
  split at hb
  · rename_i hi
    cases hb
    obtain ⟨F', e', s'⟩ := e1.store hi r1 d1
    exact ok.nx _ _ ⟨_, F', q, e', st.sub s', SameO.set hA⟩
  · cases hb
end
end CP
namespace CP
open PySem PySem.Spec PyProof.Rows L2

/-! ### a def of the text -/
/-- what a def's body is worth, by its slots: n parameters, N slots, A what it assigns -/
def bodySp (n N : Nat) (A : List Nat) (t : TS) : Sp := fun ms Q E => ms.length = n ∧
  let out : Env → List (Option M) := fun σ => (List.range n).map fun i => if i ∈ A then none else (σ[i]?).getD none
  t { nx := fun σ => Q (.im .non) (out σ), rt := fun m σ => Q m (out σ), bk := fun _ => False, ct := fun _ => False, ex := fun x σ => E x (out σ) } (ms.map some ++ List.replicate (N - n) none)
/-- the parameters' part of the slots -/
theorem out_ok {K : PySem.W.Frag} {H : Hp} {σ : Env} {σV : L2.St} {F : FP} {vs : List V} {N n : Nat} {A : List Nat} (e : EnvR K H σ σV F) (hn : vs.length = n) (so : SameO A (vs.map some ++ List.replicate (N - n) none) σV) :
    ∃ F', EnvR K H ((List.range n).map fun i => if i ∈ A then none else (σ[i]?).getD none) (vs.map some) F' ∧ ∀ a, F' a → F a := by
  obtain ⟨Fs, h1, h2, h3, h4, h5⟩ := e
  have key : ∀ i m, ((List.range n).map fun i => if i ∈ A then none else (σ[i]?).getD none)[i]? = some (some m) → i < n ∧ i ∉ A ∧ σ[i]? = some (some m) := fun i m hm => by
    rw [List.getElem?_map] at hm
    by_cases hi : i < n
    · rw [List.getElem?_range hi] at hm
      simp only [Option.map_some, Option.some.injEq] at hm
      by_cases hA : i ∈ A
      · rw [if_pos hA] at hm; cases hm
      · rw [if_neg hA] at hm
        refine ⟨hi, hA, ?_⟩
        cases q : σ[i]? with
        | none => rw [q] at hm; cases hm
        | some o => rw [q] at hm; exact congrArg some hm
    · rw [List.getElem?_eq_none (by simpa using hi)] at hm; cases hm
  refine ⟨fun a => ∃ i, i < n ∧ i ∉ A ∧ (∃ m, σ[i]? = some (some m)) ∧ Fs i a, ⟨fun i a => i < n ∧ i ∉ A ∧ (∃ m : M, σ[i]? = some (some m)) ∧ Fs i a, by simp [hn], fun i m hm => ?_, fun i a z => ?_, fun i j a z w => h4 i j a z.2.2.2 w.2.2.2, fun a => Iff.rfl⟩, fun a ⟨i, _, _, _, z⟩ => (h5 a).mpr ⟨i, z⟩⟩
  · obtain ⟨hi, hA, hm⟩ := key i m hm
    obtain ⟨v, hv, r⟩ := h2 i m hm
    refine ⟨v, ?_, ?_⟩
    · rw [so.2 i hA, List.getElem?_append_left (by simpa [hn] using hi)] at hv
      exact hv
    · have : (fun a => i < n ∧ i ∉ A ∧ (∃ m : M, σ[i]? = some (some m)) ∧ Fs i a) = Fs i := fp_ext fun a => ⟨fun z => z.2.2.2, fun z => ⟨hi, hA, ⟨m, hm⟩, z⟩⟩
      exact (congrArg (RepM K H m v) this).mpr r
  · obtain ⟨hi, hA, ⟨m, hm⟩, _⟩ := z
    refine ⟨m, ?_⟩
    rw [List.getElem?_map, List.getElem?_range hi]
    simp only [Option.map_some, if_neg hA, hm, Option.getD_some]
abbrev XC (P : Program) (w : World) (K : PySem.W.Frag) (mg : Str → Option Value) (base : Heap) (N : List Str) (qual : Str) (st : Stmt) (f : Addr) (cdv : Value) (Ar : Around) (outer : List PySem.Env) (s : Shared) (H : Hp) (E : XK) : Cx := cxOf (L2.CX P w) P w K mg base N qual (defScope st) f cdv Ar outer s H E
abbrev WE0 (E : XK) : WX := fun cls d _ H => E cls d H
section
variable {P : Program} {w : World} {K : PySem.W.Frag} {mg : Str → Option Value} {base : Heap} {cc : Str → Addr}
theorem tkC {N : List Str} {qual : Str} {st : Stmt} {f : Addr} {cdv : Value} {Ar : Around} {outer : List PySem.Env} {s : Shared} {H : Hp} {E : XK} : Takes (XC P w K mg base N qual st f cdv Ar outer s H E) (WE0 E) := takes_of rfl rfl rfl rfl
theorem paC {N : List Str} {qual : Str} {st : Stmt} {f : Addr} {cdv : Value} {Ar : Around} {outer : List PySem.Env} {s : Shared} {H : Hp} {E : XK} : PassesOwn (model (XC P w K mg base N qual st f cdv Ar outer s H E).prog (XC P w K mg base N qual st f cdv Ar outer s H E).w) (XC P w K mg base N qual st f cdv Ar outer s H E).A (XC P w K mg base N qual st f cdv Ar outer s H E).env (XC P w K mg base N qual st f cdv Ar outer s H E).xe := passes_of rfl
/-- THE RULE for a def of the text: its promise from what its body is worth -/
theorem fnCP {x qual : Str} {st : Stmt} {f : Addr} {fd : FuncData} {N ps : List Str} {k : Nat} {sp : Sp} {A : List Nat} {t : TS} {dvs : List V} {kws : List (Str × V)} (F : FunD K x qual (defArgs st) (defBody st) (defScope st) dvs kws f fd) (S : FnScope N ps (defScope st))
    (hb : ∀ (cdv : Value) (Ar : Around) (outer : List PySem.Env) (s : Shared) (H : Hp) (E : XK), Room k (XC P w K mg base N qual st f cdv Ar outer s H E).A → QSs (XC P w K mg base N qual st f cdv Ar outer s H E) cc (WE0 E) A (defBody st) t)
    (hsp : ∀ ms Q E, sp ms Q E → bodySp ps.length N.length A t ms Q E) : FnOk P w K mg base (L2.CX P w) (k + 1) f fd ps (toSp K cc ps.length sp) := by
  refine F.ok S (fun vs H Q E h => h.1) fun cdv Ar outer s H vs Q E hr hs => ?_
  obtain ⟨hn, ms, F0, Q1, E1, er, hsp1, kq, kx⟩ := hs
  obtain ⟨hlen, hbody⟩ := hsp ms Q1 E1 hsp1
  refine ⟨_, hb cdv Ar outer s H E hr, ?_⟩
  have er0 := er.app (N.length - ps.length)
  have st0 : L2.start N vs = vs.map some ++ List.replicate (N.length - ps.length) none := by unfold L2.start; rw [hn]
  rw [st0]
  refine ⟨_, F0, _, er0, hbody, ?_⟩
  refine ⟨fun σV' H' ⟨σ', F1, q, e1, stp, so⟩ => ?_, fun _ _ ⟨_, _, z, _⟩ => z.elim, fun _ _ ⟨_, _, z, _⟩ => z.elim, fun v H' ⟨m, σ', σV', F1, G, q, e1, r, d, stp, so⟩ => ?_, fun cls d σV' H' ⟨x, σ', F1, q, e1, stp, xr, so⟩ => ?_⟩
  · obtain ⟨F2, e2, s2⟩ := out_ok e1 hn so
    exact kq _ _ ⟨_, _, F2, fpE, q, e2, repM_im (rep_non.mpr rfl), fun _ _ z => z, by rw [fpU_E]; exact stp.sub s2⟩
  · obtain ⟨F2, e2, s2⟩ := out_ok e1 hn so
    exact kq _ _ ⟨m, _, F2, G, q, e2, r, fun a z y => d a (s2 a z) y, stp.sub fun a z => z.imp (s2 a) id⟩
  · obtain ⟨F2, e2, s2⟩ := out_ok e1 hn so
    exact kx _ _ _ ⟨x, _, F2, q, e2, stp.sub s2, xr⟩
theorem FunD_kb {x qual : Str} {params : Arguments} {body : List Stmt} {scope : Scope} {f : Addr} {fd : FuncData} {ps ks : List Str} {n : Nat} {perm : List Nat} (F : FunD K x qual params body scope [] [] f fd)
    (h : ∀ (kV doc pm : Value) (an : Option Addr) (cdv ct : Value) (us ws : List Value), us.length = n → ws.length = ks.length → bindArgs (PySem.W.fnOf x qual params body scope .none kV doc pm an cdv ct) ⟨us, ks.zip ws⟩ = pure (ps.zip (pick perm (us ++ ws)))) : KB K fd ps n ks perm := by
  obtain ⟨oc, od, dV, kV, doc, pm, an, cdv, ct, osl, rfl, lk, hcd, hD, hK⟩ := F.ex
  rcases hD with ⟨_, rfl⟩ | ⟨e, _⟩
  · exact fun s us ws _ hu hw => .of_eq (h kV doc pm an cdv ct us ws hu hw)
  · exact absurd rfl e
end
end CP
namespace CP
open PySem PySem.Spec PyProof.Rows L2
theorem qf_gen {X : Cx} {cc : Str → Addr} {W : WX} {e : Expr} {c : CE} {t : TE} (h : QE X cc W e t) (hc : ∀ i, c ≠ .v i) : QF X cc W e c t := by
  unfold QF LF
  split
  · exact absurd rfl (hc _)
  · exact h.pe
end CP
namespace CP
open PySem PySem.Spec PyProof.Rows L2

/-! ### list(d.keys()) -/
section
variable {X : Cx}
def rListK : List V → Hp → VK → Prop := fun xs H Q => ∃ v d kvs, xs = [.ref v] ∧ H v = some (.ext fun h => PySem.W.KdlKeysView h v d) ∧ H d = some (.dK kvs) ∧ ∀ p, H p = none → Q (.ref p) (upd H p (.lst (kvs.map fun kv => kV kv.1)))
theorem call_listK (hcalm : X.calm = true) : CallR X (.type "list") rListK := by
  intro pins s σ H xs us Q I r q
  obtain ⟨v, d, kvs, ex, hv, hd, q⟩ := q
  subst ex
  obtain ⟨u, eu, rx⟩ := Vals.one r
  subst eu
  cases rx
  obtain ⟨z, lo, vs, rel, dd⟩ := dk_rd I.hok (.inl hd)
  obtain ⟨ep, hat⟩ := dd.dictAt
  have hview : PySem.W.KdlKeysView s.heap v d := (I.hok v _ hv).1
  have ek : (kvs.map fun kv => kV kv.1) = vs.map fun p => kV p.1 := by
    have e := congrArg (List.map kV) rel.keys
    rw [List.map_map, List.map_map] at e
    exact e
  refine PySem.W.kdl_call (PySem.W.kdl_keys (knd := mixKind X.prog X.w) (kvs := vs) (ep := ep) (r := v) (d := d)) (I.ok.hd hcalm) ⟨hview, hat⟩ (by rw [← rel.length]; exact z) fun h' tk acc c' hk hD hacc => ?_
  have hvv : Vals (vs.map fun p => kV p.1) acc.toList := keys_at (by rw [Array.length_toList]; exact hacc.1) fun j v e => hacc.2 j v (by rw [← Array.getElem?_toList]; exact e)
  exact ⟨.ref s.heap.objs.size, upd H s.heap.objs.size (.lst (kvs.map fun kv => kV kv.1)), I.laid (t' := tk) hk (Nat.le_refl _)
    (show ObjOk X.prog X.w _ _ _ (.lst (kvs.map fun kv => kV kv.1)) from ⟨by rw [List.length_map]; exact z, acc.toList, c', by rw [ek]; exact hvv, by rw [Array.toArray_toList]; exact hD⟩), rfl, q _ (I.hok.fresh (Nat.le_refl _))⟩
theorem pe_keysV {e : Expr} {td : L2.TE} {apos cpos : Pos} (he : PE X e td) (hbase : attributeBase e "keys" X.env (eval e X.env) = eval e X.env) (hline : (apos.endLine == cpos.line) = true) :
    PE X (.Call (.Attribute e "keys" apos) [] [] cpos) (fun σ H Q => td σ H fun x H1 => ∃ d kvs, x = .ref d ∧ H1 d = some (.dK kvs) ∧ ∀ v, H1 v = none → Q (.ref v) (upd H1 v (.ext fun h => PySem.W.KdlKeysView h v d))) := by
  refine ⟨fun pins s σ H Q I h => ?_⟩
  refine wpAny_Call_method (T := "dict") (id := "dict.keys") hbase rfl hline F.plainAttrs_dict F.slot_dict_keys F.type_dict_keys (thn (he.run pins s σ H _ I h) fun u s1 ⟨x, H1, I1, rx, d, kvs, ex, hd, q⟩ => ?_)
  subst ex
  obtain rfl : u = Value.ref d := rx
  obtain ⟨z, lo, vs, rel, dd⟩ := dk_rd I1.hok (.inl hd)
  refine ⟨dd.typeIs, dd.mapOf.noDict, ?_⟩
  show wpAny _ _ (callWith cpos (.builtin "dict.keys") [.ref d] [] []) _ X.xe s1
  refine method_meetsIn F.slot_dict_keys F.entry_dict_keys rfl (PySem.evalArgs_none ⟨rfl, dd.typeIs, F.args_dict_keys_1 _, _, PySem.W.kdl_meets_keys (mixKind X.prog X.w) d lo, ⟨vs, dd⟩, ?_⟩)
  refine ⟨.ref s1.heap.objs.size, _, I1.laid (t' := s1.toks) (o := .ext fun h => PySem.W.KdlKeysView h s1.heap.objs.size d) (fun b ob q => Heap.get?_push_of_some _ q) (Nat.le_refl _) ⟨⟨_, Heap.get?_push_size _ rfl, rfl, rfl⟩, ⟨_, Heap.get?_push_size _ rfl⟩, fun h1 h2 ⟨o, ho, hc⟩ k => ⟨o, k o ho, hc⟩⟩, rfl, q _ (I1.hok.fresh (Nat.le_refl _))⟩
theorem RepKs.keysR {K : PySem.W.Frag} {H : Hp} : ∀ {kvs : List (Key × D)} {ws : List (Key × V)}, RepKs K H kvs ws → RepDs K H (kvs.map fun kv => keyD kv.1) (ws.map fun kv => kV kv.1)
  | [], ws, r => by simp only [RepKs] at r; rw [r]; simp only [List.map_nil, RepDs]
  | (k, d) :: kvs, ws, r => by
    simp only [RepKs] at r
    obtain ⟨v, r', rfl, r1, r2⟩ := r
    simp only [List.map_cons, RepDs]
    refine ⟨_, _, rfl, ?_, RepKs.keysR r2⟩
    cases k with
    | inl i => exact rep_int.mpr rfl
    | inr i => exact rep_str.mpr rfl
theorem RepKMs.keysR {K : PySem.W.Frag} {H : Hp} : ∀ {kvs : List (Key × M)} {ws : List (Key × V)} {F : FP}, RepKMs K H kvs ws F → RepDs K H (kvs.map fun kv => keyD kv.1) (ws.map fun kv => kV kv.1)
  | [], ws, F, r => by simp only [RepKMs] at r; rw [r.1]; simp only [List.map_nil, RepDs]
  | (k, d) :: kvs, ws, F, r => by
    simp only [RepKMs] at r
    obtain ⟨v, r', F1, F2, rfl, r1, r2, _⟩ := r
    simp only [List.map_cons, RepDs]
    refine ⟨_, _, rfl, ?_, RepKMs.keysR r2⟩
    cases k with
    | inl i => exact rep_int.mpr rfl
    | inr i => exact rep_str.mpr rfl
theorem keysM_ok {K : PySem.W.Frag} {H : Hp} {m : M} {v : V} {Gm : FP} {ds : List D} (r : RepM K H m v Gm) (e : keysM m = some ds) : ∃ d ws, v = .ref d ∧ H d = some (.dK ws) ∧ RepDs K H ds (ws.map fun kv => kV kv.1) := by
  unfold keysM at e
  split at e
  · cases e; obtain ⟨a, ws, rfl, s, rs, _⟩ := repM_dct.mp r; exact ⟨a, ws, rfl, s, RepKs.keysR rs⟩
  · cases e; obtain ⟨a, ws, G, rfl, s, rs, _⟩ := repM_dnn.mp r; exact ⟨a, ws, rfl, s, RepKMs.keysR rs⟩
  · cases e
variable {cc : Str → Addr} {W : WX} {G : Glob} {Γ : Nat → Sp} {e : Expr} {a : CE} {pos p apos cpos : Pos}
theorem qe_keys (hc : X.calm = true) (hg : Gl X "list") (hm : X.mg "list" = none) (h : QO X cc W G e a (ev G Γ a)) (hbase : attributeBase e "keys" X.env (eval e X.env) = eval e X.env) (hline : (apos.endLine == cpos.line) = true)
    (s1 : starEach [Expr.Call (.Attribute e "keys" apos) [] [] cpos] X.env = (false, eval (Expr.Call (.Attribute e "keys" apos) [] [] cpos) X.env) :: starEach [] X.env) : QE X cc W (.Call (.Name "list" p) [.Call (.Attribute e "keys" apos) [] [] cpos] [] pos) (ev G Γ (.op1 .keys a)) :=
  ⟨PE.imp (pe_callTy (call_listK hc) hg hm (by decide +kernel) (pa_cons (pe_keysV h hbase hline) pa_nil s1) (by decide) (by decide) s1 rfl) fun σV H Q ⟨σ, F, Q1, E1, er, h, k, kx⟩ => by
    refine lo1 er (by simpa only [ev] using h) kx fun x σ2 vx H2 F2 Gx hf e2 rx s => ?_
    obtain ⟨z, hz, q⟩ := fin_ok hf
    obtain ⟨ds, hd, rfl⟩ := Option.map_eq_some_iff.mp (show (keysM x).map M.lst = some z from hz)
    obtain ⟨d, ws, rfl, hdk, rd⟩ := keysM_ok rx hd
    refine ⟨d, ws, rfl, hdk, fun v hv => ?_⟩
    have hne : d ≠ v := ne_of_none hdk hv
    refine ⟨v, d, ws, rfl, upd_same, by rw [upd_ne hne]; exact hdk, fun l hl => ?_⟩
    have x1 : Ext H2 (upd H2 v (.ext fun h => PySem.W.KdlKeysView h v d)) fpE := (Ext.upd hv).sub fun _ z => z.elim
    have x2 := Ext.upd (o := .lst (ws.map fun kv => kV kv.1)) hl
    have x3 := x1.trans x2
    have rl : RepM X.K (upd (upd H2 v (.ext fun h => PySem.W.KdlKeysView h v d)) l (.lst (ws.map fun kv => kV kv.1))) (.lst ds) (.ref l) (fpI l fpE) := repM_lst.mpr ⟨l, _, rfl, upd_same, keepDs x3.toKeep _ _ rd, rfl⟩
    have x4 := x3.sub (G2 := fpI l fpE) fun _ z => .inr z
    exact k _ _ ⟨_, σ2, F2, fpI l fpE, q, (e2.ext x4).1, rl, (e2.ext x4).2, s.trans x4.step⟩⟩
end
end CP
namespace CP
open PySem PySem.Spec PyProof.Rows L2
/-! ### readings, computed -/
section
variable {σ : Env} {Q : QM} {m : M} {i j : Int} {a b : Str} {k : Env → Prop}
theorem fin_some : fin (some m) σ Q = Q m σ := rfl
theorem fin_none : fin none σ Q = False := rfl
theorem bindO_some : bindO (some σ) k = k σ := rfl
theorem bindO_none : bindO none k = False := rfl
theorem slot_of {n : Nat} {k : M → Prop} (h : σ[n]? = some (some m)) : slot σ n k = k m := by unfold slot; rw [h]
theorem slot0 {k : M → Prop} : slot (some m :: σ) 0 k = k m := rfl
theorem slot1 {o : Option M} {n : Nat} {k : M → Prop} : slot (o :: σ) (n + 1) k = slot σ n k := by unfold slot; rfl
theorem opt_bind {α β : Type} {x : α} {f : α → Option β} : (some x).bind f = f x := rfl
theorem set0 {o o' : Option M} : (o :: σ).set 0 o' = o' :: σ := rfl
theorem set1 {o o' : Option M} {n : Nat} : (o :: σ).set (n + 1) o' = o :: σ.set n o' := rfl
theorem o_add : op2M .add (.im (.int i)) (.im (.int j)) = some (.im (.int (i + j))) := rfl
theorem o_sub : op2M .sub (.im (.int i)) (.im (.int j)) = some (.im (.int (i - j))) := rfl
theorem o_mulR (h : small64 j = true) : op2M .mul (.im (.int i)) (.im (.int j)) = some (.im (.int (i * j))) := by
  have : mulOk i j = true := by unfold mulOk; rw [h]; simp
  simp only [op2M, this, if_true]
theorem o_mulL (h : small64 i = true) : op2M .mul (.im (.int i)) (.im (.int j)) = some (.im (.int (i * j))) := by
  have : mulOk i j = true := by unfold mulOk; rw [h]; simp
  simp only [op2M, this, if_true]
theorem o_mul (h : mulOk i j = true) : op2M .mul (.im (.int i)) (.im (.int j)) = some (.im (.int (i * j))) := by
  simp only [op2M, h, if_true]
theorem o_mod (h : 0 < j) : op2M .mod (.im (.int i)) (.im (.int j)) = some (.im (.int (i % j))) := by
  simp only [op2M, bI, if_pos h, Option.map_some]
theorem o_fdiv (h : 0 < j) (h2 : j < 1073741824) : op2M .fdiv (.im (.int i)) (.im (.int j)) = some (.im (.int (i / j))) := by
  simp only [op2M, bI, if_pos (And.intro h h2), Option.map_some]
theorem o_pow (h : 0 ≤ j) (h2 : j ≤ 1000000) (h3 : i.natAbs < 2 ^ 64) : op2M .pow (.im (.int i)) (.im (.int j)) = some (.im (.int (i ^ j.toNat))) := by
  simp only [op2M, bI, if_pos (And.intro h (And.intro h2 h3)), Option.map_some]
theorem o_shr (h : 0 ≤ j) : op2M .shr (.im (.int i)) (.im (.int j)) = some (.im (.int (i / 2 ^ j.toNat))) := by
  simp only [op2M, bI, if_pos h, Option.map_some]
theorem o_shl (h : 0 ≤ j) (h2 : j ≤ 1000000) (h3 : i.natAbs < 2 ^ 64) : op2M .shl (.im (.int i)) (.im (.int j)) = some (.im (.int (i * 2 ^ j.toNat))) := by
  simp only [op2M, bI, if_pos (And.intro h (And.intro h2 h3)), Option.map_some]
theorem o_lt : op2M .lt (.im (.int i)) (.im (.int j)) = some (.im (.bl (decide (i < j)))) := rfl
theorem o_le : op2M .le (.im (.int i)) (.im (.int j)) = some (.im (.bl (decide (i ≤ j)))) := rfl
theorem o_gt : op2M .gt (.im (.int i)) (.im (.int j)) = some (.im (.bl (decide (j < i)))) := rfl
theorem o_ge : op2M .ge (.im (.int i)) (.im (.int j)) = some (.im (.bl (decide (j ≤ i)))) := rfl
theorem o_max : op2M .max (.im (.int i)) (.im (.int j)) = some (.im (.int (if j > i then j else i))) := rfl
theorem o_min : op2M .min (.im (.int i)) (.im (.int j)) = some (.im (.int (if j < i then j else i))) := rfl
theorem o_eqI : op2M .eq (.im (.int i)) (.im (.int j)) = some (.im (.bl (decide (i = j)))) := rfl
theorem o_eqS : op2M .eq (.im (.str a)) (.im (.str b)) = some (.im (.bl (decide (a = b)))) := rfl
theorem o_neI : op2M .ne (.im (.int i)) (.im (.int j)) = some (.im (.bl !(decide (i = j)))) := rfl
theorem o_neS : op2M .ne (.im (.str a)) (.im (.str b)) = some (.im (.bl !(decide (a = b)))) := rfl
theorem o_eqB {a b : Bool} : op2M .eq (.im (.bl a)) (.im (.bl b)) = some (.im (.bl (decide (a = b)))) := rfl
theorem o_neB {a b : Bool} : op2M .ne (.im (.bl a)) (.im (.bl b)) = some (.im (.bl !(decide (a = b)))) := rfl
theorem o_is0 : op2M .is (.im .non) (.im .non) = some (.im (.bl true)) := rfl
theorem o_isI : op2M .is (.im (.int i)) (.im .non) = some (.im (.bl false)) := rfl
theorem o_isS : op2M .is (.im (.str a)) (.im .non) = some (.im (.bl false)) := rfl
theorem o_isT {ds : List D} : op2M .is (.im (.tup ds)) (.im .non) = some (.im (.bl false)) := rfl
theorem o_isB {b : Bool} : op2M .is (.im (.bl b)) (.im .non) = some (.im (.bl false)) := rfl
theorem o_isn0 : op2M .isn (.im .non) (.im .non) = some (.im (.bl false)) := rfl
theorem o_isnI : op2M .isn (.im (.int i)) (.im .non) = some (.im (.bl true)) := rfl
theorem o_isnS : op2M .isn (.im (.str a)) (.im .non) = some (.im (.bl true)) := rfl
theorem o_isnT {ds : List D} : op2M .isn (.im (.tup ds)) (.im .non) = some (.im (.bl true)) := rfl
theorem o_neg : op1M .neg (.im (.int i)) = some (.im (.int (-i))) := rfl
theorem o_abs : op1M .abs (.im (.int i)) = some (.im (.int (if i < 0 then -i else i))) := rfl
theorem o_intI : op1M .int (.im (.int i)) = some (.im (.int i)) := rfl
theorem o_intB {b : Bool} : op1M .int (.im (.bl b)) = some (.im (.int (if b then 1 else 0))) := rfl
theorem o_len {n : Int} (h : lenM m = some n) : op1M .len m = some (.im (.int n)) := by simp only [op1M, h, Option.map_some]
theorem o_lenL {ds : List D} : op1M .len (.lst ds) = some (.im (.int (ds.length : Int))) := rfl
theorem o_lenN {ds : List M} : op1M .len (.nst ds) = some (.im (.int (ds.length : Int))) := rfl
theorem o_lenT {ds : List D} : op1M .len (.im (.tup ds)) = some (.im (.int (ds.length : Int))) := rfl
theorem o_lenF {ds : List D} : op1M .len (.im (.lst ds)) = some (.im (.int (ds.length : Int))) := rfl
theorem o_lenD {ds : List (Key × D)} : op1M .len (.dct ds) = some (.im (.int (ds.length : Int))) := rfl
theorem o_listL {ds : List D} : op1M .list (.lst ds) = some (.lst ds) := rfl
theorem o_listT {ds : List D} : op1M .list (.im (.tup ds)) = some (.lst ds) := rfl
theorem o_listF {ds : List D} : op1M .list (.im (.lst ds)) = some (.lst ds) := rfl
theorem o_tupL {ds : List D} : op1M .tuple (.lst ds) = some (.im (.tup ds)) := rfl
theorem o_tupT {ds : List D} : op1M .tuple (.im (.tup ds)) = some (.im (.tup ds)) := rfl
theorem o_boolI : op1M .bool (.im (.int i)) = some (.im (.bl (i != 0))) := rfl
theorem l_lst {ds : List D} : lenM (.lst ds) = some (ds.length : Int) := rfl
theorem l_nst {ms : List M} : lenM (.nst ms) = some (ms.length : Int) := rfl
theorem l_tup {ds : List D} : lenM (.im (.tup ds)) = some (ds.length : Int) := rfl
theorem l_flst {ds : List D} : lenM (.im (.lst ds)) = some (ds.length : Int) := rfl
theorem l_dct {kvs : List (Key × D)} : lenM (.dct kvs) = some (kvs.length : Int) := rfl
theorem t_non : truM (.im .non) = some false := rfl
theorem t_bl {b : Bool} : truM (.im (.bl b)) = some b := rfl
theorem t_int : truM (.im (.int i)) = some (i != 0) := rfl
theorem t_lst {ds : List D} : truM (.lst ds) = some (!ds.isEmpty) := rfl
theorem t_nst {ds : List M} : truM (.nst ds) = some (!ds.isEmpty) := rfl
theorem t_tup {ds : List D} : truM (.im (.tup ds)) = some (!ds.isEmpty) := rfl
theorem t_dct {ds : List (Key × D)} : truM (.dct ds) = some (!ds.isEmpty) := rfl
theorem i_nil : isiM m [] = some false := rfl
theorem i_cons {t : Ty} {ts : List Ty} {b c : Bool} (h : tyM t m = some b) (h2 : isiM m ts = some c) : isiM m (t :: ts) = some (b || c) := by simp only [isiM, h, h2, Option.bind_some, Option.map_some]
theorem ty_int {t : Ty} : tyM t (.im (.int i)) = some (t == .int) := rfl
theorem ty_str {t : Ty} : tyM t (.im (.str a)) = some (t == .str) := rfl
theorem ty_bl {t : Ty} {b : Bool} : tyM t (.im (.bl b)) = some (t == .bool || t == .int) := rfl
theorem ty_non {t : Ty} : tyM t (.im .non) = some false := rfl
theorem ty_tup {t : Ty} {ds : List D} : tyM t (.im (.tup ds)) = some (t == .tuple) := rfl
theorem ty_lst {t : Ty} {ds : List D} : tyM t (.lst ds) = some (t == .list) := rfl
theorem ow_im {d : D} : owned (.im d) = false := rfl
theorem ow_lst {ds : List D} : owned (.lst ds) = true := rfl
theorem ow_nst {ds : List M} : owned (.nst ds) = true := rfl
theorem ow_dct {ds : List (Key × D)} : owned (.dct ds) = true := rfl
theorem ow_dnn {ds : List (Key × M)} : owned (.dnn ds) = true := rfl
theorem iD_int : iD (.im (.int i)) = some i := rfl
theorem whl_succ {tt : TB} {tb : TS} {K : Ks} {n : Nat} : whlR tt tb K (n + 1) σ = tt σ (fun b σ1 => if b = true then tb { K with nx := whlR tt tb K n, ct := whlR tt tb K n, bk := K.nx } σ1 else K.nx σ1) K.ex := rfl
theorem for_cons {J : Env → Prop} {bind : D → Env → Option Env} {tb : TS} {K : Ks} {d : D} {r : List D} : forR J bind tb K (d :: r) σ = bindO (bind d σ) fun σ1 => tb { K with nx := fun σ' => J σ' ∧ forR J bind tb K r σ', ct := fun σ' => J σ' ∧ forR J bind tb K r σ', bk := K.nx } σ1 := rfl
theorem lc_cons {J : Env → Prop} {bind : D → Env → Option Env} {tt : TB} {te : TE} {own : List Nat} {E : QX} {d : D} {r : List D} {acc : List M} : lcR J bind tt te own E (d :: r) acc σ Q = bindO (bind d (unsetAll σ own)) fun σ1 => tt σ1 (fun b σ2 => if b = true then te σ2 (fun m σ3 => acc.length < sizeLine ∧ J (unsetAll σ3 own) ∧ lcR J bind tt te own E r (acc ++ [m]) (unsetAll σ3 own) Q) E
      else J (unsetAll σ2 own) ∧ lcR J bind tt te own E r acc (unsetAll σ2 own) Q) E := rfl
theorem ne_app {α : Type} {l : List α} {x : α} : (l ++ [x]).isEmpty = false := by cases l <;> rfl
theorem pop_app {r : List D} {x : D} : mth0M .pop (.lst (r ++ [x])) = some (.lst r, .im x) := by simp [mth0M]
theorem popN_app {r : List M} {x : M} : mth0M .pop (.nst (r ++ [x])) = some (.nst r, x) := by simp [mth0M]
theorem app_lst {r : List D} {x : D} (h : r.length < 16777216) : mth1M .append (.lst r) (.im x) = some (.lst (r ++ [x]), .im .non) := by
  have : r.length < sizeLine := by rw [sizeLine_eq]; exact h
  simp only [mth1M, if_pos this]
theorem app_nst {r : List M} {x : M} (h : r.length < 16777216) : mth1M .append (.nst r) x = some (.nst (r ++ [x]), .im .non) := by
  have : r.length < sizeLine := by rw [sizeLine_eq]; exact h
  simp only [mth1M, if_pos this]
theorem ext_lst {r s : List D} (h : r.length + s.length ≤ 16777216) : mth1M .extend (.lst r) (.lst s) = some (.lst (r ++ s), .im .non) := by
  have : r.length + s.length ≤ sizeLine := by rw [sizeLine_eq]; exact h
  simp only [mth1M, if_pos this]
theorem g_last {r : List D} {x : D} : getM (.lst (r ++ [x])) (.im (.int (-1))) = some (.im x) := by
  have e : ((-1 : Int) + ((r ++ [x]).length : Int)).toNat = r.length := by rw [List.length_append, List.length_singleton]; omega
  simp only [getM, atI, ixN]
  rw [if_neg (by decide), if_pos (by rw [List.length_append, List.length_singleton]; omega), e]
  simp
theorem g_lastD {r : List D} {x : D} (h : r.getLast? = some x) : getM (.lst r) (.im (.int (-1))) = some (.im x) := by
  have hne : r ≠ [] := by rintro rfl; cases h
  rw [List.getLast?_eq_getLast hne] at h
  rw [← List.dropLast_concat_getLast hne, Option.some.inj h]
  exact g_last
theorem lm_lst {r : List D} : isLm (.lst r) = true := rfl
theorem lm_nst {r : List M} : isLm (.nst r) = true := rfl
theorem dc_dctT {kvs : List (List Key × D)} : isDc (.dcT kvs) = true := rfl
end
end CP
namespace CP
open PySem PySem.Spec PyProof.Rows L2
/-! ### the law's own call -/
def IsScr (m : M) (ns : List Int) : Prop := m = .lst (ns.map .int) ∨ m = .im (.lst (ns.map .int))
theorem repInts {K : PySem.W.Frag} {H : Hp} : ∀ ns : List Int, RepDs K H (ns.map D.int) (ns.map V.int)
  | [] => by simp only [List.map_nil, RepDs]
  | n :: ns => by
    simp only [List.map_cons, RepDs]
    exact ⟨_, _, rfl, rep_int.mpr rfl, repInts ns⟩
theorem law_start {K : PySem.W.Frag} {cc : Str → Addr} {H : Hp} {a : Addr} {ns : List Int} {sp : Sp} (hS : SqL K H a (ns.map V.int)) (h : ∀ m, IsScr m ns → sp [m] (fun m _ => m = .im (.bl true)) (fun _ _ => False)) :
    toSp K cc 1 sp [.ref a] H (fun v _ => v = .bl true) fun _ _ _ => False := by
  have fin : ∀ v H', PostC K H [.ref a] fpE (fun m _ => m = .im (.bl true)) v H' → v = .bl true := fun v H' ⟨m, os, F1, G, e, _, r, _⟩ => by
    subst e
    exact rep_bl.mp (repM_imI.mp r).1
  have post : ∀ F v H', PostC K H [.ref a] F (fun m _ => m = .im (.bl true)) v H' → v = .bl true := fun F v H' ⟨m, os, F1, G, e, _, r, _⟩ => by
    subst e
    exact rep_bl.mp (repM_imI.mp r).1
  have ex : ∀ F cls d H', PostCX K cc H [.ref a] F (fun _ _ => False) cls d H' → False := fun F cls d H' ⟨_, _, _, z, _⟩ => z
  have frz : ∀ xs, SqF K H a xs → xs = ns.map V.int → toSp K cc 1 sp [.ref a] H (fun v _ => v = .bl true) fun _ _ _ => False := fun xs s e => by
    subst e
    have r : RepM K H (.im (.lst (ns.map .int))) (.ref a) fpE := repM_im (rep_flst.mpr ⟨a, _, rfl, s, repInts ns⟩)
    have er : EnvR K H ([M.im (.lst (ns.map .int))].map some) ([V.ref a].map some) (fpU fpE fpE) := EnvR.cons EnvR.nil (fun m q => ⟨_, rfl, by cases q; exact r⟩) (fun q => nomatch q) (fun _ z => z.elim)
    exact ⟨rfl, _, _, _, _, er, h _ (.inr rfl), post _, ex _⟩
  rcases hS with (s | ⟨o, s⟩) | s
  · have r : RepM K H (.lst (ns.map .int)) (.ref a) (fpI a fpE) := repM_lst.mpr ⟨a, _, rfl, s, repInts ns, rfl⟩
    have er : EnvR K H ([M.lst (ns.map .int)].map some) ([V.ref a].map some) (fpU fpE (fpI a fpE)) := EnvR.cons EnvR.nil (fun m q => ⟨_, rfl, by cases q; exact r⟩) (fun q => nomatch q) (fun _ z => z.elim)
    exact ⟨rfl, _, _, _, _, er, h _ (.inl rfl), post _, ex _⟩
  · exact frz _ (.inl ⟨o, s⟩) rfl
  · exact frz _ (.inr s) rfl
theorem cx_none {P : Program} {w : World} {H : Hp} {s : Shared} {e : Value} {s' : Shared} (h : L2.CX P w [] H s (fun _ _ _ => False) e s') : False := by
  obtain ⟨_, _, _, _, _, _, _, _, _, _, _, _, z⟩ := h
  exact z
theorem toCX0 {P : Program} {w : World} {K : PySem.W.Frag} {mg : Str → Option Value} {base : Heap} {k : Nat} {f : Addr} {fd : FuncData} {ps : List Str} {sp : L2.Sp} (F : FnOk P w K mg base (L2.CX P w) k f fd ps sp) :
    FnOk P w K mg base CX0 k f fd ps (fun vs H Q _ => sp vs H Q fun _ _ _ => False) :=
  ⟨fun vs H Q E h => F.len _ _ _ _ h, fun A outer s H args us vs Q E hr he hb hv hs => codeAny_mono (F.run A outer s H args us vs Q (fun _ _ _ => False) hr he hb hv hs) fun r s' h => by
    cases r with
    | error e =>
      obtain ⟨_, _, _, _, _, _, _, _, _, _, _, _, z⟩ := (show L2.CX P w outer H s (fun _ _ _ => False) e s' from h)
      exact z.elim
    | ok fl => cases fl <;> exact h⟩
end CP
namespace CP
open PySem PySem.Spec PyProof.Rows L2

/-! ### enumerate: a list, a tuple -/
theorem enew1 {src : Value} {itO : Obj} {Hh : Heap → Prop} (Bg : Begins src itO Hh) :
    Meets (Builtin.«enumerate.__new__» ⟨[.type "enumerate", src], []⟩) (fun _ Rz st => Hh st.heap ∧
      Rz (.ok (.ret (.ref (st.heap.push itO).objs.size))) { st with heap := (st.heap.push itO).push { cls := .type "enumerate", data := .fields #[.none, .bool false, .ref st.heap.objs.size, rawInt 0, .none, .none] } }) :=
  .of_wp fun prog w A Rz st hst => by
    obtain ⟨hp0, g0, d0, tk0, os0⟩ := st
    obtain ⟨hb, hst⟩ := hst
    have hsub := sub_enumerate
    have qi : ∀ {A' : Around} {Ez : Value → Shared → Prop} {Qz : Value → Shared → Prop}, Qz (.ref hp0.objs.size) ⟨hp0.push itO, g0, d0, tk0, os0⟩ → wpAny (model prog w) A' (pyIter src) Qz Ez ⟨hp0, g0, d0, tk0, os0⟩ :=
      fun q => Bg.iter prog w _ _ ⟨hp0, g0, d0, tk0, os0⟩ _ hb q
    wp_walk using qi
    refine wpAny_stack_any fun stk => wpAny_pure ?_
    split
    · rename_i c _ _ _ _ _
      cases (c == Value.type "enumerate")
      · wp_walk using qi
        exact ⟨_, rfl, hst⟩
      · wp_walk using qi
        exact ⟨_, rfl, hst⟩
    · wp_walk using qi
      exact ⟨_, rfl, hst⟩
theorem enum1 {prog : Program} {w : World} {A : Around} {E : Value → Shared → Prop} {st : Shared} {src : Value} {itO : Obj} {Hh : Heap → Prop} {Q : Value → Shared → Prop} (Bg : Begins src itO Hh) (h1 : Hh st.heap)
    (h : ∀ h', IsEnum h' (st.heap.objs.size + 1) st.heap.objs.size 0 .none → h'.get? st.heap.objs.size = some itO → (∀ b o, st.heap.get? b = some o → h'.get? b = some o) → Q (.ref (st.heap.objs.size + 1)) { st with heap := h' }) :
    wpAny (model prog w) A (call (.type "enumerate") [src]) Q E st := by
  refine callType_new PySem.F.called_enumerate (by decide) (PySem.F.typeCall_enumerate_1 _) (PySem.F.newCall_enumerate_1 _) (fun obj => PySem.F.args_object_init_2 obj _) PySem.F.entry_enumerate_new (enew1 Bg) ⟨h1, ?_⟩
  have sz : (st.heap.push itO).objs.size = st.heap.objs.size + 1 := Heap.size_push ..
  show _ ∧ _
  rw [sz]
  have he : IsEnum ((st.heap.push itO).push { cls := .type "enumerate", data := .fields #[.none, .bool false, .ref st.heap.objs.size, rawInt 0, .none, .none] }) (st.heap.objs.size + 1) st.heap.objs.size 0 .none := by
    have z := Heap.get?_push_size (st.heap.push itO) (o := { cls := .type "enumerate", data := .fields #[.none, .bool false, .ref st.heap.objs.size, rawInt 0, .none, .none] }) rfl
    rw [sz] at z; exact z
  exact ⟨⟨_, he, rfl⟩, h _ he (Heap.get?_push_of_some _ (Heap.get?_push_size _ Bg.free)) fun b o x => Heap.get?_push_of_some _ (Heap.get?_push_of_some _ x)⟩
/-- a tuple at a, its items in new pairs -/
def IteT (K : PySem.W.Frag) (a : Addr) : It :=
  ⟨fun i H => ∃ xs x, SqT K H a xs ∧ (xs : List V)[i]? = some x, fun i H v H' => ∃ T x, v = .ref T ∧ H T = none ∧ H' = upd H T (.tup [.int (i : Nat), x]) ∧ ∀ xs, SqT K H a xs → xs[i]? = some x,
   fun i H => ∃ xs : List V, SqT K H a xs ∧ xs.length ≤ i⟩
theorem turn_enumT {P : Program} {w : World} {K : PySem.W.Frag} {elts : List Expr} {kk : Nat} {tpos : Pos} (a e it : Addr) :
    Turn P w K (.Tuple elts kk tpos) (IteT K a) [e, it] e (fun i h => (∃ old, IsEnum h e it ((i : Nat) : Int) old) ∧ h.IsTupleIter it a i ∧ e ≠ it ∧ a ≠ it ∧ e ≠ a) where
  mem := by simp
  obj := fun i h ⟨⟨old, he⟩, ⟨o, ho, hc, hd⟩, _⟩ b hb => by
    have hb' : b = e ∨ b = it := by simpa using hb
    rcases hb' with rfl | rfl
    · exact ⟨_, he, fun v q => nomatch q⟩
    · exact ⟨o, ho, fun v q => by rw [hd] at q; cases q⟩
  keep := fun i h h' ⟨⟨old, he⟩, hi, hne⟩ k => ⟨⟨old, k e (by simp) _ he⟩, hi.at fun o q => k it (by simp) o q, hne⟩
  item := by
    intro X hP hw hK hc i pins s σ H E I hf st hg
    subst hP hw hK
    obtain ⟨⟨old, he⟩, hit, hne, hai, hea⟩ := st
    obtain ⟨xs, x, hq, hx⟩ := hg
    obtain ⟨its, rv, p, _⟩ := I.tuple hq
    obtain ⟨u, hu, ru⟩ := rv.get hx
    have hel : e < s.heap.objs.size := Heap.lt_size he
    have hil : it < s.heap.objs.size := by obtain ⟨_, q, _⟩ := hit; exact Heap.lt_size q
    have Dr := Draws.tuple (prog := X.prog) (w := X.w) (A := X.A.in1) (I.ok.hd hc) it a hai its.toArray
    have hlt : i < its.toArray.size := by
      have := (List.getElem?_eq_some_iff.mp hu).1
      simpa using this
    have hef : e ∉ [it, a] := by simp [hne, hea]
    refine wpAny_pyNext_enum_itemC Dr he ⟨hit, show s.heap.IsTuple a its.toArray from p⟩ hlt hne hef fun y h' tk hy ho st' hT hsz hk => ?_
    have ey : y = u := by
      have z := hu
      rw [show its[i]? = its.toArray[i]? by simp, hy] at z
      exact Option.some.inj z
    subst ey
    obtain ⟨hit', _⟩ := st'
    refine ⟨_, rfl, wpAny_letOwnedTupleGo_enum (s := { s with heap := h', toks := tk + 1 }) ho fun h'' he' sb => ?_⟩
    have hT2 : h''.get? s.heap.objs.size = some { cls := .type "tuple", data := .seq #[.int i tk, y] } := (sb.2 _ (Nat.ne_of_gt hel)).trans hT
    have new : ObjOk X.prog X.w (upd H s.heap.objs.size (.tup [.int (i : Nat), x])) h'' s.heap.objs.size (.tup [.int (i : Nat), x]) :=
      ⟨by show 2 ≤ sizeLine; decide, [.int i tk, y], .cons ⟨_, rfl⟩ (.cons ru .nil), ⟨_, hT2, rfl, _, rfl⟩⟩
    have I1 : Inv X pins σ (upd H s.heap.objs.size (.tup [.int (i : Nat), x])) { s with heap := h'', toks := tk + 1 } :=
      I.turnedNew (ch := [e, it]) (fun b ob hb q => (sb.2 b (fun z => hb (by simp [z]))).trans (hk b ob (fun z => hb (by simp [z])) (fun z => hb (by simp [z])) q)) hf (Nat.le_refl _) new
    refine ⟨.ref s.heap.objs.size, _, I1, rfl, ⟨_, x, rfl, I.hok.fresh (Nat.le_refl _), rfl, fun ys hy => by rw [I.tuple_inj hy hq]; exact hx⟩, ⟨⟨y, ?_⟩, hit'.at fun o q => (sb.2 it (Ne.symm hne)).trans q, hne, hai, hea⟩, fun b hb => ?_⟩
    · have e1 : ((i + 1 : Nat) : Int) = (i : Int) + 1 := by omega
      rw [e1]; exact he'
    · have hb' : b < s.heap.objs.size := by
        have e' : b = e ∨ b = it := by simpa using hb
        rcases e' with rfl | rfl
        · exact hel
        · exact hil
      rw [upd_ne (Nat.ne_of_lt hb')]
      exact (hf b hb).1
  done := by
    intro X hP hw hK hc i pins s σ H E I hf st hg
    subst hP hw hK
    obtain ⟨⟨old, he⟩, hit, hne, hai, hea⟩ := st
    obtain ⟨xs, hq, hx⟩ := hg
    obtain ⟨its, rv, p, _⟩ := I.tuple hq
    obtain ⟨f0, f1, f2, f3, f4, f5⟩ := hf it (by simp)
    have hl := rv.length
    have Dr : Draws X.prog X.w X.A.in1 it [it, a] i (fun _ _ => True) (fun j h => j = i ∧ h.IsTupleIter it a j ∧ h.IsTuple a its.toArray) :=
      { live := fun _ _ z => let ⟨o, ho, _⟩ := z.2.1; ⟨o, ho⟩
        frame := fun _ _ _ z hk => ⟨z.1, z.2.1.at fun o e => hk it (by simp) o e, z.2.2.at fun o e => hk a (by simp) o e⟩
        item := fun j s Q E hj z _ => absurd z.1 (Nat.ne_of_lt hj)
        done := fun s Q E z hE => wpAny_nextOf_tuple_end (I.ok.hd hc) z.2.1 z.2.2 (by simp; omega) hE }
    exact wpAny_pyNext_enum_endD Dr he ⟨rfl, hit, show s.heap.IsTuple a its.toArray from p⟩ fun h' eb => ⟨rfl, I.turned (t' := s.toks) (fun b o hb q => eb b o hb q) f0 f1 f3 f4 f5⟩
  self := fun A i s Q E ⟨⟨_, he⟩, _⟩ h => wpAny_pyIter_enum he h
def iEnumA (K : PySem.W.Frag) (ta : L2.TA) : L2.TI := fun σ H R => ta σ H fun vs H1 => ∃ a, vs = [.ref a] ∧ ((∃ xs, SqL K H1 a xs ∧ R (Ite K a) H1) ∨ ∃ xs, SqT K H1 a xs ∧ R (IteT K a) H1)
theorem pi_enumA {X : Cx} {e : Expr} {ta : L2.TA} {p pos tpos : Pos} {elts : List Expr} {kk : Nat} (hg : Gl X "enumerate") (hm : X.mg "enumerate" = none) (ha : PA X [e] ta) (hs : starEach [e] X.env = [(false, eval e X.env)]) :
    PI X (.Tuple elts kk tpos) (.Call (.Name "enumerate" p) [e] [] pos) (iEnumA X.K ta) := by
  refine ⟨fun pins s σ H R I h => Call_ (ld_blt I hg hm boot_enumerate (PyProof.Rows.callWith_type1 (thn (ha.run pos pins s σ H _ I h) fun us s1 ⟨vs, H1, I1, r1, q1⟩ => ?_) hs rfl))⟩
  obtain ⟨a, rfl, q1⟩ := q1
  obtain ⟨u, rfl, ru⟩ := r1.one
  cases ru
  have fresh : ∀ b ∈ [s1.heap.objs.size + 1, s1.heap.objs.size], FpOk X pins H1 b := fun b hb => by
    have hle : s1.heap.objs.size ≤ b := by
      rcases (show b = s1.heap.objs.size + 1 ∨ b = s1.heap.objs.size by simpa using hb) with rfl | rfl
      · exact Nat.le_add_right _ _
      · exact Nat.le_refl _
    exact I1.fpOk hle (I1.hok.fresh hle)
  rcases q1 with ⟨xs, hq, q⟩ | ⟨xs, hq, q⟩
  · obtain ⟨its, rv, p', hz⟩ := I1.list hq
    refine enum1 (begins_list a its.toArray) p'.isList fun h' he hit hk => wpAny_pyIter_enum he ?_
    exact ⟨s1.heap.objs.size + 1, [s1.heap.objs.size + 1, s1.heap.objs.size], _, _, H1, rfl, I1.kept (t' := s1.toks) hk, turn_enum a _ _, ⟨⟨.none, he⟩, ⟨_, hit, rfl, rfl⟩, Nat.succ_ne_self _⟩, fresh, q⟩
  · obtain ⟨its, rv, p', hz⟩ := I1.tuple hq
    have hlt : a < s1.heap.objs.size := by obtain ⟨o, ho, _⟩ := p'; exact Heap.lt_size ho
    refine enum1 (begins_tuple a its.toArray) (show s1.heap.IsTuple a its.toArray from p') fun h' he hit hk => wpAny_pyIter_enum he ?_
    exact ⟨s1.heap.objs.size + 1, [s1.heap.objs.size + 1, s1.heap.objs.size], _, _, H1, rfl, I1.kept (t' := s1.toks) hk, turn_enumT a _ _, ⟨⟨.none, he⟩, ⟨_, hit, rfl, rfl⟩, Nat.succ_ne_self _, Nat.ne_of_lt hlt, Nat.ne_of_gt (Nat.lt_succ_of_lt hlt)⟩, fresh, q⟩
theorem enum_get {ds : List D} {i : Nat} {d : D} (h : ds[i]? = some d) : (enumD ds)[i]? = some (.tup [.int i, d]) := by
  have hi := (List.getElem?_eq_some_iff.mp h).1
  unfold enumD
  rw [List.getElem?_map, List.getElem?_zip_eq_some (z := (i, d)) |>.mpr ⟨List.getElem?_range hi, h⟩]
  rfl
theorem enum_len {ds : List D} : (enumD ds).length = ds.length := by simp [enumD]
theorem pair_rep {K : PySem.W.Frag} {H : Hp} {T : Addr} {i : Nat} {d : D} {x : V} (hT : H T = none) (r : RepD K H d x) : RepD K (upd H T (.tup [.int (i : Nat), x])) (.tup [.int i, d]) (.ref T) ∧ Ext H (upd H T (.tup [.int (i : Nat), x])) fpE := by
  have ext := Ext.upd (o := .tup [.int (i : Nat), x]) hT
  refine ⟨rep_tup.mpr ⟨T, _, rfl, upd_same, ?_⟩, ext.sub fun _ z => z.elim⟩
  simp only [RepDs]
  exact ⟨_, _, rfl, rep_int.mpr rfl, _, _, rfl, keepD ext.toKeep _ _ r, rfl⟩
theorem walkE {K : PySem.W.Frag} {H' : Hp} {p : Addr} {ds : List D} (h : ∃ xs, SqL K H' p xs ∧ RepDs K H' ds xs) : Walks K (Ite K p) (enumD ds) H' := fun i => by
  obtain ⟨xs, s, r⟩ := h
  rw [enum_len]
  refine ⟨fun hi => ?_, fun hi => ⟨xs, s, by rw [← r.len]; exact hi⟩⟩
  obtain ⟨v, hv, rv⟩ := r.get (List.getElem?_eq_getElem hi)
  refine ⟨⟨xs, v, s, hv⟩, fun x H2 ⟨T, y, ex, hT, e, hx⟩ => ?_⟩
  subst e ex
  have := hx xs s
  rw [hv] at this
  cases this
  exact ⟨_, enum_get (List.getElem?_eq_getElem hi), pair_rep hT rv⟩
theorem walkET {K : PySem.W.Frag} {H' : Hp} {p : Addr} {ds : List D} (h : ∃ xs, SqT K H' p xs ∧ RepDs K H' ds xs) : Walks K (IteT K p) (enumD ds) H' := fun i => by
  obtain ⟨xs, s, r⟩ := h
  rw [enum_len]
  refine ⟨fun hi => ?_, fun hi => ⟨xs, s, by rw [← r.len]; exact hi⟩⟩
  obtain ⟨v, hv, rv⟩ := r.get (List.getElem?_eq_getElem hi)
  refine ⟨⟨xs, v, s, hv⟩, fun x H2 ⟨T, y, ex, hT, e, hx⟩ => ?_⟩
  subst e ex
  have := hx xs s
  rw [hv] at this
  cases this
  exact ⟨_, enum_get (List.getElem?_eq_getElem hi), pair_rep hT rv⟩
theorem qi_enum {X : Cx} {cc : Str → Addr} {W : WX} {G : Glob} {Γ : Nat → Sp} {e : Expr} {a : CE} {fx : List Nat} {pos pn tpos : Pos} {elts : List Expr} {kk : Nat} (hg : Gl X "enumerate") (hm : X.mg "enumerate" = none) (h : PE X e (LH X.K cc W G a fx (ev G Γ a))) (hs : starEach [e] X.env = [(false, eval e X.env)]) :
    PI X (.Tuple elts kk tpos) (.Call (.Name "enumerate" pn) [e] [] pos) (LI X.K cc W (evI G Γ (.enum a)) fx) := PI.imp (pi_enumA hg hm (pa_cons h pa_nil hs) hs) fun σV H R ⟨σ, F, Q1, E1, er, h, k, kx⟩ => by
  simp only [evI] at h
  refine ⟨σ, F, _, E1, er, h, fun v H1 ⟨m, σ1, F1, Gm, hq, e1, rm, hd, st⟩ => ?_, kx⟩
  split at hq
  · rename_i ds hs
    obtain ⟨p, Gh, rfl, dj, sub, h⟩ := held_seq e1 rm hd hs
    have mu : ∀ a, Gh a → Mut (H1 a) := fun a z => mutM m _ _ rm a (sub a z)
    have st' : Step H F H1 (fpU F1 Gh) := st.sub fun a z => z.imp id (sub a)
    rcases h with ⟨⟨xs, hx⟩, hl⟩ | ⟨⟨xs, hx⟩, hl⟩
    · exact ⟨p, rfl, .inl ⟨xs, hx, k _ _ ⟨_, _, σ1, F1, Gh, hq, e1, dj, mu, st', fun σ' σV' H' F' e' j sv kp g => walkE (hl σ' σV' H' F' e' j sv kp g)⟩⟩⟩
    · exact ⟨p, rfl, .inr ⟨xs, hx, k _ _ ⟨_, _, σ1, F1, Gh, hq, e1, dj, mu, st', fun σ' σV' H' F' e' j sv kp g => walkET (hl σ' σV' H' F' e' j sv kp g)⟩⟩⟩
  · exact hq.elim
end CP
namespace CP
open PySem PySem.Spec PyProof.Rows L2

/-! ### list(d), d a dict with tuples for keys -/
theorem keysKV {K : PySem.W.Frag} {H : Hp} : ∀ ks : List Key, RepDs K H (ks.map keyD) (ks.map kV)
  | [] => by simp only [List.map_nil, RepDs]
  | k :: ks => by
    simp only [List.map_cons, RepDs]
    refine ⟨_, _, rfl, ?_, keysKV ks⟩
    cases k with
    | inl i => exact rep_int.mpr rfl
    | inr i => exact rep_str.mpr rfl
theorem tkeys_rep {K : PySem.W.Frag} {H : Hp} : ∀ {kvs : List (List Key × D)} {ws : List (List Key × V)} {bs : List Addr}, RepKs K H kvs ws → IsKeys H ws bs → RepDs K H (kvs.map fun kv => .tup (kv.1.map keyD)) (bs.map V.ref)
  | [], ws, bs, r, i => by
    simp only [RepKs] at r
    subst r
    cases i
    simp only [List.map_nil, RepDs]
  | (k, d) :: kvs, ws, bs, r, i => by
    simp only [RepKs] at r
    obtain ⟨v, r', rfl, r1, r2⟩ := r
    cases i with
    | cons h t =>
      simp only [List.map_cons, RepDs]
      exact ⟨_, _, rfl, rep_tup.mpr ⟨_, _, rfl, h, keysKV k⟩, tkeys_rep r2 t⟩
theorem cr_tkeysR {X : Cx} (hc : X.calm = true) : CallR X (.type "list") (R1 X.K .tkeys) := by
  intro pins s σ H vs us Q I rv hh
  obtain ⟨a, rfl, x, z, Gx, hx, e, r⟩ := hh
  simp only [op1M] at e
  split at e
  · rename_i kvs
    cases e
    obtain ⟨p, ws, rfl, sq, rs, _⟩ := repM_dcT.mp hx
    exact call_list_dT hc pins s σ H _ us Q I rv ⟨p, ws, rfl, .of sq, fun l bs hl hk => r.lst (tkeys_rep rs hk) l hl⟩
  · cases e

/-! ### sorted -/
theorem perm_rep {K : PySem.W.Frag} {H : Hp} {vs ws : List V} (h : vs.Perm ws) : ∀ {ds : List D}, RepDs K H ds vs → ∃ es : List D, es.Perm ds ∧ RepDs K H es ws := by
  induction h with
  | nil => exact fun r => ⟨_, .refl _, r⟩
  | cons x _ ih =>
    intro ds r
    cases ds with
    | nil => simp [RepDs] at r
    | cons d ds =>
      simp only [RepDs] at r
      obtain ⟨v, r', e, r1, r2⟩ := r
      cases e
      obtain ⟨es, p, q⟩ := ih r2
      exact ⟨d :: es, p.cons d, by simp only [RepDs]; exact ⟨_, _, rfl, r1, q⟩⟩
  | swap x y l =>
    intro ds r
    match ds, r with
    | [], r => simp [RepDs] at r
    | [d], r => simp [RepDs] at r
    | d :: e :: ds, r =>
      simp only [RepDs] at r
      obtain ⟨v, r', h1, r1, v2, r2', h2, r2, r3⟩ := r
      cases h1
      cases h2
      exact ⟨e :: d :: ds, .swap _ _ _, by simp only [RepDs]; exact ⟨_, _, rfl, r2, _, _, rfl, r1, r3⟩⟩
  | trans _ _ ih1 ih2 =>
    intro ds r
    obtain ⟨es, p, q⟩ := ih1 r
    obtain ⟨fs, p2, q2⟩ := ih2 q
    exact ⟨fs, p2.trans p, q2⟩
theorem mem_rep {K : PySem.W.Frag} {H : Hp} {d : D} : ∀ {ds : List D} {vs : List V}, RepDs K H ds vs → d ∈ ds → ∃ v ∈ vs, RepD K H d v
  | [], _, _, h => by cases h
  | e :: ds, vs, r, h => by
    simp only [RepDs] at r
    obtain ⟨v, r', rfl, r1, r2⟩ := r
    rcases List.mem_cons.mp h with rfl | h
    · exact ⟨v, by simp, r1⟩
    · obtain ⟨w, hw, q⟩ := mem_rep r2 h
      exact ⟨w, by simp [hw], q⟩
theorem rep_mem {K : PySem.W.Frag} {H : Hp} {v : V} : ∀ {ds : List D} {vs : List V}, RepDs K H ds vs → v ∈ vs → ∃ d ∈ ds, RepD K H d v
  | [], vs, r, h => by simp only [RepDs] at r; rw [r] at h; cases h
  | e :: ds, vs, r, h => by
    simp only [RepDs] at r
    obtain ⟨w, r', rfl, r1, r2⟩ := r
    rcases List.mem_cons.mp h with rfl | h
    · exact ⟨e, by simp, r1⟩
    · obtain ⟨d, hd, q⟩ := rep_mem r2 h
      exact ⟨d, by simp [hd], q⟩
theorem pw_rep {K : PySem.W.Frag} {H : Hp} {Rv : V → V → Prop} {Rd : D → D → Prop} (h : ∀ d e v w, RepD K H d v → RepD K H e w → Rv v w → Rd d e) : ∀ {es : List D} {ws : List V}, RepDs K H es ws → ws.Pairwise Rv → es.Pairwise Rd
  | [], _, _, _ => .nil
  | d :: es, ws, r, p => by
    simp only [RepDs] at r
    obtain ⟨v, r', rfl, r1, r2⟩ := r
    obtain ⟨p1, p2⟩ := List.pairwise_cons.mp p
    refine List.pairwise_cons.mpr ⟨fun e he => ?_, pw_rep h r2 p2⟩
    obtain ⟨w, hw, q⟩ := mem_rep r2 he
    exact h _ _ _ _ r1 q (p1 w hw)
theorem intsV {K : PySem.W.Frag} {H : Hp} : ∀ {ns : List Int} {vs : List V}, RepDs K H (ns.map .int) vs → vs = ns.map V.int
  | [], vs, r => by simpa only [List.map_nil, RepDs] using r
  | n :: ns, vs, r => by
    simp only [List.map_cons, RepDs] at r
    obtain ⟨v, r', rfl, r1, r2⟩ := r
    rw [rep_int.mp r1, intsV r2]
    rfl
theorem tupI_rep {K : PySem.W.Frag} {H : Hp} {ns : List Int} {v : V} (r : RepD K H (.tup (ns.map .int)) v) : TupI K H v ns := by
  obtain ⟨a, vs, rfl, s, rs⟩ := rep_tup.mp r
  rw [intsV rs] at s
  exact ⟨a, rfl, SqT.of s⟩
def rSortX (K : PySem.W.Frag) : List V → Hp → VK → Prop := fun vs H Q => ∃ (a : Addr) (xs : List V), vs = [V.ref a] ∧ SqL K H a xs ∧ (∀ x ∈ xs, ∃ ns, TupI K H x ns ∧ ns ≠ []) ∧ ∀ (ys : List V) (p : Addr), ys.Perm xs → H p = none → Q (.ref p) (upd H p (.lst ys))
theorem tupItems_ints : ∀ {ns : List Int} {us : List Value} {i : Nat}, Vals (ns.map V.int) us → PyProof.Rows.tupItems (fun _ => false) i us = some (ns.map Sum.inl)
  | [], us, i, h => by
    cases h
    rfl
  | n :: ns, us, i, h => by
    cases h with
    | cons r t =>
      obtain ⟨k, rfl⟩ := r
      have ih := tupItems_ints (i := i + 1) t
      show (if (fun _ : Nat => false) i = true then none else (PyProof.Rows.tupItems (fun _ => false) (i + 1) _).map (Sum.inl n :: ·)) = _
      rw [if_neg Bool.false_ne_true, ih]
      rfl
theorem tupOf_all {h : Heap} : ∀ {vs : List Value}, (∀ v ∈ vs, ∃ f, PyProof.Rows.TupOf h (fun _ => false) v f) → ∃ fs, PyProof.Rows.TupsOf h (fun _ => false) vs fs
  | [], _ => ⟨[], .nil⟩
  | v :: vs, hh => by
    obtain ⟨f, hf⟩ := hh v (by simp)
    obtain ⟨fs, hfs⟩ := tupOf_all (vs := vs) fun u hu => hh u (by simp [hu])
    exact ⟨f :: fs, .cons hf hfs⟩
theorem cr_sortX {X : Cx} : CallR X (.builtin "sorted") (rSortX X.K) := by
  intro pins st σ H vs us Q I rv hh
  obtain ⟨a, xs, rfl, hs, hx, q⟩ := hh
  obtain ⟨its, rvs, hl, hz⟩ := I.list hs
  rw [Vals.ref1 rv]
  obtain ⟨e1, e2⟩ := bkV_refs rvs fun x m => by
    obtain ⟨ns, ⟨t, e, _⟩, _⟩ := hx x m
    exact ⟨t, e⟩
  have key : ∀ v ∈ its, ∃ (t : Addr) (ob : Obj) (us : List Value) (n : Nat) (ns : List Int), v = .ref t ∧ st.heap.get? t = some ob ∧ ob.cls = .type "tuple" ∧ ob.data = .seq us.toArray n ∧ Vals (ns.map V.int) us ∧ ns ≠ [] := fun v hv => by
    obtain ⟨t, rfl⟩ := e2 v hv
    have hm : V.ref t ∈ xs := by rw [e1]; exact List.mem_map.mpr ⟨_, hv, rfl⟩
    obtain ⟨ns, ⟨t', e, ht⟩, hne⟩ := hx _ hm
    cases e
    obtain ⟨us, r, ⟨ob, g1, g2, n, g3⟩, _⟩ := I.tuple ht
    exact ⟨t, ob, us, n, ns, rfl, g1, g2, g3, r, hne⟩
  obtain ⟨fs, hfs⟩ := tupOf_all (h := st.heap) (vs := its) fun v hv => by
    obtain ⟨t, ob, us, n, ns, rfl, g1, g2, g3, r, hne⟩ := key v hv
    cases ns with
    | nil => exact absurd rfl hne
    | cons k ns =>
      cases r with
      | cons r1 r2 =>
        obtain ⟨tk, rfl⟩ := r1
        exact ⟨_, t, ob, _, n, rfl, g1, g2, g3, rfl, fun _ => ⟨k, tk, rfl⟩, fun z => absurd z Bool.false_ne_true⟩
  refine PyProof.Rows.G.sorted_tups (shape := fun _ => false) hl.isList hfs (fun v hv => ?_) (by rw [← rvs.length]; exact hz) fun sst h1 _ _ => ?_
  · obtain ⟨t, ob, us, n, ns, rfl, g1, g2, g3, r, _⟩ := key v hv
    refine ⟨ns.map Sum.inl, ?_⟩
    have c1 : PyProof.Rows.G.isTupObj st.heap (.ref t) = true := by simp only [PyProof.Rows.G.isTupObj, g1, g2]; rfl
    unfold PyProof.Rows.G.tupKeyC
    rw [if_pos c1]
    simp only [PyProof.Rows.tupKey, g1, g3]
    exact tupItems_ints r
  · have pv : ((arrOf sst).map (·.2)).toList.Perm its := by
      have z := h1
      rw [Array.perm_iff_toList_perm] at z
      have z2 := z.map (·.2)
      rw [pairsOf_toList, List.map_snd_zip (Nat.le_refl _)] at z2
      rw [Array.toList_map]
      exact z2
    obtain ⟨ep, hat⟩ := PyProof.Rows.sortedAll_at st.heap its ((arrOf sst).map (·.2))
    have h3 : ∀ u ∈ ((arrOf sst).map (·.2)).toList, ∃ b, u = Value.ref b := fun u hu => e2 u (pv.mem_iff.mp hu)
    have hp : (((arrOf sst).map (·.2)).toList.map bkV).Perm xs := by
      rw [e1]
      exact pv.map bkV
    have hlen : (((arrOf sst).map (·.2)).toList.map bkV).length ≤ sizeLine := by rw [hp.length_eq]; exact hz
    exact ⟨.ref _, upd H (st.heap.objs.size + 1) (.lst (((arrOf sst).map (·.2)).toList.map bkV)), I.laid (t' := st.toks) (fun _ _ => PyProof.Rows.sortedAll_old) (Nat.le_succ _) ⟨hlen, ((arrOf sst).map (·.2)).toList, ep, bkV_vals h3, hat⟩, rfl, q _ _ hp (I.hok.fresh (Nat.le_succ _))⟩
section
variable {X : Cx} {cc : Str → Addr} {W : WX} {G : Glob} {Γ : Nat → Sp} {e e1 e2 : Expr} {a b : CE} {pos pn apos cpos : Pos}
theorem qe_srt (hg : Gl X "sorted") (hm : X.mg "sorted" = none) (h1 : QO X cc W G e1 a (ev G Γ a)) (s1 : starEach [e1] X.env = (false, eval e1 X.env) :: starEach [] X.env) : QE X cc W (.Call (.Name "sorted" pn) [e1] [] pos) (ev G Γ (.srt a)) :=
  ⟨PE.imp (pe_callB cr_sortX hg hm (by decide +kernel) (pa_cons h1 pa_nil s1) (by decide) (by decide) s1) fun σV H Q ⟨σ, F, Q1, E1, er, h, k, kx⟩ => by
    refine lo1 er (by simpa only [ev] using h) kx fun x σ2 vx H2 F2 Gx hf e2 rx s => ?_
    split at hf
    · rename_i ds hds
      obtain ⟨hl, hall, hk⟩ := hf
      obtain ⟨p, ws, rfl, sq, rs⟩ := lstM_ok rx hds
      refine ⟨p, ws, rfl, sq, fun v hv => ?_, fun ys l hp hl0 => ?_⟩
      · obtain ⟨d, hd, rd⟩ := rep_mem rs hv
        obtain ⟨ns, h1, rfl⟩ := hall d hd
        exact ⟨ns, tupI_rep rd, h1⟩
      · obtain ⟨es, pe, re⟩ := perm_rep hp.symm rs
        have q := hk es pe
        have ext := Ext.upd (o := .lst ys) hl0
        have rl : RepM X.K (upd H2 l (.lst ys)) (.lst es) (.ref l) (fpI l fpE) := repM_lst.mpr ⟨l, ys, rfl, upd_same, keepDs ext.toKeep _ _ re, rfl⟩
        exact k _ _ ⟨_, σ2, F2, fpI l fpE, q, (e2.ext ext).1, rl, (e2.ext ext).2, s.trans ext.step⟩
    · exact hf.elim⟩
/-! ### s.upper() -/
theorem qe_upper (h1 : QO X cc W G e1 a (ev G Γ a)) (hbase : attributeBase e1 "upper" X.env (eval e1 X.env) = eval e1 X.env) (hline : (apos.endLine == pos.line) = true) : QE X cc W (.Call (.Attribute e1 "upper" apos) [] [] pos) (ev G Γ (.op1 .upper a)) :=
  ⟨PE.imp (pe_upper h1 hbase hline) fun σV H Q ⟨σ, F, Q1, E1, er, h, k, kx⟩ => by
    refine lo1 er (by simpa only [ev] using h) kx fun x σ2 vx H2 F2 Gx hf e2 rx s => ?_
    obtain ⟨z, hz, q⟩ := fin_ok hf
    simp only [op1M] at hz
    split at hz
    · rename_i w
      split at hz
      · rename_i hw
        cases hz
        obtain rfl := rep_str.mp (repM_imI.mp rx).1
        exact ⟨⟨w, rfl⟩, w, rfl, rfl, hw, k _ _ ⟨_, σ2, F2, fpE, q, e2, repM_im (rep_str.mpr rfl), fun _ _ z => z, by rw [fpU_E]; exact s⟩⟩
      · cases hz
    · cases hz⟩
end
/-! ### tuple(xs): a tuple that is known to have no dict -/
theorem cr_tuplekR {X : Cx} : CallR X (.type "tuple") (R1 X.K .tuplek) := by
  intro pins st σ H vs us Q I rv hh
  obtain ⟨a, rfl, x, z, Gx, hx, e, r⟩ := hh
  obtain ⟨ds, hd, rfl⟩ := Option.map_eq_some_iff.mp (show (lstM x).map (fun ds => M.im (.kt ds)) = some z from e)
  obtain ⟨p, ws, rfl, sq, rs⟩ := lstM_ok hx hd
  obtain ⟨u, rfl, ru⟩ := rv.one
  cases ru
  obtain ⟨its, r', pl, hz⟩ := I.list sq
  have hlen := r'.length
  refine call_tuple_list pl.isList (fun h' kp => ?_) (by simp only [List.size_toArray] <;> omega)
  have I1 : Inv X pins σ H { st with heap := h' } := I.kept (t' := st.toks) kp
  have ok1 : ObjOk X.prog X.w (upd H h'.objs.size (.frz { cls := .type "tuple", data := .seq its.toArray } (.tup ws))) (h'.push { cls := .type "tuple", data := .seq its.toArray }) h'.objs.size (.frz { cls := .type "tuple", data := .seq its.toArray } (.tup ws)) :=
    ⟨Heap.get?_push_size _ rfl, hz, its, r', IsTup.new _ _⟩
  have I2 : Inv X pins σ (upd H h'.objs.size (.frz { cls := .type "tuple", data := .seq its.toArray } (.tup ws))) { st with heap := h'.push { cls := .type "tuple", data := .seq its.toArray } } :=
    I1.laid (t' := st.toks) (fun b o y => Heap.get?_push_of_some _ y) (Nat.le_refl _) ok1
  have hn : H h'.objs.size = none := I1.hok.fresh (Nat.le_refl _)
  have ext := Ext.upd (o := .frz { cls := .type "tuple", data := .seq its.toArray } (.tup ws)) hn
  exact ⟨.ref h'.objs.size, _, I2, rfl, r _ _ fpE (repM_im (rep_kt.mpr ⟨_, ws, rfl, .inr ⟨_, upd_same, rfl⟩, keepDs ext.toKeep _ _ rs⟩)) (ext.sub fun _ z => z.elim)⟩
/-! ### xs.index(y) -/
/-- a method of such a tuple -/
theorem pe_tm {X : Cx} {o e : Expr} {es : List Expr} {to : L2.TE} {t : L2.TA} {name : Str} {apos cpos : Pos} {id : String} {r : V → List V → Hp → VK → Prop} (slot : Slot "tuple" name id) (hty : typeOf (.builtin id) = pure (.type "method_descriptor")) (hm : MtR X id r) (ho : PE X o to) (ha : PA X (e :: es) t)
    (hbase : attributeBase o name X.env (eval o X.env) = eval o X.env) (hfew : ((backTo cpos (starEach (e :: es) X.env)).all (fun x => !x.1) && (backToKw cpos (keywordEach [] X.env)).all (fun x => x.1.isSome) && decide ((e :: es).length + ([] : List Keyword).length + (if ([] : List Keyword).isEmpty then 0 else 1) < 30)) = true)
    (hline : (apos.endLine == cpos.line) = true) (hs : starEach (e :: es) X.env = (false, eval e X.env) :: starEach es X.env) (hp : (backTo cpos (starEach es X.env)).any (·.1) = false) :
    PE X (.Call (.Attribute o name apos) (e :: es) [] cpos) (fun σ H Q => to σ H fun x H1 => (∃ a vs, x = .ref a ∧ SqK X.K H1 a vs) ∧ t σ H1 fun xs H2 => r x xs H2 Q) := by
  refine ⟨fun pins st σ H Q I h => wpAny_Call_method_late hbase hfew hline rfl (thn (ho.run pins st σ H _ I h) fun v st1 ⟨x, H1, I1, r1, ⟨a, vs, ex, sk⟩, q1⟩ => ?_)⟩
  subst ex
  obtain rfl : v = Value.ref a := r1
  obtain ⟨ob, h1, h2, h3⟩ : ∃ ob, st1.heap.get? a = some ob ∧ ob.cls = .type "tuple" ∧ ob.dict = none := by
    rcases sk with ⟨ob, _, _, l, c, d, _⟩ | ⟨ob, l, d⟩
    · exact ⟨ob, I1.kIn _ _ l, c, d⟩
    · obtain ⟨g1, _, _, _, o2, g2, c2, _⟩ := (show ObjOk X.prog X.w H1 st1.heap a (.frz ob (.tup vs)) from I1.hok _ _ l)
      rw [g1] at g2
      cases g2
      exact ⟨ob, g1, c2, d⟩
  refine ⟨"tuple", id, PySem.F.plainAttrs_tuple, slot, hty, ⟨ob, h1, h2⟩, fun b eb => by cases eb; exact ⟨ob, h1, h3⟩, ?_⟩
  have hA := ha.run cpos pins st1 σ H1 _ I1 q1
  rw [hs] at hA ⊢
  exact Calls.callWith_builtin (by show (false || (backTo cpos (starEach es X.env)).any (·.1)) = false; rw [hp] <;> rfl) (Calls.evalArgs_plain (thn hA fun us st2 ⟨ys, H2, I2, r2, q2⟩ => hm pins st2 σ H2 (.ref a) ys (.ref a) us Q I2 rfl r2 q2))
theorem PE.or {X : Cx} {e : Expr} {t u : L2.TE} (h1 : PE X e t) (h2 : PE X e u) : PE X e (fun σ H Q => t σ H Q ∨ u σ H Q) :=
  ⟨fun pins s σ H Q I h => h.elim (h1.run pins s σ H Q I) (h2.run pins s σ H Q I)⟩
theorem strs_rep {K : PySem.W.Frag} {H : Hp} : ∀ {ds : List D} {ss : List Str} {vs : List V}, strsOf ds = some ss → RepDs K H ds vs → vs = ss.map V.str
  | [], ss, vs, h, r => by
    simp only [strsOf, Option.some.injEq] at h
    simp only [RepDs] at r
    subst h r
    rfl
  | d :: ds, ss, vs, h, r => by
    cases d with
    | str z =>
      simp only [strsOf] at h
      obtain ⟨ts, ht, rfl⟩ := Option.map_eq_some_iff.mp h
      simp only [RepDs] at r
      obtain ⟨v, r', rfl, r1, r2⟩ := r
      rw [rep_str.mp r1, strs_rep ht r2]
      rfl
    | _ => cases h
theorem idx_str {ss : List Str} {z : Str} {k : Nat} (h : ss.idxOf? z = some k) : ss[k]? = some z ∧ ∀ m, m < k → ss[m]? ≠ some z := by
  induction ss generalizing k with
  | nil => simp at h
  | cons a ss ih =>
    rw [List.idxOf?_cons] at h
    by_cases e : (a == z) = true
    · rw [if_pos e] at h
      cases h
      exact ⟨by simp [beq_iff_eq.mp e], fun m hm => by omega⟩
    · rw [if_neg e] at h
      obtain ⟨j, hj, rfl⟩ := Option.map_eq_some_iff.mp h
      obtain ⟨h1, h2⟩ := ih hj
      refine ⟨by simpa using h1, fun m hm => ?_⟩
      cases m with
      | zero =>
        intro q
        simp only [List.getElem?_cons_zero, Option.some.injEq] at q
        exact e (by simp [q])
      | succ m => simpa using h2 m (by omega)
section
variable {X : Cx} {cc : Str → Addr} {W : WX} {G : Glob} {Γ : Nat → Sp} {e e1 e2 : Expr} {a b : CE} {pos pn apos cpos : Pos}
theorem vp_get {σ : Env} {E1 : QX} {R : QM} (hv : isVP b = true) (h : bor G b (ev G Γ b) σ R E1) : ∃ y, R y σ ∧ ∀ R' : QM, R' y σ → bor G b (ev G Γ b) σ R' E1 := by
  cases b with
  | v i =>
    obtain ⟨m, hm, q⟩ := slot_ok (show slot σ i fun m => R m σ from h)
    refine ⟨m, q, fun R' q' => ?_⟩
    show slot σ i fun m => R' m σ
    unfold slot
    rw [hm]
    exact q'
  | p p =>
    obtain ⟨m, hm, q⟩ := fin_ok (show fin (evP G p σ) σ R from h)
    refine ⟨m, q, fun R' q' => ?_⟩
    show fin (evP G p σ) σ R'
    rw [hm]
    exact q'
  | _ => cases hv
theorem index_ok {x y w : M} (h : op2M .index x y = some w) : (∃ ds d k, lstM x = some ds ∧ y = .im d ∧ flatD d = true ∧ ds.all flatD = true ∧ findD d ds 0 = some k ∧ w = .im (.int (k : Nat))) ∨
    ∃ ds z ss k, x = .im (.kt ds) ∧ y = .im (.str z) ∧ strsOf ds = some ss ∧ ss.idxOf? z = some k ∧ w = .im (.int (k : Nat)) := by
  cases y with
  | im d =>
    simp only [op2M] at h
    cases hl : lstM x with
    | some ds =>
      rw [hl] at h
      simp only [] at h
      split at h
      · rename_i hf
        cases hk : findD d ds 0 with
        | none => rw [hk] at h; cases h
        | some k =>
          rw [hk] at h
          cases h
          exact .inl ⟨ds, d, k, rfl, rfl, hf.1, hf.2, hk, rfl⟩
      · cases h
    | none =>
      rw [hl] at h
      simp only [] at h
      split at h
      · rename_i ds z
        obtain ⟨ss, hss, h⟩ := Option.bind_eq_some_iff.mp h
        obtain ⟨j, hj, rfl⟩ := Option.map_eq_some_iff.mp h
        exact .inr ⟨ds, z, ss, j, rfl, rfl, hss, hj, rfl⟩
      · cases h
  | _ => simp [op2M] at h
/-- of a name that holds a tuple of texts, a list -/
theorem qe_index {i : Nat} (hvp : isVP b = true) (ho : PE X e1 (tVar i)) (hb : QO X cc W G e b (ev G Γ b)) (hbase : attributeBase e1 "index" X.env (eval e1 X.env) = eval e1 X.env)
    (hfew : ((backTo cpos (starEach [e] X.env)).all (fun x => !x.1) && (backToKw cpos (keywordEach [] X.env)).all (fun x => x.1.isSome) && decide ([e].length + ([] : List Keyword).length + (if ([] : List Keyword).isEmpty then 0 else 1) < 30)) = true)
    (hline : (apos.endLine == cpos.line) = true) (hs : starEach [e] X.env = (false, eval e X.env) :: starEach [] X.env) : QE X cc W (.Call (.Attribute e1 "index" apos) [e] [] cpos) (ev G Γ (.op2 .index (.v i) b)) :=
  ⟨PE.imp (PE.or (pe_tm PySem.F.slot_tuple_index PySem.F.type_tuple_index mt_tup_index ho (pa_cons hb pa_nil hs) hbase hfew hline hs rfl)
      (pe_bm PySem.F.plainAttrs_list PySem.F.slot_list_index PySem.F.type_list_index mt_index ho (pa_cons hb pa_nil hs) hbase hfew hline hs rfl)) fun σV H Q ⟨σ, F, Q1, E1, er, h, k, kx⟩ => by
    simp only [ev, two] at h
    obtain ⟨x, hx, h⟩ := slot_ok h
    obtain ⟨v, Gx, hv, rx, _⟩ := er.look hx
    obtain ⟨y, hy, hR⟩ := vp_get hvp h
    obtain ⟨x', hx', hf⟩ := slot_ok hy
    rw [hx] at hx'
    cases hx'
    obtain ⟨w, hw, q⟩ := fin_ok hf
    have h2 := hR (fun m s => m = y ∧ s = σ) ⟨rfl, rfl⟩
    rcases index_ok hw with ⟨ds, d, j, hl, rfl, hf1, hf2, hj, rfl⟩ | ⟨ds, z, ss, j, rfl, rfl, hss, hj, rfl⟩
    · obtain ⟨p, vs, rfl, sq, rs⟩ := lstM_ok rx hl
      refine .inr ⟨_, hv, .inl ⟨rfl, vs, sq⟩, lo1 er h2 kx fun m σ2 vy H2 F2 Gy hm e2 ry s => ?_⟩
      obtain ⟨rfl, rfl⟩ := hm
      obtain ⟨v2, Gx2, hv2, rx2, _⟩ := e2.look hx
      rw [hv] at hv2
      cases hv2
      obtain ⟨p2, vs2, ep, sq2, rs2⟩ := lstM_ok rx2 hl
      cases ep
      have rd := (repM_imI.mp ry).1
      obtain ⟨i2, z, e1', g1, g2, g3⟩ := findD_ok hf1 rd hf2 rs2 hj
      have e1'' : j = i2 := by omega
      subst e1''
      exact ⟨p, vs2, vy, j, z, rfl, rfl, sq2, flat_ok hf1 rd, flats_ok hf2 rs2, g1, g2, g3, k _ _ ⟨_, σ2, F2, fpE, q, e2, repM_im (rep_int.mpr rfl), fun _ _ z => z, by rw [fpU_E]; exact s⟩⟩
    · obtain ⟨p, vs, rfl, sk, rs⟩ := rep_kt.mp (repM_imI.mp rx).1
      obtain ⟨g1, g2⟩ := idx_str hj
      refine .inl ⟨_, hv, ⟨p, vs, rfl, sk⟩, lo1 er h2 kx fun m σ2 vy H2 F2 Gy hm e2 ry s => ?_⟩
      obtain ⟨rfl, rfl⟩ := hm
      obtain rfl := rep_str.mp (repM_imI.mp ry).1
      obtain ⟨v2, Gx2, hv2, rx2, _⟩ := e2.look hx
      rw [hv] at hv2
      cases hv2
      obtain ⟨p2, vs2, ep, sk2, rs2⟩ := rep_kt.mp (repM_imI.mp rx2).1
      cases ep
      obtain rfl := strs_rep hss rs2
      exact ⟨p, ss, z, j, rfl, rfl, sk2.sqT, g1, g2, k _ _ ⟨_, σ2, F2, fpE, q, e2, repM_im (rep_int.mpr rfl), fun _ _ z => z, by rw [fpU_E]; exact s⟩⟩⟩
end
end CP
namespace CP
open PySem PySem.Spec PyProof.Rows L2

/-! ### the exceptions' classes -/
/-- what the written part says of one class -/
structure TEx (K : PySem.W.Frag) (C : Addr) : Prop where
  xf : XfC K C
  ox : OexC K C
  hcl : (PySem.W.clsIn K C).isSome = true
  ha : PySem.W.findIn K (.ref C) "__class__" = some (some (.builtin "object.__class__"))
  hn : PySem.W.specialIn K (.builtin "object.__class__") "__get__" = some (some (.builtin "getset_descriptor.__get__"))
  ht : PySem.W.takesIn K (.builtin "object.__class__") = some true
  hm : PySem.W.mroIn K C (.type "object") = some true
/-- .. of all of them -/
structure ExF (K : PySem.W.Frag) (cc : Str → Addr) (G : Glob) : Prop where
  te : ∀ c l, kget G.sub c = some l → TEx K (cc c)
  exm : ∀ c l y m, kget G.sub c = some l → kget G.sub y = some m → PySem.W.exmOne K (.ref (cc c)) (.ref (cc y)) = some (decide (y ∈ l))
  kit : ∀ c l y m, kget G.sub c = some l → kget G.sub y = some m → PySem.W.kitOne K (.ref (cc c)) (.ref (cc y)) = some (decide (y ∈ l))
  fld : ∀ c l x fs f, kget G.sub c = some l → kget G.flds x = some fs → f ∈ fs → PySem.W.findIn K (.ref (cc c)) f = some none

/-! ### an exception's making -/
/-- __init__ of a class: its fields by name -/
def iniSp (K : PySem.W.Frag) (C : Addr) (fs : List Str) : L2.Sp := fun vs H Q _ => ∃ a ys, vs = .ref a :: ys ∧ ys.length = fs.length ∧ OexC K C ∧ (∀ f ∈ fs, PySem.W.findIn K (.ref C) f = some none) ∧ H a = some (exo a C none) ∧
  ∀ dx, H dx = none → dx ≠ a → Q .non (upd (upd H dx (exd dx (fs.zip ys).reverse)) a (exo a C (some dx)))
section
variable {P : Program} {w : World} {K : PySem.W.Frag} {mg : Str → Option Value} {base : Heap} {k : Nat} {qual n f1 f2 : Str} {scope : Scope} {params : Arguments} {f C : Addr} {fd : FuncData} {CX : CXT}
theorem upd_swap {H : Hp} {a b : Addr} {x y : HO} (h : a ≠ b) : upd (upd H a x) b y = upd (upd H b y) a x := by
  funext c
  unfold upd
  by_cases h1 : c = b
  · subst h1
    rw [if_pos rfl, if_neg (Ne.symm h), if_pos rfl]
  · by_cases h2 : c = a
    · subst h2
      rw [if_neg h1, if_pos rfl, if_pos rfl]
    · rw [if_neg h1, if_neg h2, if_neg h2, if_neg h1]
theorem upd_twice {H : Hp} {a : Addr} {x y : HO} : upd (upd H a x) a y = upd H a y := by
  funext c
  unfold upd
  by_cases h1 : c = a
  · rw [if_pos h1, if_pos h1]
  · rw [if_neg h1, if_neg h1, if_neg h1]
theorem ini1 {st : Stmt} {N ps : List Str} (F : FunD K n qual params [st] scope [] [] f fd) (S : FnScope N ps scope) (hN : N.length = 2) (hp : ps.length = 2)
    (hst : ∀ cdv Ar outer s H E, PS (cxOf CX P w K mg base N qual scope f cdv Ar outer s H E) st (tOst K f1 (tVar 0) (tVar 1))) : FnOk P w K mg base CX (k + 1) f fd ps (iniSp K C [f1]) := by
  refine F.ok S (fun vs H Q E ⟨a, ys, e, hl, _⟩ => by rw [e]; simp at hl ⊢; omega) fun cdv Ar outer s H vs Q E hr ⟨a, ys, e, hl, T, hf, ha, q⟩ => ⟨_, pss_cons (hst cdv Ar outer s H E) pss_nil, ?_⟩
  match ys, hl with
  | [y], _ =>
    have st : L2.start N vs = [some (.ref a), some y] := by unfold L2.start; rw [e, hN]; rfl
    rw [st]
    exact ⟨y, rfl, .ref a, rfl, a, C, rfl, T, hf f1 (by simp), .inl ⟨ha, fun dx hd ne => q dx hd ne⟩⟩
theorem ini2 {st st2 : Stmt} {N ps : List Str} (F : FunD K n qual params [st, st2] scope [] [] f fd) (S : FnScope N ps scope) (hN : N.length = 3) (hp : ps.length = 3)
    (hst : ∀ cdv Ar outer s H E, PS (cxOf CX P w K mg base N qual scope f cdv Ar outer s H E) st (tOst K f1 (tVar 0) (tVar 1)))
    (hst2 : ∀ cdv Ar outer s H E, PS (cxOf CX P w K mg base N qual scope f cdv Ar outer s H E) st2 (tOst K f2 (tVar 0) (tVar 2))) : FnOk P w K mg base CX (k + 1) f fd ps (iniSp K C [f1, f2]) := by
  refine F.ok S (fun vs H Q E ⟨a, ys, e, hl, _⟩ => by rw [e]; simp at hl ⊢; omega) fun cdv Ar outer s H vs Q E hr ⟨a, ys, e, hl, T, hf, ha, q⟩ => ⟨_, pss_cons (hst cdv Ar outer s H E) (pss_cons (hst2 cdv Ar outer s H E) pss_nil), ?_⟩
  match ys, hl with
  | [y, z], _ =>
    have st : L2.start N vs = [some (.ref a), some y, some z] := by unfold L2.start; rw [e, hN]; rfl
    rw [st]
    refine ⟨y, rfl, .ref a, rfl, a, C, rfl, T, hf f1 (by simp), .inl ⟨ha, fun dx hd ne => ?_⟩⟩
    refine ⟨z, rfl, .ref a, rfl, a, C, rfl, T, hf f2 (by simp), .inr ⟨dx, _, upd_same, by rw [upd_ne ne]; exact upd_same, Nat.le_of_ble_eq_true rfl, ?_⟩⟩
    have := q dx hd ne
    rw [upd_swap (Ne.symm ne), upd_twice]
    exact this
end
/-! ### raise C(..) -/
section
variable {X : Cx} {cc : Str → Addr} {W : WX} {G : Glob} {Γ : Nat → Sp} {A : List Nat} {e : Expr} {es : List Expr} {rs : CEs} {pos p p2 : Pos} {n k : Nat}
theorem fzs_len : ∀ {ms : List M} {ds : List D}, fzs ms = some ds → ms.length = ds.length
  | [], ds, h => by simp only [fzs, Option.some.injEq] at h; rw [← h]; rfl
  | m :: ms, ds, h => by
    simp only [fzs] at h
    obtain ⟨d, _, h⟩ := Option.bind_eq_some_iff.mp h
    obtain ⟨es, he, rfl⟩ := Option.map_eq_some_iff.mp h
    simp [fzs_len he]
theorem fld_rep {K : PySem.W.Frag} {H : Hp} : ∀ {fs : List Str} {ds : List D} {vs : List V}, RepDs K H ds vs → RepKs K H (fs.zip ds) (fs.zip vs)
  | [], ds, vs, r => by simp [RepKs]
  | f :: fs, ds, vs, r => by
    cases ds with
    | nil => simp only [RepDs] at r; subst r; simp [RepKs]
    | cons d ds =>
      simp only [RepDs] at r
      obtain ⟨v, r', rfl, r1, r2⟩ := r
      simp only [List.zip_cons_cons, RepKs]
      exact ⟨v, _, rfl, r1, fld_rep r2⟩
theorem rev_rep {κ : Type} {K : PySem.W.Frag} {H : Hp} : ∀ {xs : List (κ × D)} {ys : List (κ × V)}, RepKs K H xs ys → RepKs K H xs.reverse ys.reverse
  | [], ys, r => by simp only [RepKs] at r; subst r; simp [RepKs]
  | (c, d) :: xs, ys, r => by
    simp only [RepKs] at r
    obtain ⟨v, r', rfl, r1, r2⟩ := r
    simp only [List.reverse_cons]
    exact (rev_rep r2).app (by simp only [RepKs]; exact ⟨v, [], rfl, r1, rfl⟩)
theorem upd_mk {H : Hp} {a dx : Addr} {o : HO} (hn : H a = none) (ne : dx ≠ a) {o1 o2 o3 : HO} : upd (del (upd (upd (upd H a o1) dx o2) a o3) a) dx o = upd H dx o := by
  funext b
  unfold upd del
  by_cases h1 : b = dx
  · rw [if_pos h1, if_pos h1]
  · rw [if_neg h1, if_neg h1]
    by_cases h2 : b = a
    · rw [if_pos h2, h2, hn]
    · simp only [if_neg h1, if_neg h2]
theorem qs_rai {c : Str} {fI : Addr} {fd : FuncData} {ps : List Str} {CX : CXT} {fs : List Str} (hc : X.calm = true) (tk : Takes X W) (ex : ExF X.K cc G) (hsub : (kget G.sub c).isSome = true) (hfl : kget G.flds c = some fs)
    (iC : PySem.W.findIn X.K (.ref (cc c)) "__init__" = some (some (.ref fI))) (tI : PySem.W.typeIn X.K (.ref fI) = some (.type "function")) (F1 : FnOk X.prog X.w X.K X.mg X.base CX k fI fd ps (iniSp X.K (cc c) fs)) (hr : Room (k + 1) X.A)
    (hb : Binds X.K fd ps []) (hx : Passes CX X (fun _ _ _ => False)) (hg : Gl X c) (hm : X.mg c = some (.ref (cc c))) (hdb : (c == ("__debug__" : Str)) = false) (hn : n ≤ 1000) (ha : PA X (e :: es) (LMs X.K cc W n (evs G Γ rs)))
    (he : starEach (e :: es) X.env = (false, eval e X.env) :: starEach es X.env) (hpl : (backTo pos (starEach es X.env)).any (·.1) = false) :
    QS X cc W A (.Raise (some (.Call (.Name c p) (e :: es) [] pos)) none p2) (xs G Γ (.rai c rs)) := by
  obtain ⟨l, hl⟩ := Option.isSome_iff_exists.mp hsub
  refine PS.imp (ps_raise hc tk (pmk_oex (ex.te c l hl).ox iC tI F1 hr hb .nil hx hg hm ha hdb he hpl)) fun D σV H ⟨σ, F, Kk, er, h, ok⟩ => ?_
  simp only [xs] at h
  refine ⟨σ, F, _, _, er, h, fun vs H1 ⟨ms, σ1, F1, Gm, hq, hvl, e1, r1, d1, s1⟩ => ⟨by rw [hvl]; exact hn, fun a ha => ?_⟩, ok.kx⟩
  rw [hfl] at hq
  split at hq
  · rename_i ds fs' hds hfs
    cases hfs
    obtain ⟨hlen, hq⟩ := hq
    obtain ⟨rds, rfl⟩ := fzs_ok r1 hds
    refine ⟨a, vs, by rw [List.append_nil], by rw [← rds.len, hlen], (ex.te c l hl).ox, fun f hf => ex.fld c l c fs f hl hfl hf, upd_same, fun dx hdx ne => ⟨rfl, dx, _, upd_same, by rw [upd_ne ne]; exact upd_same, ?_, ?_⟩⟩
    · rw [upd_ne ne] at hdx
      exact hdx
    · have hd1 : H1 dx = none := by rw [upd_ne ne] at hdx; exact hdx
      rw [upd_mk ha ne]
      have ext := (Ext.upd (o := .xd (fs.zip vs).reverse) hd1).sub (G2 := fpE) fun _ z => z.elim
      refine ok.ex _ _ _ _ ⟨_, σ1, F1, hq, (e1.ext ext).1, ?_, ⟨rfl, .inr ⟨dx, _, rfl, upd_same, rev_rep (fld_rep (keepDs ext.toKeep _ _ rds))⟩⟩, SameO.refl⟩
      exact (s1.dropR.trans ext.step).sub fun a z => .inl z
  · exact hq.elim
end
end CP
namespace CP
open PySem PySem.Spec PyProof.Rows L2

/-! ### a clause's suite: what it gives back, by the exception -/
section
variable {X : Cx} {cc : Str → Addr} {G : Glob} {a : Addr} {oe : Obj} {cls : Value} {d : Option Addr} {pn : List (Addr × Obj)} {i : Nat} {e e1 e2 : Expr} {es : List Expr} {st : Stmt} {sts : List Stmt} {pos p p2 p3 : Pos}
/-- where the suite stands -/
def AtX (K : PySem.W.Frag) (cc : Str → Addr) (i : Nat) (a : Addr) (cls : Value) (d : Option Addr) (x : XD) (σV : L2.St) (H : Hp) : Prop := XR K cc H x cls d ∧ (i < σV.length → σV[i]? = some (some (.ref a)))
theorem AtX.ext {K : PySem.W.Frag} {x : XD} {σV : L2.St} {H H' : Hp} {F : FP} (h : AtX K cc i a cls d x σV H) (e : Ext H H' F) : AtX K cc i a cls d x σV H' := by
  obtain ⟨⟨h1, h2⟩, h3⟩ := h
  refine ⟨⟨h1, h2.imp id fun ⟨dx, ws, q1, q2, q3⟩ => ⟨dx, ws, q1, e.keep _ _ q2, keepKs e.toKeep _ _ q3⟩⟩, h3⟩
def LX (K : PySem.W.Frag) (cc : Str → Addr) (i : Nat) (a : Addr) (cls : Value) (d : Option Addr) (f : XD → Option D) : L2.TE := fun σV H Q => i < σV.length ∧ ∃ x r, AtX K cc i a cls d x σV H ∧ f x = some r ∧ ∀ v H', RepD K H' r v → Ext H H' fpE → Q v H'
def LXs (K : PySem.W.Frag) (cc : Str → Addr) (i : Nat) (a : Addr) (cls : Value) (d : Option Addr) (f : XD → Option (List D)) : L2.TA := fun σV H Q => i < σV.length ∧ ∃ x r, AtX K cc i a cls d x σV H ∧ f x = some r ∧ ∀ vs H', RepDs K H' r vs → Ext H H' fpE → Q vs H'
def LXT (K : PySem.W.Frag) (cc : Str → Addr) (i : Nat) (a : Addr) (cls : Value) (d : Option Addr) (f : XD → Option Bool) : L2.TT := fun σV H Q => i < σV.length ∧ ∃ x r, AtX K cc i a cls d x σV H ∧ f x = some r ∧ ∀ H', Ext H H' fpE → Q r H'
def LXS (K : PySem.W.Frag) (cc : Str → Addr) (i : Nat) (a : Addr) (cls : Value) (d : Option Addr) (f : XD → Option D) : L2.TS := fun D σV H => i < σV.length ∧ ∃ x r, AtX K cc i a cls d x σV H ∧ f x = some r ∧ ∀ v H', RepD K H' r v → Ext H H' fpE → D.rt v H'
/-- .. of a clause without a name -/
def L0S (K : PySem.W.Frag) (cc : Str → Addr) (cls : Value) (d : Option Addr) (f : XD → Option D) : L2.TS := fun D _ H => ∃ x r, XR K cc H x cls d ∧ f x = some r ∧ ∀ v H', RepD K H' r v → Ext H H' fpE → D.rt v H'
theorem hx_str {z : Str} {j : Nat} : PE X (.Constant (.str z) j pos) (LX X.K cc i a cls d fun x => hxE G x (.c (.str z))) := PE.imp pe_str fun σV H Q ⟨_, x, r, _, h, q⟩ => by cases h; exact q _ _ (rep_str.mpr rfl) (Ext.refl)
theorem hx_int {z : Int} {j : Nat} : PE X (.Constant (.int z) j pos) (LX X.K cc i a cls d fun x => hxE G x (.c (.int z))) := PE.imp pe_int fun σV H Q ⟨_, x, r, _, h, q⟩ => by cases h; exact q _ _ (rep_int.mpr rfl) (Ext.refl)
theorem hx_bl {z : Bool} {j : Nat} : PE X (.Constant (.bool z) j pos) (LX X.K cc i a cls d fun x => hxE G x (.c (.bl z))) := PE.imp pe_bl fun σV H Q ⟨_, x, r, _, h, q⟩ => by cases h; exact q _ _ (rep_bl.mpr rfl) (Ext.refl)
theorem valV_look {f : Str} {v : V} : ∀ {ws : List (Str × V)}, valV ws f = some v → ws.lookup f = some v
  | [], h => by simp [valV] at h
  | (g, u) :: ws, h => by
    by_cases e : g = f
    · subst e
      simp [valV] at h
      simp [List.lookup, h]
    · have e2 : (f == g) = false := by simpa using fun z => e z.symm
      simp only [List.lookup, e2]
      exact valV_look (by simpa [valV, e] using h)
theorem hx_non {j : Nat} : PE X (.Constant .none j pos) (LX X.K cc i a cls d fun x => hxE G x (.c .non)) := PE.imp pe_non fun σV H Q ⟨_, x, r, _, h, q⟩ => by cases h; exact q _ _ (rep_non.mpr rfl) (Ext.refl)
theorem hx_fld {f : Str} (ex : ExF X.K cc G) (hf : ∃ c fs, kget G.flds c = some fs ∧ f ∈ fs) (hz : Zc cls d oe) (ho : ∃ vs, oe.data = .fields vs) (he : PE (X.suite a ((a, oe) :: pn)) e (tVar i)) (hb : attributeBase e f X.env (eval e X.env) = eval e X.env) :
    PE (X.suite a ((a, oe) :: pn)) (.Attribute e f pos) (LX X.K cc i a cls d fun x => hxE G x (.fld f)) := by
  refine ⟨fun pins st σ H Q I ⟨hi, x, r, hat, hx, q⟩ => ?_⟩
  obtain ⟨l, hl, hk⟩ := Option.bind_eq_some_iff.mp (show (G.sub? x.cls).bind (fun _ => kget x.fs f) = some r from hx)
  obtain ⟨c, fs, hc, hm⟩ := hf
  obtain ⟨⟨hcls, hd⟩, hs⟩ := hat
  refine (pe_xf (C := cc x.cls) (ex.te _ l hl).xf (ex.fld _ l c fs f hl hc hm) hz ho he hb).run pins st σ H Q I ⟨_, hs hi, rfl, hcls, ?_⟩
  rcases hd with ⟨h0, _⟩ | ⟨dx, ws, hd, hdx, rk⟩
  · rw [h0] at hk
    cases hk
  · obtain ⟨v, hv, rv⟩ := rk.get.1 r hk
    exact ⟨dx, ws, v, hd, hdx, valV_look hv, q v H rv Ext.refl⟩
def rIsX (K : PySem.W.Frag) (cc : Str → Addr) (G : Glob) (a : Addr) (cls : Value) (d : Option Addr) : List V → Hp → VK → Prop := fun xs H Q => ∃ x y l m, xs = [.ref a, .ref (cc y)] ∧ XR K cc H x cls d ∧ kget G.sub x.cls = some l ∧ kget G.sub y = some m ∧ Q (.bl (decide (y ∈ l))) H
theorem call_isX (ex : ExF X.K cc G) (hz : Zc cls d oe) (ho : ∃ vs, oe.data = .fields vs) : CallR (X.suite a ((a, oe) :: pn)) (.builtin "isinstance") (rIsX X.K cc G a cls d) := by
  intro pins st σ H xs us Q I rv hh
  obtain ⟨x, y, l, m, rfl, ⟨hcls, hd⟩, hl, hm, q⟩ := hh
  obtain ⟨u1, u2, rfl, r1, r2⟩ := rv.two
  cases r1
  cases r2
  subst hcls
  have te := ex.te _ l hl
  obtain ⟨hget, _⟩ := I.pin (a, oe) (List.mem_append_left _ List.mem_cons_self)
  obtain ⟨vs, hvs⟩ := ho
  obtain ⟨od, J⟩ : ∃ od, PySem.W.InstAt st.heap a oe (cc x.cls) od := by
    rcases hd with ⟨_, h0⟩ | ⟨dx, ws, h0, hdx, _⟩
    · subst h0
      exact ⟨none, hget, hz.1, by unfold PySem.W.notCls; rw [hvs] <;> rfl, by rw [hz.2]; trivial⟩
    · subst h0
      obtain ⟨mA, hns, _⟩ := (show ObjOk X.prog X.w H st.heap dx (.xd ws) from I.hok dx _ hdx)
      obtain ⟨od, ho, _⟩ := lookIn_ns hns
      exact ⟨some od, hget, hz.1, by unfold PySem.W.notCls; rw [hvs] <;> rfl, by rw [hz.2]; exact ho⟩
  exact PySem.W.kia_one (PySem.W.kitx_exc te.hcl te.xf.ga te.xf.gg te.xf.exC te.ha te.hn te.ht te.hm) I.kIn J (ex.kit _ l y m hl hm) (fun z => nomatch z) fun tk => ⟨.bl (decide (y ∈ l)), H, I.kept (t' := tk) fun _ _ z => z, rfl, q⟩
/-- isinstance(e, C) -/
theorem hx_isi {y : Str} (ex : ExF X.K cc G) (hy : (kget G.sub y).isSome = true) (hz : Zc cls d oe) (ho : ∃ vs, oe.data = .fields vs) (he : PE (X.suite a ((a, oe) :: pn)) e (tVar i)) (hg : Gl X "isinstance") (hm : X.mg "isinstance" = none) (hgy : Gl X y) (hmy : X.mg y = some (.ref (cc y))) (hdb : (y == ("__debug__" : Str)) = false)
    (s1 : starEach [e, .Name y p2] X.env = (false, eval e X.env) :: starEach [.Name y p2] X.env) : PE (X.suite a ((a, oe) :: pn)) (.Call (.Name "isinstance" p) [e, .Name y p2] [] pos) (LX X.K cc i a cls d fun x => hxE G x (.isi [y])) := by
  obtain ⟨m, hm2⟩ := Option.isSome_iff_exists.mp hy
  refine PE.imp (pe_callB (call_isX ex hz ho) hg hm (by decide +kernel) (pa_cons he (pa_cons (pe_glob (v := .ref (cc y)) hgy hmy rfl hdb) pa_nil rfl) s1) (by decide) (by decide) s1 rfl) fun σV H Q ⟨hi, x, r, hat, hx, q⟩ => ?_
  obtain ⟨l, hl, rfl⟩ := Option.map_eq_some_iff.mp (show (G.sub? x.cls).map (fun l => D.bl (anyS l [y])) = some r from hx)
  refine ⟨_, hat.2 hi, x, y, l, m, rfl, hat.1, hl, hm2, q _ H ?_ Ext.refl⟩
  simp only [anyS, List.any_cons, List.any_nil, Bool.or_false]
  exact rep_bl.mpr rfl
theorem ht_isi {y : Str} (ex : ExF X.K cc G) (hy : (kget G.sub y).isSome = true) (hz : Zc cls d oe) (ho : ∃ vs, oe.data = .fields vs) (he : PE (X.suite a ((a, oe) :: pn)) e (tVar i)) (hg : Gl X "isinstance") (hm : X.mg "isinstance" = none) (hgy : Gl X y) (hmy : X.mg y = some (.ref (cc y))) (hdb : (y == ("__debug__" : Str)) = false)
    (s1 : starEach [e, .Name y p2] X.env = (false, eval e X.env) :: starEach [.Name y p2] X.env) (ht : ∀ whole, isTrue (.Call (.Name "isinstance" p) [e, .Name y p2] [] pos) X.env whole = (do let v ← whole; standAt (Expr.Call (.Name "isinstance" p) [e, .Name y p2] [] pos).pos; holding [v] (truthy v))) :
    PT (X.suite a ((a, oe) :: pn)) (.Call (.Name "isinstance" p) [e, .Name y p2] [] pos) (LXT X.K cc i a cls d fun x => htE G x (.isi [y])) := by
  refine PT.imp (pt_truth (hx_isi ex hy hz ho he hg hm hgy hmy hdb s1) ht) fun σV H Q ⟨hi, x, r, hat, hx, q⟩ => ?_
  obtain ⟨l, hl, rfl⟩ := Option.map_eq_some_iff.mp (show (G.sub? x.cls).map (fun l => anyS l [y]) = some r from hx)
  exact ⟨hi, x, .bl (anyS l [y]), hat, by show (G.sub? x.cls).map _ = _; rw [hl]; rfl, fun v H' rv ext => ⟨anyS l [y], truth_ok (repM_im rv) rfl, q H' ext⟩⟩
theorem ht_not {t : HT} (h : PT X e (LXT X.K cc i a cls d fun x => htE G x t)) : PT X (.UnaryOp .Not e pos) (LXT X.K cc i a cls d fun x => htE G x (.not t)) :=
  PT.imp (pt_not h) fun σV H Q ⟨hi, x, r, hat, hx, q⟩ => by
    obtain ⟨b, hb, rfl⟩ := Option.map_eq_some_iff.mp (show (htE G x t).map (!·) = some r from hx)
    exact ⟨hi, x, b, hat, hb, fun H' ext => q H' ext⟩
theorem hw_or1 {t : HT} (h : PT X e (LXT X.K cc i a cls d fun x => htE G x t)) : PW X (.BoolOp .Or [e] pos) (LXT X.K cc i a cls d fun x => htE G x t) := pw_or1 h
theorem hw_or {t u : HT} (h : PT X e (LXT X.K cc i a cls d fun x => htE G x t)) (h2 : PW X (.BoolOp .Or (e1 :: es) pos) (LXT X.K cc i a cls d fun x => htE G x u)) : PW X (.BoolOp .Or (e :: e1 :: es) pos) (LXT X.K cc i a cls d fun x => htE G x (.or t u)) :=
  PW.imp (pw_or h h2) fun σV H Q ⟨hi, x, r, hat, hx, q⟩ => by
    obtain ⟨b, hb, hr⟩ := Option.bind_eq_some_iff.mp (show (htE G x t).bind (fun p => if p = true then some true else htE G x u) = some r from hx)
    refine ⟨hi, x, b, hat, hb, fun H1 e1 => ?_⟩
    cases b with
    | true =>
      cases hr
      exact q H1 e1
    | false => exact ⟨hi, x, r, hat.ext e1, hr, fun H2 e2 => q H2 ((e1.trans e2).sub fun _ z => .inl z)⟩
theorem hw_and1 {t : HT} (h : PT X e (LXT X.K cc i a cls d fun x => htE G x t)) : PW X (.BoolOp .And [e] pos) (LXT X.K cc i a cls d fun x => htE G x t) := pw_and1 h
theorem hw_and {t u : HT} (h : PT X e (LXT X.K cc i a cls d fun x => htE G x t)) (h2 : PW X (.BoolOp .And (e1 :: es) pos) (LXT X.K cc i a cls d fun x => htE G x u)) : PW X (.BoolOp .And (e :: e1 :: es) pos) (LXT X.K cc i a cls d fun x => htE G x (.and t u)) :=
  PW.imp (pw_and h h2) fun σV H Q ⟨hi, x, r, hat, hx, q⟩ => by
    obtain ⟨b, hb, hr⟩ := Option.bind_eq_some_iff.mp (show (htE G x t).bind (fun p => if p = true then htE G x u else some false) = some r from hx)
    refine ⟨hi, x, b, hat, hb, fun H1 e1 => ?_⟩
    cases b with
    | false =>
      cases hr
      exact q H1 e1
    | true => exact ⟨hi, x, r, hat.ext e1, hr, fun H2 e2 => q H2 ((e1.trans e2).sub fun _ z => .inl z)⟩
/-- the parts of a tuple -/
theorem hxs_nil : PA X [] (LXs X.K cc i a cls d fun x => hxsE G x []) := PA.imp pa_nil fun σV H Q ⟨_, x, r, _, h, q⟩ => by
  cases h
  exact q [] H (by simp only [RepDs]) Ext.refl
theorem hxs_cons {h : HX} {hs : List HX} (h1 : PE X e (LX X.K cc i a cls d fun x => hxE G x h)) (h2 : PA X es (LXs X.K cc i a cls d fun x => hxsE G x hs)) (s1 : starEach (e :: es) X.env = (false, eval e X.env) :: starEach es X.env) : PA X (e :: es) (LXs X.K cc i a cls d fun x => hxsE G x (h :: hs)) :=
  PA.imp (pa_cons h1 h2 s1) fun σV H Q ⟨hi, x, r, hat, hx, q⟩ => by
    obtain ⟨r1, hr1, hx⟩ := Option.bind_eq_some_iff.mp (show (hxE G x h).bind (fun d => (hxsE G x hs).map (d :: ·)) = some r from hx)
    obtain ⟨r2, hr2, rfl⟩ := Option.map_eq_some_iff.mp hx
    refine ⟨hi, x, r1, hat, hr1, fun v H1 rv e1 => ⟨hi, x, r2, hat.ext e1, hr2, fun vs H2 rvs e2 => q _ H2 ?_ ((e1.trans e2).sub fun _ z => .inl z)⟩⟩
    simp only [RepDs]
    exact ⟨v, vs, rfl, keepD e2.toKeep _ _ rv, rvs⟩
/-- what is given back -/
theorem hv_one {h : HX} (h1 : PE X e (LX X.K cc i a cls d fun x => hxE G x h)) : PE X e (LX X.K cc i a cls d fun x => hsE G x (.one h)) := h1
theorem hv_tup {hs : List HX} {x1 : Nat} (h : PA X es (LXs X.K cc i a cls d fun x => hxsE G x hs)) (hl : hs.length ≤ 1000) : PE X (.Tuple es x1 pos) (LX X.K cc i a cls d fun x => hsE G x (.tup hs)) :=
  PE.imp (pe_tup h) fun σV H Q ⟨hi, x, r, hat, hx, q⟩ => by
    obtain ⟨ds, hds, rfl⟩ := Option.map_eq_some_iff.mp (show (hxsE G x hs).map D.tup = some r from hx)
    have len : ∀ {hs : List HX} {ds : List D}, hxsE G x hs = some ds → ds.length = hs.length := by
      intro hs
      induction hs with
      | nil => intro ds h; cases h; rfl
      | cons h hs ih =>
        intro ds hh
        obtain ⟨r1, _, hh⟩ := Option.bind_eq_some_iff.mp (show (hxE G x h).bind (fun d => (hxsE G x hs).map (d :: ·)) = some ds from hh)
        obtain ⟨r2, hr2, rfl⟩ := Option.map_eq_some_iff.mp hh
        simp [ih hr2]
    refine ⟨hi, x, ds, hat, hds, fun vs H1 rvs e1 => ⟨?_, fun p hp => ?_⟩⟩
    · rw [← rvs.len, len hds]
      exact Nat.le_of_lt (small1000 hl)
    · have ext := Ext.upd (o := .tup vs) hp
      exact q _ _ (rep_tup.mpr ⟨p, vs, rfl, upd_same, keepDs ext.toKeep _ _ rvs⟩) ((e1.trans ext).sub fun _ z => .inl z)
theorem hv_ife {t : HT} {s1 s2 : HS} (ht : PT X e (LXT X.K cc i a cls d fun x => htE G x t)) (h1 : PE X e1 (LX X.K cc i a cls d fun x => hsE G x s1)) (h2 : PE X e2 (LX X.K cc i a cls d fun x => hsE G x s2)) : PE X (.IfExp e e1 e2 pos) (LX X.K cc i a cls d fun x => hsE G x (.ife t s1 s2)) :=
  PE.imp (pe_ifExp ht h1 h2) fun σV H Q ⟨hi, x, r, hat, hx, q⟩ => by
    obtain ⟨b, hb, hr⟩ := Option.bind_eq_some_iff.mp (show (htE G x t).bind (fun p => if p = true then hsE G x s1 else hsE G x s2) = some r from hx)
    refine ⟨hi, x, b, hat, hb, fun H1 e1 => ?_⟩
    cases b with
    | true => exact ⟨hi, x, r, hat.ext e1, hr, fun v H2 rv e2 => q v H2 rv ((e1.trans e2).sub fun _ z => .inl z)⟩
    | false => exact ⟨hi, x, r, hat.ext e1, hr, fun v H2 rv e2 => q v H2 rv ((e1.trans e2).sub fun _ z => .inl z)⟩
theorem hs_ret {s : HS} (h : PE X e (LX X.K cc i a cls d fun x => hsE G x s)) : PSs X [.Return (some e) pos] (LXS X.K cc i a cls d fun x => hsE G x s) :=
  PSs.imp (pss_cons (ps_ret h) pss_nil) fun D σV H z => z
theorem hs_if {t : HT} {s1 s2 : HS} {b1 : List Stmt} (ht : PT X e (LXT X.K cc i a cls d fun x => htE G x t)) (h1 : PSs X b1 (LXS X.K cc i a cls d fun x => hsE G x s1)) (h2 : PSs X sts (LXS X.K cc i a cls d fun x => hsE G x s2)) : PSs X (.If e b1 [] pos :: sts) (LXS X.K cc i a cls d fun x => hsE G x (.ife t s1 s2)) :=
  PSs.imp (pss_cons (ps_if ht h1 pss_nil) h2) fun D σV H ⟨hi, x, r, hat, hx, q⟩ => by
    obtain ⟨b, hb, hr⟩ := Option.bind_eq_some_iff.mp (show (htE G x t).bind (fun p => if p = true then hsE G x s1 else hsE G x s2) = some r from hx)
    refine ⟨hi, x, b, hat, hb, fun H1 e1 => ?_⟩
    cases b with
    | true => exact ⟨hi, x, r, hat.ext e1, hr, fun v H2 rv e2 => q v H2 rv ((e1.trans e2).sub fun _ z => .inl z)⟩
    | false => exact ⟨hi, x, r, hat.ext e1, hr, fun v H2 rv e2 => q v H2 rv ((e1.trans e2).sub fun _ z => .inl z)⟩
theorem h0_bl {z : Bool} {j : Nat} : PSs X [.Return (some (.Constant (.bool z) j p)) pos] (L0S X.K cc cls d fun x => hsE G x (.one (.c (.bl z)))) :=
  PSs.imp (pss_cons (ps_ret pe_bl) pss_nil) fun D σV H ⟨x, r, xr, hx, q⟩ => by cases hx; exact q _ H (rep_bl.mpr rfl) Ext.refl
theorem h0_str {z : Str} {j : Nat} : PSs X [.Return (some (.Constant (.str z) j p)) pos] (L0S X.K cc cls d fun x => hsE G x (.one (.c (.str z)))) :=
  PSs.imp (pss_cons (ps_ret pe_str) pss_nil) fun D σV H ⟨x, r, xr, hx, q⟩ => by cases hx; exact q _ H (rep_str.mpr rfl) Ext.refl
theorem h0_tup {z : Str} {j x1 : Nat} : PSs X [.Return (some (.Tuple [.Constant (.str z) j p] x1 p2)) pos] (L0S X.K cc cls d fun x => hsE G x (.tup [.c (.str z)])) :=
  PSs.imp (pss_cons (ps_ret (pe_tup (pa_cons pe_str pa_nil rfl))) pss_nil) fun D σV H ⟨x, r, xr, hx, q⟩ => by
    cases hx
    refine ⟨Nat.le_of_lt (small1000 (by show 1 ≤ 1000; decide)), fun l hl => ?_⟩
    have ext := Ext.upd (o := .tup [V.str z]) hl
    refine q _ _ (rep_tup.mpr ⟨l, _, rfl, upd_same, ?_⟩) (ext.sub fun _ z => z.elim)
    simp only [RepDs]
    exact ⟨_, _, rfl, rep_str.mpr rfl, rfl⟩
end

/-! ### try: .. except C as e: .. -/
section
variable {X : Cx} {cc : Str → Addr} {W : WX} {G : Glob} {Γ : Nat → Sp} {A : List Nat} {i : Nat} {body sts : List Stmt} {b₀ : Stmt} {ss : CSs} {pos pos' np : Pos} {hs : HS} {c n : Str} {m : List Str}
theorem PS.impL {st : Stmt} {t t' : L2.TS} (h : PS X st t) (i : ∀ D σV H, σV.length = X.N.length → t' D σV H → t D σV H) : PS X st t' := ⟨fun pins s σ H D I hw => h.run pins s σ H D I (i _ _ _ I.len hw)⟩
theorem catch_go {K : PySem.W.Frag} {H H' : Hp} {σV σV' : L2.St} {F : FP} {Kk : Ks} {D : Ends} {W : WX} {cls : Value} {d : Option Addr} (ex : ExF K cc G) (hm : kget G.sub c = some m) (ok : EndsOk K cc W A H σV F Kk D)
    (z : EndX K cc H σV F A (fun x σ => catch_ G x (fun d => Kk.rt (.im d) σ) (Kk.ex x σ) [(c, hs)]) cls d σV' H') :
    ∃ b, PySem.W.exmOne K cls (.ref (cc c)) = some b ∧ (b = true → ∃ x r, XR K cc H' x cls d ∧ hsE G x hs = some r ∧ ∀ v H2, RepD K H2 r v → Ext H' H2 fpE → D.rt v H2) ∧ (b = false → W cls d σV' H') := by
  obtain ⟨x, σ', F1, hc, e1, st, xr, so⟩ := z
  simp only [catch_] at hc
  split at hc
  · rename_i l hl
    refine ⟨decide (c ∈ l), by rw [xr.1]; exact ex.exm _ l _ m hl hm, fun hb => ?_, fun hb => ?_⟩
    · rw [if_pos (of_decide_eq_true hb)] at hc
      split at hc
      · rename_i r hr
        exact ⟨x, r, xr, hr, fun v H2 rv ext => ok.rt _ _ ⟨_, σ', σV', F1, fpE, hc, (e1.ext ext).1, repM_im rv, fun _ _ z => z, (st.trans ext.step), so⟩⟩
      · exact hc.elim
    · rw [if_neg (of_decide_eq_false hb)] at hc
      exact ok.ex _ _ _ _ ⟨x, σ', F1, hc, e1, st, xr, so⟩
  · exact hc.elim
theorem qs_trx1 (hsk : X.stack = X.env :: X.outer) (hf : X.env.frame = some X.env.locals) (hN : X.N.Nodup) (hi : X.N[i]? = some n) (hln : X.env.kindOf n = some .local) (ex : ExF X.K cc G) (hm : kget G.sub c = some m) (hgc : Gl X c) (hmc : X.mg c = some (.ref (cc c))) (hdb : (c == ("__debug__" : Str)) = false) (tk : Takes X W)
    (hb : ∀ (W' : WX) (pn : List (Addr × Obj)) (xe : Value → Shared → Prop), Takes (X.tr pn xe) W' → PassesOwn (model X.prog X.w) X.A X.env xe → QSs (X.tr pn xe) cc W' A body (xss G Γ ss))
    (hsu : ∀ (a : Addr) (oe : Obj) (cls : Value) (d : Option Addr) (pn : List (Addr × Obj)), Zc cls d oe → (∃ vs, oe.data = .fields vs) → PSs (X.suite a ((a, oe) :: pn)) (b₀ :: sts) (LXS X.K cc i a cls d fun x => hsE G x hs)) :
    QS X cc W A (.Try body [.ExceptHandler (some (.Name c np)) (some n) (b₀ :: sts) pos'] [] [] pos) (xs G Γ (.trx ss [(c, hs)])) :=
  PS.impL (ps_try_as (tb := fun W' => LS X.K cc W' A (xss G Γ ss)) hsk hf hN hi hln ⟨hgc, hdb, .inl hmc⟩ tk hb hsu) fun D σV H hlen ⟨σ, F, Kk, er, h, ok⟩ => by
    simp only [xs] at h
    refine ⟨σ, F, _, er, h, ok.nx, ok.bk, ok.ct, ok.rt, fun cls d σV' H' z => ?_⟩
    obtain ⟨_, _, _, _, _, _, _, so⟩ := id z
    obtain ⟨b, hb1, hyes, hno⟩ := catch_go ex hm ok z
    refine ⟨b, hb1, fun hb a ha => ?_, hno⟩
    obtain ⟨x, r, xr, hr, q⟩ := hyes hb
    have hlt : i < σV'.length := by rw [so.1, hlen]; exact (List.getElem?_eq_some_iff.mp hi).1
    exact ⟨by rw [List.length_set]; exact hlt, x, r, ⟨xr, fun _ => List.getElem?_set_self hlt⟩, hr, q⟩
theorem qs_trx0 (hsk : X.stack = X.env :: X.outer) (hf : X.env.frame = some X.env.locals) (hi : 0 < X.N.length) (ex : ExF X.K cc G) (hm : kget G.sub c = some m) (hgc : Gl X c) (hmc : X.mg c = some (.ref (cc c))) (hdb : (c == ("__debug__" : Str)) = false) (tk : Takes X W)
    (hb : ∀ (W' : WX) (pn : List (Addr × Obj)) (xe : Value → Shared → Prop), Takes (X.tr pn xe) W' → PassesOwn (model X.prog X.w) X.A X.env xe → QSs (X.tr pn xe) cc W' A body (xss G Γ ss))
    (hsu : ∀ (a : Addr) (oe : Obj) (cls : Value) (d : Option Addr) (pn : List (Addr × Obj)), Zc cls d oe → (∃ vs, oe.data = .fields vs) → PSs (X.suite a ((a, oe) :: pn)) (b₀ :: sts) (L0S X.K cc cls d fun x => hsE G x hs)) :
    QS X cc W A (.Try body [.ExceptHandler (some (.Name c np)) none (b₀ :: sts) pos'] [] [] pos) (xs G Γ (.trx ss [(c, hs)])) :=
  PS.impL (ps_try_only (tb := fun W' => LS X.K cc W' A (xss G Γ ss)) hsk hf ⟨hgc, hdb, .inl hmc⟩ tk hb hsu) fun D σV H hlen ⟨σ, F, Kk, er, h, ok⟩ => by
    simp only [xs] at h
    refine ⟨σ, F, _, er, h, ok.nx, ok.bk, ok.ct, ok.rt, fun cls d σV' H' z => ?_⟩
    obtain ⟨b, hb1, hyes, hno⟩ := catch_go ex hm ok z
    refine ⟨b, hb1, fun hb a ha => ?_, hno⟩
    obtain ⟨x, r, xr, hr, q⟩ := hyes hb
    exact ⟨x, r, xr, hr, q⟩
end
end CP
namespace CP
open PySem PySem.Spec PyProof.Rows L2 He

/-! ### a hook with checks of my own -/
section
variable {fa : List Fa} {fn : List DefD} {ck : PySem.W.Frag → Bool} {K : PySem.W.Frag}
def obsC (fa : List Fa) (fn : List DefD) (ck : PySem.W.Frag → Bool) (K : PySem.W.Frag) : AlD := (((fa.all fun f => f.ok K) && fn.all fun d => d.ok K) && ck K, fn.map fun d => fnW K d.at_)
def obsCG (n : Nat) (fa : List Fa) (fn : List DefD) (ck : PySem.W.Frag → Bool) (g : Addr → Option Obj) : AlD := obsC fa fn ck (frG g (He.asD g n))
def hookC (n : Nat) (fa : List Fa) (fn : List DefD) (ck : PySem.W.Frag → Bool) : PySem.W.Hook where
  α := AlD
  obs := fun s => obsCG n fa fn ck s.heap.get?
  val := fun _ => valD fn
  says := fun _ h => ∃ K : PySem.W.Frag, K.In h ∧ obsC fa fn ck K = valD fn
  of := fun _ _ e => ⟨_, frG_in, e⟩
  keeps := fun _ _ _ ⟨K, hK, c⟩ k => ⟨K, PySem.W.Frag.In.keeps hK k, c⟩
theorem obsCG_eq {n : Nat} {g : Addr → Option Obj} {s : Shared} (h : ∀ a, g a = s.heap.get? a) : obsCG n fa fn ck g = (hookC n fa fn ck).obs s := by
  have e : g = s.heap.get? := funext h
  rw [e] <;> rfl
theorem saysC_ck (c : obsC fa fn ck K = valD fn) : ck K = true := (ba (show (((fa.all fun f => f.ok K) && fn.all fun d => d.ok K) && ck K) = true from congrArg (fun z : AlD => z.1) c)).2
theorem saysC (c : obsC fa fn ck K = valD fn) : SaysD fa fn K := by
  have h1 := (ba (show (((fa.all fun f => f.ok K) && fn.all fun d => d.ok K) && ck K) = true from congrArg (fun z : AlD => z.1) c)).1
  have h2 : fn.map (fun d => fnW K d.at_) = fn.map DefD.val := congrArg (fun z : AlD => z.2) c
  exact Prod.ext h1 h2
end

/-! ### the classes of exceptions, checked -/
def oexB (K : PySem.W.Frag) (C : Addr) : Bool := (match K.lookup C with
  | some ⟨c, _, .cls cd, sl⟩ => decide (c = .type "type") && ((match cd.mro with
      | .ref C' :: bm => decide (C' = C) && PySem.HandSPX.refsVE bm
      | _ => false) && (cd.hasDict && (!cd.hasDel && (match sl.toList with
        | [_, _, _, _, some (.builtin n), _] => decide (n = "ValueError.__new__")
        | _ => false))))
  | _ => false) && (decide (PySem.W.findIn K (.ref C) "__setattr__" = some (some (.builtin "object.__setattr__"))) && (decide (PySem.W.subIn K (.ref C) (.type "BaseException") = some true) && (decide (PySem.W.typeIn K (.ref C) = some (.type "type")) && PySem.W.keepIn K (.ref C))))
theorem oexB_ok {K : PySem.W.Frag} {C : Addr} (h : oexB K C = true) : OexC K C := by
  obtain ⟨h0, h⟩ := ba h
  obtain ⟨h1, h⟩ := ba h
  obtain ⟨h2, h⟩ := ba h
  obtain ⟨h3, h4⟩ := ba h
  refine ⟨?_, of_decide_eq_true h1, of_decide_eq_true h2, of_decide_eq_true h3, h4⟩
  split at h0
  · rename_i c dd cd sl hC
    obtain ⟨g0, g⟩ := ba h0
    obtain ⟨g1, g⟩ := ba g
    obtain ⟨g2, g⟩ := ba g
    obtain ⟨g3, g4⟩ := ba g
    obtain ⟨nm, bs, mro, ns, qn, hd, sn, sub, ab, col, del⟩ := cd
    dsimp only at g1 g2 g3
    have g3' : del = false := by simpa using g3
    subst g2 g3'
    obtain rfl := of_decide_eq_true g0
    cases mro with
    | nil => cases g1
    | cons a bm =>
      cases a with
      | ref C' =>
        obtain ⟨q1, q2⟩ := ba (show (decide (C' = C) && PySem.HandSPX.refsVE bm) = true from g1)
        obtain rfl := of_decide_eq_true q1
        split at g4
        · rename_i k0 k1 k2 k3 n k5 hs
          obtain rfl := of_decide_eq_true g4
          obtain ⟨l⟩ := sl
          simp only at hs
          subst hs
          exact ⟨nm, qn, ns, bs, bm, sn, sub, ab, col, dd, k0, k1, k2, k3, k5, hC, q2⟩
        · cases g4
      | _ => cases g1
  · cases h0
def texB (K : PySem.W.Frag) (C : Addr) : Bool := xfB K C && (oexB K C && ((PySem.W.clsIn K C).isSome && (decide (PySem.W.findIn K (.ref C) "__class__" = some (some (.builtin "object.__class__"))) &&
  (decide (PySem.W.specialIn K (.builtin "object.__class__") "__get__" = some (some (.builtin "getset_descriptor.__get__"))) && (decide (PySem.W.takesIn K (.builtin "object.__class__") = some true) && decide (PySem.W.mroIn K C (.type "object") = some true))))))
theorem texB_ok {K : PySem.W.Frag} {C : Addr} (h : texB K C = true) : TEx K C := by
  obtain ⟨h1, h⟩ := ba h
  obtain ⟨h2, h⟩ := ba h
  obtain ⟨h3, h⟩ := ba h
  obtain ⟨h4, h⟩ := ba h
  obtain ⟨h5, h⟩ := ba h
  obtain ⟨h6, h7⟩ := ba h
  exact ⟨xfB_ok h1, oexB_ok h2, h3, of_decide_eq_true h4, of_decide_eq_true h5, of_decide_eq_true h6, of_decide_eq_true h7⟩
def exB (K : PySem.W.Frag) (G : Glob) : Bool := G.sub.all fun p => texB K (ga K p.1) && ((G.sub.all fun q => decide (PySem.W.exmOne K (.ref (ga K p.1)) (.ref (ga K q.1)) = some (decide (q.1 ∈ p.2))) && decide (PySem.W.kitOne K (.ref (ga K p.1)) (.ref (ga K q.1)) = some (decide (q.1 ∈ p.2)))) &&
  G.flds.all fun r => r.2.all fun f => decide (PySem.W.findIn K (.ref (ga K p.1)) f = some none))
theorem kget_mem {κ α : Type} [DecidableEq κ] {k : κ} {v : α} : ∀ {l : List (κ × α)}, kget l k = some v → (k, v) ∈ l := by
  intro l h
  unfold kget at h
  obtain ⟨p, hp, rfl⟩ := Option.map_eq_some_iff.mp h
  have h1 := List.find?_some hp
  have h2 := List.mem_of_find?_eq_some hp
  have e : p.1 = k := of_decide_eq_true h1
  subst e
  exact h2
theorem exB_ok {K : PySem.W.Frag} {G : Glob} (h : exB K G = true) : ExF K (ga K) G := by
  have all := List.all_eq_true.mp h
  have at_ : ∀ {c l}, kget G.sub c = some l → texB K (ga K c) = true ∧ (∀ {y m}, kget G.sub y = some m → PySem.W.exmOne K (.ref (ga K c)) (.ref (ga K y)) = some (decide (y ∈ l)) ∧ PySem.W.kitOne K (.ref (ga K c)) (.ref (ga K y)) = some (decide (y ∈ l))) ∧
      ∀ {x fs f}, kget G.flds x = some fs → f ∈ fs → PySem.W.findIn K (.ref (ga K c)) f = some none := by
    intro c l hc
    obtain ⟨h1, h2⟩ := ba (all _ (kget_mem hc))
    obtain ⟨h2, h3⟩ := ba h2
    refine ⟨h1, fun hy => ?_, fun hx hf => ?_⟩
    · obtain ⟨q1, q2⟩ := ba (List.all_eq_true.mp h2 _ (kget_mem hy))
      exact ⟨of_decide_eq_true q1, of_decide_eq_true q2⟩
    · exact of_decide_eq_true (List.all_eq_true.mp (List.all_eq_true.mp h3 _ (kget_mem hx)) _ hf)
  exact ⟨fun c l hc => texB_ok (at_ hc).1, fun c l y m hc hy => ((at_ hc).2.1 hy).1, fun c l y m hc hy => ((at_ hc).2.1 hy).2, fun c l x fs f hc hx hf => (at_ hc).2.2 hx hf⟩
def iniB (K : PySem.W.Frag) (c : Str) : Bool := decide (PySem.W.findIn K (.ref (ga K c)) "__init__" = some (some (.ref (ma K (ga K c) "__init__")))) && decide (PySem.W.typeIn K (.ref (ma K (ga K c) "__init__")) = some (.type "function"))
theorem iniB_ok {K : PySem.W.Frag} {c : Str} (h : iniB K c = true) : PySem.W.findIn K (.ref (ga K c)) "__init__" = some (some (.ref (ma K (ga K c) "__init__"))) ∧ PySem.W.typeIn K (.ref (ma K (ga K c) "__init__")) = some (.type "function") := by
  obtain ⟨h1, h2⟩ := ba h
  exact ⟨of_decide_eq_true h1, of_decide_eq_true h2⟩
/-- a def in a class -/
def meth (st : Stmt) (k : Nat) : Stmt := match st with
  | .ClassDef _ _ _ b _ _ _ _ _ _ _ => b.getD k (.Pass ⟨0, 0, 0, 0⟩)
  | _ => .Pass ⟨0, 0, 0, 0⟩
/-! ### constants -/
section
variable {X : Cx} {G : Glob} {x : Str} {g : Nat} {pos : Pos}
theorem lp_conI {i : Int} (h : ∃ t, X.mg x = some (.int i t)) (hg : Gl X x) (hdb : (x == ("__debug__" : Str)) = false) (hd : G.cons[g]? = some (x, .int i)) : PE X (.Name x pos) (LP X.K G (.con g)) := by
  obtain ⟨t, h⟩ := h
  exact lp_con (pe_glob (v := .int i) hg h ⟨t, rfl⟩ hdb) hd fun H => rep_int.mpr rfl
theorem lp_conS {z : Str} (h : ∃ t, X.mg x = some (.str z t)) (hg : Gl X x) (hdb : (x == ("__debug__" : Str)) = false) (hd : G.cons[g]? = some (x, .str z)) : PE X (.Name x pos) (LP X.K G (.con g)) := by
  obtain ⟨t, h⟩ := h
  exact lp_con (pe_glob (v := .str z) hg h ⟨t, rfl⟩ hdb) hd fun H => rep_str.mpr rfl
def vD : D → V
  | .int i => .int i
  | .str s => .str s
  | .bl b => .bl b
  | _ => .non
def ktB (K : PySem.W.Frag) (x : Str) (ds : List D) : Bool := decide (PySem.W.nsIn K mainGlobals x = some (some (.ref (ga K x)))) && (ds.all flatD && (match K.lookup (ga K x) with
  | some ⟨.type c, none, .seq its _, _⟩ => decide (c = "tuple") && (decide (its.size ≤ sizeLine) && relAll (ds.map vD) its.toList)
  | _ => false))
theorem flat_vD {K : PySem.W.Frag} {H : Hp} : ∀ {ds : List D}, ds.all flatD = true → RepDs K H ds (ds.map vD)
  | [], _ => by simp only [List.map_nil, RepDs]
  | d :: ds, h => by
    simp only [List.all_cons, Bool.and_eq_true] at h
    simp only [List.map_cons, RepDs]
    refine ⟨_, _, rfl, ?_, flat_vD h.2⟩
    cases d with
    | non => exact rep_non.mpr rfl
    | bl b => exact rep_bl.mpr rfl
    | int b => exact rep_int.mpr rfl
    | str b => exact rep_str.mpr rfl
    | _ => cases h.1
theorem ktB_ok {K : PySem.W.Frag} {ds : List D} (h : ktB K x ds = true) : ∀ H, RepD K H (.kt ds) (.ref (ga K x)) := fun H => by
  obtain ⟨h1, h2⟩ := ba h
  obtain ⟨h2, h3⟩ := ba h2
  split at h3
  · rename_i c its n sl hk
    obtain ⟨q1, q2⟩ := ba h3
    obtain ⟨q2, q3⟩ := ba q2
    obtain rfl := of_decide_eq_true q1
    exact rep_kt.mpr ⟨_, _, rfl, .inl ⟨_, its, n, hk, rfl, rfl, rfl, of_decide_eq_true q2, relAll_ok q3⟩, flat_vD h2⟩
  · cases h3
theorem ktB_mg {K : PySem.W.Frag} {h : Heap} {mg : Str → Option Value} (Xk : K.In h) (Gm : h.Ns mainGlobals mg) {ds : List D} (c : ktB K x ds = true) : mg x = some (.ref (ga K x)) := PySem.W.mg_of Xk Gm (of_decide_eq_true (ba c).1)
theorem lp_conT {ds : List D} {a : Addr} (h : X.mg x = some (.ref a)) (hr : ∀ H, RepD X.K H (.kt ds) (.ref a)) (hg : Gl X x) (hdb : (x == ("__debug__" : Str)) = false) (hd : G.cons[g]? = some (x, .kt ds)) : PE X (.Name x pos) (LP X.K G (.con g)) :=
  lp_con (pe_glob (v := .ref a) hg h rfl hdb) hd hr
end
end CP
namespace CP
open PySem PySem.Spec PyProof.Rows L2
/-! ### a comprehension in a comprehension -/
def env0 (sc : Scope) : PySem.Env := { scope := sc, locals := 0, globals := 0, cells := [], qual := "" , func := none, code := .none, frame := none, builtins := 0 }
theorem blk2 {N : List Str} {sc0 sc scope : Scope} {own : List (Str × Nat)} {env : PySem.Env} (h : env.scope = sc0) (ok : BlkOk N (relabel sc (env0 sc0)) scope own) : BlkOk N (relabel sc env) scope own := by
  subst h
  exact ok
end CP
namespace CP
open PySem PySem.Spec PyProof.Rows L2
/-! ### more that simp computes -/
theorem szl {n : Nat} (h : n < 16777216) : n < sizeLine := by rw [sizeLine_eq]; exact h
theorem g_lst {ds : List D} {t : Int} (h0 : 0 ≤ t) (h1 : t < ds.length) : ∃ d, ds[t.toNat]? = some d ∧ getM (.lst ds) (.im (.int t)) = some (.im d) := by
  have hn : t.toNat < ds.length := by omega
  refine ⟨ds[t.toNat], List.getElem?_eq_getElem hn, ?_⟩
  simp only [getM, atI, ixN, if_pos h0, if_pos h1, Option.bind_some, List.getElem?_eq_getElem hn, Option.map_some]
theorem g_at {ds : List D} {n : Nat} {d : D} (h : ds[n]? = some d) : getM (.lst ds) (.im (.int (n : Int))) = some (.im d) := by
  have hn : n < ds.length := (List.getElem?_eq_some_iff.mp h).1
  simp only [getM, atI, ixN]
  rw [if_pos (by omega), if_pos (by omega)]
  simp [h]
theorem g_atT {ds : List D} {n : Nat} {d : D} (h : ds[n]? = some d) : getM (.im (.tup ds)) (.im (.int (n : Int))) = some (.im d) := by
  have hn : n < ds.length := (List.getElem?_eq_some_iff.mp h).1
  simp only [getM, atI, ixN]
  rw [if_pos (by omega), if_pos (by omega)]
  simp [h]
theorem g_intT {ds : List D} {t : Int} (h0 : 0 ≤ t) (h1 : t < ds.length) : ∃ d, ds[t.toNat]? = some d ∧ getM (.im (.tup ds)) (.im (.int t)) = some (.im d) := by
  have hn : t.toNat < ds.length := by omega
  refine ⟨ds[t.toNat], List.getElem?_eq_getElem hn, ?_⟩
  simp only [getM, atI, ixN, if_pos h0, if_pos h1, Option.bind_some, List.getElem?_eq_getElem hn, Option.map_some]
theorem s_lst {ds : List D} {t : Int} {d : D} (h0 : 0 ≤ t) (h1 : t < ds.length) : setM (.lst ds) (.im (.int t)) (.im d) = some (.lst (ds.set t.toNat d)) := by
  simp only [setM, ixN, if_pos h0, if_pos h1, Option.map_some]
theorem g_t0 {a : D} {l : List D} : getM (.im (.tup (a :: l))) (.im (.int 0)) = some (.im a) := by
  simp only [getM, atI, ixN]
  rw [if_pos (by omega), if_pos (by simp <;> omega)]
  rfl
theorem g_t1 {a b : D} {l : List D} : getM (.im (.tup (a :: b :: l))) (.im (.int 1)) = some (.im b) := by
  simp only [getM, atI, ixN]
  rw [if_pos (by omega), if_pos (by simp; omega)]
  rfl
theorem g_t2 {a b c : D} {l : List D} : getM (.im (.tup (a :: b :: c :: l))) (.im (.int 2)) = some (.im c) := by
  simp only [getM, atI, ixN]
  rw [if_pos (by omega), if_pos (by simp; omega)]
  rfl
theorem o_idx {x y : M} {d : D} (h : getM x y = some (.im d)) : op2M .idx x y = some (.im d) := by simp only [op2M, h]
theorem o_addS {a b : Str} (h : a.length + b.length ≤ 16777216) : op2M .add (.im (.str a)) (.im (.str b)) = some (.im (.str (a ++ b))) := by
  have : a.length + b.length ≤ sizeLine := by rw [sizeLine_eq]; exact h
  simp only [op2M, if_pos this]
theorem o_addL {a b : List D} (h : a.length + b.length ≤ 16777216) : op2M .add (.lst a) (.lst b) = some (.lst (a ++ b)) := by
  have : a.length + b.length ≤ sizeLine := by rw [sizeLine_eq]; exact h
  simp only [op2M, if_pos this]
theorem o_addT {a b : List D} (h : a.length + b.length ≤ 16777216) : op2M .add (.im (.tup a)) (.im (.tup b)) = some (.im (.tup (a ++ b))) := by
  have : a.length + b.length ≤ sizeLine := by rw [sizeLine_eq]; exact h
  simp only [op2M, if_pos this]
theorem o_rep {a : D} {k : Nat} (h : k ≤ 1000000) : op2M .mul (.lst [a]) (.im (.int (k : Int))) = some (.lst (List.replicate k a)) := by
  have h2 : k ≤ sizeLine := by rw [sizeLine_eq]; omega
  simp only [op2M, List.length_singleton, Nat.one_mul, Int.toNat_natCast]
  rw [if_pos ⟨by omega, by omega, h2⟩]
  congr 2
  induction k with
  | zero => rfl
  | succ k ih => rw [List.replicate_succ, List.flatten_cons, ih (by omega) (by rw [sizeLine_eq]; omega)]; rfl
theorem o_mulIB {i : Int} {b : Bool} : op2M .mul (.im (.int i)) (.im (.bl b)) = some (.im (.int (i * if b = true then 1 else 0))) := rfl
theorem mkL_im (l : List D) : mkL (l.map M.im) = .lst l := by
  have : imsOf (l.map M.im) = some l := by
    induction l with
    | nil => rfl
    | cons x l ih => simp only [List.map_cons, imsOf, ih, Option.map_some]
  unfold mkL
  rw [this]
theorem cut_int (ns : List Int) (lo hi : Option Int) : ∃ ms : List Int, CP.cutD (ns.map D.int) lo hi = ms.map D.int ∧ ms.length ≤ ns.length := by
  unfold CP.cutD
  rw [List.length_map, ← List.map_drop, ← List.map_take]
  exact ⟨_, rfl, by rw [List.length_take, List.length_drop]; omega⟩
theorem slcL (ds : List D) (lo hi : Option Int) : slcM (.lst ds) lo hi = some (.lst (CP.cutD ds lo hi)) := rfl
theorem slcF (ds : List D) (lo hi : Option Int) : slcM (.im (.lst ds)) lo hi = some (.lst (CP.cutD ds lo hi)) := rfl
theorem slcT (ds : List D) (lo hi : Option Int) : slcM (.im (.tup ds)) lo hi = some (.im (.tup (CP.cutD ds lo hi))) := rfl
theorem pw18 : op2M .pow (.im (.int 10)) (.im (.int 18)) = some (.im (.int 1000000000000000000)) := rfl
theorem pw9 : op2M .pow (.im (.int 10)) (.im (.int 9)) = some (.im (.int 1000000000)) := rfl
theorem strsOf_map : ∀ l : List Str, strsOf (l.map D.str) = some l
  | [] => rfl
  | s :: l => by simp only [List.map_cons, strsOf, strsOf_map l, Option.map_some]
theorem flat_strs (l : List Str) : (l.map D.str).all flatD = true := by
  induction l with
  | nil => rfl
  | cons s l ih => simp only [List.map_cons, List.all_cons, ih, Bool.and_true]; rfl
theorem flat_ints (l : List Int) : (l.map D.int).all flatD = true := by
  induction l with
  | nil => rfl
  | cons s l ih => simp only [List.map_cons, List.all_cons, ih, Bool.and_true]; rfl
theorem inD_str (z : Str) (l : List Str) : inD (.str z) (l.map D.str) = decide (z ∈ l) := by
  unfold inD
  rw [List.any_map]
  induction l with
  | nil => rfl
  | cons s l ih =>
    rw [List.any_cons, ih]
    by_cases h : z = s
    · subst h; simp [eqF]
    · have : (s == z) = false := by simpa using fun e => h e.symm
      simp [eqF, this, h]
theorem inD_int (z : Int) (l : List Int) : inD (.int z) (l.map D.int) = decide (z ∈ l) := by
  unfold inD
  rw [List.any_map]
  induction l with
  | nil => rfl
  | cons s l ih =>
    rw [List.any_cons, ih]
    by_cases h : z = s
    · subst h; simp [eqF]
    · have : (s == z) = false := by simpa using fun e => h e.symm
      simp [eqF, this, h]
theorem inM_sL (z : Str) (l : List Str) : inM (.im (.str z)) (.lst (l.map D.str)) = some (decide (z ∈ l)) := by
  have : inM (.im (.str z)) (.lst (l.map D.str)) = (if flatD (.str z) = true ∧ (l.map D.str).all flatD = true then some (inD (.str z) (l.map D.str)) else none) := rfl
  rw [this, if_pos ⟨rfl, flat_strs l⟩, inD_str]
theorem inM_sK (z : Str) (l : List Str) : inM (.im (.str z)) (.im (.kt (l.map D.str))) = some (decide (z ∈ l)) := by
  have : inM (.im (.str z)) (.im (.kt (l.map D.str))) = (if flatD (.str z) = true ∧ (l.map D.str).all flatD = true then some (inD (.str z) (l.map D.str)) else none) := rfl
  rw [this, if_pos ⟨rfl, flat_strs l⟩, inD_str]
theorem inM_iL (z : Int) (l : List Int) : inM (.im (.int z)) (.lst (l.map D.int)) = some (decide (z ∈ l)) := by
  have : inM (.im (.int z)) (.lst (l.map D.int)) = (if flatD (.int z) = true ∧ (l.map D.int).all flatD = true then some (inD (.int z) (l.map D.int)) else none) := rfl
  rw [this, if_pos ⟨rfl, flat_ints l⟩, inD_int]
theorem o_inSL (z : Str) (l : List Str) : op2M .inn (.im (.str z)) (.lst (l.map D.str)) = some (.im (.bl (decide (z ∈ l)))) := by simp only [op2M, inM_sL, Option.map_some]
theorem o_ninSK (z : Str) (l : List Str) : op2M .nin (.im (.str z)) (.im (.kt (l.map D.str))) = some (.im (.bl !(decide (z ∈ l)))) := by simp only [op2M, inM_sK, Option.map_some]
theorem o_inIL (z : Int) (l : List Int) : op2M .inn (.im (.int z)) (.lst (l.map D.int)) = some (.im (.bl (decide (z ∈ l)))) := by simp only [op2M, inM_iL, Option.map_some]
theorem find_str (z : Str) : ∀ (l : List Str) (k : Nat), findD (.str z) (l.map D.str) k = (l.idxOf? z).map (· + k)
  | [], k => rfl
  | s :: l, k => by
    rw [List.idxOf?_cons]
    simp only [List.map_cons, findD]
    by_cases h : s = z
    · subst h; simp [eqF]
    · have e : (s == z) = false := by simpa using h
      have e2 : eqF (.str s) (.str z) = false := e
      rw [e2, find_str z l (k + 1)]
      simp only [e, Bool.false_eq_true, if_false]
      cases l.idxOf? z with
      | none => rfl
      | some j => simp; omega
theorem o_idxSL {z : Str} {l : List Str} {k : Nat} (h : l.idxOf? z = some k) : op2M .index (.lst (l.map D.str)) (.im (.str z)) = some (.im (.int (k : Int))) := by
  have e : lstM (.lst (l.map D.str)) = some (l.map D.str) := rfl
  simp only [op2M, e]
  rw [if_pos ⟨rfl, flat_strs l⟩, find_str, h]
  rfl
theorem o_idxSK {z : Str} {l : List Str} {k : Nat} (h : l.idxOf? z = some k) : op2M .index (.im (.kt (l.map D.str))) (.im (.str z)) = some (.im (.int (k : Int))) := by
  have e : lstM (.im (.kt (l.map D.str))) = none := rfl
  simp only [op2M, e, strsOf_map, Option.bind_some, h, Option.map_some]
theorem idx_nd {l : List Str} {k : Nat} {z : Str} (nd : l.Nodup) (h : l[k]? = some z) : l.idxOf? z = some k := by
  induction l generalizing k with
  | nil => simp at h
  | cons s l ih =>
    rw [List.nodup_cons] at nd
    rw [List.idxOf?_cons]
    cases k with
    | zero =>
      simp at h
      subst h
      simp
    | succ k =>
      simp at h
      have : (s == z) = false := by
        have : s ≠ z := fun e => nd.1 (e ▸ List.mem_of_getElem? h)
        simpa using this
      rw [this, ih nd.2 h]
      rfl
theorem idx_mem {l : List Str} {z : Str} (h : z ∈ l) : ∃ k, l.idxOf? z = some k ∧ k < l.length := by
  induction l with
  | nil => cases h
  | cons s l ih =>
    rw [List.idxOf?_cons]
    by_cases e : (s == z) = true
    · exact ⟨0, by rw [if_pos e], by simp⟩
    · have hm : z ∈ l := by
        rcases List.mem_cons.mp h with rfl | h
        · simp at e
        · exact h
      obtain ⟨k, hk, hl⟩ := ih hm
      exact ⟨k + 1, by rw [if_neg e, hk]; rfl, by simp; omega⟩
/-! ### a comprehension over what is known -/
theorem lc_fm {α : Type} {J : Env → Prop} {bind : D → Env → Option Env} {tt : TB} {te : TE} {own : List Nat} {E : QX} {Q : QM} {σ0 : Env} (F g : α → D) (p : α → Bool) (h0 : unsetAll σ0 own = σ0) (hJ : J σ0) : ∀ (xs : List α),
    (∀ x ∈ xs, ∀ (Kt : M → Env → Prop) (Kf : Env → Prop), (p x = true → Kt (.im (g x)) σ0) → (p x = false → Kf σ0) → bindO (bind (F x) σ0) fun σ1 => tt σ1 (fun b σ2 => if b = true then te σ2 (fun m σ3 => Kt m (unsetAll σ3 own)) E else Kf (unsetAll σ2 own)) E) →
    ∀ (acc : List D), acc.length + xs.length < 16777216 → Q (.lst (acc ++ (xs.filter p).map g)) σ0 → lcR J bind tt te own E (xs.map F) (acc.map .im) σ0 Q
  | [], _, acc, _, q => by
    show Q (mkL (acc.map .im)) σ0
    rw [mkL_im]
    simpa using q
  | x :: xs, hs, acc, hl, q => by
    rw [List.map_cons, lc_cons, h0]
    refine hs x (by simp) (fun m σ => (acc.map M.im).length < sizeLine ∧ J σ ∧ lcR J bind tt te own E (xs.map F) (acc.map .im ++ [m]) σ Q) (fun σ => J σ ∧ lcR J bind tt te own E (xs.map F) (acc.map .im) σ Q) (fun hp => ?_) fun hp => ?_
    · refine ⟨szl (by simp at hl ⊢; omega), hJ, ?_⟩
      have := lc_fm F g p h0 hJ xs (fun y hy => hs y (by simp [hy])) (acc ++ [g x]) (by simp at hl ⊢; omega) (by simpa [hp] using q)
      simpa using this
    · exact ⟨hJ, lc_fm F g p h0 hJ xs (fun y hy => hs y (by simp [hy])) acc (by simp at hl ⊢; omega) (by simpa [hp] using q)⟩
theorem lc_map {α : Type} {J : Env → Prop} {bind : D → Env → Option Env} {te : TE} {own : List Nat} {E : QX} {Q : QM} {σ0 : Env} {G : Glob} {Γ : Nat → Sp} (F g : α → D) (h0 : unsetAll σ0 own = σ0) (hJ : J σ0) (xs : List α)
    (hs : ∀ x ∈ xs, ∀ (K : M → Env → Prop), K (.im (g x)) σ0 → bindO (bind (F x) σ0) fun σ1 => te σ1 (fun m σ3 => K m (unsetAll σ3 own)) E) (hl : xs.length < 16777216) (q : Q (.lst (xs.map g)) σ0) : lcR J bind (evTs G Γ .nil) te own E (xs.map F) [] σ0 Q := by
  refine lc_fm F g (fun _ => true) h0 hJ xs (fun x hx Kt Kf k1 _ => ?_) [] (by simpa using hl) (by rw [List.filter_eq_self.mpr (fun _ _ => rfl)]; exact q)
  have := hs x hx Kt (k1 rfl)
  unfold bindO at this ⊢
  split at this
  · simpa only [evTs, if_true] using this
  · exact this
end CP
namespace K10
open PySem PySem.Spec PyProof.Rows L2 CP
abbrev PR : Program := PySem.Challenge.pw_echoesend_k10_nets_looked_at
def top (i : Nat) : Stmt := PR.main.body.getD i (.Pass ⟨0, 0, 0, 0⟩)
def G : Glob := ⟨[],
  [("EchoError", ["EchoError"]), ("DataError", ["DataError", "EchoError"]), ("CallError", ["CallError", "EchoError"]), ("BadStep", ["BadStep", "CallError", "EchoError"])],
  [("BadStep", ["word"])]⟩
theorem sub_EchoError : kget G.sub "EchoError" = some (["EchoError"] : List Str) := by decide +kernel
theorem sub_DataError : kget G.sub "DataError" = some (["DataError", "EchoError"] : List Str) := by decide +kernel
theorem sub_CallError : kget G.sub "CallError" = some (["CallError", "EchoError"] : List Str) := by decide +kernel
theorem sub_BadStep : kget G.sub "BadStep" = some (["BadStep", "CallError", "EchoError"] : List Str) := by decide +kernel
theorem fl_BadStep : kget G.flds "BadStep" = some (["word"] : List Str) := by decide +kernel
/-- 0: signal_count(net) -/
abbrev n0 : List Str := ["net"]
abbrev p0 : List Str := ["net"]
abbrev A0 : List Nat := []
abbrev q0 : CSs := (.cons (.ret (.op2 .add (.op1 .len (.p (.idx (.var 0) (.int 0)))) (.op1 .len (.p (.idx (.var 0) (.int 1)))))) .nil)
abbrev b0 : CSs := (.cons (.ret (.op2 .add (.op1 .len (.p (.idx (.var 0) (.int 0)))) (.op1 .len (.p (.idx (.var 0) (.int 1)))))) .nil)
theorem e0 : b0 = q0 := rfl
abbrev s0 : Stmt := top 6
theorem sc0 : FnScope n0 p0 (defScope s0) := ⟨rfl, rfl, rfl, by decide +kernel, rfl, by decide +kernel, by decide +kernel⟩
/-- 1: spans_of(net) -/
abbrev n1 : List Str := ["net", "spans", "_", "terms", "signal", "ago"]
abbrev p1 : List Str := ["net"]
abbrev A1 : List Nat := [1, 2, 3, 4, 5]
def t1_1 : T := (.tup [(.v 2), (.v 3)])
def t1_2 : T := (.tup [(.v 4), (.v 5), (.v 2)])
def l1_1 : CSs := (.cons (.sub (.var 1) (.v 4) (.op2 .max (.p (.idx (.var 1) (.var 4))) (.v 5))) .nil)
def l1_2 : CSs := (.cons (.for t1_2 (.seq (.v 3)) l1_1) .nil)
abbrev q1 : CSs := (.cons (.asg (.v 1) (.op2 .mul (.lst (.cons (.p (.int 0)) .nil)) (.call 0 (.cons (.v 0) .nil)))) (.cons (.for (.tup [(.v 2), (.v 3)]) (.seq (.p (.idx (.var 0) (.int 1)))) (.cons (.for (.tup [(.v 4), (.v 5), (.v 2)]) (.seq (.v 3)) (.cons (.sub (.var 1) (.v 4) (.op2 .max (.p (.idx (.var 1) (.var 4))) (.v 5))) .nil)) .nil)) (.cons (.ret (.op1 .tuple (.v 1))) .nil)))
abbrev b1 : CSs := (.cons (.asg (.v 1) (.op2 .mul (.lst (.cons (.p (.int 0)) .nil)) (.call 0 (.cons (.v 0) .nil)))) (.cons (.for t1_1 (.seq (.p (.idx (.var 0) (.int 1)))) l1_2) (.cons (.ret (.op1 .tuple (.v 1))) .nil)))
theorem e1 : b1 = q1 := rfl
abbrev s1 : Stmt := top 7
theorem sc1 : FnScope n1 p1 (defScope s1) := ⟨rfl, rfl, rfl, by decide +kernel, rfl, by decide +kernel, by decide +kernel⟩
/-- 2: cell_number(net) -/
abbrev n2 : List Str := ["net"]
abbrev p2 : List Str := ["net"]
abbrev A2 : List Nat := []
abbrev q2 : CSs := (.cons (.ret (.op1 .sum (.call 1 (.cons (.v 0) .nil)))) .nil)
abbrev b2 : CSs := (.cons (.ret (.op1 .sum (.call 1 (.cons (.v 0) .nil)))) .nil)
theorem e2 : b2 = q2 := rfl
abbrev s2 : Stmt := top 8
theorem sc2 : FnScope n2 p2 (defScope s2) := ⟨rfl, rfl, rfl, by decide +kernel, rfl, by decide +kernel, by decide +kernel⟩
/-- 3: signal_names(net) -/
abbrev n3 : List Str := ["net", "part"]
abbrev p3 : List Str := ["net"]
abbrev A3 : List Nat := []
def e3_1 : CE := (.p (.idx (.var 1) (.int 0)))
def t3_1 : T := (.v 1)
def f3_1 : CTs := .nil
abbrev q3 : CSs := (.cons (.ret (.op1 .tuplek (.lc (.p (.idx (.var 1) (.int 0))) (.v 1) (.seq (.op2 .add (.p (.idx (.var 0) (.int 0))) (.p (.idx (.var 0) (.int 1))))) .nil [1]))) .nil)
abbrev b3 : CSs := (.cons (.ret (.op1 .tuplek (.lc e3_1 t3_1 (.seq (.op2 .add (.p (.idx (.var 0) (.int 0))) (.p (.idx (.var 0) (.int 1))))) f3_1 [1]))) .nil)
theorem e3 : b3 = q3 := rfl
abbrev s3 : Stmt := top 9
theorem sc3 : FnScope n3 p3 (defScope s3) := ⟨rfl, rfl, rfl, by decide +kernel, rfl, by decide +kernel, by decide +kernel⟩
/-- 4: number_or_raise(many, number, word) -/
abbrev n4 : List Str := ["many", "number", "word"]
abbrev p4 : List Str := ["many", "number", "word"]
abbrev A4 : List Nat := []
abbrev q4 : CSs := (.cons (.ife (.not (.c (.chain .le .lt (.p (.int 0)) (.v 1) (.v 0)))) (.cons (.rai "BadStep" (.cons (.v 2) .nil)) .nil) .nil) .nil)
abbrev b4 : CSs := (.cons (.ife (.not (.c (.chain .le .lt (.p (.int 0)) (.v 1) (.v 0)))) (.cons (.rai "BadStep" (.cons (.v 2) .nil)) .nil) .nil) .nil)
theorem e4 : b4 = q4 := rfl
abbrev s4 : Stmt := top 10
theorem sc4 : FnScope n4 p4 (defScope s4) := ⟨rfl, rfl, rfl, by decide +kernel, rfl, by decide +kernel, by decide +kernel⟩
/-- 5: signal_or_raise(net, signal) -/
abbrev n5 : List Str := ["net", "signal"]
abbrev p5 : List Str := ["net", "signal"]
abbrev A5 : List Nat := []
abbrev q5 : CSs := (.cons (.exp (.call 4 (.cons (.call 0 (.cons (.v 0) .nil)) (.cons (.v 1) (.cons (.p (.str "signal")) .nil))))) .nil)
abbrev b5 : CSs := (.cons (.exp (.call 4 (.cons (.call 0 (.cons (.v 0) .nil)) (.cons (.v 1) (.cons (.p (.str "signal")) .nil))))) .nil)
theorem e5 : b5 = q5 := rfl
abbrev s5 : Stmt := top 11
theorem sc5 : FnScope n5 p5 (defScope s5) := ⟨rfl, rfl, rfl, by decide +kernel, rfl, by decide +kernel, by decide +kernel⟩
/-- 6: signal_number(net, name) -/
abbrev n6 : List Str := ["net", "name", "names"]
abbrev p6 : List Str := ["net", "name"]
abbrev A6 : List Nat := [2]
abbrev q6 : CSs := (.cons (.asg (.v 2) (.call 3 (.cons (.v 0) .nil))) (.cons (.ife (.c (.op2 .nin (.v 1) (.v 2))) (.cons (.rai "BadStep" (.cons (.p (.str "signal")) .nil)) .nil) .nil) (.cons (.ret (.op2 .index (.v 2) (.v 1))) .nil)))
abbrev b6 : CSs := (.cons (.asg (.v 2) (.call 3 (.cons (.v 0) .nil))) (.cons (.ife (.c (.op2 .nin (.v 1) (.v 2))) (.cons (.rai "BadStep" (.cons (.p (.str "signal")) .nil)) .nil) .nil) (.cons (.ret (.op2 .index (.v 2) (.v 1))) .nil)))
theorem e6 : b6 = q6 := rfl
abbrev s6 : Stmt := top 12
theorem sc6 : FnScope n6 p6 (defScope s6) := ⟨rfl, rfl, rfl, by decide +kernel, rfl, by decide +kernel, by decide +kernel⟩
/-- 7: users_of(net, signal) -/
abbrev n7 : List Str := ["net", "signal", "s", "_", "terms", "term"]
abbrev p7 : List Str := ["net", "signal"]
abbrev A7 : List Nat := []
def e7_1 : CE := (.v 2)
def t7_1 : T := (.tup [(.v 2), (.tup [(.v 3), (.v 4)])])
def e7_2 : CE := (.p (.idx (.var 5) (.int 0)))
def t7_2 : T := (.v 5)
def f7_1 : CTs := .nil
def f7_2 : CTs := (.cons (.c (.op2 .inn (.v 1) (.lc e7_2 t7_2 (.seq (.v 4)) f7_1 [5]))) .nil)
abbrev q7 : CSs := (.cons (.exp (.call 5 (.cons (.v 0) (.cons (.v 1) .nil)))) (.cons (.ret (.op1 .tuple (.lc (.v 2) (.tup [(.v 2), (.tup [(.v 3), (.v 4)])]) (.enum (.p (.idx (.var 0) (.int 1)))) (.cons (.c (.op2 .inn (.v 1) (.lc (.p (.idx (.var 5) (.int 0))) (.v 5) (.seq (.v 4)) .nil [5]))) .nil) [2, 3, 4]))) .nil))
abbrev b7 : CSs := (.cons (.exp (.call 5 (.cons (.v 0) (.cons (.v 1) .nil)))) (.cons (.ret (.op1 .tuple (.lc e7_1 t7_1 (.enum (.p (.idx (.var 0) (.int 1)))) f7_2 [2, 3, 4]))) .nil))
theorem e7 : b7 = q7 := rfl
abbrev s7 : Stmt := top 13
theorem sc7 : FnScope n7 p7 (defScope s7) := ⟨rfl, rfl, rfl, by decide +kernel, rfl, by decide +kernel, by decide +kernel⟩
/-- 8: _law_urn(script) -/
abbrev n8 : List Str := ["script", "level", "great", "at", "cell", "lap"]
abbrev p8 : List Str := ["script"]
abbrev A8 : List Nat := [1, 2, 3, 4, 5]
def t8_1 : T := (.v 3)
def t8_2 : T := (.v 5)
def l8_1 : CSs := (.cons (.ife (.c (.op2 .eq (.v 4) (.p (.int 0)))) (.cons .brk .nil) .nil) (.cons (.exp (.mth1 .append (.var 2) (.op2 .mod (.v 4) (.p (.int 997))))) (.cons (.asg (.v 4) (.op2 .fdiv (.v 4) (.p (.int 997)))) .nil)))
def l8_2 : CSs := (.cons (.asg (.v 4) (.op1 .abs (.op1 .int (.p (.idx (.var 0) (.var 3)))))) (.cons (.asg (.v 1) (.op2 .mod (.op1 .int (.op2 .add (.op2 .add (.op2 .add (.op2 .mul (.v 1) (.p (.int 3559))) (.op2 .mod (.v 4) (.p (.int 1000000207)))) (.op2 .mul (.p (.int 67)) (.v 3))) (.p (.int 13)))) (.p (.int 2147483353)))) (.cons (.ife (.and (.c (.op2 .ge (.v 4) (.op2 .pow (.p (.int 10)) (.p (.int 18))))) (.c (.op2 .lt (.op1 .len (.v 2)) (.p (.int 400))))) (.cons (.for t8_2 (.rng1 (.p (.int 200))) l8_1) .nil) .nil) .nil)))
abbrev q8 : CSs := (.cons (.asg (.v 1) (.p (.int 828282))) (.cons (.asg (.v 2) (.lst .nil)) (.cons (.for (.v 3) (.rng1 (.op2 .min (.op1 .len (.v 0)) (.p (.int 60)))) (.cons (.asg (.v 4) (.op1 .abs (.op1 .int (.p (.idx (.var 0) (.var 3)))))) (.cons (.asg (.v 1) (.op2 .mod (.op1 .int (.op2 .add (.op2 .add (.op2 .add (.op2 .mul (.v 1) (.p (.int 3559))) (.op2 .mod (.v 4) (.p (.int 1000000207)))) (.op2 .mul (.p (.int 67)) (.v 3))) (.p (.int 13)))) (.p (.int 2147483353)))) (.cons (.ife (.and (.c (.op2 .ge (.v 4) (.op2 .pow (.p (.int 10)) (.p (.int 18))))) (.c (.op2 .lt (.op1 .len (.v 2)) (.p (.int 400))))) (.cons (.for (.v 5) (.rng1 (.p (.int 200))) (.cons (.ife (.c (.op2 .eq (.v 4) (.p (.int 0)))) (.cons .brk .nil) .nil) (.cons (.exp (.mth1 .append (.var 2) (.op2 .mod (.v 4) (.p (.int 997))))) (.cons (.asg (.v 4) (.op2 .fdiv (.v 4) (.p (.int 997)))) .nil)))) .nil) .nil) .nil)))) (.cons (.ret (.lst (.cons (.v 1) (.cons (.p (.int 0)) (.cons (.v 2) .nil))))) .nil))))
abbrev b8 : CSs := (.cons (.asg (.v 1) (.p (.int 828282))) (.cons (.asg (.v 2) (.lst .nil)) (.cons (.for t8_1 (.rng1 (.op2 .min (.op1 .len (.v 0)) (.p (.int 60)))) l8_2) (.cons (.ret (.lst (.cons (.v 1) (.cons (.p (.int 0)) (.cons (.v 2) .nil))))) .nil))))
theorem e8 : b8 = q8 := rfl
abbrev s8 : Stmt := top 15
theorem sc8 : FnScope n8 p8 (defScope s8) := ⟨rfl, rfl, rfl, by decide +kernel, rfl, by decide +kernel, by decide +kernel⟩
/-- 9: _law_sip(urn, size) -/
abbrev n9 : List Str := ["urn", "size", "at"]
abbrev p9 : List Str := ["urn", "size"]
abbrev A9 : List Nat := [2]
abbrev q9 : CSs := (.cons (.asg (.v 2) (.p (.idx (.var 0) (.int 1)))) (.cons (.sub (.var 0) (.p (.int 1)) (.op2 .add (.v 2) (.p (.int 1)))) (.cons (.ife (.c (.op2 .lt (.v 2) (.op1 .len (.p (.idx (.var 0) (.int 2)))))) (.cons (.ret (.op2 .mod (.op1 .int (.p (.idx (.idx (.var 0) (.int 2)) (.var 2)))) (.v 1))) .nil) .nil) (.cons (.sub (.var 0) (.p (.int 0)) (.op2 .mod (.op1 .int (.op2 .add (.op2 .add (.op2 .mul (.p (.idx (.var 0) (.int 0))) (.p (.int 5347))) (.op2 .mul (.v 2) (.p (.int 617)))) (.p (.int 39)))) (.p (.int 2147483353)))) (.cons (.ret (.op2 .mod (.op2 .fdiv (.p (.idx (.var 0) (.int 0))) (.p (.int 73))) (.v 1))) .nil)))))
abbrev b9 : CSs := (.cons (.asg (.v 2) (.p (.idx (.var 0) (.int 1)))) (.cons (.sub (.var 0) (.p (.int 1)) (.op2 .add (.v 2) (.p (.int 1)))) (.cons (.ife (.c (.op2 .lt (.v 2) (.op1 .len (.p (.idx (.var 0) (.int 2)))))) (.cons (.ret (.op2 .mod (.op1 .int (.p (.idx (.idx (.var 0) (.int 2)) (.var 2)))) (.v 1))) .nil) .nil) (.cons (.sub (.var 0) (.p (.int 0)) (.op2 .mod (.op1 .int (.op2 .add (.op2 .add (.op2 .mul (.p (.idx (.var 0) (.int 0))) (.p (.int 5347))) (.op2 .mul (.v 2) (.p (.int 617)))) (.p (.int 39)))) (.p (.int 2147483353)))) (.cons (.ret (.op2 .mod (.op2 .fdiv (.p (.idx (.var 0) (.int 0))) (.p (.int 73))) (.v 1))) .nil)))))
theorem e9 : b9 = q9 := rfl
abbrev s9 : Stmt := top 16
theorem sc9 : FnScope n9 p9 (defScope s9) := ⟨rfl, rfl, rfl, by decide +kernel, rfl, by decide +kernel, by decide +kernel⟩
/-- 10: _law_names(urn, many, behind) -/
abbrev n10 : List Str := ["urn", "many", "behind", "pool", "start", "k"]
abbrev p10 : List Str := ["urn", "many", "behind"]
abbrev A10 : List Nat := [3, 4]
def e10_1 : CE := (.op2 .add (.op2 .idx (.v 3) (.op2 .mod (.op2 .add (.v 4) (.op2 .mul (.p (.int 5)) (.v 5))) (.p (.int 24)))) (.v 2))
def t10_1 : T := (.v 5)
def f10_1 : CTs := .nil
abbrev q10 : CSs := (.cons (.asg (.v 3) (.lst (.cons (.p (.str "x")) (.cons (.p (.str "x1")) (.cons (.p (.str "y")) (.cons (.p (.str "y12")) (.cons (.p (.str "ab")) (.cons (.p (.str "abc")) (.cons (.p (.str "abcdefg")) (.cons (.p (.str "tap")) (.cons (.p (.str "of1")) (.cons (.p (.str "z")) (.cons (.p (.str "a0")) (.cons (.p (.str "inputs")) (.cons (.p (.str "ends")) (.cons (.p (.str "k")) (.cons (.p (.str "streams")) (.cons (.p (.str "u")) (.cons (.p (.str "w9")) (.cons (.p (.str "adds")) .nil)))))))))))))))))))) (.cons (.asg (.v 3) (.op2 .add (.v 3) (.lst (.cons (.p (.str "n")) (.cons (.p (.str "m2")) (.cons (.p (.str "t")) (.cons (.p (.str "froms")) (.cons (.p (.str "b")) (.cons (.p (.str "c3")) .nil))))))))) (.cons (.asg (.v 4) (.call 9 (.cons (.v 0) (.cons (.p (.int 24)) .nil)))) (.cons (.ret (.lc (.op2 .add (.op2 .idx (.v 3) (.op2 .mod (.op2 .add (.v 4) (.op2 .mul (.p (.int 5)) (.v 5))) (.p (.int 24)))) (.v 2)) (.v 5) (.rng1 (.v 1)) .nil [5])) .nil))))
abbrev b10 : CSs := (.cons (.asg (.v 3) (.lst (.cons (.p (.str "x")) (.cons (.p (.str "x1")) (.cons (.p (.str "y")) (.cons (.p (.str "y12")) (.cons (.p (.str "ab")) (.cons (.p (.str "abc")) (.cons (.p (.str "abcdefg")) (.cons (.p (.str "tap")) (.cons (.p (.str "of1")) (.cons (.p (.str "z")) (.cons (.p (.str "a0")) (.cons (.p (.str "inputs")) (.cons (.p (.str "ends")) (.cons (.p (.str "k")) (.cons (.p (.str "streams")) (.cons (.p (.str "u")) (.cons (.p (.str "w9")) (.cons (.p (.str "adds")) .nil)))))))))))))))))))) (.cons (.asg (.v 3) (.op2 .add (.v 3) (.lst (.cons (.p (.str "n")) (.cons (.p (.str "m2")) (.cons (.p (.str "t")) (.cons (.p (.str "froms")) (.cons (.p (.str "b")) (.cons (.p (.str "c3")) .nil))))))))) (.cons (.asg (.v 4) (.call 9 (.cons (.v 0) (.cons (.p (.int 24)) .nil)))) (.cons (.ret (.lc e10_1 t10_1 (.rng1 (.v 1)) f10_1 [5])) .nil))))
theorem e10 : b10 = q10 := rfl
abbrev s10 : Stmt := top 17
theorem sc10 : FnScope n10 p10 (defScope s10) := ⟨rfl, rfl, rfl, by decide +kernel, rfl, by decide +kernel, by decide +kernel⟩
/-- 11: _law_gain(urn) -/
abbrev n11 : List Str := ["urn", "habit"]
abbrev p11 : List Str := ["urn"]
abbrev A11 : List Nat := [1]
abbrev q11 : CSs := (.cons (.asg (.v 1) (.call 9 (.cons (.v 0) (.cons (.p (.int 8)) .nil)))) (.cons (.ife (.c (.op2 .lt (.v 1) (.p (.int 6)))) (.cons (.ret (.op2 .idx (.lst (.cons (.p (.int 1)) (.cons (.op1 .neg (.p (.int 1))) (.cons (.p (.int 2)) (.cons (.op1 .neg (.p (.int 2))) (.cons (.p (.int 3)) (.cons (.p (.int 1)) .nil))))))) (.v 1))) .nil) .nil) (.cons (.ret (.ife (.c (.op2 .eq (.v 1) (.p (.int 6)))) (.op2 .idx (.lst (.cons (.p (.int 99)) (.cons (.op1 .neg (.p (.int 99))) (.cons (.p (.int 10)) (.cons (.op1 .neg (.p (.int 7))) .nil))))) (.call 9 (.cons (.v 0) (.cons (.p (.int 4)) .nil)))) (.op2 .add (.p (.int 1)) (.call 9 (.cons (.v 0) (.cons (.p (.int 4)) .nil)))))) .nil)))
abbrev b11 : CSs := (.cons (.asg (.v 1) (.call 9 (.cons (.v 0) (.cons (.p (.int 8)) .nil)))) (.cons (.ife (.c (.op2 .lt (.v 1) (.p (.int 6)))) (.cons (.ret (.op2 .idx (.lst (.cons (.p (.int 1)) (.cons (.op1 .neg (.p (.int 1))) (.cons (.p (.int 2)) (.cons (.op1 .neg (.p (.int 2))) (.cons (.p (.int 3)) (.cons (.p (.int 1)) .nil))))))) (.v 1))) .nil) .nil) (.cons (.ret (.ife (.c (.op2 .eq (.v 1) (.p (.int 6)))) (.op2 .idx (.lst (.cons (.p (.int 99)) (.cons (.op1 .neg (.p (.int 99))) (.cons (.p (.int 10)) (.cons (.op1 .neg (.p (.int 7))) .nil))))) (.call 9 (.cons (.v 0) (.cons (.p (.int 4)) .nil)))) (.op2 .add (.p (.int 1)) (.call 9 (.cons (.v 0) (.cons (.p (.int 4)) .nil)))))) .nil)))
theorem e11 : b11 = q11 := rfl
abbrev s11 : Stmt := top 18
theorem sc11 : FnScope n11 p11 (defScope s11) := ⟨rfl, rfl, rfl, by decide +kernel, rfl, by decide +kernel, by decide +kernel⟩
/-- 12: _law_range(urn) -/
abbrev n12 : List Str := ["urn", "low", "high"]
abbrev p12 : List Str := ["urn"]
abbrev A12 : List Nat := [1, 2]
abbrev q12 : CSs := (.cons (.asg (.tup [(.v 1), (.v 2)]) (.op2 .idx (.lst (.cons (.tup (.cons (.op1 .neg (.p (.int 4))) (.cons (.p (.int 9)) .nil))) (.cons (.tup (.cons (.p (.int 0)) (.cons (.p (.int 1)) .nil))) (.cons (.tup (.cons (.p (.int 0)) (.cons (.p (.int 3)) .nil))) (.cons (.tup (.cons (.op1 .neg (.p (.int 9999))) (.cons (.p (.int 9999)) .nil))) (.cons (.tup (.cons (.p (.int 5)) (.cons (.p (.int 7)) .nil))) (.cons (.tup (.cons (.op1 .neg (.p (.int 3))) (.cons (.op1 .neg (.p (.int 1))) .nil))) .nil))))))) (.call 9 (.cons (.v 0) (.cons (.p (.int 6)) .nil))))) (.cons (.ret (.tup (.cons (.v 1) (.cons (.op2 .add (.v 2) (.op2 .mul (.call 9 (.cons (.v 0) (.cons (.p (.int 3)) .nil))) (.op2 .lt (.v 2) (.p (.int 9990))))) .nil)))) .nil))
abbrev b12 : CSs := (.cons (.asg (.tup [(.v 1), (.v 2)]) (.op2 .idx (.lst (.cons (.tup (.cons (.op1 .neg (.p (.int 4))) (.cons (.p (.int 9)) .nil))) (.cons (.tup (.cons (.p (.int 0)) (.cons (.p (.int 1)) .nil))) (.cons (.tup (.cons (.p (.int 0)) (.cons (.p (.int 3)) .nil))) (.cons (.tup (.cons (.op1 .neg (.p (.int 9999))) (.cons (.p (.int 9999)) .nil))) (.cons (.tup (.cons (.p (.int 5)) (.cons (.p (.int 7)) .nil))) (.cons (.tup (.cons (.op1 .neg (.p (.int 3))) (.cons (.op1 .neg (.p (.int 1))) .nil))) .nil))))))) (.call 9 (.cons (.v 0) (.cons (.p (.int 6)) .nil))))) (.cons (.ret (.tup (.cons (.v 1) (.cons (.op2 .add (.v 2) (.op2 .mul (.call 9 (.cons (.v 0) (.cons (.p (.int 3)) .nil))) (.op2 .lt (.v 2) (.p (.int 9990))))) .nil)))) .nil))
theorem e12 : b12 = q12 := rfl
abbrev s12 : Stmt := top 19
theorem sc12 : FnScope n12 p12 (defScope s12) := ⟨rfl, rfl, rfl, by decide +kernel, rfl, by decide +kernel, by decide +kernel⟩
/-- 13: _law_terms(urn, total, own, most, deep) -/
abbrev n13 : List Str := ["urn", "total", "own", "most", "deep", "found", "lap", "signal", "ago"]
abbrev p13 : List Str := ["urn", "total", "own", "most", "deep"]
abbrev A13 : List Nat := [5, 6, 7, 8]
def e13_1 : CE := (.tup (.cons (.v 7) (.cons (.v 8) (.cons (.op2 .idx (.v 5) (.tup (.cons (.v 7) (.cons (.v 8) .nil)))) .nil))))
def t13_1 : T := (.tup [(.v 7), (.v 8)])
def f13_1 : CTs := .nil
def t13_2 : T := (.v 6)
def l13_1 : CSs := (.cons (.asg (.v 7) (.call 9 (.cons (.v 0) (.cons (.v 1) .nil)))) (.cons (.asg (.v 8) (.call 9 (.cons (.v 0) (.cons (.op2 .add (.v 4) (.p (.int 1))) .nil)))) (.cons (.ife (.and (.c (.op2 .eq (.v 8) (.p (.int 0)))) (.c (.op2 .ge (.v 7) (.v 2)))) (.cons (.asg (.v 7) (.call 9 (.cons (.v 0) (.cons (.v 2) .nil)))) .nil) .nil) (.cons (.sub (.var 5) (.tup (.cons (.v 7) (.cons (.v 8) .nil))) (.call 11 (.cons (.v 0) .nil))) .nil))))
abbrev q13 : CSs := (.cons (.asg (.v 5) (.dnew true)) (.cons (.for (.v 6) (.rng1 (.call 9 (.cons (.v 0) (.cons (.op2 .add (.v 3) (.p (.int 1))) .nil)))) (.cons (.asg (.v 7) (.call 9 (.cons (.v 0) (.cons (.v 1) .nil)))) (.cons (.asg (.v 8) (.call 9 (.cons (.v 0) (.cons (.op2 .add (.v 4) (.p (.int 1))) .nil)))) (.cons (.ife (.and (.c (.op2 .eq (.v 8) (.p (.int 0)))) (.c (.op2 .ge (.v 7) (.v 2)))) (.cons (.asg (.v 7) (.call 9 (.cons (.v 0) (.cons (.v 2) .nil)))) .nil) .nil) (.cons (.sub (.var 5) (.tup (.cons (.v 7) (.cons (.v 8) .nil))) (.call 11 (.cons (.v 0) .nil))) .nil))))) (.cons (.ret (.op1 .tuple (.lc (.tup (.cons (.v 7) (.cons (.v 8) (.cons (.op2 .idx (.v 5) (.tup (.cons (.v 7) (.cons (.v 8) .nil)))) .nil)))) (.tup [(.v 7), (.v 8)]) (.seq (.srt (.op1 .tkeys (.v 5)))) .nil [7, 8]))) .nil)))
abbrev b13 : CSs := (.cons (.asg (.v 5) (.dnew true)) (.cons (.for t13_2 (.rng1 (.call 9 (.cons (.v 0) (.cons (.op2 .add (.v 3) (.p (.int 1))) .nil)))) l13_1) (.cons (.ret (.op1 .tuple (.lc e13_1 t13_1 (.seq (.srt (.op1 .tkeys (.v 5)))) f13_1 [7, 8]))) .nil)))
theorem e13 : b13 = q13 := rfl
abbrev s13 : Stmt := top 20
theorem sc13 : FnScope n13 p13 (defScope s13) := ⟨rfl, rfl, rfl, by decide +kernel, rfl, by decide +kernel, by decide +kernel⟩
/-- 14: _law_net(urn, many, streams, deep, behind) -/
abbrev n14 : List Str := ["urn", "many", "streams", "deep", "behind", "names", "inputs", "k", "low", "high", "told", "s"]
abbrev p14 : List Str := ["urn", "many", "streams", "deep", "behind"]
abbrev A14 : List Nat := [5, 6, 7, 8, 9, 10, 11]
def t14_1 : T := (.v 11)
def l14_1 : CSs := (.cons (.exp (.mth1 .append (.var 10) (.tup (.cons (.p (.idx (.var 5) (.add (.var 1) (.var 11)))) (.cons (.call 13 (.cons (.v 0) (.cons (.op2 .add (.v 1) (.v 2)) (.cons (.op2 .add (.v 1) (.v 11)) (.cons (.p (.int 4)) (.cons (.v 3) .nil)))))) .nil))))) .nil)
def t14_2 : T := (.v 7)
def l14_2 : CSs := (.cons (.asg (.tup [(.v 8), (.v 9)]) (.call 12 (.cons (.v 0) .nil))) (.cons (.exp (.mth1 .append (.var 6) (.tup (.cons (.p (.idx (.var 5) (.var 7))) (.cons (.v 8) (.cons (.v 9) .nil)))))) .nil))
abbrev q14 : CSs := (.cons (.asg (.v 5) (.call 10 (.cons (.v 0) (.cons (.op2 .add (.v 1) (.v 2)) (.cons (.v 4) .nil))))) (.cons (.asg (.v 6) (.lst .nil)) (.cons (.for (.v 7) (.rng1 (.v 1)) (.cons (.asg (.tup [(.v 8), (.v 9)]) (.call 12 (.cons (.v 0) .nil))) (.cons (.exp (.mth1 .append (.var 6) (.tup (.cons (.p (.idx (.var 5) (.var 7))) (.cons (.v 8) (.cons (.v 9) .nil)))))) .nil))) (.cons (.asg (.v 10) (.lst .nil)) (.cons (.for (.v 11) (.rng1 (.v 2)) (.cons (.exp (.mth1 .append (.var 10) (.tup (.cons (.p (.idx (.var 5) (.add (.var 1) (.var 11)))) (.cons (.call 13 (.cons (.v 0) (.cons (.op2 .add (.v 1) (.v 2)) (.cons (.op2 .add (.v 1) (.v 11)) (.cons (.p (.int 4)) (.cons (.v 3) .nil)))))) .nil))))) .nil)) (.cons (.ret (.tup (.cons (.op1 .tuple (.v 6)) (.cons (.op1 .tuple (.v 10)) .nil)))) .nil))))))
abbrev b14 : CSs := (.cons (.asg (.v 5) (.call 10 (.cons (.v 0) (.cons (.op2 .add (.v 1) (.v 2)) (.cons (.v 4) .nil))))) (.cons (.asg (.v 6) (.lst .nil)) (.cons (.for t14_2 (.rng1 (.v 1)) l14_2) (.cons (.asg (.v 10) (.lst .nil)) (.cons (.for t14_1 (.rng1 (.v 2)) l14_1) (.cons (.ret (.tup (.cons (.op1 .tuple (.v 6)) (.cons (.op1 .tuple (.v 10)) .nil)))) .nil))))))
theorem e14 : b14 = q14 := rfl
abbrev s14 : Stmt := top 21
theorem sc14 : FnScope n14 p14 (defScope s14) := ⟨rfl, rfl, rfl, by decide +kernel, rfl, by decide +kernel, by decide +kernel⟩
/-- 15: _law_spans(net) -/
abbrev n15 : List Str := ["net", "spans", "name", "terms", "signal", "ago", "gain"]
abbrev p15 : List Str := ["net"]
abbrev A15 : List Nat := [1, 2, 3, 4, 5, 6]
def t15_1 : T := (.tup [(.v 2), (.v 3)])
def t15_2 : T := (.tup [(.v 4), (.v 5), (.v 6)])
def l15_1 : CSs := (.cons (.sub (.var 1) (.v 4) (.op2 .max (.p (.idx (.var 1) (.var 4))) (.v 5))) .nil)
def l15_2 : CSs := (.cons (.for t15_2 (.seq (.v 3)) l15_1) .nil)
abbrev q15 : CSs := (.cons (.asg (.v 1) (.op2 .mul (.lst (.cons (.p (.int 0)) .nil)) (.op2 .add (.op1 .len (.p (.idx (.var 0) (.int 0)))) (.op1 .len (.p (.idx (.var 0) (.int 1))))))) (.cons (.for (.tup [(.v 2), (.v 3)]) (.seq (.p (.idx (.var 0) (.int 1)))) (.cons (.for (.tup [(.v 4), (.v 5), (.v 6)]) (.seq (.v 3)) (.cons (.sub (.var 1) (.v 4) (.op2 .max (.p (.idx (.var 1) (.var 4))) (.v 5))) .nil)) .nil)) (.cons (.ret (.v 1)) .nil)))
abbrev b15 : CSs := (.cons (.asg (.v 1) (.op2 .mul (.lst (.cons (.p (.int 0)) .nil)) (.op2 .add (.op1 .len (.p (.idx (.var 0) (.int 0)))) (.op1 .len (.p (.idx (.var 0) (.int 1))))))) (.cons (.for t15_1 (.seq (.p (.idx (.var 0) (.int 1)))) l15_2) (.cons (.ret (.v 1)) .nil)))
theorem e15 : b15 = q15 := rfl
abbrev s15 : Stmt := top 22
theorem sc15 : FnScope n15 p15 (defScope s15) := ⟨rfl, rfl, rfl, by decide +kernel, rfl, by decide +kernel, by decide +kernel⟩
/-- 16: _law_same(told, due) -/
abbrev n16 : List Str := ["told", "due", "stack", "count", "left", "right", "k"]
abbrev p16 : List Str := ["told", "due"]
abbrev A16 : List Nat := [2, 3, 4, 5, 6]
def t16_1 : T := (.v 3)
def t16_2 : T := (.v 6)
def l16_1 : CSs := (.cons (.exp (.mth1 .append (.var 2) (.tup (.cons (.p (.idx (.var 4) (.var 6))) (.cons (.p (.idx (.var 5) (.var 6))) .nil))))) .nil)
def l16_2 : CSs := (.cons (.ife (.c (.op2 .eq (.op1 .len (.v 2)) (.p (.int 0)))) (.cons (.ret (.p (.bl true))) .nil) .nil) (.cons (.asg (.tup [(.v 4), (.v 5)]) (.mth0 .pop (.var 2))) (.cons (.ife (.or (.c (.isi (.v 5) [.tuple])) (.c (.isi (.v 5) [.list]))) (.cons (.ife (.and (.c (.isi (.v 5) [.tuple])) (.not (.c (.isi (.v 4) [.tuple])))) (.cons (.ret (.p (.bl false))) .nil) .nil) (.cons (.ife (.and (.c (.isi (.v 5) [.list])) (.not (.c (.isi (.v 4) [.list])))) (.cons (.ret (.p (.bl false))) .nil) .nil) (.cons (.ife (.c (.op2 .ne (.op1 .len (.v 4)) (.op1 .len (.v 5)))) (.cons (.ret (.p (.bl false))) .nil) .nil) (.cons (.for t16_2 (.rng1 (.op1 .len (.v 5))) l16_1) .nil)))) (.cons (.ife (.c (.op2 .is (.v 5) (.p .non))) (.cons (.ife (.c (.op2 .isn (.v 4) (.p .non))) (.cons (.ret (.p (.bl false))) .nil) .nil) .nil) (.cons (.ife (.c (.isi (.v 5) [.bool])) (.cons (.ife (.or (.not (.c (.isi (.v 4) [.bool]))) (.c (.op2 .ne (.v 4) (.v 5)))) (.cons (.ret (.p (.bl false))) .nil) .nil) .nil) (.cons (.ife (.c (.isi (.v 5) [.int])) (.cons (.ife (.or (.not (.c (.isi (.v 4) [.int]))) (.or (.c (.isi (.v 4) [.bool])) (.c (.op2 .ne (.v 4) (.v 5))))) (.cons (.ret (.p (.bl false))) .nil) .nil) .nil) (.cons (.ife (.or (.not (.c (.isi (.v 5) [.str]))) (.or (.not (.c (.isi (.v 4) [.str]))) (.c (.op2 .ne (.v 4) (.v 5))))) (.cons (.ret (.p (.bl false))) .nil) .nil) .nil)) .nil)) .nil)) .nil)) .nil)))
abbrev q16 : CSs := (.cons (.asg (.v 2) (.lst (.cons (.tup (.cons (.v 0) (.cons (.v 1) .nil))) .nil))) (.cons (.for (.v 3) (.rng1 (.p (.int 3000000))) (.cons (.ife (.c (.op2 .eq (.op1 .len (.v 2)) (.p (.int 0)))) (.cons (.ret (.p (.bl true))) .nil) .nil) (.cons (.asg (.tup [(.v 4), (.v 5)]) (.mth0 .pop (.var 2))) (.cons (.ife (.or (.c (.isi (.v 5) [.tuple])) (.c (.isi (.v 5) [.list]))) (.cons (.ife (.and (.c (.isi (.v 5) [.tuple])) (.not (.c (.isi (.v 4) [.tuple])))) (.cons (.ret (.p (.bl false))) .nil) .nil) (.cons (.ife (.and (.c (.isi (.v 5) [.list])) (.not (.c (.isi (.v 4) [.list])))) (.cons (.ret (.p (.bl false))) .nil) .nil) (.cons (.ife (.c (.op2 .ne (.op1 .len (.v 4)) (.op1 .len (.v 5)))) (.cons (.ret (.p (.bl false))) .nil) .nil) (.cons (.for (.v 6) (.rng1 (.op1 .len (.v 5))) (.cons (.exp (.mth1 .append (.var 2) (.tup (.cons (.p (.idx (.var 4) (.var 6))) (.cons (.p (.idx (.var 5) (.var 6))) .nil))))) .nil)) .nil)))) (.cons (.ife (.c (.op2 .is (.v 5) (.p .non))) (.cons (.ife (.c (.op2 .isn (.v 4) (.p .non))) (.cons (.ret (.p (.bl false))) .nil) .nil) .nil) (.cons (.ife (.c (.isi (.v 5) [.bool])) (.cons (.ife (.or (.not (.c (.isi (.v 4) [.bool]))) (.c (.op2 .ne (.v 4) (.v 5)))) (.cons (.ret (.p (.bl false))) .nil) .nil) .nil) (.cons (.ife (.c (.isi (.v 5) [.int])) (.cons (.ife (.or (.not (.c (.isi (.v 4) [.int]))) (.or (.c (.isi (.v 4) [.bool])) (.c (.op2 .ne (.v 4) (.v 5))))) (.cons (.ret (.p (.bl false))) .nil) .nil) .nil) (.cons (.ife (.or (.not (.c (.isi (.v 5) [.str]))) (.or (.not (.c (.isi (.v 4) [.str]))) (.c (.op2 .ne (.v 4) (.v 5))))) (.cons (.ret (.p (.bl false))) .nil) .nil) .nil)) .nil)) .nil)) .nil)) .nil)))) (.cons (.ret (.p (.bl false))) .nil)))
abbrev b16 : CSs := (.cons (.asg (.v 2) (.lst (.cons (.tup (.cons (.v 0) (.cons (.v 1) .nil))) .nil))) (.cons (.for t16_1 (.rng1 (.p (.int 3000000))) l16_2) (.cons (.ret (.p (.bl false))) .nil)))
theorem e16 : b16 = q16 := rfl
abbrev s16 : Stmt := top 23
theorem sc16 : FnScope n16 p16 (defScope s16) := ⟨rfl, rfl, rfl, by decide +kernel, rfl, by decide +kernel, by decide +kernel⟩
/-- 17: _law_told(call, net, thing) -/
abbrev n17 : List Str := ["call", "net", "thing", "e"]
abbrev p17 : List Str := ["call", "net", "thing"]
abbrev A17 : List Nat := [3]
abbrev q17 : CSs := (.cons (.trx (.cons (.ife (.c (.op2 .eq (.v 0) (.p (.str "number")))) (.cons (.ret (.tup (.cons (.p (.str "told")) (.cons (.call 6 (.cons (.v 1) (.cons (.v 2) .nil))) .nil)))) .nil) .nil) (.cons (.ife (.c (.op2 .eq (.v 0) (.p (.str "named")))) (.cons (.ret (.tup (.cons (.p (.str "told")) (.cons (.callk 6 .nil ["name", "net"] (.cons (.v 2) (.cons (.v 1) .nil)) [1, 0]) .nil)))) .nil) .nil) (.cons (.ife (.c (.op2 .eq (.v 0) (.p (.str "users")))) (.cons (.ret (.tup (.cons (.p (.str "told")) (.cons (.call 7 (.cons (.v 1) (.cons (.v 2) .nil))) .nil)))) .nil) .nil) (.cons (.ret (.tup (.cons (.p (.str "told")) (.cons (.callk 7 .nil ["signal", "net"] (.cons (.v 2) (.cons (.v 1) .nil)) [1, 0]) .nil)))) .nil)))) [("EchoError", (.ife (.or (.not (.isi ["BadStep"])) (.or (.not (.isi ["CallError"])) (.isi ["DataError"]))) (.tup [(.c (.str "other"))]) (.tup [(.c (.str "raised")), (.fld "word")])))]) .nil)
abbrev b17 : CSs := (.cons (.trx (.cons (.ife (.c (.op2 .eq (.v 0) (.p (.str "number")))) (.cons (.ret (.tup (.cons (.p (.str "told")) (.cons (.call 6 (.cons (.v 1) (.cons (.v 2) .nil))) .nil)))) .nil) .nil) (.cons (.ife (.c (.op2 .eq (.v 0) (.p (.str "named")))) (.cons (.ret (.tup (.cons (.p (.str "told")) (.cons (.callk 6 .nil ["name", "net"] (.cons (.v 2) (.cons (.v 1) .nil)) [1, 0]) .nil)))) .nil) .nil) (.cons (.ife (.c (.op2 .eq (.v 0) (.p (.str "users")))) (.cons (.ret (.tup (.cons (.p (.str "told")) (.cons (.call 7 (.cons (.v 1) (.cons (.v 2) .nil))) .nil)))) .nil) .nil) (.cons (.ret (.tup (.cons (.p (.str "told")) (.cons (.callk 7 .nil ["signal", "net"] (.cons (.v 2) (.cons (.v 1) .nil)) [1, 0]) .nil)))) .nil)))) [("EchoError", (.ife (.or (.not (.isi ["BadStep"])) (.or (.not (.isi ["CallError"])) (.isi ["DataError"]))) (.tup [(.c (.str "other"))]) (.tup [(.c (.str "raised")), (.fld "word")])))]) .nil)
theorem e17 : b17 = q17 := rfl
abbrev s17 : Stmt := top 24
theorem sc17 : FnScope n17 p17 (defScope s17) := ⟨rfl, rfl, rfl, by decide +kernel, rfl, by decide +kernel, by decide +kernel⟩
/-- 18: _law_users(net, signal) -/
abbrev n18 : List Str := ["net", "signal", "told", "s", "term"]
abbrev p18 : List Str := ["net", "signal"]
abbrev A18 : List Nat := [2, 3]
def t18_1 : T := (.v 3)
def e18_1 : CE := (.v 4)
def t18_2 : T := (.v 4)
def f18_1 : CTs := (.cons (.c (.op2 .eq (.p (.idx (.var 4) (.int 0))) (.v 1))) .nil)
def l18_1 : CSs := (.cons (.ife (.c (.lc e18_1 t18_2 (.seq (.p (.idx (.idx (.idx (.var 0) (.int 1)) (.var 3)) (.int 1)))) f18_1 [4])) (.cons (.exp (.mth1 .append (.var 2) (.v 3))) .nil) .nil) .nil)
abbrev q18 : CSs := (.cons (.asg (.v 2) (.lst .nil)) (.cons (.for (.v 3) (.rng1 (.op1 .len (.p (.idx (.var 0) (.int 1))))) (.cons (.ife (.c (.lc (.v 4) (.v 4) (.seq (.p (.idx (.idx (.idx (.var 0) (.int 1)) (.var 3)) (.int 1)))) (.cons (.c (.op2 .eq (.p (.idx (.var 4) (.int 0))) (.v 1))) .nil) [4])) (.cons (.exp (.mth1 .append (.var 2) (.v 3))) .nil) .nil) .nil)) (.cons (.ret (.op1 .tuple (.v 2))) .nil)))
abbrev b18 : CSs := (.cons (.asg (.v 2) (.lst .nil)) (.cons (.for t18_1 (.rng1 (.op1 .len (.p (.idx (.var 0) (.int 1))))) l18_1) (.cons (.ret (.op1 .tuple (.v 2))) .nil)))
theorem e18 : b18 = q18 := rfl
abbrev s18 : Stmt := top 25
theorem sc18 : FnScope n18 p18 (defScope s18) := ⟨rfl, rfl, rfl, by decide +kernel, rfl, by decide +kernel, by decide +kernel⟩
/-- 19: _law_asked(urn, net) -/
abbrev n19 : List Str := ["urn", "net", "spans", "row", "names", "at", "one", "name", "due", "signal"]
abbrev p19 : List Str := ["urn", "net"]
abbrev A19 : List Nat := [2, 4, 5, 6, 7, 8, 9]
def t19_1 : T := (.v 9)
def l19_1 : CSs := (.cons (.ife (.not (.c (.call 16 (.cons (.call 17 (.cons (.p (.str "users")) (.cons (.v 1) (.cons (.v 9) .nil)))) (.cons (.tup (.cons (.p (.str "raised")) (.cons (.p (.str "signal")) .nil))) .nil))))) (.cons (.ret (.p (.bl false))) .nil) .nil) .nil)
def t19_2 : T := (.v 7)
def l19_2 : CSs := (.cons (.asg (.v 8) (.tup (.cons (.p (.str "raised")) (.cons (.p (.str "signal")) .nil)))) (.cons (.ife (.c (.op2 .inn (.v 7) (.v 4))) (.cons (.asg (.v 8) (.tup (.cons (.p (.str "told")) (.cons (.op2 .index (.v 4) (.v 7)) .nil)))) .nil) .nil) (.cons (.ife (.not (.c (.call 16 (.cons (.call 17 (.cons (.p (.str "number")) (.cons (.v 1) (.cons (.v 7) .nil)))) (.cons (.v 8) .nil))))) (.cons (.ret (.p (.bl false))) .nil) .nil) .nil)))
def t19_3 : T := (.v 5)
def l19_3 : CSs := (.cons (.ife (.not (.c (.call 16 (.cons (.call 17 (.cons (.op2 .idx (.lst (.cons (.p (.str "number")) (.cons (.p (.str "named")) .nil))) (.op2 .mod (.v 5) (.p (.int 2)))) (.cons (.v 1) (.cons (.p (.idx (.var 4) (.var 5))) .nil)))) (.cons (.tup (.cons (.p (.str "told")) (.cons (.v 5) .nil))) .nil))))) (.cons (.ret (.p (.bl false))) .nil) .nil) (.cons (.ife (.not (.c (.call 16 (.cons (.call 17 (.cons (.op2 .idx (.lst (.cons (.p (.str "users")) (.cons (.p (.str "signal")) .nil))) (.op2 .mod (.v 5) (.p (.int 2)))) (.cons (.v 1) (.cons (.v 5) .nil)))) (.cons (.tup (.cons (.p (.str "told")) (.cons (.call 18 (.cons (.v 1) (.cons (.v 5) .nil))) .nil))) .nil))))) (.cons (.ret (.p (.bl false))) .nil) .nil) .nil))
def e19_1 : CE := (.p (.idx (.var 3) (.int 0)))
def t19_4 : T := (.v 3)
def f19_1 : CTs := .nil
def e19_2 : CE := (.p (.idx (.var 3) (.int 0)))
def t19_5 : T := (.v 3)
def f19_2 : CTs := .nil
abbrev q19 : CSs := (.cons (.asg (.v 2) (.call 15 (.cons (.v 1) .nil))) (.cons (.asg (.v 4) (.op2 .add (.lc (.p (.idx (.var 3) (.int 0))) (.v 3) (.seq (.p (.idx (.var 1) (.int 0)))) .nil [3]) (.lc (.p (.idx (.var 3) (.int 0))) (.v 3) (.seq (.p (.idx (.var 1) (.int 1)))) .nil [3]))) (.cons (.ife (.or (.not (.c (.call 16 (.cons (.call 1 (.cons (.v 1) .nil)) (.cons (.op1 .tuple (.v 2)) .nil))))) (.not (.c (.call 16 (.cons (.call 2 (.cons (.v 1) .nil)) (.cons (.op1 .sum (.v 2)) .nil)))))) (.cons (.ret (.p (.bl false))) .nil) .nil) (.cons (.ife (.not (.c (.call 16 (.cons (.call 3 (.cons (.v 1) .nil)) (.cons (.op1 .tuple (.v 4)) .nil))))) (.cons (.ret (.p (.bl false))) .nil) .nil) (.cons (.for (.v 5) (.rng1 (.op1 .len (.v 4))) (.cons (.ife (.not (.c (.call 16 (.cons (.call 17 (.cons (.op2 .idx (.lst (.cons (.p (.str "number")) (.cons (.p (.str "named")) .nil))) (.op2 .mod (.v 5) (.p (.int 2)))) (.cons (.v 1) (.cons (.p (.idx (.var 4) (.var 5))) .nil)))) (.cons (.tup (.cons (.p (.str "told")) (.cons (.v 5) .nil))) .nil))))) (.cons (.ret (.p (.bl false))) .nil) .nil) (.cons (.ife (.not (.c (.call 16 (.cons (.call 17 (.cons (.op2 .idx (.lst (.cons (.p (.str "users")) (.cons (.p (.str "signal")) .nil))) (.op2 .mod (.v 5) (.p (.int 2)))) (.cons (.v 1) (.cons (.v 5) .nil)))) (.cons (.tup (.cons (.p (.str "told")) (.cons (.call 18 (.cons (.v 1) (.cons (.v 5) .nil))) .nil))) .nil))))) (.cons (.ret (.p (.bl false))) .nil) .nil) .nil))) (.cons (.asg (.v 6) (.op2 .idx (.v 4) (.call 9 (.cons (.v 0) (.cons (.op1 .len (.v 4)) .nil))))) (.cons (.for (.v 7) (.seq (.lst (.cons (.op2 .add (.v 6) (.p (.str "0"))) (.cons (.slc (.v 6) none (some (.neg (.int 1)))) (.cons (.p (.str "input")) (.cons (.p (.str "")) (.cons (.op1 .upper (.v 6)) (.cons (.op2 .add (.p (.str " ")) (.v 6)) (.cons (.p (.str "zz9")) .nil))))))))) (.cons (.asg (.v 8) (.tup (.cons (.p (.str "raised")) (.cons (.p (.str "signal")) .nil)))) (.cons (.ife (.c (.op2 .inn (.v 7) (.v 4))) (.cons (.asg (.v 8) (.tup (.cons (.p (.str "told")) (.cons (.op2 .index (.v 4) (.v 7)) .nil)))) .nil) .nil) (.cons (.ife (.not (.c (.call 16 (.cons (.call 17 (.cons (.p (.str "number")) (.cons (.v 1) (.cons (.v 7) .nil)))) (.cons (.v 8) .nil))))) (.cons (.ret (.p (.bl false))) .nil) .nil) .nil)))) (.cons (.for (.v 9) (.seq (.lst (.cons (.op1 .len (.v 4)) (.cons (.op1 .neg (.p (.int 1))) (.cons (.op2 .add (.op1 .len (.v 4)) (.call 9 (.cons (.v 0) (.cons (.op2 .pow (.p (.int 10)) (.p (.int 9))) .nil)))) (.cons (.op2 .sub (.op1 .neg (.p (.int 1))) (.call 9 (.cons (.v 0) (.cons (.op1 .len (.v 4)) .nil)))) .nil)))))) (.cons (.ife (.not (.c (.call 16 (.cons (.call 17 (.cons (.p (.str "users")) (.cons (.v 1) (.cons (.v 9) .nil)))) (.cons (.tup (.cons (.p (.str "raised")) (.cons (.p (.str "signal")) .nil))) .nil))))) (.cons (.ret (.p (.bl false))) .nil) .nil) .nil)) (.cons (.ret (.p (.bl true))) .nil)))))))))
abbrev b19 : CSs := (.cons (.asg (.v 2) (.call 15 (.cons (.v 1) .nil))) (.cons (.asg (.v 4) (.op2 .add (.lc e19_1 t19_4 (.seq (.p (.idx (.var 1) (.int 0)))) f19_1 [3]) (.lc e19_2 t19_5 (.seq (.p (.idx (.var 1) (.int 1)))) f19_2 [3]))) (.cons (.ife (.or (.not (.c (.call 16 (.cons (.call 1 (.cons (.v 1) .nil)) (.cons (.op1 .tuple (.v 2)) .nil))))) (.not (.c (.call 16 (.cons (.call 2 (.cons (.v 1) .nil)) (.cons (.op1 .sum (.v 2)) .nil)))))) (.cons (.ret (.p (.bl false))) .nil) .nil) (.cons (.ife (.not (.c (.call 16 (.cons (.call 3 (.cons (.v 1) .nil)) (.cons (.op1 .tuple (.v 4)) .nil))))) (.cons (.ret (.p (.bl false))) .nil) .nil) (.cons (.for t19_3 (.rng1 (.op1 .len (.v 4))) l19_3) (.cons (.asg (.v 6) (.op2 .idx (.v 4) (.call 9 (.cons (.v 0) (.cons (.op1 .len (.v 4)) .nil))))) (.cons (.for t19_2 (.seq (.lst (.cons (.op2 .add (.v 6) (.p (.str "0"))) (.cons (.slc (.v 6) none (some (.neg (.int 1)))) (.cons (.p (.str "input")) (.cons (.p (.str "")) (.cons (.op1 .upper (.v 6)) (.cons (.op2 .add (.p (.str " ")) (.v 6)) (.cons (.p (.str "zz9")) .nil))))))))) l19_2) (.cons (.for t19_1 (.seq (.lst (.cons (.op1 .len (.v 4)) (.cons (.op1 .neg (.p (.int 1))) (.cons (.op2 .add (.op1 .len (.v 4)) (.call 9 (.cons (.v 0) (.cons (.op2 .pow (.p (.int 10)) (.p (.int 9))) .nil)))) (.cons (.op2 .sub (.op1 .neg (.p (.int 1))) (.call 9 (.cons (.v 0) (.cons (.op1 .len (.v 4)) .nil)))) .nil)))))) l19_1) (.cons (.ret (.p (.bl true))) .nil)))))))))
theorem e19 : b19 = q19 := rfl
abbrev s19 : Stmt := top 26
theorem sc19 : FnScope n19 p19 (defScope s19) := ⟨rfl, rfl, rfl, by decide +kernel, rfl, by decide +kernel, by decide +kernel⟩
/-- 20: _law_wide(urn) -/
abbrev n20 : List Str := ["urn", "k", "inputs", "streams", "three", "s", "terms", "signal"]
abbrev p20 : List Str := ["urn"]
abbrev A20 : List Nat := [2, 3, 4, 5, 6, 7]
def t20_1 : T := (.v 5)
def t20_2 : T := (.v 7)
def l20_1 : CSs := (.cons (.ife (.or (.c (.call 9 (.cons (.v 0) (.cons (.p (.int 2)) .nil)))) (.c (.op2 .eq (.v 5) (.p (.int 3))))) (.cons (.exp (.mth1 .append (.var 6) (.tup (.cons (.v 7) (.cons (.ife (.c (.op2 .eq (.v 5) (.p (.int 3)))) (.p (.int 8)) (.op2 .add (.p (.int 1)) (.call 9 (.cons (.v 0) (.cons (.p (.int 8)) .nil))))) (.cons (.op2 .add (.p (.int 1)) (.call 9 (.cons (.v 0) (.cons (.p (.int 99)) .nil)))) .nil)))))) .nil) .nil) .nil)
def l20_2 : CSs := (.cons (.asg (.v 6) (.lst (.cons (.tup (.cons (.p (.int 0)) (.cons (.p (.int 0)) (.cons (.p (.int 1)) .nil)))) (.cons (.tup (.cons (.p (.int 1)) (.cons (.p (.int 0)) (.cons (.op1 .neg (.p (.int 1))) .nil)))) (.cons (.tup (.cons (.p (.int 2)) (.cons (.p (.int 0)) (.cons (.p (.int 1)) .nil)))) (.cons (.tup (.cons (.p (.int 3)) (.cons (.p (.int 0)) (.cons (.p (.int 5)) .nil)))) .nil)))))) (.cons (.for t20_2 (.seq (.v 4)) l20_1) (.cons (.ife (.c (.op2 .gt (.v 5) (.p (.int 0)))) (.cons (.exp (.mth1 .append (.var 6) (.tup (.cons (.op2 .add (.p (.int 3)) (.v 5)) (.cons (.p (.int 0)) (.cons (.op1 .neg (.p (.int 99))) .nil)))))) .nil) .nil) (.cons (.exp (.mth1 .append (.var 3) (.tup (.cons (.op2 .add (.p (.str "str")) (.op1 .str (.v 5))) (.cons (.op1 .tuple (.srt (.v 6))) .nil))))) .nil))))
def e20_1 : CE := (.tup (.cons (.op2 .add (.p (.str "i")) (.op1 .str (.v 1))) (.cons (.op1 .neg (.p (.int 9999))) (.cons (.p (.int 9999)) .nil))))
def t20_3 : T := (.v 1)
def f20_1 : CTs := .nil
abbrev q20 : CSs := (.cons (.asg (.v 2) (.op1 .tuple (.lc (.tup (.cons (.op2 .add (.p (.str "i")) (.op1 .str (.v 1))) (.cons (.op1 .neg (.p (.int 9999))) (.cons (.p (.int 9999)) .nil)))) (.v 1) (.rng1 (.p (.int 4))) .nil [1]))) (.cons (.asg (.v 3) (.lst .nil)) (.cons (.asg (.v 4) (.op2 .idx (.lst (.cons (.tup (.cons (.p (.int 0)) (.cons (.p (.int 1)) (.cons (.p (.int 2)) .nil)))) (.cons (.tup (.cons (.p (.int 1)) (.cons (.p (.int 2)) (.cons (.p (.int 3)) .nil)))) (.cons (.tup (.cons (.p (.int 0)) (.cons (.p (.int 2)) (.cons (.p (.int 3)) .nil)))) (.cons (.tup (.cons (.p (.int 0)) (.cons (.p (.int 1)) (.cons (.p (.int 3)) .nil)))) .nil))))) (.call 9 (.cons (.v 0) (.cons (.p (.int 4)) .nil))))) (.cons (.for (.v 5) (.rng1 (.p (.int 16))) (.cons (.asg (.v 6) (.lst (.cons (.tup (.cons (.p (.int 0)) (.cons (.p (.int 0)) (.cons (.p (.int 1)) .nil)))) (.cons (.tup (.cons (.p (.int 1)) (.cons (.p (.int 0)) (.cons (.op1 .neg (.p (.int 1))) .nil)))) (.cons (.tup (.cons (.p (.int 2)) (.cons (.p (.int 0)) (.cons (.p (.int 1)) .nil)))) (.cons (.tup (.cons (.p (.int 3)) (.cons (.p (.int 0)) (.cons (.p (.int 5)) .nil)))) .nil)))))) (.cons (.for (.v 7) (.seq (.v 4)) (.cons (.ife (.or (.c (.call 9 (.cons (.v 0) (.cons (.p (.int 2)) .nil)))) (.c (.op2 .eq (.v 5) (.p (.int 3))))) (.cons (.exp (.mth1 .append (.var 6) (.tup (.cons (.v 7) (.cons (.ife (.c (.op2 .eq (.v 5) (.p (.int 3)))) (.p (.int 8)) (.op2 .add (.p (.int 1)) (.call 9 (.cons (.v 0) (.cons (.p (.int 8)) .nil))))) (.cons (.op2 .add (.p (.int 1)) (.call 9 (.cons (.v 0) (.cons (.p (.int 99)) .nil)))) .nil)))))) .nil) .nil) .nil)) (.cons (.ife (.c (.op2 .gt (.v 5) (.p (.int 0)))) (.cons (.exp (.mth1 .append (.var 6) (.tup (.cons (.op2 .add (.p (.int 3)) (.v 5)) (.cons (.p (.int 0)) (.cons (.op1 .neg (.p (.int 99))) .nil)))))) .nil) .nil) (.cons (.exp (.mth1 .append (.var 3) (.tup (.cons (.op2 .add (.p (.str "str")) (.op1 .str (.v 5))) (.cons (.op1 .tuple (.srt (.v 6))) .nil))))) .nil))))) (.cons (.ret (.tup (.cons (.v 2) (.cons (.op1 .tuple (.v 3)) .nil)))) .nil)))))
abbrev b20 : CSs := (.cons (.asg (.v 2) (.op1 .tuple (.lc e20_1 t20_3 (.rng1 (.p (.int 4))) f20_1 [1]))) (.cons (.asg (.v 3) (.lst .nil)) (.cons (.asg (.v 4) (.op2 .idx (.lst (.cons (.tup (.cons (.p (.int 0)) (.cons (.p (.int 1)) (.cons (.p (.int 2)) .nil)))) (.cons (.tup (.cons (.p (.int 1)) (.cons (.p (.int 2)) (.cons (.p (.int 3)) .nil)))) (.cons (.tup (.cons (.p (.int 0)) (.cons (.p (.int 2)) (.cons (.p (.int 3)) .nil)))) (.cons (.tup (.cons (.p (.int 0)) (.cons (.p (.int 1)) (.cons (.p (.int 3)) .nil)))) .nil))))) (.call 9 (.cons (.v 0) (.cons (.p (.int 4)) .nil))))) (.cons (.for t20_1 (.rng1 (.p (.int 16))) l20_2) (.cons (.ret (.tup (.cons (.v 2) (.cons (.op1 .tuple (.v 3)) .nil)))) .nil)))))
theorem e20 : b20 = q20 := rfl
abbrev s20 : Stmt := top 27
theorem sc20 : FnScope n20 p20 (defScope s20) := ⟨rfl, rfl, rfl, by decide +kernel, rfl, by decide +kernel, by decide +kernel⟩
/-- 21: law(script) -/
abbrev n21 : List Str := ["script", "urn", "wide", "lap", "net", "ring"]
abbrev p21 : List Str := ["script"]
abbrev A21 : List Nat := [1, 2, 3, 4, 5]
def t21_1 : T := (.v 3)
def l21_1 : CSs := (.cons (.asg (.v 4) (.call 14 (.cons (.v 1) (.cons (.op2 .add (.p (.int 1)) (.call 9 (.cons (.v 1) (.cons (.p (.int 4)) .nil)))) (.cons (.call 9 (.cons (.v 1) (.cons (.p (.int 6)) .nil))) (.cons (.p (.int 2)) (.cons (.op2 .idx (.lst (.cons (.p (.str "")) (.cons (.p (.str "q")) (.cons (.p (.str "7")) .nil)))) (.call 9 (.cons (.v 1) (.cons (.p (.int 3)) .nil)))) .nil))))))) (.cons (.ife (.not (.c (.call 19 (.cons (.v 1) (.cons (.v 4) .nil))))) (.cons (.ret (.p (.bl false))) .nil) .nil) .nil))
abbrev q21 : CSs := (.cons (.asg (.v 1) (.call 8 (.cons (.v 0) .nil))) (.cons (.asg (.v 2) (.op2 .eq (.op2 .mod (.op2 .fdiv (.p (.idx (.var 1) (.int 0))) (.p (.int 89))) (.p (.int 11))) (.p (.int 4)))) (.cons (.for (.v 3) (.rng1 (.p (.int 3))) (.cons (.asg (.v 4) (.call 14 (.cons (.v 1) (.cons (.op2 .add (.p (.int 1)) (.call 9 (.cons (.v 1) (.cons (.p (.int 4)) .nil)))) (.cons (.call 9 (.cons (.v 1) (.cons (.p (.int 6)) .nil))) (.cons (.p (.int 2)) (.cons (.op2 .idx (.lst (.cons (.p (.str "")) (.cons (.p (.str "q")) (.cons (.p (.str "7")) .nil)))) (.call 9 (.cons (.v 1) (.cons (.p (.int 3)) .nil)))) .nil))))))) (.cons (.ife (.not (.c (.call 19 (.cons (.v 1) (.cons (.v 4) .nil))))) (.cons (.ret (.p (.bl false))) .nil) .nil) .nil))) (.cons (.ife (.and (.c (.v 2)) (.not (.c (.call 19 (.cons (.v 1) (.cons (.call 20 (.cons (.v 1) .nil)) .nil)))))) (.cons (.ret (.p (.bl false))) .nil) .nil) (.cons (.asg (.v 5) (.tup (.cons (.tup (.cons (.tup (.cons (.p (.str "x")) (.cons (.p (.int 0)) (.cons (.p (.int 1)) .nil)))) .nil)) (.cons (.tup (.cons (.tup (.cons (.p (.str "ab")) (.cons (.tup (.cons (.tup (.cons (.p (.int 0)) (.cons (.p (.int 0)) (.cons (.p (.int 1)) .nil)))) (.cons (.tup (.cons (.p (.int 2)) (.cons (.p (.int 3)) (.cons (.p (.int 1)) .nil)))) .nil))) .nil))) (.cons (.tup (.cons (.p (.str "abc")) (.cons (.tup (.cons (.tup (.cons (.p (.int 1)) (.cons (.p (.int 0)) (.cons (.p (.int 2)) .nil)))) (.cons (.tup (.cons (.p (.int 2)) (.cons (.p (.int 1)) (.cons (.p (.int 1)) .nil)))) .nil))) .nil))) .nil))) .nil)))) (.cons (.ife (.or (.not (.c (.call 16 (.cons (.callk 1 .nil ["net"] (.cons (.v 5) .nil) [0]) (.cons (.tup (.cons (.p (.int 0)) (.cons (.p (.int 0)) (.cons (.p (.int 3)) .nil)))) .nil))))) (.not (.c (.call 16 (.cons (.callk 2 .nil ["net"] (.cons (.v 5) .nil) [0]) (.cons (.p (.int 3)) .nil)))))) (.cons (.ret (.p (.bl false))) .nil) .nil) (.cons (.ret (.and (.call 16 (.cons (.callk 3 .nil ["net"] (.cons (.v 5) .nil) [0]) (.cons (.tup (.cons (.p (.str "x")) (.cons (.p (.str "ab")) (.cons (.p (.str "abc")) .nil)))) .nil))) (.call 19 (.cons (.v 1) (.cons (.v 5) .nil))))) .nil)))))))
abbrev b21 : CSs := (.cons (.asg (.v 1) (.call 8 (.cons (.v 0) .nil))) (.cons (.asg (.v 2) (.op2 .eq (.op2 .mod (.op2 .fdiv (.p (.idx (.var 1) (.int 0))) (.p (.int 89))) (.p (.int 11))) (.p (.int 4)))) (.cons (.for t21_1 (.rng1 (.p (.int 3))) l21_1) (.cons (.ife (.and (.c (.v 2)) (.not (.c (.call 19 (.cons (.v 1) (.cons (.call 20 (.cons (.v 1) .nil)) .nil)))))) (.cons (.ret (.p (.bl false))) .nil) .nil) (.cons (.asg (.v 5) (.tup (.cons (.tup (.cons (.tup (.cons (.p (.str "x")) (.cons (.p (.int 0)) (.cons (.p (.int 1)) .nil)))) .nil)) (.cons (.tup (.cons (.tup (.cons (.p (.str "ab")) (.cons (.tup (.cons (.tup (.cons (.p (.int 0)) (.cons (.p (.int 0)) (.cons (.p (.int 1)) .nil)))) (.cons (.tup (.cons (.p (.int 2)) (.cons (.p (.int 3)) (.cons (.p (.int 1)) .nil)))) .nil))) .nil))) (.cons (.tup (.cons (.p (.str "abc")) (.cons (.tup (.cons (.tup (.cons (.p (.int 1)) (.cons (.p (.int 0)) (.cons (.p (.int 2)) .nil)))) (.cons (.tup (.cons (.p (.int 2)) (.cons (.p (.int 1)) (.cons (.p (.int 1)) .nil)))) .nil))) .nil))) .nil))) .nil)))) (.cons (.ife (.or (.not (.c (.call 16 (.cons (.callk 1 .nil ["net"] (.cons (.v 5) .nil) [0]) (.cons (.tup (.cons (.p (.int 0)) (.cons (.p (.int 0)) (.cons (.p (.int 3)) .nil)))) .nil))))) (.not (.c (.call 16 (.cons (.callk 2 .nil ["net"] (.cons (.v 5) .nil) [0]) (.cons (.p (.int 3)) .nil)))))) (.cons (.ret (.p (.bl false))) .nil) .nil) (.cons (.ret (.and (.call 16 (.cons (.callk 3 .nil ["net"] (.cons (.v 5) .nil) [0]) (.cons (.tup (.cons (.p (.str "x")) (.cons (.p (.str "ab")) (.cons (.p (.str "abc")) .nil)))) .nil))) (.call 19 (.cons (.v 1) (.cons (.v 5) .nil))))) .nil)))))))
theorem e21 : b21 = q21 := rfl
abbrev s21 : Stmt := top 28
theorem sc21 : FnScope n21 p21 (defScope s21) := ⟨rfl, rfl, rfl, by decide +kernel, rfl, by decide +kernel, by decide +kernel⟩
abbrev sI0 : Stmt := meth (top 4) 0
abbrev nI0 : List Str := ["self", "word"]
theorem scI0 : FnScope nI0 nI0 (defScope sI0) := ⟨rfl, rfl, rfl, by decide +kernel, rfl, by decide +kernel, by decide +kernel⟩
structure Lk (K : PySem.W.Frag) (mg : Str → Option Value) (cc : Str → Addr) (f : Nat → Addr) (fd : Nat → FuncData) : Prop where
  ex : ExF K cc G
  gc_BadStep : mg "BadStep" = some (.ref (cc "BadStep"))
  gc_CallError : mg "CallError" = some (.ref (cc "CallError"))
  gc_DataError : mg "DataError" = some (.ref (cc "DataError"))
  gc_EchoError : mg "EchoError" = some (.ref (cc "EchoError"))
  iC_BadStep : PySem.W.findIn K (.ref (cc "BadStep")) "__init__" = some (some (.ref (f 22)))
  tI_BadStep : PySem.W.typeIn K (.ref (f 22)) = some (.type "function")
  F22 : FunD K "__init__" "BadStep.__init__" (defArgs sI0) (defBody sI0) (defScope sI0) [] [] (f 22) (fd 22)
  F0 : FunD K "signal_count" "signal_count" (defArgs s0) (defBody s0) (defScope s0) [] [] (f 0) (fd 0)
  g0 : mg "signal_count" = some (.ref (f 0))
  F1 : FunD K "spans_of" "spans_of" (defArgs s1) (defBody s1) (defScope s1) [] [] (f 1) (fd 1)
  g1 : mg "spans_of" = some (.ref (f 1))
  F2 : FunD K "cell_number" "cell_number" (defArgs s2) (defBody s2) (defScope s2) [] [] (f 2) (fd 2)
  g2 : mg "cell_number" = some (.ref (f 2))
  F3 : FunD K "signal_names" "signal_names" (defArgs s3) (defBody s3) (defScope s3) [] [] (f 3) (fd 3)
  g3 : mg "signal_names" = some (.ref (f 3))
  F4 : FunD K "number_or_raise" "number_or_raise" (defArgs s4) (defBody s4) (defScope s4) [] [] (f 4) (fd 4)
  g4 : mg "number_or_raise" = some (.ref (f 4))
  F5 : FunD K "signal_or_raise" "signal_or_raise" (defArgs s5) (defBody s5) (defScope s5) [] [] (f 5) (fd 5)
  g5 : mg "signal_or_raise" = some (.ref (f 5))
  F6 : FunD K "signal_number" "signal_number" (defArgs s6) (defBody s6) (defScope s6) [] [] (f 6) (fd 6)
  g6 : mg "signal_number" = some (.ref (f 6))
  F7 : FunD K "users_of" "users_of" (defArgs s7) (defBody s7) (defScope s7) [] [] (f 7) (fd 7)
  g7 : mg "users_of" = some (.ref (f 7))
  F8 : FunD K "_law_urn" "_law_urn" (defArgs s8) (defBody s8) (defScope s8) [] [] (f 8) (fd 8)
  g8 : mg "_law_urn" = some (.ref (f 8))
  F9 : FunD K "_law_sip" "_law_sip" (defArgs s9) (defBody s9) (defScope s9) [] [] (f 9) (fd 9)
  g9 : mg "_law_sip" = some (.ref (f 9))
  F10 : FunD K "_law_names" "_law_names" (defArgs s10) (defBody s10) (defScope s10) [] [] (f 10) (fd 10)
  g10 : mg "_law_names" = some (.ref (f 10))
  F11 : FunD K "_law_gain" "_law_gain" (defArgs s11) (defBody s11) (defScope s11) [] [] (f 11) (fd 11)
  g11 : mg "_law_gain" = some (.ref (f 11))
  F12 : FunD K "_law_range" "_law_range" (defArgs s12) (defBody s12) (defScope s12) [] [] (f 12) (fd 12)
  g12 : mg "_law_range" = some (.ref (f 12))
  F13 : FunD K "_law_terms" "_law_terms" (defArgs s13) (defBody s13) (defScope s13) [] [] (f 13) (fd 13)
  g13 : mg "_law_terms" = some (.ref (f 13))
  F14 : FunD K "_law_net" "_law_net" (defArgs s14) (defBody s14) (defScope s14) [] [] (f 14) (fd 14)
  g14 : mg "_law_net" = some (.ref (f 14))
  F15 : FunD K "_law_spans" "_law_spans" (defArgs s15) (defBody s15) (defScope s15) [] [] (f 15) (fd 15)
  g15 : mg "_law_spans" = some (.ref (f 15))
  F16 : FunD K "_law_same" "_law_same" (defArgs s16) (defBody s16) (defScope s16) [] [] (f 16) (fd 16)
  g16 : mg "_law_same" = some (.ref (f 16))
  F17 : FunD K "_law_told" "_law_told" (defArgs s17) (defBody s17) (defScope s17) [] [] (f 17) (fd 17)
  g17 : mg "_law_told" = some (.ref (f 17))
  F18 : FunD K "_law_users" "_law_users" (defArgs s18) (defBody s18) (defScope s18) [] [] (f 18) (fd 18)
  g18 : mg "_law_users" = some (.ref (f 18))
  F19 : FunD K "_law_asked" "_law_asked" (defArgs s19) (defBody s19) (defScope s19) [] [] (f 19) (fd 19)
  g19 : mg "_law_asked" = some (.ref (f 19))
  F20 : FunD K "_law_wide" "_law_wide" (defArgs s20) (defBody s20) (defScope s20) [] [] (f 20) (fd 20)
  g20 : mg "_law_wide" = some (.ref (f 20))
  F21 : FunD K "law" "law" (defArgs s21) (defBody s21) (defScope s21) [] [] (f 21) (fd 21)
  g21 : mg "law" = some (.ref (f 21))
  m_abs : mg "abs" = none
  m_bool : mg "bool" = none
  m_enumerate : mg "enumerate" = none
  m_int : mg "int" = none
  m_isinstance : mg "isinstance" = none
  m_len : mg "len" = none
  m_list : mg "list" = none
  m_max : mg "max" = none
  m_min : mg "min" = none
  m_range : mg "range" = none
  m_sorted : mg "sorted" = none
  m_str : mg "str" = none
  m_sum : mg "sum" = none
  m_tuple : mg "tuple" = none
section
variable {P : Program} {w : World} {K : PySem.W.Frag} {mg : Str → Option Value} {base : Heap} {cc : Str → Addr} {f : Nat → Addr} {fd : Nat → FuncData} {Γ : Nat → CP.Sp} {k : Nat}
theorem Lk.b0 (L : Lk K mg cc f fd) : Binds K (fd 0) p0 [] := FunD.bindsN L.F0 fun _ _ _ _ _ _ us hl => match us, hl with | [_], _ => rfl
theorem Lk.b1 (L : Lk K mg cc f fd) : Binds K (fd 1) p1 [] := FunD.bindsN L.F1 fun _ _ _ _ _ _ us hl => match us, hl with | [_], _ => rfl
theorem Lk.b2 (L : Lk K mg cc f fd) : Binds K (fd 2) p2 [] := FunD.bindsN L.F2 fun _ _ _ _ _ _ us hl => match us, hl with | [_], _ => rfl
theorem Lk.b3 (L : Lk K mg cc f fd) : Binds K (fd 3) p3 [] := FunD.bindsN L.F3 fun _ _ _ _ _ _ us hl => match us, hl with | [_], _ => rfl
theorem Lk.b4 (L : Lk K mg cc f fd) : Binds K (fd 4) p4 [] := FunD.bindsN L.F4 fun _ _ _ _ _ _ us hl => match us, hl with | [_, _, _], _ => rfl
theorem Lk.b5 (L : Lk K mg cc f fd) : Binds K (fd 5) p5 [] := FunD.bindsN L.F5 fun _ _ _ _ _ _ us hl => match us, hl with | [_, _], _ => rfl
theorem Lk.b6 (L : Lk K mg cc f fd) : Binds K (fd 6) p6 [] := FunD.bindsN L.F6 fun _ _ _ _ _ _ us hl => match us, hl with | [_, _], _ => rfl
theorem Lk.b7 (L : Lk K mg cc f fd) : Binds K (fd 7) p7 [] := FunD.bindsN L.F7 fun _ _ _ _ _ _ us hl => match us, hl with | [_, _], _ => rfl
theorem Lk.b8 (L : Lk K mg cc f fd) : Binds K (fd 8) p8 [] := FunD.bindsN L.F8 fun _ _ _ _ _ _ us hl => match us, hl with | [_], _ => rfl
theorem Lk.b9 (L : Lk K mg cc f fd) : Binds K (fd 9) p9 [] := FunD.bindsN L.F9 fun _ _ _ _ _ _ us hl => match us, hl with | [_, _], _ => rfl
theorem Lk.b10 (L : Lk K mg cc f fd) : Binds K (fd 10) p10 [] := FunD.bindsN L.F10 fun _ _ _ _ _ _ us hl => match us, hl with | [_, _, _], _ => rfl
theorem Lk.b11 (L : Lk K mg cc f fd) : Binds K (fd 11) p11 [] := FunD.bindsN L.F11 fun _ _ _ _ _ _ us hl => match us, hl with | [_], _ => rfl
theorem Lk.b12 (L : Lk K mg cc f fd) : Binds K (fd 12) p12 [] := FunD.bindsN L.F12 fun _ _ _ _ _ _ us hl => match us, hl with | [_], _ => rfl
theorem Lk.b13 (L : Lk K mg cc f fd) : Binds K (fd 13) p13 [] := FunD.bindsN L.F13 fun _ _ _ _ _ _ us hl => match us, hl with | [_, _, _, _, _], _ => rfl
theorem Lk.b14 (L : Lk K mg cc f fd) : Binds K (fd 14) p14 [] := FunD.bindsN L.F14 fun _ _ _ _ _ _ us hl => match us, hl with | [_, _, _, _, _], _ => rfl
theorem Lk.b15 (L : Lk K mg cc f fd) : Binds K (fd 15) p15 [] := FunD.bindsN L.F15 fun _ _ _ _ _ _ us hl => match us, hl with | [_], _ => rfl
theorem Lk.b16 (L : Lk K mg cc f fd) : Binds K (fd 16) p16 [] := FunD.bindsN L.F16 fun _ _ _ _ _ _ us hl => match us, hl with | [_, _], _ => rfl
theorem Lk.b17 (L : Lk K mg cc f fd) : Binds K (fd 17) p17 [] := FunD.bindsN L.F17 fun _ _ _ _ _ _ us hl => match us, hl with | [_, _, _], _ => rfl
theorem Lk.b18 (L : Lk K mg cc f fd) : Binds K (fd 18) p18 [] := FunD.bindsN L.F18 fun _ _ _ _ _ _ us hl => match us, hl with | [_, _], _ => rfl
theorem Lk.b19 (L : Lk K mg cc f fd) : Binds K (fd 19) p19 [] := FunD.bindsN L.F19 fun _ _ _ _ _ _ us hl => match us, hl with | [_, _], _ => rfl
theorem Lk.b20 (L : Lk K mg cc f fd) : Binds K (fd 20) p20 [] := FunD.bindsN L.F20 fun _ _ _ _ _ _ us hl => match us, hl with | [_], _ => rfl
theorem Lk.b21 (L : Lk K mg cc f fd) : Binds K (fd 21) p21 [] := FunD.bindsN L.F21 fun _ _ _ _ _ _ us hl => match us, hl with | [_], _ => rfl
theorem Lk.bI_BadStep (L : Lk K mg cc f fd) : Binds K (fd 22) nI0 [] := FunD.bindsN L.F22 fun _ _ _ _ _ _ us hl => match us, hl with | [_, _], _ => rfl
theorem in_BadStep (L : Lk K mg cc f fd) : FnOk P w K mg base (L2.CX P w) 1 (f 22) (fd 22) nI0 (iniSp K (cc "BadStep") ["word"]) := ini1 L.F22 scI0 rfl rfl (fun _ _ _ _ _ _ => ps_ost (pe_var rfl (.inl rfl)) (pe_var rfl (.inl rfl)))
theorem Lk.kb0 (L : Lk K mg cc f fd) : KB K (fd 7) p7 0 ["signal", "net"] [1, 0] := FunD_kb L.F7 fun _ _ _ _ _ _ us ws hu hw => match us, ws, hu, hw with | [], [_, _], _, _ => rfl
theorem Lk.kb1 (L : Lk K mg cc f fd) : KB K (fd 6) p6 0 ["name", "net"] [1, 0] := FunD_kb L.F6 fun _ _ _ _ _ _ us ws hu hw => match us, ws, hu, hw with | [], [_, _], _, _ => rfl
theorem Lk.kb2 (L : Lk K mg cc f fd) : KB K (fd 3) p3 0 ["net"] [0] := FunD_kb L.F3 fun _ _ _ _ _ _ us ws hu hw => match us, ws, hu, hw with | [], [_], _, _ => rfl
theorem Lk.kb3 (L : Lk K mg cc f fd) : KB K (fd 2) p2 0 ["net"] [0] := FunD_kb L.F2 fun _ _ _ _ _ _ us ws hu hw => match us, ws, hu, hw with | [], [_], _, _ => rfl
theorem Lk.kb4 (L : Lk K mg cc f fd) : KB K (fd 1) p1 0 ["net"] [0] := FunD_kb L.F1 fun _ _ _ _ _ _ us ws hu hw => match us, ws, hu, hw with | [], [_], _, _ => rfl
theorem bd0 (L : Lk K mg cc f fd)  {cdv : Value} {Ar : Around} {outer : List PySem.Env} {s : Shared} {H : Hp} {E : XK} (hr : Room k (XC P w K mg base n0 "signal_count" s0 (f 0) cdv Ar outer s H E).A) :
    QSs (XC P w K mg base n0 "signal_count" s0 (f 0) cdv Ar outer s H E) cc (WE0 E) A0 (defBody s0) (xss G Γ q0) := by
  have hN : (n0).Nodup := sc0.nd
  exact (qss_cons (qs_ret (qe_bin or_add (qf_gen (qe_callB1 cr_lenR rfl L.m_len (by decide +kernel) (by decide) (by decide) (lo_p (lp_idx (hu_of hr) (lp_var (pv 0)) lp_int (fun _ _ => rfl))) rfl) (fun _ h => nomatch h)) (lo_gen rfl (qe_callB1 cr_lenR rfl L.m_len (by decide +kernel) (by decide) (by decide) (lo_p (lp_idx (hu_of hr) (lp_var (pv 0)) lp_int (fun _ _ => rfl))) rfl)))) qss_nil)
theorem ok0 (L : Lk K mg cc f fd)  {sp : CP.Sp} (hsp : ∀ ms Q E, sp ms Q E → bodySp p0.length n0.length A0 (xss G Γ b0) ms Q E) : FnOk P w K mg base (L2.CX P w) (k + 1) (f 0) (fd 0) p0 (toSp K cc p0.length sp) :=
  fnCP L.F0 sc0 (fun cdv Ar outer s H E hr => by rw [e0]; exact bd0 L  hr) hsp
theorem bd1 (L : Lk K mg cc f fd) (C0 : FnOk P w K mg base (L2.CX P w) k (f 0) (fd 0) p0 (toSp K cc p0.length (Γ 0))) {cdv : Value} {Ar : Around} {outer : List PySem.Env} {s : Shared} {H : Hp} {E : XK} (hr : Room k (XC P w K mg base n1 "spans_of" s1 (f 1) cdv Ar outer s H E).A) :
    QSs (XC P w K mg base n1 "spans_of" s1 (f 1) cdv Ar outer s H E) cc (WE0 E) A1 (defBody s1) (xss G Γ q1) := by
  have hN : (n1).Nodup := sc1.nd
  exact (qss_cons (qs_asg (qe_bin or_mul (qf_gen (qe_lst (qm_of (qa_cons (fun _ h => nomatch h) (qe_p lp_int) qa_nil rfl)) (by decide)) (fun _ h => nomatch h)) (lo_gen rfl (qe_call C0 hr tkC rfl L.g0 L.F0.kp L.b0 (qa_var (pv 0) qa_nil rfl) (by decide) rfl rfl))) (qg_v (pg_name hN rfl (by first | exact Or.inl rfl | exact Or.inr rfl) (.inl rfl)) (by decide)) rfl rfl rfl) (qss_cons (qs_for (Ab := [2, 3, 4, 5]) (fx := []) paC rfl (qi_seq (lh_p (lp_idx (hu_of hr) (lp_var (pv 0)) lp_int (fun _ _ => rfl)))) (qg_tup rfl (qgs_cons (qg_v (pg_name hN rfl (by first | exact Or.inl rfl | exact Or.inr rfl) (.inl rfl)) (by decide)) (qgs_cons (qg_v (pg_name hN rfl (by first | exact Or.inl rfl | exact Or.inr rfl) (.inl rfl)) (by decide)) qgs_nil rfl) rfl) rfl rfl) (qss_cons (qs_for (Ab := [2, 4, 5]) (fx := [3]) paC rfl (qi_seq (lh_var (pv 3) (by decide))) (qg_tup rfl (qgs_cons (qg_v (pg_name hN rfl (by first | exact Or.inl rfl | exact Or.inr rfl) (.inl rfl)) (by decide)) (qgs_cons (qg_v (pg_name hN rfl (by first | exact Or.inl rfl | exact Or.inr rfl) (.inl rfl)) (by decide)) (qgs_cons (qg_v (pg_name hN rfl (by first | exact Or.inl rfl | exact Or.inr rfl) (.inl rfl)) (by decide)) qgs_nil rfl) rfl) rfl) rfl rfl) (qss_cons (qs_subv (hu_of hr) (pv 1) (qe_v (pv 4)) (qe_call2 (cr_max2 rfl) rfl L.m_max (by decide +kernel) (by decide) (by decide) (qf_gen (qe_p (lp_idx (hu_of hr) (lp_var (pv 1)) (lp_var (pv 4)) (fun _ _ => rfl))) (fun _ h => nomatch h)) (lo_var (pv 5)) rfl rfl) rfl rfl rfl (fun _ => rfl)) qss_nil) (fun _ => rfl) (by decide) (by decide)) qss_nil) (fun _ => rfl) (by decide) (by decide)) (qss_cons (qs_ret (qe_callT1 cr_tupleR rfl L.m_tuple (by decide +kernel) (by decide) (by decide) (lo_var (pv 1)) rfl)) qss_nil)))
theorem ok1 (L : Lk K mg cc f fd) (C0 : FnOk P w K mg base (L2.CX P w) k (f 0) (fd 0) p0 (toSp K cc p0.length (Γ 0))) {sp : CP.Sp} (hsp : ∀ ms Q E, sp ms Q E → bodySp p1.length n1.length A1 (xss G Γ b1) ms Q E) : FnOk P w K mg base (L2.CX P w) (k + 1) (f 1) (fd 1) p1 (toSp K cc p1.length sp) :=
  fnCP L.F1 sc1 (fun cdv Ar outer s H E hr => by rw [e1]; exact bd1 L C0 hr) hsp
theorem bd2 (L : Lk K mg cc f fd) (C1 : FnOk P w K mg base (L2.CX P w) k (f 1) (fd 1) p1 (toSp K cc p1.length (Γ 1))) {cdv : Value} {Ar : Around} {outer : List PySem.Env} {s : Shared} {H : Hp} {E : XK} (hr : Room k (XC P w K mg base n2 "cell_number" s2 (f 2) cdv Ar outer s H E).A) :
    QSs (XC P w K mg base n2 "cell_number" s2 (f 2) cdv Ar outer s H E) cc (WE0 E) A2 (defBody s2) (xss G Γ q2) := by
  have hN : (n2).Nodup := sc2.nd
  exact (qss_cons (qs_ret (qe_callB1 (cr_sumR rfl) rfl L.m_sum (by decide +kernel) (by decide) (by decide) (lo_gen rfl (qe_call C1 hr tkC rfl L.g1 L.F1.kp L.b1 (qa_var (pv 0) qa_nil rfl) (by decide) rfl rfl)) rfl)) qss_nil)
theorem ok2 (L : Lk K mg cc f fd) (C1 : FnOk P w K mg base (L2.CX P w) k (f 1) (fd 1) p1 (toSp K cc p1.length (Γ 1))) {sp : CP.Sp} (hsp : ∀ ms Q E, sp ms Q E → bodySp p2.length n2.length A2 (xss G Γ b2) ms Q E) : FnOk P w K mg base (L2.CX P w) (k + 1) (f 2) (fd 2) p2 (toSp K cc p2.length sp) :=
  fnCP L.F2 sc2 (fun cdv Ar outer s H E hr => by rw [e2]; exact bd2 L C1 hr) hsp
theorem bd3 (L : Lk K mg cc f fd)  {cdv : Value} {Ar : Around} {outer : List PySem.Env} {s : Shared} {H : Hp} {E : XK} (hr : Room k (XC P w K mg base n3 "signal_names" s3 (f 3) cdv Ar outer s H E).A) :
    QSs (XC P w K mg base n3 "signal_names" s3 (f 3) cdv Ar outer s H E) cc (WE0 E) A3 (defBody s3) (xss G Γ q3) := by
  have hN : (n3).Nodup := sc3.nd
  exact (qss_cons (qs_ret (qe_callT1 cr_tuplekR rfl L.m_tuple (by decide +kernel) (by decide) (by decide) (lo_gen rfl (qe_lc (fx := []) (own := [("part", 1)]) rfl hN (qi_seq (lh_gen rfl (qe_bin or_add (qf_gen (qe_p (lp_idx (hu_of hr) (lp_var (pv 0)) lp_int (fun _ _ => rfl))) (fun _ h => nomatch h)) (lo_p (lp_idx (hu_of hr) (lp_var (pv 0)) lp_int (fun _ _ => rfl)))))) (show BlkOk n3 (defScope s3) _ _ from ⟨rfl, by decide +kernel, by decide +kernel, by decide +kernel, by decide +kernel⟩) (fun _ _ _ _ _ => (qg_v (pg_name hN rfl (by first | exact Or.inl rfl | exact Or.inr rfl) (.inr rfl)) (by decide))) (fun _ _ _ _ _ => qts_nil) (fun _ _ _ _ _ => (qe_p (lp_idx (hu_of hr) (lp_var (pv 1)) lp_int (fun _ _ => rfl)))) (fun _ => rfl))) rfl)) qss_nil)
theorem ok3 (L : Lk K mg cc f fd)  {sp : CP.Sp} (hsp : ∀ ms Q E, sp ms Q E → bodySp p3.length n3.length A3 (xss G Γ b3) ms Q E) : FnOk P w K mg base (L2.CX P w) (k + 1) (f 3) (fd 3) p3 (toSp K cc p3.length sp) :=
  fnCP L.F3 sc3 (fun cdv Ar outer s H E hr => by rw [e3]; exact bd3 L  hr) hsp
theorem bd4 (L : Lk K mg cc f fd) (hk : 2 ≤ k)  {cdv : Value} {Ar : Around} {outer : List PySem.Env} {s : Shared} {H : Hp} {E : XK} (hr : Room k (XC P w K mg base n4 "number_or_raise" s4 (f 4) cdv Ar outer s H E).A) :
    QSs (XC P w K mg base n4 "number_or_raise" s4 (f 4) cdv Ar outer s H E) cc (WE0 E) A4 (defBody s4) (xss G Γ q4) := by
  have hN : (n4).Nodup := sc4.nd
  exact (qss_cons (qs_ife (qt_not (qt_chain or_le or_lt rfl (qe_p lp_int) (qe_v (pv 1)) (qe_v (pv 0)) (by with_unfolding_all rfl))) (qss_cons (qs_rai (n := 1) rfl tkC L.ex rfl fl_BadStep L.iC_BadStep L.tI_BadStep (in_BadStep L) (hr.mono hk) L.bI_BadStep (passes_call tkC (fun _ _ _ _ z => z.elim)) rfl L.gc_BadStep (by decide) (by decide) (qm_of (qa_var (pv 2) qa_nil rfl)) rfl rfl) qss_nil) qss_nil) qss_nil)
theorem ok4 (L : Lk K mg cc f fd) (hk : 2 ≤ k)  {sp : CP.Sp} (hsp : ∀ ms Q E, sp ms Q E → bodySp p4.length n4.length A4 (xss G Γ b4) ms Q E) : FnOk P w K mg base (L2.CX P w) (k + 1) (f 4) (fd 4) p4 (toSp K cc p4.length sp) :=
  fnCP L.F4 sc4 (fun cdv Ar outer s H E hr => by rw [e4]; exact bd4 L hk  hr) hsp
theorem bd5 (L : Lk K mg cc f fd) (C0 : FnOk P w K mg base (L2.CX P w) k (f 0) (fd 0) p0 (toSp K cc p0.length (Γ 0))) (C4 : FnOk P w K mg base (L2.CX P w) k (f 4) (fd 4) p4 (toSp K cc p4.length (Γ 4))) {cdv : Value} {Ar : Around} {outer : List PySem.Env} {s : Shared} {H : Hp} {E : XK} (hr : Room k (XC P w K mg base n5 "signal_or_raise" s5 (f 5) cdv Ar outer s H E).A) :
    QSs (XC P w K mg base n5 "signal_or_raise" s5 (f 5) cdv Ar outer s H E) cc (WE0 E) A5 (defBody s5) (xss G Γ q5) := by
  have hN : (n5).Nodup := sc5.nd
  exact (qss_cons (qs_exp (qe_call C4 hr tkC rfl L.g4 L.F4.kp L.b4 (qa_cons (fun _ h => nomatch h) (qe_call C0 hr tkC rfl L.g0 L.F0.kp L.b0 (qa_var (pv 0) qa_nil rfl) (by decide) rfl rfl) (qa_var (pv 1) (qa_cons (fun _ h => nomatch h) (qe_p lp_str) qa_nil rfl) rfl) rfl) (by decide) rfl rfl) rfl) qss_nil)
theorem ok5 (L : Lk K mg cc f fd) (C0 : FnOk P w K mg base (L2.CX P w) k (f 0) (fd 0) p0 (toSp K cc p0.length (Γ 0))) (C4 : FnOk P w K mg base (L2.CX P w) k (f 4) (fd 4) p4 (toSp K cc p4.length (Γ 4))) {sp : CP.Sp} (hsp : ∀ ms Q E, sp ms Q E → bodySp p5.length n5.length A5 (xss G Γ b5) ms Q E) : FnOk P w K mg base (L2.CX P w) (k + 1) (f 5) (fd 5) p5 (toSp K cc p5.length sp) :=
  fnCP L.F5 sc5 (fun cdv Ar outer s H E hr => by rw [e5]; exact bd5 L C0 C4 hr) hsp
theorem bd6 (L : Lk K mg cc f fd) (hk : 2 ≤ k) (C3 : FnOk P w K mg base (L2.CX P w) k (f 3) (fd 3) p3 (toSp K cc p3.length (Γ 3))) {cdv : Value} {Ar : Around} {outer : List PySem.Env} {s : Shared} {H : Hp} {E : XK} (hr : Room k (XC P w K mg base n6 "signal_number" s6 (f 6) cdv Ar outer s H E).A) :
    QSs (XC P w K mg base n6 "signal_number" s6 (f 6) cdv Ar outer s H E) cc (WE0 E) A6 (defBody s6) (xss G Γ q6) := by
  have hN : (n6).Nodup := sc6.nd
  exact (qss_cons (qs_asg (qe_call C3 hr tkC rfl L.g3 L.F3.kp L.b3 (qa_var (pv 0) qa_nil rfl) (by decide) rfl rfl) (qg_v (pg_name hN rfl (by first | exact Or.inl rfl | exact Or.inr rfl) (.inl rfl)) (by decide)) rfl rfl rfl) (qss_cons (qs_ife (qt_cmp rfl (or_nin (hu_of hr)) (pv 1) (lo_var (pv 2)) (by with_unfolding_all rfl)) (qss_cons (qs_rai (n := 1) rfl tkC L.ex rfl fl_BadStep L.iC_BadStep L.tI_BadStep (in_BadStep L) (hr.mono hk) L.bI_BadStep (passes_call tkC (fun _ _ _ _ z => z.elim)) rfl L.gc_BadStep (by decide) (by decide) (qm_of (qa_cons (fun _ h => nomatch h) (qe_p lp_str) qa_nil rfl)) rfl rfl) qss_nil) qss_nil) (qss_cons (qs_ret (qe_index rfl (pv 2) (lo_var (pv 1)) rfl rfl rfl rfl)) qss_nil)))
theorem ok6 (L : Lk K mg cc f fd) (hk : 2 ≤ k) (C3 : FnOk P w K mg base (L2.CX P w) k (f 3) (fd 3) p3 (toSp K cc p3.length (Γ 3))) {sp : CP.Sp} (hsp : ∀ ms Q E, sp ms Q E → bodySp p6.length n6.length A6 (xss G Γ b6) ms Q E) : FnOk P w K mg base (L2.CX P w) (k + 1) (f 6) (fd 6) p6 (toSp K cc p6.length sp) :=
  fnCP L.F6 sc6 (fun cdv Ar outer s H E hr => by rw [e6]; exact bd6 L hk C3 hr) hsp
theorem bd7 (L : Lk K mg cc f fd) (C5 : FnOk P w K mg base (L2.CX P w) k (f 5) (fd 5) p5 (toSp K cc p5.length (Γ 5))) {cdv : Value} {Ar : Around} {outer : List PySem.Env} {s : Shared} {H : Hp} {E : XK} (hr : Room k (XC P w K mg base n7 "users_of" s7 (f 7) cdv Ar outer s H E).A) :
    QSs (XC P w K mg base n7 "users_of" s7 (f 7) cdv Ar outer s H E) cc (WE0 E) A7 (defBody s7) (xss G Γ q7) := by
  have hN : (n7).Nodup := sc7.nd
  exact (qss_cons (qs_exp (qe_call C5 hr tkC rfl L.g5 L.F5.kp L.b5 (qa_var (pv 0) (qa_var (pv 1) qa_nil rfl) rfl) (by decide) rfl rfl) rfl) (qss_cons (qs_ret (qe_callT1 cr_tupleR rfl L.m_tuple (by decide +kernel) (by decide) (by decide) (lo_gen rfl (qe_lc (fx := []) (own := [("s", 2), ("_", 3), ("terms", 4)]) rfl hN (qi_enum rfl L.m_enumerate (lh_p (lp_idx (hu_of hr) (lp_var (pv 0)) lp_int (fun _ _ => rfl))) rfl) (show BlkOk n7 (defScope s7) _ _ from ⟨rfl, by decide +kernel, by decide +kernel, by decide +kernel, by decide +kernel⟩) (fun _ _ _ _ _ => (qg_tup rfl (qgs_cons (qg_v (pg_name hN rfl (by first | exact Or.inl rfl | exact Or.inr rfl) (.inr rfl)) (by decide)) (qgs_cons (qg_tup rfl (qgs_cons (qg_v (pg_name hN rfl (by first | exact Or.inl rfl | exact Or.inr rfl) (.inr rfl)) (by decide)) (qgs_cons (qg_v (pg_name hN rfl (by first | exact Or.inl rfl | exact Or.inr rfl) (.inr rfl)) (by decide)) qgs_nil rfl) rfl) rfl rfl) qgs_nil rfl) rfl) rfl rfl)) (fun _ _ _ _ _ => (qts_one (qt_cmp rfl (or_in (hu_of hr)) (pv 1) (lo_gen rfl (qe_lc (fx := [4]) (own := [("term", 5)]) rfl hN (qi_seq (lh_var (pv 4) (by decide))) (blk2 rfl (show BlkOk n7 (relabel _ (env0 (defScope s7))) _ _ from ⟨rfl, by decide +kernel, by decide +kernel, by decide +kernel, by decide +kernel⟩)) (fun _ _ _ _ _ => (qg_v (pg_name hN rfl (by first | exact Or.inl rfl | exact Or.inr rfl) (.inr rfl)) (by decide))) (fun _ _ _ _ _ => qts_nil) (fun _ _ _ _ _ => (qe_p (lp_idx (hu_of hr) (lp_var (pv 5)) lp_int (fun _ _ => rfl)))) (fun _ => rfl))) (by with_unfolding_all rfl)))) (fun _ _ _ _ _ => (qe_v (pv 2))) (fun _ => rfl))) rfl)) qss_nil))
theorem ok7 (L : Lk K mg cc f fd) (C5 : FnOk P w K mg base (L2.CX P w) k (f 5) (fd 5) p5 (toSp K cc p5.length (Γ 5))) {sp : CP.Sp} (hsp : ∀ ms Q E, sp ms Q E → bodySp p7.length n7.length A7 (xss G Γ b7) ms Q E) : FnOk P w K mg base (L2.CX P w) (k + 1) (f 7) (fd 7) p7 (toSp K cc p7.length sp) :=
  fnCP L.F7 sc7 (fun cdv Ar outer s H E hr => by rw [e7]; exact bd7 L C5 hr) hsp
theorem bd8 (L : Lk K mg cc f fd)  {cdv : Value} {Ar : Around} {outer : List PySem.Env} {s : Shared} {H : Hp} {E : XK} (hr : Room k (XC P w K mg base n8 "_law_urn" s8 (f 8) cdv Ar outer s H E).A) :
    QSs (XC P w K mg base n8 "_law_urn" s8 (f 8) cdv Ar outer s H E) cc (WE0 E) A8 (defBody s8) (xss G Γ q8) := by
  have hN : (n8).Nodup := sc8.nd
  exact (qss_cons (qs_asg (qe_p lp_int) (qg_v (pg_name hN rfl (by first | exact Or.inl rfl | exact Or.inr rfl) (.inl rfl)) (by decide)) rfl rfl rfl) (qss_cons (qs_asg (qe_lst (qm_of qa_nil) (by decide)) (qg_v (pg_name hN rfl (by first | exact Or.inl rfl | exact Or.inr rfl) (.inl rfl)) (by decide)) rfl rfl rfl) (qss_cons (qs_for (Ab := [1, 3, 4, 5]) (fx := []) paC rfl (qi_rng1 rfl L.m_range (qe_call2 (cr_min2 rfl) rfl L.m_min (by decide +kernel) (by decide) (by decide) (qf_gen (qe_callB1 cr_lenR rfl L.m_len (by decide +kernel) (by decide) (by decide) (lo_var (pv 0)) rfl) (fun _ h => nomatch h)) (lo_p lp_int) rfl rfl) rfl) (qg_v (pg_name hN rfl (by first | exact Or.inl rfl | exact Or.inr rfl) (.inl rfl)) (by decide)) (qss_cons (qs_asg (qe_callB1 cr_absR rfl L.m_abs (by decide +kernel) (by decide) (by decide) (lo_gen rfl (qe_callT1 cr_intR rfl L.m_int (by decide +kernel) (by decide) (by decide) (lo_p (lp_idx (hu_of hr) (lp_var (pv 0)) (lp_var (pv 3)) (fun _ _ => rfl))) rfl)) rfl) (qg_v (pg_name hN rfl (by first | exact Or.inl rfl | exact Or.inr rfl) (.inl rfl)) (by decide)) rfl rfl rfl) (qss_cons (qs_asg (qe_bin or_mod (qf_gen (qe_callT1 cr_intR rfl L.m_int (by decide +kernel) (by decide) (by decide) (lo_gen rfl (qe_bin or_add (qf_gen (qe_bin or_add (qf_gen (qe_bin or_add (qf_gen (qe_bin or_mul (pv 1) (lo_p lp_int)) (fun _ h => nomatch h)) (lo_gen rfl (qe_bin or_mod (pv 4) (lo_p lp_int)))) (fun _ h => nomatch h)) (lo_gen rfl (qe_bin or_mul (qf_gen (qe_p lp_int) (fun _ h => nomatch h)) (lo_var (pv 3))))) (fun _ h => nomatch h)) (lo_p lp_int))) rfl) (fun _ h => nomatch h)) (lo_p lp_int)) (qg_v (pg_name hN rfl (by first | exact Or.inl rfl | exact Or.inr rfl) (.inl rfl)) (by decide)) rfl rfl rfl) (qss_cons (qs_ife (QW.qt (qw_and (qt_cmp rfl or_ge (pv 4) (lo_gen rfl (qe_bin or_pow (qf_gen (qe_p lp_int) (fun _ h => nomatch h)) (lo_p lp_int))) (nomark _)) (qw_and1 (qt_cmp rfl or_lt (qf_gen (qe_callB1 cr_lenR rfl L.m_len (by decide +kernel) (by decide) (by decide) (lo_var (pv 2)) rfl) (fun _ h => nomatch h)) (lo_p lp_int) (nomark _))))) (qss_cons (qs_for (Ab := [4, 5]) (fx := []) paC rfl (qi_rng1 rfl L.m_range (qe_p lp_int) rfl) (qg_v (pg_name hN rfl (by first | exact Or.inl rfl | exact Or.inr rfl) (.inl rfl)) (by decide)) (qss_cons (qs_ife (qt_cmp rfl (or_eq hr.units) (pv 4) (lo_p lp_int) (nomark _)) (qss_cons qs_brk qss_nil) qss_nil) (qss_cons (qs_exp (qe_app (pv 2) (qe_bin or_mod (pv 4) (lo_p lp_int)) rfl rfl rfl rfl) rfl) (qss_cons (qs_asg (qe_bin or_fdiv (pv 4) (lo_p lp_int)) (qg_v (pg_name hN rfl (by first | exact Or.inl rfl | exact Or.inr rfl) (.inl rfl)) (by decide)) rfl rfl rfl) qss_nil))) (fun _ => rfl) (by decide) (by decide)) qss_nil) qss_nil) qss_nil))) (fun _ => rfl) (by decide) (by decide)) (qss_cons (qs_ret (qe_lst (qm_of (qa_var (pv 1) (qa_cons (fun _ h => nomatch h) (qe_p lp_int) (qa_var (pv 2) qa_nil rfl) rfl) rfl)) (by decide))) qss_nil))))
theorem ok8 (L : Lk K mg cc f fd)  {sp : CP.Sp} (hsp : ∀ ms Q E, sp ms Q E → bodySp p8.length n8.length A8 (xss G Γ b8) ms Q E) : FnOk P w K mg base (L2.CX P w) (k + 1) (f 8) (fd 8) p8 (toSp K cc p8.length sp) :=
  fnCP L.F8 sc8 (fun cdv Ar outer s H E hr => by rw [e8]; exact bd8 L  hr) hsp
theorem bd9 (L : Lk K mg cc f fd)  {cdv : Value} {Ar : Around} {outer : List PySem.Env} {s : Shared} {H : Hp} {E : XK} (hr : Room k (XC P w K mg base n9 "_law_sip" s9 (f 9) cdv Ar outer s H E).A) :
    QSs (XC P w K mg base n9 "_law_sip" s9 (f 9) cdv Ar outer s H E) cc (WE0 E) A9 (defBody s9) (xss G Γ q9) := by
  have hN : (n9).Nodup := sc9.nd
  exact (qss_cons (qs_asg (qe_p (lp_idx (hu_of hr) (lp_var (pv 0)) lp_int (fun _ _ => rfl))) (qg_v (pg_name hN rfl (by first | exact Or.inl rfl | exact Or.inr rfl) (.inl rfl)) (by decide)) rfl rfl rfl) (qss_cons (qs_subv (hu_of hr) (pv 0) (qe_p lp_int) (qe_bin or_add (pv 2) (lo_p lp_int)) rfl rfl rfl (fun _ => rfl)) (qss_cons (qs_ife (qt_cmp rfl or_lt (pv 2) (lo_gen rfl (qe_callB1 cr_lenR rfl L.m_len (by decide +kernel) (by decide) (by decide) (lo_p (lp_idx (hu_of hr) (lp_var (pv 0)) lp_int (fun _ _ => rfl))) rfl)) (nomark _)) (qss_cons (qs_ret (qe_bin or_mod (qf_gen (qe_callT1 cr_intR rfl L.m_int (by decide +kernel) (by decide) (by decide) (lo_p (lp_idx (hu_of hr) (lp_idx (hu_of hr) (lp_var (pv 0)) lp_int (fun _ _ => rfl)) (lp_var (pv 2)) (fun _ _ => rfl))) rfl) (fun _ h => nomatch h)) (lo_var (pv 1)))) qss_nil) qss_nil) (qss_cons (qs_subv (hu_of hr) (pv 0) (qe_p lp_int) (qe_bin or_mod (qf_gen (qe_callT1 cr_intR rfl L.m_int (by decide +kernel) (by decide) (by decide) (lo_gen rfl (qe_bin or_add (qf_gen (qe_bin or_add (qf_gen (qe_bin or_mul (qf_gen (qe_p (lp_idx (hu_of hr) (lp_var (pv 0)) lp_int (fun _ _ => rfl))) (fun _ h => nomatch h)) (lo_p lp_int)) (fun _ h => nomatch h)) (lo_gen rfl (qe_bin or_mul (pv 2) (lo_p lp_int)))) (fun _ h => nomatch h)) (lo_p lp_int))) rfl) (fun _ h => nomatch h)) (lo_p lp_int)) rfl rfl rfl (fun _ => rfl)) (qss_cons (qs_ret (qe_bin or_mod (qf_gen (qe_bin or_fdiv (qf_gen (qe_p (lp_idx (hu_of hr) (lp_var (pv 0)) lp_int (fun _ _ => rfl))) (fun _ h => nomatch h)) (lo_p lp_int)) (fun _ h => nomatch h)) (lo_var (pv 1)))) qss_nil)))))
theorem ok9 (L : Lk K mg cc f fd)  {sp : CP.Sp} (hsp : ∀ ms Q E, sp ms Q E → bodySp p9.length n9.length A9 (xss G Γ b9) ms Q E) : FnOk P w K mg base (L2.CX P w) (k + 1) (f 9) (fd 9) p9 (toSp K cc p9.length sp) :=
  fnCP L.F9 sc9 (fun cdv Ar outer s H E hr => by rw [e9]; exact bd9 L  hr) hsp
theorem bd10 (L : Lk K mg cc f fd) (C9 : FnOk P w K mg base (L2.CX P w) k (f 9) (fd 9) p9 (toSp K cc p9.length (Γ 9))) {cdv : Value} {Ar : Around} {outer : List PySem.Env} {s : Shared} {H : Hp} {E : XK} (hr : Room k (XC P w K mg base n10 "_law_names" s10 (f 10) cdv Ar outer s H E).A) :
    QSs (XC P w K mg base n10 "_law_names" s10 (f 10) cdv Ar outer s H E) cc (WE0 E) A10 (defBody s10) (xss G Γ q10) := by
  have hN : (n10).Nodup := sc10.nd
  exact (qss_cons (qs_asg (qe_lst (qm_of (qa_cons (fun _ h => nomatch h) (qe_p lp_str) (qa_cons (fun _ h => nomatch h) (qe_p lp_str) (qa_cons (fun _ h => nomatch h) (qe_p lp_str) (qa_cons (fun _ h => nomatch h) (qe_p lp_str) (qa_cons (fun _ h => nomatch h) (qe_p lp_str) (qa_cons (fun _ h => nomatch h) (qe_p lp_str) (qa_cons (fun _ h => nomatch h) (qe_p lp_str) (qa_cons (fun _ h => nomatch h) (qe_p lp_str) (qa_cons (fun _ h => nomatch h) (qe_p lp_str) (qa_cons (fun _ h => nomatch h) (qe_p lp_str) (qa_cons (fun _ h => nomatch h) (qe_p lp_str) (qa_cons (fun _ h => nomatch h) (qe_p lp_str) (qa_cons (fun _ h => nomatch h) (qe_p lp_str) (qa_cons (fun _ h => nomatch h) (qe_p lp_str) (qa_cons (fun _ h => nomatch h) (qe_p lp_str) (qa_cons (fun _ h => nomatch h) (qe_p lp_str) (qa_cons (fun _ h => nomatch h) (qe_p lp_str) (qa_cons (fun _ h => nomatch h) (qe_p lp_str) qa_nil rfl) rfl) rfl) rfl) rfl) rfl) rfl) rfl) rfl) rfl) rfl) rfl) rfl) rfl) rfl) rfl) rfl) rfl)) (by decide)) (qg_v (pg_name hN rfl (by first | exact Or.inl rfl | exact Or.inr rfl) (.inl rfl)) (by decide)) rfl rfl rfl) (qss_cons (qs_asg (qe_bin or_add (pv 3) (lo_gen rfl (qe_lst (qm_of (qa_cons (fun _ h => nomatch h) (qe_p lp_str) (qa_cons (fun _ h => nomatch h) (qe_p lp_str) (qa_cons (fun _ h => nomatch h) (qe_p lp_str) (qa_cons (fun _ h => nomatch h) (qe_p lp_str) (qa_cons (fun _ h => nomatch h) (qe_p lp_str) (qa_cons (fun _ h => nomatch h) (qe_p lp_str) qa_nil rfl) rfl) rfl) rfl) rfl) rfl)) (by decide)))) (qg_v (pg_name hN rfl (by first | exact Or.inl rfl | exact Or.inr rfl) (.inl rfl)) (by decide)) rfl rfl rfl) (qss_cons (qs_asg (qe_call C9 hr tkC rfl L.g9 L.F9.kp L.b9 (qa_var (pv 0) (qa_cons (fun _ h => nomatch h) (qe_p lp_int) qa_nil rfl) rfl) (by decide) rfl rfl) (qg_v (pg_name hN rfl (by first | exact Or.inl rfl | exact Or.inr rfl) (.inl rfl)) (by decide)) rfl rfl rfl) (qss_cons (qs_ret (qe_lc (fx := []) (own := [("k", 5)]) rfl hN (qi_rng1 rfl L.m_range (qe_v (pv 1)) rfl) (show BlkOk n10 (defScope s10) _ _ from ⟨rfl, by decide +kernel, by decide +kernel, by decide +kernel, by decide +kernel⟩) (fun _ _ _ _ _ => (qg_v (pg_name hN rfl (by first | exact Or.inl rfl | exact Or.inr rfl) (.inr rfl)) (by decide))) (fun _ _ _ _ _ => qts_nil) (fun _ _ _ _ _ => (qe_bin or_add (qf_gen (qe_idx (hu_of hr) (pv 3) (lo_gen rfl (qe_bin or_mod (qf_gen (qe_bin or_add (pv 4) (lo_gen rfl (qe_bin or_mul (qf_gen (qe_p lp_int) (fun _ h => nomatch h)) (lo_var (pv 5))))) (fun _ h => nomatch h)) (lo_p lp_int))) (fun _ _ => rfl)) (fun _ h => nomatch h)) (lo_var (pv 2)))) (fun _ => rfl))) qss_nil))))
theorem ok10 (L : Lk K mg cc f fd) (C9 : FnOk P w K mg base (L2.CX P w) k (f 9) (fd 9) p9 (toSp K cc p9.length (Γ 9))) {sp : CP.Sp} (hsp : ∀ ms Q E, sp ms Q E → bodySp p10.length n10.length A10 (xss G Γ b10) ms Q E) : FnOk P w K mg base (L2.CX P w) (k + 1) (f 10) (fd 10) p10 (toSp K cc p10.length sp) :=
  fnCP L.F10 sc10 (fun cdv Ar outer s H E hr => by rw [e10]; exact bd10 L C9 hr) hsp
theorem bd11 (L : Lk K mg cc f fd) (C9 : FnOk P w K mg base (L2.CX P w) k (f 9) (fd 9) p9 (toSp K cc p9.length (Γ 9))) {cdv : Value} {Ar : Around} {outer : List PySem.Env} {s : Shared} {H : Hp} {E : XK} (hr : Room k (XC P w K mg base n11 "_law_gain" s11 (f 11) cdv Ar outer s H E).A) :
    QSs (XC P w K mg base n11 "_law_gain" s11 (f 11) cdv Ar outer s H E) cc (WE0 E) A11 (defBody s11) (xss G Γ q11) := by
  have hN : (n11).Nodup := sc11.nd
  exact (qss_cons (qs_asg (qe_call C9 hr tkC rfl L.g9 L.F9.kp L.b9 (qa_var (pv 0) (qa_cons (fun _ h => nomatch h) (qe_p lp_int) qa_nil rfl) rfl) (by decide) rfl rfl) (qg_v (pg_name hN rfl (by first | exact Or.inl rfl | exact Or.inr rfl) (.inl rfl)) (by decide)) rfl rfl rfl) (qss_cons (qs_ife (qt_cmp rfl or_lt (pv 1) (lo_p lp_int) (nomark _)) (qss_cons (qs_ret (qe_idx (hu_of hr) (qf_gen (qe_lst (qm_of (qa_cons (fun _ h => nomatch h) (qe_p lp_int) (qa_cons (fun _ h => nomatch h) (qe_un un_negR (lo_p lp_int)) (qa_cons (fun _ h => nomatch h) (qe_p lp_int) (qa_cons (fun _ h => nomatch h) (qe_un un_negR (lo_p lp_int)) (qa_cons (fun _ h => nomatch h) (qe_p lp_int) (qa_cons (fun _ h => nomatch h) (qe_p lp_int) qa_nil rfl) rfl) rfl) rfl) rfl) rfl)) (by decide)) (fun _ h => nomatch h)) (lo_var (pv 1)) (fun _ _ => rfl))) qss_nil) qss_nil) (qss_cons (qs_ret (qe_ife (qt_cmp rfl (or_eq hr.units) (pv 1) (lo_p lp_int) (nomark _)) (qe_idx (hu_of hr) (qf_gen (qe_lst (qm_of (qa_cons (fun _ h => nomatch h) (qe_p lp_int) (qa_cons (fun _ h => nomatch h) (qe_un un_negR (lo_p lp_int)) (qa_cons (fun _ h => nomatch h) (qe_p lp_int) (qa_cons (fun _ h => nomatch h) (qe_un un_negR (lo_p lp_int)) qa_nil rfl) rfl) rfl) rfl)) (by decide)) (fun _ h => nomatch h)) (lo_gen rfl (qe_call C9 hr tkC rfl L.g9 L.F9.kp L.b9 (qa_var (pv 0) (qa_cons (fun _ h => nomatch h) (qe_p lp_int) qa_nil rfl) rfl) (by decide) rfl rfl)) (fun _ _ => rfl)) (qe_bin or_add (qf_gen (qe_p lp_int) (fun _ h => nomatch h)) (lo_gen rfl (qe_call C9 hr tkC rfl L.g9 L.F9.kp L.b9 (qa_var (pv 0) (qa_cons (fun _ h => nomatch h) (qe_p lp_int) qa_nil rfl) rfl) (by decide) rfl rfl))))) qss_nil)))
theorem ok11 (L : Lk K mg cc f fd) (C9 : FnOk P w K mg base (L2.CX P w) k (f 9) (fd 9) p9 (toSp K cc p9.length (Γ 9))) {sp : CP.Sp} (hsp : ∀ ms Q E, sp ms Q E → bodySp p11.length n11.length A11 (xss G Γ b11) ms Q E) : FnOk P w K mg base (L2.CX P w) (k + 1) (f 11) (fd 11) p11 (toSp K cc p11.length sp) :=
  fnCP L.F11 sc11 (fun cdv Ar outer s H E hr => by rw [e11]; exact bd11 L C9 hr) hsp
theorem bd12 (L : Lk K mg cc f fd) (C9 : FnOk P w K mg base (L2.CX P w) k (f 9) (fd 9) p9 (toSp K cc p9.length (Γ 9))) {cdv : Value} {Ar : Around} {outer : List PySem.Env} {s : Shared} {H : Hp} {E : XK} (hr : Room k (XC P w K mg base n12 "_law_range" s12 (f 12) cdv Ar outer s H E).A) :
    QSs (XC P w K mg base n12 "_law_range" s12 (f 12) cdv Ar outer s H E) cc (WE0 E) A12 (defBody s12) (xss G Γ q12) := by
  have hN : (n12).Nodup := sc12.nd
  exact (qss_cons (qs_asg (qe_idx (hu_of hr) (qf_gen (qe_lst (qm_of (qa_cons (fun _ h => nomatch h) (qe_tup (qm_of (qa_cons (fun _ h => nomatch h) (qe_un un_negR (lo_p lp_int)) (qa_cons (fun _ h => nomatch h) (qe_p lp_int) qa_nil rfl) rfl)) (by decide)) (qa_cons (fun _ h => nomatch h) (qe_tup (qm_of (qa_cons (fun _ h => nomatch h) (qe_p lp_int) (qa_cons (fun _ h => nomatch h) (qe_p lp_int) qa_nil rfl) rfl)) (by decide)) (qa_cons (fun _ h => nomatch h) (qe_tup (qm_of (qa_cons (fun _ h => nomatch h) (qe_p lp_int) (qa_cons (fun _ h => nomatch h) (qe_p lp_int) qa_nil rfl) rfl)) (by decide)) (qa_cons (fun _ h => nomatch h) (qe_tup (qm_of (qa_cons (fun _ h => nomatch h) (qe_un un_negR (lo_p lp_int)) (qa_cons (fun _ h => nomatch h) (qe_p lp_int) qa_nil rfl) rfl)) (by decide)) (qa_cons (fun _ h => nomatch h) (qe_tup (qm_of (qa_cons (fun _ h => nomatch h) (qe_p lp_int) (qa_cons (fun _ h => nomatch h) (qe_p lp_int) qa_nil rfl) rfl)) (by decide)) (qa_cons (fun _ h => nomatch h) (qe_tup (qm_of (qa_cons (fun _ h => nomatch h) (qe_un un_negR (lo_p lp_int)) (qa_cons (fun _ h => nomatch h) (qe_un un_negR (lo_p lp_int)) qa_nil rfl) rfl)) (by decide)) qa_nil rfl) rfl) rfl) rfl) rfl) rfl)) (by decide)) (fun _ h => nomatch h)) (lo_gen rfl (qe_call C9 hr tkC rfl L.g9 L.F9.kp L.b9 (qa_var (pv 0) (qa_cons (fun _ h => nomatch h) (qe_p lp_int) qa_nil rfl) rfl) (by decide) rfl rfl)) (fun _ _ => rfl)) (qg_tup rfl (qgs_cons (qg_v (pg_name hN rfl (by first | exact Or.inl rfl | exact Or.inr rfl) (.inl rfl)) (by decide)) (qgs_cons (qg_v (pg_name hN rfl (by first | exact Or.inl rfl | exact Or.inr rfl) (.inl rfl)) (by decide)) qgs_nil rfl) rfl) rfl rfl) rfl rfl rfl) (qss_cons (qs_ret (qe_tup (qm_of (qa_var (pv 1) (qa_cons (fun _ h => nomatch h) (qe_bin or_add (pv 2) (lo_gen rfl (qe_bin or_mul (qf_gen (qe_call C9 hr tkC rfl L.g9 L.F9.kp L.b9 (qa_var (pv 0) (qa_cons (fun _ h => nomatch h) (qe_p lp_int) qa_nil rfl) rfl) (by decide) rfl rfl) (fun _ h => nomatch h)) (lo_gen rfl (qe_cmp or_lt (pv 2) (lo_p lp_int) (nomark _)))))) qa_nil rfl) rfl)) (by decide))) qss_nil))
theorem ok12 (L : Lk K mg cc f fd) (C9 : FnOk P w K mg base (L2.CX P w) k (f 9) (fd 9) p9 (toSp K cc p9.length (Γ 9))) {sp : CP.Sp} (hsp : ∀ ms Q E, sp ms Q E → bodySp p12.length n12.length A12 (xss G Γ b12) ms Q E) : FnOk P w K mg base (L2.CX P w) (k + 1) (f 12) (fd 12) p12 (toSp K cc p12.length sp) :=
  fnCP L.F12 sc12 (fun cdv Ar outer s H E hr => by rw [e12]; exact bd12 L C9 hr) hsp
theorem bd13 (L : Lk K mg cc f fd) (C9 : FnOk P w K mg base (L2.CX P w) k (f 9) (fd 9) p9 (toSp K cc p9.length (Γ 9))) (C11 : FnOk P w K mg base (L2.CX P w) k (f 11) (fd 11) p11 (toSp K cc p11.length (Γ 11))) {cdv : Value} {Ar : Around} {outer : List PySem.Env} {s : Shared} {H : Hp} {E : XK} (hr : Room k (XC P w K mg base n13 "_law_terms" s13 (f 13) cdv Ar outer s H E).A) :
    QSs (XC P w K mg base n13 "_law_terms" s13 (f 13) cdv Ar outer s H E) cc (WE0 E) A13 (defBody s13) (xss G Γ q13) := by
  have hN : (n13).Nodup := sc13.nd
  exact (qss_cons (qs_asg qe_dnT (qg_v (pg_name hN rfl (by first | exact Or.inl rfl | exact Or.inr rfl) (.inl rfl)) (by decide)) rfl rfl rfl) (qss_cons (qs_for (Ab := [6, 7, 8]) (fx := []) paC rfl (qi_rng1 rfl L.m_range (qe_call C9 hr tkC rfl L.g9 L.F9.kp L.b9 (qa_var (pv 0) (qa_cons (fun _ h => nomatch h) (qe_bin or_add (pv 3) (lo_p lp_int)) qa_nil rfl) rfl) (by decide) rfl rfl) rfl) (qg_v (pg_name hN rfl (by first | exact Or.inl rfl | exact Or.inr rfl) (.inl rfl)) (by decide)) (qss_cons (qs_asg (qe_call C9 hr tkC rfl L.g9 L.F9.kp L.b9 (qa_var (pv 0) (qa_var (pv 1) qa_nil rfl) rfl) (by decide) rfl rfl) (qg_v (pg_name hN rfl (by first | exact Or.inl rfl | exact Or.inr rfl) (.inl rfl)) (by decide)) rfl rfl rfl) (qss_cons (qs_asg (qe_call C9 hr tkC rfl L.g9 L.F9.kp L.b9 (qa_var (pv 0) (qa_cons (fun _ h => nomatch h) (qe_bin or_add (pv 4) (lo_p lp_int)) qa_nil rfl) rfl) (by decide) rfl rfl) (qg_v (pg_name hN rfl (by first | exact Or.inl rfl | exact Or.inr rfl) (.inl rfl)) (by decide)) rfl rfl rfl) (qss_cons (qs_ife (QW.qt (qw_and (qt_cmp rfl (or_eq hr.units) (pv 8) (lo_p lp_int) (nomark _)) (qw_and1 (qt_cmp rfl or_ge (pv 7) (lo_var (pv 2)) (nomark _))))) (qss_cons (qs_asg (qe_call C9 hr tkC rfl L.g9 L.F9.kp L.b9 (qa_var (pv 0) (qa_var (pv 2) qa_nil rfl) rfl) (by decide) rfl rfl) (qg_v (pg_name hN rfl (by first | exact Or.inl rfl | exact Or.inr rfl) (.inl rfl)) (by decide)) rfl rfl rfl) qss_nil) qss_nil) (qss_cons (qs_subv (hu_of hr) (pv 5) (qe_tup (qm_of (qa_var (pv 7) (qa_var (pv 8) qa_nil rfl) rfl)) (by decide)) (qe_call C11 hr tkC rfl L.g11 L.F11.kp L.b11 (qa_var (pv 0) qa_nil rfl) (by decide) rfl rfl) rfl rfl rfl (fun _ => rfl)) qss_nil)))) (fun _ => rfl) (by decide) (by decide)) (qss_cons (qs_ret (qe_callT1 cr_tupleR rfl L.m_tuple (by decide +kernel) (by decide) (by decide) (lo_gen rfl (qe_lc (fx := []) (own := [("signal", 7), ("ago", 8)]) rfl hN (qi_seq (lh_gen rfl (qe_srt rfl L.m_sorted (lo_gen rfl (qe_callT1 (cr_tkeysR rfl) rfl L.m_list (by decide +kernel) (by decide) (by decide) (lo_var (pv 5)) rfl)) rfl))) (show BlkOk n13 (defScope s13) _ _ from ⟨rfl, by decide +kernel, by decide +kernel, by decide +kernel, by decide +kernel⟩) (fun _ _ _ _ _ => (qg_tup rfl (qgs_cons (qg_v (pg_name hN rfl (by first | exact Or.inl rfl | exact Or.inr rfl) (.inr rfl)) (by decide)) (qgs_cons (qg_v (pg_name hN rfl (by first | exact Or.inl rfl | exact Or.inr rfl) (.inr rfl)) (by decide)) qgs_nil rfl) rfl) rfl rfl)) (fun _ _ _ _ _ => qts_nil) (fun _ _ _ _ _ => (qe_tup (qm_of (qa_var (pv 7) (qa_var (pv 8) (qa_cons (fun _ h => nomatch h) (qe_idx (hu_of hr) (pv 5) (lo_gen rfl (qe_tup (qm_of (qa_var (pv 7) (qa_var (pv 8) qa_nil rfl) rfl)) (by decide))) (fun _ _ => rfl)) qa_nil rfl) rfl) rfl)) (by decide))) (fun _ => rfl))) rfl)) qss_nil)))
theorem ok13 (L : Lk K mg cc f fd) (C9 : FnOk P w K mg base (L2.CX P w) k (f 9) (fd 9) p9 (toSp K cc p9.length (Γ 9))) (C11 : FnOk P w K mg base (L2.CX P w) k (f 11) (fd 11) p11 (toSp K cc p11.length (Γ 11))) {sp : CP.Sp} (hsp : ∀ ms Q E, sp ms Q E → bodySp p13.length n13.length A13 (xss G Γ b13) ms Q E) : FnOk P w K mg base (L2.CX P w) (k + 1) (f 13) (fd 13) p13 (toSp K cc p13.length sp) :=
  fnCP L.F13 sc13 (fun cdv Ar outer s H E hr => by rw [e13]; exact bd13 L C9 C11 hr) hsp
theorem bd14 (L : Lk K mg cc f fd) (C10 : FnOk P w K mg base (L2.CX P w) k (f 10) (fd 10) p10 (toSp K cc p10.length (Γ 10))) (C12 : FnOk P w K mg base (L2.CX P w) k (f 12) (fd 12) p12 (toSp K cc p12.length (Γ 12))) (C13 : FnOk P w K mg base (L2.CX P w) k (f 13) (fd 13) p13 (toSp K cc p13.length (Γ 13))) {cdv : Value} {Ar : Around} {outer : List PySem.Env} {s : Shared} {H : Hp} {E : XK} (hr : Room k (XC P w K mg base n14 "_law_net" s14 (f 14) cdv Ar outer s H E).A) :
    QSs (XC P w K mg base n14 "_law_net" s14 (f 14) cdv Ar outer s H E) cc (WE0 E) A14 (defBody s14) (xss G Γ q14) := by
  have hN : (n14).Nodup := sc14.nd
  exact (qss_cons (qs_asg (qe_call C10 hr tkC rfl L.g10 L.F10.kp L.b10 (qa_var (pv 0) (qa_cons (fun _ h => nomatch h) (qe_bin or_add (pv 1) (lo_var (pv 2))) (qa_var (pv 4) qa_nil rfl) rfl) rfl) (by decide) rfl rfl) (qg_v (pg_name hN rfl (by first | exact Or.inl rfl | exact Or.inr rfl) (.inl rfl)) (by decide)) rfl rfl rfl) (qss_cons (qs_asg (qe_lst (qm_of qa_nil) (by decide)) (qg_v (pg_name hN rfl (by first | exact Or.inl rfl | exact Or.inr rfl) (.inl rfl)) (by decide)) rfl rfl rfl) (qss_cons (qs_for (Ab := [7, 8, 9]) (fx := []) paC rfl (qi_rng1 rfl L.m_range (qe_v (pv 1)) rfl) (qg_v (pg_name hN rfl (by first | exact Or.inl rfl | exact Or.inr rfl) (.inl rfl)) (by decide)) (qss_cons (qs_asg (qe_call C12 hr tkC rfl L.g12 L.F12.kp L.b12 (qa_var (pv 0) qa_nil rfl) (by decide) rfl rfl) (qg_tup rfl (qgs_cons (qg_v (pg_name hN rfl (by first | exact Or.inl rfl | exact Or.inr rfl) (.inl rfl)) (by decide)) (qgs_cons (qg_v (pg_name hN rfl (by first | exact Or.inl rfl | exact Or.inr rfl) (.inl rfl)) (by decide)) qgs_nil rfl) rfl) rfl rfl) rfl rfl rfl) (qss_cons (qs_exp (qe_app (pv 6) (qe_tup (qm_of (qa_cons (fun _ h => nomatch h) (qe_p (lp_idx (hu_of hr) (lp_var (pv 5)) (lp_var (pv 7)) (fun _ _ => rfl))) (qa_var (pv 8) (qa_var (pv 9) qa_nil rfl) rfl) rfl)) (by decide)) rfl rfl rfl rfl) rfl) qss_nil)) (fun _ => rfl) (by decide) (by decide)) (qss_cons (qs_asg (qe_lst (qm_of qa_nil) (by decide)) (qg_v (pg_name hN rfl (by first | exact Or.inl rfl | exact Or.inr rfl) (.inl rfl)) (by decide)) rfl rfl rfl) (qss_cons (qs_for (Ab := [11]) (fx := []) paC rfl (qi_rng1 rfl L.m_range (qe_v (pv 2)) rfl) (qg_v (pg_name hN rfl (by first | exact Or.inl rfl | exact Or.inr rfl) (.inl rfl)) (by decide)) (qss_cons (qs_exp (qe_app (pv 10) (qe_tup (qm_of (qa_cons (fun _ h => nomatch h) (qe_p (lp_idx (hu_of hr) (lp_var (pv 5)) (lp_add (lp_var (pv 1)) (lp_var (pv 11))) (fun _ _ => rfl))) (qa_cons (fun _ h => nomatch h) (qe_call C13 hr tkC rfl L.g13 L.F13.kp L.b13 (qa_var (pv 0) (qa_cons (fun _ h => nomatch h) (qe_bin or_add (pv 1) (lo_var (pv 2))) (qa_cons (fun _ h => nomatch h) (qe_bin or_add (pv 1) (lo_var (pv 11))) (qa_cons (fun _ h => nomatch h) (qe_p lp_int) (qa_var (pv 3) qa_nil rfl) rfl) rfl) rfl) rfl) (by decide) rfl rfl) qa_nil rfl) rfl)) (by decide)) rfl rfl rfl rfl) rfl) qss_nil) (fun _ => rfl) (by decide) (by decide)) (qss_cons (qs_ret (qe_tup (qm_of (qa_cons (fun _ h => nomatch h) (qe_callT1 cr_tupleR rfl L.m_tuple (by decide +kernel) (by decide) (by decide) (lo_var (pv 6)) rfl) (qa_cons (fun _ h => nomatch h) (qe_callT1 cr_tupleR rfl L.m_tuple (by decide +kernel) (by decide) (by decide) (lo_var (pv 10)) rfl) qa_nil rfl) rfl)) (by decide))) qss_nil))))))
theorem ok14 (L : Lk K mg cc f fd) (C10 : FnOk P w K mg base (L2.CX P w) k (f 10) (fd 10) p10 (toSp K cc p10.length (Γ 10))) (C12 : FnOk P w K mg base (L2.CX P w) k (f 12) (fd 12) p12 (toSp K cc p12.length (Γ 12))) (C13 : FnOk P w K mg base (L2.CX P w) k (f 13) (fd 13) p13 (toSp K cc p13.length (Γ 13))) {sp : CP.Sp} (hsp : ∀ ms Q E, sp ms Q E → bodySp p14.length n14.length A14 (xss G Γ b14) ms Q E) : FnOk P w K mg base (L2.CX P w) (k + 1) (f 14) (fd 14) p14 (toSp K cc p14.length sp) :=
  fnCP L.F14 sc14 (fun cdv Ar outer s H E hr => by rw [e14]; exact bd14 L C10 C12 C13 hr) hsp
theorem bd15 (L : Lk K mg cc f fd)  {cdv : Value} {Ar : Around} {outer : List PySem.Env} {s : Shared} {H : Hp} {E : XK} (hr : Room k (XC P w K mg base n15 "_law_spans" s15 (f 15) cdv Ar outer s H E).A) :
    QSs (XC P w K mg base n15 "_law_spans" s15 (f 15) cdv Ar outer s H E) cc (WE0 E) A15 (defBody s15) (xss G Γ q15) := by
  have hN : (n15).Nodup := sc15.nd
  exact (qss_cons (qs_asg (qe_bin or_mul (qf_gen (qe_lst (qm_of (qa_cons (fun _ h => nomatch h) (qe_p lp_int) qa_nil rfl)) (by decide)) (fun _ h => nomatch h)) (lo_gen rfl (qe_bin or_add (qf_gen (qe_callB1 cr_lenR rfl L.m_len (by decide +kernel) (by decide) (by decide) (lo_p (lp_idx (hu_of hr) (lp_var (pv 0)) lp_int (fun _ _ => rfl))) rfl) (fun _ h => nomatch h)) (lo_gen rfl (qe_callB1 cr_lenR rfl L.m_len (by decide +kernel) (by decide) (by decide) (lo_p (lp_idx (hu_of hr) (lp_var (pv 0)) lp_int (fun _ _ => rfl))) rfl))))) (qg_v (pg_name hN rfl (by first | exact Or.inl rfl | exact Or.inr rfl) (.inl rfl)) (by decide)) rfl rfl rfl) (qss_cons (qs_for (Ab := [2, 3, 4, 5, 6]) (fx := []) paC rfl (qi_seq (lh_p (lp_idx (hu_of hr) (lp_var (pv 0)) lp_int (fun _ _ => rfl)))) (qg_tup rfl (qgs_cons (qg_v (pg_name hN rfl (by first | exact Or.inl rfl | exact Or.inr rfl) (.inl rfl)) (by decide)) (qgs_cons (qg_v (pg_name hN rfl (by first | exact Or.inl rfl | exact Or.inr rfl) (.inl rfl)) (by decide)) qgs_nil rfl) rfl) rfl rfl) (qss_cons (qs_for (Ab := [4, 5, 6]) (fx := [3]) paC rfl (qi_seq (lh_var (pv 3) (by decide))) (qg_tup rfl (qgs_cons (qg_v (pg_name hN rfl (by first | exact Or.inl rfl | exact Or.inr rfl) (.inl rfl)) (by decide)) (qgs_cons (qg_v (pg_name hN rfl (by first | exact Or.inl rfl | exact Or.inr rfl) (.inl rfl)) (by decide)) (qgs_cons (qg_v (pg_name hN rfl (by first | exact Or.inl rfl | exact Or.inr rfl) (.inl rfl)) (by decide)) qgs_nil rfl) rfl) rfl) rfl rfl) (qss_cons (qs_subv (hu_of hr) (pv 1) (qe_v (pv 4)) (qe_call2 (cr_max2 rfl) rfl L.m_max (by decide +kernel) (by decide) (by decide) (qf_gen (qe_p (lp_idx (hu_of hr) (lp_var (pv 1)) (lp_var (pv 4)) (fun _ _ => rfl))) (fun _ h => nomatch h)) (lo_var (pv 5)) rfl rfl) rfl rfl rfl (fun _ => rfl)) qss_nil) (fun _ => rfl) (by decide) (by decide)) qss_nil) (fun _ => rfl) (by decide) (by decide)) (qss_cons (qs_ret (qe_v (pv 1))) qss_nil)))
theorem ok15 (L : Lk K mg cc f fd)  {sp : CP.Sp} (hsp : ∀ ms Q E, sp ms Q E → bodySp p15.length n15.length A15 (xss G Γ b15) ms Q E) : FnOk P w K mg base (L2.CX P w) (k + 1) (f 15) (fd 15) p15 (toSp K cc p15.length sp) :=
  fnCP L.F15 sc15 (fun cdv Ar outer s H E hr => by rw [e15]; exact bd15 L  hr) hsp
theorem bd16 (L : Lk K mg cc f fd)  {cdv : Value} {Ar : Around} {outer : List PySem.Env} {s : Shared} {H : Hp} {E : XK} (hr : Room k (XC P w K mg base n16 "_law_same" s16 (f 16) cdv Ar outer s H E).A) :
    QSs (XC P w K mg base n16 "_law_same" s16 (f 16) cdv Ar outer s H E) cc (WE0 E) A16 (defBody s16) (xss G Γ q16) := by
  have hN : (n16).Nodup := sc16.nd
  exact (qss_cons (qs_asg (qe_lst (qm_of (qa_cons (fun _ h => nomatch h) (qe_tup (qm_of (qa_var (pv 0) (qa_var (pv 1) qa_nil rfl) rfl)) (by decide)) qa_nil rfl)) (by decide)) (qg_v (pg_name hN rfl (by first | exact Or.inl rfl | exact Or.inr rfl) (.inl rfl)) (by decide)) rfl rfl rfl) (qss_cons (qs_for (Ab := [3, 4, 5, 6]) (fx := []) paC rfl (qi_rng1 rfl L.m_range (qe_p lp_int) rfl) (qg_v (pg_name hN rfl (by first | exact Or.inl rfl | exact Or.inr rfl) (.inl rfl)) (by decide)) (qss_cons (qs_ife (qt_cmp rfl (or_eq hr.units) (qf_gen (qe_callB1 cr_lenR rfl L.m_len (by decide +kernel) (by decide) (by decide) (lo_var (pv 2)) rfl) (fun _ h => nomatch h)) (lo_p lp_int) (nomark _)) (qss_cons (qs_ret (qe_p lp_bl)) qss_nil) qss_nil) (qss_cons (qs_asg (qe_pop (lp_var (pv 2)) rfl rfl) (qg_tup rfl (qgs_cons (qg_v (pg_name hN rfl (by first | exact Or.inl rfl | exact Or.inr rfl) (.inl rfl)) (by decide)) (qgs_cons (qg_v (pg_name hN rfl (by first | exact Or.inl rfl | exact Or.inr rfl) (.inl rfl)) (by decide)) qgs_nil rfl) rfl) rfl rfl) rfl rfl rfl) (qss_cons (qs_ife (QW.qt (qw_or (qt_truth (lo_gen rfl (qe_isi1 rfl rfl L.m_isinstance rfl L.m_tuple (lo_var (pv 5)) rfl)) (fun _ => rfl)) (qw_or1 (qt_truth (lo_gen rfl (qe_isi1 rfl rfl L.m_isinstance rfl L.m_list (lo_var (pv 5)) rfl)) (fun _ => rfl))))) (qss_cons (qs_ife (QW.qt (qw_and (qt_truth (lo_gen rfl (qe_isi1 rfl rfl L.m_isinstance rfl L.m_tuple (lo_var (pv 5)) rfl)) (fun _ => rfl)) (qw_and1 (qt_not (qt_truth (lo_gen rfl (qe_isi1 rfl rfl L.m_isinstance rfl L.m_tuple (lo_var (pv 4)) rfl)) (fun _ => rfl)))))) (qss_cons (qs_ret (qe_p lp_bl)) qss_nil) qss_nil) (qss_cons (qs_ife (QW.qt (qw_and (qt_truth (lo_gen rfl (qe_isi1 rfl rfl L.m_isinstance rfl L.m_list (lo_var (pv 5)) rfl)) (fun _ => rfl)) (qw_and1 (qt_not (qt_truth (lo_gen rfl (qe_isi1 rfl rfl L.m_isinstance rfl L.m_list (lo_var (pv 4)) rfl)) (fun _ => rfl)))))) (qss_cons (qs_ret (qe_p lp_bl)) qss_nil) qss_nil) (qss_cons (qs_ife (qt_cmp rfl (or_ne hr.units) (qf_gen (qe_callB1 cr_lenR rfl L.m_len (by decide +kernel) (by decide) (by decide) (lo_var (pv 4)) rfl) (fun _ h => nomatch h)) (lo_gen rfl (qe_callB1 cr_lenR rfl L.m_len (by decide +kernel) (by decide) (by decide) (lo_var (pv 5)) rfl)) (nomark _)) (qss_cons (qs_ret (qe_p lp_bl)) qss_nil) qss_nil) (qss_cons (qs_for (Ab := [6]) (fx := []) paC rfl (qi_rng1 rfl L.m_range (qe_callB1 cr_lenR rfl L.m_len (by decide +kernel) (by decide) (by decide) (lo_var (pv 5)) rfl) rfl) (qg_v (pg_name hN rfl (by first | exact Or.inl rfl | exact Or.inr rfl) (.inl rfl)) (by decide)) (qss_cons (qs_exp (qe_app (pv 2) (qe_tup (qm_of (qa_cons (fun _ h => nomatch h) (qe_p (lp_idx (hu_of hr) (lp_var (pv 4)) (lp_var (pv 6)) (fun _ _ => rfl))) (qa_cons (fun _ h => nomatch h) (qe_p (lp_idx (hu_of hr) (lp_var (pv 5)) (lp_var (pv 6)) (fun _ _ => rfl))) qa_nil rfl) rfl)) (by decide)) rfl rfl rfl rfl) rfl) qss_nil) (fun _ => rfl) (by decide) (by decide)) qss_nil)))) (qss_cons (qs_ife (qt_cmp rfl or_is (pv 5) (lo_p lp_non) (nomark _)) (qss_cons (qs_ife (qt_cmp rfl or_isn (pv 4) (lo_p lp_non) (nomark _)) (qss_cons (qs_ret (qe_p lp_bl)) qss_nil) qss_nil) qss_nil) (qss_cons (qs_ife (qt_truth (lo_gen rfl (qe_isi1 rfl rfl L.m_isinstance rfl L.m_bool (lo_var (pv 5)) rfl)) (fun _ => rfl)) (qss_cons (qs_ife (QW.qt (qw_or (qt_not (qt_truth (lo_gen rfl (qe_isi1 rfl rfl L.m_isinstance rfl L.m_bool (lo_var (pv 4)) rfl)) (fun _ => rfl))) (qw_or1 (qt_cmp rfl (or_ne hr.units) (pv 4) (lo_var (pv 5)) (nomark _))))) (qss_cons (qs_ret (qe_p lp_bl)) qss_nil) qss_nil) qss_nil) (qss_cons (qs_ife (qt_truth (lo_gen rfl (qe_isi1 rfl rfl L.m_isinstance rfl L.m_int (lo_var (pv 5)) rfl)) (fun _ => rfl)) (qss_cons (qs_ife (QW.qt (qw_or (qt_not (qt_truth (lo_gen rfl (qe_isi1 rfl rfl L.m_isinstance rfl L.m_int (lo_var (pv 4)) rfl)) (fun _ => rfl))) (qw_or (qt_truth (lo_gen rfl (qe_isi1 rfl rfl L.m_isinstance rfl L.m_bool (lo_var (pv 4)) rfl)) (fun _ => rfl)) (qw_or1 (qt_cmp rfl (or_ne hr.units) (pv 4) (lo_var (pv 5)) (nomark _)))))) (qss_cons (qs_ret (qe_p lp_bl)) qss_nil) qss_nil) qss_nil) (qss_cons (qs_ife (QW.qt (qw_or (qt_not (qt_truth (lo_gen rfl (qe_isi1 rfl rfl L.m_isinstance rfl L.m_str (lo_var (pv 5)) rfl)) (fun _ => rfl))) (qw_or (qt_not (qt_truth (lo_gen rfl (qe_isi1 rfl rfl L.m_isinstance rfl L.m_str (lo_var (pv 4)) rfl)) (fun _ => rfl))) (qw_or1 (qt_cmp rfl (or_ne hr.units) (pv 4) (lo_var (pv 5)) (nomark _)))))) (qss_cons (qs_ret (qe_p lp_bl)) qss_nil) qss_nil) qss_nil)) qss_nil)) qss_nil)) qss_nil)) qss_nil))) (fun _ => rfl) (by decide) (by decide)) (qss_cons (qs_ret (qe_p lp_bl)) qss_nil)))
theorem ok16 (L : Lk K mg cc f fd)  {sp : CP.Sp} (hsp : ∀ ms Q E, sp ms Q E → bodySp p16.length n16.length A16 (xss G Γ b16) ms Q E) : FnOk P w K mg base (L2.CX P w) (k + 1) (f 16) (fd 16) p16 (toSp K cc p16.length sp) :=
  fnCP L.F16 sc16 (fun cdv Ar outer s H E hr => by rw [e16]; exact bd16 L  hr) hsp
theorem bd17 (L : Lk K mg cc f fd) (C6 : FnOk P w K mg base (L2.CX P w) k (f 6) (fd 6) p6 (toSp K cc p6.length (Γ 6))) (C7 : FnOk P w K mg base (L2.CX P w) k (f 7) (fd 7) p7 (toSp K cc p7.length (Γ 7))) {cdv : Value} {Ar : Around} {outer : List PySem.Env} {s : Shared} {H : Hp} {E : XK} (hr : Room k (XC P w K mg base n17 "_law_told" s17 (f 17) cdv Ar outer s H E).A) :
    QSs (XC P w K mg base n17 "_law_told" s17 (f 17) cdv Ar outer s H E) cc (WE0 E) A17 (defBody s17) (xss G Γ q17) := by
  have hN : (n17).Nodup := sc17.nd
  exact (qss_cons (qs_trx1 (i := 3) rfl rfl hN rfl rfl L.ex sub_EchoError rfl L.gc_EchoError (by decide) tkC (fun W1 pn xe tk1 pa1 => (qss_cons (qs_ife (qt_cmp rfl (or_eq hr.units) (pv 0) (lo_p lp_str) (nomark _)) (qss_cons (qs_ret (qe_tup (qm_of (qa_cons (fun _ h => nomatch h) (qe_p lp_str) (qa_cons (fun _ h => nomatch h) (qe_call C6 hr tk1 rfl L.g6 L.F6.kp L.b6 (qa_var (pv 1) (qa_var (pv 2) qa_nil rfl) rfl) (by decide) rfl rfl) qa_nil rfl) rfl)) (by decide))) qss_nil) qss_nil) (qss_cons (qs_ife (qt_cmp rfl (or_eq hr.units) (pv 0) (lo_p lp_str) (nomark _)) (qss_cons (qs_ret (qe_tup (qm_of (qa_cons (fun _ h => nomatch h) (qe_p lp_str) (qa_cons (fun _ h => nomatch h) (qe_callk0 (n2 := 2) C6 hr tk1 rfl L.g6 L.F6.kp L.kb1 (by decide) rfl (qk_var (pv 2) (qk_var (pv 1) qk_nil)) rfl rfl (by decide) rfl) qa_nil rfl) rfl)) (by decide))) qss_nil) qss_nil) (qss_cons (qs_ife (qt_cmp rfl (or_eq hr.units) (pv 0) (lo_p lp_str) (nomark _)) (qss_cons (qs_ret (qe_tup (qm_of (qa_cons (fun _ h => nomatch h) (qe_p lp_str) (qa_cons (fun _ h => nomatch h) (qe_call C7 hr tk1 rfl L.g7 L.F7.kp L.b7 (qa_var (pv 1) (qa_var (pv 2) qa_nil rfl) rfl) (by decide) rfl rfl) qa_nil rfl) rfl)) (by decide))) qss_nil) qss_nil) (qss_cons (qs_ret (qe_tup (qm_of (qa_cons (fun _ h => nomatch h) (qe_p lp_str) (qa_cons (fun _ h => nomatch h) (qe_callk0 (n2 := 2) C7 hr tk1 rfl L.g7 L.F7.kp L.kb0 (by decide) rfl (qk_var (pv 2) (qk_var (pv 1) qk_nil)) rfl rfl (by decide) rfl) qa_nil rfl) rfl)) (by decide))) qss_nil))))) (fun a oe cls d pn hz ho => (hs_if (PW.pt (hw_or (ht_not (ht_isi (y := "BadStep") L.ex rfl hz ho (pv 3) rfl L.m_isinstance rfl L.gc_BadStep (by decide) rfl (fun _ => rfl))) (hw_or (ht_not (ht_isi (y := "CallError") L.ex rfl hz ho (pv 3) rfl L.m_isinstance rfl L.gc_CallError (by decide) rfl (fun _ => rfl))) (hw_or1 (ht_isi (y := "DataError") L.ex rfl hz ho (pv 3) rfl L.m_isinstance rfl L.gc_DataError (by decide) rfl (fun _ => rfl)))))) (hs_ret (hv_tup (hxs_cons hx_str hxs_nil rfl) (by decide))) (hs_ret (hv_tup (hxs_cons hx_str (hxs_cons (hx_fld L.ex ⟨"BadStep", _, fl_BadStep, by decide⟩ hz ho (pv 3) rfl) hxs_nil rfl) rfl) (by decide)))))) qss_nil)
theorem ok17 (L : Lk K mg cc f fd) (C6 : FnOk P w K mg base (L2.CX P w) k (f 6) (fd 6) p6 (toSp K cc p6.length (Γ 6))) (C7 : FnOk P w K mg base (L2.CX P w) k (f 7) (fd 7) p7 (toSp K cc p7.length (Γ 7))) {sp : CP.Sp} (hsp : ∀ ms Q E, sp ms Q E → bodySp p17.length n17.length A17 (xss G Γ b17) ms Q E) : FnOk P w K mg base (L2.CX P w) (k + 1) (f 17) (fd 17) p17 (toSp K cc p17.length sp) :=
  fnCP L.F17 sc17 (fun cdv Ar outer s H E hr => by rw [e17]; exact bd17 L C6 C7 hr) hsp
theorem bd18 (L : Lk K mg cc f fd)  {cdv : Value} {Ar : Around} {outer : List PySem.Env} {s : Shared} {H : Hp} {E : XK} (hr : Room k (XC P w K mg base n18 "_law_users" s18 (f 18) cdv Ar outer s H E).A) :
    QSs (XC P w K mg base n18 "_law_users" s18 (f 18) cdv Ar outer s H E) cc (WE0 E) A18 (defBody s18) (xss G Γ q18) := by
  have hN : (n18).Nodup := sc18.nd
  exact (qss_cons (qs_asg (qe_lst (qm_of qa_nil) (by decide)) (qg_v (pg_name hN rfl (by first | exact Or.inl rfl | exact Or.inr rfl) (.inl rfl)) (by decide)) rfl rfl rfl) (qss_cons (qs_for (Ab := [3]) (fx := []) paC rfl (qi_rng1 rfl L.m_range (qe_callB1 cr_lenR rfl L.m_len (by decide +kernel) (by decide) (by decide) (lo_p (lp_idx (hu_of hr) (lp_var (pv 0)) lp_int (fun _ _ => rfl))) rfl) rfl) (qg_v (pg_name hN rfl (by first | exact Or.inl rfl | exact Or.inr rfl) (.inl rfl)) (by decide)) (qss_cons (qs_ife (qt_truth (lo_gen rfl (qe_lc (fx := []) (own := [("term", 4)]) rfl hN (qi_seq (lh_p (lp_idx (hu_of hr) (lp_idx (hu_of hr) (lp_idx (hu_of hr) (lp_var (pv 0)) lp_int (fun _ _ => rfl)) (lp_var (pv 3)) (fun _ _ => rfl)) lp_int (fun _ _ => rfl)))) (show BlkOk n18 (defScope s18) _ _ from ⟨rfl, by decide +kernel, by decide +kernel, by decide +kernel, by decide +kernel⟩) (fun _ _ _ _ _ => (qg_v (pg_name hN rfl (by first | exact Or.inl rfl | exact Or.inr rfl) (.inr rfl)) (by decide))) (fun _ _ _ _ _ => (qts_one (qt_cmp rfl (or_eq hr.units) (qf_gen (qe_p (lp_idx (hu_of hr) (lp_var (pv 4)) lp_int (fun _ _ => rfl))) (fun _ h => nomatch h)) (lo_var (pv 1)) (nomark _)))) (fun _ _ _ _ _ => (qe_v (pv 4))) (fun _ => rfl))) (fun _ => rfl)) (qss_cons (qs_exp (qe_app (pv 2) (qe_v (pv 3)) rfl rfl rfl rfl) rfl) qss_nil) qss_nil) qss_nil) (fun _ => rfl) (by decide) (by decide)) (qss_cons (qs_ret (qe_callT1 cr_tupleR rfl L.m_tuple (by decide +kernel) (by decide) (by decide) (lo_var (pv 2)) rfl)) qss_nil)))
theorem ok18 (L : Lk K mg cc f fd)  {sp : CP.Sp} (hsp : ∀ ms Q E, sp ms Q E → bodySp p18.length n18.length A18 (xss G Γ b18) ms Q E) : FnOk P w K mg base (L2.CX P w) (k + 1) (f 18) (fd 18) p18 (toSp K cc p18.length sp) :=
  fnCP L.F18 sc18 (fun cdv Ar outer s H E hr => by rw [e18]; exact bd18 L  hr) hsp
theorem bd19 (L : Lk K mg cc f fd) (C1 : FnOk P w K mg base (L2.CX P w) k (f 1) (fd 1) p1 (toSp K cc p1.length (Γ 1))) (C2 : FnOk P w K mg base (L2.CX P w) k (f 2) (fd 2) p2 (toSp K cc p2.length (Γ 2))) (C3 : FnOk P w K mg base (L2.CX P w) k (f 3) (fd 3) p3 (toSp K cc p3.length (Γ 3))) (C9 : FnOk P w K mg base (L2.CX P w) k (f 9) (fd 9) p9 (toSp K cc p9.length (Γ 9))) (C15 : FnOk P w K mg base (L2.CX P w) k (f 15) (fd 15) p15 (toSp K cc p15.length (Γ 15))) (C16 : FnOk P w K mg base (L2.CX P w) k (f 16) (fd 16) p16 (toSp K cc p16.length (Γ 16))) (C17 : FnOk P w K mg base (L2.CX P w) k (f 17) (fd 17) p17 (toSp K cc p17.length (Γ 17))) (C18 : FnOk P w K mg base (L2.CX P w) k (f 18) (fd 18) p18 (toSp K cc p18.length (Γ 18))) {cdv : Value} {Ar : Around} {outer : List PySem.Env} {s : Shared} {H : Hp} {E : XK} (hr : Room k (XC P w K mg base n19 "_law_asked" s19 (f 19) cdv Ar outer s H E).A) :
    QSs (XC P w K mg base n19 "_law_asked" s19 (f 19) cdv Ar outer s H E) cc (WE0 E) A19 (defBody s19) (xss G Γ q19) := by
  have hN : (n19).Nodup := sc19.nd
  exact (qss_cons (qs_asg (qe_call C15 hr tkC rfl L.g15 L.F15.kp L.b15 (qa_var (pv 1) qa_nil rfl) (by decide) rfl rfl) (qg_v (pg_name hN rfl (by first | exact Or.inl rfl | exact Or.inr rfl) (.inl rfl)) (by decide)) rfl rfl rfl) (qss_cons (qs_asg (qe_bin or_add (qf_gen (qe_lc (fx := []) (own := [("row", 3)]) rfl hN (qi_seq (lh_p (lp_idx (hu_of hr) (lp_var (pv 1)) lp_int (fun _ _ => rfl)))) (show BlkOk n19 (defScope s19) _ _ from ⟨rfl, by decide +kernel, by decide +kernel, by decide +kernel, by decide +kernel⟩) (fun _ _ _ _ _ => (qg_v (pg_name hN rfl (by first | exact Or.inl rfl | exact Or.inr rfl) (.inr rfl)) (by decide))) (fun _ _ _ _ _ => qts_nil) (fun _ _ _ _ _ => (qe_p (lp_idx (hu_of hr) (lp_var (pv 3)) lp_int (fun _ _ => rfl)))) (fun _ => rfl)) (fun _ h => nomatch h)) (lo_gen rfl (qe_lc (fx := []) (own := [("row", 3)]) rfl hN (qi_seq (lh_p (lp_idx (hu_of hr) (lp_var (pv 1)) lp_int (fun _ _ => rfl)))) (show BlkOk n19 (defScope s19) _ _ from ⟨rfl, by decide +kernel, by decide +kernel, by decide +kernel, by decide +kernel⟩) (fun _ _ _ _ _ => (qg_v (pg_name hN rfl (by first | exact Or.inl rfl | exact Or.inr rfl) (.inr rfl)) (by decide))) (fun _ _ _ _ _ => qts_nil) (fun _ _ _ _ _ => (qe_p (lp_idx (hu_of hr) (lp_var (pv 3)) lp_int (fun _ _ => rfl)))) (fun _ => rfl)))) (qg_v (pg_name hN rfl (by first | exact Or.inl rfl | exact Or.inr rfl) (.inl rfl)) (by decide)) rfl rfl rfl) (qss_cons (qs_ife (QW.qt (qw_or (qt_not (qt_truth (lo_gen rfl (qe_call C16 hr tkC rfl L.g16 L.F16.kp L.b16 (qa_cons (fun _ h => nomatch h) (qe_call C1 hr tkC rfl L.g1 L.F1.kp L.b1 (qa_var (pv 1) qa_nil rfl) (by decide) rfl rfl) (qa_cons (fun _ h => nomatch h) (qe_callT1 cr_tupleR rfl L.m_tuple (by decide +kernel) (by decide) (by decide) (lo_var (pv 2)) rfl) qa_nil rfl) rfl) (by decide) rfl rfl)) (fun _ => rfl))) (qw_or1 (qt_not (qt_truth (lo_gen rfl (qe_call C16 hr tkC rfl L.g16 L.F16.kp L.b16 (qa_cons (fun _ h => nomatch h) (qe_call C2 hr tkC rfl L.g2 L.F2.kp L.b2 (qa_var (pv 1) qa_nil rfl) (by decide) rfl rfl) (qa_cons (fun _ h => nomatch h) (qe_callB1 (cr_sumR rfl) rfl L.m_sum (by decide +kernel) (by decide) (by decide) (lo_var (pv 2)) rfl) qa_nil rfl) rfl) (by decide) rfl rfl)) (fun _ => rfl)))))) (qss_cons (qs_ret (qe_p lp_bl)) qss_nil) qss_nil) (qss_cons (qs_ife (qt_not (qt_truth (lo_gen rfl (qe_call C16 hr tkC rfl L.g16 L.F16.kp L.b16 (qa_cons (fun _ h => nomatch h) (qe_call C3 hr tkC rfl L.g3 L.F3.kp L.b3 (qa_var (pv 1) qa_nil rfl) (by decide) rfl rfl) (qa_cons (fun _ h => nomatch h) (qe_callT1 cr_tupleR rfl L.m_tuple (by decide +kernel) (by decide) (by decide) (lo_var (pv 4)) rfl) qa_nil rfl) rfl) (by decide) rfl rfl)) (fun _ => rfl))) (qss_cons (qs_ret (qe_p lp_bl)) qss_nil) qss_nil) (qss_cons (qs_for (Ab := [5]) (fx := []) paC rfl (qi_rng1 rfl L.m_range (qe_callB1 cr_lenR rfl L.m_len (by decide +kernel) (by decide) (by decide) (lo_var (pv 4)) rfl) rfl) (qg_v (pg_name hN rfl (by first | exact Or.inl rfl | exact Or.inr rfl) (.inl rfl)) (by decide)) (qss_cons (qs_ife (qt_not (qt_truth (lo_gen rfl (qe_call C16 hr tkC rfl L.g16 L.F16.kp L.b16 (qa_cons (fun _ h => nomatch h) (qe_call C17 hr tkC rfl L.g17 L.F17.kp L.b17 (qa_cons (fun _ h => nomatch h) (qe_idx (hu_of hr) (qf_gen (qe_lst (qm_of (qa_cons (fun _ h => nomatch h) (qe_p lp_str) (qa_cons (fun _ h => nomatch h) (qe_p lp_str) qa_nil rfl) rfl)) (by decide)) (fun _ h => nomatch h)) (lo_gen rfl (qe_bin or_mod (pv 5) (lo_p lp_int))) (fun _ _ => rfl)) (qa_var (pv 1) (qa_cons (fun _ h => nomatch h) (qe_p (lp_idx (hu_of hr) (lp_var (pv 4)) (lp_var (pv 5)) (fun _ _ => rfl))) qa_nil rfl) rfl) rfl) (by decide) rfl rfl) (qa_cons (fun _ h => nomatch h) (qe_tup (qm_of (qa_cons (fun _ h => nomatch h) (qe_p lp_str) (qa_var (pv 5) qa_nil rfl) rfl)) (by decide)) qa_nil rfl) rfl) (by decide) rfl rfl)) (fun _ => rfl))) (qss_cons (qs_ret (qe_p lp_bl)) qss_nil) qss_nil) (qss_cons (qs_ife (qt_not (qt_truth (lo_gen rfl (qe_call C16 hr tkC rfl L.g16 L.F16.kp L.b16 (qa_cons (fun _ h => nomatch h) (qe_call C17 hr tkC rfl L.g17 L.F17.kp L.b17 (qa_cons (fun _ h => nomatch h) (qe_idx (hu_of hr) (qf_gen (qe_lst (qm_of (qa_cons (fun _ h => nomatch h) (qe_p lp_str) (qa_cons (fun _ h => nomatch h) (qe_p lp_str) qa_nil rfl) rfl)) (by decide)) (fun _ h => nomatch h)) (lo_gen rfl (qe_bin or_mod (pv 5) (lo_p lp_int))) (fun _ _ => rfl)) (qa_var (pv 1) (qa_var (pv 5) qa_nil rfl) rfl) rfl) (by decide) rfl rfl) (qa_cons (fun _ h => nomatch h) (qe_tup (qm_of (qa_cons (fun _ h => nomatch h) (qe_p lp_str) (qa_cons (fun _ h => nomatch h) (qe_call C18 hr tkC rfl L.g18 L.F18.kp L.b18 (qa_var (pv 1) (qa_var (pv 5) qa_nil rfl) rfl) (by decide) rfl rfl) qa_nil rfl) rfl)) (by decide)) qa_nil rfl) rfl) (by decide) rfl rfl)) (fun _ => rfl))) (qss_cons (qs_ret (qe_p lp_bl)) qss_nil) qss_nil) qss_nil)) (fun _ => rfl) (by decide) (by decide)) (qss_cons (qs_asg (qe_idx (hu_of hr) (pv 4) (lo_gen rfl (qe_call C9 hr tkC rfl L.g9 L.F9.kp L.b9 (qa_var (pv 0) (qa_cons (fun _ h => nomatch h) (qe_callB1 cr_lenR rfl L.m_len (by decide +kernel) (by decide) (by decide) (lo_var (pv 4)) rfl) qa_nil rfl) rfl) (by decide) rfl rfl)) (fun _ _ => rfl)) (qg_v (pg_name hN rfl (by first | exact Or.inl rfl | exact Or.inr rfl) (.inl rfl)) (by decide)) rfl rfl rfl) (qss_cons (qs_for (Ab := [7, 8]) (fx := []) paC rfl (qi_seq (lh_gen rfl (qe_lst (qm_of (qa_cons (fun _ h => nomatch h) (qe_bin or_add (pv 6) (lo_p lp_str)) (qa_cons (fun _ h => nomatch h) (qe_slc (lo_var (pv 6)) qpo_none (qpo_some (lp_neg lp_int))) (qa_cons (fun _ h => nomatch h) (qe_p lp_str) (qa_cons (fun _ h => nomatch h) (qe_p lp_str) (qa_cons (fun _ h => nomatch h) (qe_upper (lo_var (pv 6)) rfl rfl) (qa_cons (fun _ h => nomatch h) (qe_bin or_add (qf_gen (qe_p lp_str) (fun _ h => nomatch h)) (lo_var (pv 6))) (qa_cons (fun _ h => nomatch h) (qe_p lp_str) qa_nil rfl) rfl) rfl) rfl) rfl) rfl) rfl)) (by decide)))) (qg_v (pg_name hN rfl (by first | exact Or.inl rfl | exact Or.inr rfl) (.inl rfl)) (by decide)) (qss_cons (qs_asg (qe_tup (qm_of (qa_cons (fun _ h => nomatch h) (qe_p lp_str) (qa_cons (fun _ h => nomatch h) (qe_p lp_str) qa_nil rfl) rfl)) (by decide)) (qg_v (pg_name hN rfl (by first | exact Or.inl rfl | exact Or.inr rfl) (.inl rfl)) (by decide)) rfl rfl rfl) (qss_cons (qs_ife (qt_cmp rfl (or_in (hu_of hr)) (pv 7) (lo_var (pv 4)) (by with_unfolding_all rfl)) (qss_cons (qs_asg (qe_tup (qm_of (qa_cons (fun _ h => nomatch h) (qe_p lp_str) (qa_cons (fun _ h => nomatch h) (qe_index rfl (pv 4) (lo_var (pv 7)) rfl rfl rfl rfl) qa_nil rfl) rfl)) (by decide)) (qg_v (pg_name hN rfl (by first | exact Or.inl rfl | exact Or.inr rfl) (.inl rfl)) (by decide)) rfl rfl rfl) qss_nil) qss_nil) (qss_cons (qs_ife (qt_not (qt_truth (lo_gen rfl (qe_call C16 hr tkC rfl L.g16 L.F16.kp L.b16 (qa_cons (fun _ h => nomatch h) (qe_call C17 hr tkC rfl L.g17 L.F17.kp L.b17 (qa_cons (fun _ h => nomatch h) (qe_p lp_str) (qa_var (pv 1) (qa_var (pv 7) qa_nil rfl) rfl) rfl) (by decide) rfl rfl) (qa_var (pv 8) qa_nil rfl) rfl) (by decide) rfl rfl)) (fun _ => rfl))) (qss_cons (qs_ret (qe_p lp_bl)) qss_nil) qss_nil) qss_nil))) (fun _ => rfl) (by decide) (by decide)) (qss_cons (qs_for (Ab := [9]) (fx := []) paC rfl (qi_seq (lh_gen rfl (qe_lst (qm_of (qa_cons (fun _ h => nomatch h) (qe_callB1 cr_lenR rfl L.m_len (by decide +kernel) (by decide) (by decide) (lo_var (pv 4)) rfl) (qa_cons (fun _ h => nomatch h) (qe_un un_negR (lo_p lp_int)) (qa_cons (fun _ h => nomatch h) (qe_bin or_add (qf_gen (qe_callB1 cr_lenR rfl L.m_len (by decide +kernel) (by decide) (by decide) (lo_var (pv 4)) rfl) (fun _ h => nomatch h)) (lo_gen rfl (qe_call C9 hr tkC rfl L.g9 L.F9.kp L.b9 (qa_var (pv 0) (qa_cons (fun _ h => nomatch h) (qe_bin or_pow (qf_gen (qe_p lp_int) (fun _ h => nomatch h)) (lo_p lp_int)) qa_nil rfl) rfl) (by decide) rfl rfl))) (qa_cons (fun _ h => nomatch h) (qe_bin or_sub (qf_gen (qe_un un_negR (lo_p lp_int)) (fun _ h => nomatch h)) (lo_gen rfl (qe_call C9 hr tkC rfl L.g9 L.F9.kp L.b9 (qa_var (pv 0) (qa_cons (fun _ h => nomatch h) (qe_callB1 cr_lenR rfl L.m_len (by decide +kernel) (by decide) (by decide) (lo_var (pv 4)) rfl) qa_nil rfl) rfl) (by decide) rfl rfl))) qa_nil rfl) rfl) rfl) rfl)) (by decide)))) (qg_v (pg_name hN rfl (by first | exact Or.inl rfl | exact Or.inr rfl) (.inl rfl)) (by decide)) (qss_cons (qs_ife (qt_not (qt_truth (lo_gen rfl (qe_call C16 hr tkC rfl L.g16 L.F16.kp L.b16 (qa_cons (fun _ h => nomatch h) (qe_call C17 hr tkC rfl L.g17 L.F17.kp L.b17 (qa_cons (fun _ h => nomatch h) (qe_p lp_str) (qa_var (pv 1) (qa_var (pv 9) qa_nil rfl) rfl) rfl) (by decide) rfl rfl) (qa_cons (fun _ h => nomatch h) (qe_tup (qm_of (qa_cons (fun _ h => nomatch h) (qe_p lp_str) (qa_cons (fun _ h => nomatch h) (qe_p lp_str) qa_nil rfl) rfl)) (by decide)) qa_nil rfl) rfl) (by decide) rfl rfl)) (fun _ => rfl))) (qss_cons (qs_ret (qe_p lp_bl)) qss_nil) qss_nil) qss_nil) (fun _ => rfl) (by decide) (by decide)) (qss_cons (qs_ret (qe_p lp_bl)) qss_nil)))))))))
theorem ok19 (L : Lk K mg cc f fd) (C1 : FnOk P w K mg base (L2.CX P w) k (f 1) (fd 1) p1 (toSp K cc p1.length (Γ 1))) (C2 : FnOk P w K mg base (L2.CX P w) k (f 2) (fd 2) p2 (toSp K cc p2.length (Γ 2))) (C3 : FnOk P w K mg base (L2.CX P w) k (f 3) (fd 3) p3 (toSp K cc p3.length (Γ 3))) (C9 : FnOk P w K mg base (L2.CX P w) k (f 9) (fd 9) p9 (toSp K cc p9.length (Γ 9))) (C15 : FnOk P w K mg base (L2.CX P w) k (f 15) (fd 15) p15 (toSp K cc p15.length (Γ 15))) (C16 : FnOk P w K mg base (L2.CX P w) k (f 16) (fd 16) p16 (toSp K cc p16.length (Γ 16))) (C17 : FnOk P w K mg base (L2.CX P w) k (f 17) (fd 17) p17 (toSp K cc p17.length (Γ 17))) (C18 : FnOk P w K mg base (L2.CX P w) k (f 18) (fd 18) p18 (toSp K cc p18.length (Γ 18))) {sp : CP.Sp} (hsp : ∀ ms Q E, sp ms Q E → bodySp p19.length n19.length A19 (xss G Γ b19) ms Q E) : FnOk P w K mg base (L2.CX P w) (k + 1) (f 19) (fd 19) p19 (toSp K cc p19.length sp) :=
  fnCP L.F19 sc19 (fun cdv Ar outer s H E hr => by rw [e19]; exact bd19 L C1 C2 C3 C9 C15 C16 C17 C18 hr) hsp
theorem bd20 (L : Lk K mg cc f fd) (C9 : FnOk P w K mg base (L2.CX P w) k (f 9) (fd 9) p9 (toSp K cc p9.length (Γ 9))) {cdv : Value} {Ar : Around} {outer : List PySem.Env} {s : Shared} {H : Hp} {E : XK} (hr : Room k (XC P w K mg base n20 "_law_wide" s20 (f 20) cdv Ar outer s H E).A) :
    QSs (XC P w K mg base n20 "_law_wide" s20 (f 20) cdv Ar outer s H E) cc (WE0 E) A20 (defBody s20) (xss G Γ q20) := by
  have hN : (n20).Nodup := sc20.nd
  exact (qss_cons (qs_asg (qe_callT1 cr_tupleR rfl L.m_tuple (by decide +kernel) (by decide) (by decide) (lo_gen rfl (qe_lc (fx := []) (own := [("k", 1)]) rfl hN (qi_rng1 rfl L.m_range (qe_p lp_int) rfl) (show BlkOk n20 (defScope s20) _ _ from ⟨rfl, by decide +kernel, by decide +kernel, by decide +kernel, by decide +kernel⟩) (fun _ _ _ _ _ => (qg_v (pg_name hN rfl (by first | exact Or.inl rfl | exact Or.inr rfl) (.inr rfl)) (by decide))) (fun _ _ _ _ _ => qts_nil) (fun _ _ _ _ _ => (qe_tup (qm_of (qa_cons (fun _ h => nomatch h) (qe_bin or_add (qf_gen (qe_p lp_str) (fun _ h => nomatch h)) (lo_gen rfl (qe_callT1 cr_strR rfl L.m_str (by decide +kernel) (by decide) (by decide) (lo_var (pv 1)) rfl))) (qa_cons (fun _ h => nomatch h) (qe_un un_negR (lo_p lp_int)) (qa_cons (fun _ h => nomatch h) (qe_p lp_int) qa_nil rfl) rfl) rfl)) (by decide))) (fun _ => rfl))) rfl) (qg_v (pg_name hN rfl (by first | exact Or.inl rfl | exact Or.inr rfl) (.inl rfl)) (by decide)) rfl rfl rfl) (qss_cons (qs_asg (qe_lst (qm_of qa_nil) (by decide)) (qg_v (pg_name hN rfl (by first | exact Or.inl rfl | exact Or.inr rfl) (.inl rfl)) (by decide)) rfl rfl rfl) (qss_cons (qs_asg (qe_idx (hu_of hr) (qf_gen (qe_lst (qm_of (qa_cons (fun _ h => nomatch h) (qe_tup (qm_of (qa_cons (fun _ h => nomatch h) (qe_p lp_int) (qa_cons (fun _ h => nomatch h) (qe_p lp_int) (qa_cons (fun _ h => nomatch h) (qe_p lp_int) qa_nil rfl) rfl) rfl)) (by decide)) (qa_cons (fun _ h => nomatch h) (qe_tup (qm_of (qa_cons (fun _ h => nomatch h) (qe_p lp_int) (qa_cons (fun _ h => nomatch h) (qe_p lp_int) (qa_cons (fun _ h => nomatch h) (qe_p lp_int) qa_nil rfl) rfl) rfl)) (by decide)) (qa_cons (fun _ h => nomatch h) (qe_tup (qm_of (qa_cons (fun _ h => nomatch h) (qe_p lp_int) (qa_cons (fun _ h => nomatch h) (qe_p lp_int) (qa_cons (fun _ h => nomatch h) (qe_p lp_int) qa_nil rfl) rfl) rfl)) (by decide)) (qa_cons (fun _ h => nomatch h) (qe_tup (qm_of (qa_cons (fun _ h => nomatch h) (qe_p lp_int) (qa_cons (fun _ h => nomatch h) (qe_p lp_int) (qa_cons (fun _ h => nomatch h) (qe_p lp_int) qa_nil rfl) rfl) rfl)) (by decide)) qa_nil rfl) rfl) rfl) rfl)) (by decide)) (fun _ h => nomatch h)) (lo_gen rfl (qe_call C9 hr tkC rfl L.g9 L.F9.kp L.b9 (qa_var (pv 0) (qa_cons (fun _ h => nomatch h) (qe_p lp_int) qa_nil rfl) rfl) (by decide) rfl rfl)) (fun _ _ => rfl)) (qg_v (pg_name hN rfl (by first | exact Or.inl rfl | exact Or.inr rfl) (.inl rfl)) (by decide)) rfl rfl rfl) (qss_cons (qs_for (Ab := [5, 6, 7]) (fx := []) paC rfl (qi_rng1 rfl L.m_range (qe_p lp_int) rfl) (qg_v (pg_name hN rfl (by first | exact Or.inl rfl | exact Or.inr rfl) (.inl rfl)) (by decide)) (qss_cons (qs_asg (qe_lst (qm_of (qa_cons (fun _ h => nomatch h) (qe_tup (qm_of (qa_cons (fun _ h => nomatch h) (qe_p lp_int) (qa_cons (fun _ h => nomatch h) (qe_p lp_int) (qa_cons (fun _ h => nomatch h) (qe_p lp_int) qa_nil rfl) rfl) rfl)) (by decide)) (qa_cons (fun _ h => nomatch h) (qe_tup (qm_of (qa_cons (fun _ h => nomatch h) (qe_p lp_int) (qa_cons (fun _ h => nomatch h) (qe_p lp_int) (qa_cons (fun _ h => nomatch h) (qe_un un_negR (lo_p lp_int)) qa_nil rfl) rfl) rfl)) (by decide)) (qa_cons (fun _ h => nomatch h) (qe_tup (qm_of (qa_cons (fun _ h => nomatch h) (qe_p lp_int) (qa_cons (fun _ h => nomatch h) (qe_p lp_int) (qa_cons (fun _ h => nomatch h) (qe_p lp_int) qa_nil rfl) rfl) rfl)) (by decide)) (qa_cons (fun _ h => nomatch h) (qe_tup (qm_of (qa_cons (fun _ h => nomatch h) (qe_p lp_int) (qa_cons (fun _ h => nomatch h) (qe_p lp_int) (qa_cons (fun _ h => nomatch h) (qe_p lp_int) qa_nil rfl) rfl) rfl)) (by decide)) qa_nil rfl) rfl) rfl) rfl)) (by decide)) (qg_v (pg_name hN rfl (by first | exact Or.inl rfl | exact Or.inr rfl) (.inl rfl)) (by decide)) rfl rfl rfl) (qss_cons (qs_for (Ab := [7]) (fx := [4]) paC rfl (qi_seq (lh_var (pv 4) (by decide))) (qg_v (pg_name hN rfl (by first | exact Or.inl rfl | exact Or.inr rfl) (.inl rfl)) (by decide)) (qss_cons (qs_ife (QW.qt (qw_or (qt_truth (lo_gen rfl (qe_call C9 hr tkC rfl L.g9 L.F9.kp L.b9 (qa_var (pv 0) (qa_cons (fun _ h => nomatch h) (qe_p lp_int) qa_nil rfl) rfl) (by decide) rfl rfl)) (fun _ => rfl)) (qw_or1 (qt_cmp rfl (or_eq hr.units) (pv 5) (lo_p lp_int) (nomark _))))) (qss_cons (qs_exp (qe_app (pv 6) (qe_tup (qm_of (qa_var (pv 7) (qa_cons (fun _ h => nomatch h) (qe_ife (qt_cmp rfl (or_eq hr.units) (pv 5) (lo_p lp_int) (nomark _)) (qe_p lp_int) (qe_bin or_add (qf_gen (qe_p lp_int) (fun _ h => nomatch h)) (lo_gen rfl (qe_call C9 hr tkC rfl L.g9 L.F9.kp L.b9 (qa_var (pv 0) (qa_cons (fun _ h => nomatch h) (qe_p lp_int) qa_nil rfl) rfl) (by decide) rfl rfl)))) (qa_cons (fun _ h => nomatch h) (qe_bin or_add (qf_gen (qe_p lp_int) (fun _ h => nomatch h)) (lo_gen rfl (qe_call C9 hr tkC rfl L.g9 L.F9.kp L.b9 (qa_var (pv 0) (qa_cons (fun _ h => nomatch h) (qe_p lp_int) qa_nil rfl) rfl) (by decide) rfl rfl))) qa_nil rfl) rfl) rfl)) (by decide)) rfl rfl rfl rfl) rfl) qss_nil) qss_nil) qss_nil) (fun _ => rfl) (by decide) (by decide)) (qss_cons (qs_ife (qt_cmp rfl or_gt (pv 5) (lo_p lp_int) (nomark _)) (qss_cons (qs_exp (qe_app (pv 6) (qe_tup (qm_of (qa_cons (fun _ h => nomatch h) (qe_bin or_add (qf_gen (qe_p lp_int) (fun _ h => nomatch h)) (lo_var (pv 5))) (qa_cons (fun _ h => nomatch h) (qe_p lp_int) (qa_cons (fun _ h => nomatch h) (qe_un un_negR (lo_p lp_int)) qa_nil rfl) rfl) rfl)) (by decide)) rfl rfl rfl rfl) rfl) qss_nil) qss_nil) (qss_cons (qs_exp (qe_app (pv 3) (qe_tup (qm_of (qa_cons (fun _ h => nomatch h) (qe_bin or_add (qf_gen (qe_p lp_str) (fun _ h => nomatch h)) (lo_gen rfl (qe_callT1 cr_strR rfl L.m_str (by decide +kernel) (by decide) (by decide) (lo_var (pv 5)) rfl))) (qa_cons (fun _ h => nomatch h) (qe_callT1 cr_tupleR rfl L.m_tuple (by decide +kernel) (by decide) (by decide) (lo_gen rfl (qe_srt rfl L.m_sorted (lo_var (pv 6)) rfl)) rfl) qa_nil rfl) rfl)) (by decide)) rfl rfl rfl rfl) rfl) qss_nil)))) (fun _ => rfl) (by decide) (by decide)) (qss_cons (qs_ret (qe_tup (qm_of (qa_var (pv 2) (qa_cons (fun _ h => nomatch h) (qe_callT1 cr_tupleR rfl L.m_tuple (by decide +kernel) (by decide) (by decide) (lo_var (pv 3)) rfl) qa_nil rfl) rfl)) (by decide))) qss_nil)))))
theorem ok20 (L : Lk K mg cc f fd) (C9 : FnOk P w K mg base (L2.CX P w) k (f 9) (fd 9) p9 (toSp K cc p9.length (Γ 9))) {sp : CP.Sp} (hsp : ∀ ms Q E, sp ms Q E → bodySp p20.length n20.length A20 (xss G Γ b20) ms Q E) : FnOk P w K mg base (L2.CX P w) (k + 1) (f 20) (fd 20) p20 (toSp K cc p20.length sp) :=
  fnCP L.F20 sc20 (fun cdv Ar outer s H E hr => by rw [e20]; exact bd20 L C9 hr) hsp
theorem bd21 (L : Lk K mg cc f fd) (C1 : FnOk P w K mg base (L2.CX P w) k (f 1) (fd 1) p1 (toSp K cc p1.length (Γ 1))) (C2 : FnOk P w K mg base (L2.CX P w) k (f 2) (fd 2) p2 (toSp K cc p2.length (Γ 2))) (C3 : FnOk P w K mg base (L2.CX P w) k (f 3) (fd 3) p3 (toSp K cc p3.length (Γ 3))) (C8 : FnOk P w K mg base (L2.CX P w) k (f 8) (fd 8) p8 (toSp K cc p8.length (Γ 8))) (C9 : FnOk P w K mg base (L2.CX P w) k (f 9) (fd 9) p9 (toSp K cc p9.length (Γ 9))) (C14 : FnOk P w K mg base (L2.CX P w) k (f 14) (fd 14) p14 (toSp K cc p14.length (Γ 14))) (C16 : FnOk P w K mg base (L2.CX P w) k (f 16) (fd 16) p16 (toSp K cc p16.length (Γ 16))) (C19 : FnOk P w K mg base (L2.CX P w) k (f 19) (fd 19) p19 (toSp K cc p19.length (Γ 19))) (C20 : FnOk P w K mg base (L2.CX P w) k (f 20) (fd 20) p20 (toSp K cc p20.length (Γ 20))) {cdv : Value} {Ar : Around} {outer : List PySem.Env} {s : Shared} {H : Hp} {E : XK} (hr : Room k (XC P w K mg base n21 "law" s21 (f 21) cdv Ar outer s H E).A) :
    QSs (XC P w K mg base n21 "law" s21 (f 21) cdv Ar outer s H E) cc (WE0 E) A21 (defBody s21) (xss G Γ q21) := by
  have hN : (n21).Nodup := sc21.nd
  exact (qss_cons (qs_asg (qe_call C8 hr tkC rfl L.g8 L.F8.kp L.b8 (qa_var (pv 0) qa_nil rfl) (by decide) rfl rfl) (qg_v (pg_name hN rfl (by first | exact Or.inl rfl | exact Or.inr rfl) (.inl rfl)) (by decide)) rfl rfl rfl) (qss_cons (qs_asg (qe_cmp (or_eq hr.units) (qf_gen (qe_bin or_mod (qf_gen (qe_bin or_fdiv (qf_gen (qe_p (lp_idx (hu_of hr) (lp_var (pv 1)) lp_int (fun _ _ => rfl))) (fun _ h => nomatch h)) (lo_p lp_int)) (fun _ h => nomatch h)) (lo_p lp_int)) (fun _ h => nomatch h)) (lo_p lp_int) (nomark _)) (qg_v (pg_name hN rfl (by first | exact Or.inl rfl | exact Or.inr rfl) (.inl rfl)) (by decide)) rfl rfl rfl) (qss_cons (qs_for (Ab := [3, 4]) (fx := []) paC rfl (qi_rng1 rfl L.m_range (qe_p lp_int) rfl) (qg_v (pg_name hN rfl (by first | exact Or.inl rfl | exact Or.inr rfl) (.inl rfl)) (by decide)) (qss_cons (qs_asg (qe_call C14 hr tkC rfl L.g14 L.F14.kp L.b14 (qa_var (pv 1) (qa_cons (fun _ h => nomatch h) (qe_bin or_add (qf_gen (qe_p lp_int) (fun _ h => nomatch h)) (lo_gen rfl (qe_call C9 hr tkC rfl L.g9 L.F9.kp L.b9 (qa_var (pv 1) (qa_cons (fun _ h => nomatch h) (qe_p lp_int) qa_nil rfl) rfl) (by decide) rfl rfl))) (qa_cons (fun _ h => nomatch h) (qe_call C9 hr tkC rfl L.g9 L.F9.kp L.b9 (qa_var (pv 1) (qa_cons (fun _ h => nomatch h) (qe_p lp_int) qa_nil rfl) rfl) (by decide) rfl rfl) (qa_cons (fun _ h => nomatch h) (qe_p lp_int) (qa_cons (fun _ h => nomatch h) (qe_idx (hu_of hr) (qf_gen (qe_lst (qm_of (qa_cons (fun _ h => nomatch h) (qe_p lp_str) (qa_cons (fun _ h => nomatch h) (qe_p lp_str) (qa_cons (fun _ h => nomatch h) (qe_p lp_str) qa_nil rfl) rfl) rfl)) (by decide)) (fun _ h => nomatch h)) (lo_gen rfl (qe_call C9 hr tkC rfl L.g9 L.F9.kp L.b9 (qa_var (pv 1) (qa_cons (fun _ h => nomatch h) (qe_p lp_int) qa_nil rfl) rfl) (by decide) rfl rfl)) (fun _ _ => rfl)) qa_nil rfl) rfl) rfl) rfl) rfl) (by decide) rfl rfl) (qg_v (pg_name hN rfl (by first | exact Or.inl rfl | exact Or.inr rfl) (.inl rfl)) (by decide)) rfl rfl rfl) (qss_cons (qs_ife (qt_not (qt_truth (lo_gen rfl (qe_call C19 hr tkC rfl L.g19 L.F19.kp L.b19 (qa_var (pv 1) (qa_var (pv 4) qa_nil rfl) rfl) (by decide) rfl rfl)) (fun _ => rfl))) (qss_cons (qs_ret (qe_p lp_bl)) qss_nil) qss_nil) qss_nil)) (fun _ => rfl) (by decide) (by decide)) (qss_cons (qs_ife (QW.qt (qw_and (qt_truth (lo_var (pv 2)) (fun _ => rfl)) (qw_and1 (qt_not (qt_truth (lo_gen rfl (qe_call C19 hr tkC rfl L.g19 L.F19.kp L.b19 (qa_var (pv 1) (qa_cons (fun _ h => nomatch h) (qe_call C20 hr tkC rfl L.g20 L.F20.kp L.b20 (qa_var (pv 1) qa_nil rfl) (by decide) rfl rfl) qa_nil rfl) rfl) (by decide) rfl rfl)) (fun _ => rfl)))))) (qss_cons (qs_ret (qe_p lp_bl)) qss_nil) qss_nil) (qss_cons (qs_asg (qe_tup (qm_of (qa_cons (fun _ h => nomatch h) (qe_tup (qm_of (qa_cons (fun _ h => nomatch h) (qe_tup (qm_of (qa_cons (fun _ h => nomatch h) (qe_p lp_str) (qa_cons (fun _ h => nomatch h) (qe_p lp_int) (qa_cons (fun _ h => nomatch h) (qe_p lp_int) qa_nil rfl) rfl) rfl)) (by decide)) qa_nil rfl)) (by decide)) (qa_cons (fun _ h => nomatch h) (qe_tup (qm_of (qa_cons (fun _ h => nomatch h) (qe_tup (qm_of (qa_cons (fun _ h => nomatch h) (qe_p lp_str) (qa_cons (fun _ h => nomatch h) (qe_tup (qm_of (qa_cons (fun _ h => nomatch h) (qe_tup (qm_of (qa_cons (fun _ h => nomatch h) (qe_p lp_int) (qa_cons (fun _ h => nomatch h) (qe_p lp_int) (qa_cons (fun _ h => nomatch h) (qe_p lp_int) qa_nil rfl) rfl) rfl)) (by decide)) (qa_cons (fun _ h => nomatch h) (qe_tup (qm_of (qa_cons (fun _ h => nomatch h) (qe_p lp_int) (qa_cons (fun _ h => nomatch h) (qe_p lp_int) (qa_cons (fun _ h => nomatch h) (qe_p lp_int) qa_nil rfl) rfl) rfl)) (by decide)) qa_nil rfl) rfl)) (by decide)) qa_nil rfl) rfl)) (by decide)) (qa_cons (fun _ h => nomatch h) (qe_tup (qm_of (qa_cons (fun _ h => nomatch h) (qe_p lp_str) (qa_cons (fun _ h => nomatch h) (qe_tup (qm_of (qa_cons (fun _ h => nomatch h) (qe_tup (qm_of (qa_cons (fun _ h => nomatch h) (qe_p lp_int) (qa_cons (fun _ h => nomatch h) (qe_p lp_int) (qa_cons (fun _ h => nomatch h) (qe_p lp_int) qa_nil rfl) rfl) rfl)) (by decide)) (qa_cons (fun _ h => nomatch h) (qe_tup (qm_of (qa_cons (fun _ h => nomatch h) (qe_p lp_int) (qa_cons (fun _ h => nomatch h) (qe_p lp_int) (qa_cons (fun _ h => nomatch h) (qe_p lp_int) qa_nil rfl) rfl) rfl)) (by decide)) qa_nil rfl) rfl)) (by decide)) qa_nil rfl) rfl)) (by decide)) qa_nil rfl) rfl)) (by decide)) qa_nil rfl) rfl)) (by decide)) (qg_v (pg_name hN rfl (by first | exact Or.inl rfl | exact Or.inr rfl) (.inl rfl)) (by decide)) rfl rfl rfl) (qss_cons (qs_ife (QW.qt (qw_or (qt_not (qt_truth (lo_gen rfl (qe_call C16 hr tkC rfl L.g16 L.F16.kp L.b16 (qa_cons (fun _ h => nomatch h) (qe_callk0 (n2 := 1) C1 hr tkC rfl L.g1 L.F1.kp L.kb4 (by decide) rfl (qk_var (pv 5) qk_nil) rfl rfl (by decide) rfl) (qa_cons (fun _ h => nomatch h) (qe_tup (qm_of (qa_cons (fun _ h => nomatch h) (qe_p lp_int) (qa_cons (fun _ h => nomatch h) (qe_p lp_int) (qa_cons (fun _ h => nomatch h) (qe_p lp_int) qa_nil rfl) rfl) rfl)) (by decide)) qa_nil rfl) rfl) (by decide) rfl rfl)) (fun _ => rfl))) (qw_or1 (qt_not (qt_truth (lo_gen rfl (qe_call C16 hr tkC rfl L.g16 L.F16.kp L.b16 (qa_cons (fun _ h => nomatch h) (qe_callk0 (n2 := 1) C2 hr tkC rfl L.g2 L.F2.kp L.kb3 (by decide) rfl (qk_var (pv 5) qk_nil) rfl rfl (by decide) rfl) (qa_cons (fun _ h => nomatch h) (qe_p lp_int) qa_nil rfl) rfl) (by decide) rfl rfl)) (fun _ => rfl)))))) (qss_cons (qs_ret (qe_p lp_bl)) qss_nil) qss_nil) (qss_cons (qs_ret (qe_and (qe_call C16 hr tkC rfl L.g16 L.F16.kp L.b16 (qa_cons (fun _ h => nomatch h) (qe_callk0 (n2 := 1) C3 hr tkC rfl L.g3 L.F3.kp L.kb2 (by decide) rfl (qk_var (pv 5) qk_nil) rfl rfl (by decide) rfl) (qa_cons (fun _ h => nomatch h) (qe_tup (qm_of (qa_cons (fun _ h => nomatch h) (qe_p lp_str) (qa_cons (fun _ h => nomatch h) (qe_p lp_str) (qa_cons (fun _ h => nomatch h) (qe_p lp_str) qa_nil rfl) rfl) rfl)) (by decide)) qa_nil rfl) rfl) (by decide) rfl rfl) (qe_one (qe_call C19 hr tkC rfl L.g19 L.F19.kp L.b19 (qa_var (pv 1) (qa_var (pv 5) qa_nil rfl) rfl) (by decide) rfl rfl)))) qss_nil)))))))
theorem ok21 (L : Lk K mg cc f fd) (C1 : FnOk P w K mg base (L2.CX P w) k (f 1) (fd 1) p1 (toSp K cc p1.length (Γ 1))) (C2 : FnOk P w K mg base (L2.CX P w) k (f 2) (fd 2) p2 (toSp K cc p2.length (Γ 2))) (C3 : FnOk P w K mg base (L2.CX P w) k (f 3) (fd 3) p3 (toSp K cc p3.length (Γ 3))) (C8 : FnOk P w K mg base (L2.CX P w) k (f 8) (fd 8) p8 (toSp K cc p8.length (Γ 8))) (C9 : FnOk P w K mg base (L2.CX P w) k (f 9) (fd 9) p9 (toSp K cc p9.length (Γ 9))) (C14 : FnOk P w K mg base (L2.CX P w) k (f 14) (fd 14) p14 (toSp K cc p14.length (Γ 14))) (C16 : FnOk P w K mg base (L2.CX P w) k (f 16) (fd 16) p16 (toSp K cc p16.length (Γ 16))) (C19 : FnOk P w K mg base (L2.CX P w) k (f 19) (fd 19) p19 (toSp K cc p19.length (Γ 19))) (C20 : FnOk P w K mg base (L2.CX P w) k (f 20) (fd 20) p20 (toSp K cc p20.length (Γ 20))) {sp : CP.Sp} (hsp : ∀ ms Q E, sp ms Q E → bodySp p21.length n21.length A21 (xss G Γ b21) ms Q E) : FnOk P w K mg base (L2.CX P w) (k + 1) (f 21) (fd 21) p21 (toSp K cc p21.length sp) :=
  fnCP L.F21 sc21 (fun cdv Ar outer s H E hr => by rw [e21]; exact bd21 L C1 C2 C3 C8 C9 C14 C16 C19 C20 hr) hsp
end
/- info {"cls": ["BadStep", "CallError", "DataError", "EchoError"], "inits": ["BadStep"], "nd": 22, "at": {"BadStep": [4, 0]}, "consI": [], "sub": true} -/
end K10
namespace K10
open PySem PySem.Spec PyProof.Rows L2 CP
/-! ### nets -/
abbrev Tm : Type := Int × Int × Int
structure Net where
  ins : List (Str × Int × Int)
  sts : List (Str × List Tm)
def tmD (t : Tm) : D := .tup [.int t.1, .int t.2.1, .int t.2.2]
def inpD (p : Str × Int × Int) : D := .tup [.str p.1, .int p.2.1, .int p.2.2]
def stD (p : Str × List Tm) : D := .tup [.str p.1, .tup (p.2.map tmD)]
def netD (n : Net) : D := .tup [.tup (n.ins.map inpD), .tup (n.sts.map stD)]
def Net.names (n : Net) : List Str := n.ins.map (·.1) ++ n.sts.map (·.1)
def Net.cnt (n : Net) : Nat := n.ins.length + n.sts.length
structure Net.ok (n : Net) : Prop where
  li : n.ins.length ≤ 20
  ls : n.sts.length ≤ 20
  lt : ∀ p ∈ n.sts, p.2.length ≤ 20 ∧ ∀ t ∈ p.2, 0 ≤ t.1 ∧ t.1 < n.cnt
  nd : n.names.Nodup
  ln : ∀ s ∈ n.names, s.length ≤ 100
  ne : 0 < n.cnt
theorem n_0 {n : Net} : getM (.im (netD n)) (.im (.int 0)) = some (.im (.tup (n.ins.map inpD))) := g_t0
theorem n_1 {n : Net} : getM (.im (netD n)) (.im (.int 1)) = some (.im (.tup (n.sts.map stD))) := g_t1
def cntSp : CP.Sp := fun ms Q E => ∃ n : Net, ms = [.im (netD n)] ∧ ∀ o, Q (.im (.int n.cnt)) [o]
theorem cnt_ok {Γ : Nat → CP.Sp} : ∀ ms Q E, cntSp ms Q E → bodySp p0.length n0.length A0 (xss G Γ b0) ms Q E := by
  rintro ms Q E ⟨n, rfl, q⟩
  refine ⟨rfl, ?_⟩
  simp only [xss, CP.xs, CP.ev, CP.evs, takeK, evT, evTs, evA, evI, bor, two, evP, setP, fin_some, fin_none, bindO_some, bindO_none, slot0, slot1, set0, set1, List.map_cons, List.map_nil, List.cons_append, List.nil_append, List.getElem?_cons_zero, List.getElem?_cons_succ, Option.bind_some, Option.map_some, Option.getD_some, id, List.length_cons, List.length_nil, List.replicate_succ, List.replicate_zero, bindT, bindTs, tupM, List.length_set, Nat.zero_add, o_mulR, o_mulL, CP.small64, o_mod, o_fdiv, o_pow, o_lenL, o_lenN, o_lenT, o_lenF, o_lenD, o_listL, o_listT, o_listF, o_tupL, o_tupT, o_boolI, Bool.and_true, Bool.true_and, Bool.and_self, Int.reduceNeg, Int.reducePow, Int.reduceLT, Int.reduceLE, Int.reduceAdd, Int.reduceToNat, Int.natAbs_natCast, o_add, o_sub, o_lt, o_le, o_gt, o_ge, o_max, o_min, o_eqI, o_eqS, o_neI, o_neS, o_eqB, o_neB, o_is0, o_isI, o_isS, o_isT, o_isB, o_isn0, o_isnI, o_isnS, o_isnT, o_neg, o_abs, o_intI, o_intB, l_lst, l_nst, l_tup, l_flst, l_dct, t_non, t_bl, t_int, t_lst, t_nst, t_tup, t_dct, i_nil, ty_int, ty_str, ty_bl, ty_non, ty_tup, ty_lst, ow_im, ow_lst, ow_nst, ow_dct, ow_dnn, iD_int, if_true, if_false, Bool.false_eq_true, reduceIte, decide_true, decide_false, decide_eq_true_eq, Nat.reduceLT, Nat.reduceAdd, Nat.reduceSub, callA, takeA, putA, fzs, fzM, mkL, imsOf, List.zip_cons_cons, List.zip_nil_left, List.zip_nil_right, true_and, and_true, List.filterMap_cons, List.filterMap_nil, stays, itemsM, seqM, forR, lcR, unsetAll, parM, reduceCtorEq, ne_app, pop_app, popN_app, g_last, lm_lst, lm_nst, Bool.not_false, Bool.not_true, List.filterMap_cons, isiM, ite_true, ite_false, n_0, n_1, List.length_map]
  exact q _
/-! ### spans -/
def bump (sp : List Int) (t : Tm) : List Int := sp.set t.1.toNat (if t.2.1 > sp.getD t.1.toNat 0 then t.2.1 else sp.getD t.1.toNat 0)
def bumps (sp : List Int) (p : Str × List Tm) : List Int := p.2.foldl bump sp
def Net.spans (n : Net) : List Int := n.sts.foldl bumps (List.replicate n.cnt 0)
theorem bump_len {sp : List Int} {t : Tm} : (bump sp t).length = sp.length := by simp [bump]
theorem bumps_len {p : Str × List Tm} : ∀ {ts : List Tm} {sp : List Int}, (ts.foldl bump sp).length = sp.length
  | [], sp => rfl
  | t :: ts, sp => by rw [List.foldl_cons, bumps_len (p := p) (ts := ts), bump_len]
theorem g_ints {sp : List Int} {t : Int} (h0 : 0 ≤ t) (h1 : t < sp.length) : getM (.lst (sp.map .int)) (.im (.int t)) = some (.im (.int (sp.getD t.toNat 0))) := by
  have hn : t.toNat < sp.length := by omega
  simp only [getM, atI, ixN, if_pos h0, List.length_map, if_pos h1, Option.bind_some, List.getElem?_map, List.getElem?_eq_getElem hn, Option.map_some]
  simp [List.getD, hn]
theorem s_bump {sp : List Int} {t : Tm} (h0 : 0 ≤ t.1) (h1 : t.1 < sp.length) : setM (.lst (sp.map .int)) (.im (.int t.1)) (.im (.int (if t.2.1 > sp.getD t.1.toNat 0 then t.2.1 else sp.getD t.1.toNat 0))) = some (.lst ((bump sp t).map .int)) := by
  rw [s_lst h0 (by rw [List.length_map]; exact h1)]
  unfold bump
  rw [List.map_set]
theorem sp1_in {Γ : Nat → CP.Sp} {Kk : Ks} {P0 : Option M} : ∀ (ts : List Tm) (sp : List Int) (a b c d : Option M), (∀ t ∈ ts, 0 ≤ t.1 ∧ t.1 < sp.length) → (∀ a c d, Kk.nx [P0, some (.lst ((ts.foldl bump sp).map .int)), a, b, c, d]) →
    forR (fun _ => True) (fun d s => bindT t1_2 (.im d) s) (xss G Γ l1_1) Kk (ts.map tmD) [P0, some (.lst (sp.map .int)), a, b, c, d]
  | [], sp, a, b, c, d, _, q => q a c d
  | t :: ts, sp, a, b, c, d, h, q => by
    obtain ⟨h0, h1⟩ := h t (by simp)
    have ih := sp1_in (Γ := Γ) (Kk := Kk) (P0 := P0) ts (bump sp t) (some (.im (.int t.2.2))) b (some (.im (.int t.1))) (some (.im (.int t.2.1))) (fun u hu => by rw [bump_len]; exact h u (by simp [hu])) q
    rw [List.map_cons, for_cons]
    generalize forR (fun _ => True) (fun d s => bindT t1_2 (.im d) s) (xss G Γ l1_1) Kk (ts.map tmD) = W at ih ⊢
    simp only [t1_2, l1_1, tmD, xss, CP.xs, CP.ev, CP.evs, takeK, evT, evTs, evA, evI, bor, two, evP, setP, fin_some, fin_none, bindO_some, bindO_none, slot0, slot1, set0, set1, List.map_cons, List.map_nil, List.cons_append, List.nil_append, List.getElem?_cons_zero, List.getElem?_cons_succ, Option.bind_some, Option.map_some, Option.getD_some, id, List.length_cons, List.length_nil, List.replicate_succ, List.replicate_zero, bindT, bindTs, tupM, List.length_set, Nat.zero_add, o_mulR, o_mulL, CP.small64, o_mod, o_fdiv, o_pow, o_lenL, o_lenN, o_lenT, o_lenF, o_lenD, o_listL, o_listT, o_listF, o_tupL, o_tupT, o_boolI, Bool.and_true, Bool.true_and, Bool.and_self, Int.reduceNeg, Int.reducePow, Int.reduceLT, Int.reduceLE, Int.reduceAdd, Int.reduceToNat, Int.natAbs_natCast, o_add, o_sub, o_lt, o_le, o_gt, o_ge, o_max, o_min, o_eqI, o_eqS, o_neI, o_neS, o_eqB, o_neB, o_is0, o_isI, o_isS, o_isT, o_isB, o_isn0, o_isnI, o_isnS, o_isnT, o_neg, o_abs, o_intI, o_intB, l_lst, l_nst, l_tup, l_flst, l_dct, t_non, t_bl, t_int, t_lst, t_nst, t_tup, t_dct, i_nil, ty_int, ty_str, ty_bl, ty_non, ty_tup, ty_lst, ow_im, ow_lst, ow_nst, ow_dct, ow_dnn, iD_int, if_true, if_false, Bool.false_eq_true, reduceIte, decide_true, decide_false, decide_eq_true_eq, Nat.reduceLT, Nat.reduceAdd, Nat.reduceSub, callA, takeA, putA, fzs, fzM, mkL, imsOf, List.zip_cons_cons, List.zip_nil_left, List.zip_nil_right, true_and, and_true, List.filterMap_cons, List.filterMap_nil, stays, itemsM, seqM, forR, lcR, unsetAll, parM, reduceCtorEq, ne_app, pop_app, popN_app, g_last, lm_lst, lm_nst, Bool.not_false, Bool.not_true, List.filterMap_cons, isiM, ite_true, ite_false, g_ints h0 h1, s_bump h0 h1]
    exact ih
theorem sp1_out {Γ : Nat → CP.Sp} {Kk : Ks} {P0 : Option M} : ∀ (ps : List (Str × List Tm)) (sp : List Int) (a b c d : Option M), (∀ p ∈ ps, ∀ t ∈ p.2, 0 ≤ t.1 ∧ t.1 < sp.length) → (∀ a b c d, Kk.nx [P0, some (.lst ((ps.foldl bumps sp).map .int)), a, b, c, d]) →
    forR (fun _ => True) (fun d s => bindT t1_1 (.im d) s) (xss G Γ l1_2) Kk (ps.map stD) [P0, some (.lst (sp.map .int)), a, b, c, d]
  | [], sp, a, b, c, d, _, q => q a b c d
  | p :: ps, sp, a, b, c, d, h, q => by
    have ih := fun a b c d => sp1_out (Γ := Γ) (Kk := Kk) (P0 := P0) ps (bumps sp p) a b c d (fun u hu t ht => by rw [show (bumps sp p).length = sp.length from bumps_len (p := p)]; exact h u (by simp [hu]) t ht) q
    rw [List.map_cons, for_cons]
    generalize forR (fun _ => True) (fun d s => bindT t1_1 (.im d) s) (xss G Γ l1_2) Kk (ps.map stD) = W at ih ⊢
    simp only [t1_1, l1_2, stD, xss, CP.xs, CP.ev, CP.evs, takeK, evT, evTs, evA, evI, bor, two, evP, setP, fin_some, fin_none, bindO_some, bindO_none, slot0, slot1, set0, set1, List.map_cons, List.map_nil, List.cons_append, List.nil_append, List.getElem?_cons_zero, List.getElem?_cons_succ, Option.bind_some, Option.map_some, Option.getD_some, id, List.length_cons, List.length_nil, List.replicate_succ, List.replicate_zero, bindT, bindTs, tupM, List.length_set, Nat.zero_add, o_mulR, o_mulL, CP.small64, o_mod, o_fdiv, o_pow, o_lenL, o_lenN, o_lenT, o_lenF, o_lenD, o_listL, o_listT, o_listF, o_tupL, o_tupT, o_boolI, Bool.and_true, Bool.true_and, Bool.and_self, Int.reduceNeg, Int.reducePow, Int.reduceLT, Int.reduceLE, Int.reduceAdd, Int.reduceToNat, Int.natAbs_natCast, o_add, o_sub, o_lt, o_le, o_gt, o_ge, o_max, o_min, o_eqI, o_eqS, o_neI, o_neS, o_eqB, o_neB, o_is0, o_isI, o_isS, o_isT, o_isB, o_isn0, o_isnI, o_isnS, o_isnT, o_neg, o_abs, o_intI, o_intB, l_lst, l_nst, l_tup, l_flst, l_dct, t_non, t_bl, t_int, t_lst, t_nst, t_tup, t_dct, i_nil, ty_int, ty_str, ty_bl, ty_non, ty_tup, ty_lst, ow_im, ow_lst, ow_nst, ow_dct, ow_dnn, iD_int, if_true, if_false, Bool.false_eq_true, reduceIte, decide_true, decide_false, decide_eq_true_eq, Nat.reduceLT, Nat.reduceAdd, Nat.reduceSub, callA, takeA, putA, fzs, fzM, mkL, imsOf, List.zip_cons_cons, List.zip_nil_left, List.zip_nil_right, true_and, and_true, List.filterMap_cons, List.filterMap_nil, stays, itemsM, seqM, unsetAll, parM, reduceCtorEq, ne_app, pop_app, popN_app, g_last, lm_lst, lm_nst, Bool.not_false, Bool.not_true, List.filterMap_cons, isiM, ite_true, ite_false]
    exact sp1_in p.2 sp _ _ _ _ (h p (by simp)) fun a c d => ih _ _ _ _
def spansSp : CP.Sp := fun ms Q E => ∃ n : Net, ms = [.im (netD n)] ∧ n.ok ∧ ∀ o, Q (.im (.tup (n.spans.map .int))) [o]
theorem spans_ok {Γ : Nat → CP.Sp} (h0 : Γ 0 = cntSp) : ∀ ms Q E, spansSp ms Q E → bodySp p1.length n1.length A1 (xss G Γ b1) ms Q E := by
  rintro ms Q E ⟨n, rfl, ok, q⟩
  refine ⟨rfl, ?_⟩
  have hc : n.cnt ≤ 1000000 := by have := ok.li; have := ok.ls; unfold Net.cnt; omega
  simp only [xss, CP.xs, CP.ev, CP.evs, takeK, evT, evTs, evA, evI, bor, two, evP, setP, fin_some, fin_none, bindO_some, bindO_none, slot0, slot1, set0, set1, List.map_cons, List.map_nil, List.cons_append, List.nil_append, List.getElem?_cons_zero, List.getElem?_cons_succ, Option.bind_some, Option.map_some, Option.getD_some, id, List.length_cons, List.length_nil, List.replicate_succ, List.replicate_zero, bindT, bindTs, tupM, List.length_set, Nat.zero_add, o_mulR, o_mulL, CP.small64, o_mod, o_fdiv, o_pow, o_lenL, o_lenN, o_lenT, o_lenF, o_lenD, o_listL, o_listT, o_listF, o_tupL, o_tupT, o_boolI, Bool.and_true, Bool.true_and, Bool.and_self, Int.reduceNeg, Int.reducePow, Int.reduceLT, Int.reduceLE, Int.reduceAdd, Int.reduceToNat, Int.natAbs_natCast, o_add, o_sub, o_lt, o_le, o_gt, o_ge, o_max, o_min, o_eqI, o_eqS, o_neI, o_neS, o_eqB, o_neB, o_is0, o_isI, o_isS, o_isT, o_isB, o_isn0, o_isnI, o_isnS, o_isnT, o_neg, o_abs, o_intI, o_intB, l_lst, l_nst, l_tup, l_flst, l_dct, t_non, t_bl, t_int, t_lst, t_nst, t_tup, t_dct, i_nil, ty_int, ty_str, ty_bl, ty_non, ty_tup, ty_lst, ow_im, ow_lst, ow_nst, ow_dct, ow_dnn, iD_int, if_true, if_false, Bool.false_eq_true, reduceIte, decide_true, decide_false, decide_eq_true_eq, Nat.reduceLT, Nat.reduceAdd, Nat.reduceSub, callA, takeA, putA, fzs, fzM, mkL, imsOf, List.zip_cons_cons, List.zip_nil_left, List.zip_nil_right, true_and, and_true, List.filterMap_cons, List.filterMap_nil, stays, itemsM, seqM, unsetAll, parM, reduceCtorEq, ne_app, pop_app, popN_app, g_last, lm_lst, lm_nst, Bool.not_false, Bool.not_true, List.filterMap_cons, isiM, ite_true, ite_false, h0]
  refine ⟨n, rfl, fun o => ?_⟩
  simp only [xss, CP.xs, CP.ev, CP.evs, takeK, evT, evTs, evA, evI, bor, two, evP, setP, fin_some, fin_none, bindO_some, bindO_none, slot0, slot1, set0, set1, List.map_cons, List.map_nil, List.cons_append, List.nil_append, List.getElem?_cons_zero, List.getElem?_cons_succ, Option.bind_some, Option.map_some, Option.getD_some, id, List.length_cons, List.length_nil, List.replicate_succ, List.replicate_zero, bindT, bindTs, tupM, List.length_set, Nat.zero_add, o_mulR, o_mulL, CP.small64, o_mod, o_fdiv, o_pow, o_lenL, o_lenN, o_lenT, o_lenF, o_lenD, o_listL, o_listT, o_listF, o_tupL, o_tupT, o_boolI, Bool.and_true, Bool.true_and, Bool.and_self, Int.reduceNeg, Int.reducePow, Int.reduceLT, Int.reduceLE, Int.reduceAdd, Int.reduceToNat, Int.natAbs_natCast, o_add, o_sub, o_lt, o_le, o_gt, o_ge, o_max, o_min, o_eqI, o_eqS, o_neI, o_neS, o_eqB, o_neB, o_is0, o_isI, o_isS, o_isT, o_isB, o_isn0, o_isnI, o_isnS, o_isnT, o_neg, o_abs, o_intI, o_intB, l_lst, l_nst, l_tup, l_flst, l_dct, t_non, t_bl, t_int, t_lst, t_nst, t_tup, t_dct, i_nil, ty_int, ty_str, ty_bl, ty_non, ty_tup, ty_lst, ow_im, ow_lst, ow_nst, ow_dct, ow_dnn, iD_int, if_true, if_false, Bool.false_eq_true, reduceIte, decide_true, decide_false, decide_eq_true_eq, Nat.reduceLT, Nat.reduceAdd, Nat.reduceSub, callA, takeA, putA, fzs, fzM, mkL, imsOf, List.zip_cons_cons, List.zip_nil_left, List.zip_nil_right, true_and, and_true, List.filterMap_cons, List.filterMap_nil, stays, itemsM, seqM, unsetAll, parM, reduceCtorEq, ne_app, pop_app, popN_app, g_last, lm_lst, lm_nst, Bool.not_false, Bool.not_true, List.filterMap_cons, isiM, ite_true, ite_false, o_rep hc, n_1]
  have e : List.replicate n.cnt (D.int 0) = (List.replicate n.cnt (0 : Int)).map .int := by simp
  rw [e]
  refine sp1_out n.sts (List.replicate n.cnt 0) _ _ _ _ (fun p hp t ht => by simpa using (ok.lt p hp).2 t ht) fun a b c d => ?_
  simp only [xss, CP.xs, CP.ev, CP.evs, takeK, evT, evTs, evA, evI, bor, two, evP, setP, fin_some, fin_none, bindO_some, bindO_none, slot0, slot1, set0, set1, List.map_cons, List.map_nil, List.cons_append, List.nil_append, List.getElem?_cons_zero, List.getElem?_cons_succ, Option.bind_some, Option.map_some, Option.getD_some, id, List.length_cons, List.length_nil, List.replicate_succ, List.replicate_zero, bindT, bindTs, tupM, List.length_set, Nat.zero_add, o_mulR, o_mulL, CP.small64, o_mod, o_fdiv, o_pow, o_lenL, o_lenN, o_lenT, o_lenF, o_lenD, o_listL, o_listT, o_listF, o_tupL, o_tupT, o_boolI, Bool.and_true, Bool.true_and, Bool.and_self, Int.reduceNeg, Int.reducePow, Int.reduceLT, Int.reduceLE, Int.reduceAdd, Int.reduceToNat, Int.natAbs_natCast, o_add, o_sub, o_lt, o_le, o_gt, o_ge, o_max, o_min, o_eqI, o_eqS, o_neI, o_neS, o_eqB, o_neB, o_is0, o_isI, o_isS, o_isT, o_isB, o_isn0, o_isnI, o_isnS, o_isnT, o_neg, o_abs, o_intI, o_intB, l_lst, l_nst, l_tup, l_flst, l_dct, t_non, t_bl, t_int, t_lst, t_nst, t_tup, t_dct, i_nil, ty_int, ty_str, ty_bl, ty_non, ty_tup, ty_lst, ow_im, ow_lst, ow_nst, ow_dct, ow_dnn, iD_int, if_true, if_false, Bool.false_eq_true, reduceIte, decide_true, decide_false, decide_eq_true_eq, Nat.reduceLT, Nat.reduceAdd, Nat.reduceSub, callA, takeA, putA, fzs, fzM, mkL, imsOf, List.zip_cons_cons, List.zip_nil_left, List.zip_nil_right, true_and, and_true, List.filterMap_cons, List.filterMap_nil, stays, itemsM, seqM, unsetAll, parM, reduceCtorEq, ne_app, pop_app, popN_app, g_last, lm_lst, lm_nst, Bool.not_false, Bool.not_true, List.filterMap_cons, isiM, ite_true, ite_false]
  exact q _
theorem sum_ints : ∀ l : List Int, sumI (l.map .int) = some l.sum
  | [] => rfl
  | i :: l => by simp only [List.map_cons, sumI, sum_ints l, Option.map_some, List.sum_cons]
theorem o_sumL (l : List Int) : op1M .sum (.lst (l.map .int)) = some (.im (.int l.sum)) := by
  have : seqM (.lst (l.map D.int)) = some (l.map .int) := rfl
  simp only [op1M, this, Option.bind_some, sum_ints, Option.map_some]
theorem o_sumT (l : List Int) : op1M .sum (.im (.tup (l.map .int))) = some (.im (.int l.sum)) := by
  have : seqM (.im (.tup (l.map D.int))) = some (l.map .int) := rfl
  simp only [op1M, this, Option.bind_some, sum_ints, Option.map_some]
end K10
namespace K10
open PySem PySem.Spec PyProof.Rows L2 CP
def cellsSp : CP.Sp := fun ms Q E => ∃ n : Net, ms = [.im (netD n)] ∧ n.ok ∧ ∀ o, Q (.im (.int n.spans.sum)) [o]
theorem cells_ok {Γ : Nat → CP.Sp} (h1 : Γ 1 = spansSp) : ∀ ms Q E, cellsSp ms Q E → bodySp p2.length n2.length A2 (xss G Γ b2) ms Q E := by
  rintro ms Q E ⟨n, rfl, ok, q⟩
  refine ⟨rfl, ?_⟩
  simp only [xss, CP.xs, CP.ev, CP.evs, takeK, evT, evTs, evA, evI, bor, two, evP, setP, fin_some, fin_none, bindO_some, bindO_none, slot0, slot1, set0, set1, List.map_cons, List.map_nil, List.cons_append, List.nil_append, List.getElem?_cons_zero, List.getElem?_cons_succ, Option.bind_some, Option.map_some, Option.getD_some, id, List.length_cons, List.length_nil, List.replicate_succ, List.replicate_zero, bindT, bindTs, tupM, List.length_set, Nat.zero_add, o_mulR, o_mulL, CP.small64, o_mod, o_fdiv, o_pow, o_lenL, o_lenN, o_lenT, o_lenF, o_lenD, o_listL, o_listT, o_listF, o_tupL, o_tupT, o_boolI, Bool.and_true, Bool.true_and, Bool.and_self, Int.reduceNeg, Int.reducePow, Int.reduceLT, Int.reduceLE, Int.reduceAdd, Int.reduceToNat, Int.natAbs_natCast, o_add, o_sub, o_lt, o_le, o_gt, o_ge, o_max, o_min, o_eqI, o_eqS, o_neI, o_neS, o_eqB, o_neB, o_is0, o_isI, o_isS, o_isT, o_isB, o_isn0, o_isnI, o_isnS, o_isnT, o_neg, o_abs, o_intI, o_intB, l_lst, l_nst, l_tup, l_flst, l_dct, t_non, t_bl, t_int, t_lst, t_nst, t_tup, t_dct, i_nil, ty_int, ty_str, ty_bl, ty_non, ty_tup, ty_lst, ow_im, ow_lst, ow_nst, ow_dct, ow_dnn, iD_int, if_true, if_false, Bool.false_eq_true, reduceIte, decide_true, decide_false, decide_eq_true_eq, Nat.reduceLT, Nat.reduceAdd, Nat.reduceSub, callA, takeA, putA, fzs, fzM, mkL, imsOf, List.zip_cons_cons, List.zip_nil_left, List.zip_nil_right, true_and, and_true, List.filterMap_cons, List.filterMap_nil, stays, itemsM, seqM, forR, lcR, unsetAll, parM, reduceCtorEq, ne_app, pop_app, popN_app, g_last, lm_lst, lm_nst, Bool.not_false, Bool.not_true, List.filterMap_cons, isiM, ite_true, ite_false, h1]
  refine ⟨n, rfl, ok, fun o => ?_⟩
  simp only [xss, CP.xs, CP.ev, CP.evs, takeK, evT, evTs, evA, evI, bor, two, evP, setP, fin_some, fin_none, bindO_some, bindO_none, slot0, slot1, set0, set1, List.map_cons, List.map_nil, List.cons_append, List.nil_append, List.getElem?_cons_zero, List.getElem?_cons_succ, Option.bind_some, Option.map_some, Option.getD_some, id, List.length_cons, List.length_nil, List.replicate_succ, List.replicate_zero, bindT, bindTs, tupM, List.length_set, Nat.zero_add, o_mulR, o_mulL, CP.small64, o_mod, o_fdiv, o_pow, o_lenL, o_lenN, o_lenT, o_lenF, o_lenD, o_listL, o_listT, o_listF, o_tupL, o_tupT, o_boolI, Bool.and_true, Bool.true_and, Bool.and_self, Int.reduceNeg, Int.reducePow, Int.reduceLT, Int.reduceLE, Int.reduceAdd, Int.reduceToNat, Int.natAbs_natCast, o_add, o_sub, o_lt, o_le, o_gt, o_ge, o_max, o_min, o_eqI, o_eqS, o_neI, o_neS, o_eqB, o_neB, o_is0, o_isI, o_isS, o_isT, o_isB, o_isn0, o_isnI, o_isnS, o_isnT, o_neg, o_abs, o_intI, o_intB, l_lst, l_nst, l_tup, l_flst, l_dct, t_non, t_bl, t_int, t_lst, t_nst, t_tup, t_dct, i_nil, ty_int, ty_str, ty_bl, ty_non, ty_tup, ty_lst, ow_im, ow_lst, ow_nst, ow_dct, ow_dnn, iD_int, if_true, if_false, Bool.false_eq_true, reduceIte, decide_true, decide_false, decide_eq_true_eq, Nat.reduceLT, Nat.reduceAdd, Nat.reduceSub, callA, takeA, putA, fzs, fzM, mkL, imsOf, List.zip_cons_cons, List.zip_nil_left, List.zip_nil_right, true_and, and_true, List.filterMap_cons, List.filterMap_nil, stays, itemsM, seqM, forR, lcR, unsetAll, parM, reduceCtorEq, ne_app, pop_app, popN_app, g_last, lm_lst, lm_nst, Bool.not_false, Bool.not_true, List.filterMap_cons, isiM, ite_true, ite_false, o_sumT]
  exact q _
/-! ### names -/
def namesSp : CP.Sp := fun ms Q E => ∃ n : Net, ms = [.im (netD n)] ∧ n.ok ∧ ∀ o, Q (.im (.kt (n.names.map .str))) [o]
theorem o_tupk (l : List D) : op1M .tuplek (.lst l) = some (.im (.kt l)) := rfl
/-- the first part of a row -/
def nmOf : D → D
  | .tup (a :: _) => a
  | d => d
theorem names_ok {Γ : Nat → CP.Sp} : ∀ ms Q E, namesSp ms Q E → bodySp p3.length n3.length A3 (xss G Γ b3) ms Q E := by
  rintro ms Q E ⟨n, rfl, ok, q⟩
  refine ⟨rfl, ?_⟩
  have := ok.li
  have := ok.ls
  have ha : (n.ins.map inpD).length + (n.sts.map stD).length ≤ 16777216 := by simp; omega
  simp only [xss, CP.xs, CP.ev, CP.evs, takeK, evT, evTs, evA, evI, bor, two, evP, setP, fin_some, fin_none, bindO_some, bindO_none, slot0, slot1, set0, set1, List.map_cons, List.map_nil, List.cons_append, List.nil_append, List.getElem?_cons_zero, List.getElem?_cons_succ, Option.bind_some, Option.map_some, Option.getD_some, id, List.length_cons, List.length_nil, List.replicate_succ, List.replicate_zero, bindT, bindTs, tupM, List.length_set, Nat.zero_add, o_mulR, o_mulL, CP.small64, o_mod, o_fdiv, o_pow, o_lenL, o_lenN, o_lenT, o_lenF, o_lenD, o_listL, o_listT, o_listF, o_tupL, o_tupT, o_boolI, Bool.and_true, Bool.true_and, Bool.and_self, Int.reduceNeg, Int.reducePow, Int.reduceLT, Int.reduceLE, Int.reduceAdd, Int.reduceToNat, Int.natAbs_natCast, o_add, o_sub, o_lt, o_le, o_gt, o_ge, o_max, o_min, o_eqI, o_eqS, o_neI, o_neS, o_eqB, o_neB, o_is0, o_isI, o_isS, o_isT, o_isB, o_isn0, o_isnI, o_isnS, o_isnT, o_neg, o_abs, o_intI, o_intB, l_lst, l_nst, l_tup, l_flst, l_dct, t_non, t_bl, t_int, t_lst, t_nst, t_tup, t_dct, i_nil, ty_int, ty_str, ty_bl, ty_non, ty_tup, ty_lst, ow_im, ow_lst, ow_nst, ow_dct, ow_dnn, iD_int, if_true, if_false, Bool.false_eq_true, reduceIte, decide_true, decide_false, decide_eq_true_eq, Nat.reduceLT, Nat.reduceAdd, Nat.reduceSub, callA, takeA, putA, fzs, fzM, mkL, imsOf, List.zip_cons_cons, List.zip_nil_left, List.zip_nil_right, true_and, and_true, List.filterMap_cons, List.filterMap_nil, stays, itemsM, seqM, unsetAll, parM, reduceCtorEq, ne_app, pop_app, popN_app, g_last, lm_lst, lm_nst, Bool.not_false, Bool.not_true, List.filterMap_cons, isiM, ite_true, ite_false, n_0, n_1, o_addT ha]
  have ed : n.ins.map inpD ++ n.sts.map stD = (n.ins.map (fun p => (p.1, inpD p)) ++ n.sts.map (fun p => (p.1, stD p))).map (fun x : Str × D => x.2) := by
    rw [List.map_append, List.map_map, List.map_map]; rfl
  rw [ed]
  refine lc_map (fun x : Str × D => x.2) (fun x : Str × D => D.str x.1) rfl trivial _ (fun x hx K k => ?_) (by simp; omega) ?_
  · rcases List.mem_append.mp hx with hx | hx
    · obtain ⟨p, _, rfl⟩ := List.mem_map.mp hx
      simp only [t3_1, e3_1, inpD, xss, CP.xs, CP.ev, CP.evs, takeK, evT, evTs, evA, evI, bor, two, evP, setP, fin_some, fin_none, bindO_some, bindO_none, slot0, slot1, set0, set1, List.map_cons, List.map_nil, List.cons_append, List.nil_append, List.getElem?_cons_zero, List.getElem?_cons_succ, Option.bind_some, Option.map_some, Option.getD_some, id, List.length_cons, List.length_nil, List.replicate_succ, List.replicate_zero, bindT, bindTs, tupM, List.length_set, Nat.zero_add, o_mulR, o_mulL, CP.small64, o_mod, o_fdiv, o_pow, o_lenL, o_lenN, o_lenT, o_lenF, o_lenD, o_listL, o_listT, o_listF, o_tupL, o_tupT, o_boolI, Bool.and_true, Bool.true_and, Bool.and_self, Int.reduceNeg, Int.reducePow, Int.reduceLT, Int.reduceLE, Int.reduceAdd, Int.reduceToNat, Int.natAbs_natCast, o_add, o_sub, o_lt, o_le, o_gt, o_ge, o_max, o_min, o_eqI, o_eqS, o_neI, o_neS, o_eqB, o_neB, o_is0, o_isI, o_isS, o_isT, o_isB, o_isn0, o_isnI, o_isnS, o_isnT, o_neg, o_abs, o_intI, o_intB, l_lst, l_nst, l_tup, l_flst, l_dct, t_non, t_bl, t_int, t_lst, t_nst, t_tup, t_dct, i_nil, ty_int, ty_str, ty_bl, ty_non, ty_tup, ty_lst, ow_im, ow_lst, ow_nst, ow_dct, ow_dnn, iD_int, if_true, if_false, Bool.false_eq_true, reduceIte, decide_true, decide_false, decide_eq_true_eq, Nat.reduceLT, Nat.reduceAdd, Nat.reduceSub, callA, takeA, putA, fzs, fzM, mkL, imsOf, List.zip_cons_cons, List.zip_nil_left, List.zip_nil_right, true_and, and_true, List.filterMap_cons, List.filterMap_nil, stays, itemsM, seqM, unsetAll, parM, reduceCtorEq, ne_app, pop_app, popN_app, g_last, lm_lst, lm_nst, Bool.not_false, Bool.not_true, List.filterMap_cons, isiM, ite_true, ite_false, g_t0]
      exact k
    · obtain ⟨p, _, rfl⟩ := List.mem_map.mp hx
      simp only [t3_1, e3_1, stD, xss, CP.xs, CP.ev, CP.evs, takeK, evT, evTs, evA, evI, bor, two, evP, setP, fin_some, fin_none, bindO_some, bindO_none, slot0, slot1, set0, set1, List.map_cons, List.map_nil, List.cons_append, List.nil_append, List.getElem?_cons_zero, List.getElem?_cons_succ, Option.bind_some, Option.map_some, Option.getD_some, id, List.length_cons, List.length_nil, List.replicate_succ, List.replicate_zero, bindT, bindTs, tupM, List.length_set, Nat.zero_add, o_mulR, o_mulL, CP.small64, o_mod, o_fdiv, o_pow, o_lenL, o_lenN, o_lenT, o_lenF, o_lenD, o_listL, o_listT, o_listF, o_tupL, o_tupT, o_boolI, Bool.and_true, Bool.true_and, Bool.and_self, Int.reduceNeg, Int.reducePow, Int.reduceLT, Int.reduceLE, Int.reduceAdd, Int.reduceToNat, Int.natAbs_natCast, o_add, o_sub, o_lt, o_le, o_gt, o_ge, o_max, o_min, o_eqI, o_eqS, o_neI, o_neS, o_eqB, o_neB, o_is0, o_isI, o_isS, o_isT, o_isB, o_isn0, o_isnI, o_isnS, o_isnT, o_neg, o_abs, o_intI, o_intB, l_lst, l_nst, l_tup, l_flst, l_dct, t_non, t_bl, t_int, t_lst, t_nst, t_tup, t_dct, i_nil, ty_int, ty_str, ty_bl, ty_non, ty_tup, ty_lst, ow_im, ow_lst, ow_nst, ow_dct, ow_dnn, iD_int, if_true, if_false, Bool.false_eq_true, reduceIte, decide_true, decide_false, decide_eq_true_eq, Nat.reduceLT, Nat.reduceAdd, Nat.reduceSub, callA, takeA, putA, fzs, fzM, mkL, imsOf, List.zip_cons_cons, List.zip_nil_left, List.zip_nil_right, true_and, and_true, List.filterMap_cons, List.filterMap_nil, stays, itemsM, seqM, unsetAll, parM, reduceCtorEq, ne_app, pop_app, popN_app, g_last, lm_lst, lm_nst, Bool.not_false, Bool.not_true, List.filterMap_cons, isiM, ite_true, ite_false, g_t0]
      exact k
  · have e2 : (n.ins.map (fun p => (p.1, inpD p)) ++ n.sts.map (fun p => (p.1, stD p))).map (fun x : Str × D => D.str x.1) = n.names.map .str := by
      unfold Net.names
      rw [List.map_append, List.map_append, List.map_map, List.map_map, List.map_map, List.map_map]; rfl
    simp only [xss, CP.xs, CP.ev, CP.evs, takeK, evT, evTs, evA, evI, bor, two, evP, setP, fin_some, fin_none, bindO_some, bindO_none, slot0, slot1, set0, set1, List.map_cons, List.map_nil, List.cons_append, List.nil_append, List.getElem?_cons_zero, List.getElem?_cons_succ, Option.bind_some, Option.map_some, Option.getD_some, id, List.length_cons, List.length_nil, List.replicate_succ, List.replicate_zero, bindT, bindTs, tupM, List.length_set, Nat.zero_add, o_mulR, o_mulL, CP.small64, o_mod, o_fdiv, o_pow, o_lenL, o_lenN, o_lenT, o_lenF, o_lenD, o_listL, o_listT, o_listF, o_tupL, o_tupT, o_boolI, Bool.and_true, Bool.true_and, Bool.and_self, Int.reduceNeg, Int.reducePow, Int.reduceLT, Int.reduceLE, Int.reduceAdd, Int.reduceToNat, Int.natAbs_natCast, o_add, o_sub, o_lt, o_le, o_gt, o_ge, o_max, o_min, o_eqI, o_eqS, o_neI, o_neS, o_eqB, o_neB, o_is0, o_isI, o_isS, o_isT, o_isB, o_isn0, o_isnI, o_isnS, o_isnT, o_neg, o_abs, o_intI, o_intB, l_lst, l_nst, l_tup, l_flst, l_dct, t_non, t_bl, t_int, t_lst, t_nst, t_tup, t_dct, i_nil, ty_int, ty_str, ty_bl, ty_non, ty_tup, ty_lst, ow_im, ow_lst, ow_nst, ow_dct, ow_dnn, iD_int, if_true, if_false, Bool.false_eq_true, reduceIte, decide_true, decide_false, decide_eq_true_eq, Nat.reduceLT, Nat.reduceAdd, Nat.reduceSub, callA, takeA, putA, fzs, fzM, mkL, imsOf, List.zip_cons_cons, List.zip_nil_left, List.zip_nil_right, true_and, and_true, List.filterMap_cons, List.filterMap_nil, stays, itemsM, seqM, unsetAll, parM, reduceCtorEq, ne_app, pop_app, popN_app, g_last, lm_lst, lm_nst, Bool.not_false, Bool.not_true, List.filterMap_cons, isiM, ite_true, ite_false, o_tupk, e2]
    exact q _
/-! ### what is raised -/
def xStep (w : Str) : XD := ⟨"BadStep", [("word", .str w)]⟩
def nrSp : CP.Sp := fun ms Q E => ∃ (many number : Int) (w : Str), ms = [.im (.int many), .im (.int number), .im (.str w)] ∧ ∀ o1 o2 o3, (if 0 ≤ number ∧ number < many then Q (.im .non) [o1, o2, o3] else E (xStep w) [o1, o2, o3])
theorem nr_ok {Γ : Nat → CP.Sp} : ∀ ms Q E, nrSp ms Q E → bodySp p4.length n4.length A4 (xss G Γ b4) ms Q E := by
  rintro ms Q E ⟨many, number, w, rfl, q⟩
  refine ⟨rfl, ?_⟩
  have hf : kget G.flds "BadStep" = some (["word"] : List Str) := fl_BadStep
  simp only [xss, CP.xs, CP.ev, CP.evs, takeK, evT, evTs, evA, evI, bor, two, evP, setP, fin_some, fin_none, bindO_some, bindO_none, slot0, slot1, set0, set1, List.map_cons, List.map_nil, List.cons_append, List.nil_append, List.getElem?_cons_zero, List.getElem?_cons_succ, Option.bind_some, Option.map_some, Option.getD_some, id, List.length_cons, List.length_nil, List.replicate_succ, List.replicate_zero, bindT, bindTs, tupM, List.length_set, Nat.zero_add, o_mulR, o_mulL, CP.small64, o_mod, o_fdiv, o_pow, o_lenL, o_lenN, o_lenT, o_lenF, o_lenD, o_listL, o_listT, o_listF, o_tupL, o_tupT, o_boolI, Bool.and_true, Bool.true_and, Bool.and_self, Int.reduceNeg, Int.reducePow, Int.reduceLT, Int.reduceLE, Int.reduceAdd, Int.reduceToNat, Int.natAbs_natCast, o_add, o_sub, o_lt, o_le, o_gt, o_ge, o_max, o_min, o_eqI, o_eqS, o_neI, o_neS, o_eqB, o_neB, o_is0, o_isI, o_isS, o_isT, o_isB, o_isn0, o_isnI, o_isnS, o_isnT, o_neg, o_abs, o_intI, o_intB, l_lst, l_nst, l_tup, l_flst, l_dct, t_non, t_bl, t_int, t_lst, t_nst, t_tup, t_dct, i_nil, ty_int, ty_str, ty_bl, ty_non, ty_tup, ty_lst, ow_im, ow_lst, ow_nst, ow_dct, ow_dnn, iD_int, if_true, if_false, Bool.false_eq_true, reduceIte, decide_true, decide_false, decide_eq_true_eq, Nat.reduceLT, Nat.reduceAdd, Nat.reduceSub, callA, takeA, putA, fzs, fzM, mkL, imsOf, List.zip_cons_cons, List.zip_nil_left, List.zip_nil_right, true_and, and_true, List.filterMap_cons, List.filterMap_nil, stays, itemsM, seqM, forR, lcR, unsetAll, parM, reduceCtorEq, ne_app, pop_app, popN_app, g_last, lm_lst, lm_nst, Bool.not_false, Bool.not_true, List.filterMap_cons, isiM, ite_true, ite_false, hf]
  by_cases h0 : 0 ≤ number
  · by_cases h1 : number < many
    · have := fun o1 o2 o3 => q o1 o2 o3
      simp only [h0, h1, and_self, if_true] at this
      simp only [h0, h1, xss, CP.xs, CP.ev, CP.evs, takeK, evT, evTs, evA, evI, bor, two, evP, setP, fin_some, fin_none, bindO_some, bindO_none, slot0, slot1, set0, set1, List.map_cons, List.map_nil, List.cons_append, List.nil_append, List.getElem?_cons_zero, List.getElem?_cons_succ, Option.bind_some, Option.map_some, Option.getD_some, id, List.length_cons, List.length_nil, List.replicate_succ, List.replicate_zero, bindT, bindTs, tupM, List.length_set, Nat.zero_add, o_mulR, o_mulL, CP.small64, o_mod, o_fdiv, o_pow, o_lenL, o_lenN, o_lenT, o_lenF, o_lenD, o_listL, o_listT, o_listF, o_tupL, o_tupT, o_boolI, Bool.and_true, Bool.true_and, Bool.and_self, Int.reduceNeg, Int.reducePow, Int.reduceLT, Int.reduceLE, Int.reduceAdd, Int.reduceToNat, Int.natAbs_natCast, o_add, o_sub, o_lt, o_le, o_gt, o_ge, o_max, o_min, o_eqI, o_eqS, o_neI, o_neS, o_eqB, o_neB, o_is0, o_isI, o_isS, o_isT, o_isB, o_isn0, o_isnI, o_isnS, o_isnT, o_neg, o_abs, o_intI, o_intB, l_lst, l_nst, l_tup, l_flst, l_dct, t_non, t_bl, t_int, t_lst, t_nst, t_tup, t_dct, i_nil, ty_int, ty_str, ty_bl, ty_non, ty_tup, ty_lst, ow_im, ow_lst, ow_nst, ow_dct, ow_dnn, iD_int, if_true, if_false, Bool.false_eq_true, reduceIte, decide_true, decide_false, decide_eq_true_eq, Nat.reduceLT, Nat.reduceAdd, Nat.reduceSub, callA, takeA, putA, fzs, fzM, mkL, imsOf, List.zip_cons_cons, List.zip_nil_left, List.zip_nil_right, true_and, and_true, List.filterMap_cons, List.filterMap_nil, stays, itemsM, seqM, forR, lcR, unsetAll, parM, reduceCtorEq, ne_app, pop_app, popN_app, g_last, lm_lst, lm_nst, Bool.not_false, Bool.not_true, List.filterMap_cons, isiM, ite_true, ite_false]
      exact this _ _ _
    · have := fun o1 o2 o3 => q o1 o2 o3
      simp only [h0, h1, and_false, if_false] at this
      simp only [h0, h1, xss, CP.xs, CP.ev, CP.evs, takeK, evT, evTs, evA, evI, bor, two, evP, setP, fin_some, fin_none, bindO_some, bindO_none, slot0, slot1, set0, set1, List.map_cons, List.map_nil, List.cons_append, List.nil_append, List.getElem?_cons_zero, List.getElem?_cons_succ, Option.bind_some, Option.map_some, Option.getD_some, id, List.length_cons, List.length_nil, List.replicate_succ, List.replicate_zero, bindT, bindTs, tupM, List.length_set, Nat.zero_add, o_mulR, o_mulL, CP.small64, o_mod, o_fdiv, o_pow, o_lenL, o_lenN, o_lenT, o_lenF, o_lenD, o_listL, o_listT, o_listF, o_tupL, o_tupT, o_boolI, Bool.and_true, Bool.true_and, Bool.and_self, Int.reduceNeg, Int.reducePow, Int.reduceLT, Int.reduceLE, Int.reduceAdd, Int.reduceToNat, Int.natAbs_natCast, o_add, o_sub, o_lt, o_le, o_gt, o_ge, o_max, o_min, o_eqI, o_eqS, o_neI, o_neS, o_eqB, o_neB, o_is0, o_isI, o_isS, o_isT, o_isB, o_isn0, o_isnI, o_isnS, o_isnT, o_neg, o_abs, o_intI, o_intB, l_lst, l_nst, l_tup, l_flst, l_dct, t_non, t_bl, t_int, t_lst, t_nst, t_tup, t_dct, i_nil, ty_int, ty_str, ty_bl, ty_non, ty_tup, ty_lst, ow_im, ow_lst, ow_nst, ow_dct, ow_dnn, iD_int, if_true, if_false, Bool.false_eq_true, reduceIte, decide_true, decide_false, decide_eq_true_eq, Nat.reduceLT, Nat.reduceAdd, Nat.reduceSub, callA, takeA, putA, fzs, fzM, mkL, imsOf, List.zip_cons_cons, List.zip_nil_left, List.zip_nil_right, true_and, and_true, List.filterMap_cons, List.filterMap_nil, stays, itemsM, seqM, forR, lcR, unsetAll, parM, reduceCtorEq, ne_app, pop_app, popN_app, g_last, lm_lst, lm_nst, Bool.not_false, Bool.not_true, List.filterMap_cons, isiM, ite_true, ite_false]
      exact this _ _ _
  · have := fun o1 o2 o3 => q o1 o2 o3
    simp only [h0, false_and, if_false] at this
    simp only [h0, xss, CP.xs, CP.ev, CP.evs, takeK, evT, evTs, evA, evI, bor, two, evP, setP, fin_some, fin_none, bindO_some, bindO_none, slot0, slot1, set0, set1, List.map_cons, List.map_nil, List.cons_append, List.nil_append, List.getElem?_cons_zero, List.getElem?_cons_succ, Option.bind_some, Option.map_some, Option.getD_some, id, List.length_cons, List.length_nil, List.replicate_succ, List.replicate_zero, bindT, bindTs, tupM, List.length_set, Nat.zero_add, o_mulR, o_mulL, CP.small64, o_mod, o_fdiv, o_pow, o_lenL, o_lenN, o_lenT, o_lenF, o_lenD, o_listL, o_listT, o_listF, o_tupL, o_tupT, o_boolI, Bool.and_true, Bool.true_and, Bool.and_self, Int.reduceNeg, Int.reducePow, Int.reduceLT, Int.reduceLE, Int.reduceAdd, Int.reduceToNat, Int.natAbs_natCast, o_add, o_sub, o_lt, o_le, o_gt, o_ge, o_max, o_min, o_eqI, o_eqS, o_neI, o_neS, o_eqB, o_neB, o_is0, o_isI, o_isS, o_isT, o_isB, o_isn0, o_isnI, o_isnS, o_isnT, o_neg, o_abs, o_intI, o_intB, l_lst, l_nst, l_tup, l_flst, l_dct, t_non, t_bl, t_int, t_lst, t_nst, t_tup, t_dct, i_nil, ty_int, ty_str, ty_bl, ty_non, ty_tup, ty_lst, ow_im, ow_lst, ow_nst, ow_dct, ow_dnn, iD_int, if_true, if_false, Bool.false_eq_true, reduceIte, decide_true, decide_false, decide_eq_true_eq, Nat.reduceLT, Nat.reduceAdd, Nat.reduceSub, callA, takeA, putA, fzs, fzM, mkL, imsOf, List.zip_cons_cons, List.zip_nil_left, List.zip_nil_right, true_and, and_true, List.filterMap_cons, List.filterMap_nil, stays, itemsM, seqM, forR, lcR, unsetAll, parM, reduceCtorEq, ne_app, pop_app, popN_app, g_last, lm_lst, lm_nst, Bool.not_false, Bool.not_true, List.filterMap_cons, isiM, ite_true, ite_false]
    exact this _ _ _
def srSp : CP.Sp := fun ms Q E => ∃ (n : Net) (g : Int), ms = [.im (netD n), .im (.int g)] ∧ ∀ o1 o2, (if 0 ≤ g ∧ g < n.cnt then Q (.im .non) [o1, o2] else E (xStep "signal") [o1, o2])
theorem sr_ok {Γ : Nat → CP.Sp} (h0 : Γ 0 = cntSp) (h4 : Γ 4 = nrSp) : ∀ ms Q E, srSp ms Q E → bodySp p5.length n5.length A5 (xss G Γ b5) ms Q E := by
  rintro ms Q E ⟨n, g, rfl, q⟩
  refine ⟨rfl, ?_⟩
  simp only [xss, CP.xs, CP.ev, CP.evs, takeK, evT, evTs, evA, evI, bor, two, evP, setP, fin_some, fin_none, bindO_some, bindO_none, slot0, slot1, set0, set1, List.map_cons, List.map_nil, List.cons_append, List.nil_append, List.getElem?_cons_zero, List.getElem?_cons_succ, Option.bind_some, Option.map_some, Option.getD_some, id, List.length_cons, List.length_nil, List.replicate_succ, List.replicate_zero, bindT, bindTs, tupM, List.length_set, Nat.zero_add, o_mulR, o_mulL, CP.small64, o_mod, o_fdiv, o_pow, o_lenL, o_lenN, o_lenT, o_lenF, o_lenD, o_listL, o_listT, o_listF, o_tupL, o_tupT, o_boolI, Bool.and_true, Bool.true_and, Bool.and_self, Int.reduceNeg, Int.reducePow, Int.reduceLT, Int.reduceLE, Int.reduceAdd, Int.reduceToNat, Int.natAbs_natCast, o_add, o_sub, o_lt, o_le, o_gt, o_ge, o_max, o_min, o_eqI, o_eqS, o_neI, o_neS, o_eqB, o_neB, o_is0, o_isI, o_isS, o_isT, o_isB, o_isn0, o_isnI, o_isnS, o_isnT, o_neg, o_abs, o_intI, o_intB, l_lst, l_nst, l_tup, l_flst, l_dct, t_non, t_bl, t_int, t_lst, t_nst, t_tup, t_dct, i_nil, ty_int, ty_str, ty_bl, ty_non, ty_tup, ty_lst, ow_im, ow_lst, ow_nst, ow_dct, ow_dnn, iD_int, if_true, if_false, Bool.false_eq_true, reduceIte, decide_true, decide_false, decide_eq_true_eq, Nat.reduceLT, Nat.reduceAdd, Nat.reduceSub, callA, takeA, putA, fzs, fzM, mkL, imsOf, List.zip_cons_cons, List.zip_nil_left, List.zip_nil_right, true_and, and_true, List.filterMap_cons, List.filterMap_nil, stays, itemsM, seqM, forR, lcR, unsetAll, parM, reduceCtorEq, ne_app, pop_app, popN_app, g_last, lm_lst, lm_nst, Bool.not_false, Bool.not_true, List.filterMap_cons, isiM, ite_true, ite_false, h0, h4]
  refine ⟨n, rfl, fun o => ?_⟩
  simp only [xss, CP.xs, CP.ev, CP.evs, takeK, evT, evTs, evA, evI, bor, two, evP, setP, fin_some, fin_none, bindO_some, bindO_none, slot0, slot1, set0, set1, List.map_cons, List.map_nil, List.cons_append, List.nil_append, List.getElem?_cons_zero, List.getElem?_cons_succ, Option.bind_some, Option.map_some, Option.getD_some, id, List.length_cons, List.length_nil, List.replicate_succ, List.replicate_zero, bindT, bindTs, tupM, List.length_set, Nat.zero_add, o_mulR, o_mulL, CP.small64, o_mod, o_fdiv, o_pow, o_lenL, o_lenN, o_lenT, o_lenF, o_lenD, o_listL, o_listT, o_listF, o_tupL, o_tupT, o_boolI, Bool.and_true, Bool.true_and, Bool.and_self, Int.reduceNeg, Int.reducePow, Int.reduceLT, Int.reduceLE, Int.reduceAdd, Int.reduceToNat, Int.natAbs_natCast, o_add, o_sub, o_lt, o_le, o_gt, o_ge, o_max, o_min, o_eqI, o_eqS, o_neI, o_neS, o_eqB, o_neB, o_is0, o_isI, o_isS, o_isT, o_isB, o_isn0, o_isnI, o_isnS, o_isnT, o_neg, o_abs, o_intI, o_intB, l_lst, l_nst, l_tup, l_flst, l_dct, t_non, t_bl, t_int, t_lst, t_nst, t_tup, t_dct, i_nil, ty_int, ty_str, ty_bl, ty_non, ty_tup, ty_lst, ow_im, ow_lst, ow_nst, ow_dct, ow_dnn, iD_int, if_true, if_false, Bool.false_eq_true, reduceIte, decide_true, decide_false, decide_eq_true_eq, Nat.reduceLT, Nat.reduceAdd, Nat.reduceSub, callA, takeA, putA, fzs, fzM, mkL, imsOf, List.zip_cons_cons, List.zip_nil_left, List.zip_nil_right, true_and, and_true, List.filterMap_cons, List.filterMap_nil, stays, itemsM, seqM, forR, lcR, unsetAll, parM, reduceCtorEq, ne_app, pop_app, popN_app, g_last, lm_lst, lm_nst, Bool.not_false, Bool.not_true, List.filterMap_cons, isiM, ite_true, ite_false, h4]
  refine ⟨_, _, _, rfl, fun o1 o2 o3 => ?_⟩
  have := fun o1 o2 => q o1 o2
  split
  · rename_i h
    simp only [h, and_self, if_true] at this
    simp only [xss, CP.xs, CP.ev, CP.evs, takeK, evT, evTs, evA, evI, bor, two, evP, setP, fin_some, fin_none, bindO_some, bindO_none, slot0, slot1, set0, set1, List.map_cons, List.map_nil, List.cons_append, List.nil_append, List.getElem?_cons_zero, List.getElem?_cons_succ, Option.bind_some, Option.map_some, Option.getD_some, id, List.length_cons, List.length_nil, List.replicate_succ, List.replicate_zero, bindT, bindTs, tupM, List.length_set, Nat.zero_add, o_mulR, o_mulL, CP.small64, o_mod, o_fdiv, o_pow, o_lenL, o_lenN, o_lenT, o_lenF, o_lenD, o_listL, o_listT, o_listF, o_tupL, o_tupT, o_boolI, Bool.and_true, Bool.true_and, Bool.and_self, Int.reduceNeg, Int.reducePow, Int.reduceLT, Int.reduceLE, Int.reduceAdd, Int.reduceToNat, Int.natAbs_natCast, o_add, o_sub, o_lt, o_le, o_gt, o_ge, o_max, o_min, o_eqI, o_eqS, o_neI, o_neS, o_eqB, o_neB, o_is0, o_isI, o_isS, o_isT, o_isB, o_isn0, o_isnI, o_isnS, o_isnT, o_neg, o_abs, o_intI, o_intB, l_lst, l_nst, l_tup, l_flst, l_dct, t_non, t_bl, t_int, t_lst, t_nst, t_tup, t_dct, i_nil, ty_int, ty_str, ty_bl, ty_non, ty_tup, ty_lst, ow_im, ow_lst, ow_nst, ow_dct, ow_dnn, iD_int, if_true, if_false, Bool.false_eq_true, reduceIte, decide_true, decide_false, decide_eq_true_eq, Nat.reduceLT, Nat.reduceAdd, Nat.reduceSub, callA, takeA, putA, fzs, fzM, mkL, imsOf, List.zip_cons_cons, List.zip_nil_left, List.zip_nil_right, true_and, and_true, List.filterMap_cons, List.filterMap_nil, stays, itemsM, seqM, forR, lcR, unsetAll, parM, reduceCtorEq, ne_app, pop_app, popN_app, g_last, lm_lst, lm_nst, Bool.not_false, Bool.not_true, List.filterMap_cons, isiM, ite_true, ite_false]
    exact this _ _
  · rename_i h
    simp only [h, if_false] at this
    simp only [xss, CP.xs, CP.ev, CP.evs, takeK, evT, evTs, evA, evI, bor, two, evP, setP, fin_some, fin_none, bindO_some, bindO_none, slot0, slot1, set0, set1, List.map_cons, List.map_nil, List.cons_append, List.nil_append, List.getElem?_cons_zero, List.getElem?_cons_succ, Option.bind_some, Option.map_some, Option.getD_some, id, List.length_cons, List.length_nil, List.replicate_succ, List.replicate_zero, bindT, bindTs, tupM, List.length_set, Nat.zero_add, o_mulR, o_mulL, CP.small64, o_mod, o_fdiv, o_pow, o_lenL, o_lenN, o_lenT, o_lenF, o_lenD, o_listL, o_listT, o_listF, o_tupL, o_tupT, o_boolI, Bool.and_true, Bool.true_and, Bool.and_self, Int.reduceNeg, Int.reducePow, Int.reduceLT, Int.reduceLE, Int.reduceAdd, Int.reduceToNat, Int.natAbs_natCast, o_add, o_sub, o_lt, o_le, o_gt, o_ge, o_max, o_min, o_eqI, o_eqS, o_neI, o_neS, o_eqB, o_neB, o_is0, o_isI, o_isS, o_isT, o_isB, o_isn0, o_isnI, o_isnS, o_isnT, o_neg, o_abs, o_intI, o_intB, l_lst, l_nst, l_tup, l_flst, l_dct, t_non, t_bl, t_int, t_lst, t_nst, t_tup, t_dct, i_nil, ty_int, ty_str, ty_bl, ty_non, ty_tup, ty_lst, ow_im, ow_lst, ow_nst, ow_dct, ow_dnn, iD_int, if_true, if_false, Bool.false_eq_true, reduceIte, decide_true, decide_false, decide_eq_true_eq, Nat.reduceLT, Nat.reduceAdd, Nat.reduceSub, callA, takeA, putA, fzs, fzM, mkL, imsOf, List.zip_cons_cons, List.zip_nil_left, List.zip_nil_right, true_and, and_true, List.filterMap_cons, List.filterMap_nil, stays, itemsM, seqM, forR, lcR, unsetAll, parM, reduceCtorEq, ne_app, pop_app, popN_app, g_last, lm_lst, lm_nst, Bool.not_false, Bool.not_true, List.filterMap_cons, isiM, ite_true, ite_false]
    exact this _ _
def numD (n : Net) (z : Str) : Option Nat := n.names.idxOf? z
def snSp : CP.Sp := fun ms Q E => ∃ (n : Net) (z : Str), ms = [.im (netD n), .im (.str z)] ∧ n.ok ∧ ∀ o1 o2, (match n.names.idxOf? z with
  | some k => Q (.im (.int (k : Nat))) [o1, o2]
  | none => E (xStep "signal") [o1, o2])
theorem idx_none {l : List Str} {z : Str} (h : z ∉ l) : l.idxOf? z = none := by
  induction l with
  | nil => rfl
  | cons s l ih =>
    simp only [List.mem_cons, not_or] at h
    rw [List.idxOf?_cons, ih h.2]
    have : (s == z) = false := by simpa using fun e => h.1 e.symm
    rw [this]
    rfl
theorem sn_ok {Γ : Nat → CP.Sp} (h3 : Γ 3 = namesSp) : ∀ ms Q E, snSp ms Q E → bodySp p6.length n6.length A6 (xss G Γ b6) ms Q E := by
  rintro ms Q E ⟨n, z, rfl, ok, q⟩
  refine ⟨rfl, ?_⟩
  have hf : kget G.flds "BadStep" = some (["word"] : List Str) := fl_BadStep
  simp only [xss, CP.xs, CP.ev, CP.evs, takeK, evT, evTs, evA, evI, bor, two, evP, setP, fin_some, fin_none, bindO_some, bindO_none, slot0, slot1, set0, set1, List.map_cons, List.map_nil, List.cons_append, List.nil_append, List.getElem?_cons_zero, List.getElem?_cons_succ, Option.bind_some, Option.map_some, Option.getD_some, id, List.length_cons, List.length_nil, List.replicate_succ, List.replicate_zero, bindT, bindTs, tupM, List.length_set, Nat.zero_add, o_mulR, o_mulL, CP.small64, o_mod, o_fdiv, o_pow, o_lenL, o_lenN, o_lenT, o_lenF, o_lenD, o_listL, o_listT, o_listF, o_tupL, o_tupT, o_boolI, Bool.and_true, Bool.true_and, Bool.and_self, Int.reduceNeg, Int.reducePow, Int.reduceLT, Int.reduceLE, Int.reduceAdd, Int.reduceToNat, Int.natAbs_natCast, o_add, o_sub, o_lt, o_le, o_gt, o_ge, o_max, o_min, o_eqI, o_eqS, o_neI, o_neS, o_eqB, o_neB, o_is0, o_isI, o_isS, o_isT, o_isB, o_isn0, o_isnI, o_isnS, o_isnT, o_neg, o_abs, o_intI, o_intB, l_lst, l_nst, l_tup, l_flst, l_dct, t_non, t_bl, t_int, t_lst, t_nst, t_tup, t_dct, i_nil, ty_int, ty_str, ty_bl, ty_non, ty_tup, ty_lst, ow_im, ow_lst, ow_nst, ow_dct, ow_dnn, iD_int, if_true, if_false, Bool.false_eq_true, reduceIte, decide_true, decide_false, decide_eq_true_eq, Nat.reduceLT, Nat.reduceAdd, Nat.reduceSub, callA, takeA, putA, fzs, fzM, mkL, imsOf, List.zip_cons_cons, List.zip_nil_left, List.zip_nil_right, true_and, and_true, List.filterMap_cons, List.filterMap_nil, stays, itemsM, seqM, forR, lcR, unsetAll, parM, reduceCtorEq, ne_app, pop_app, popN_app, g_last, lm_lst, lm_nst, Bool.not_false, Bool.not_true, List.filterMap_cons, isiM, ite_true, ite_false, h3]
  refine ⟨n, rfl, ok, fun o => ?_⟩
  simp only [xss, CP.xs, CP.ev, CP.evs, takeK, evT, evTs, evA, evI, bor, two, evP, setP, fin_some, fin_none, bindO_some, bindO_none, slot0, slot1, set0, set1, List.map_cons, List.map_nil, List.cons_append, List.nil_append, List.getElem?_cons_zero, List.getElem?_cons_succ, Option.bind_some, Option.map_some, Option.getD_some, id, List.length_cons, List.length_nil, List.replicate_succ, List.replicate_zero, bindT, bindTs, tupM, List.length_set, Nat.zero_add, o_mulR, o_mulL, CP.small64, o_mod, o_fdiv, o_pow, o_lenL, o_lenN, o_lenT, o_lenF, o_lenD, o_listL, o_listT, o_listF, o_tupL, o_tupT, o_boolI, Bool.and_true, Bool.true_and, Bool.and_self, Int.reduceNeg, Int.reducePow, Int.reduceLT, Int.reduceLE, Int.reduceAdd, Int.reduceToNat, Int.natAbs_natCast, o_add, o_sub, o_lt, o_le, o_gt, o_ge, o_max, o_min, o_eqI, o_eqS, o_neI, o_neS, o_eqB, o_neB, o_is0, o_isI, o_isS, o_isT, o_isB, o_isn0, o_isnI, o_isnS, o_isnT, o_neg, o_abs, o_intI, o_intB, l_lst, l_nst, l_tup, l_flst, l_dct, t_non, t_bl, t_int, t_lst, t_nst, t_tup, t_dct, i_nil, ty_int, ty_str, ty_bl, ty_non, ty_tup, ty_lst, ow_im, ow_lst, ow_nst, ow_dct, ow_dnn, iD_int, if_true, if_false, Bool.false_eq_true, reduceIte, decide_true, decide_false, decide_eq_true_eq, Nat.reduceLT, Nat.reduceAdd, Nat.reduceSub, callA, takeA, putA, fzs, fzM, mkL, imsOf, List.zip_cons_cons, List.zip_nil_left, List.zip_nil_right, true_and, and_true, List.filterMap_cons, List.filterMap_nil, stays, itemsM, seqM, forR, lcR, unsetAll, parM, reduceCtorEq, ne_app, pop_app, popN_app, g_last, lm_lst, lm_nst, Bool.not_false, Bool.not_true, List.filterMap_cons, isiM, ite_true, ite_false, o_ninSK, hf]
  by_cases hz : z ∈ n.names
  · obtain ⟨k, hk, _⟩ := idx_mem hz
    have := fun o1 o2 => q o1 o2
    simp only [hk] at this
    simp only [hz, xss, CP.xs, CP.ev, CP.evs, takeK, evT, evTs, evA, evI, bor, two, evP, setP, fin_some, fin_none, bindO_some, bindO_none, slot0, slot1, set0, set1, List.map_cons, List.map_nil, List.cons_append, List.nil_append, List.getElem?_cons_zero, List.getElem?_cons_succ, Option.bind_some, Option.map_some, Option.getD_some, id, List.length_cons, List.length_nil, List.replicate_succ, List.replicate_zero, bindT, bindTs, tupM, List.length_set, Nat.zero_add, o_mulR, o_mulL, CP.small64, o_mod, o_fdiv, o_pow, o_lenL, o_lenN, o_lenT, o_lenF, o_lenD, o_listL, o_listT, o_listF, o_tupL, o_tupT, o_boolI, Bool.and_true, Bool.true_and, Bool.and_self, Int.reduceNeg, Int.reducePow, Int.reduceLT, Int.reduceLE, Int.reduceAdd, Int.reduceToNat, Int.natAbs_natCast, o_add, o_sub, o_lt, o_le, o_gt, o_ge, o_max, o_min, o_eqI, o_eqS, o_neI, o_neS, o_eqB, o_neB, o_is0, o_isI, o_isS, o_isT, o_isB, o_isn0, o_isnI, o_isnS, o_isnT, o_neg, o_abs, o_intI, o_intB, l_lst, l_nst, l_tup, l_flst, l_dct, t_non, t_bl, t_int, t_lst, t_nst, t_tup, t_dct, i_nil, ty_int, ty_str, ty_bl, ty_non, ty_tup, ty_lst, ow_im, ow_lst, ow_nst, ow_dct, ow_dnn, iD_int, if_true, if_false, Bool.false_eq_true, reduceIte, decide_true, decide_false, decide_eq_true_eq, Nat.reduceLT, Nat.reduceAdd, Nat.reduceSub, callA, takeA, putA, fzs, fzM, mkL, imsOf, List.zip_cons_cons, List.zip_nil_left, List.zip_nil_right, true_and, and_true, List.filterMap_cons, List.filterMap_nil, stays, itemsM, seqM, forR, lcR, unsetAll, parM, reduceCtorEq, ne_app, pop_app, popN_app, g_last, lm_lst, lm_nst, Bool.not_false, Bool.not_true, List.filterMap_cons, isiM, ite_true, ite_false, o_idxSK hk]
    exact this _ _
  · have := fun o1 o2 => q o1 o2
    simp only [idx_none hz] at this
    simp only [hz, xss, CP.xs, CP.ev, CP.evs, takeK, evT, evTs, evA, evI, bor, two, evP, setP, fin_some, fin_none, bindO_some, bindO_none, slot0, slot1, set0, set1, List.map_cons, List.map_nil, List.cons_append, List.nil_append, List.getElem?_cons_zero, List.getElem?_cons_succ, Option.bind_some, Option.map_some, Option.getD_some, id, List.length_cons, List.length_nil, List.replicate_succ, List.replicate_zero, bindT, bindTs, tupM, List.length_set, Nat.zero_add, o_mulR, o_mulL, CP.small64, o_mod, o_fdiv, o_pow, o_lenL, o_lenN, o_lenT, o_lenF, o_lenD, o_listL, o_listT, o_listF, o_tupL, o_tupT, o_boolI, Bool.and_true, Bool.true_and, Bool.and_self, Int.reduceNeg, Int.reducePow, Int.reduceLT, Int.reduceLE, Int.reduceAdd, Int.reduceToNat, Int.natAbs_natCast, o_add, o_sub, o_lt, o_le, o_gt, o_ge, o_max, o_min, o_eqI, o_eqS, o_neI, o_neS, o_eqB, o_neB, o_is0, o_isI, o_isS, o_isT, o_isB, o_isn0, o_isnI, o_isnS, o_isnT, o_neg, o_abs, o_intI, o_intB, l_lst, l_nst, l_tup, l_flst, l_dct, t_non, t_bl, t_int, t_lst, t_nst, t_tup, t_dct, i_nil, ty_int, ty_str, ty_bl, ty_non, ty_tup, ty_lst, ow_im, ow_lst, ow_nst, ow_dct, ow_dnn, iD_int, if_true, if_false, Bool.false_eq_true, reduceIte, decide_true, decide_false, decide_eq_true_eq, Nat.reduceLT, Nat.reduceAdd, Nat.reduceSub, callA, takeA, putA, fzs, fzM, mkL, imsOf, List.zip_cons_cons, List.zip_nil_left, List.zip_nil_right, true_and, and_true, List.filterMap_cons, List.filterMap_nil, stays, itemsM, seqM, forR, lcR, unsetAll, parM, reduceCtorEq, ne_app, pop_app, popN_app, g_last, lm_lst, lm_nst, Bool.not_false, Bool.not_true, List.filterMap_cons, isiM, ite_true, ite_false]
    exact this _ _
/-! ### users -/
def uses (g : Int) (p : Str × List Tm) : Bool := decide (g ∈ p.2.map (·.1))
abbrev en {α : Type} (l : List α) : List (Nat × α) := (List.range l.length).zip l
def Net.users (n : Net) (g : Int) : List Int := ((en n.sts).filter fun q => uses g q.2).map fun q => (q.1 : Int)
theorem en_get {α : Type} {l : List α} {q : Nat × α} (h : q ∈ en l) : l[q.1]? = some q.2 := by
  obtain ⟨k, hk⟩ := List.mem_iff_getElem?.mp h
  obtain ⟨h1, h2⟩ := List.getElem?_zip_eq_some.mp hk
  have : k < l.length := (List.getElem?_eq_some_iff.mp h2).1
  rw [List.getElem?_range this] at h1
  cases h1
  exact h2
theorem en_len {α : Type} {l : List α} : (en l).length = l.length := by simp
def usSp : CP.Sp := fun ms Q E => ∃ (n : Net) (g : Int), ms = [.im (netD n), .im (.int g)] ∧ n.ok ∧ ∀ o1 o2, (if 0 ≤ g ∧ g < n.cnt then Q (.im (.tup ((n.users g).map .int))) [o1, o2] else E (xStep "signal") [o1, o2])
theorem us_ok {Γ : Nat → CP.Sp} (h5 : Γ 5 = srSp) : ∀ ms Q E, usSp ms Q E → bodySp p7.length n7.length A7 (xss G Γ b7) ms Q E := by
  rintro ms Q E ⟨n, g, rfl, ok, q⟩
  refine ⟨rfl, ?_⟩
  simp only [xss, CP.xs, CP.ev, CP.evs, takeK, evT, evTs, evA, evI, bor, two, evP, setP, fin_some, fin_none, bindO_some, bindO_none, slot0, slot1, set0, set1, List.map_cons, List.map_nil, List.cons_append, List.nil_append, List.getElem?_cons_zero, List.getElem?_cons_succ, Option.bind_some, Option.map_some, Option.getD_some, id, List.length_cons, List.length_nil, List.replicate_succ, List.replicate_zero, bindT, bindTs, tupM, List.length_set, Nat.zero_add, o_mulR, o_mulL, CP.small64, o_mod, o_fdiv, o_pow, o_lenL, o_lenN, o_lenT, o_lenF, o_lenD, o_listL, o_listT, o_listF, o_tupL, o_tupT, o_boolI, Bool.and_true, Bool.true_and, Bool.and_self, Int.reduceNeg, Int.reducePow, Int.reduceLT, Int.reduceLE, Int.reduceAdd, Int.reduceToNat, Int.natAbs_natCast, o_add, o_sub, o_lt, o_le, o_gt, o_ge, o_max, o_min, o_eqI, o_eqS, o_neI, o_neS, o_eqB, o_neB, o_is0, o_isI, o_isS, o_isT, o_isB, o_isn0, o_isnI, o_isnS, o_isnT, o_neg, o_abs, o_intI, o_intB, l_lst, l_nst, l_tup, l_flst, l_dct, t_non, t_bl, t_int, t_lst, t_nst, t_tup, t_dct, i_nil, ty_int, ty_str, ty_bl, ty_non, ty_tup, ty_lst, ow_im, ow_lst, ow_nst, ow_dct, ow_dnn, iD_int, if_true, if_false, Bool.false_eq_true, reduceIte, decide_true, decide_false, decide_eq_true_eq, Nat.reduceLT, Nat.reduceAdd, Nat.reduceSub, callA, takeA, putA, fzs, fzM, mkL, imsOf, List.zip_cons_cons, List.zip_nil_left, List.zip_nil_right, true_and, and_true, List.filterMap_cons, List.filterMap_nil, stays, itemsM, seqM, unsetAll, parM, reduceCtorEq, ne_app, pop_app, popN_app, g_last, lm_lst, lm_nst, Bool.not_false, Bool.not_true, List.filterMap_cons, isiM, ite_true, ite_false, h5]
  refine ⟨n, g, rfl, fun o1 o2 => ?_⟩
  have q' := fun o1 o2 => q o1 o2
  split
  · rename_i hg
    simp only [hg, and_self, if_true] at q'
    simp only [xss, CP.xs, CP.ev, CP.evs, takeK, evT, evTs, evA, evI, bor, two, evP, setP, fin_some, fin_none, bindO_some, bindO_none, slot0, slot1, set0, set1, List.map_cons, List.map_nil, List.cons_append, List.nil_append, List.getElem?_cons_zero, List.getElem?_cons_succ, Option.bind_some, Option.map_some, Option.getD_some, id, List.length_cons, List.length_nil, List.replicate_succ, List.replicate_zero, bindT, bindTs, tupM, List.length_set, Nat.zero_add, o_mulR, o_mulL, CP.small64, o_mod, o_fdiv, o_pow, o_lenL, o_lenN, o_lenT, o_lenF, o_lenD, o_listL, o_listT, o_listF, o_tupL, o_tupT, o_boolI, Bool.and_true, Bool.true_and, Bool.and_self, Int.reduceNeg, Int.reducePow, Int.reduceLT, Int.reduceLE, Int.reduceAdd, Int.reduceToNat, Int.natAbs_natCast, o_add, o_sub, o_lt, o_le, o_gt, o_ge, o_max, o_min, o_eqI, o_eqS, o_neI, o_neS, o_eqB, o_neB, o_is0, o_isI, o_isS, o_isT, o_isB, o_isn0, o_isnI, o_isnS, o_isnT, o_neg, o_abs, o_intI, o_intB, l_lst, l_nst, l_tup, l_flst, l_dct, t_non, t_bl, t_int, t_lst, t_nst, t_tup, t_dct, i_nil, ty_int, ty_str, ty_bl, ty_non, ty_tup, ty_lst, ow_im, ow_lst, ow_nst, ow_dct, ow_dnn, iD_int, if_true, if_false, Bool.false_eq_true, reduceIte, decide_true, decide_false, decide_eq_true_eq, Nat.reduceLT, Nat.reduceAdd, Nat.reduceSub, callA, takeA, putA, fzs, fzM, mkL, imsOf, List.zip_cons_cons, List.zip_nil_left, List.zip_nil_right, true_and, and_true, List.filterMap_cons, List.filterMap_nil, stays, itemsM, seqM, unsetAll, parM, reduceCtorEq, ne_app, pop_app, popN_app, g_last, lm_lst, lm_nst, Bool.not_false, Bool.not_true, List.filterMap_cons, isiM, ite_true, ite_false, n_1]
    have ee : enumD (n.sts.map stD) = (en n.sts).map fun q => .tup [.int q.1, stD q.2] := by
      unfold enumD
      rw [List.length_map, List.zip_map_right, List.map_map]
      rfl
    rw [ee]
    refine lc_fm (fun q : Nat × (Str × List Tm) => D.tup [.int q.1, stD q.2]) (fun q => .int q.1) (fun q => uses g q.2) rfl trivial _ (fun x hx Kt Kf kt kf => ?_) [] (by rw [en_len]; have := ok.ls; simp; omega) ?_
    · have hl := (ok.lt x.2 (List.mem_of_getElem? (en_get hx))).1
      simp only [t7_1, f7_2, e7_1, stD, xss, CP.xs, CP.ev, CP.evs, takeK, evT, evTs, evA, evI, bor, two, evP, setP, fin_some, fin_none, bindO_some, bindO_none, slot0, slot1, set0, set1, List.map_cons, List.map_nil, List.cons_append, List.nil_append, List.getElem?_cons_zero, List.getElem?_cons_succ, Option.bind_some, Option.map_some, Option.getD_some, id, List.length_cons, List.length_nil, List.replicate_succ, List.replicate_zero, bindT, bindTs, tupM, List.length_set, Nat.zero_add, o_mulR, o_mulL, CP.small64, o_mod, o_fdiv, o_pow, o_lenL, o_lenN, o_lenT, o_lenF, o_lenD, o_listL, o_listT, o_listF, o_tupL, o_tupT, o_boolI, Bool.and_true, Bool.true_and, Bool.and_self, Int.reduceNeg, Int.reducePow, Int.reduceLT, Int.reduceLE, Int.reduceAdd, Int.reduceToNat, Int.natAbs_natCast, o_add, o_sub, o_lt, o_le, o_gt, o_ge, o_max, o_min, o_eqI, o_eqS, o_neI, o_neS, o_eqB, o_neB, o_is0, o_isI, o_isS, o_isT, o_isB, o_isn0, o_isnI, o_isnS, o_isnT, o_neg, o_abs, o_intI, o_intB, l_lst, l_nst, l_tup, l_flst, l_dct, t_non, t_bl, t_int, t_lst, t_nst, t_tup, t_dct, i_nil, ty_int, ty_str, ty_bl, ty_non, ty_tup, ty_lst, ow_im, ow_lst, ow_nst, ow_dct, ow_dnn, iD_int, if_true, if_false, Bool.false_eq_true, reduceIte, decide_true, decide_false, decide_eq_true_eq, Nat.reduceLT, Nat.reduceAdd, Nat.reduceSub, callA, takeA, putA, fzs, fzM, mkL, imsOf, List.zip_cons_cons, List.zip_nil_left, List.zip_nil_right, true_and, and_true, List.filterMap_cons, List.filterMap_nil, stays, itemsM, seqM, unsetAll, parM, reduceCtorEq, ne_app, pop_app, popN_app, g_last, lm_lst, lm_nst, Bool.not_false, Bool.not_true, List.filterMap_cons, isiM, ite_true, ite_false]
      refine lc_map tmD (fun t : Tm => .int t.1) rfl trivial x.2.2 (fun t ht K k => ?_) (by omega) ?_
      · simp only [t7_2, e7_2, tmD, xss, CP.xs, CP.ev, CP.evs, takeK, evT, evTs, evA, evI, bor, two, evP, setP, fin_some, fin_none, bindO_some, bindO_none, slot0, slot1, set0, set1, List.map_cons, List.map_nil, List.cons_append, List.nil_append, List.getElem?_cons_zero, List.getElem?_cons_succ, Option.bind_some, Option.map_some, Option.getD_some, id, List.length_cons, List.length_nil, List.replicate_succ, List.replicate_zero, bindT, bindTs, tupM, List.length_set, Nat.zero_add, o_mulR, o_mulL, CP.small64, o_mod, o_fdiv, o_pow, o_lenL, o_lenN, o_lenT, o_lenF, o_lenD, o_listL, o_listT, o_listF, o_tupL, o_tupT, o_boolI, Bool.and_true, Bool.true_and, Bool.and_self, Int.reduceNeg, Int.reducePow, Int.reduceLT, Int.reduceLE, Int.reduceAdd, Int.reduceToNat, Int.natAbs_natCast, o_add, o_sub, o_lt, o_le, o_gt, o_ge, o_max, o_min, o_eqI, o_eqS, o_neI, o_neS, o_eqB, o_neB, o_is0, o_isI, o_isS, o_isT, o_isB, o_isn0, o_isnI, o_isnS, o_isnT, o_neg, o_abs, o_intI, o_intB, l_lst, l_nst, l_tup, l_flst, l_dct, t_non, t_bl, t_int, t_lst, t_nst, t_tup, t_dct, i_nil, ty_int, ty_str, ty_bl, ty_non, ty_tup, ty_lst, ow_im, ow_lst, ow_nst, ow_dct, ow_dnn, iD_int, if_true, if_false, Bool.false_eq_true, reduceIte, decide_true, decide_false, decide_eq_true_eq, Nat.reduceLT, Nat.reduceAdd, Nat.reduceSub, callA, takeA, putA, fzs, fzM, mkL, imsOf, List.zip_cons_cons, List.zip_nil_left, List.zip_nil_right, true_and, and_true, List.filterMap_cons, List.filterMap_nil, stays, itemsM, seqM, unsetAll, parM, reduceCtorEq, ne_app, pop_app, popN_app, g_last, lm_lst, lm_nst, Bool.not_false, Bool.not_true, List.filterMap_cons, isiM, ite_true, ite_false, g_t0]
        exact k
      · have e2 : (x.2.2.map fun t : Tm => D.int t.1) = (x.2.2.map (·.1)).map .int := by simp
        simp only [xss, CP.xs, CP.ev, CP.evs, takeK, evT, evTs, evA, evI, bor, two, evP, setP, fin_some, fin_none, bindO_some, bindO_none, slot0, slot1, set0, set1, List.map_cons, List.map_nil, List.cons_append, List.nil_append, List.getElem?_cons_zero, List.getElem?_cons_succ, Option.bind_some, Option.map_some, Option.getD_some, id, List.length_cons, List.length_nil, List.replicate_succ, List.replicate_zero, bindT, bindTs, tupM, List.length_set, Nat.zero_add, o_mulR, o_mulL, CP.small64, o_mod, o_fdiv, o_pow, o_lenL, o_lenN, o_lenT, o_lenF, o_lenD, o_listL, o_listT, o_listF, o_tupL, o_tupT, o_boolI, Bool.and_true, Bool.true_and, Bool.and_self, Int.reduceNeg, Int.reducePow, Int.reduceLT, Int.reduceLE, Int.reduceAdd, Int.reduceToNat, Int.natAbs_natCast, o_add, o_sub, o_lt, o_le, o_gt, o_ge, o_max, o_min, o_eqI, o_eqS, o_neI, o_neS, o_eqB, o_neB, o_is0, o_isI, o_isS, o_isT, o_isB, o_isn0, o_isnI, o_isnS, o_isnT, o_neg, o_abs, o_intI, o_intB, l_lst, l_nst, l_tup, l_flst, l_dct, t_non, t_bl, t_int, t_lst, t_nst, t_tup, t_dct, i_nil, ty_int, ty_str, ty_bl, ty_non, ty_tup, ty_lst, ow_im, ow_lst, ow_nst, ow_dct, ow_dnn, iD_int, if_true, if_false, Bool.false_eq_true, reduceIte, decide_true, decide_false, decide_eq_true_eq, Nat.reduceLT, Nat.reduceAdd, Nat.reduceSub, callA, takeA, putA, fzs, fzM, mkL, imsOf, List.zip_cons_cons, List.zip_nil_left, List.zip_nil_right, true_and, and_true, List.filterMap_cons, List.filterMap_nil, stays, itemsM, seqM, unsetAll, parM, reduceCtorEq, ne_app, pop_app, popN_app, g_last, lm_lst, lm_nst, Bool.not_false, Bool.not_true, List.filterMap_cons, isiM, ite_true, ite_false, e2, o_inIL]
        by_cases hu : g ∈ x.2.2.map (·.1)
        · simp only [hu, xss, CP.xs, CP.ev, CP.evs, takeK, evT, evTs, evA, evI, bor, two, evP, setP, fin_some, fin_none, bindO_some, bindO_none, slot0, slot1, set0, set1, List.map_cons, List.map_nil, List.cons_append, List.nil_append, List.getElem?_cons_zero, List.getElem?_cons_succ, Option.bind_some, Option.map_some, Option.getD_some, id, List.length_cons, List.length_nil, List.replicate_succ, List.replicate_zero, bindT, bindTs, tupM, List.length_set, Nat.zero_add, o_mulR, o_mulL, CP.small64, o_mod, o_fdiv, o_pow, o_lenL, o_lenN, o_lenT, o_lenF, o_lenD, o_listL, o_listT, o_listF, o_tupL, o_tupT, o_boolI, Bool.and_true, Bool.true_and, Bool.and_self, Int.reduceNeg, Int.reducePow, Int.reduceLT, Int.reduceLE, Int.reduceAdd, Int.reduceToNat, Int.natAbs_natCast, o_add, o_sub, o_lt, o_le, o_gt, o_ge, o_max, o_min, o_eqI, o_eqS, o_neI, o_neS, o_eqB, o_neB, o_is0, o_isI, o_isS, o_isT, o_isB, o_isn0, o_isnI, o_isnS, o_isnT, o_neg, o_abs, o_intI, o_intB, l_lst, l_nst, l_tup, l_flst, l_dct, t_non, t_bl, t_int, t_lst, t_nst, t_tup, t_dct, i_nil, ty_int, ty_str, ty_bl, ty_non, ty_tup, ty_lst, ow_im, ow_lst, ow_nst, ow_dct, ow_dnn, iD_int, if_true, if_false, Bool.false_eq_true, reduceIte, decide_true, decide_false, decide_eq_true_eq, Nat.reduceLT, Nat.reduceAdd, Nat.reduceSub, callA, takeA, putA, fzs, fzM, mkL, imsOf, List.zip_cons_cons, List.zip_nil_left, List.zip_nil_right, true_and, and_true, List.filterMap_cons, List.filterMap_nil, stays, itemsM, seqM, unsetAll, parM, reduceCtorEq, ne_app, pop_app, popN_app, g_last, lm_lst, lm_nst, Bool.not_false, Bool.not_true, List.filterMap_cons, isiM, ite_true, ite_false]
          exact kt (decide_eq_true hu)
        · simp only [hu, xss, CP.xs, CP.ev, CP.evs, takeK, evT, evTs, evA, evI, bor, two, evP, setP, fin_some, fin_none, bindO_some, bindO_none, slot0, slot1, set0, set1, List.map_cons, List.map_nil, List.cons_append, List.nil_append, List.getElem?_cons_zero, List.getElem?_cons_succ, Option.bind_some, Option.map_some, Option.getD_some, id, List.length_cons, List.length_nil, List.replicate_succ, List.replicate_zero, bindT, bindTs, tupM, List.length_set, Nat.zero_add, o_mulR, o_mulL, CP.small64, o_mod, o_fdiv, o_pow, o_lenL, o_lenN, o_lenT, o_lenF, o_lenD, o_listL, o_listT, o_listF, o_tupL, o_tupT, o_boolI, Bool.and_true, Bool.true_and, Bool.and_self, Int.reduceNeg, Int.reducePow, Int.reduceLT, Int.reduceLE, Int.reduceAdd, Int.reduceToNat, Int.natAbs_natCast, o_add, o_sub, o_lt, o_le, o_gt, o_ge, o_max, o_min, o_eqI, o_eqS, o_neI, o_neS, o_eqB, o_neB, o_is0, o_isI, o_isS, o_isT, o_isB, o_isn0, o_isnI, o_isnS, o_isnT, o_neg, o_abs, o_intI, o_intB, l_lst, l_nst, l_tup, l_flst, l_dct, t_non, t_bl, t_int, t_lst, t_nst, t_tup, t_dct, i_nil, ty_int, ty_str, ty_bl, ty_non, ty_tup, ty_lst, ow_im, ow_lst, ow_nst, ow_dct, ow_dnn, iD_int, if_true, if_false, Bool.false_eq_true, reduceIte, decide_true, decide_false, decide_eq_true_eq, Nat.reduceLT, Nat.reduceAdd, Nat.reduceSub, callA, takeA, putA, fzs, fzM, mkL, imsOf, List.zip_cons_cons, List.zip_nil_left, List.zip_nil_right, true_and, and_true, List.filterMap_cons, List.filterMap_nil, stays, itemsM, seqM, unsetAll, parM, reduceCtorEq, ne_app, pop_app, popN_app, g_last, lm_lst, lm_nst, Bool.not_false, Bool.not_true, List.filterMap_cons, isiM, ite_true, ite_false]
          exact kf (decide_eq_false hu)
    · have e3 : ((en n.sts).filter fun q => uses g q.2).map (fun q => D.int (q.1 : Int)) = (n.users g).map .int := by unfold Net.users; rw [List.map_map]; rfl
      simp only [xss, CP.xs, CP.ev, CP.evs, takeK, evT, evTs, evA, evI, bor, two, evP, setP, fin_some, fin_none, bindO_some, bindO_none, slot0, slot1, set0, set1, List.map_cons, List.map_nil, List.cons_append, List.nil_append, List.getElem?_cons_zero, List.getElem?_cons_succ, Option.bind_some, Option.map_some, Option.getD_some, id, List.length_cons, List.length_nil, List.replicate_succ, List.replicate_zero, bindT, bindTs, tupM, List.length_set, Nat.zero_add, o_mulR, o_mulL, CP.small64, o_mod, o_fdiv, o_pow, o_lenL, o_lenN, o_lenT, o_lenF, o_lenD, o_listL, o_listT, o_listF, o_tupL, o_tupT, o_boolI, Bool.and_true, Bool.true_and, Bool.and_self, Int.reduceNeg, Int.reducePow, Int.reduceLT, Int.reduceLE, Int.reduceAdd, Int.reduceToNat, Int.natAbs_natCast, o_add, o_sub, o_lt, o_le, o_gt, o_ge, o_max, o_min, o_eqI, o_eqS, o_neI, o_neS, o_eqB, o_neB, o_is0, o_isI, o_isS, o_isT, o_isB, o_isn0, o_isnI, o_isnS, o_isnT, o_neg, o_abs, o_intI, o_intB, l_lst, l_nst, l_tup, l_flst, l_dct, t_non, t_bl, t_int, t_lst, t_nst, t_tup, t_dct, i_nil, ty_int, ty_str, ty_bl, ty_non, ty_tup, ty_lst, ow_im, ow_lst, ow_nst, ow_dct, ow_dnn, iD_int, if_true, if_false, Bool.false_eq_true, reduceIte, decide_true, decide_false, decide_eq_true_eq, Nat.reduceLT, Nat.reduceAdd, Nat.reduceSub, callA, takeA, putA, fzs, fzM, mkL, imsOf, List.zip_cons_cons, List.zip_nil_left, List.zip_nil_right, true_and, and_true, List.filterMap_cons, List.filterMap_nil, stays, itemsM, seqM, unsetAll, parM, reduceCtorEq, ne_app, pop_app, popN_app, g_last, lm_lst, lm_nst, Bool.not_false, Bool.not_true, List.filterMap_cons, isiM, ite_true, ite_false, e3]
      exact q' _ _
  · rename_i hg
    simp only [hg, if_false] at q'
    simp only [xss, CP.xs, CP.ev, CP.evs, takeK, evT, evTs, evA, evI, bor, two, evP, setP, fin_some, fin_none, bindO_some, bindO_none, slot0, slot1, set0, set1, List.map_cons, List.map_nil, List.cons_append, List.nil_append, List.getElem?_cons_zero, List.getElem?_cons_succ, Option.bind_some, Option.map_some, Option.getD_some, id, List.length_cons, List.length_nil, List.replicate_succ, List.replicate_zero, bindT, bindTs, tupM, List.length_set, Nat.zero_add, o_mulR, o_mulL, CP.small64, o_mod, o_fdiv, o_pow, o_lenL, o_lenN, o_lenT, o_lenF, o_lenD, o_listL, o_listT, o_listF, o_tupL, o_tupT, o_boolI, Bool.and_true, Bool.true_and, Bool.and_self, Int.reduceNeg, Int.reducePow, Int.reduceLT, Int.reduceLE, Int.reduceAdd, Int.reduceToNat, Int.natAbs_natCast, o_add, o_sub, o_lt, o_le, o_gt, o_ge, o_max, o_min, o_eqI, o_eqS, o_neI, o_neS, o_eqB, o_neB, o_is0, o_isI, o_isS, o_isT, o_isB, o_isn0, o_isnI, o_isnS, o_isnT, o_neg, o_abs, o_intI, o_intB, l_lst, l_nst, l_tup, l_flst, l_dct, t_non, t_bl, t_int, t_lst, t_nst, t_tup, t_dct, i_nil, ty_int, ty_str, ty_bl, ty_non, ty_tup, ty_lst, ow_im, ow_lst, ow_nst, ow_dct, ow_dnn, iD_int, if_true, if_false, Bool.false_eq_true, reduceIte, decide_true, decide_false, decide_eq_true_eq, Nat.reduceLT, Nat.reduceAdd, Nat.reduceSub, callA, takeA, putA, fzs, fzM, mkL, imsOf, List.zip_cons_cons, List.zip_nil_left, List.zip_nil_right, true_and, and_true, List.filterMap_cons, List.filterMap_nil, stays, itemsM, seqM, unsetAll, parM, reduceCtorEq, ne_app, pop_app, popN_app, g_last, lm_lst, lm_nst, Bool.not_false, Bool.not_true, List.filterMap_cons, isiM, ite_true, ite_false]
    exact q' _ _
/-! ### the law's own -/
theorem sp2_in {Γ : Nat → CP.Sp} {Kk : Ks} {P0 : Option M} : ∀ (ts : List Tm) (sp : List Int) (a b c d e : Option M), (∀ t ∈ ts, 0 ≤ t.1 ∧ t.1 < sp.length) → (∀ c d e, Kk.nx [P0, some (.lst ((ts.foldl bump sp).map .int)), a, b, c, d, e]) →
    forR (fun _ => True) (fun d s => bindT t15_2 (.im d) s) (xss G Γ l15_1) Kk (ts.map tmD) [P0, some (.lst (sp.map .int)), a, b, c, d, e]
  | [], sp, a, b, c, d, e, _, q => q c d e
  | t :: ts, sp, a, b, c, d, e, h, q => by
    obtain ⟨h0, h1⟩ := h t (by simp)
    have ih := sp2_in (Γ := Γ) (Kk := Kk) (P0 := P0) ts (bump sp t) a b (some (.im (.int t.1))) (some (.im (.int t.2.1))) (some (.im (.int t.2.2))) (fun u hu => by rw [bump_len]; exact h u (by simp [hu])) q
    rw [List.map_cons, for_cons]
    generalize forR (fun _ => True) (fun d s => bindT t15_2 (.im d) s) (xss G Γ l15_1) Kk (ts.map tmD) = W at ih ⊢
    simp only [t15_2, l15_1, tmD, xss, CP.xs, CP.ev, CP.evs, takeK, evT, evTs, evA, evI, bor, two, evP, setP, fin_some, fin_none, bindO_some, bindO_none, slot0, slot1, set0, set1, List.map_cons, List.map_nil, List.cons_append, List.nil_append, List.getElem?_cons_zero, List.getElem?_cons_succ, Option.bind_some, Option.map_some, Option.getD_some, id, List.length_cons, List.length_nil, List.replicate_succ, List.replicate_zero, bindT, bindTs, tupM, List.length_set, Nat.zero_add, o_mulR, o_mulL, CP.small64, o_mod, o_fdiv, o_pow, o_lenL, o_lenN, o_lenT, o_lenF, o_lenD, o_listL, o_listT, o_listF, o_tupL, o_tupT, o_boolI, Bool.and_true, Bool.true_and, Bool.and_self, Int.reduceNeg, Int.reducePow, Int.reduceLT, Int.reduceLE, Int.reduceAdd, Int.reduceToNat, Int.natAbs_natCast, o_add, o_sub, o_lt, o_le, o_gt, o_ge, o_max, o_min, o_eqI, o_eqS, o_neI, o_neS, o_eqB, o_neB, o_is0, o_isI, o_isS, o_isT, o_isB, o_isn0, o_isnI, o_isnS, o_isnT, o_neg, o_abs, o_intI, o_intB, l_lst, l_nst, l_tup, l_flst, l_dct, t_non, t_bl, t_int, t_lst, t_nst, t_tup, t_dct, i_nil, ty_int, ty_str, ty_bl, ty_non, ty_tup, ty_lst, ow_im, ow_lst, ow_nst, ow_dct, ow_dnn, iD_int, if_true, if_false, Bool.false_eq_true, reduceIte, decide_true, decide_false, decide_eq_true_eq, Nat.reduceLT, Nat.reduceAdd, Nat.reduceSub, callA, takeA, putA, fzs, fzM, mkL, imsOf, List.zip_cons_cons, List.zip_nil_left, List.zip_nil_right, true_and, and_true, List.filterMap_cons, List.filterMap_nil, stays, itemsM, seqM, forR, lcR, unsetAll, parM, reduceCtorEq, ne_app, pop_app, popN_app, g_last, lm_lst, lm_nst, Bool.not_false, Bool.not_true, List.filterMap_cons, isiM, ite_true, ite_false, g_ints h0 h1, s_bump h0 h1]
    exact ih
theorem sp2_out {Γ : Nat → CP.Sp} {Kk : Ks} {P0 : Option M} : ∀ (ps : List (Str × List Tm)) (sp : List Int) (a b c d e : Option M), (∀ p ∈ ps, ∀ t ∈ p.2, 0 ≤ t.1 ∧ t.1 < sp.length) → (∀ a b c d e, Kk.nx [P0, some (.lst ((ps.foldl bumps sp).map .int)), a, b, c, d, e]) →
    forR (fun _ => True) (fun d s => bindT t15_1 (.im d) s) (xss G Γ l15_2) Kk (ps.map stD) [P0, some (.lst (sp.map .int)), a, b, c, d, e]
  | [], sp, a, b, c, d, e, _, q => q a b c d e
  | p :: ps, sp, a, b, c, d, e, h, q => by
    have ih := fun a b c d e => sp2_out (Γ := Γ) (Kk := Kk) (P0 := P0) ps (bumps sp p) a b c d e (fun u hu t ht => by rw [show (bumps sp p).length = sp.length from bumps_len (p := p)]; exact h u (by simp [hu]) t ht) q
    rw [List.map_cons, for_cons]
    generalize forR (fun _ => True) (fun d s => bindT t15_1 (.im d) s) (xss G Γ l15_2) Kk (ps.map stD) = W at ih ⊢
    simp only [t15_1, l15_2, stD, xss, CP.xs, CP.ev, CP.evs, takeK, evT, evTs, evA, evI, bor, two, evP, setP, fin_some, fin_none, bindO_some, bindO_none, slot0, slot1, set0, set1, List.map_cons, List.map_nil, List.cons_append, List.nil_append, List.getElem?_cons_zero, List.getElem?_cons_succ, Option.bind_some, Option.map_some, Option.getD_some, id, List.length_cons, List.length_nil, List.replicate_succ, List.replicate_zero, bindT, bindTs, tupM, List.length_set, Nat.zero_add, o_mulR, o_mulL, CP.small64, o_mod, o_fdiv, o_pow, o_lenL, o_lenN, o_lenT, o_lenF, o_lenD, o_listL, o_listT, o_listF, o_tupL, o_tupT, o_boolI, Bool.and_true, Bool.true_and, Bool.and_self, Int.reduceNeg, Int.reducePow, Int.reduceLT, Int.reduceLE, Int.reduceAdd, Int.reduceToNat, Int.natAbs_natCast, o_add, o_sub, o_lt, o_le, o_gt, o_ge, o_max, o_min, o_eqI, o_eqS, o_neI, o_neS, o_eqB, o_neB, o_is0, o_isI, o_isS, o_isT, o_isB, o_isn0, o_isnI, o_isnS, o_isnT, o_neg, o_abs, o_intI, o_intB, l_lst, l_nst, l_tup, l_flst, l_dct, t_non, t_bl, t_int, t_lst, t_nst, t_tup, t_dct, i_nil, ty_int, ty_str, ty_bl, ty_non, ty_tup, ty_lst, ow_im, ow_lst, ow_nst, ow_dct, ow_dnn, iD_int, if_true, if_false, Bool.false_eq_true, reduceIte, decide_true, decide_false, decide_eq_true_eq, Nat.reduceLT, Nat.reduceAdd, Nat.reduceSub, callA, takeA, putA, fzs, fzM, mkL, imsOf, List.zip_cons_cons, List.zip_nil_left, List.zip_nil_right, true_and, and_true, List.filterMap_cons, List.filterMap_nil, stays, itemsM, seqM, unsetAll, parM, reduceCtorEq, ne_app, pop_app, popN_app, g_last, lm_lst, lm_nst, Bool.not_false, Bool.not_true, List.filterMap_cons, isiM, ite_true, ite_false]
    exact sp2_in p.2 sp _ _ _ _ _ (h p (by simp)) fun c d e => ih _ _ _ _ _
theorem e00 {n : Net} : ((n.ins.length : Int) + (n.sts.length : Int)) = ((n.cnt : Nat) : Int) := by unfold Net.cnt; omega
theorem ev_lens {Γ : Nat → CP.Sp} {n : Net} {r : CP.Env} {Q : QM} {E : QX} : ev G Γ (.op2 .add (.op1 .len (.p (.idx (.var 0) (.int 0)))) (.op1 .len (.p (.idx (.var 0) (.int 1))))) (some (.im (netD n)) :: r) Q E = Q (.im (.int (n.cnt : Int))) (some (.im (netD n)) :: r) := by
  simp only [xss, CP.xs, CP.ev, CP.evs, takeK, evT, evTs, evA, evI, bor, two, evP, setP, fin_some, fin_none, bindO_some, bindO_none, slot0, slot1, set0, set1, List.map_cons, List.map_nil, List.cons_append, List.nil_append, List.getElem?_cons_zero, List.getElem?_cons_succ, Option.bind_some, Option.map_some, Option.getD_some, id, List.length_cons, List.length_nil, List.replicate_succ, List.replicate_zero, bindT, bindTs, tupM, List.length_set, Nat.zero_add, o_mulR, o_mulL, CP.small64, o_mod, o_fdiv, o_pow, o_lenL, o_lenN, o_lenT, o_lenF, o_lenD, o_listL, o_listT, o_listF, o_tupL, o_tupT, o_boolI, Bool.and_true, Bool.true_and, Bool.and_self, Int.reduceNeg, Int.reducePow, Int.reduceLT, Int.reduceLE, Int.reduceAdd, Int.reduceToNat, Int.natAbs_natCast, o_add, o_sub, o_lt, o_le, o_gt, o_ge, o_max, o_min, o_eqI, o_eqS, o_neI, o_neS, o_eqB, o_neB, o_is0, o_isI, o_isS, o_isT, o_isB, o_isn0, o_isnI, o_isnS, o_isnT, o_neg, o_abs, o_intI, o_intB, l_lst, l_nst, l_tup, l_flst, l_dct, t_non, t_bl, t_int, t_lst, t_nst, t_tup, t_dct, i_nil, ty_int, ty_str, ty_bl, ty_non, ty_tup, ty_lst, ow_im, ow_lst, ow_nst, ow_dct, ow_dnn, iD_int, if_true, if_false, Bool.false_eq_true, reduceIte, decide_true, decide_false, decide_eq_true_eq, Nat.reduceLT, Nat.reduceAdd, Nat.reduceSub, callA, takeA, putA, fzs, fzM, mkL, imsOf, List.zip_cons_cons, List.zip_nil_left, List.zip_nil_right, true_and, and_true, List.filterMap_cons, List.filterMap_nil, stays, itemsM, seqM, unsetAll, parM, reduceCtorEq, ne_app, pop_app, popN_app, g_last, lm_lst, lm_nst, Bool.not_false, Bool.not_true, List.filterMap_cons, isiM, ite_true, ite_false, n_0, n_1, List.length_map]
  rw [e00]
theorem ev_l0 {Γ : Nat → CP.Sp} {σ : CP.Env} {Q : QM} {E : QX} : ev G Γ (.lst (.cons (.p (.int 0)) .nil)) σ Q E = Q (.lst [.int 0]) σ := by
  simp only [xss, CP.xs, CP.ev, CP.evs, takeK, evT, evTs, evA, evI, bor, two, evP, setP, fin_some, fin_none, bindO_some, bindO_none, slot0, slot1, set0, set1, List.map_cons, List.map_nil, List.cons_append, List.nil_append, List.getElem?_cons_zero, List.getElem?_cons_succ, Option.bind_some, Option.map_some, Option.getD_some, id, List.length_cons, List.length_nil, List.replicate_succ, List.replicate_zero, bindT, bindTs, tupM, List.length_set, Nat.zero_add, o_mulR, o_mulL, CP.small64, o_mod, o_fdiv, o_pow, o_lenL, o_lenN, o_lenT, o_lenF, o_lenD, o_listL, o_listT, o_listF, o_tupL, o_tupT, o_boolI, Bool.and_true, Bool.true_and, Bool.and_self, Int.reduceNeg, Int.reducePow, Int.reduceLT, Int.reduceLE, Int.reduceAdd, Int.reduceToNat, Int.natAbs_natCast, o_add, o_sub, o_lt, o_le, o_gt, o_ge, o_max, o_min, o_eqI, o_eqS, o_neI, o_neS, o_eqB, o_neB, o_is0, o_isI, o_isS, o_isT, o_isB, o_isn0, o_isnI, o_isnS, o_isnT, o_neg, o_abs, o_intI, o_intB, l_lst, l_nst, l_tup, l_flst, l_dct, t_non, t_bl, t_int, t_lst, t_nst, t_tup, t_dct, i_nil, ty_int, ty_str, ty_bl, ty_non, ty_tup, ty_lst, ow_im, ow_lst, ow_nst, ow_dct, ow_dnn, iD_int, if_true, if_false, Bool.false_eq_true, reduceIte, decide_true, decide_false, decide_eq_true_eq, Nat.reduceLT, Nat.reduceAdd, Nat.reduceSub, callA, takeA, putA, fzs, fzM, mkL, imsOf, List.zip_cons_cons, List.zip_nil_left, List.zip_nil_right, true_and, and_true, List.filterMap_cons, List.filterMap_nil, stays, itemsM, seqM, unsetAll, parM, reduceCtorEq, ne_app, pop_app, popN_app, g_last, lm_lst, lm_nst, Bool.not_false, Bool.not_true, List.filterMap_cons, isiM, ite_true, ite_false]
theorem lsp_eq {Γ : Nat → CP.Sp} {n : Net} (ho : op2M .mul (.lst [.int 0]) (.im (.int (n.cnt : Int))) = some (.lst (List.replicate n.cnt (.int 0)))) {Kk : Ks} {r : CP.Env} : CP.xs G Γ (.asg (.v 1) (.op2 .mul (.lst (.cons (.p (.int 0)) .nil)) (.op2 .add (.op1 .len (.p (.idx (.var 0) (.int 0)))) (.op1 .len (.p (.idx (.var 0) (.int 1))))))) Kk (some (.im (netD n)) :: none :: r) = Kk.nx (some (.im (netD n)) :: some (.lst (List.replicate n.cnt (.int 0))) :: r) := by
  rw [CP.xs, CP.ev]
  simp only [two, bor]
  rw [ev_l0, ev_lens, ho, fin_some]
  have e : bindT (.v 1) (.lst (List.replicate n.cnt (D.int 0))) (some (.im (netD n)) :: none :: r) = some (some (.im (netD n)) :: some (.lst (List.replicate n.cnt (.int 0))) :: r) := by
    simp only [bindT, List.length_cons]
    rw [if_pos (by omega)]
    rfl
  rw [e]
  rfl
def lspSp : CP.Sp := fun ms Q E => ∃ n : Net, ms = [.im (netD n)] ∧ n.ok ∧ ∀ o, Q (.lst (n.spans.map .int)) [o]
theorem cnt_rep {n : Net} (ok : n.ok) : op2M .mul (.lst [.int 0]) (.im (.int (n.cnt : Int))) = some (.lst (List.replicate n.cnt (.int 0))) := by
  have h1 := ok.li
  have h2 := ok.ls
  have hc : n.cnt ≤ 1000000 := by unfold Net.cnt; omega
  exact o_rep hc
theorem lsp_ok {Γ : Nat → CP.Sp} : ∀ ms Q E, lspSp ms Q E → bodySp p15.length n15.length A15 (xss G Γ b15) ms Q E := by
  rintro ms Q E ⟨n, rfl, ok, q⟩
  refine ⟨rfl, ?_⟩
  have ho : op2M .mul (.lst [.int 0]) (.im (.int (n.cnt : Int))) = some (.lst (List.replicate n.cnt (.int 0))) := cnt_rep ok
  rw [xss]
  have e0 : ([M.im (netD n)].map some ++ List.replicate (n15.length - p15.length) none) = some (.im (netD n)) :: none :: [none, none, none, none, none] := rfl
  rw [e0]
  rw [lsp_eq ho]
  simp only [xss, CP.xs, CP.ev, CP.evs, takeK, evT, evTs, evA, evI, bor, two, evP, setP, fin_some, fin_none, bindO_some, bindO_none, slot0, slot1, set0, set1, List.map_cons, List.map_nil, List.cons_append, List.nil_append, List.getElem?_cons_zero, List.getElem?_cons_succ, Option.bind_some, Option.map_some, Option.getD_some, id, List.length_cons, List.length_nil, List.replicate_succ, List.replicate_zero, bindT, bindTs, tupM, List.length_set, Nat.zero_add, o_mulR, o_mulL, CP.small64, o_mod, o_fdiv, o_pow, o_lenL, o_lenN, o_lenT, o_lenF, o_lenD, o_listL, o_listT, o_listF, o_tupL, o_tupT, o_boolI, Bool.and_true, Bool.true_and, Bool.and_self, Int.reduceNeg, Int.reducePow, Int.reduceLT, Int.reduceLE, Int.reduceAdd, Int.reduceToNat, Int.natAbs_natCast, o_add, o_sub, o_lt, o_le, o_gt, o_ge, o_max, o_min, o_eqI, o_eqS, o_neI, o_neS, o_eqB, o_neB, o_is0, o_isI, o_isS, o_isT, o_isB, o_isn0, o_isnI, o_isnS, o_isnT, o_neg, o_abs, o_intI, o_intB, l_lst, l_nst, l_tup, l_flst, l_dct, t_non, t_bl, t_int, t_lst, t_nst, t_tup, t_dct, i_nil, ty_int, ty_str, ty_bl, ty_non, ty_tup, ty_lst, ow_im, ow_lst, ow_nst, ow_dct, ow_dnn, iD_int, if_true, if_false, Bool.false_eq_true, reduceIte, decide_true, decide_false, decide_eq_true_eq, Nat.reduceLT, Nat.reduceAdd, Nat.reduceSub, callA, takeA, putA, fzs, fzM, mkL, imsOf, List.zip_cons_cons, List.zip_nil_left, List.zip_nil_right, true_and, and_true, List.filterMap_cons, List.filterMap_nil, stays, itemsM, seqM, unsetAll, parM, reduceCtorEq, ne_app, pop_app, popN_app, g_last, lm_lst, lm_nst, Bool.not_false, Bool.not_true, List.filterMap_cons, isiM, ite_true, ite_false, n_1]
  have e : List.replicate n.cnt (D.int 0) = (List.replicate n.cnt (0 : Int)).map .int := by simp
  rw [e]
  refine sp2_out n.sts (List.replicate n.cnt 0) _ _ _ _ _ (fun p hp t ht => by simpa using (ok.lt p hp).2 t ht) fun a b c d e => ?_
  simp only [xss, CP.xs, CP.ev, CP.evs, takeK, evT, evTs, evA, evI, bor, two, evP, setP, fin_some, fin_none, bindO_some, bindO_none, slot0, slot1, set0, set1, List.map_cons, List.map_nil, List.cons_append, List.nil_append, List.getElem?_cons_zero, List.getElem?_cons_succ, Option.bind_some, Option.map_some, Option.getD_some, id, List.length_cons, List.length_nil, List.replicate_succ, List.replicate_zero, bindT, bindTs, tupM, List.length_set, Nat.zero_add, o_mulR, o_mulL, CP.small64, o_mod, o_fdiv, o_pow, o_lenL, o_lenN, o_lenT, o_lenF, o_lenD, o_listL, o_listT, o_listF, o_tupL, o_tupT, o_boolI, Bool.and_true, Bool.true_and, Bool.and_self, Int.reduceNeg, Int.reducePow, Int.reduceLT, Int.reduceLE, Int.reduceAdd, Int.reduceToNat, Int.natAbs_natCast, o_add, o_sub, o_lt, o_le, o_gt, o_ge, o_max, o_min, o_eqI, o_eqS, o_neI, o_neS, o_eqB, o_neB, o_is0, o_isI, o_isS, o_isT, o_isB, o_isn0, o_isnI, o_isnS, o_isnT, o_neg, o_abs, o_intI, o_intB, l_lst, l_nst, l_tup, l_flst, l_dct, t_non, t_bl, t_int, t_lst, t_nst, t_tup, t_dct, i_nil, ty_int, ty_str, ty_bl, ty_non, ty_tup, ty_lst, ow_im, ow_lst, ow_nst, ow_dct, ow_dnn, iD_int, if_true, if_false, Bool.false_eq_true, reduceIte, decide_true, decide_false, decide_eq_true_eq, Nat.reduceLT, Nat.reduceAdd, Nat.reduceSub, callA, takeA, putA, fzs, fzM, mkL, imsOf, List.zip_cons_cons, List.zip_nil_left, List.zip_nil_right, true_and, and_true, List.filterMap_cons, List.filterMap_nil, stays, itemsM, seqM, unsetAll, parM, reduceCtorEq, ne_app, pop_app, popN_app, g_last, lm_lst, lm_nst, Bool.not_false, Bool.not_true, List.filterMap_cons, isiM, ite_true, ite_false, ow_lst]
  exact q _
theorem us_loop {Γ : Nat → CP.Sp} {Kk : Ks} {n : Net} {g : Int} (ok : n.ok) : ∀ (qs : List (Nat × (Str × List Tm))) (acc : List Int) (a : Option M), acc.length + qs.length ≤ 1000 → (∀ q ∈ qs, n.sts[q.1]? = some q.2) → (∀ a, Kk.nx [some (.im (netD n)), some (.im (.int g)), some (.lst ((acc ++ (qs.filter fun q => uses g q.2).map fun q => (q.1 : Int)).map .int)), a, none]) →
    forR (fun _ => True) (fun d s => bindT t18_1 (.im d) s) (xss G Γ l18_1) Kk (qs.map fun q => D.int (q.1 : Int)) [some (.im (netD n)), some (.im (.int g)), some (.lst (acc.map .int)), a, none]
  | [], acc, a, _, _, q => by
    show Kk.nx _
    simpa using q a
  | x :: qs, acc, a, hl, hq, q => by
    have hx := hq x (by simp)
    have hlt := ok.lt x.2 (List.mem_of_getElem? hx)
    have g1 : getM (.im (.tup (n.sts.map stD))) (.im (.int (x.1 : Int))) = some (.im (stD x.2)) := g_atT (by rw [List.getElem?_map, hx]; rfl)
    have g2 : getM (.im (stD x.2)) (.im (.int 1)) = some (.im (.tup (x.2.2.map tmD))) := g_t1
    have b1 : (acc.map D.int).length < 16777216 := by simp at hl ⊢; omega
    rw [List.map_cons, for_cons]
    by_cases hu : uses g x.2 = true
    · have ih := us_loop (Γ := Γ) (Kk := Kk) (n := n) (g := g) ok qs (acc ++ [(x.1 : Int)]) (some (.im (.int (x.1 : Int)))) (by simp at hl ⊢; omega) (fun y hy => hq y (by simp [hy])) (fun a => by simpa [hu] using q a)
      rw [List.map_append] at ih
      generalize forR (fun _ => True) (fun d s => bindT t18_1 (.im d) s) (xss G Γ l18_1) Kk (qs.map fun q => D.int (q.1 : Int)) = W at ih ⊢
      simp only [t18_1, l18_1, xss, CP.xs, CP.ev, CP.evs, takeK, evT, evTs, evA, evI, bor, two, evP, setP, fin_some, fin_none, bindO_some, bindO_none, slot0, slot1, set0, set1, List.map_cons, List.map_nil, List.cons_append, List.nil_append, List.getElem?_cons_zero, List.getElem?_cons_succ, Option.bind_some, Option.map_some, Option.getD_some, id, List.length_cons, List.length_nil, List.replicate_succ, List.replicate_zero, bindT, bindTs, tupM, List.length_set, Nat.zero_add, o_mulR, o_mulL, CP.small64, o_mod, o_fdiv, o_pow, o_lenL, o_lenN, o_lenT, o_lenF, o_lenD, o_listL, o_listT, o_listF, o_tupL, o_tupT, o_boolI, Bool.and_true, Bool.true_and, Bool.and_self, Int.reduceNeg, Int.reducePow, Int.reduceLT, Int.reduceLE, Int.reduceAdd, Int.reduceToNat, Int.natAbs_natCast, o_add, o_sub, o_lt, o_le, o_gt, o_ge, o_max, o_min, o_eqI, o_eqS, o_neI, o_neS, o_eqB, o_neB, o_is0, o_isI, o_isS, o_isT, o_isB, o_isn0, o_isnI, o_isnS, o_isnT, o_neg, o_abs, o_intI, o_intB, l_lst, l_nst, l_tup, l_flst, l_dct, t_non, t_bl, t_int, t_lst, t_nst, t_tup, t_dct, i_nil, ty_int, ty_str, ty_bl, ty_non, ty_tup, ty_lst, ow_im, ow_lst, ow_nst, ow_dct, ow_dnn, iD_int, if_true, if_false, Bool.false_eq_true, reduceIte, decide_true, decide_false, decide_eq_true_eq, Nat.reduceLT, Nat.reduceAdd, Nat.reduceSub, callA, takeA, putA, fzs, fzM, mkL, imsOf, List.zip_cons_cons, List.zip_nil_left, List.zip_nil_right, true_and, and_true, List.filterMap_cons, List.filterMap_nil, stays, itemsM, seqM, unsetAll, parM, reduceCtorEq, ne_app, pop_app, popN_app, g_last, lm_lst, lm_nst, Bool.not_false, Bool.not_true, List.filterMap_cons, isiM, ite_true, ite_false, n_1, g1, g2]
      refine lc_fm tmD tmD (fun t : Tm => decide (t.1 = g)) rfl trivial x.2.2 (fun t ht Kt Kf kt kf => ?_) [] (by simp; omega) ?_
      · simp only [t18_2, f18_1, e18_1, tmD, xss, CP.xs, CP.ev, CP.evs, takeK, evT, evTs, evA, evI, bor, two, evP, setP, fin_some, fin_none, bindO_some, bindO_none, slot0, slot1, set0, set1, List.map_cons, List.map_nil, List.cons_append, List.nil_append, List.getElem?_cons_zero, List.getElem?_cons_succ, Option.bind_some, Option.map_some, Option.getD_some, id, List.length_cons, List.length_nil, List.replicate_succ, List.replicate_zero, bindT, bindTs, tupM, List.length_set, Nat.zero_add, o_mulR, o_mulL, CP.small64, o_mod, o_fdiv, o_pow, o_lenL, o_lenN, o_lenT, o_lenF, o_lenD, o_listL, o_listT, o_listF, o_tupL, o_tupT, o_boolI, Bool.and_true, Bool.true_and, Bool.and_self, Int.reduceNeg, Int.reducePow, Int.reduceLT, Int.reduceLE, Int.reduceAdd, Int.reduceToNat, Int.natAbs_natCast, o_add, o_sub, o_lt, o_le, o_gt, o_ge, o_max, o_min, o_eqI, o_eqS, o_neI, o_neS, o_eqB, o_neB, o_is0, o_isI, o_isS, o_isT, o_isB, o_isn0, o_isnI, o_isnS, o_isnT, o_neg, o_abs, o_intI, o_intB, l_lst, l_nst, l_tup, l_flst, l_dct, t_non, t_bl, t_int, t_lst, t_nst, t_tup, t_dct, i_nil, ty_int, ty_str, ty_bl, ty_non, ty_tup, ty_lst, ow_im, ow_lst, ow_nst, ow_dct, ow_dnn, iD_int, if_true, if_false, Bool.false_eq_true, reduceIte, decide_true, decide_false, decide_eq_true_eq, Nat.reduceLT, Nat.reduceAdd, Nat.reduceSub, callA, takeA, putA, fzs, fzM, mkL, imsOf, List.zip_cons_cons, List.zip_nil_left, List.zip_nil_right, true_and, and_true, List.filterMap_cons, List.filterMap_nil, stays, itemsM, seqM, unsetAll, parM, reduceCtorEq, ne_app, pop_app, popN_app, g_last, lm_lst, lm_nst, Bool.not_false, Bool.not_true, List.filterMap_cons, isiM, ite_true, ite_false, g_t0]
        split
        · rename_i h
          exact kt (decide_eq_true h)
        · rename_i h
          exact kf (decide_eq_false h)
      · have : ((x.2.2.filter fun t : Tm => decide (t.1 = g)).map tmD).isEmpty = false := by
          have hm := of_decide_eq_true hu
          obtain ⟨t, ht, e⟩ := List.mem_map.mp hm
          rw [List.isEmpty_eq_false_iff_exists_mem]
          exact ⟨tmD t, List.mem_map.mpr ⟨t, List.mem_filter.mpr ⟨ht, by simpa using e⟩, rfl⟩⟩
        simp only [xss, CP.xs, CP.ev, CP.evs, takeK, evT, evTs, evA, evI, bor, two, evP, setP, fin_some, fin_none, bindO_some, bindO_none, slot0, slot1, set0, set1, List.map_cons, List.map_nil, List.cons_append, List.nil_append, List.getElem?_cons_zero, List.getElem?_cons_succ, Option.bind_some, Option.map_some, Option.getD_some, id, List.length_cons, List.length_nil, List.replicate_succ, List.replicate_zero, bindT, bindTs, tupM, List.length_set, Nat.zero_add, o_mulR, o_mulL, CP.small64, o_mod, o_fdiv, o_pow, o_lenL, o_lenN, o_lenT, o_lenF, o_lenD, o_listL, o_listT, o_listF, o_tupL, o_tupT, o_boolI, Bool.and_true, Bool.true_and, Bool.and_self, Int.reduceNeg, Int.reducePow, Int.reduceLT, Int.reduceLE, Int.reduceAdd, Int.reduceToNat, Int.natAbs_natCast, o_add, o_sub, o_lt, o_le, o_gt, o_ge, o_max, o_min, o_eqI, o_eqS, o_neI, o_neS, o_eqB, o_neB, o_is0, o_isI, o_isS, o_isT, o_isB, o_isn0, o_isnI, o_isnS, o_isnT, o_neg, o_abs, o_intI, o_intB, l_lst, l_nst, l_tup, l_flst, l_dct, t_non, t_bl, t_int, t_lst, t_nst, t_tup, t_dct, i_nil, ty_int, ty_str, ty_bl, ty_non, ty_tup, ty_lst, ow_im, ow_lst, ow_nst, ow_dct, ow_dnn, iD_int, if_true, if_false, Bool.false_eq_true, reduceIte, decide_true, decide_false, decide_eq_true_eq, Nat.reduceLT, Nat.reduceAdd, Nat.reduceSub, callA, takeA, putA, fzs, fzM, mkL, imsOf, List.zip_cons_cons, List.zip_nil_left, List.zip_nil_right, true_and, and_true, List.filterMap_cons, List.filterMap_nil, stays, itemsM, seqM, unsetAll, parM, reduceCtorEq, ne_app, pop_app, popN_app, g_last, lm_lst, lm_nst, Bool.not_false, Bool.not_true, List.filterMap_cons, isiM, ite_true, ite_false, this, app_lst b1]
        exact ih
    · have ih := us_loop (Γ := Γ) (Kk := Kk) (n := n) (g := g) ok qs acc (some (.im (.int (x.1 : Int)))) (by simp at hl ⊢; omega) (fun y hy => hq y (by simp [hy])) (fun a => by simpa [hu] using q a)
      generalize forR (fun _ => True) (fun d s => bindT t18_1 (.im d) s) (xss G Γ l18_1) Kk (qs.map fun q => D.int (q.1 : Int)) = W at ih ⊢
      simp only [t18_1, l18_1, xss, CP.xs, CP.ev, CP.evs, takeK, evT, evTs, evA, evI, bor, two, evP, setP, fin_some, fin_none, bindO_some, bindO_none, slot0, slot1, set0, set1, List.map_cons, List.map_nil, List.cons_append, List.nil_append, List.getElem?_cons_zero, List.getElem?_cons_succ, Option.bind_some, Option.map_some, Option.getD_some, id, List.length_cons, List.length_nil, List.replicate_succ, List.replicate_zero, bindT, bindTs, tupM, List.length_set, Nat.zero_add, o_mulR, o_mulL, CP.small64, o_mod, o_fdiv, o_pow, o_lenL, o_lenN, o_lenT, o_lenF, o_lenD, o_listL, o_listT, o_listF, o_tupL, o_tupT, o_boolI, Bool.and_true, Bool.true_and, Bool.and_self, Int.reduceNeg, Int.reducePow, Int.reduceLT, Int.reduceLE, Int.reduceAdd, Int.reduceToNat, Int.natAbs_natCast, o_add, o_sub, o_lt, o_le, o_gt, o_ge, o_max, o_min, o_eqI, o_eqS, o_neI, o_neS, o_eqB, o_neB, o_is0, o_isI, o_isS, o_isT, o_isB, o_isn0, o_isnI, o_isnS, o_isnT, o_neg, o_abs, o_intI, o_intB, l_lst, l_nst, l_tup, l_flst, l_dct, t_non, t_bl, t_int, t_lst, t_nst, t_tup, t_dct, i_nil, ty_int, ty_str, ty_bl, ty_non, ty_tup, ty_lst, ow_im, ow_lst, ow_nst, ow_dct, ow_dnn, iD_int, if_true, if_false, Bool.false_eq_true, reduceIte, decide_true, decide_false, decide_eq_true_eq, Nat.reduceLT, Nat.reduceAdd, Nat.reduceSub, callA, takeA, putA, fzs, fzM, mkL, imsOf, List.zip_cons_cons, List.zip_nil_left, List.zip_nil_right, true_and, and_true, List.filterMap_cons, List.filterMap_nil, stays, itemsM, seqM, unsetAll, parM, reduceCtorEq, ne_app, pop_app, popN_app, g_last, lm_lst, lm_nst, Bool.not_false, Bool.not_true, List.filterMap_cons, isiM, ite_true, ite_false, n_1, g1, g2]
      refine lc_fm tmD tmD (fun t : Tm => decide (t.1 = g)) rfl trivial x.2.2 (fun t ht Kt Kf kt kf => ?_) [] (by simp; omega) ?_
      · simp only [t18_2, f18_1, e18_1, tmD, xss, CP.xs, CP.ev, CP.evs, takeK, evT, evTs, evA, evI, bor, two, evP, setP, fin_some, fin_none, bindO_some, bindO_none, slot0, slot1, set0, set1, List.map_cons, List.map_nil, List.cons_append, List.nil_append, List.getElem?_cons_zero, List.getElem?_cons_succ, Option.bind_some, Option.map_some, Option.getD_some, id, List.length_cons, List.length_nil, List.replicate_succ, List.replicate_zero, bindT, bindTs, tupM, List.length_set, Nat.zero_add, o_mulR, o_mulL, CP.small64, o_mod, o_fdiv, o_pow, o_lenL, o_lenN, o_lenT, o_lenF, o_lenD, o_listL, o_listT, o_listF, o_tupL, o_tupT, o_boolI, Bool.and_true, Bool.true_and, Bool.and_self, Int.reduceNeg, Int.reducePow, Int.reduceLT, Int.reduceLE, Int.reduceAdd, Int.reduceToNat, Int.natAbs_natCast, o_add, o_sub, o_lt, o_le, o_gt, o_ge, o_max, o_min, o_eqI, o_eqS, o_neI, o_neS, o_eqB, o_neB, o_is0, o_isI, o_isS, o_isT, o_isB, o_isn0, o_isnI, o_isnS, o_isnT, o_neg, o_abs, o_intI, o_intB, l_lst, l_nst, l_tup, l_flst, l_dct, t_non, t_bl, t_int, t_lst, t_nst, t_tup, t_dct, i_nil, ty_int, ty_str, ty_bl, ty_non, ty_tup, ty_lst, ow_im, ow_lst, ow_nst, ow_dct, ow_dnn, iD_int, if_true, if_false, Bool.false_eq_true, reduceIte, decide_true, decide_false, decide_eq_true_eq, Nat.reduceLT, Nat.reduceAdd, Nat.reduceSub, callA, takeA, putA, fzs, fzM, mkL, imsOf, List.zip_cons_cons, List.zip_nil_left, List.zip_nil_right, true_and, and_true, List.filterMap_cons, List.filterMap_nil, stays, itemsM, seqM, unsetAll, parM, reduceCtorEq, ne_app, pop_app, popN_app, g_last, lm_lst, lm_nst, Bool.not_false, Bool.not_true, List.filterMap_cons, isiM, ite_true, ite_false, g_t0]
        split
        · rename_i h
          exact kt (decide_eq_true h)
        · rename_i h
          exact kf (decide_eq_false h)
      · have : x.2.2.filter (fun t : Tm => decide (t.1 = g)) = [] := by
          rw [List.filter_eq_nil_iff]
          intro t ht e
          exact hu (decide_eq_true (List.mem_map.mpr ⟨t, ht, of_decide_eq_true e⟩))
        simp only [xss, CP.xs, CP.ev, CP.evs, takeK, evT, evTs, evA, evI, bor, two, evP, setP, fin_some, fin_none, bindO_some, bindO_none, slot0, slot1, set0, set1, List.map_cons, List.map_nil, List.cons_append, List.nil_append, List.getElem?_cons_zero, List.getElem?_cons_succ, Option.bind_some, Option.map_some, Option.getD_some, id, List.length_cons, List.length_nil, List.replicate_succ, List.replicate_zero, bindT, bindTs, tupM, List.length_set, Nat.zero_add, o_mulR, o_mulL, CP.small64, o_mod, o_fdiv, o_pow, o_lenL, o_lenN, o_lenT, o_lenF, o_lenD, o_listL, o_listT, o_listF, o_tupL, o_tupT, o_boolI, Bool.and_true, Bool.true_and, Bool.and_self, Int.reduceNeg, Int.reducePow, Int.reduceLT, Int.reduceLE, Int.reduceAdd, Int.reduceToNat, Int.natAbs_natCast, o_add, o_sub, o_lt, o_le, o_gt, o_ge, o_max, o_min, o_eqI, o_eqS, o_neI, o_neS, o_eqB, o_neB, o_is0, o_isI, o_isS, o_isT, o_isB, o_isn0, o_isnI, o_isnS, o_isnT, o_neg, o_abs, o_intI, o_intB, l_lst, l_nst, l_tup, l_flst, l_dct, t_non, t_bl, t_int, t_lst, t_nst, t_tup, t_dct, i_nil, ty_int, ty_str, ty_bl, ty_non, ty_tup, ty_lst, ow_im, ow_lst, ow_nst, ow_dct, ow_dnn, iD_int, if_true, if_false, Bool.false_eq_true, reduceIte, decide_true, decide_false, decide_eq_true_eq, Nat.reduceLT, Nat.reduceAdd, Nat.reduceSub, callA, takeA, putA, fzs, fzM, mkL, imsOf, List.zip_cons_cons, List.zip_nil_left, List.zip_nil_right, true_and, and_true, List.filterMap_cons, List.filterMap_nil, stays, itemsM, seqM, unsetAll, parM, reduceCtorEq, ne_app, pop_app, popN_app, g_last, lm_lst, lm_nst, Bool.not_false, Bool.not_true, List.filterMap_cons, isiM, ite_true, ite_false, this, List.isEmpty_nil]
        exact ih
def lusSp : CP.Sp := fun ms Q E => ∃ (n : Net) (g : Int), ms = [.im (netD n), .im (.int g)] ∧ n.ok ∧ ∀ o1 o2, Q (.im (.tup ((n.users g).map .int))) [o1, o2]
theorem lus_ok {Γ : Nat → CP.Sp} : ∀ ms Q E, lusSp ms Q E → bodySp p18.length n18.length A18 (xss G Γ b18) ms Q E := by
  rintro ms Q E ⟨n, g, rfl, ok, q⟩
  refine ⟨rfl, ?_⟩
  simp only [xss, CP.xs, CP.ev, CP.evs, takeK, evT, evTs, evA, evI, bor, two, evP, setP, fin_some, fin_none, bindO_some, bindO_none, slot0, slot1, set0, set1, List.map_cons, List.map_nil, List.cons_append, List.nil_append, List.getElem?_cons_zero, List.getElem?_cons_succ, Option.bind_some, Option.map_some, Option.getD_some, id, List.length_cons, List.length_nil, List.replicate_succ, List.replicate_zero, bindT, bindTs, tupM, List.length_set, Nat.zero_add, o_mulR, o_mulL, CP.small64, o_mod, o_fdiv, o_pow, o_lenL, o_lenN, o_lenT, o_lenF, o_lenD, o_listL, o_listT, o_listF, o_tupL, o_tupT, o_boolI, Bool.and_true, Bool.true_and, Bool.and_self, Int.reduceNeg, Int.reducePow, Int.reduceLT, Int.reduceLE, Int.reduceAdd, Int.reduceToNat, Int.natAbs_natCast, o_add, o_sub, o_lt, o_le, o_gt, o_ge, o_max, o_min, o_eqI, o_eqS, o_neI, o_neS, o_eqB, o_neB, o_is0, o_isI, o_isS, o_isT, o_isB, o_isn0, o_isnI, o_isnS, o_isnT, o_neg, o_abs, o_intI, o_intB, l_lst, l_nst, l_tup, l_flst, l_dct, t_non, t_bl, t_int, t_lst, t_nst, t_tup, t_dct, i_nil, ty_int, ty_str, ty_bl, ty_non, ty_tup, ty_lst, ow_im, ow_lst, ow_nst, ow_dct, ow_dnn, iD_int, if_true, if_false, Bool.false_eq_true, reduceIte, decide_true, decide_false, decide_eq_true_eq, Nat.reduceLT, Nat.reduceAdd, Nat.reduceSub, callA, takeA, putA, fzs, fzM, mkL, imsOf, List.zip_cons_cons, List.zip_nil_left, List.zip_nil_right, true_and, and_true, List.filterMap_cons, List.filterMap_nil, stays, itemsM, seqM, unsetAll, parM, reduceCtorEq, ne_app, pop_app, popN_app, g_last, lm_lst, lm_nst, Bool.not_false, Bool.not_true, List.filterMap_cons, isiM, ite_true, ite_false, n_1, List.length_map]
  have e : (List.range (n.sts.length : Int).toNat).map (fun (k : Nat) => D.int (k : Int)) = (en n.sts).map fun q => D.int (q.1 : Int) := by
    have : (en n.sts).map Prod.fst = List.range n.sts.length := List.map_fst_zip (by simp)
    rw [Int.toNat_natCast, ← this, List.map_map]
    rfl
  have := ok.ls
  refine ⟨by omega, ?_⟩
  rw [e]
  refine us_loop ok (en n.sts) [] _ (by rw [en_len]; simp; omega) (fun q hq => en_get hq) fun a => ?_
  simp only [xss, CP.xs, CP.ev, CP.evs, takeK, evT, evTs, evA, evI, bor, two, evP, setP, fin_some, fin_none, bindO_some, bindO_none, slot0, slot1, set0, set1, List.map_cons, List.map_nil, List.cons_append, List.nil_append, List.getElem?_cons_zero, List.getElem?_cons_succ, Option.bind_some, Option.map_some, Option.getD_some, id, List.length_cons, List.length_nil, List.replicate_succ, List.replicate_zero, bindT, bindTs, tupM, List.length_set, Nat.zero_add, o_mulR, o_mulL, CP.small64, o_mod, o_fdiv, o_pow, o_lenL, o_lenN, o_lenT, o_lenF, o_lenD, o_listL, o_listT, o_listF, o_tupL, o_tupT, o_boolI, Bool.and_true, Bool.true_and, Bool.and_self, Int.reduceNeg, Int.reducePow, Int.reduceLT, Int.reduceLE, Int.reduceAdd, Int.reduceToNat, Int.natAbs_natCast, o_add, o_sub, o_lt, o_le, o_gt, o_ge, o_max, o_min, o_eqI, o_eqS, o_neI, o_neS, o_eqB, o_neB, o_is0, o_isI, o_isS, o_isT, o_isB, o_isn0, o_isnI, o_isnS, o_isnT, o_neg, o_abs, o_intI, o_intB, l_lst, l_nst, l_tup, l_flst, l_dct, t_non, t_bl, t_int, t_lst, t_nst, t_tup, t_dct, i_nil, ty_int, ty_str, ty_bl, ty_non, ty_tup, ty_lst, ow_im, ow_lst, ow_nst, ow_dct, ow_dnn, iD_int, if_true, if_false, Bool.false_eq_true, reduceIte, decide_true, decide_false, decide_eq_true_eq, Nat.reduceLT, Nat.reduceAdd, Nat.reduceSub, callA, takeA, putA, fzs, fzM, mkL, imsOf, List.zip_cons_cons, List.zip_nil_left, List.zip_nil_right, true_and, and_true, List.filterMap_cons, List.filterMap_nil, stays, itemsM, seqM, unsetAll, parM, reduceCtorEq, ne_app, pop_app, popN_app, g_last, lm_lst, lm_nst, Bool.not_false, Bool.not_true, List.filterMap_cons, isiM, ite_true, ite_false, List.nil_append]
  exact q _ _
end K10
namespace K10
open PySem PySem.Spec PyProof.Rows L2 CP
/-! ### same -/
mutual
/-- the same thing, tuples of either kind -/
def eqv : D → D → Prop
  | .non, .non => True
  | .bl a, .bl b => a = b
  | .int a, .int b => a = b
  | .str a, .str b => a = b
  | .tup ds, .tup es => eqvs ds es
  | .kt ds, .tup es => eqvs ds es
  | _, _ => False
def eqvs : List D → List D → Prop
  | [], [] => True
  | d :: ds, e :: es => eqv d e ∧ eqvs ds es
  | _, _ => False
end
mutual
def sz : D → Nat
  | .tup ds => szs ds + 1
  | _ => 1
def szs : List D → Nat
  | [] => 0
  | d :: ds => sz d + szs ds
end
theorem sz_pos (d : D) : 1 ≤ sz d := by cases d <;> simp [sz]
def tot (ps : List (D × D)) : Nat := (ps.map fun p => sz p.2).sum
theorem tot_app (a b : List (D × D)) : tot (a ++ b) = tot a + tot b := by simp [tot]
theorem tot_len (ps : List (D × D)) : ps.length ≤ tot ps := by
  induction ps with
  | nil => simp [tot]
  | cons p ps ih =>
    have := sz_pos p.2
    have e : tot (p :: ps) = sz p.2 + tot ps := by simp [tot]
    rw [e, List.length_cons]
    omega
theorem eqvs_len : ∀ {ds es : List D}, eqvs ds es → ds.length = es.length
  | [], [], _ => rfl
  | d :: ds, e :: es, h => by
    simp only [eqvs] at h
    simp [eqvs_len h.2]
  | [], _ :: _, h => by simp [eqvs] at h
  | _ :: _, [], h => by simp [eqvs] at h
theorem eqvs_zip : ∀ {ds es : List D}, eqvs ds es → (∀ p ∈ ds.zip es, eqv p.1 p.2) ∧ tot (ds.zip es) = szs es
  | [], [], _ => ⟨fun p h => (nomatch h), rfl⟩
  | d :: ds, e :: es, h => by
    simp only [eqvs] at h
    obtain ⟨i1, i2⟩ := eqvs_zip h.2
    refine ⟨fun p hp => ?_, ?_⟩
    · rcases List.mem_cons.mp hp with rfl | hp
      · exact h.1
      · exact i1 p hp
    · show tot ((d, e) :: ds.zip es) = _
      have : tot ((d, e) :: ds.zip es) = sz e + tot (ds.zip es) := by simp [tot]
      rw [this, i2]
      simp [szs]
  | [], _ :: _, h => by simp [eqvs] at h
  | _ :: _, [], h => by simp [eqvs] at h
def prD (p : D × D) : D := .tup [p.1, p.2]
theorem ty_kt {t : Ty} {ds : List D} : tyM t (.im (.kt ds)) = some (t == .tuple) := rfl
theorem o_lenK {ds : List D} : op1M .len (.im (.kt ds)) = some (.im (.int (ds.length : Int))) := rfl
theorem g_atK {ds : List D} {n : Nat} {d : D} (h : ds[n]? = some d) : getM (.im (.kt ds)) (.im (.int (n : Int))) = some (.im d) := g_atT h
theorem push_loop {Γ : Nat → CP.Sp} {Kk : Ks} {P0 P1 P3 : Option M} {L R : M} {ls rs : List D} (hL : ∀ (k : Nat) d, ls[k]? = some d → getM L (.im (.int (k : Int))) = some (.im d)) (hR : ∀ (k : Nat) d, rs[k]? = some d → getM R (.im (.int (k : Int))) = some (.im d)) : ∀ (qs : List (Nat × (D × D))) (st : List (D × D)) (a : Option M),
    st.length + qs.length ≤ 10000000 → (∀ q ∈ qs, ls[q.1]? = some q.2.1 ∧ rs[q.1]? = some q.2.2) → (∀ a, Kk.nx [P0, P1, some (.lst ((st ++ qs.map (·.2)).map prD)), P3, some L, some R, a]) →
    forR (fun _ => True) (fun d s => bindT t16_2 (.im d) s) (xss G Γ l16_1) Kk (qs.map fun q => D.int (q.1 : Int)) [P0, P1, some (.lst (st.map prD)), P3, some L, some R, a]
  | [], st, a, _, _, q => by
    show Kk.nx _
    simpa using q a
  | x :: qs, st, a, hl, h, q => by
    obtain ⟨h1, h2⟩ := h x (by simp)
    have ih := push_loop (Γ := Γ) (Kk := Kk) (P0 := P0) (P1 := P1) (P3 := P3) hL hR qs (st ++ [x.2]) (some (.im (.int (x.1 : Int)))) (by simp at hl ⊢; omega) (fun y hy => h y (by simp [hy])) (fun a => by simpa using q a)
    have b1 : (st.map prD).length < 16777216 := by simp at hl ⊢; omega
    rw [List.map_cons, for_cons]
    rw [List.map_append] at ih
    generalize forR (fun _ => True) (fun d s => bindT t16_2 (.im d) s) (xss G Γ l16_1) Kk (qs.map fun q => D.int (q.1 : Int)) = W at ih ⊢
    simp only [t16_2, l16_1, xss, CP.xs, CP.ev, CP.evs, takeK, evT, evTs, evA, evI, bor, two, evP, setP, fin_some, fin_none, bindO_some, bindO_none, slot0, slot1, set0, set1, List.map_cons, List.map_nil, List.cons_append, List.nil_append, List.getElem?_cons_zero, List.getElem?_cons_succ, Option.bind_some, Option.map_some, Option.getD_some, id, List.length_cons, List.length_nil, List.replicate_succ, List.replicate_zero, bindT, bindTs, tupM, List.length_set, Nat.zero_add, o_mulR, o_mulL, CP.small64, o_mod, o_fdiv, o_pow, o_lenL, o_lenN, o_lenT, o_lenF, o_lenD, o_listL, o_listT, o_listF, o_tupL, o_tupT, o_boolI, Bool.and_true, Bool.true_and, Bool.and_self, Int.reduceNeg, Int.reducePow, Int.reduceLT, Int.reduceLE, Int.reduceAdd, Int.reduceToNat, Int.natAbs_natCast, o_add, o_sub, o_lt, o_le, o_gt, o_ge, o_max, o_min, o_eqI, o_eqS, o_neI, o_neS, o_eqB, o_neB, o_is0, o_isI, o_isS, o_isT, o_isB, o_isn0, o_isnI, o_isnS, o_isnT, o_neg, o_abs, o_intI, o_intB, l_lst, l_nst, l_tup, l_flst, l_dct, t_non, t_bl, t_int, t_lst, t_nst, t_tup, t_dct, i_nil, ty_int, ty_str, ty_bl, ty_non, ty_tup, ty_lst, ow_im, ow_lst, ow_nst, ow_dct, ow_dnn, iD_int, if_true, if_false, Bool.false_eq_true, reduceIte, decide_true, decide_false, decide_eq_true_eq, Nat.reduceLT, Nat.reduceAdd, Nat.reduceSub, callA, takeA, putA, fzs, fzM, mkL, imsOf, List.zip_cons_cons, List.zip_nil_left, List.zip_nil_right, true_and, and_true, List.filterMap_cons, List.filterMap_nil, stays, itemsM, seqM, forR, lcR, unsetAll, parM, reduceCtorEq, ne_app, pop_app, popN_app, g_last, lm_lst, lm_nst, Bool.not_false, Bool.not_true, List.filterMap_cons, isiM, ite_true, ite_false, hL _ _ h1, hR _ _ h2, app_lst b1]
    exact ih
section
variable {Γ : Nat → CP.Sp} {t : CT} {a b r : CSs} {st : CS} {K : Ks} {σ σ' : CP.Env}
theorem ife_f (h : ∀ Q, evT G Γ t σ Q K.ex = Q false σ) : CP.xs G Γ (.ife t a b) K σ = xss G Γ b K σ := by
  rw [CP.xs, h]
  exact if_neg Bool.false_ne_true
theorem ife_t (h : ∀ Q, evT G Γ t σ Q K.ex = Q true σ) : CP.xs G Γ (.ife t a b) K σ = xss G Γ a K σ := by
  rw [CP.xs, h]
  exact if_pos rfl
theorem seq_c : xss G Γ (.cons st r) K σ = CP.xs G Γ st { K with nx := fun σ1 => xss G Γ r K σ1 } σ := by rw [xss]
theorem seq_n : xss G Γ .nil K σ = K.nx σ := by rw [xss]
end
/-- the shared head of a turn -/
abbrev hd16 (P0 P1 : Option M) (k : Int) (rest : List D) (l r : D) (d : Option M) : CP.Env := [P0, P1, some (.lst rest), some (.im (.int k)), some (.im l), some (.im r), d]
def tl16 : CSs := match l16_2 with
  | .cons _ (.cons _ r) => r
  | _ => .nil
theorem turn16 {Γ : Nat → CP.Sp} {Kk : Ks} {P0 P1 a b c d : Option M} {k : Int} {rest : List D} {l r : D} : bindO (bindT t16_1 (.im (.int k)) [P0, P1, some (.lst (rest ++ [.tup [l, r]])), a, b, c, d]) (fun σ1 => xss G Γ l16_2 Kk σ1) = xss G Γ tl16 Kk (hd16 P0 P1 k rest l r d) := by
  have hb : bindT t16_1 (.im (.int k)) [P0, P1, some (.lst (rest ++ [.tup [l, r]])), a, b, c, d] = some [P0, P1, some (.lst (rest ++ [.tup [l, r]])), some (.im (.int k)), b, c, d] := rfl
  rw [hb, bindO_some, l16_2, seq_c, ife_f (fun Q => by
    have ne0 : ¬ ((rest ++ [D.tup [l, r]]).length : Int) = 0 := by simp; omega
    simp only [xss, CP.xs, CP.ev, CP.evs, takeK, evT, evTs, evA, evI, bor, two, evP, setP, fin_some, fin_none, bindO_some, bindO_none, slot0, slot1, set0, set1, List.map_cons, List.map_nil, List.cons_append, List.nil_append, List.getElem?_cons_zero, List.getElem?_cons_succ, Option.bind_some, Option.map_some, Option.getD_some, id, List.length_cons, List.length_nil, List.replicate_succ, List.replicate_zero, bindT, bindTs, tupM, List.length_set, Nat.zero_add, o_mulR, o_mulL, CP.small64, o_mod, o_fdiv, o_pow, o_lenL, o_lenN, o_lenT, o_lenF, o_lenD, o_listL, o_listT, o_listF, o_tupL, o_tupT, o_boolI, Bool.and_true, Bool.true_and, Bool.and_self, Int.reduceNeg, Int.reducePow, Int.reduceLT, Int.reduceLE, Int.reduceAdd, Int.reduceToNat, Int.natAbs_natCast, o_add, o_sub, o_lt, o_le, o_gt, o_ge, o_max, o_min, o_eqI, o_eqS, o_neI, o_neS, o_eqB, o_neB, o_is0, o_isI, o_isS, o_isT, o_isB, o_isn0, o_isnI, o_isnS, o_isnT, o_neg, o_abs, o_intI, o_intB, l_lst, l_nst, l_tup, l_flst, l_dct, t_non, t_bl, t_int, t_lst, t_nst, t_tup, t_dct, i_nil, ty_int, ty_str, ty_bl, ty_non, ty_tup, ty_lst, ow_im, ow_lst, ow_nst, ow_dct, ow_dnn, iD_int, if_true, if_false, Bool.false_eq_true, reduceIte, decide_true, decide_false, decide_eq_true_eq, Nat.reduceLT, Nat.reduceAdd, Nat.reduceSub, callA, takeA, putA, fzs, fzM, mkL, imsOf, List.zip_cons_cons, List.zip_nil_left, List.zip_nil_right, true_and, and_true, List.filterMap_cons, List.filterMap_nil, stays, itemsM, seqM, unsetAll, parM, reduceCtorEq, ne_app, pop_app, popN_app, g_last, lm_lst, lm_nst, Bool.not_false, Bool.not_true, List.filterMap_cons, isiM, ite_true, ite_false, ne0]), seq_n]
  dsimp only
  rw [seq_c]
  have : ∀ Kx : Ks, CP.xs G Γ (.asg (.tup [(.v 4), (.v 5)]) (.mth0 .pop (.var 2))) Kx [P0, P1, some (.lst (rest ++ [.tup [l, r]])), some (.im (.int k)), b, c, d] = Kx.nx (hd16 P0 P1 k rest l r d) := fun Kx => by
    simp only [xss, CP.xs, CP.ev, CP.evs, takeK, evT, evTs, evA, evI, bor, two, evP, setP, fin_some, fin_none, bindO_some, bindO_none, slot0, slot1, set0, set1, List.map_cons, List.map_nil, List.cons_append, List.nil_append, List.getElem?_cons_zero, List.getElem?_cons_succ, Option.bind_some, Option.map_some, Option.getD_some, id, List.length_cons, List.length_nil, List.replicate_succ, List.replicate_zero, bindT, bindTs, tupM, List.length_set, Nat.zero_add, o_mulR, o_mulL, CP.small64, o_mod, o_fdiv, o_pow, o_lenL, o_lenN, o_lenT, o_lenF, o_lenD, o_listL, o_listT, o_listF, o_tupL, o_tupT, o_boolI, Bool.and_true, Bool.true_and, Bool.and_self, Int.reduceNeg, Int.reducePow, Int.reduceLT, Int.reduceLE, Int.reduceAdd, Int.reduceToNat, Int.natAbs_natCast, o_add, o_sub, o_lt, o_le, o_gt, o_ge, o_max, o_min, o_eqI, o_eqS, o_neI, o_neS, o_eqB, o_neB, o_is0, o_isI, o_isS, o_isT, o_isB, o_isn0, o_isnI, o_isnS, o_isnT, o_neg, o_abs, o_intI, o_intB, l_lst, l_nst, l_tup, l_flst, l_dct, t_non, t_bl, t_int, t_lst, t_nst, t_tup, t_dct, i_nil, ty_int, ty_str, ty_bl, ty_non, ty_tup, ty_lst, ow_im, ow_lst, ow_nst, ow_dct, ow_dnn, iD_int, if_true, if_false, Bool.false_eq_true, reduceIte, decide_true, decide_false, decide_eq_true_eq, Nat.reduceLT, Nat.reduceAdd, Nat.reduceSub, callA, takeA, putA, fzs, fzM, mkL, imsOf, List.zip_cons_cons, List.zip_nil_left, List.zip_nil_right, true_and, and_true, List.filterMap_cons, List.filterMap_nil, stays, itemsM, seqM, unsetAll, parM, reduceCtorEq, ne_app, pop_app, popN_app, g_last, lm_lst, lm_nst, Bool.not_false, Bool.not_true, List.filterMap_cons, isiM, ite_true, ite_false]
  rw [this]
  rfl
theorem end16 {Γ : Nat → CP.Sp} {Kk : Ks} {P0 P1 a b c d : Option M} {k : Int} : bindO (bindT t16_1 (.im (.int k)) [P0, P1, some (.lst []), a, b, c, d]) (fun σ1 => xss G Γ l16_2 Kk σ1) = Kk.rt (.im (.bl true)) [P0, P1, some (.lst []), some (.im (.int k)), b, c, d] := by
  have hb : bindT t16_1 (.im (.int k)) [P0, P1, some (.lst []), a, b, c, d] = some [P0, P1, some (.lst []), some (.im (.int k)), b, c, d] := rfl
  rw [hb, bindO_some, l16_2, seq_c, ife_t (fun Q => by simp only [xss, CP.xs, CP.ev, CP.evs, takeK, evT, evTs, evA, evI, bor, two, evP, setP, fin_some, fin_none, bindO_some, bindO_none, slot0, slot1, set0, set1, List.map_cons, List.map_nil, List.cons_append, List.nil_append, List.getElem?_cons_zero, List.getElem?_cons_succ, Option.bind_some, Option.map_some, Option.getD_some, id, List.length_cons, List.length_nil, List.replicate_succ, List.replicate_zero, bindT, bindTs, tupM, List.length_set, Nat.zero_add, o_mulR, o_mulL, CP.small64, o_mod, o_fdiv, o_pow, o_lenL, o_lenN, o_lenT, o_lenF, o_lenD, o_listL, o_listT, o_listF, o_tupL, o_tupT, o_boolI, Bool.and_true, Bool.true_and, Bool.and_self, Int.reduceNeg, Int.reducePow, Int.reduceLT, Int.reduceLE, Int.reduceAdd, Int.reduceToNat, Int.natAbs_natCast, o_add, o_sub, o_lt, o_le, o_gt, o_ge, o_max, o_min, o_eqI, o_eqS, o_neI, o_neS, o_eqB, o_neB, o_is0, o_isI, o_isS, o_isT, o_isB, o_isn0, o_isnI, o_isnS, o_isnT, o_neg, o_abs, o_intI, o_intB, l_lst, l_nst, l_tup, l_flst, l_dct, t_non, t_bl, t_int, t_lst, t_nst, t_tup, t_dct, i_nil, ty_int, ty_str, ty_bl, ty_non, ty_tup, ty_lst, ow_im, ow_lst, ow_nst, ow_dct, ow_dnn, iD_int, if_true, if_false, Bool.false_eq_true, reduceIte, decide_true, decide_false, decide_eq_true_eq, Nat.reduceLT, Nat.reduceAdd, Nat.reduceSub, callA, takeA, putA, fzs, fzM, mkL, imsOf, List.zip_cons_cons, List.zip_nil_left, List.zip_nil_right, true_and, and_true, List.filterMap_cons, List.filterMap_nil, stays, itemsM, seqM, unsetAll, parM, reduceCtorEq, ne_app, pop_app, popN_app, g_last, lm_lst, lm_nst, Bool.not_false, Bool.not_true, List.filterMap_cons, isiM, ite_true, ite_false] <;> rfl)]
  simp only [xss, CP.xs, CP.ev, CP.evs, takeK, evT, evTs, evA, evI, bor, two, evP, setP, fin_some, fin_none, bindO_some, bindO_none, slot0, slot1, set0, set1, List.map_cons, List.map_nil, List.cons_append, List.nil_append, List.getElem?_cons_zero, List.getElem?_cons_succ, Option.bind_some, Option.map_some, Option.getD_some, id, List.length_cons, List.length_nil, List.replicate_succ, List.replicate_zero, bindT, bindTs, tupM, List.length_set, Nat.zero_add, o_mulR, o_mulL, CP.small64, o_mod, o_fdiv, o_pow, o_lenL, o_lenN, o_lenT, o_lenF, o_lenD, o_listL, o_listT, o_listF, o_tupL, o_tupT, o_boolI, Bool.and_true, Bool.true_and, Bool.and_self, Int.reduceNeg, Int.reducePow, Int.reduceLT, Int.reduceLE, Int.reduceAdd, Int.reduceToNat, Int.natAbs_natCast, o_add, o_sub, o_lt, o_le, o_gt, o_ge, o_max, o_min, o_eqI, o_eqS, o_neI, o_neS, o_eqB, o_neB, o_is0, o_isI, o_isS, o_isT, o_isB, o_isn0, o_isnI, o_isnS, o_isnT, o_neg, o_abs, o_intI, o_intB, l_lst, l_nst, l_tup, l_flst, l_dct, t_non, t_bl, t_int, t_lst, t_nst, t_tup, t_dct, i_nil, ty_int, ty_str, ty_bl, ty_non, ty_tup, ty_lst, ow_im, ow_lst, ow_nst, ow_dct, ow_dnn, iD_int, if_true, if_false, Bool.false_eq_true, reduceIte, decide_true, decide_false, decide_eq_true_eq, Nat.reduceLT, Nat.reduceAdd, Nat.reduceSub, callA, takeA, putA, fzs, fzM, mkL, imsOf, List.zip_cons_cons, List.zip_nil_left, List.zip_nil_right, true_and, and_true, List.filterMap_cons, List.filterMap_nil, stays, itemsM, seqM, unsetAll, parM, reduceCtorEq, ne_app, pop_app, popN_app, g_last, lm_lst, lm_nst, Bool.not_false, Bool.not_true, List.filterMap_cons, isiM, ite_true, ite_false]
theorem scal16 {Γ : Nat → CP.Sp} {Kk : Ks} {P0 P1 d : Option M} {k : Int} {rest : List D} {x : D} (hx : x = .non ∨ (∃ v, x = .bl v) ∨ (∃ v, x = .int v) ∨ ∃ v, x = .str v) : xss G Γ tl16 Kk (hd16 P0 P1 k rest x x d) = Kk.nx (hd16 P0 P1 k rest x x d) := by
  rcases hx with rfl | ⟨v, rfl⟩ | ⟨v, rfl⟩ | ⟨v, rfl⟩
  · rw [tl16]
    dsimp only [l16_2]
    rw [seq_c, ife_f (fun Q => by simp only [xss, CP.xs, CP.ev, CP.evs, takeK, evT, evTs, evA, evI, bor, two, evP, setP, fin_some, fin_none, bindO_some, bindO_none, slot0, slot1, set0, set1, List.map_cons, List.map_nil, List.cons_append, List.nil_append, List.getElem?_cons_zero, List.getElem?_cons_succ, Option.bind_some, Option.map_some, Option.getD_some, id, List.length_cons, List.length_nil, List.replicate_succ, List.replicate_zero, bindT, bindTs, tupM, List.length_set, Nat.zero_add, o_mulR, o_mulL, CP.small64, o_mod, o_fdiv, o_pow, o_lenL, o_lenN, o_lenT, o_lenF, o_lenD, o_listL, o_listT, o_listF, o_tupL, o_tupT, o_boolI, Bool.and_true, Bool.true_and, Bool.and_self, Int.reduceNeg, Int.reducePow, Int.reduceLT, Int.reduceLE, Int.reduceAdd, Int.reduceToNat, Int.natAbs_natCast, o_add, o_sub, o_lt, o_le, o_gt, o_ge, o_max, o_min, o_eqI, o_eqS, o_neI, o_neS, o_eqB, o_neB, o_is0, o_isI, o_isS, o_isT, o_isB, o_isn0, o_isnI, o_isnS, o_isnT, o_neg, o_abs, o_intI, o_intB, l_lst, l_nst, l_tup, l_flst, l_dct, t_non, t_bl, t_int, t_lst, t_nst, t_tup, t_dct, i_nil, ty_int, ty_str, ty_bl, ty_non, ty_tup, ty_lst, ow_im, ow_lst, ow_nst, ow_dct, ow_dnn, iD_int, if_true, if_false, Bool.false_eq_true, reduceIte, decide_true, decide_false, decide_eq_true_eq, Nat.reduceLT, Nat.reduceAdd, Nat.reduceSub, callA, takeA, putA, fzs, fzM, mkL, imsOf, List.zip_cons_cons, List.zip_nil_left, List.zip_nil_right, true_and, and_true, List.filterMap_cons, List.filterMap_nil, stays, itemsM, seqM, unsetAll, parM, reduceCtorEq, ne_app, pop_app, popN_app, g_last, lm_lst, lm_nst, Bool.not_false, Bool.not_true, List.filterMap_cons, isiM, ite_true, ite_false, eq_self, not_true] <;> rfl), seq_c, ife_t (fun Q => by simp only [xss, CP.xs, CP.ev, CP.evs, takeK, evT, evTs, evA, evI, bor, two, evP, setP, fin_some, fin_none, bindO_some, bindO_none, slot0, slot1, set0, set1, List.map_cons, List.map_nil, List.cons_append, List.nil_append, List.getElem?_cons_zero, List.getElem?_cons_succ, Option.bind_some, Option.map_some, Option.getD_some, id, List.length_cons, List.length_nil, List.replicate_succ, List.replicate_zero, bindT, bindTs, tupM, List.length_set, Nat.zero_add, o_mulR, o_mulL, CP.small64, o_mod, o_fdiv, o_pow, o_lenL, o_lenN, o_lenT, o_lenF, o_lenD, o_listL, o_listT, o_listF, o_tupL, o_tupT, o_boolI, Bool.and_true, Bool.true_and, Bool.and_self, Int.reduceNeg, Int.reducePow, Int.reduceLT, Int.reduceLE, Int.reduceAdd, Int.reduceToNat, Int.natAbs_natCast, o_add, o_sub, o_lt, o_le, o_gt, o_ge, o_max, o_min, o_eqI, o_eqS, o_neI, o_neS, o_eqB, o_neB, o_is0, o_isI, o_isS, o_isT, o_isB, o_isn0, o_isnI, o_isnS, o_isnT, o_neg, o_abs, o_intI, o_intB, l_lst, l_nst, l_tup, l_flst, l_dct, t_non, t_bl, t_int, t_lst, t_nst, t_tup, t_dct, i_nil, ty_int, ty_str, ty_bl, ty_non, ty_tup, ty_lst, ow_im, ow_lst, ow_nst, ow_dct, ow_dnn, iD_int, if_true, if_false, Bool.false_eq_true, reduceIte, decide_true, decide_false, decide_eq_true_eq, Nat.reduceLT, Nat.reduceAdd, Nat.reduceSub, callA, takeA, putA, fzs, fzM, mkL, imsOf, List.zip_cons_cons, List.zip_nil_left, List.zip_nil_right, true_and, and_true, List.filterMap_cons, List.filterMap_nil, stays, itemsM, seqM, unsetAll, parM, reduceCtorEq, ne_app, pop_app, popN_app, g_last, lm_lst, lm_nst, Bool.not_false, Bool.not_true, List.filterMap_cons, isiM, ite_true, ite_false, eq_self, not_true] <;> rfl), seq_c, ife_f (fun Q => by simp only [xss, CP.xs, CP.ev, CP.evs, takeK, evT, evTs, evA, evI, bor, two, evP, setP, fin_some, fin_none, bindO_some, bindO_none, slot0, slot1, set0, set1, List.map_cons, List.map_nil, List.cons_append, List.nil_append, List.getElem?_cons_zero, List.getElem?_cons_succ, Option.bind_some, Option.map_some, Option.getD_some, id, List.length_cons, List.length_nil, List.replicate_succ, List.replicate_zero, bindT, bindTs, tupM, List.length_set, Nat.zero_add, o_mulR, o_mulL, CP.small64, o_mod, o_fdiv, o_pow, o_lenL, o_lenN, o_lenT, o_lenF, o_lenD, o_listL, o_listT, o_listF, o_tupL, o_tupT, o_boolI, Bool.and_true, Bool.true_and, Bool.and_self, Int.reduceNeg, Int.reducePow, Int.reduceLT, Int.reduceLE, Int.reduceAdd, Int.reduceToNat, Int.natAbs_natCast, o_add, o_sub, o_lt, o_le, o_gt, o_ge, o_max, o_min, o_eqI, o_eqS, o_neI, o_neS, o_eqB, o_neB, o_is0, o_isI, o_isS, o_isT, o_isB, o_isn0, o_isnI, o_isnS, o_isnT, o_neg, o_abs, o_intI, o_intB, l_lst, l_nst, l_tup, l_flst, l_dct, t_non, t_bl, t_int, t_lst, t_nst, t_tup, t_dct, i_nil, ty_int, ty_str, ty_bl, ty_non, ty_tup, ty_lst, ow_im, ow_lst, ow_nst, ow_dct, ow_dnn, iD_int, if_true, if_false, Bool.false_eq_true, reduceIte, decide_true, decide_false, decide_eq_true_eq, Nat.reduceLT, Nat.reduceAdd, Nat.reduceSub, callA, takeA, putA, fzs, fzM, mkL, imsOf, List.zip_cons_cons, List.zip_nil_left, List.zip_nil_right, true_and, and_true, List.filterMap_cons, List.filterMap_nil, stays, itemsM, seqM, unsetAll, parM, reduceCtorEq, ne_app, pop_app, popN_app, g_last, lm_lst, lm_nst, Bool.not_false, Bool.not_true, List.filterMap_cons, isiM, ite_true, ite_false, eq_self, not_true] <;> rfl), seq_n]
    rfl
  · rw [tl16]
    dsimp only [l16_2]
    rw [seq_c, ife_f (fun Q => by simp only [xss, CP.xs, CP.ev, CP.evs, takeK, evT, evTs, evA, evI, bor, two, evP, setP, fin_some, fin_none, bindO_some, bindO_none, slot0, slot1, set0, set1, List.map_cons, List.map_nil, List.cons_append, List.nil_append, List.getElem?_cons_zero, List.getElem?_cons_succ, Option.bind_some, Option.map_some, Option.getD_some, id, List.length_cons, List.length_nil, List.replicate_succ, List.replicate_zero, bindT, bindTs, tupM, List.length_set, Nat.zero_add, o_mulR, o_mulL, CP.small64, o_mod, o_fdiv, o_pow, o_lenL, o_lenN, o_lenT, o_lenF, o_lenD, o_listL, o_listT, o_listF, o_tupL, o_tupT, o_boolI, Bool.and_true, Bool.true_and, Bool.and_self, Int.reduceNeg, Int.reducePow, Int.reduceLT, Int.reduceLE, Int.reduceAdd, Int.reduceToNat, Int.natAbs_natCast, o_add, o_sub, o_lt, o_le, o_gt, o_ge, o_max, o_min, o_eqI, o_eqS, o_neI, o_neS, o_eqB, o_neB, o_is0, o_isI, o_isS, o_isT, o_isB, o_isn0, o_isnI, o_isnS, o_isnT, o_neg, o_abs, o_intI, o_intB, l_lst, l_nst, l_tup, l_flst, l_dct, t_non, t_bl, t_int, t_lst, t_nst, t_tup, t_dct, i_nil, ty_int, ty_str, ty_bl, ty_non, ty_tup, ty_lst, ow_im, ow_lst, ow_nst, ow_dct, ow_dnn, iD_int, if_true, if_false, Bool.false_eq_true, reduceIte, decide_true, decide_false, decide_eq_true_eq, Nat.reduceLT, Nat.reduceAdd, Nat.reduceSub, callA, takeA, putA, fzs, fzM, mkL, imsOf, List.zip_cons_cons, List.zip_nil_left, List.zip_nil_right, true_and, and_true, List.filterMap_cons, List.filterMap_nil, stays, itemsM, seqM, unsetAll, parM, reduceCtorEq, ne_app, pop_app, popN_app, g_last, lm_lst, lm_nst, Bool.not_false, Bool.not_true, List.filterMap_cons, isiM, ite_true, ite_false, eq_self, not_true] <;> rfl), seq_c, ife_f (fun Q => by simp only [xss, CP.xs, CP.ev, CP.evs, takeK, evT, evTs, evA, evI, bor, two, evP, setP, fin_some, fin_none, bindO_some, bindO_none, slot0, slot1, set0, set1, List.map_cons, List.map_nil, List.cons_append, List.nil_append, List.getElem?_cons_zero, List.getElem?_cons_succ, Option.bind_some, Option.map_some, Option.getD_some, id, List.length_cons, List.length_nil, List.replicate_succ, List.replicate_zero, bindT, bindTs, tupM, List.length_set, Nat.zero_add, o_mulR, o_mulL, CP.small64, o_mod, o_fdiv, o_pow, o_lenL, o_lenN, o_lenT, o_lenF, o_lenD, o_listL, o_listT, o_listF, o_tupL, o_tupT, o_boolI, Bool.and_true, Bool.true_and, Bool.and_self, Int.reduceNeg, Int.reducePow, Int.reduceLT, Int.reduceLE, Int.reduceAdd, Int.reduceToNat, Int.natAbs_natCast, o_add, o_sub, o_lt, o_le, o_gt, o_ge, o_max, o_min, o_eqI, o_eqS, o_neI, o_neS, o_eqB, o_neB, o_is0, o_isI, o_isS, o_isT, o_isB, o_isn0, o_isnI, o_isnS, o_isnT, o_neg, o_abs, o_intI, o_intB, l_lst, l_nst, l_tup, l_flst, l_dct, t_non, t_bl, t_int, t_lst, t_nst, t_tup, t_dct, i_nil, ty_int, ty_str, ty_bl, ty_non, ty_tup, ty_lst, ow_im, ow_lst, ow_nst, ow_dct, ow_dnn, iD_int, if_true, if_false, Bool.false_eq_true, reduceIte, decide_true, decide_false, decide_eq_true_eq, Nat.reduceLT, Nat.reduceAdd, Nat.reduceSub, callA, takeA, putA, fzs, fzM, mkL, imsOf, List.zip_cons_cons, List.zip_nil_left, List.zip_nil_right, true_and, and_true, List.filterMap_cons, List.filterMap_nil, stays, itemsM, seqM, unsetAll, parM, reduceCtorEq, ne_app, pop_app, popN_app, g_last, lm_lst, lm_nst, Bool.not_false, Bool.not_true, List.filterMap_cons, isiM, ite_true, ite_false, eq_self, not_true] <;> rfl), seq_c, ife_t (fun Q => by simp only [xss, CP.xs, CP.ev, CP.evs, takeK, evT, evTs, evA, evI, bor, two, evP, setP, fin_some, fin_none, bindO_some, bindO_none, slot0, slot1, set0, set1, List.map_cons, List.map_nil, List.cons_append, List.nil_append, List.getElem?_cons_zero, List.getElem?_cons_succ, Option.bind_some, Option.map_some, Option.getD_some, id, List.length_cons, List.length_nil, List.replicate_succ, List.replicate_zero, bindT, bindTs, tupM, List.length_set, Nat.zero_add, o_mulR, o_mulL, CP.small64, o_mod, o_fdiv, o_pow, o_lenL, o_lenN, o_lenT, o_lenF, o_lenD, o_listL, o_listT, o_listF, o_tupL, o_tupT, o_boolI, Bool.and_true, Bool.true_and, Bool.and_self, Int.reduceNeg, Int.reducePow, Int.reduceLT, Int.reduceLE, Int.reduceAdd, Int.reduceToNat, Int.natAbs_natCast, o_add, o_sub, o_lt, o_le, o_gt, o_ge, o_max, o_min, o_eqI, o_eqS, o_neI, o_neS, o_eqB, o_neB, o_is0, o_isI, o_isS, o_isT, o_isB, o_isn0, o_isnI, o_isnS, o_isnT, o_neg, o_abs, o_intI, o_intB, l_lst, l_nst, l_tup, l_flst, l_dct, t_non, t_bl, t_int, t_lst, t_nst, t_tup, t_dct, i_nil, ty_int, ty_str, ty_bl, ty_non, ty_tup, ty_lst, ow_im, ow_lst, ow_nst, ow_dct, ow_dnn, iD_int, if_true, if_false, Bool.false_eq_true, reduceIte, decide_true, decide_false, decide_eq_true_eq, Nat.reduceLT, Nat.reduceAdd, Nat.reduceSub, callA, takeA, putA, fzs, fzM, mkL, imsOf, List.zip_cons_cons, List.zip_nil_left, List.zip_nil_right, true_and, and_true, List.filterMap_cons, List.filterMap_nil, stays, itemsM, seqM, unsetAll, parM, reduceCtorEq, ne_app, pop_app, popN_app, g_last, lm_lst, lm_nst, Bool.not_false, Bool.not_true, List.filterMap_cons, isiM, ite_true, ite_false, eq_self, not_true] <;> rfl), seq_c, ife_f (fun Q => by simp only [xss, CP.xs, CP.ev, CP.evs, takeK, evT, evTs, evA, evI, bor, two, evP, setP, fin_some, fin_none, bindO_some, bindO_none, slot0, slot1, set0, set1, List.map_cons, List.map_nil, List.cons_append, List.nil_append, List.getElem?_cons_zero, List.getElem?_cons_succ, Option.bind_some, Option.map_some, Option.getD_some, id, List.length_cons, List.length_nil, List.replicate_succ, List.replicate_zero, bindT, bindTs, tupM, List.length_set, Nat.zero_add, o_mulR, o_mulL, CP.small64, o_mod, o_fdiv, o_pow, o_lenL, o_lenN, o_lenT, o_lenF, o_lenD, o_listL, o_listT, o_listF, o_tupL, o_tupT, o_boolI, Bool.and_true, Bool.true_and, Bool.and_self, Int.reduceNeg, Int.reducePow, Int.reduceLT, Int.reduceLE, Int.reduceAdd, Int.reduceToNat, Int.natAbs_natCast, o_add, o_sub, o_lt, o_le, o_gt, o_ge, o_max, o_min, o_eqI, o_eqS, o_neI, o_neS, o_eqB, o_neB, o_is0, o_isI, o_isS, o_isT, o_isB, o_isn0, o_isnI, o_isnS, o_isnT, o_neg, o_abs, o_intI, o_intB, l_lst, l_nst, l_tup, l_flst, l_dct, t_non, t_bl, t_int, t_lst, t_nst, t_tup, t_dct, i_nil, ty_int, ty_str, ty_bl, ty_non, ty_tup, ty_lst, ow_im, ow_lst, ow_nst, ow_dct, ow_dnn, iD_int, if_true, if_false, Bool.false_eq_true, reduceIte, decide_true, decide_false, decide_eq_true_eq, Nat.reduceLT, Nat.reduceAdd, Nat.reduceSub, callA, takeA, putA, fzs, fzM, mkL, imsOf, List.zip_cons_cons, List.zip_nil_left, List.zip_nil_right, true_and, and_true, List.filterMap_cons, List.filterMap_nil, stays, itemsM, seqM, unsetAll, parM, reduceCtorEq, ne_app, pop_app, popN_app, g_last, lm_lst, lm_nst, Bool.not_false, Bool.not_true, List.filterMap_cons, isiM, ite_true, ite_false, eq_self, not_true] <;> rfl), seq_n]
    rfl
  · rw [tl16]
    dsimp only [l16_2]
    rw [seq_c, ife_f (fun Q => by simp only [xss, CP.xs, CP.ev, CP.evs, takeK, evT, evTs, evA, evI, bor, two, evP, setP, fin_some, fin_none, bindO_some, bindO_none, slot0, slot1, set0, set1, List.map_cons, List.map_nil, List.cons_append, List.nil_append, List.getElem?_cons_zero, List.getElem?_cons_succ, Option.bind_some, Option.map_some, Option.getD_some, id, List.length_cons, List.length_nil, List.replicate_succ, List.replicate_zero, bindT, bindTs, tupM, List.length_set, Nat.zero_add, o_mulR, o_mulL, CP.small64, o_mod, o_fdiv, o_pow, o_lenL, o_lenN, o_lenT, o_lenF, o_lenD, o_listL, o_listT, o_listF, o_tupL, o_tupT, o_boolI, Bool.and_true, Bool.true_and, Bool.and_self, Int.reduceNeg, Int.reducePow, Int.reduceLT, Int.reduceLE, Int.reduceAdd, Int.reduceToNat, Int.natAbs_natCast, o_add, o_sub, o_lt, o_le, o_gt, o_ge, o_max, o_min, o_eqI, o_eqS, o_neI, o_neS, o_eqB, o_neB, o_is0, o_isI, o_isS, o_isT, o_isB, o_isn0, o_isnI, o_isnS, o_isnT, o_neg, o_abs, o_intI, o_intB, l_lst, l_nst, l_tup, l_flst, l_dct, t_non, t_bl, t_int, t_lst, t_nst, t_tup, t_dct, i_nil, ty_int, ty_str, ty_bl, ty_non, ty_tup, ty_lst, ow_im, ow_lst, ow_nst, ow_dct, ow_dnn, iD_int, if_true, if_false, Bool.false_eq_true, reduceIte, decide_true, decide_false, decide_eq_true_eq, Nat.reduceLT, Nat.reduceAdd, Nat.reduceSub, callA, takeA, putA, fzs, fzM, mkL, imsOf, List.zip_cons_cons, List.zip_nil_left, List.zip_nil_right, true_and, and_true, List.filterMap_cons, List.filterMap_nil, stays, itemsM, seqM, unsetAll, parM, reduceCtorEq, ne_app, pop_app, popN_app, g_last, lm_lst, lm_nst, Bool.not_false, Bool.not_true, List.filterMap_cons, isiM, ite_true, ite_false, eq_self, not_true] <;> rfl), seq_c, ife_f (fun Q => by simp only [xss, CP.xs, CP.ev, CP.evs, takeK, evT, evTs, evA, evI, bor, two, evP, setP, fin_some, fin_none, bindO_some, bindO_none, slot0, slot1, set0, set1, List.map_cons, List.map_nil, List.cons_append, List.nil_append, List.getElem?_cons_zero, List.getElem?_cons_succ, Option.bind_some, Option.map_some, Option.getD_some, id, List.length_cons, List.length_nil, List.replicate_succ, List.replicate_zero, bindT, bindTs, tupM, List.length_set, Nat.zero_add, o_mulR, o_mulL, CP.small64, o_mod, o_fdiv, o_pow, o_lenL, o_lenN, o_lenT, o_lenF, o_lenD, o_listL, o_listT, o_listF, o_tupL, o_tupT, o_boolI, Bool.and_true, Bool.true_and, Bool.and_self, Int.reduceNeg, Int.reducePow, Int.reduceLT, Int.reduceLE, Int.reduceAdd, Int.reduceToNat, Int.natAbs_natCast, o_add, o_sub, o_lt, o_le, o_gt, o_ge, o_max, o_min, o_eqI, o_eqS, o_neI, o_neS, o_eqB, o_neB, o_is0, o_isI, o_isS, o_isT, o_isB, o_isn0, o_isnI, o_isnS, o_isnT, o_neg, o_abs, o_intI, o_intB, l_lst, l_nst, l_tup, l_flst, l_dct, t_non, t_bl, t_int, t_lst, t_nst, t_tup, t_dct, i_nil, ty_int, ty_str, ty_bl, ty_non, ty_tup, ty_lst, ow_im, ow_lst, ow_nst, ow_dct, ow_dnn, iD_int, if_true, if_false, Bool.false_eq_true, reduceIte, decide_true, decide_false, decide_eq_true_eq, Nat.reduceLT, Nat.reduceAdd, Nat.reduceSub, callA, takeA, putA, fzs, fzM, mkL, imsOf, List.zip_cons_cons, List.zip_nil_left, List.zip_nil_right, true_and, and_true, List.filterMap_cons, List.filterMap_nil, stays, itemsM, seqM, unsetAll, parM, reduceCtorEq, ne_app, pop_app, popN_app, g_last, lm_lst, lm_nst, Bool.not_false, Bool.not_true, List.filterMap_cons, isiM, ite_true, ite_false, eq_self, not_true] <;> rfl), seq_c, ife_f (fun Q => by simp only [xss, CP.xs, CP.ev, CP.evs, takeK, evT, evTs, evA, evI, bor, two, evP, setP, fin_some, fin_none, bindO_some, bindO_none, slot0, slot1, set0, set1, List.map_cons, List.map_nil, List.cons_append, List.nil_append, List.getElem?_cons_zero, List.getElem?_cons_succ, Option.bind_some, Option.map_some, Option.getD_some, id, List.length_cons, List.length_nil, List.replicate_succ, List.replicate_zero, bindT, bindTs, tupM, List.length_set, Nat.zero_add, o_mulR, o_mulL, CP.small64, o_mod, o_fdiv, o_pow, o_lenL, o_lenN, o_lenT, o_lenF, o_lenD, o_listL, o_listT, o_listF, o_tupL, o_tupT, o_boolI, Bool.and_true, Bool.true_and, Bool.and_self, Int.reduceNeg, Int.reducePow, Int.reduceLT, Int.reduceLE, Int.reduceAdd, Int.reduceToNat, Int.natAbs_natCast, o_add, o_sub, o_lt, o_le, o_gt, o_ge, o_max, o_min, o_eqI, o_eqS, o_neI, o_neS, o_eqB, o_neB, o_is0, o_isI, o_isS, o_isT, o_isB, o_isn0, o_isnI, o_isnS, o_isnT, o_neg, o_abs, o_intI, o_intB, l_lst, l_nst, l_tup, l_flst, l_dct, t_non, t_bl, t_int, t_lst, t_nst, t_tup, t_dct, i_nil, ty_int, ty_str, ty_bl, ty_non, ty_tup, ty_lst, ow_im, ow_lst, ow_nst, ow_dct, ow_dnn, iD_int, if_true, if_false, Bool.false_eq_true, reduceIte, decide_true, decide_false, decide_eq_true_eq, Nat.reduceLT, Nat.reduceAdd, Nat.reduceSub, callA, takeA, putA, fzs, fzM, mkL, imsOf, List.zip_cons_cons, List.zip_nil_left, List.zip_nil_right, true_and, and_true, List.filterMap_cons, List.filterMap_nil, stays, itemsM, seqM, unsetAll, parM, reduceCtorEq, ne_app, pop_app, popN_app, g_last, lm_lst, lm_nst, Bool.not_false, Bool.not_true, List.filterMap_cons, isiM, ite_true, ite_false, eq_self, not_true] <;> rfl), seq_c, ife_t (fun Q => by simp only [xss, CP.xs, CP.ev, CP.evs, takeK, evT, evTs, evA, evI, bor, two, evP, setP, fin_some, fin_none, bindO_some, bindO_none, slot0, slot1, set0, set1, List.map_cons, List.map_nil, List.cons_append, List.nil_append, List.getElem?_cons_zero, List.getElem?_cons_succ, Option.bind_some, Option.map_some, Option.getD_some, id, List.length_cons, List.length_nil, List.replicate_succ, List.replicate_zero, bindT, bindTs, tupM, List.length_set, Nat.zero_add, o_mulR, o_mulL, CP.small64, o_mod, o_fdiv, o_pow, o_lenL, o_lenN, o_lenT, o_lenF, o_lenD, o_listL, o_listT, o_listF, o_tupL, o_tupT, o_boolI, Bool.and_true, Bool.true_and, Bool.and_self, Int.reduceNeg, Int.reducePow, Int.reduceLT, Int.reduceLE, Int.reduceAdd, Int.reduceToNat, Int.natAbs_natCast, o_add, o_sub, o_lt, o_le, o_gt, o_ge, o_max, o_min, o_eqI, o_eqS, o_neI, o_neS, o_eqB, o_neB, o_is0, o_isI, o_isS, o_isT, o_isB, o_isn0, o_isnI, o_isnS, o_isnT, o_neg, o_abs, o_intI, o_intB, l_lst, l_nst, l_tup, l_flst, l_dct, t_non, t_bl, t_int, t_lst, t_nst, t_tup, t_dct, i_nil, ty_int, ty_str, ty_bl, ty_non, ty_tup, ty_lst, ow_im, ow_lst, ow_nst, ow_dct, ow_dnn, iD_int, if_true, if_false, Bool.false_eq_true, reduceIte, decide_true, decide_false, decide_eq_true_eq, Nat.reduceLT, Nat.reduceAdd, Nat.reduceSub, callA, takeA, putA, fzs, fzM, mkL, imsOf, List.zip_cons_cons, List.zip_nil_left, List.zip_nil_right, true_and, and_true, List.filterMap_cons, List.filterMap_nil, stays, itemsM, seqM, unsetAll, parM, reduceCtorEq, ne_app, pop_app, popN_app, g_last, lm_lst, lm_nst, Bool.not_false, Bool.not_true, List.filterMap_cons, isiM, ite_true, ite_false, eq_self, not_true] <;> rfl), seq_c, ife_f (fun Q => by simp only [xss, CP.xs, CP.ev, CP.evs, takeK, evT, evTs, evA, evI, bor, two, evP, setP, fin_some, fin_none, bindO_some, bindO_none, slot0, slot1, set0, set1, List.map_cons, List.map_nil, List.cons_append, List.nil_append, List.getElem?_cons_zero, List.getElem?_cons_succ, Option.bind_some, Option.map_some, Option.getD_some, id, List.length_cons, List.length_nil, List.replicate_succ, List.replicate_zero, bindT, bindTs, tupM, List.length_set, Nat.zero_add, o_mulR, o_mulL, CP.small64, o_mod, o_fdiv, o_pow, o_lenL, o_lenN, o_lenT, o_lenF, o_lenD, o_listL, o_listT, o_listF, o_tupL, o_tupT, o_boolI, Bool.and_true, Bool.true_and, Bool.and_self, Int.reduceNeg, Int.reducePow, Int.reduceLT, Int.reduceLE, Int.reduceAdd, Int.reduceToNat, Int.natAbs_natCast, o_add, o_sub, o_lt, o_le, o_gt, o_ge, o_max, o_min, o_eqI, o_eqS, o_neI, o_neS, o_eqB, o_neB, o_is0, o_isI, o_isS, o_isT, o_isB, o_isn0, o_isnI, o_isnS, o_isnT, o_neg, o_abs, o_intI, o_intB, l_lst, l_nst, l_tup, l_flst, l_dct, t_non, t_bl, t_int, t_lst, t_nst, t_tup, t_dct, i_nil, ty_int, ty_str, ty_bl, ty_non, ty_tup, ty_lst, ow_im, ow_lst, ow_nst, ow_dct, ow_dnn, iD_int, if_true, if_false, Bool.false_eq_true, reduceIte, decide_true, decide_false, decide_eq_true_eq, Nat.reduceLT, Nat.reduceAdd, Nat.reduceSub, callA, takeA, putA, fzs, fzM, mkL, imsOf, List.zip_cons_cons, List.zip_nil_left, List.zip_nil_right, true_and, and_true, List.filterMap_cons, List.filterMap_nil, stays, itemsM, seqM, unsetAll, parM, reduceCtorEq, ne_app, pop_app, popN_app, g_last, lm_lst, lm_nst, Bool.not_false, Bool.not_true, List.filterMap_cons, isiM, ite_true, ite_false, eq_self, not_true] <;> rfl), seq_n]
    rfl
  · rw [tl16]
    dsimp only [l16_2]
    rw [seq_c, ife_f (fun Q => by simp only [xss, CP.xs, CP.ev, CP.evs, takeK, evT, evTs, evA, evI, bor, two, evP, setP, fin_some, fin_none, bindO_some, bindO_none, slot0, slot1, set0, set1, List.map_cons, List.map_nil, List.cons_append, List.nil_append, List.getElem?_cons_zero, List.getElem?_cons_succ, Option.bind_some, Option.map_some, Option.getD_some, id, List.length_cons, List.length_nil, List.replicate_succ, List.replicate_zero, bindT, bindTs, tupM, List.length_set, Nat.zero_add, o_mulR, o_mulL, CP.small64, o_mod, o_fdiv, o_pow, o_lenL, o_lenN, o_lenT, o_lenF, o_lenD, o_listL, o_listT, o_listF, o_tupL, o_tupT, o_boolI, Bool.and_true, Bool.true_and, Bool.and_self, Int.reduceNeg, Int.reducePow, Int.reduceLT, Int.reduceLE, Int.reduceAdd, Int.reduceToNat, Int.natAbs_natCast, o_add, o_sub, o_lt, o_le, o_gt, o_ge, o_max, o_min, o_eqI, o_eqS, o_neI, o_neS, o_eqB, o_neB, o_is0, o_isI, o_isS, o_isT, o_isB, o_isn0, o_isnI, o_isnS, o_isnT, o_neg, o_abs, o_intI, o_intB, l_lst, l_nst, l_tup, l_flst, l_dct, t_non, t_bl, t_int, t_lst, t_nst, t_tup, t_dct, i_nil, ty_int, ty_str, ty_bl, ty_non, ty_tup, ty_lst, ow_im, ow_lst, ow_nst, ow_dct, ow_dnn, iD_int, if_true, if_false, Bool.false_eq_true, reduceIte, decide_true, decide_false, decide_eq_true_eq, Nat.reduceLT, Nat.reduceAdd, Nat.reduceSub, callA, takeA, putA, fzs, fzM, mkL, imsOf, List.zip_cons_cons, List.zip_nil_left, List.zip_nil_right, true_and, and_true, List.filterMap_cons, List.filterMap_nil, stays, itemsM, seqM, unsetAll, parM, reduceCtorEq, ne_app, pop_app, popN_app, g_last, lm_lst, lm_nst, Bool.not_false, Bool.not_true, List.filterMap_cons, isiM, ite_true, ite_false, eq_self, not_true] <;> rfl), seq_c, ife_f (fun Q => by simp only [xss, CP.xs, CP.ev, CP.evs, takeK, evT, evTs, evA, evI, bor, two, evP, setP, fin_some, fin_none, bindO_some, bindO_none, slot0, slot1, set0, set1, List.map_cons, List.map_nil, List.cons_append, List.nil_append, List.getElem?_cons_zero, List.getElem?_cons_succ, Option.bind_some, Option.map_some, Option.getD_some, id, List.length_cons, List.length_nil, List.replicate_succ, List.replicate_zero, bindT, bindTs, tupM, List.length_set, Nat.zero_add, o_mulR, o_mulL, CP.small64, o_mod, o_fdiv, o_pow, o_lenL, o_lenN, o_lenT, o_lenF, o_lenD, o_listL, o_listT, o_listF, o_tupL, o_tupT, o_boolI, Bool.and_true, Bool.true_and, Bool.and_self, Int.reduceNeg, Int.reducePow, Int.reduceLT, Int.reduceLE, Int.reduceAdd, Int.reduceToNat, Int.natAbs_natCast, o_add, o_sub, o_lt, o_le, o_gt, o_ge, o_max, o_min, o_eqI, o_eqS, o_neI, o_neS, o_eqB, o_neB, o_is0, o_isI, o_isS, o_isT, o_isB, o_isn0, o_isnI, o_isnS, o_isnT, o_neg, o_abs, o_intI, o_intB, l_lst, l_nst, l_tup, l_flst, l_dct, t_non, t_bl, t_int, t_lst, t_nst, t_tup, t_dct, i_nil, ty_int, ty_str, ty_bl, ty_non, ty_tup, ty_lst, ow_im, ow_lst, ow_nst, ow_dct, ow_dnn, iD_int, if_true, if_false, Bool.false_eq_true, reduceIte, decide_true, decide_false, decide_eq_true_eq, Nat.reduceLT, Nat.reduceAdd, Nat.reduceSub, callA, takeA, putA, fzs, fzM, mkL, imsOf, List.zip_cons_cons, List.zip_nil_left, List.zip_nil_right, true_and, and_true, List.filterMap_cons, List.filterMap_nil, stays, itemsM, seqM, unsetAll, parM, reduceCtorEq, ne_app, pop_app, popN_app, g_last, lm_lst, lm_nst, Bool.not_false, Bool.not_true, List.filterMap_cons, isiM, ite_true, ite_false, eq_self, not_true] <;> rfl), seq_c, ife_f (fun Q => by simp only [xss, CP.xs, CP.ev, CP.evs, takeK, evT, evTs, evA, evI, bor, two, evP, setP, fin_some, fin_none, bindO_some, bindO_none, slot0, slot1, set0, set1, List.map_cons, List.map_nil, List.cons_append, List.nil_append, List.getElem?_cons_zero, List.getElem?_cons_succ, Option.bind_some, Option.map_some, Option.getD_some, id, List.length_cons, List.length_nil, List.replicate_succ, List.replicate_zero, bindT, bindTs, tupM, List.length_set, Nat.zero_add, o_mulR, o_mulL, CP.small64, o_mod, o_fdiv, o_pow, o_lenL, o_lenN, o_lenT, o_lenF, o_lenD, o_listL, o_listT, o_listF, o_tupL, o_tupT, o_boolI, Bool.and_true, Bool.true_and, Bool.and_self, Int.reduceNeg, Int.reducePow, Int.reduceLT, Int.reduceLE, Int.reduceAdd, Int.reduceToNat, Int.natAbs_natCast, o_add, o_sub, o_lt, o_le, o_gt, o_ge, o_max, o_min, o_eqI, o_eqS, o_neI, o_neS, o_eqB, o_neB, o_is0, o_isI, o_isS, o_isT, o_isB, o_isn0, o_isnI, o_isnS, o_isnT, o_neg, o_abs, o_intI, o_intB, l_lst, l_nst, l_tup, l_flst, l_dct, t_non, t_bl, t_int, t_lst, t_nst, t_tup, t_dct, i_nil, ty_int, ty_str, ty_bl, ty_non, ty_tup, ty_lst, ow_im, ow_lst, ow_nst, ow_dct, ow_dnn, iD_int, if_true, if_false, Bool.false_eq_true, reduceIte, decide_true, decide_false, decide_eq_true_eq, Nat.reduceLT, Nat.reduceAdd, Nat.reduceSub, callA, takeA, putA, fzs, fzM, mkL, imsOf, List.zip_cons_cons, List.zip_nil_left, List.zip_nil_right, true_and, and_true, List.filterMap_cons, List.filterMap_nil, stays, itemsM, seqM, unsetAll, parM, reduceCtorEq, ne_app, pop_app, popN_app, g_last, lm_lst, lm_nst, Bool.not_false, Bool.not_true, List.filterMap_cons, isiM, ite_true, ite_false, eq_self, not_true] <;> rfl), seq_c, ife_f (fun Q => by simp only [xss, CP.xs, CP.ev, CP.evs, takeK, evT, evTs, evA, evI, bor, two, evP, setP, fin_some, fin_none, bindO_some, bindO_none, slot0, slot1, set0, set1, List.map_cons, List.map_nil, List.cons_append, List.nil_append, List.getElem?_cons_zero, List.getElem?_cons_succ, Option.bind_some, Option.map_some, Option.getD_some, id, List.length_cons, List.length_nil, List.replicate_succ, List.replicate_zero, bindT, bindTs, tupM, List.length_set, Nat.zero_add, o_mulR, o_mulL, CP.small64, o_mod, o_fdiv, o_pow, o_lenL, o_lenN, o_lenT, o_lenF, o_lenD, o_listL, o_listT, o_listF, o_tupL, o_tupT, o_boolI, Bool.and_true, Bool.true_and, Bool.and_self, Int.reduceNeg, Int.reducePow, Int.reduceLT, Int.reduceLE, Int.reduceAdd, Int.reduceToNat, Int.natAbs_natCast, o_add, o_sub, o_lt, o_le, o_gt, o_ge, o_max, o_min, o_eqI, o_eqS, o_neI, o_neS, o_eqB, o_neB, o_is0, o_isI, o_isS, o_isT, o_isB, o_isn0, o_isnI, o_isnS, o_isnT, o_neg, o_abs, o_intI, o_intB, l_lst, l_nst, l_tup, l_flst, l_dct, t_non, t_bl, t_int, t_lst, t_nst, t_tup, t_dct, i_nil, ty_int, ty_str, ty_bl, ty_non, ty_tup, ty_lst, ow_im, ow_lst, ow_nst, ow_dct, ow_dnn, iD_int, if_true, if_false, Bool.false_eq_true, reduceIte, decide_true, decide_false, decide_eq_true_eq, Nat.reduceLT, Nat.reduceAdd, Nat.reduceSub, callA, takeA, putA, fzs, fzM, mkL, imsOf, List.zip_cons_cons, List.zip_nil_left, List.zip_nil_right, true_and, and_true, List.filterMap_cons, List.filterMap_nil, stays, itemsM, seqM, unsetAll, parM, reduceCtorEq, ne_app, pop_app, popN_app, g_last, lm_lst, lm_nst, Bool.not_false, Bool.not_true, List.filterMap_cons, isiM, ite_true, ite_false, eq_self, not_true] <;> rfl), seq_c, ife_f (fun Q => by simp only [xss, CP.xs, CP.ev, CP.evs, takeK, evT, evTs, evA, evI, bor, two, evP, setP, fin_some, fin_none, bindO_some, bindO_none, slot0, slot1, set0, set1, List.map_cons, List.map_nil, List.cons_append, List.nil_append, List.getElem?_cons_zero, List.getElem?_cons_succ, Option.bind_some, Option.map_some, Option.getD_some, id, List.length_cons, List.length_nil, List.replicate_succ, List.replicate_zero, bindT, bindTs, tupM, List.length_set, Nat.zero_add, o_mulR, o_mulL, CP.small64, o_mod, o_fdiv, o_pow, o_lenL, o_lenN, o_lenT, o_lenF, o_lenD, o_listL, o_listT, o_listF, o_tupL, o_tupT, o_boolI, Bool.and_true, Bool.true_and, Bool.and_self, Int.reduceNeg, Int.reducePow, Int.reduceLT, Int.reduceLE, Int.reduceAdd, Int.reduceToNat, Int.natAbs_natCast, o_add, o_sub, o_lt, o_le, o_gt, o_ge, o_max, o_min, o_eqI, o_eqS, o_neI, o_neS, o_eqB, o_neB, o_is0, o_isI, o_isS, o_isT, o_isB, o_isn0, o_isnI, o_isnS, o_isnT, o_neg, o_abs, o_intI, o_intB, l_lst, l_nst, l_tup, l_flst, l_dct, t_non, t_bl, t_int, t_lst, t_nst, t_tup, t_dct, i_nil, ty_int, ty_str, ty_bl, ty_non, ty_tup, ty_lst, ow_im, ow_lst, ow_nst, ow_dct, ow_dnn, iD_int, if_true, if_false, Bool.false_eq_true, reduceIte, decide_true, decide_false, decide_eq_true_eq, Nat.reduceLT, Nat.reduceAdd, Nat.reduceSub, callA, takeA, putA, fzs, fzM, mkL, imsOf, List.zip_cons_cons, List.zip_nil_left, List.zip_nil_right, true_and, and_true, List.filterMap_cons, List.filterMap_nil, stays, itemsM, seqM, unsetAll, parM, reduceCtorEq, ne_app, pop_app, popN_app, g_last, lm_lst, lm_nst, Bool.not_false, Bool.not_true, List.filterMap_cons, isiM, ite_true, ite_false, eq_self, not_true] <;> rfl), seq_n]
    rfl
theorem seq16 {Γ : Nat → CP.Sp} {Kk : Ks} {P0 P1 d : Option M} {k : Int} {rest : List D} {L : D} {ds es : List D} (hL : L = .tup ds ∨ L = .kt ds) (hlen : ds.length = es.length) : xss G Γ tl16 Kk (hd16 P0 P1 k rest L (.tup es) d) =
    ((-(2 ^ 62) ≤ (es.length : Int) ∧ (es.length : Int) < 2 ^ 62) ∧ True ∧ forR (fun _ => True) (fun d s => bindT t16_2 (.im d) s) (xss G Γ l16_1) Kk ((List.range es.length).map fun (k : Nat) => D.int (k : Int)) (hd16 P0 P1 k rest L (.tup es) d)) := by
  rw [tl16]
  dsimp only [l16_2]
  rcases hL with rfl | rfl
  · rw [seq_c, ife_t (fun Q => by simp only [xss, CP.xs, CP.ev, CP.evs, takeK, evT, evTs, evA, evI, bor, two, evP, setP, fin_some, fin_none, bindO_some, bindO_none, slot0, slot1, set0, set1, List.map_cons, List.map_nil, List.cons_append, List.nil_append, List.getElem?_cons_zero, List.getElem?_cons_succ, Option.bind_some, Option.map_some, Option.getD_some, id, List.length_cons, List.length_nil, List.replicate_succ, List.replicate_zero, bindT, bindTs, tupM, List.length_set, Nat.zero_add, o_mulR, o_mulL, CP.small64, o_mod, o_fdiv, o_pow, o_lenL, o_lenN, o_lenT, o_lenF, o_lenD, o_listL, o_listT, o_listF, o_tupL, o_tupT, o_boolI, Bool.and_true, Bool.true_and, Bool.and_self, Int.reduceNeg, Int.reducePow, Int.reduceLT, Int.reduceLE, Int.reduceAdd, Int.reduceToNat, Int.natAbs_natCast, o_add, o_sub, o_lt, o_le, o_gt, o_ge, o_max, o_min, o_eqI, o_eqS, o_neI, o_neS, o_eqB, o_neB, o_is0, o_isI, o_isS, o_isT, o_isB, o_isn0, o_isnI, o_isnS, o_isnT, o_neg, o_abs, o_intI, o_intB, l_lst, l_nst, l_tup, l_flst, l_dct, t_non, t_bl, t_int, t_lst, t_nst, t_tup, t_dct, i_nil, ty_int, ty_str, ty_bl, ty_non, ty_tup, ty_lst, ow_im, ow_lst, ow_nst, ow_dct, ow_dnn, iD_int, if_true, if_false, Bool.false_eq_true, reduceIte, decide_true, decide_false, decide_eq_true_eq, Nat.reduceLT, Nat.reduceAdd, Nat.reduceSub, callA, takeA, putA, fzs, fzM, mkL, imsOf, List.zip_cons_cons, List.zip_nil_left, List.zip_nil_right, true_and, and_true, List.filterMap_cons, List.filterMap_nil, stays, itemsM, seqM, unsetAll, parM, reduceCtorEq, ne_app, pop_app, popN_app, g_last, lm_lst, lm_nst, Bool.not_false, Bool.not_true, List.filterMap_cons, isiM, ite_true, ite_false] <;> rfl), seq_c, ife_f (fun Q => by simp only [xss, CP.xs, CP.ev, CP.evs, takeK, evT, evTs, evA, evI, bor, two, evP, setP, fin_some, fin_none, bindO_some, bindO_none, slot0, slot1, set0, set1, List.map_cons, List.map_nil, List.cons_append, List.nil_append, List.getElem?_cons_zero, List.getElem?_cons_succ, Option.bind_some, Option.map_some, Option.getD_some, id, List.length_cons, List.length_nil, List.replicate_succ, List.replicate_zero, bindT, bindTs, tupM, List.length_set, Nat.zero_add, o_mulR, o_mulL, CP.small64, o_mod, o_fdiv, o_pow, o_lenL, o_lenN, o_lenT, o_lenF, o_lenD, o_listL, o_listT, o_listF, o_tupL, o_tupT, o_boolI, Bool.and_true, Bool.true_and, Bool.and_self, Int.reduceNeg, Int.reducePow, Int.reduceLT, Int.reduceLE, Int.reduceAdd, Int.reduceToNat, Int.natAbs_natCast, o_add, o_sub, o_lt, o_le, o_gt, o_ge, o_max, o_min, o_eqI, o_eqS, o_neI, o_neS, o_eqB, o_neB, o_is0, o_isI, o_isS, o_isT, o_isB, o_isn0, o_isnI, o_isnS, o_isnT, o_neg, o_abs, o_intI, o_intB, l_lst, l_nst, l_tup, l_flst, l_dct, t_non, t_bl, t_int, t_lst, t_nst, t_tup, t_dct, i_nil, ty_int, ty_str, ty_bl, ty_non, ty_tup, ty_lst, ow_im, ow_lst, ow_nst, ow_dct, ow_dnn, iD_int, if_true, if_false, Bool.false_eq_true, reduceIte, decide_true, decide_false, decide_eq_true_eq, Nat.reduceLT, Nat.reduceAdd, Nat.reduceSub, callA, takeA, putA, fzs, fzM, mkL, imsOf, List.zip_cons_cons, List.zip_nil_left, List.zip_nil_right, true_and, and_true, List.filterMap_cons, List.filterMap_nil, stays, itemsM, seqM, unsetAll, parM, reduceCtorEq, ne_app, pop_app, popN_app, g_last, lm_lst, lm_nst, Bool.not_false, Bool.not_true, List.filterMap_cons, isiM, ite_true, ite_false] <;> rfl), seq_n]
    dsimp only
    rw [seq_c, ife_f (fun Q => by simp only [xss, CP.xs, CP.ev, CP.evs, takeK, evT, evTs, evA, evI, bor, two, evP, setP, fin_some, fin_none, bindO_some, bindO_none, slot0, slot1, set0, set1, List.map_cons, List.map_nil, List.cons_append, List.nil_append, List.getElem?_cons_zero, List.getElem?_cons_succ, Option.bind_some, Option.map_some, Option.getD_some, id, List.length_cons, List.length_nil, List.replicate_succ, List.replicate_zero, bindT, bindTs, tupM, List.length_set, Nat.zero_add, o_mulR, o_mulL, CP.small64, o_mod, o_fdiv, o_pow, o_lenL, o_lenN, o_lenT, o_lenF, o_lenD, o_listL, o_listT, o_listF, o_tupL, o_tupT, o_boolI, Bool.and_true, Bool.true_and, Bool.and_self, Int.reduceNeg, Int.reducePow, Int.reduceLT, Int.reduceLE, Int.reduceAdd, Int.reduceToNat, Int.natAbs_natCast, o_add, o_sub, o_lt, o_le, o_gt, o_ge, o_max, o_min, o_eqI, o_eqS, o_neI, o_neS, o_eqB, o_neB, o_is0, o_isI, o_isS, o_isT, o_isB, o_isn0, o_isnI, o_isnS, o_isnT, o_neg, o_abs, o_intI, o_intB, l_lst, l_nst, l_tup, l_flst, l_dct, t_non, t_bl, t_int, t_lst, t_nst, t_tup, t_dct, i_nil, ty_int, ty_str, ty_bl, ty_non, ty_tup, ty_lst, ow_im, ow_lst, ow_nst, ow_dct, ow_dnn, iD_int, if_true, if_false, Bool.false_eq_true, reduceIte, decide_true, decide_false, decide_eq_true_eq, Nat.reduceLT, Nat.reduceAdd, Nat.reduceSub, callA, takeA, putA, fzs, fzM, mkL, imsOf, List.zip_cons_cons, List.zip_nil_left, List.zip_nil_right, true_and, and_true, List.filterMap_cons, List.filterMap_nil, stays, itemsM, seqM, unsetAll, parM, reduceCtorEq, ne_app, pop_app, popN_app, g_last, lm_lst, lm_nst, Bool.not_false, Bool.not_true, List.filterMap_cons, isiM, ite_true, ite_false] <;> rfl), seq_n]
    dsimp only
    rw [seq_c, ife_f (fun Q => by simp only [xss, CP.xs, CP.ev, CP.evs, takeK, evT, evTs, evA, evI, bor, two, evP, setP, fin_some, fin_none, bindO_some, bindO_none, slot0, slot1, set0, set1, List.map_cons, List.map_nil, List.cons_append, List.nil_append, List.getElem?_cons_zero, List.getElem?_cons_succ, Option.bind_some, Option.map_some, Option.getD_some, id, List.length_cons, List.length_nil, List.replicate_succ, List.replicate_zero, bindT, bindTs, tupM, List.length_set, Nat.zero_add, o_mulR, o_mulL, CP.small64, o_mod, o_fdiv, o_pow, o_lenL, o_lenN, o_lenT, o_lenF, o_lenD, o_listL, o_listT, o_listF, o_tupL, o_tupT, o_boolI, Bool.and_true, Bool.true_and, Bool.and_self, Int.reduceNeg, Int.reducePow, Int.reduceLT, Int.reduceLE, Int.reduceAdd, Int.reduceToNat, Int.natAbs_natCast, o_add, o_sub, o_lt, o_le, o_gt, o_ge, o_max, o_min, o_eqI, o_eqS, o_neI, o_neS, o_eqB, o_neB, o_is0, o_isI, o_isS, o_isT, o_isB, o_isn0, o_isnI, o_isnS, o_isnT, o_neg, o_abs, o_intI, o_intB, l_lst, l_nst, l_tup, l_flst, l_dct, t_non, t_bl, t_int, t_lst, t_nst, t_tup, t_dct, i_nil, ty_int, ty_str, ty_bl, ty_non, ty_tup, ty_lst, ow_im, ow_lst, ow_nst, ow_dct, ow_dnn, iD_int, if_true, if_false, Bool.false_eq_true, reduceIte, decide_true, decide_false, decide_eq_true_eq, Nat.reduceLT, Nat.reduceAdd, Nat.reduceSub, callA, takeA, putA, fzs, fzM, mkL, imsOf, List.zip_cons_cons, List.zip_nil_left, List.zip_nil_right, true_and, and_true, List.filterMap_cons, List.filterMap_nil, stays, itemsM, seqM, unsetAll, parM, reduceCtorEq, ne_app, pop_app, popN_app, g_last, lm_lst, lm_nst, Bool.not_false, Bool.not_true, List.filterMap_cons, isiM, ite_true, ite_false, hlen, eq_self, not_true] <;> rfl), seq_n]
    dsimp only
    rw [seq_c]
    simp only [xss, CP.xs, CP.ev, CP.evs, takeK, evT, evTs, evA, evI, bor, two, evP, setP, fin_some, fin_none, bindO_some, bindO_none, slot0, slot1, set0, set1, List.map_cons, List.map_nil, List.cons_append, List.nil_append, List.getElem?_cons_zero, List.getElem?_cons_succ, Option.bind_some, Option.map_some, Option.getD_some, id, List.length_cons, List.length_nil, List.replicate_succ, List.replicate_zero, bindT, bindTs, tupM, List.length_set, Nat.zero_add, o_mulR, o_mulL, CP.small64, o_mod, o_fdiv, o_pow, o_lenL, o_lenN, o_lenT, o_lenF, o_lenD, o_listL, o_listT, o_listF, o_tupL, o_tupT, o_boolI, Bool.and_true, Bool.true_and, Bool.and_self, Int.reduceNeg, Int.reducePow, Int.reduceLT, Int.reduceLE, Int.reduceAdd, Int.reduceToNat, Int.natAbs_natCast, o_add, o_sub, o_lt, o_le, o_gt, o_ge, o_max, o_min, o_eqI, o_eqS, o_neI, o_neS, o_eqB, o_neB, o_is0, o_isI, o_isS, o_isT, o_isB, o_isn0, o_isnI, o_isnS, o_isnT, o_neg, o_abs, o_intI, o_intB, l_lst, l_nst, l_tup, l_flst, l_dct, t_non, t_bl, t_int, t_lst, t_nst, t_tup, t_dct, i_nil, ty_int, ty_str, ty_bl, ty_non, ty_tup, ty_lst, ow_im, ow_lst, ow_nst, ow_dct, ow_dnn, iD_int, if_true, if_false, Bool.false_eq_true, reduceIte, decide_true, decide_false, decide_eq_true_eq, Nat.reduceLT, Nat.reduceAdd, Nat.reduceSub, callA, takeA, putA, fzs, fzM, mkL, imsOf, List.zip_cons_cons, List.zip_nil_left, List.zip_nil_right, true_and, and_true, List.filterMap_cons, List.filterMap_nil, stays, itemsM, seqM, unsetAll, parM, reduceCtorEq, ne_app, pop_app, popN_app, g_last, lm_lst, lm_nst, Bool.not_false, Bool.not_true, List.filterMap_cons, isiM, ite_true, ite_false, Int.toNat_natCast]
  · rw [seq_c, ife_t (fun Q => by simp only [xss, CP.xs, CP.ev, CP.evs, takeK, evT, evTs, evA, evI, bor, two, evP, setP, fin_some, fin_none, bindO_some, bindO_none, slot0, slot1, set0, set1, List.map_cons, List.map_nil, List.cons_append, List.nil_append, List.getElem?_cons_zero, List.getElem?_cons_succ, Option.bind_some, Option.map_some, Option.getD_some, id, List.length_cons, List.length_nil, List.replicate_succ, List.replicate_zero, bindT, bindTs, tupM, List.length_set, Nat.zero_add, o_mulR, o_mulL, CP.small64, o_mod, o_fdiv, o_pow, o_lenL, o_lenN, o_lenT, o_lenF, o_lenD, o_listL, o_listT, o_listF, o_tupL, o_tupT, o_boolI, Bool.and_true, Bool.true_and, Bool.and_self, Int.reduceNeg, Int.reducePow, Int.reduceLT, Int.reduceLE, Int.reduceAdd, Int.reduceToNat, Int.natAbs_natCast, o_add, o_sub, o_lt, o_le, o_gt, o_ge, o_max, o_min, o_eqI, o_eqS, o_neI, o_neS, o_eqB, o_neB, o_is0, o_isI, o_isS, o_isT, o_isB, o_isn0, o_isnI, o_isnS, o_isnT, o_neg, o_abs, o_intI, o_intB, l_lst, l_nst, l_tup, l_flst, l_dct, t_non, t_bl, t_int, t_lst, t_nst, t_tup, t_dct, i_nil, ty_int, ty_str, ty_bl, ty_non, ty_tup, ty_lst, ow_im, ow_lst, ow_nst, ow_dct, ow_dnn, iD_int, if_true, if_false, Bool.false_eq_true, reduceIte, decide_true, decide_false, decide_eq_true_eq, Nat.reduceLT, Nat.reduceAdd, Nat.reduceSub, callA, takeA, putA, fzs, fzM, mkL, imsOf, List.zip_cons_cons, List.zip_nil_left, List.zip_nil_right, true_and, and_true, List.filterMap_cons, List.filterMap_nil, stays, itemsM, seqM, unsetAll, parM, reduceCtorEq, ne_app, pop_app, popN_app, g_last, lm_lst, lm_nst, Bool.not_false, Bool.not_true, List.filterMap_cons, isiM, ite_true, ite_false] <;> rfl), seq_c, ife_f (fun Q => by simp only [xss, CP.xs, CP.ev, CP.evs, takeK, evT, evTs, evA, evI, bor, two, evP, setP, fin_some, fin_none, bindO_some, bindO_none, slot0, slot1, set0, set1, List.map_cons, List.map_nil, List.cons_append, List.nil_append, List.getElem?_cons_zero, List.getElem?_cons_succ, Option.bind_some, Option.map_some, Option.getD_some, id, List.length_cons, List.length_nil, List.replicate_succ, List.replicate_zero, bindT, bindTs, tupM, List.length_set, Nat.zero_add, o_mulR, o_mulL, CP.small64, o_mod, o_fdiv, o_pow, o_lenL, o_lenN, o_lenT, o_lenF, o_lenD, o_listL, o_listT, o_listF, o_tupL, o_tupT, o_boolI, Bool.and_true, Bool.true_and, Bool.and_self, Int.reduceNeg, Int.reducePow, Int.reduceLT, Int.reduceLE, Int.reduceAdd, Int.reduceToNat, Int.natAbs_natCast, o_add, o_sub, o_lt, o_le, o_gt, o_ge, o_max, o_min, o_eqI, o_eqS, o_neI, o_neS, o_eqB, o_neB, o_is0, o_isI, o_isS, o_isT, o_isB, o_isn0, o_isnI, o_isnS, o_isnT, o_neg, o_abs, o_intI, o_intB, l_lst, l_nst, l_tup, l_flst, l_dct, t_non, t_bl, t_int, t_lst, t_nst, t_tup, t_dct, i_nil, ty_int, ty_str, ty_bl, ty_non, ty_tup, ty_lst, ow_im, ow_lst, ow_nst, ow_dct, ow_dnn, iD_int, if_true, if_false, Bool.false_eq_true, reduceIte, decide_true, decide_false, decide_eq_true_eq, Nat.reduceLT, Nat.reduceAdd, Nat.reduceSub, callA, takeA, putA, fzs, fzM, mkL, imsOf, List.zip_cons_cons, List.zip_nil_left, List.zip_nil_right, true_and, and_true, List.filterMap_cons, List.filterMap_nil, stays, itemsM, seqM, unsetAll, parM, reduceCtorEq, ne_app, pop_app, popN_app, g_last, lm_lst, lm_nst, Bool.not_false, Bool.not_true, List.filterMap_cons, isiM, ite_true, ite_false, ty_kt] <;> rfl), seq_n]
    dsimp only
    rw [seq_c, ife_f (fun Q => by simp only [xss, CP.xs, CP.ev, CP.evs, takeK, evT, evTs, evA, evI, bor, two, evP, setP, fin_some, fin_none, bindO_some, bindO_none, slot0, slot1, set0, set1, List.map_cons, List.map_nil, List.cons_append, List.nil_append, List.getElem?_cons_zero, List.getElem?_cons_succ, Option.bind_some, Option.map_some, Option.getD_some, id, List.length_cons, List.length_nil, List.replicate_succ, List.replicate_zero, bindT, bindTs, tupM, List.length_set, Nat.zero_add, o_mulR, o_mulL, CP.small64, o_mod, o_fdiv, o_pow, o_lenL, o_lenN, o_lenT, o_lenF, o_lenD, o_listL, o_listT, o_listF, o_tupL, o_tupT, o_boolI, Bool.and_true, Bool.true_and, Bool.and_self, Int.reduceNeg, Int.reducePow, Int.reduceLT, Int.reduceLE, Int.reduceAdd, Int.reduceToNat, Int.natAbs_natCast, o_add, o_sub, o_lt, o_le, o_gt, o_ge, o_max, o_min, o_eqI, o_eqS, o_neI, o_neS, o_eqB, o_neB, o_is0, o_isI, o_isS, o_isT, o_isB, o_isn0, o_isnI, o_isnS, o_isnT, o_neg, o_abs, o_intI, o_intB, l_lst, l_nst, l_tup, l_flst, l_dct, t_non, t_bl, t_int, t_lst, t_nst, t_tup, t_dct, i_nil, ty_int, ty_str, ty_bl, ty_non, ty_tup, ty_lst, ow_im, ow_lst, ow_nst, ow_dct, ow_dnn, iD_int, if_true, if_false, Bool.false_eq_true, reduceIte, decide_true, decide_false, decide_eq_true_eq, Nat.reduceLT, Nat.reduceAdd, Nat.reduceSub, callA, takeA, putA, fzs, fzM, mkL, imsOf, List.zip_cons_cons, List.zip_nil_left, List.zip_nil_right, true_and, and_true, List.filterMap_cons, List.filterMap_nil, stays, itemsM, seqM, unsetAll, parM, reduceCtorEq, ne_app, pop_app, popN_app, g_last, lm_lst, lm_nst, Bool.not_false, Bool.not_true, List.filterMap_cons, isiM, ite_true, ite_false] <;> rfl), seq_n]
    dsimp only
    rw [seq_c, ife_f (fun Q => by simp only [xss, CP.xs, CP.ev, CP.evs, takeK, evT, evTs, evA, evI, bor, two, evP, setP, fin_some, fin_none, bindO_some, bindO_none, slot0, slot1, set0, set1, List.map_cons, List.map_nil, List.cons_append, List.nil_append, List.getElem?_cons_zero, List.getElem?_cons_succ, Option.bind_some, Option.map_some, Option.getD_some, id, List.length_cons, List.length_nil, List.replicate_succ, List.replicate_zero, bindT, bindTs, tupM, List.length_set, Nat.zero_add, o_mulR, o_mulL, CP.small64, o_mod, o_fdiv, o_pow, o_lenL, o_lenN, o_lenT, o_lenF, o_lenD, o_listL, o_listT, o_listF, o_tupL, o_tupT, o_boolI, Bool.and_true, Bool.true_and, Bool.and_self, Int.reduceNeg, Int.reducePow, Int.reduceLT, Int.reduceLE, Int.reduceAdd, Int.reduceToNat, Int.natAbs_natCast, o_add, o_sub, o_lt, o_le, o_gt, o_ge, o_max, o_min, o_eqI, o_eqS, o_neI, o_neS, o_eqB, o_neB, o_is0, o_isI, o_isS, o_isT, o_isB, o_isn0, o_isnI, o_isnS, o_isnT, o_neg, o_abs, o_intI, o_intB, l_lst, l_nst, l_tup, l_flst, l_dct, t_non, t_bl, t_int, t_lst, t_nst, t_tup, t_dct, i_nil, ty_int, ty_str, ty_bl, ty_non, ty_tup, ty_lst, ow_im, ow_lst, ow_nst, ow_dct, ow_dnn, iD_int, if_true, if_false, Bool.false_eq_true, reduceIte, decide_true, decide_false, decide_eq_true_eq, Nat.reduceLT, Nat.reduceAdd, Nat.reduceSub, callA, takeA, putA, fzs, fzM, mkL, imsOf, List.zip_cons_cons, List.zip_nil_left, List.zip_nil_right, true_and, and_true, List.filterMap_cons, List.filterMap_nil, stays, itemsM, seqM, unsetAll, parM, reduceCtorEq, ne_app, pop_app, popN_app, g_last, lm_lst, lm_nst, Bool.not_false, Bool.not_true, List.filterMap_cons, isiM, ite_true, ite_false, o_lenK, hlen, eq_self, not_true] <;> rfl), seq_n]
    dsimp only
    rw [seq_c]
    simp only [xss, CP.xs, CP.ev, CP.evs, takeK, evT, evTs, evA, evI, bor, two, evP, setP, fin_some, fin_none, bindO_some, bindO_none, slot0, slot1, set0, set1, List.map_cons, List.map_nil, List.cons_append, List.nil_append, List.getElem?_cons_zero, List.getElem?_cons_succ, Option.bind_some, Option.map_some, Option.getD_some, id, List.length_cons, List.length_nil, List.replicate_succ, List.replicate_zero, bindT, bindTs, tupM, List.length_set, Nat.zero_add, o_mulR, o_mulL, CP.small64, o_mod, o_fdiv, o_pow, o_lenL, o_lenN, o_lenT, o_lenF, o_lenD, o_listL, o_listT, o_listF, o_tupL, o_tupT, o_boolI, Bool.and_true, Bool.true_and, Bool.and_self, Int.reduceNeg, Int.reducePow, Int.reduceLT, Int.reduceLE, Int.reduceAdd, Int.reduceToNat, Int.natAbs_natCast, o_add, o_sub, o_lt, o_le, o_gt, o_ge, o_max, o_min, o_eqI, o_eqS, o_neI, o_neS, o_eqB, o_neB, o_is0, o_isI, o_isS, o_isT, o_isB, o_isn0, o_isnI, o_isnS, o_isnT, o_neg, o_abs, o_intI, o_intB, l_lst, l_nst, l_tup, l_flst, l_dct, t_non, t_bl, t_int, t_lst, t_nst, t_tup, t_dct, i_nil, ty_int, ty_str, ty_bl, ty_non, ty_tup, ty_lst, ow_im, ow_lst, ow_nst, ow_dct, ow_dnn, iD_int, if_true, if_false, Bool.false_eq_true, reduceIte, decide_true, decide_false, decide_eq_true_eq, Nat.reduceLT, Nat.reduceAdd, Nat.reduceSub, callA, takeA, putA, fzs, fzM, mkL, imsOf, List.zip_cons_cons, List.zip_nil_left, List.zip_nil_right, true_and, and_true, List.filterMap_cons, List.filterMap_nil, stays, itemsM, seqM, unsetAll, parM, reduceCtorEq, ne_app, pop_app, popN_app, g_last, lm_lst, lm_nst, Bool.not_false, Bool.not_true, List.filterMap_cons, isiM, ite_true, ite_false, Int.toNat_natCast]
theorem same_loop {Γ : Nat → CP.Sp} {Kk : Ks} {P0 P1 : Option M} : ∀ (ks : List Int) (ps : List (D × D)) (a b c d : Option M), (∀ p ∈ ps, eqv p.1 p.2) → tot ps < ks.length → ks.length ≤ 3000000 → (∀ σ', σ'.take 2 = [P0, P1] → Kk.rt (.im (.bl true)) σ') →
    forR (fun _ => True) (fun d s => bindT t16_1 (.im d) s) (xss G Γ l16_2) Kk (ks.map .int) [P0, P1, some (.lst (ps.map prD)), a, b, c, d]
  | [], ps, a, b, c, d, _, h, _, _ => by simp at h
  | k :: ks, ps, a, b, c, d, he, hs, hk, q => by
    rw [List.map_cons, for_cons]
    rcases List.eq_nil_or_concat ps with rfl | ⟨rest, p, rfl⟩
    · rw [List.map_nil, end16]
      exact q _ rfl
    · rw [List.concat_eq_append] at he hs ⊢
      have hp := he p (by simp)
      have hr : ∀ x ∈ rest, eqv x.1 x.2 := fun x hx => he x (by simp [hx])
      rw [tot_app] at hs
      have e1 : tot [p] = sz p.2 := by simp [tot]
      rw [e1] at hs
      have lr := tot_len rest
      have ih := fun (qs : List (D × D)) a b c d (h1 : ∀ x ∈ qs, eqv x.1 x.2) (h2 : tot qs < sz p.2) => same_loop (Γ := Γ) (Kk := Kk) (P0 := P0) (P1 := P1) ks (rest ++ qs) a b c d (fun x hx => (List.mem_append.mp hx).elim (hr x) (h1 x)) (by rw [tot_app]; simp at hs; omega) (by simp at hk; omega) q
      have ih0 := fun a b c d => ih [] a b c d (fun x hx => by cases hx) (by have := sz_pos p.2; simp [tot]; omega)
      rw [List.append_nil] at ih0
      rw [List.map_append, List.map_singleton]
      obtain ⟨l, r⟩ := p
      simp only at hp hs ih
      generalize forR (fun _ => True) (fun d s => bindT t16_1 (.im d) s) (xss G Γ l16_2) Kk (ks.map .int) = W at ih ih0 ⊢
      rw [show prD (l, r) = .tup [l, r] from rfl, turn16]
      have seq : ∀ (ds es : List D), r = .tup es → (l = .tup ds ∨ l = .kt ds) → eqvs ds es → xss G Γ tl16 { Kk with nx := fun σ' => True ∧ W σ', ct := fun σ' => True ∧ W σ', bk := Kk.nx } (hd16 P0 P1 k (rest.map prD) l r d) := by
        rintro ds es rfl hl hv
        have hlen := eqvs_len hv
        obtain ⟨z1, z2⟩ := eqvs_zip hv
        have hsz : sz (.tup es) = szs es + 1 := by simp [sz]
        have lz : (ds.zip es).length = es.length := by rw [List.length_zip]; omega
        have le := tot_len (ds.zip es)
        have er : (List.range es.length).map (fun (k : Nat) => D.int (k : Int)) = (en (ds.zip es)).map fun q => D.int (q.1 : Int) := by
          have : (en (ds.zip es)).map Prod.fst = List.range (ds.zip es).length := List.map_fst_zip (by simp)
          rw [← lz, ← this, List.map_map]
          rfl
        have hL : ∀ (k : Nat) x, ds[k]? = some x → getM (.im l) (.im (.int (k : Int))) = some (.im x) := fun k x h => by
          rcases hl with rfl | rfl
          · exact g_atT h
          · exact g_atK h
        rw [seq16 hl hlen, er]
        refine ⟨by simp at hk hs; omega, trivial, ?_⟩
        refine push_loop (ls := ds) (rs := es) hL (fun k x h => g_atT h) (en (ds.zip es)) rest _ (by rw [en_len, lz]; simp at hk hs; omega) (fun q hq => ?_) fun a => ?_
        · exact List.getElem?_zip_eq_some.mp (en_get hq)
        · have e4 : (en (ds.zip es)).map (·.2) = ds.zip es := List.map_snd_zip (by simp)
          rw [e4]
          exact ⟨trivial, ih (ds.zip es) _ _ _ _ z1 (by omega)⟩
      have scal : ∀ x, l = x → r = x → (x = .non ∨ (∃ v, x = .bl v) ∨ (∃ v, x = .int v) ∨ ∃ v, x = .str v) → xss G Γ tl16 { Kk with nx := fun σ' => True ∧ W σ', ct := fun σ' => True ∧ W σ', bk := Kk.nx } (hd16 P0 P1 k (rest.map prD) l r d) := by
        rintro x rfl rfl hx
        rw [scal16 hx]
        exact ⟨trivial, ih0 _ _ _ _⟩
      cases r with
      | non =>
        cases l with
        | non => exact scal _ rfl rfl (.inl rfl)
        | _ => simp [eqv] at hp
      | bl v =>
        cases l with
        | bl u =>
          simp only [eqv] at hp
          subst hp
          exact scal _ rfl rfl (.inr (.inl ⟨_, rfl⟩))
        | _ => simp [eqv] at hp
      | int v =>
        cases l with
        | int u =>
          simp only [eqv] at hp
          subst hp
          exact scal _ rfl rfl (.inr (.inr (.inl ⟨_, rfl⟩)))
        | _ => simp [eqv] at hp
      | str v =>
        cases l with
        | str u =>
          simp only [eqv] at hp
          subst hp
          exact scal _ rfl rfl (.inr (.inr (.inr ⟨_, rfl⟩)))
        | _ => simp [eqv] at hp
      | tup es =>
        cases l with
        | tup ds =>
          simp only [eqv] at hp
          exact seq ds es rfl (.inl rfl) hp
        | kt ds =>
          simp only [eqv] at hp
          exact seq ds es rfl (.inr rfl) hp
        | _ => simp [eqv] at hp
      | lst es => cases l <;> simp [eqv] at hp
      | kt es => cases l <;> simp [eqv] at hp
      | ty es => cases l <;> simp [eqv] at hp
      | obj es => cases l <;> simp [eqv] at hp
def sameSp : CP.Sp := fun ms Q E => ∃ d e, ms = [.im d, .im e] ∧ eqv d e ∧ sz e ≤ 2000000 ∧ ∀ o1 o2, Q (.im (.bl true)) [o1, o2]
theorem ints_upto (n : Nat) : ∃ ks : List Int, (List.range n).map (fun (k : Nat) => D.int (k : Int)) = ks.map .int ∧ ks.length = n := ⟨(List.range n).map fun (k : Nat) => (k : Int), by simp only [List.map_map, Function.comp_def], by rw [List.length_map, List.length_range]⟩
theorem same_ok {Γ : Nat → CP.Sp} : ∀ ms Q E, sameSp ms Q E → bodySp p16.length n16.length A16 (xss G Γ b16) ms Q E := by
  rintro ms Q E ⟨d, e, rfl, hv, hz, q⟩
  refine ⟨rfl, ?_⟩
  have e0 : [M.im d, M.im e].map some ++ List.replicate (n16.length - p16.length) none = [some (.im d), some (.im e), none, none, none, none, none] := rfl
  rw [e0, seq_c]
  have h1 : ∀ Kx : Ks, CP.xs G Γ (.asg (.v 2) (.lst (.cons (.tup (.cons (.v 0) (.cons (.v 1) .nil))) .nil))) Kx [some (.im d), some (.im e), none, none, none, none, none] = Kx.nx [some (.im d), some (.im e), some (.lst [.tup [d, e]]), none, none, none, none] := fun Kx => by
    simp only [xss, CP.xs, CP.ev, CP.evs, takeK, evT, evTs, evA, evI, bor, two, evP, setP, fin_some, fin_none, bindO_some, bindO_none, slot0, slot1, set0, set1, List.map_cons, List.map_nil, List.cons_append, List.nil_append, List.getElem?_cons_zero, List.getElem?_cons_succ, Option.bind_some, Option.map_some, Option.getD_some, id, List.length_cons, List.length_nil, List.replicate_succ, List.replicate_zero, bindT, bindTs, tupM, List.length_set, Nat.zero_add, o_mulR, o_mulL, CP.small64, o_mod, o_fdiv, o_pow, o_lenL, o_lenN, o_lenT, o_lenF, o_lenD, o_listL, o_listT, o_listF, o_tupL, o_tupT, o_boolI, Bool.and_true, Bool.true_and, Bool.and_self, Int.reduceNeg, Int.reducePow, Int.reduceLT, Int.reduceLE, Int.reduceAdd, Int.reduceToNat, Int.natAbs_natCast, o_add, o_sub, o_lt, o_le, o_gt, o_ge, o_max, o_min, o_eqI, o_eqS, o_neI, o_neS, o_eqB, o_neB, o_is0, o_isI, o_isS, o_isT, o_isB, o_isn0, o_isnI, o_isnS, o_isnT, o_neg, o_abs, o_intI, o_intB, l_lst, l_nst, l_tup, l_flst, l_dct, t_non, t_bl, t_int, t_lst, t_nst, t_tup, t_dct, i_nil, ty_int, ty_str, ty_bl, ty_non, ty_tup, ty_lst, ow_im, ow_lst, ow_nst, ow_dct, ow_dnn, iD_int, if_true, if_false, Bool.false_eq_true, reduceIte, decide_true, decide_false, decide_eq_true_eq, Nat.reduceLT, Nat.reduceAdd, Nat.reduceSub, callA, takeA, putA, fzs, fzM, mkL, imsOf, List.zip_cons_cons, List.zip_nil_left, List.zip_nil_right, true_and, and_true, List.filterMap_cons, List.filterMap_nil, stays, itemsM, seqM, unsetAll, parM, reduceCtorEq, ne_app, pop_app, popN_app, g_last, lm_lst, lm_nst, Bool.not_false, Bool.not_true, List.filterMap_cons, isiM, ite_true, ite_false]
  rw [h1]
  dsimp only
  rw [seq_c]
  obtain ⟨ks, hks, hlen⟩ := ints_upto 3000000
  have h2 : ∀ Kx : Ks, CP.xs G Γ (.for t16_1 (.rng1 (.p (.int 3000000))) l16_2) Kx [some (.im d), some (.im e), some (.lst [.tup [d, e]]), none, none, none, none] = ((-(2 ^ 62) ≤ (3000000 : Int) ∧ (3000000 : Int) < 2 ^ 62) ∧ True ∧ forR (fun _ => True) (fun d s => bindT t16_1 (.im d) s) (xss G Γ l16_2) Kx (ks.map .int) [some (.im d), some (.im e), some (.lst [.tup [d, e]]), none, none, none, none]) := fun Kx => by
    rw [← hks, CP.xs, evI]
    simp only [CP.ev, evP]
    rfl
  rw [h2]
  refine ⟨by omega, trivial, ?_⟩
  refine same_loop ks [(d, e)] _ _ _ _ (fun p hp => by rw [List.mem_singleton.mp hp]; exact hv) (by rw [hlen]; simp [tot]; omega) (Nat.le_of_eq hlen) fun σ' hσ => ?_
  match σ', hσ with
  | o1 :: o2 :: r, h => exact q _ _
end K10
namespace K10
open PySem PySem.Spec PyProof.Rows L2 CP
/-! ### the urn -/
def urnM (l : Int) (a : Nat) (g : List Int) : M := .nst [.im (.int l), .im (.int (a : Int)), .lst (g.map .int)]
section
variable {l x : Int} {a : Nat} {g : List Int}
theorem u_0 : getM (urnM l a g) (.im (.int 0)) = some (.im (.int l)) := rfl
theorem u_1 : getM (urnM l a g) (.im (.int 1)) = some (.im (.int (a : Int))) := rfl
theorem u_2 : getM (urnM l a g) (.im (.int 2)) = some (.lst (g.map .int)) := rfl
theorem w_0 : setM (urnM l a g) (.im (.int 0)) (.im (.int x)) = some (urnM x a g) := rfl
theorem w_1 : setM (urnM l a g) (.im (.int 1)) (.im (.int ((a : Int) + 1))) = some (urnM l (a + 1) g) := rfl
theorem u_ow : owned (urnM l a g) = true := rfl
theorem g_nat {l : List Int} {n : Nat} (h : n < l.length) : getM (.lst (l.map .int)) (.im (.int (n : Int))) = some (.im (.int l[n])) := g_at (by rw [List.getElem?_map, List.getElem?_eq_getElem h]; rfl)
end
def sipSp : CP.Sp := fun ms Q E => ∃ l a g m, ms = [urnM l a g, .im (.int m)] ∧ 0 < m ∧ ∀ t l' a', 0 ≤ t → t < m → Q (.im (.int t)) [some (urnM l' a' g), some (.im (.int m))]
theorem sip_ok {Γ : Nat → CP.Sp} : ∀ ms Q E, sipSp ms Q E → bodySp p9.length n9.length A9 (xss G Γ b9) ms Q E := by
  rintro ms Q E ⟨l, a, g, m, rfl, hm, q⟩
  refine ⟨rfl, ?_⟩
  have fin : ∀ (x : Int) l a, Q (.im (.int (x % m))) [some (urnM l a g), some (.im (.int m))] := fun x l a => q _ _ _ (Int.emod_nonneg _ (by omega)) (Int.emod_lt_of_pos _ hm)
  simp -implicitDefEqProofs only [xss, CP.xs, CP.ev, CP.evs, takeK, evT, evTs, evA, evI, bor, two, evP, setP, fin_some, fin_none, bindO_some, bindO_none, slot0, slot1, set0, set1, List.map_cons, List.map_nil, List.cons_append, List.nil_append, List.getElem?_cons_zero, List.getElem?_cons_succ, Option.bind_some, Option.map_some, Option.getD_some, id, List.length_cons, List.length_nil, List.replicate_succ, List.replicate_zero, bindT, bindTs, tupM, List.length_set, Nat.zero_add, o_mulR, o_mulL, CP.small64, o_mod, o_fdiv, o_pow, o_lenL, o_lenN, o_lenT, o_lenF, o_lenD, o_listL, o_listT, o_listF, o_tupL, o_tupT, o_boolI, Bool.and_true, Bool.true_and, Bool.and_self, Int.reduceNeg, Int.reducePow, Int.reduceLT, Int.reduceLE, Int.reduceAdd, Int.reduceToNat, Int.natAbs_natCast, o_add, o_sub, o_lt, o_le, o_gt, o_ge, o_max, o_min, o_eqI, o_eqS, o_neI, o_neS, o_eqB, o_neB, o_is0, o_isI, o_isS, o_isT, o_isB, o_isn0, o_isnI, o_isnS, o_isnT, o_neg, o_abs, o_intI, o_intB, l_lst, l_nst, l_tup, l_flst, l_dct, t_non, t_bl, t_int, t_lst, t_nst, t_tup, t_dct, i_nil, ty_int, ty_str, ty_bl, ty_non, ty_tup, ty_lst, ow_im, ow_lst, ow_nst, ow_dct, ow_dnn, iD_int, if_true, if_false, Bool.false_eq_true, reduceIte, decide_true, decide_false, decide_eq_true_eq, Nat.reduceLT, Nat.reduceAdd, Nat.reduceSub, callA, takeA, putA, fzs, fzM, mkL, imsOf, List.zip_cons_cons, List.zip_nil_left, List.zip_nil_right, true_and, and_true, List.filterMap_cons, List.filterMap_nil, stays, itemsM, seqM, forR, lcR, unsetAll, parM, reduceCtorEq, ne_app, pop_app, popN_app, g_last, lm_lst, lm_nst, Bool.not_false, Bool.not_true, List.filterMap_cons, isiM, ite_true, ite_false, u_0, u_1, u_2, w_0, w_1, u_ow, List.length_map]
  split
  · rename_i h
    have hn : a < g.length := by omega
    simp -implicitDefEqProofs only [xss, CP.xs, CP.ev, CP.evs, takeK, evT, evTs, evA, evI, bor, two, evP, setP, fin_some, fin_none, bindO_some, bindO_none, slot0, slot1, set0, set1, List.map_cons, List.map_nil, List.cons_append, List.nil_append, List.getElem?_cons_zero, List.getElem?_cons_succ, Option.bind_some, Option.map_some, Option.getD_some, id, List.length_cons, List.length_nil, List.replicate_succ, List.replicate_zero, bindT, bindTs, tupM, List.length_set, Nat.zero_add, o_mulR, o_mulL, CP.small64, o_mod, o_fdiv, o_pow, o_lenL, o_lenN, o_lenT, o_lenF, o_lenD, o_listL, o_listT, o_listF, o_tupL, o_tupT, o_boolI, Bool.and_true, Bool.true_and, Bool.and_self, Int.reduceNeg, Int.reducePow, Int.reduceLT, Int.reduceLE, Int.reduceAdd, Int.reduceToNat, Int.natAbs_natCast, o_add, o_sub, o_lt, o_le, o_gt, o_ge, o_max, o_min, o_eqI, o_eqS, o_neI, o_neS, o_eqB, o_neB, o_is0, o_isI, o_isS, o_isT, o_isB, o_isn0, o_isnI, o_isnS, o_isnT, o_neg, o_abs, o_intI, o_intB, l_lst, l_nst, l_tup, l_flst, l_dct, t_non, t_bl, t_int, t_lst, t_nst, t_tup, t_dct, i_nil, ty_int, ty_str, ty_bl, ty_non, ty_tup, ty_lst, ow_im, ow_lst, ow_nst, ow_dct, ow_dnn, iD_int, if_true, if_false, Bool.false_eq_true, reduceIte, decide_true, decide_false, decide_eq_true_eq, Nat.reduceLT, Nat.reduceAdd, Nat.reduceSub, callA, takeA, putA, fzs, fzM, mkL, imsOf, List.zip_cons_cons, List.zip_nil_left, List.zip_nil_right, true_and, and_true, List.filterMap_cons, List.filterMap_nil, stays, itemsM, seqM, forR, lcR, unsetAll, parM, reduceCtorEq, ne_app, pop_app, popN_app, g_last, lm_lst, lm_nst, Bool.not_false, Bool.not_true, List.filterMap_cons, isiM, ite_true, ite_false, u_0, u_1, u_2, w_0, w_1, u_ow, g_nat hn, hm]
    exact fin ..
  · simp -implicitDefEqProofs only [xss, CP.xs, CP.ev, CP.evs, takeK, evT, evTs, evA, evI, bor, two, evP, setP, fin_some, fin_none, bindO_some, bindO_none, slot0, slot1, set0, set1, List.map_cons, List.map_nil, List.cons_append, List.nil_append, List.getElem?_cons_zero, List.getElem?_cons_succ, Option.bind_some, Option.map_some, Option.getD_some, id, List.length_cons, List.length_nil, List.replicate_succ, List.replicate_zero, bindT, bindTs, tupM, List.length_set, Nat.zero_add, o_mulR, o_mulL, CP.small64, o_mod, o_fdiv, o_pow, o_lenL, o_lenN, o_lenT, o_lenF, o_lenD, o_listL, o_listT, o_listF, o_tupL, o_tupT, o_boolI, Bool.and_true, Bool.true_and, Bool.and_self, Int.reduceNeg, Int.reducePow, Int.reduceLT, Int.reduceLE, Int.reduceAdd, Int.reduceToNat, Int.natAbs_natCast, o_add, o_sub, o_lt, o_le, o_gt, o_ge, o_max, o_min, o_eqI, o_eqS, o_neI, o_neS, o_eqB, o_neB, o_is0, o_isI, o_isS, o_isT, o_isB, o_isn0, o_isnI, o_isnS, o_isnT, o_neg, o_abs, o_intI, o_intB, l_lst, l_nst, l_tup, l_flst, l_dct, t_non, t_bl, t_int, t_lst, t_nst, t_tup, t_dct, i_nil, ty_int, ty_str, ty_bl, ty_non, ty_tup, ty_lst, ow_im, ow_lst, ow_nst, ow_dct, ow_dnn, iD_int, if_true, if_false, Bool.false_eq_true, reduceIte, decide_true, decide_false, decide_eq_true_eq, Nat.reduceLT, Nat.reduceAdd, Nat.reduceSub, callA, takeA, putA, fzs, fzM, mkL, imsOf, List.zip_cons_cons, List.zip_nil_left, List.zip_nil_right, true_and, and_true, List.filterMap_cons, List.filterMap_nil, stays, itemsM, seqM, forR, lcR, unsetAll, parM, reduceCtorEq, ne_app, pop_app, popN_app, g_last, lm_lst, lm_nst, Bool.not_false, Bool.not_true, List.filterMap_cons, isiM, ite_true, ite_false, u_0, u_1, u_2, w_0, w_1, u_ow, hm]
    exact fin ..
/-! ### the urn, laid -/
theorem lap_loop {Γ : Nat → CP.Sp} {Kk : Ks} {P0 P1 P3 : Option M} : ∀ (ks : List Int) (c : Int) (gr : List Int) (a : Option M), gr.length + ks.length ≤ 100000 → (∀ (c : Int) (gr' : List Int) a, gr'.length ≤ gr.length + ks.length → Kk.nx [P0, P1, some (.lst (gr'.map .int)), P3, some (.im (.int c)), a]) →
    forR (fun _ => True) (fun d s => bindT t8_2 (.im d) s) (xss G Γ l8_1) Kk (ks.map .int) [P0, P1, some (.lst (gr.map .int)), P3, some (.im (.int c)), a]
  | [], c, gr, a, _, q => q c gr a (Nat.le_refl _)
  | k :: ks, c, gr, a, hl, q => by
    have ih := lap_loop (Γ := Γ) (Kk := Kk) (P0 := P0) (P1 := P1) (P3 := P3) ks (c / 997) (gr ++ [c % 997]) (some (.im (.int k))) (by rw [List.length_append, List.length_singleton]; rw [List.length_cons] at hl; omega) (fun c gr' a h => q c gr' a (by rw [List.length_append, List.length_singleton] at h; rw [List.length_cons]; omega))
    have b1 : (gr.map D.int).length < 16777216 := by rw [List.length_map]; rw [List.length_cons] at hl; omega
    rw [List.map_cons, for_cons]
    rw [List.map_append] at ih
    have qb' := q c gr (some (.im (.int k))) (by omega)
    generalize forR (fun _ => True) (fun d s => bindT t8_2 (.im d) s) (xss G Γ l8_1) Kk (ks.map D.int) = W at ih ⊢
    simp -implicitDefEqProofs only [t8_2, l8_1, xss, CP.xs, CP.ev, CP.evs, takeK, evT, evTs, evA, evI, bor, two, evP, setP, fin_some, fin_none, bindO_some, bindO_none, slot0, slot1, set0, set1, List.map_cons, List.map_nil, List.cons_append, List.nil_append, List.getElem?_cons_zero, List.getElem?_cons_succ, Option.bind_some, Option.map_some, Option.getD_some, id, List.length_cons, List.length_nil, List.replicate_succ, List.replicate_zero, bindT, bindTs, tupM, List.length_set, Nat.zero_add, o_mulR, o_mulL, CP.small64, o_mod, o_fdiv, o_pow, o_lenL, o_lenN, o_lenT, o_lenF, o_lenD, o_listL, o_listT, o_listF, o_tupL, o_tupT, o_boolI, Bool.and_true, Bool.true_and, Bool.and_self, Int.reduceNeg, Int.reducePow, Int.reduceLT, Int.reduceLE, Int.reduceAdd, Int.reduceToNat, Int.natAbs_natCast, o_add, o_sub, o_lt, o_le, o_gt, o_ge, o_max, o_min, o_eqI, o_eqS, o_neI, o_neS, o_eqB, o_neB, o_is0, o_isI, o_isS, o_isT, o_isB, o_isn0, o_isnI, o_isnS, o_isnT, o_neg, o_abs, o_intI, o_intB, l_lst, l_nst, l_tup, l_flst, l_dct, t_non, t_bl, t_int, t_lst, t_nst, t_tup, t_dct, i_nil, ty_int, ty_str, ty_bl, ty_non, ty_tup, ty_lst, ow_im, ow_lst, ow_nst, ow_dct, ow_dnn, iD_int, if_true, if_false, Bool.false_eq_true, reduceIte, decide_true, decide_false, decide_eq_true_eq, Nat.reduceLT, Nat.reduceAdd, Nat.reduceSub, callA, takeA, putA, fzs, fzM, mkL, imsOf, List.zip_cons_cons, List.zip_nil_left, List.zip_nil_right, true_and, and_true, List.filterMap_cons, List.filterMap_nil, stays, itemsM, seqM, forR, lcR, unsetAll, parM, reduceCtorEq, ne_app, pop_app, popN_app, g_last, lm_lst, lm_nst, Bool.not_false, Bool.not_true, List.filterMap_cons, isiM, ite_true, ite_false, app_lst b1]
    split
    · exact qb'
    · exact ih
theorem urn_loop {Γ : Nat → CP.Sp} {Kk : Ks} {m : M} {ns : List Int} (hget : ∀ k : Nat, ∀ x, ns[k]? = some x → getM m (.im (.int (k : Int))) = some (.im (.int x))) : ∀ (ks : List Nat) (l : Int) (gr : List Int) (a b c : Option M), (∀ k ∈ ks, k < ns.length) → gr.length ≤ 600 → (∀ (l : Int) (gr : List Int) a b c, Kk.nx [some m, some (.im (.int l)), some (.lst (gr.map .int)), a, b, c]) →
    forR (fun _ => True) (fun d s => bindT t8_1 (.im d) s) (xss G Γ l8_2) Kk (ks.map fun (k : Nat) => D.int (k : Int)) [some m, some (.im (.int l)), some (.lst (gr.map .int)), a, b, c]
  | [], l, gr, a, b, c, _, _, q => q l gr a b c
  | k :: ks, l, gr, a, b, c, hk, hg, q => by
    have hk0 := hk k (by simp)
    have hx := hget k _ (List.getElem?_eq_getElem hk0)
    have ih := fun l gr a b c h => urn_loop (Γ := Γ) (Kk := Kk) hget ks l gr a b c (fun y hy => hk y (by simp [hy])) h q
    rw [List.map_cons, for_cons]
    generalize forR (fun _ => True) (fun d s => bindT t8_1 (.im d) s) (xss G Γ l8_2) Kk (ks.map fun (k : Nat) => D.int (k : Int)) = W at ih ⊢
    simp -implicitDefEqProofs only [t8_1, l8_2, xss, CP.xs, CP.ev, CP.evs, takeK, evT, evTs, evA, evI, bor, two, evP, setP, fin_some, fin_none, bindO_some, bindO_none, slot0, slot1, set0, set1, List.map_cons, List.map_nil, List.cons_append, List.nil_append, List.getElem?_cons_zero, List.getElem?_cons_succ, Option.bind_some, Option.map_some, Option.getD_some, id, List.length_cons, List.length_nil, List.replicate_succ, List.replicate_zero, bindT, bindTs, tupM, List.length_set, Nat.zero_add, o_mulR, o_mulL, CP.small64, o_mod, o_fdiv, o_pow, o_lenL, o_lenN, o_lenT, o_lenF, o_lenD, o_listL, o_listT, o_listF, o_tupL, o_tupT, o_boolI, Bool.and_true, Bool.true_and, Bool.and_self, Int.reduceNeg, Int.reducePow, Int.reduceLT, Int.reduceLE, Int.reduceAdd, Int.reduceToNat, Int.natAbs_natCast, o_add, o_sub, o_lt, o_le, o_gt, o_ge, o_max, o_min, o_eqI, o_eqS, o_neI, o_neS, o_eqB, o_neB, o_is0, o_isI, o_isS, o_isT, o_isB, o_isn0, o_isnI, o_isnS, o_isnT, o_neg, o_abs, o_intI, o_intB, l_lst, l_nst, l_tup, l_flst, l_dct, t_non, t_bl, t_int, t_lst, t_nst, t_tup, t_dct, i_nil, ty_int, ty_str, ty_bl, ty_non, ty_tup, ty_lst, ow_im, ow_lst, ow_nst, ow_dct, ow_dnn, iD_int, if_true, if_false, Bool.false_eq_true, reduceIte, decide_true, decide_false, decide_eq_true_eq, Nat.reduceLT, Nat.reduceAdd, Nat.reduceSub, callA, takeA, putA, fzs, fzM, mkL, imsOf, List.zip_cons_cons, List.zip_nil_left, List.zip_nil_right, true_and, and_true, List.filterMap_cons, List.filterMap_nil, stays, itemsM, seqM, unsetAll, parM, reduceCtorEq, ne_app, pop_app, popN_app, g_last, lm_lst, lm_nst, Bool.not_false, Bool.not_true, List.filterMap_cons, isiM, ite_true, ite_false, hx, pw18, List.length_map]
    generalize (if ns[k] < 0 then -ns[k] else ns[k]) = cell
    split
    · split
      · rename_i h1 h2
        obtain ⟨ks2, hks, ll⟩ := ints_upto 200
        rw [hks]
        refine lap_loop ks2 _ gr _ (by rw [ll]; omega) fun c gr' a h => ?_
        rw [ll] at h
        exact ih _ gr' _ _ _ (by omega)
      · exact ih _ gr _ _ _ hg
    · exact ih _ gr _ _ _ hg
def urnSp : CP.Sp := fun ms Q E => ∃ m ns, ms = [m] ∧ IsScr m ns ∧ ns.length ≤ 63 ∧ ∀ l g, Q (urnM l 0 g) [some m]
theorem urn_ok {Γ : Nat → CP.Sp} : ∀ ms Q E, urnSp ms Q E → bodySp p8.length n8.length A8 (xss G Γ b8) ms Q E := by
  rintro ms Q E ⟨m, ns, rfl, hs, hl, q⟩
  refine ⟨rfl, ?_⟩
  have hget : ∀ k : Nat, ∀ x, ns[k]? = some x → getM m (.im (.int (k : Int))) = some (.im (.int x)) := by
    intro k x hx
    have h2 : (ns.map D.int)[k]? = some (.int x) := by rw [List.getElem?_map, hx]; rfl
    rcases hs with rfl | rfl
    · exact g_at h2
    · exact g_at h2
  have hlen : op1M .len m = some (.im (.int (ns.length : Int))) := by
    rcases hs with rfl | rfl
    · simp -implicitDefEqProofs only [o_lenL, List.length_map]
    · simp -implicitDefEqProofs only [o_lenF, List.length_map]
  simp -implicitDefEqProofs only [xss, CP.xs, CP.ev, CP.evs, takeK, evT, evTs, evA, evI, bor, two, evP, setP, fin_some, fin_none, bindO_some, bindO_none, slot0, slot1, set0, set1, List.map_cons, List.map_nil, List.cons_append, List.nil_append, List.getElem?_cons_zero, List.getElem?_cons_succ, Option.bind_some, Option.map_some, Option.getD_some, id, List.length_cons, List.length_nil, List.replicate_succ, List.replicate_zero, bindT, bindTs, tupM, List.length_set, Nat.zero_add, o_mulR, o_mulL, CP.small64, o_mod, o_fdiv, o_pow, o_lenL, o_lenN, o_lenT, o_lenF, o_lenD, o_listL, o_listT, o_listF, o_tupL, o_tupT, o_boolI, Bool.and_true, Bool.true_and, Bool.and_self, Int.reduceNeg, Int.reducePow, Int.reduceLT, Int.reduceLE, Int.reduceAdd, Int.reduceToNat, Int.natAbs_natCast, o_add, o_sub, o_lt, o_le, o_gt, o_ge, o_max, o_min, o_eqI, o_eqS, o_neI, o_neS, o_eqB, o_neB, o_is0, o_isI, o_isS, o_isT, o_isB, o_isn0, o_isnI, o_isnS, o_isnT, o_neg, o_abs, o_intI, o_intB, l_lst, l_nst, l_tup, l_flst, l_dct, t_non, t_bl, t_int, t_lst, t_nst, t_tup, t_dct, i_nil, ty_int, ty_str, ty_bl, ty_non, ty_tup, ty_lst, ow_im, ow_lst, ow_nst, ow_dct, ow_dnn, iD_int, if_true, if_false, Bool.false_eq_true, reduceIte, decide_true, decide_false, decide_eq_true_eq, Nat.reduceLT, Nat.reduceAdd, Nat.reduceSub, callA, takeA, putA, fzs, fzM, mkL, imsOf, List.zip_cons_cons, List.zip_nil_left, List.zip_nil_right, true_and, and_true, List.filterMap_cons, List.filterMap_nil, stays, itemsM, seqM, unsetAll, parM, reduceCtorEq, ne_app, pop_app, popN_app, g_last, lm_lst, lm_nst, Bool.not_false, Bool.not_true, List.filterMap_cons, isiM, ite_true, ite_false, hlen]
  refine ⟨by split <;> omega, ?_⟩
  refine urn_loop hget _ _ [] _ _ _ (fun k hk => ?_) (by simp) fun l gr a b c => ?_
  · have := List.mem_range.mp hk
    split at this <;> omega
  · simp -implicitDefEqProofs only [xss, CP.xs, CP.ev, CP.evs, takeK, evT, evTs, evA, evI, bor, two, evP, setP, fin_some, fin_none, bindO_some, bindO_none, slot0, slot1, set0, set1, List.map_cons, List.map_nil, List.cons_append, List.nil_append, List.getElem?_cons_zero, List.getElem?_cons_succ, Option.bind_some, Option.map_some, Option.getD_some, id, List.length_cons, List.length_nil, List.replicate_succ, List.replicate_zero, bindT, bindTs, tupM, List.length_set, Nat.zero_add, o_mulR, o_mulL, CP.small64, o_mod, o_fdiv, o_pow, o_lenL, o_lenN, o_lenT, o_lenF, o_lenD, o_listL, o_listT, o_listF, o_tupL, o_tupT, o_boolI, Bool.and_true, Bool.true_and, Bool.and_self, Int.reduceNeg, Int.reducePow, Int.reduceLT, Int.reduceLE, Int.reduceAdd, Int.reduceToNat, Int.natAbs_natCast, o_add, o_sub, o_lt, o_le, o_gt, o_ge, o_max, o_min, o_eqI, o_eqS, o_neI, o_neS, o_eqB, o_neB, o_is0, o_isI, o_isS, o_isT, o_isB, o_isn0, o_isnI, o_isnS, o_isnT, o_neg, o_abs, o_intI, o_intB, l_lst, l_nst, l_tup, l_flst, l_dct, t_non, t_bl, t_int, t_lst, t_nst, t_tup, t_dct, i_nil, ty_int, ty_str, ty_bl, ty_non, ty_tup, ty_lst, ow_im, ow_lst, ow_nst, ow_dct, ow_dnn, iD_int, if_true, if_false, Bool.false_eq_true, reduceIte, decide_true, decide_false, decide_eq_true_eq, Nat.reduceLT, Nat.reduceAdd, Nat.reduceSub, callA, takeA, putA, fzs, fzM, mkL, imsOf, List.zip_cons_cons, List.zip_nil_left, List.zip_nil_right, true_and, and_true, List.filterMap_cons, List.filterMap_nil, stays, itemsM, seqM, unsetAll, parM, reduceCtorEq, ne_app, pop_app, popN_app, g_last, lm_lst, lm_nst, Bool.not_false, Bool.not_true, List.filterMap_cons, isiM, ite_true, ite_false]
    exact q l gr
end K10
namespace K10
open PySem PySem.Spec PyProof.Rows L2 CP
/-! ### names -/
abbrev pool : List Str := (["x", "x1", "y", "y12", "ab", "abc", "abcdefg", "tap", "of1", "z", "a0", "inputs", "ends", "k", "streams", "u", "w9", "adds", "n", "m2", "t", "froms", "b", "c3"] : List Str)
def nmK (s : Int) (k : Nat) : Str := pool.getD ((s + 5 * (k : Int)) % 24).toNat ""
theorem pool_len : ∀ s ∈ pool, s.length ≤ 7 := by decide +kernel
theorem pool_nd : pool.Nodup := by decide +kernel
theorem nmK_mem {s : Int} {k : Nat} : nmK s k ∈ pool := by
  have h0 : 0 ≤ (s + 5 * (k : Int)) % 24 := Int.emod_nonneg _ (by omega)
  have h1 : (s + 5 * (k : Int)) % 24 < 24 := Int.emod_lt_of_pos _ (by omega)
  have hl : ((s + 5 * (k : Int)) % 24).toNat < pool.length := by show _ < 24; omega
  unfold nmK
  rw [List.getD, List.getElem?_eq_getElem hl]
  exact List.getElem_mem hl
theorem g_pool {s : Int} {k : Nat} : getM (.lst (pool.map .str)) (.im (.int ((s + 5 * (k : Int)) % 24))) = some (.im (.str (nmK s k))) := by
  have h0 : 0 ≤ (s + 5 * (k : Int)) % 24 := Int.emod_nonneg _ (by omega)
  have h1 : (s + 5 * (k : Int)) % 24 < 24 := Int.emod_lt_of_pos _ (by omega)
  have hl : ((s + 5 * (k : Int)) % 24).toNat < pool.length := by show _ < 24; omega
  have hl2 : (s + 5 * (k : Int)) % 24 < ((pool.map D.str).length : Int) := by rw [List.length_map]; exact h1
  obtain ⟨d, hd, hg⟩ := g_lst (ds := pool.map D.str) h0 hl2
  rw [hg]
  rw [List.getElem?_map, List.getElem?_eq_getElem hl] at hd
  cases hd
  unfold nmK
  rw [List.getD, List.getElem?_eq_getElem hl]
  rfl
theorem nmK_inj {s : Int} {j k : Nat} (hj : j < 24) (hk : k < 24) (e : nmK s j = nmK s k) : j = k := by
  have h0 : 0 ≤ (s + 5 * (k : Int)) % 24 := Int.emod_nonneg _ (by omega)
  have h1 : (s + 5 * (k : Int)) % 24 < 24 := Int.emod_lt_of_pos _ (by omega)
  have g0 : 0 ≤ (s + 5 * (j : Int)) % 24 := Int.emod_nonneg _ (by omega)
  have g1 : (s + 5 * (j : Int)) % 24 < 24 := Int.emod_lt_of_pos _ (by omega)
  have hl : ((s + 5 * (k : Int)) % 24).toNat < pool.length := by show _ < 24; omega
  have hl2 : ((s + 5 * (j : Int)) % 24).toNat < pool.length := by show _ < 24; omega
  unfold nmK at e
  rw [List.getD, List.getD, List.getElem?_eq_getElem hl, List.getElem?_eq_getElem hl2] at e
  have := (List.getElem_inj pool_nd).mp (show pool[((s + 5 * (j : Int)) % 24).toNat] = pool[((s + 5 * (k : Int)) % 24).toNat] from e)
  omega
theorem str_app_inj {a b c : Str} (h : a ++ c = b ++ c) : a = b := by
  have h2 : a.cps ++ c.cps = b.cps ++ c.cps := congrArg Str.cps h
  have h3 := congrArg Array.toList h2
  rw [Array.toList_append, Array.toList_append] at h3
  have h4 := Array.ext' (List.append_cancel_right h3)
  cases a; cases b
  exact congrArg Str.mk h4
structure NmOk (names : List Str) (n : Nat) : Prop where
  len : names.length = n
  nd : names.Nodup
  sm : ∀ s ∈ names, s.length ≤ 100
def nmsSp : CP.Sp := fun ms Q E => ∃ l a g many b, ms = [urnM l a g, .im (.int many), .im (.str b)] ∧ 0 ≤ many ∧ many ≤ 20 ∧ b.length ≤ 10 ∧ ∀ names l' a' o2 o3, NmOk names many.toNat → Q (.lst (names.map .str)) [some (urnM l' a' g), o2, o3]
theorem nms_ok {Γ : Nat → CP.Sp} (h9 : Γ 9 = sipSp) : ∀ ms Q E, nmsSp ms Q E → bodySp p10.length n10.length A10 (xss G Γ b10) ms Q E := by
  rintro ms Q E ⟨l, a, g, many, b, rfl, h0, h1, hb, q⟩
  refine ⟨rfl, ?_⟩
  have ha : ∀ x y : List D, x.length ≤ 100 → y.length ≤ 100 → op2M .add (.lst x) (.lst y) = some (.lst (x ++ y)) := fun x y hx hy => o_addL (by omega)
  simp -implicitDefEqProofs only [xss, CP.xs, CP.ev, CP.evs, takeK, evT, evTs, evA, evI, bor, two, evP, setP, fin_some, fin_none, bindO_some, bindO_none, slot0, slot1, set0, set1, List.map_cons, List.map_nil, List.cons_append, List.nil_append, List.getElem?_cons_zero, List.getElem?_cons_succ, Option.bind_some, Option.map_some, Option.getD_some, id, List.length_cons, List.length_nil, List.replicate_succ, List.replicate_zero, bindT, bindTs, tupM, List.length_set, Nat.zero_add, o_mulR, o_mulL, CP.small64, o_mod, o_fdiv, o_pow, o_lenL, o_lenN, o_lenT, o_lenF, o_lenD, o_listL, o_listT, o_listF, o_tupL, o_tupT, o_boolI, Bool.and_true, Bool.true_and, Bool.and_self, Int.reduceNeg, Int.reducePow, Int.reduceLT, Int.reduceLE, Int.reduceAdd, Int.reduceToNat, Int.natAbs_natCast, o_add, o_sub, o_lt, o_le, o_gt, o_ge, o_max, o_min, o_eqI, o_eqS, o_neI, o_neS, o_eqB, o_neB, o_is0, o_isI, o_isS, o_isT, o_isB, o_isn0, o_isnI, o_isnS, o_isnT, o_neg, o_abs, o_intI, o_intB, l_lst, l_nst, l_tup, l_flst, l_dct, t_non, t_bl, t_int, t_lst, t_nst, t_tup, t_dct, i_nil, ty_int, ty_str, ty_bl, ty_non, ty_tup, ty_lst, ow_im, ow_lst, ow_nst, ow_dct, ow_dnn, iD_int, if_true, if_false, Bool.false_eq_true, reduceIte, decide_true, decide_false, decide_eq_true_eq, Nat.reduceLT, Nat.reduceAdd, Nat.reduceSub, callA, takeA, putA, fzs, fzM, mkL, imsOf, List.zip_cons_cons, List.zip_nil_left, List.zip_nil_right, true_and, and_true, List.filterMap_cons, List.filterMap_nil, stays, itemsM, seqM, unsetAll, parM, reduceCtorEq, ne_app, pop_app, popN_app, g_last, lm_lst, lm_nst, Bool.not_false, Bool.not_true, List.filterMap_cons, isiM, ite_true, ite_false, h9, u_ow]
  rw [ha _ _ (by decide) (by decide)]
  simp -implicitDefEqProofs only [xss, CP.xs, CP.ev, CP.evs, takeK, evT, evTs, evA, evI, bor, two, evP, setP, fin_some, fin_none, bindO_some, bindO_none, slot0, slot1, set0, set1, List.map_cons, List.map_nil, List.cons_append, List.nil_append, List.getElem?_cons_zero, List.getElem?_cons_succ, Option.bind_some, Option.map_some, Option.getD_some, id, List.length_cons, List.length_nil, List.replicate_succ, List.replicate_zero, bindT, bindTs, tupM, List.length_set, Nat.zero_add, o_mulR, o_mulL, CP.small64, o_mod, o_fdiv, o_pow, o_lenL, o_lenN, o_lenT, o_lenF, o_lenD, o_listL, o_listT, o_listF, o_tupL, o_tupT, o_boolI, Bool.and_true, Bool.true_and, Bool.and_self, Int.reduceNeg, Int.reducePow, Int.reduceLT, Int.reduceLE, Int.reduceAdd, Int.reduceToNat, Int.natAbs_natCast, o_add, o_sub, o_lt, o_le, o_gt, o_ge, o_max, o_min, o_eqI, o_eqS, o_neI, o_neS, o_eqB, o_neB, o_is0, o_isI, o_isS, o_isT, o_isB, o_isn0, o_isnI, o_isnS, o_isnT, o_neg, o_abs, o_intI, o_intB, l_lst, l_nst, l_tup, l_flst, l_dct, t_non, t_bl, t_int, t_lst, t_nst, t_tup, t_dct, i_nil, ty_int, ty_str, ty_bl, ty_non, ty_tup, ty_lst, ow_im, ow_lst, ow_nst, ow_dct, ow_dnn, iD_int, if_true, if_false, Bool.false_eq_true, reduceIte, decide_true, decide_false, decide_eq_true_eq, Nat.reduceLT, Nat.reduceAdd, Nat.reduceSub, callA, takeA, putA, fzs, fzM, mkL, imsOf, List.zip_cons_cons, List.zip_nil_left, List.zip_nil_right, true_and, and_true, List.filterMap_cons, List.filterMap_nil, stays, itemsM, seqM, unsetAll, parM, reduceCtorEq, ne_app, pop_app, popN_app, g_last, lm_lst, lm_nst, Bool.not_false, Bool.not_true, List.filterMap_cons, isiM, ite_true, ite_false, h9, u_ow]
  refine ⟨l, a, g, 24, rfl, by omega, fun s l' a' hs0 hs1 => ?_⟩
  simp -implicitDefEqProofs only [xss, CP.xs, CP.ev, CP.evs, takeK, evT, evTs, evA, evI, bor, two, evP, setP, fin_some, fin_none, bindO_some, bindO_none, slot0, slot1, set0, set1, List.map_cons, List.map_nil, List.cons_append, List.nil_append, List.getElem?_cons_zero, List.getElem?_cons_succ, Option.bind_some, Option.map_some, Option.getD_some, id, List.length_cons, List.length_nil, List.replicate_succ, List.replicate_zero, bindT, bindTs, tupM, List.length_set, Nat.zero_add, o_mulR, o_mulL, CP.small64, o_mod, o_fdiv, o_pow, o_lenL, o_lenN, o_lenT, o_lenF, o_lenD, o_listL, o_listT, o_listF, o_tupL, o_tupT, o_boolI, Bool.and_true, Bool.true_and, Bool.and_self, Int.reduceNeg, Int.reducePow, Int.reduceLT, Int.reduceLE, Int.reduceAdd, Int.reduceToNat, Int.natAbs_natCast, o_add, o_sub, o_lt, o_le, o_gt, o_ge, o_max, o_min, o_eqI, o_eqS, o_neI, o_neS, o_eqB, o_neB, o_is0, o_isI, o_isS, o_isT, o_isB, o_isn0, o_isnI, o_isnS, o_isnT, o_neg, o_abs, o_intI, o_intB, l_lst, l_nst, l_tup, l_flst, l_dct, t_non, t_bl, t_int, t_lst, t_nst, t_tup, t_dct, i_nil, ty_int, ty_str, ty_bl, ty_non, ty_tup, ty_lst, ow_im, ow_lst, ow_nst, ow_dct, ow_dnn, iD_int, if_true, if_false, Bool.false_eq_true, reduceIte, decide_true, decide_false, decide_eq_true_eq, Nat.reduceLT, Nat.reduceAdd, Nat.reduceSub, callA, takeA, putA, fzs, fzM, mkL, imsOf, List.zip_cons_cons, List.zip_nil_left, List.zip_nil_right, true_and, and_true, List.filterMap_cons, List.filterMap_nil, stays, itemsM, seqM, unsetAll, parM, reduceCtorEq, ne_app, pop_app, popN_app, g_last, lm_lst, lm_nst, Bool.not_false, Bool.not_true, List.filterMap_cons, isiM, ite_true, ite_false, u_ow]
  refine ⟨by omega, ?_⟩
  refine lc_map (fun k : Nat => D.int (k : Int)) (fun k : Nat => D.str (nmK s k ++ b)) rfl trivial (List.range many.toNat) (fun k hk K kk => ?_) (by rw [List.length_range]; omega) ?_
  · have gp := g_pool (s := s) (k := k)
    have hlen : (nmK s k).length + b.length ≤ 16777216 := by have := pool_len _ (nmK_mem (s := s) (k := k)); omega
    have gp2 : getM (.lst [D.str "x", .str "x1", .str "y", .str "y12", .str "ab", .str "abc", .str "abcdefg", .str "tap", .str "of1", .str "z", .str "a0", .str "inputs", .str "ends", .str "k", .str "streams", .str "u", .str "w9", .str "adds", .str "n", .str "m2", .str "t", .str "froms", .str "b", .str "c3"]) (.im (.int ((s + 5 * (k : Int)) % 24))) = some (.im (.str (nmK s k))) := gp
    simp -implicitDefEqProofs only [t10_1, e10_1, xss, CP.xs, CP.ev, CP.evs, takeK, evT, evTs, evA, evI, bor, two, evP, setP, fin_some, fin_none, bindO_some, bindO_none, slot0, slot1, set0, set1, List.map_cons, List.map_nil, List.cons_append, List.nil_append, List.getElem?_cons_zero, List.getElem?_cons_succ, Option.bind_some, Option.map_some, Option.getD_some, id, List.length_cons, List.length_nil, List.replicate_succ, List.replicate_zero, bindT, bindTs, tupM, List.length_set, Nat.zero_add, o_mulR, o_mulL, CP.small64, o_mod, o_fdiv, o_pow, o_lenL, o_lenN, o_lenT, o_lenF, o_lenD, o_listL, o_listT, o_listF, o_tupL, o_tupT, o_boolI, Bool.and_true, Bool.true_and, Bool.and_self, Int.reduceNeg, Int.reducePow, Int.reduceLT, Int.reduceLE, Int.reduceAdd, Int.reduceToNat, Int.natAbs_natCast, o_add, o_sub, o_lt, o_le, o_gt, o_ge, o_max, o_min, o_eqI, o_eqS, o_neI, o_neS, o_eqB, o_neB, o_is0, o_isI, o_isS, o_isT, o_isB, o_isn0, o_isnI, o_isnS, o_isnT, o_neg, o_abs, o_intI, o_intB, l_lst, l_nst, l_tup, l_flst, l_dct, t_non, t_bl, t_int, t_lst, t_nst, t_tup, t_dct, i_nil, ty_int, ty_str, ty_bl, ty_non, ty_tup, ty_lst, ow_im, ow_lst, ow_nst, ow_dct, ow_dnn, iD_int, if_true, if_false, Bool.false_eq_true, reduceIte, decide_true, decide_false, decide_eq_true_eq, Nat.reduceLT, Nat.reduceAdd, Nat.reduceSub, callA, takeA, putA, fzs, fzM, mkL, imsOf, List.zip_cons_cons, List.zip_nil_left, List.zip_nil_right, true_and, and_true, List.filterMap_cons, List.filterMap_nil, stays, itemsM, seqM, unsetAll, parM, reduceCtorEq, ne_app, pop_app, popN_app, g_last, lm_lst, lm_nst, Bool.not_false, Bool.not_true, List.filterMap_cons, isiM, ite_true, ite_false, o_idx gp2, o_addS hlen]
    exact kk
  · have e2 : (List.range many.toNat).map (fun k : Nat => D.str (nmK s k ++ b)) = ((List.range many.toNat).map fun k => nmK s k ++ b).map .str := by rw [List.map_map]; rfl
    rw [e2]
    refine q _ _ _ _ _ ⟨by rw [List.length_map, List.length_range], ?_, fun x hx => ?_⟩
    · refine List.Pairwise.map _ (R := fun a b => a ≠ b ∧ a < 24 ∧ b < 24) (fun i j h e => h.1 (nmK_inj h.2.1 h.2.2 (str_app_inj e))) ?_
      exact (List.nodup_range (n := many.toNat)).imp_of_mem fun {i j} hi hj hne => ⟨hne, by have := List.mem_range.mp hi; omega, by have := List.mem_range.mp hj; omega⟩
    · obtain ⟨k, _, rfl⟩ := List.mem_map.mp hx
      have := pool_len _ (nmK_mem (s := s) (k := k))
      have e3 : (nmK s k ++ b).length = (nmK s k).length + b.length := Str.length_append _ _
      omega
/-! ### gains, ranges -/
def gainSp : CP.Sp := fun ms Q E => ∃ l a g, ms = [urnM l a g] ∧ ∀ w l' a', Q (.im (.int w)) [some (urnM l' a' g)]
theorem gain_ok {Γ : Nat → CP.Sp} (h9 : Γ 9 = sipSp) : ∀ ms Q E, gainSp ms Q E → bodySp p11.length n11.length A11 (xss G Γ b11) ms Q E := by
  rintro ms Q E ⟨l, a, g, rfl, q⟩
  refine ⟨rfl, ?_⟩
  simp -implicitDefEqProofs only [xss, CP.xs, CP.ev, CP.evs, takeK, evT, evTs, evA, evI, bor, two, evP, setP, fin_some, fin_none, bindO_some, bindO_none, slot0, slot1, set0, set1, List.map_cons, List.map_nil, List.cons_append, List.nil_append, List.getElem?_cons_zero, List.getElem?_cons_succ, Option.bind_some, Option.map_some, Option.getD_some, id, List.length_cons, List.length_nil, List.replicate_succ, List.replicate_zero, bindT, bindTs, tupM, List.length_set, Nat.zero_add, o_mulR, o_mulL, CP.small64, o_mod, o_fdiv, o_pow, o_lenL, o_lenN, o_lenT, o_lenF, o_lenD, o_listL, o_listT, o_listF, o_tupL, o_tupT, o_boolI, Bool.and_true, Bool.true_and, Bool.and_self, Int.reduceNeg, Int.reducePow, Int.reduceLT, Int.reduceLE, Int.reduceAdd, Int.reduceToNat, Int.natAbs_natCast, o_add, o_sub, o_lt, o_le, o_gt, o_ge, o_max, o_min, o_eqI, o_eqS, o_neI, o_neS, o_eqB, o_neB, o_is0, o_isI, o_isS, o_isT, o_isB, o_isn0, o_isnI, o_isnS, o_isnT, o_neg, o_abs, o_intI, o_intB, l_lst, l_nst, l_tup, l_flst, l_dct, t_non, t_bl, t_int, t_lst, t_nst, t_tup, t_dct, i_nil, ty_int, ty_str, ty_bl, ty_non, ty_tup, ty_lst, ow_im, ow_lst, ow_nst, ow_dct, ow_dnn, iD_int, if_true, if_false, Bool.false_eq_true, reduceIte, decide_true, decide_false, decide_eq_true_eq, Nat.reduceLT, Nat.reduceAdd, Nat.reduceSub, callA, takeA, putA, fzs, fzM, mkL, imsOf, List.zip_cons_cons, List.zip_nil_left, List.zip_nil_right, true_and, and_true, List.filterMap_cons, List.filterMap_nil, stays, itemsM, seqM, unsetAll, parM, reduceCtorEq, ne_app, pop_app, popN_app, g_last, lm_lst, lm_nst, Bool.not_false, Bool.not_true, List.filterMap_cons, isiM, ite_true, ite_false, h9, u_ow]
  refine ⟨l, a, g, 8, rfl, by omega, fun s l1 a1 hs0 hs1 => ?_⟩
  simp -implicitDefEqProofs only [xss, CP.xs, CP.ev, CP.evs, takeK, evT, evTs, evA, evI, bor, two, evP, setP, fin_some, fin_none, bindO_some, bindO_none, slot0, slot1, set0, set1, List.map_cons, List.map_nil, List.cons_append, List.nil_append, List.getElem?_cons_zero, List.getElem?_cons_succ, Option.bind_some, Option.map_some, Option.getD_some, id, List.length_cons, List.length_nil, List.replicate_succ, List.replicate_zero, bindT, bindTs, tupM, List.length_set, Nat.zero_add, o_mulR, o_mulL, CP.small64, o_mod, o_fdiv, o_pow, o_lenL, o_lenN, o_lenT, o_lenF, o_lenD, o_listL, o_listT, o_listF, o_tupL, o_tupT, o_boolI, Bool.and_true, Bool.true_and, Bool.and_self, Int.reduceNeg, Int.reducePow, Int.reduceLT, Int.reduceLE, Int.reduceAdd, Int.reduceToNat, Int.natAbs_natCast, o_add, o_sub, o_lt, o_le, o_gt, o_ge, o_max, o_min, o_eqI, o_eqS, o_neI, o_neS, o_eqB, o_neB, o_is0, o_isI, o_isS, o_isT, o_isB, o_isn0, o_isnI, o_isnS, o_isnT, o_neg, o_abs, o_intI, o_intB, l_lst, l_nst, l_tup, l_flst, l_dct, t_non, t_bl, t_int, t_lst, t_nst, t_tup, t_dct, i_nil, ty_int, ty_str, ty_bl, ty_non, ty_tup, ty_lst, ow_im, ow_lst, ow_nst, ow_dct, ow_dnn, iD_int, if_true, if_false, Bool.false_eq_true, reduceIte, decide_true, decide_false, decide_eq_true_eq, Nat.reduceLT, Nat.reduceAdd, Nat.reduceSub, callA, takeA, putA, fzs, fzM, mkL, imsOf, List.zip_cons_cons, List.zip_nil_left, List.zip_nil_right, true_and, and_true, List.filterMap_cons, List.filterMap_nil, stays, itemsM, seqM, unsetAll, parM, reduceCtorEq, ne_app, pop_app, popN_app, g_last, lm_lst, lm_nst, Bool.not_false, Bool.not_true, List.filterMap_cons, isiM, ite_true, ite_false, u_ow, h9]
  split
  · rename_i h6
    have hg := g_ints (sp := [1, -1, 2, -2, 3, 1]) hs0 (by show s < 6; omega)
    have hg2 : getM (.lst [.int 1, .int (-1), .int 2, .int (-2), .int 3, .int 1]) (.im (.int s)) = some (.im (.int _)) := hg
    simp -implicitDefEqProofs only [xss, CP.xs, CP.ev, CP.evs, takeK, evT, evTs, evA, evI, bor, two, evP, setP, fin_some, fin_none, bindO_some, bindO_none, slot0, slot1, set0, set1, List.map_cons, List.map_nil, List.cons_append, List.nil_append, List.getElem?_cons_zero, List.getElem?_cons_succ, Option.bind_some, Option.map_some, Option.getD_some, id, List.length_cons, List.length_nil, List.replicate_succ, List.replicate_zero, bindT, bindTs, tupM, List.length_set, Nat.zero_add, o_mulR, o_mulL, CP.small64, o_mod, o_fdiv, o_pow, o_lenL, o_lenN, o_lenT, o_lenF, o_lenD, o_listL, o_listT, o_listF, o_tupL, o_tupT, o_boolI, Bool.and_true, Bool.true_and, Bool.and_self, Int.reduceNeg, Int.reducePow, Int.reduceLT, Int.reduceLE, Int.reduceAdd, Int.reduceToNat, Int.natAbs_natCast, o_add, o_sub, o_lt, o_le, o_gt, o_ge, o_max, o_min, o_eqI, o_eqS, o_neI, o_neS, o_eqB, o_neB, o_is0, o_isI, o_isS, o_isT, o_isB, o_isn0, o_isnI, o_isnS, o_isnT, o_neg, o_abs, o_intI, o_intB, l_lst, l_nst, l_tup, l_flst, l_dct, t_non, t_bl, t_int, t_lst, t_nst, t_tup, t_dct, i_nil, ty_int, ty_str, ty_bl, ty_non, ty_tup, ty_lst, ow_im, ow_lst, ow_nst, ow_dct, ow_dnn, iD_int, if_true, if_false, Bool.false_eq_true, reduceIte, decide_true, decide_false, decide_eq_true_eq, Nat.reduceLT, Nat.reduceAdd, Nat.reduceSub, callA, takeA, putA, fzs, fzM, mkL, imsOf, List.zip_cons_cons, List.zip_nil_left, List.zip_nil_right, true_and, and_true, List.filterMap_cons, List.filterMap_nil, stays, itemsM, seqM, unsetAll, parM, reduceCtorEq, ne_app, pop_app, popN_app, g_last, lm_lst, lm_nst, Bool.not_false, Bool.not_true, List.filterMap_cons, isiM, ite_true, ite_false, o_idx hg2]
    exact q _ _ _
  · split
    · refine ⟨l1, a1, g, 4, rfl, by omega, fun s2 l2 a2 hu0 hu1 => ?_⟩
      have hg := g_ints (sp := [99, -99, 10, -7]) hu0 (by show s2 < 4; omega)
      have hg2 : getM (.lst [.int 99, .int (-99), .int 10, .int (-7)]) (.im (.int s2)) = some (.im (.int _)) := hg
      simp -implicitDefEqProofs only [xss, CP.xs, CP.ev, CP.evs, takeK, evT, evTs, evA, evI, bor, two, evP, setP, fin_some, fin_none, bindO_some, bindO_none, slot0, slot1, set0, set1, List.map_cons, List.map_nil, List.cons_append, List.nil_append, List.getElem?_cons_zero, List.getElem?_cons_succ, Option.bind_some, Option.map_some, Option.getD_some, id, List.length_cons, List.length_nil, List.replicate_succ, List.replicate_zero, bindT, bindTs, tupM, List.length_set, Nat.zero_add, o_mulR, o_mulL, CP.small64, o_mod, o_fdiv, o_pow, o_lenL, o_lenN, o_lenT, o_lenF, o_lenD, o_listL, o_listT, o_listF, o_tupL, o_tupT, o_boolI, Bool.and_true, Bool.true_and, Bool.and_self, Int.reduceNeg, Int.reducePow, Int.reduceLT, Int.reduceLE, Int.reduceAdd, Int.reduceToNat, Int.natAbs_natCast, o_add, o_sub, o_lt, o_le, o_gt, o_ge, o_max, o_min, o_eqI, o_eqS, o_neI, o_neS, o_eqB, o_neB, o_is0, o_isI, o_isS, o_isT, o_isB, o_isn0, o_isnI, o_isnS, o_isnT, o_neg, o_abs, o_intI, o_intB, l_lst, l_nst, l_tup, l_flst, l_dct, t_non, t_bl, t_int, t_lst, t_nst, t_tup, t_dct, i_nil, ty_int, ty_str, ty_bl, ty_non, ty_tup, ty_lst, ow_im, ow_lst, ow_nst, ow_dct, ow_dnn, iD_int, if_true, if_false, Bool.false_eq_true, reduceIte, decide_true, decide_false, decide_eq_true_eq, Nat.reduceLT, Nat.reduceAdd, Nat.reduceSub, callA, takeA, putA, fzs, fzM, mkL, imsOf, List.zip_cons_cons, List.zip_nil_left, List.zip_nil_right, true_and, and_true, List.filterMap_cons, List.filterMap_nil, stays, itemsM, seqM, unsetAll, parM, reduceCtorEq, ne_app, pop_app, popN_app, g_last, lm_lst, lm_nst, Bool.not_false, Bool.not_true, List.filterMap_cons, isiM, ite_true, ite_false, u_ow, o_idx hg2]
      exact q _ _ _
    · refine ⟨l1, a1, g, 4, rfl, by omega, fun s2 l2 a2 hu0 hu1 => ?_⟩
      simp -implicitDefEqProofs only [xss, CP.xs, CP.ev, CP.evs, takeK, evT, evTs, evA, evI, bor, two, evP, setP, fin_some, fin_none, bindO_some, bindO_none, slot0, slot1, set0, set1, List.map_cons, List.map_nil, List.cons_append, List.nil_append, List.getElem?_cons_zero, List.getElem?_cons_succ, Option.bind_some, Option.map_some, Option.getD_some, id, List.length_cons, List.length_nil, List.replicate_succ, List.replicate_zero, bindT, bindTs, tupM, List.length_set, Nat.zero_add, o_mulR, o_mulL, CP.small64, o_mod, o_fdiv, o_pow, o_lenL, o_lenN, o_lenT, o_lenF, o_lenD, o_listL, o_listT, o_listF, o_tupL, o_tupT, o_boolI, Bool.and_true, Bool.true_and, Bool.and_self, Int.reduceNeg, Int.reducePow, Int.reduceLT, Int.reduceLE, Int.reduceAdd, Int.reduceToNat, Int.natAbs_natCast, o_add, o_sub, o_lt, o_le, o_gt, o_ge, o_max, o_min, o_eqI, o_eqS, o_neI, o_neS, o_eqB, o_neB, o_is0, o_isI, o_isS, o_isT, o_isB, o_isn0, o_isnI, o_isnS, o_isnT, o_neg, o_abs, o_intI, o_intB, l_lst, l_nst, l_tup, l_flst, l_dct, t_non, t_bl, t_int, t_lst, t_nst, t_tup, t_dct, i_nil, ty_int, ty_str, ty_bl, ty_non, ty_tup, ty_lst, ow_im, ow_lst, ow_nst, ow_dct, ow_dnn, iD_int, if_true, if_false, Bool.false_eq_true, reduceIte, decide_true, decide_false, decide_eq_true_eq, Nat.reduceLT, Nat.reduceAdd, Nat.reduceSub, callA, takeA, putA, fzs, fzM, mkL, imsOf, List.zip_cons_cons, List.zip_nil_left, List.zip_nil_right, true_and, and_true, List.filterMap_cons, List.filterMap_nil, stays, itemsM, seqM, unsetAll, parM, reduceCtorEq, ne_app, pop_app, popN_app, g_last, lm_lst, lm_nst, Bool.not_false, Bool.not_true, List.filterMap_cons, isiM, ite_true, ite_false, u_ow]
      exact q _ _ _
def rngSp : CP.Sp := fun ms Q E => ∃ l a g, ms = [urnM l a g] ∧ ∀ lo hi l' a', Q (.im (.tup [.int lo, .int hi])) [some (urnM l' a' g)]
theorem rng_ok {Γ : Nat → CP.Sp} (h9 : Γ 9 = sipSp) : ∀ ms Q E, rngSp ms Q E → bodySp p12.length n12.length A12 (xss G Γ b12) ms Q E := by
  rintro ms Q E ⟨l, a, g, rfl, q⟩
  refine ⟨rfl, ?_⟩
  simp -implicitDefEqProofs only [xss, CP.xs, CP.ev, CP.evs, takeK, evT, evTs, evA, evI, bor, two, evP, setP, fin_some, fin_none, bindO_some, bindO_none, slot0, slot1, set0, set1, List.map_cons, List.map_nil, List.cons_append, List.nil_append, List.getElem?_cons_zero, List.getElem?_cons_succ, Option.bind_some, Option.map_some, Option.getD_some, id, List.length_cons, List.length_nil, List.replicate_succ, List.replicate_zero, bindT, bindTs, tupM, List.length_set, Nat.zero_add, o_mulR, o_mulL, CP.small64, o_mod, o_fdiv, o_pow, o_lenL, o_lenN, o_lenT, o_lenF, o_lenD, o_listL, o_listT, o_listF, o_tupL, o_tupT, o_boolI, Bool.and_true, Bool.true_and, Bool.and_self, Int.reduceNeg, Int.reducePow, Int.reduceLT, Int.reduceLE, Int.reduceAdd, Int.reduceToNat, Int.natAbs_natCast, o_add, o_sub, o_lt, o_le, o_gt, o_ge, o_max, o_min, o_eqI, o_eqS, o_neI, o_neS, o_eqB, o_neB, o_is0, o_isI, o_isS, o_isT, o_isB, o_isn0, o_isnI, o_isnS, o_isnT, o_neg, o_abs, o_intI, o_intB, l_lst, l_nst, l_tup, l_flst, l_dct, t_non, t_bl, t_int, t_lst, t_nst, t_tup, t_dct, i_nil, ty_int, ty_str, ty_bl, ty_non, ty_tup, ty_lst, ow_im, ow_lst, ow_nst, ow_dct, ow_dnn, iD_int, if_true, if_false, Bool.false_eq_true, reduceIte, decide_true, decide_false, decide_eq_true_eq, Nat.reduceLT, Nat.reduceAdd, Nat.reduceSub, callA, takeA, putA, fzs, fzM, mkL, imsOf, List.zip_cons_cons, List.zip_nil_left, List.zip_nil_right, true_and, and_true, List.filterMap_cons, List.filterMap_nil, stays, itemsM, seqM, unsetAll, parM, reduceCtorEq, ne_app, pop_app, popN_app, g_last, lm_lst, lm_nst, Bool.not_false, Bool.not_true, List.filterMap_cons, isiM, ite_true, ite_false, h9, u_ow]
  refine ⟨l, a, g, 6, rfl, by omega, fun s l1 a1 hs0 hs1 => ?_⟩
  have hg : ∃ x y, getM (.lst [.tup [.int (-4), .int 9], .tup [.int 0, .int 1], .tup [.int 0, .int 3], .tup [.int (-9999), .int 9999], .tup [.int 5, .int 7], .tup [.int (-3), .int (-1)]]) (.im (.int s)) = some (.im (.tup [.int x, .int y])) := by
    have : s = 0 ∨ s = 1 ∨ s = 2 ∨ s = 3 ∨ s = 4 ∨ s = 5 := by omega
    rcases this with rfl | rfl | rfl | rfl | rfl | rfl <;> exact ⟨_, _, rfl⟩
  obtain ⟨x, y, hg⟩ := hg
  simp -implicitDefEqProofs only [xss, CP.xs, CP.ev, CP.evs, takeK, evT, evTs, evA, evI, bor, two, evP, setP, fin_some, fin_none, bindO_some, bindO_none, slot0, slot1, set0, set1, List.map_cons, List.map_nil, List.cons_append, List.nil_append, List.getElem?_cons_zero, List.getElem?_cons_succ, Option.bind_some, Option.map_some, Option.getD_some, id, List.length_cons, List.length_nil, List.replicate_succ, List.replicate_zero, bindT, bindTs, tupM, List.length_set, Nat.zero_add, o_mulR, o_mulL, CP.small64, o_mod, o_fdiv, o_pow, o_lenL, o_lenN, o_lenT, o_lenF, o_lenD, o_listL, o_listT, o_listF, o_tupL, o_tupT, o_boolI, Bool.and_true, Bool.true_and, Bool.and_self, Int.reduceNeg, Int.reducePow, Int.reduceLT, Int.reduceLE, Int.reduceAdd, Int.reduceToNat, Int.natAbs_natCast, o_add, o_sub, o_lt, o_le, o_gt, o_ge, o_max, o_min, o_eqI, o_eqS, o_neI, o_neS, o_eqB, o_neB, o_is0, o_isI, o_isS, o_isT, o_isB, o_isn0, o_isnI, o_isnS, o_isnT, o_neg, o_abs, o_intI, o_intB, l_lst, l_nst, l_tup, l_flst, l_dct, t_non, t_bl, t_int, t_lst, t_nst, t_tup, t_dct, i_nil, ty_int, ty_str, ty_bl, ty_non, ty_tup, ty_lst, ow_im, ow_lst, ow_nst, ow_dct, ow_dnn, iD_int, if_true, if_false, Bool.false_eq_true, reduceIte, decide_true, decide_false, decide_eq_true_eq, Nat.reduceLT, Nat.reduceAdd, Nat.reduceSub, callA, takeA, putA, fzs, fzM, mkL, imsOf, List.zip_cons_cons, List.zip_nil_left, List.zip_nil_right, true_and, and_true, List.filterMap_cons, List.filterMap_nil, stays, itemsM, seqM, unsetAll, parM, reduceCtorEq, ne_app, pop_app, popN_app, g_last, lm_lst, lm_nst, Bool.not_false, Bool.not_true, List.filterMap_cons, isiM, ite_true, ite_false, u_ow, o_idx hg, h9]
  refine ⟨l1, a1, g, 3, rfl, by omega, fun s2 l2 a2 hu0 hu1 => ?_⟩
  simp -implicitDefEqProofs only [xss, CP.xs, CP.ev, CP.evs, takeK, evT, evTs, evA, evI, bor, two, evP, setP, fin_some, fin_none, bindO_some, bindO_none, slot0, slot1, set0, set1, List.map_cons, List.map_nil, List.cons_append, List.nil_append, List.getElem?_cons_zero, List.getElem?_cons_succ, Option.bind_some, Option.map_some, Option.getD_some, id, List.length_cons, List.length_nil, List.replicate_succ, List.replicate_zero, bindT, bindTs, tupM, List.length_set, Nat.zero_add, o_mulR, o_mulL, CP.small64, o_mod, o_fdiv, o_pow, o_lenL, o_lenN, o_lenT, o_lenF, o_lenD, o_listL, o_listT, o_listF, o_tupL, o_tupT, o_boolI, Bool.and_true, Bool.true_and, Bool.and_self, Int.reduceNeg, Int.reducePow, Int.reduceLT, Int.reduceLE, Int.reduceAdd, Int.reduceToNat, Int.natAbs_natCast, o_add, o_sub, o_lt, o_le, o_gt, o_ge, o_max, o_min, o_eqI, o_eqS, o_neI, o_neS, o_eqB, o_neB, o_is0, o_isI, o_isS, o_isT, o_isB, o_isn0, o_isnI, o_isnS, o_isnT, o_neg, o_abs, o_intI, o_intB, l_lst, l_nst, l_tup, l_flst, l_dct, t_non, t_bl, t_int, t_lst, t_nst, t_tup, t_dct, i_nil, ty_int, ty_str, ty_bl, ty_non, ty_tup, ty_lst, ow_im, ow_lst, ow_nst, ow_dct, ow_dnn, iD_int, if_true, if_false, Bool.false_eq_true, reduceIte, decide_true, decide_false, decide_eq_true_eq, Nat.reduceLT, Nat.reduceAdd, Nat.reduceSub, callA, takeA, putA, fzs, fzM, mkL, imsOf, List.zip_cons_cons, List.zip_nil_left, List.zip_nil_right, true_and, and_true, List.filterMap_cons, List.filterMap_nil, stays, itemsM, seqM, unsetAll, parM, reduceCtorEq, ne_app, pop_app, popN_app, g_last, lm_lst, lm_nst, Bool.not_false, Bool.not_true, List.filterMap_cons, isiM, ite_true, ite_false, u_ow, o_mulIB]
  exact q _ _ _ _
end K10
namespace K10
open PySem PySem.Spec PyProof.Rows L2 CP
/-! ### terms -/
def kvT (fs : List Tm) : List (List Key × D) := fs.map fun t => ([.inl t.1, .inl t.2.1], .int t.2.2)
def TmOk (total deep : Int) (t : Tm) : Prop := (0 ≤ t.1 ∧ t.1 < total) ∧ 0 ≤ t.2.1 ∧ t.2.1 ≤ deep
theorem kput_kvT {fs : List Tm} {s a w total deep : Int} (h : ∀ t ∈ fs, TmOk total deep t) (hn : TmOk total deep (s, a, w)) : ∃ fs' : List Tm, kput (kvT fs) [.inl s, .inl a] (D.int w) = kvT fs' ∧ (∀ t ∈ fs', TmOk total deep t) ∧ fs'.length ≤ fs.length + 1 := by
  unfold kput
  split
  · refine ⟨fs.map fun t => if t.1 = s ∧ t.2.1 = a then (t.1, t.2.1, w) else t, ?_, fun t ht => ?_, by simp⟩
    · unfold kvT
      rw [List.map_map, List.map_map]
      refine List.map_congr_left fun t _ => ?_
      simp -implicitDefEqProofs only [Function.comp_apply]
      by_cases e : t.1 = s ∧ t.2.1 = a
      · rw [if_pos e, if_pos (by rw [e.1, e.2])]
      · rw [if_neg e, if_neg (fun q => e (by simpa using q))]
    · obtain ⟨u, hu, rfl⟩ := List.mem_map.mp ht
      by_cases e : u.1 = s ∧ u.2.1 = a
      · rw [if_pos e]; exact h u hu
      · rw [if_neg e]; exact h u hu
  · exact ⟨fs ++ [(s, a, w)], by unfold kvT; rw [List.map_append]; rfl, fun t ht => (List.mem_append.mp ht).elim (h t) fun z => by rw [List.mem_singleton.mp z]; exact hn, by simp⟩
theorem s_kvT {fs : List Tm} {s a w : Int} (h : fs.length < 1000) : setM (.dcT (kvT fs)) (.im (.tup [.int s, .int a])) (.im (.int w)) = some (.dcT (kput (kvT fs) [.inl s, .inl a] (.int w))) := by
  have hl : (kvT fs).length < sizeLine := by rw [sizeLine_eq]; unfold kvT; rw [List.length_map]; omega
  simp -implicitDefEqProofs only [setM, if_pos hl, keysOf, CP.keyOf, Option.bind_some, Option.map_some]
theorem g_kvT {fs : List Tm} {t : Tm} (h : t ∈ fs) : ∃ w, getM (.dcT (kvT fs)) (.im (.tup [.int t.1, .int t.2.1])) = some (.im (.int w)) := by
  have : ∃ w, kget (kvT fs) [.inl t.1, .inl t.2.1] = some (.int w) := by
    unfold kget kvT
    cases q : (fs.map fun t => (([.inl t.1, .inl t.2.1], .int t.2.2) : List Key × D)).find? (fun kv => decide (kv.1 = [.inl t.1, .inl t.2.1])) with
    | none =>
      have := List.find?_eq_none.mp q _ (List.mem_map.mpr ⟨t, h, rfl⟩)
      simp at this
    | some x =>
      obtain ⟨u, _, rfl⟩ := List.mem_map.mp (List.mem_of_find?_eq_some q)
      exact ⟨u.2.2, rfl⟩
  obtain ⟨w, hw⟩ := this
  exact ⟨w, by simp -implicitDefEqProofs only [getM, keysOf, CP.keyOf, Option.bind_some, Option.map_some, hw]⟩
theorem t_loop {Γ : Nat → CP.Sp} (h9 : Γ 9 = sipSp) (h11 : Γ 11 = gainSp) {Kk : Ks} {total own deep : Int} {P3 : Option M} {g : List Int} (ht : 0 < total) (ho : 0 < own ∧ own ≤ total) (hd : 0 ≤ deep) : ∀ (ks : List Int) (l : Int) (a : Nat) (fs : List Tm) (x y z : Option M), fs.length + ks.length ≤ 900 → (∀ t ∈ fs, TmOk total deep t) →
    (∀ l a fs' x y z, (∀ t ∈ fs', TmOk total deep t) → fs'.length ≤ fs.length + ks.length → Kk.nx [some (urnM l a g), some (.im (.int total)), some (.im (.int own)), P3, some (.im (.int deep)), some (.dcT (kvT fs')), x, y, z]) →
    forR (fun _ => True) (fun d s => bindT t13_2 (.im d) s) (xss G Γ l13_1) Kk (ks.map .int) [some (urnM l a g), some (.im (.int total)), some (.im (.int own)), P3, some (.im (.int deep)), some (.dcT (kvT fs)), x, y, z]
  | [], l, a, fs, x, y, z, _, hf, q => q l a fs x y z hf (by simp)
  | k :: ks, l, a, fs, x, y, z, hl, hf, q => by
    have ih := fun l a fs' x y z h1 (h2 : fs'.length ≤ fs.length + 1) => t_loop (Γ := Γ) (Kk := Kk) (P3 := P3) (g := g) h9 h11 ht ho hd ks l a fs' x y z (by rw [List.length_cons] at hl; omega) h1 (fun l a fs2 x y z g1 g2 => q l a fs2 x y z g1 (by rw [List.length_cons]; omega))
    rw [List.map_cons, for_cons]
    generalize forR (fun _ => True) (fun d s => bindT t13_2 (.im d) s) (xss G Γ l13_1) Kk (ks.map D.int) = W at ih ⊢
    have hlt : fs.length < 1000 := by rw [List.length_cons] at hl; omega
    simp -implicitDefEqProofs only [t13_2, l13_1, xss, CP.xs, CP.ev, CP.evs, takeK, evT, evTs, evA, evI, bor, two, evP, setP, fin_some, fin_none, bindO_some, bindO_none, slot0, slot1, set0, set1, List.map_cons, List.map_nil, List.cons_append, List.nil_append, List.getElem?_cons_zero, List.getElem?_cons_succ, Option.bind_some, Option.map_some, Option.getD_some, id, List.length_cons, List.length_nil, List.replicate_succ, List.replicate_zero, bindT, bindTs, tupM, List.length_set, Nat.zero_add, o_mulR, o_mulL, CP.small64, o_mod, o_fdiv, o_pow, o_lenL, o_lenN, o_lenT, o_lenF, o_lenD, o_listL, o_listT, o_listF, o_tupL, o_tupT, o_boolI, Bool.and_true, Bool.true_and, Bool.and_self, Int.reduceNeg, Int.reducePow, Int.reduceLT, Int.reduceLE, Int.reduceAdd, Int.reduceToNat, Int.natAbs_natCast, o_add, o_sub, o_lt, o_le, o_gt, o_ge, o_max, o_min, o_eqI, o_eqS, o_neI, o_neS, o_eqB, o_neB, o_is0, o_isI, o_isS, o_isT, o_isB, o_isn0, o_isnI, o_isnS, o_isnT, o_neg, o_abs, o_intI, o_intB, l_lst, l_nst, l_tup, l_flst, l_dct, t_non, t_bl, t_int, t_lst, t_nst, t_tup, t_dct, i_nil, ty_int, ty_str, ty_bl, ty_non, ty_tup, ty_lst, ow_im, ow_lst, ow_nst, ow_dct, ow_dnn, iD_int, if_true, if_false, Bool.false_eq_true, reduceIte, decide_true, decide_false, decide_eq_true_eq, Nat.reduceLT, Nat.reduceAdd, Nat.reduceSub, callA, takeA, putA, fzs, fzM, mkL, imsOf, List.zip_cons_cons, List.zip_nil_left, List.zip_nil_right, true_and, and_true, List.filterMap_cons, List.filterMap_nil, stays, itemsM, seqM, unsetAll, parM, reduceCtorEq, ne_app, pop_app, popN_app, g_last, lm_lst, lm_nst, Bool.not_false, Bool.not_true, List.filterMap_cons, isiM, ite_true, ite_false, u_ow, h9]
    refine ⟨l, a, g, total, rfl, ht, fun s l1 a1 hs0 hs1 => ?_⟩
    simp -implicitDefEqProofs only [xss, CP.xs, CP.ev, CP.evs, takeK, evT, evTs, evA, evI, bor, two, evP, setP, fin_some, fin_none, bindO_some, bindO_none, slot0, slot1, set0, set1, List.map_cons, List.map_nil, List.cons_append, List.nil_append, List.getElem?_cons_zero, List.getElem?_cons_succ, Option.bind_some, Option.map_some, Option.getD_some, id, List.length_cons, List.length_nil, List.replicate_succ, List.replicate_zero, bindT, bindTs, tupM, List.length_set, Nat.zero_add, o_mulR, o_mulL, CP.small64, o_mod, o_fdiv, o_pow, o_lenL, o_lenN, o_lenT, o_lenF, o_lenD, o_listL, o_listT, o_listF, o_tupL, o_tupT, o_boolI, Bool.and_true, Bool.true_and, Bool.and_self, Int.reduceNeg, Int.reducePow, Int.reduceLT, Int.reduceLE, Int.reduceAdd, Int.reduceToNat, Int.natAbs_natCast, o_add, o_sub, o_lt, o_le, o_gt, o_ge, o_max, o_min, o_eqI, o_eqS, o_neI, o_neS, o_eqB, o_neB, o_is0, o_isI, o_isS, o_isT, o_isB, o_isn0, o_isnI, o_isnS, o_isnT, o_neg, o_abs, o_intI, o_intB, l_lst, l_nst, l_tup, l_flst, l_dct, t_non, t_bl, t_int, t_lst, t_nst, t_tup, t_dct, i_nil, ty_int, ty_str, ty_bl, ty_non, ty_tup, ty_lst, ow_im, ow_lst, ow_nst, ow_dct, ow_dnn, iD_int, if_true, if_false, Bool.false_eq_true, reduceIte, decide_true, decide_false, decide_eq_true_eq, Nat.reduceLT, Nat.reduceAdd, Nat.reduceSub, callA, takeA, putA, fzs, fzM, mkL, imsOf, List.zip_cons_cons, List.zip_nil_left, List.zip_nil_right, true_and, and_true, List.filterMap_cons, List.filterMap_nil, stays, itemsM, seqM, unsetAll, parM, reduceCtorEq, ne_app, pop_app, popN_app, g_last, lm_lst, lm_nst, Bool.not_false, Bool.not_true, List.filterMap_cons, isiM, ite_true, ite_false, u_ow, h9]
    refine ⟨l1, a1, g, deep + 1, rfl, by omega, fun b l2 a2 hb0 hb1 => ?_⟩
    simp -implicitDefEqProofs only [xss, CP.xs, CP.ev, CP.evs, takeK, evT, evTs, evA, evI, bor, two, evP, setP, fin_some, fin_none, bindO_some, bindO_none, slot0, slot1, set0, set1, List.map_cons, List.map_nil, List.cons_append, List.nil_append, List.getElem?_cons_zero, List.getElem?_cons_succ, Option.bind_some, Option.map_some, Option.getD_some, id, List.length_cons, List.length_nil, List.replicate_succ, List.replicate_zero, bindT, bindTs, tupM, List.length_set, Nat.zero_add, o_mulR, o_mulL, CP.small64, o_mod, o_fdiv, o_pow, o_lenL, o_lenN, o_lenT, o_lenF, o_lenD, o_listL, o_listT, o_listF, o_tupL, o_tupT, o_boolI, Bool.and_true, Bool.true_and, Bool.and_self, Int.reduceNeg, Int.reducePow, Int.reduceLT, Int.reduceLE, Int.reduceAdd, Int.reduceToNat, Int.natAbs_natCast, o_add, o_sub, o_lt, o_le, o_gt, o_ge, o_max, o_min, o_eqI, o_eqS, o_neI, o_neS, o_eqB, o_neB, o_is0, o_isI, o_isS, o_isT, o_isB, o_isn0, o_isnI, o_isnS, o_isnT, o_neg, o_abs, o_intI, o_intB, l_lst, l_nst, l_tup, l_flst, l_dct, t_non, t_bl, t_int, t_lst, t_nst, t_tup, t_dct, i_nil, ty_int, ty_str, ty_bl, ty_non, ty_tup, ty_lst, ow_im, ow_lst, ow_nst, ow_dct, ow_dnn, iD_int, if_true, if_false, Bool.false_eq_true, reduceIte, decide_true, decide_false, decide_eq_true_eq, Nat.reduceLT, Nat.reduceAdd, Nat.reduceSub, callA, takeA, putA, fzs, fzM, mkL, imsOf, List.zip_cons_cons, List.zip_nil_left, List.zip_nil_right, true_and, and_true, List.filterMap_cons, List.filterMap_nil, stays, itemsM, seqM, unsetAll, parM, reduceCtorEq, ne_app, pop_app, popN_app, g_last, lm_lst, lm_nst, Bool.not_false, Bool.not_true, List.filterMap_cons, isiM, ite_true, ite_false, u_ow, h9, h11]
    split
    · split
      · refine ⟨l2, a2, g, own, rfl, ho.1, fun s' l3 a3 hv0 hv1 => ?_⟩
        simp -implicitDefEqProofs only [xss, CP.xs, CP.ev, CP.evs, takeK, evT, evTs, evA, evI, bor, two, evP, setP, fin_some, fin_none, bindO_some, bindO_none, slot0, slot1, set0, set1, List.map_cons, List.map_nil, List.cons_append, List.nil_append, List.getElem?_cons_zero, List.getElem?_cons_succ, Option.bind_some, Option.map_some, Option.getD_some, id, List.length_cons, List.length_nil, List.replicate_succ, List.replicate_zero, bindT, bindTs, tupM, List.length_set, Nat.zero_add, o_mulR, o_mulL, CP.small64, o_mod, o_fdiv, o_pow, o_lenL, o_lenN, o_lenT, o_lenF, o_lenD, o_listL, o_listT, o_listF, o_tupL, o_tupT, o_boolI, Bool.and_true, Bool.true_and, Bool.and_self, Int.reduceNeg, Int.reducePow, Int.reduceLT, Int.reduceLE, Int.reduceAdd, Int.reduceToNat, Int.natAbs_natCast, o_add, o_sub, o_lt, o_le, o_gt, o_ge, o_max, o_min, o_eqI, o_eqS, o_neI, o_neS, o_eqB, o_neB, o_is0, o_isI, o_isS, o_isT, o_isB, o_isn0, o_isnI, o_isnS, o_isnT, o_neg, o_abs, o_intI, o_intB, l_lst, l_nst, l_tup, l_flst, l_dct, t_non, t_bl, t_int, t_lst, t_nst, t_tup, t_dct, i_nil, ty_int, ty_str, ty_bl, ty_non, ty_tup, ty_lst, ow_im, ow_lst, ow_nst, ow_dct, ow_dnn, iD_int, if_true, if_false, Bool.false_eq_true, reduceIte, decide_true, decide_false, decide_eq_true_eq, Nat.reduceLT, Nat.reduceAdd, Nat.reduceSub, callA, takeA, putA, fzs, fzM, mkL, imsOf, List.zip_cons_cons, List.zip_nil_left, List.zip_nil_right, true_and, and_true, List.filterMap_cons, List.filterMap_nil, stays, itemsM, seqM, unsetAll, parM, reduceCtorEq, ne_app, pop_app, popN_app, g_last, lm_lst, lm_nst, Bool.not_false, Bool.not_true, List.filterMap_cons, isiM, ite_true, ite_false, u_ow, h11]
        refine ⟨l3, a3, g, rfl, fun w l4 a4 => ?_⟩
        obtain ⟨fs', e1, e2, e3⟩ := kput_kvT (w := w) hf (show TmOk total deep (s', b, w) from ⟨⟨hv0, by show s' < total; omega⟩, hb0, by show b ≤ deep; omega⟩)
        simp -implicitDefEqProofs only [xss, CP.xs, CP.ev, CP.evs, takeK, evT, evTs, evA, evI, bor, two, evP, setP, fin_some, fin_none, bindO_some, bindO_none, slot0, slot1, set0, set1, List.map_cons, List.map_nil, List.cons_append, List.nil_append, List.getElem?_cons_zero, List.getElem?_cons_succ, Option.bind_some, Option.map_some, Option.getD_some, id, List.length_cons, List.length_nil, List.replicate_succ, List.replicate_zero, bindT, bindTs, tupM, List.length_set, Nat.zero_add, o_mulR, o_mulL, CP.small64, o_mod, o_fdiv, o_pow, o_lenL, o_lenN, o_lenT, o_lenF, o_lenD, o_listL, o_listT, o_listF, o_tupL, o_tupT, o_boolI, Bool.and_true, Bool.true_and, Bool.and_self, Int.reduceNeg, Int.reducePow, Int.reduceLT, Int.reduceLE, Int.reduceAdd, Int.reduceToNat, Int.natAbs_natCast, o_add, o_sub, o_lt, o_le, o_gt, o_ge, o_max, o_min, o_eqI, o_eqS, o_neI, o_neS, o_eqB, o_neB, o_is0, o_isI, o_isS, o_isT, o_isB, o_isn0, o_isnI, o_isnS, o_isnT, o_neg, o_abs, o_intI, o_intB, l_lst, l_nst, l_tup, l_flst, l_dct, t_non, t_bl, t_int, t_lst, t_nst, t_tup, t_dct, i_nil, ty_int, ty_str, ty_bl, ty_non, ty_tup, ty_lst, ow_im, ow_lst, ow_nst, ow_dct, ow_dnn, iD_int, if_true, if_false, Bool.false_eq_true, reduceIte, decide_true, decide_false, decide_eq_true_eq, Nat.reduceLT, Nat.reduceAdd, Nat.reduceSub, callA, takeA, putA, fzs, fzM, mkL, imsOf, List.zip_cons_cons, List.zip_nil_left, List.zip_nil_right, true_and, and_true, List.filterMap_cons, List.filterMap_nil, stays, itemsM, seqM, unsetAll, parM, reduceCtorEq, ne_app, pop_app, popN_app, g_last, lm_lst, lm_nst, Bool.not_false, Bool.not_true, List.filterMap_cons, isiM, ite_true, ite_false, u_ow, s_kvT hlt, e1]
        exact ih _ _ _ _ _ _ e2 e3
      · refine ⟨l2, a2, g, rfl, fun w l4 a4 => ?_⟩
        obtain ⟨fs', e1, e2, e3⟩ := kput_kvT (w := w) hf (show TmOk total deep (s, b, w) from ⟨⟨hs0, hs1⟩, hb0, by show b ≤ deep; omega⟩)
        simp -implicitDefEqProofs only [xss, CP.xs, CP.ev, CP.evs, takeK, evT, evTs, evA, evI, bor, two, evP, setP, fin_some, fin_none, bindO_some, bindO_none, slot0, slot1, set0, set1, List.map_cons, List.map_nil, List.cons_append, List.nil_append, List.getElem?_cons_zero, List.getElem?_cons_succ, Option.bind_some, Option.map_some, Option.getD_some, id, List.length_cons, List.length_nil, List.replicate_succ, List.replicate_zero, bindT, bindTs, tupM, List.length_set, Nat.zero_add, o_mulR, o_mulL, CP.small64, o_mod, o_fdiv, o_pow, o_lenL, o_lenN, o_lenT, o_lenF, o_lenD, o_listL, o_listT, o_listF, o_tupL, o_tupT, o_boolI, Bool.and_true, Bool.true_and, Bool.and_self, Int.reduceNeg, Int.reducePow, Int.reduceLT, Int.reduceLE, Int.reduceAdd, Int.reduceToNat, Int.natAbs_natCast, o_add, o_sub, o_lt, o_le, o_gt, o_ge, o_max, o_min, o_eqI, o_eqS, o_neI, o_neS, o_eqB, o_neB, o_is0, o_isI, o_isS, o_isT, o_isB, o_isn0, o_isnI, o_isnS, o_isnT, o_neg, o_abs, o_intI, o_intB, l_lst, l_nst, l_tup, l_flst, l_dct, t_non, t_bl, t_int, t_lst, t_nst, t_tup, t_dct, i_nil, ty_int, ty_str, ty_bl, ty_non, ty_tup, ty_lst, ow_im, ow_lst, ow_nst, ow_dct, ow_dnn, iD_int, if_true, if_false, Bool.false_eq_true, reduceIte, decide_true, decide_false, decide_eq_true_eq, Nat.reduceLT, Nat.reduceAdd, Nat.reduceSub, callA, takeA, putA, fzs, fzM, mkL, imsOf, List.zip_cons_cons, List.zip_nil_left, List.zip_nil_right, true_and, and_true, List.filterMap_cons, List.filterMap_nil, stays, itemsM, seqM, unsetAll, parM, reduceCtorEq, ne_app, pop_app, popN_app, g_last, lm_lst, lm_nst, Bool.not_false, Bool.not_true, List.filterMap_cons, isiM, ite_true, ite_false, u_ow, s_kvT hlt, e1]
        exact ih _ _ _ _ _ _ e2 e3
    · refine ⟨l2, a2, g, rfl, fun w l4 a4 => ?_⟩
      obtain ⟨fs', e1, e2, e3⟩ := kput_kvT (w := w) hf (show TmOk total deep (s, b, w) from ⟨⟨hs0, hs1⟩, hb0, by show b ≤ deep; omega⟩)
      simp -implicitDefEqProofs only [xss, CP.xs, CP.ev, CP.evs, takeK, evT, evTs, evA, evI, bor, two, evP, setP, fin_some, fin_none, bindO_some, bindO_none, slot0, slot1, set0, set1, List.map_cons, List.map_nil, List.cons_append, List.nil_append, List.getElem?_cons_zero, List.getElem?_cons_succ, Option.bind_some, Option.map_some, Option.getD_some, id, List.length_cons, List.length_nil, List.replicate_succ, List.replicate_zero, bindT, bindTs, tupM, List.length_set, Nat.zero_add, o_mulR, o_mulL, CP.small64, o_mod, o_fdiv, o_pow, o_lenL, o_lenN, o_lenT, o_lenF, o_lenD, o_listL, o_listT, o_listF, o_tupL, o_tupT, o_boolI, Bool.and_true, Bool.true_and, Bool.and_self, Int.reduceNeg, Int.reducePow, Int.reduceLT, Int.reduceLE, Int.reduceAdd, Int.reduceToNat, Int.natAbs_natCast, o_add, o_sub, o_lt, o_le, o_gt, o_ge, o_max, o_min, o_eqI, o_eqS, o_neI, o_neS, o_eqB, o_neB, o_is0, o_isI, o_isS, o_isT, o_isB, o_isn0, o_isnI, o_isnS, o_isnT, o_neg, o_abs, o_intI, o_intB, l_lst, l_nst, l_tup, l_flst, l_dct, t_non, t_bl, t_int, t_lst, t_nst, t_tup, t_dct, i_nil, ty_int, ty_str, ty_bl, ty_non, ty_tup, ty_lst, ow_im, ow_lst, ow_nst, ow_dct, ow_dnn, iD_int, if_true, if_false, Bool.false_eq_true, reduceIte, decide_true, decide_false, decide_eq_true_eq, Nat.reduceLT, Nat.reduceAdd, Nat.reduceSub, callA, takeA, putA, fzs, fzM, mkL, imsOf, List.zip_cons_cons, List.zip_nil_left, List.zip_nil_right, true_and, and_true, List.filterMap_cons, List.filterMap_nil, stays, itemsM, seqM, unsetAll, parM, reduceCtorEq, ne_app, pop_app, popN_app, g_last, lm_lst, lm_nst, Bool.not_false, Bool.not_true, List.filterMap_cons, isiM, ite_true, ite_false, u_ow, s_kvT hlt, e1]
      exact ih _ _ _ _ _ _ e2 e3
theorem lift_list {α β : Type} {F : α → β} {P : α → Prop} : ∀ {es : List β}, (∀ e ∈ es, ∃ t, P t ∧ e = F t) → ∃ us : List α, es = us.map F ∧ ∀ t ∈ us, P t
  | [], _ => ⟨[], rfl, fun t h => nomatch h⟩
  | e :: es, h => by
    obtain ⟨t, ht, rfl⟩ := h e (by simp)
    obtain ⟨us, rfl, hu⟩ := lift_list (es := es) fun e he => h e (by simp [he])
    exact ⟨t :: us, rfl, fun x hx => by
      rcases List.mem_cons.mp hx with rfl | hx
      · exact ht
      · exact hu x hx⟩
theorem tk_kvT {fs : List Tm} : op1M .tkeys (.dcT (kvT fs)) = some (.lst (fs.map fun t => .tup [.int t.1, .int t.2.1])) := by
  simp -implicitDefEqProofs only [op1M, kvT, List.map_map]
  rfl
def trmSp : CP.Sp := fun ms Q E => ∃ l a g total own most deep, ms = [urnM l a g, .im (.int total), .im (.int own), .im (.int most), .im (.int deep)] ∧ (0 < total ∧ total ≤ 60) ∧ (0 < own ∧ own ≤ total) ∧ (0 ≤ most ∧ most ≤ 20) ∧ (0 ≤ deep ∧ deep ≤ 8) ∧
  ∀ (ts : List Tm) l' a' o2 o3 o4 o5, (∀ t ∈ ts, TmOk total deep t) → (ts.length : Int) ≤ most → Q (.im (.tup (ts.map tmD))) [some (urnM l' a' g), o2, o3, o4, o5]
theorem lc_map2 {α : Type} {J : CP.Env → Prop} {bind : D → CP.Env → Option CP.Env} {te : CP.TE} {own : List Nat} {E : QX} {Q : QM} {σ σ0 : CP.Env} {Γ : Nat → CP.Sp} (F g : α → D) (h1 : unsetAll σ own = σ0) (h0 : unsetAll σ0 own = σ0) (hJ : J σ0) (xs : List α)
    (hs : ∀ x ∈ xs, ∀ (K : M → CP.Env → Prop), K (.im (g x)) σ0 → bindO (bind (F x) σ0) fun σ1 => te σ1 (fun m σ3 => K m (unsetAll σ3 own)) E) (hl : xs.length < 16777216) (q : Q (.lst (xs.map g)) σ0) (q1 : xs = [] → Q (.lst (xs.map g)) σ) : lcR J bind (evTs G Γ .nil) te own E (xs.map F) [] σ Q := by
  cases xs with
  | nil => exact q1 rfl
  | cons x xs =>
    have := lc_map (G := G) (Γ := Γ) F g h0 hJ (x :: xs) hs hl q
    rw [List.map_cons, lc_cons] at this ⊢
    rw [h0] at this
    rw [h1]
    exact this
theorem ow_dcT {kvs : List (List Key × D)} : owned (.dcT kvs) = true := rfl
theorem trm_ok {Γ : Nat → CP.Sp} (h9 : Γ 9 = sipSp) (h11 : Γ 11 = gainSp) : ∀ ms Q E, trmSp ms Q E → bodySp p13.length n13.length A13 (xss G Γ b13) ms Q E := by
  rintro ms Q E ⟨l, a, g, total, own, most, deep, rfl, ht, ho, hm, hd, q⟩
  refine ⟨rfl, ?_⟩
  simp -implicitDefEqProofs only [xss, CP.xs, CP.ev, CP.evs, takeK, evT, evTs, evA, evI, bor, two, evP, setP, fin_some, fin_none, bindO_some, bindO_none, slot0, slot1, set0, set1, List.map_cons, List.map_nil, List.cons_append, List.nil_append, List.getElem?_cons_zero, List.getElem?_cons_succ, Option.bind_some, Option.map_some, Option.getD_some, id, List.length_cons, List.length_nil, List.replicate_succ, List.replicate_zero, bindT, bindTs, tupM, List.length_set, Nat.zero_add, o_mulR, o_mulL, CP.small64, o_mod, o_fdiv, o_pow, o_lenL, o_lenN, o_lenT, o_lenF, o_lenD, o_listL, o_listT, o_listF, o_tupL, o_tupT, o_boolI, Bool.and_true, Bool.true_and, Bool.and_self, Int.reduceNeg, Int.reducePow, Int.reduceLT, Int.reduceLE, Int.reduceAdd, Int.reduceToNat, Int.natAbs_natCast, o_add, o_sub, o_lt, o_le, o_gt, o_ge, o_max, o_min, o_eqI, o_eqS, o_neI, o_neS, o_eqB, o_neB, o_is0, o_isI, o_isS, o_isT, o_isB, o_isn0, o_isnI, o_isnS, o_isnT, o_neg, o_abs, o_intI, o_intB, l_lst, l_nst, l_tup, l_flst, l_dct, t_non, t_bl, t_int, t_lst, t_nst, t_tup, t_dct, i_nil, ty_int, ty_str, ty_bl, ty_non, ty_tup, ty_lst, ow_im, ow_lst, ow_nst, ow_dct, ow_dnn, iD_int, if_true, if_false, Bool.false_eq_true, reduceIte, decide_true, decide_false, decide_eq_true_eq, Nat.reduceLT, Nat.reduceAdd, Nat.reduceSub, callA, takeA, putA, fzs, fzM, mkL, imsOf, List.zip_cons_cons, List.zip_nil_left, List.zip_nil_right, true_and, and_true, List.filterMap_cons, List.filterMap_nil, stays, itemsM, seqM, unsetAll, parM, reduceCtorEq, ne_app, pop_app, popN_app, g_last, lm_lst, lm_nst, Bool.not_false, Bool.not_true, List.filterMap_cons, isiM, ite_true, ite_false, h9, u_ow]
  refine ⟨l, a, g, most + 1, rfl, by omega, fun s l1 a1 hs0 hs1 => ?_⟩
  obtain ⟨ks, hks, hlen⟩ := ints_upto s.toNat
  simp -implicitDefEqProofs only [xss, CP.xs, CP.ev, CP.evs, takeK, evT, evTs, evA, evI, bor, two, evP, setP, fin_some, fin_none, bindO_some, bindO_none, slot0, slot1, set0, set1, List.map_cons, List.map_nil, List.cons_append, List.nil_append, List.getElem?_cons_zero, List.getElem?_cons_succ, Option.bind_some, Option.map_some, Option.getD_some, id, List.length_cons, List.length_nil, List.replicate_succ, List.replicate_zero, bindT, bindTs, tupM, List.length_set, Nat.zero_add, o_mulR, o_mulL, CP.small64, o_mod, o_fdiv, o_pow, o_lenL, o_lenN, o_lenT, o_lenF, o_lenD, o_listL, o_listT, o_listF, o_tupL, o_tupT, o_boolI, Bool.and_true, Bool.true_and, Bool.and_self, Int.reduceNeg, Int.reducePow, Int.reduceLT, Int.reduceLE, Int.reduceAdd, Int.reduceToNat, Int.natAbs_natCast, o_add, o_sub, o_lt, o_le, o_gt, o_ge, o_max, o_min, o_eqI, o_eqS, o_neI, o_neS, o_eqB, o_neB, o_is0, o_isI, o_isS, o_isT, o_isB, o_isn0, o_isnI, o_isnS, o_isnT, o_neg, o_abs, o_intI, o_intB, l_lst, l_nst, l_tup, l_flst, l_dct, t_non, t_bl, t_int, t_lst, t_nst, t_tup, t_dct, i_nil, ty_int, ty_str, ty_bl, ty_non, ty_tup, ty_lst, ow_im, ow_lst, ow_nst, ow_dct, ow_dnn, iD_int, if_true, if_false, Bool.false_eq_true, reduceIte, decide_true, decide_false, decide_eq_true_eq, Nat.reduceLT, Nat.reduceAdd, Nat.reduceSub, callA, takeA, putA, fzs, fzM, mkL, imsOf, List.zip_cons_cons, List.zip_nil_left, List.zip_nil_right, true_and, and_true, List.filterMap_cons, List.filterMap_nil, stays, itemsM, seqM, unsetAll, parM, reduceCtorEq, ne_app, pop_app, popN_app, g_last, lm_lst, lm_nst, Bool.not_false, Bool.not_true, List.filterMap_cons, isiM, ite_true, ite_false, u_ow]
  rw [hks]
  refine ⟨by omega, ?_⟩
  have e0 : (M.dcT []) = .dcT (kvT []) := rfl
  rw [e0]
  refine t_loop h9 h11 ht.1 ho hd.1 ks l1 a1 [] _ _ _ (by simp; omega) (fun t h => nomatch h) fun l2 a2 fs x y z hf hfl => ?_
  have hfl2 : fs.length ≤ 20 := by simp at hfl; omega
  simp -implicitDefEqProofs only [xss, CP.xs, CP.ev, CP.evs, takeK, evT, evTs, evA, evI, bor, two, evP, setP, fin_some, fin_none, bindO_some, bindO_none, slot0, slot1, set0, set1, List.map_cons, List.map_nil, List.cons_append, List.nil_append, List.getElem?_cons_zero, List.getElem?_cons_succ, Option.bind_some, Option.map_some, Option.getD_some, id, List.length_cons, List.length_nil, List.replicate_succ, List.replicate_zero, bindT, bindTs, tupM, List.length_set, Nat.zero_add, o_mulR, o_mulL, CP.small64, o_mod, o_fdiv, o_pow, o_lenL, o_lenN, o_lenT, o_lenF, o_lenD, o_listL, o_listT, o_listF, o_tupL, o_tupT, o_boolI, Bool.and_true, Bool.true_and, Bool.and_self, Int.reduceNeg, Int.reducePow, Int.reduceLT, Int.reduceLE, Int.reduceAdd, Int.reduceToNat, Int.natAbs_natCast, o_add, o_sub, o_lt, o_le, o_gt, o_ge, o_max, o_min, o_eqI, o_eqS, o_neI, o_neS, o_eqB, o_neB, o_is0, o_isI, o_isS, o_isT, o_isB, o_isn0, o_isnI, o_isnS, o_isnT, o_neg, o_abs, o_intI, o_intB, l_lst, l_nst, l_tup, l_flst, l_dct, t_non, t_bl, t_int, t_lst, t_nst, t_tup, t_dct, i_nil, ty_int, ty_str, ty_bl, ty_non, ty_tup, ty_lst, ow_im, ow_lst, ow_nst, ow_dct, ow_dnn, iD_int, if_true, if_false, Bool.false_eq_true, reduceIte, decide_true, decide_false, decide_eq_true_eq, Nat.reduceLT, Nat.reduceAdd, Nat.reduceSub, callA, takeA, putA, fzs, fzM, mkL, imsOf, List.zip_cons_cons, List.zip_nil_left, List.zip_nil_right, true_and, and_true, List.filterMap_cons, List.filterMap_nil, stays, itemsM, seqM, unsetAll, parM, reduceCtorEq, ne_app, pop_app, popN_app, g_last, lm_lst, lm_nst, Bool.not_false, Bool.not_true, List.filterMap_cons, isiM, ite_true, ite_false, u_ow, ow_dcT, tk_kvT, lstM]
  refine ⟨by rw [List.length_map]; omega, fun e he => ?_, fun es hp => ?_⟩
  · obtain ⟨t, htm, rfl⟩ := List.mem_map.mp he
    exact ⟨[t.1, t.2.1], List.cons_ne_nil _ _, rfl⟩
  · have hex : ∀ e ∈ es, ∃ t : Tm, ((∃ u ∈ fs, u.1 = t.1 ∧ u.2.1 = t.2.1) ∧ getM (.dcT (kvT fs)) (.im (.tup [.int t.1, .int t.2.1])) = some (.im (.int t.2.2))) ∧ e = D.tup [.int t.1, .int t.2.1] := fun e he => by
      obtain ⟨u, hu, rfl⟩ := List.mem_map.mp (hp.mem_iff.mp he)
      obtain ⟨w, hw⟩ := g_kvT hu
      exact ⟨(u.1, u.2.1, w), ⟨⟨u, hu, rfl, rfl⟩, hw⟩, rfl⟩
    obtain ⟨us, rfl, hus⟩ := lift_list hex
    have hul : us.length = fs.length := by have := hp.length_eq; simpa using this
    simp -implicitDefEqProofs only [xss, CP.xs, CP.ev, CP.evs, takeK, evT, evTs, evA, evI, bor, two, evP, setP, fin_some, fin_none, bindO_some, bindO_none, slot0, slot1, set0, set1, List.map_cons, List.map_nil, List.cons_append, List.nil_append, List.getElem?_cons_zero, List.getElem?_cons_succ, Option.bind_some, Option.map_some, Option.getD_some, id, List.length_cons, List.length_nil, List.replicate_succ, List.replicate_zero, bindT, bindTs, tupM, List.length_set, Nat.zero_add, o_mulR, o_mulL, CP.small64, o_mod, o_fdiv, o_pow, o_lenL, o_lenN, o_lenT, o_lenF, o_lenD, o_listL, o_listT, o_listF, o_tupL, o_tupT, o_boolI, Bool.and_true, Bool.true_and, Bool.and_self, Int.reduceNeg, Int.reducePow, Int.reduceLT, Int.reduceLE, Int.reduceAdd, Int.reduceToNat, Int.natAbs_natCast, o_add, o_sub, o_lt, o_le, o_gt, o_ge, o_max, o_min, o_eqI, o_eqS, o_neI, o_neS, o_eqB, o_neB, o_is0, o_isI, o_isS, o_isT, o_isB, o_isn0, o_isnI, o_isnS, o_isnT, o_neg, o_abs, o_intI, o_intB, l_lst, l_nst, l_tup, l_flst, l_dct, t_non, t_bl, t_int, t_lst, t_nst, t_tup, t_dct, i_nil, ty_int, ty_str, ty_bl, ty_non, ty_tup, ty_lst, ow_im, ow_lst, ow_nst, ow_dct, ow_dnn, iD_int, if_true, if_false, Bool.false_eq_true, reduceIte, decide_true, decide_false, decide_eq_true_eq, Nat.reduceLT, Nat.reduceAdd, Nat.reduceSub, callA, takeA, putA, fzs, fzM, mkL, imsOf, List.zip_cons_cons, List.zip_nil_left, List.zip_nil_right, true_and, and_true, List.filterMap_cons, List.filterMap_nil, stays, itemsM, seqM, unsetAll, parM, reduceCtorEq, ne_app, pop_app, popN_app, g_last, lm_lst, lm_nst, Bool.not_false, Bool.not_true, List.filterMap_cons, isiM, ite_true, ite_false, u_ow, ow_dcT]
    have fin : ∀ (σ : CP.Env), (∃ o5, σ = [some (urnM l2 a2 g), some (.im (.int total)), some (.im (.int own)), some (.im (.int most)), some (.im (.int deep)), some (.dcT (kvT fs)), x] ++ o5) → Q (.im (.tup (us.map tmD))) ((List.range 5).map fun i => if i ∈ A13 then none else (σ[i]?).getD none) := by
      rintro σ ⟨o5, rfl⟩
      refine q us _ _ _ _ _ _ (fun t htm => ?_) (by simp at hfl; omega)
      obtain ⟨⟨u, hu, e1, e2⟩, _⟩ := hus t htm
      have := hf u hu
      unfold TmOk at this ⊢
      rw [← e1, ← e2]
      exact this
    refine lc_map2 (fun t : Tm => D.tup [.int t.1, .int t.2.1]) tmD rfl rfl trivial us (fun t htm K k => ?_) (by omega) ?_ fun _ => ?_
    · obtain ⟨_, hw⟩ := hus t htm
      simp -implicitDefEqProofs only [t13_1, e13_1, xss, CP.xs, CP.ev, CP.evs, takeK, evT, evTs, evA, evI, bor, two, evP, setP, fin_some, fin_none, bindO_some, bindO_none, slot0, slot1, set0, set1, List.map_cons, List.map_nil, List.cons_append, List.nil_append, List.getElem?_cons_zero, List.getElem?_cons_succ, Option.bind_some, Option.map_some, Option.getD_some, id, List.length_cons, List.length_nil, List.replicate_succ, List.replicate_zero, bindT, bindTs, tupM, List.length_set, Nat.zero_add, o_mulR, o_mulL, CP.small64, o_mod, o_fdiv, o_pow, o_lenL, o_lenN, o_lenT, o_lenF, o_lenD, o_listL, o_listT, o_listF, o_tupL, o_tupT, o_boolI, Bool.and_true, Bool.true_and, Bool.and_self, Int.reduceNeg, Int.reducePow, Int.reduceLT, Int.reduceLE, Int.reduceAdd, Int.reduceToNat, Int.natAbs_natCast, o_add, o_sub, o_lt, o_le, o_gt, o_ge, o_max, o_min, o_eqI, o_eqS, o_neI, o_neS, o_eqB, o_neB, o_is0, o_isI, o_isS, o_isT, o_isB, o_isn0, o_isnI, o_isnS, o_isnT, o_neg, o_abs, o_intI, o_intB, l_lst, l_nst, l_tup, l_flst, l_dct, t_non, t_bl, t_int, t_lst, t_nst, t_tup, t_dct, i_nil, ty_int, ty_str, ty_bl, ty_non, ty_tup, ty_lst, ow_im, ow_lst, ow_nst, ow_dct, ow_dnn, iD_int, if_true, if_false, Bool.false_eq_true, reduceIte, decide_true, decide_false, decide_eq_true_eq, Nat.reduceLT, Nat.reduceAdd, Nat.reduceSub, callA, takeA, putA, fzs, fzM, mkL, imsOf, List.zip_cons_cons, List.zip_nil_left, List.zip_nil_right, true_and, and_true, List.filterMap_cons, List.filterMap_nil, stays, itemsM, seqM, unsetAll, parM, reduceCtorEq, ne_app, pop_app, popN_app, g_last, lm_lst, lm_nst, Bool.not_false, Bool.not_true, List.filterMap_cons, isiM, ite_true, ite_false, o_idx hw]
      exact k
    · simp -implicitDefEqProofs only [o_tupL, fin_some]
      exact fin _ ⟨_, rfl⟩
    · simp -implicitDefEqProofs only [o_tupL, fin_some]
      exact fin _ ⟨_, rfl⟩
end K10
namespace K10
open PySem PySem.Spec PyProof.Rows L2 CP
/-! ### a net -/
theorem r_range (n : Nat) : List.range n = List.range' 0 n := by rw [List.range_eq_range']
theorem take_snoc {α : Type} {l : List α} {j : Nat} {x : α} (h : l[j]? = some x) : l.take (j + 1) = l.take j ++ [x] := by
  rw [List.take_succ, h]; rfl
theorem ni_loop {Γ : Nat → CP.Sp} (h12 : Γ 12 = rngSp) {Kk : Ks} {P1 P2 P3 P4 : Option M} {g : List Int} {names : List Str} : ∀ (n j : Nat) (acc : List (Str × Int × Int)) (l : Int) (a : Nat) (x y z : Option M), j + n ≤ names.length → names.length ≤ 1000 → acc.length = j → acc.map (·.1) = names.take j →
    (∀ (acc : List (Str × Int × Int)) l a x y z, acc.length = j + n → acc.map (·.1) = names.take (j + n) → Kk.nx [some (urnM l a g), P1, P2, P3, P4, some (.lst (names.map .str)), some (.lst (acc.map inpD)), x, y, z, none, none]) →
    forR (fun _ => True) (fun d s => bindT t14_2 (.im d) s) (xss G Γ l14_2) Kk ((List.range' j n).map fun (k : Nat) => D.int (k : Int)) [some (urnM l a g), P1, P2, P3, P4, some (.lst (names.map .str)), some (.lst (acc.map inpD)), x, y, z, none, none]
  | 0, j, acc, l, a, x, y, z, _, _, hl, hm, q => q acc l a x y z hl hm
  | n + 1, j, acc, l, a, x, y, z, hb, hs, hl, hm, q => by
    have hj : j < names.length := by omega
    have gx := List.getElem?_eq_getElem hj
    have gn : getM (.lst (names.map D.str)) (.im (.int (j : Int))) = some (.im (.str names[j])) := g_at (by rw [List.getElem?_map, gx]; rfl)
    have ih := fun lo hi l a x y z => ni_loop (Γ := Γ) h12 (Kk := Kk) (P1 := P1) (P2 := P2) (P3 := P3) (P4 := P4) (g := g) (names := names) n (j + 1) (acc ++ [(names[j], lo, hi)]) l a x y z (by omega) hs (by rw [List.length_append, hl]; rfl) (by rw [List.map_append, hm, take_snoc gx]; rfl) (fun acc l a x y z h1 h2 => q acc l a x y z (by omega) (by rw [h2]; congr 1; omega))
    have b1 : (acc.map inpD).length < 16777216 := by rw [List.length_map]; omega
    rw [List.range'_succ, List.map_cons, for_cons]
    simp -implicitDefEqProofs only [List.map_append, List.map_cons, List.map_nil] at ih
    generalize forR (fun _ => True) (fun d s => bindT t14_2 (.im d) s) (xss G Γ l14_2) Kk ((List.range' (j + 1) n).map fun (k : Nat) => D.int (k : Int)) = W at ih ⊢
    simp -implicitDefEqProofs only [t14_2, l14_2, xss, CP.xs, CP.ev, CP.evs, takeK, evT, evTs, evA, evI, bor, two, evP, setP, fin_some, fin_none, bindO_some, bindO_none, slot0, slot1, set0, set1, List.map_cons, List.map_nil, List.cons_append, List.nil_append, List.getElem?_cons_zero, List.getElem?_cons_succ, Option.bind_some, Option.map_some, Option.getD_some, id, List.length_cons, List.length_nil, List.replicate_succ, List.replicate_zero, bindT, bindTs, tupM, List.length_set, Nat.zero_add, o_mulR, o_mulL, CP.small64, o_mod, o_fdiv, o_pow, o_lenL, o_lenN, o_lenT, o_lenF, o_lenD, o_listL, o_listT, o_listF, o_tupL, o_tupT, o_boolI, Bool.and_true, Bool.true_and, Bool.and_self, Int.reduceNeg, Int.reducePow, Int.reduceLT, Int.reduceLE, Int.reduceAdd, Int.reduceToNat, Int.natAbs_natCast, o_add, o_sub, o_lt, o_le, o_gt, o_ge, o_max, o_min, o_eqI, o_eqS, o_neI, o_neS, o_eqB, o_neB, o_is0, o_isI, o_isS, o_isT, o_isB, o_isn0, o_isnI, o_isnS, o_isnT, o_neg, o_abs, o_intI, o_intB, l_lst, l_nst, l_tup, l_flst, l_dct, t_non, t_bl, t_int, t_lst, t_nst, t_tup, t_dct, i_nil, ty_int, ty_str, ty_bl, ty_non, ty_tup, ty_lst, ow_im, ow_lst, ow_nst, ow_dct, ow_dnn, iD_int, if_true, if_false, Bool.false_eq_true, reduceIte, decide_true, decide_false, decide_eq_true_eq, Nat.reduceLT, Nat.reduceAdd, Nat.reduceSub, callA, takeA, putA, fzs, fzM, mkL, imsOf, List.zip_cons_cons, List.zip_nil_left, List.zip_nil_right, true_and, and_true, List.filterMap_cons, List.filterMap_nil, stays, itemsM, seqM, unsetAll, parM, reduceCtorEq, ne_app, pop_app, popN_app, g_last, lm_lst, lm_nst, Bool.not_false, Bool.not_true, List.filterMap_cons, isiM, ite_true, ite_false, u_ow, h12]
    refine ⟨l, a, g, rfl, fun lo hi l1 a1 => ?_⟩
    simp -implicitDefEqProofs only [xss, CP.xs, CP.ev, CP.evs, takeK, evT, evTs, evA, evI, bor, two, evP, setP, fin_some, fin_none, bindO_some, bindO_none, slot0, slot1, set0, set1, List.map_cons, List.map_nil, List.cons_append, List.nil_append, List.getElem?_cons_zero, List.getElem?_cons_succ, Option.bind_some, Option.map_some, Option.getD_some, id, List.length_cons, List.length_nil, List.replicate_succ, List.replicate_zero, bindT, bindTs, tupM, List.length_set, Nat.zero_add, o_mulR, o_mulL, CP.small64, o_mod, o_fdiv, o_pow, o_lenL, o_lenN, o_lenT, o_lenF, o_lenD, o_listL, o_listT, o_listF, o_tupL, o_tupT, o_boolI, Bool.and_true, Bool.true_and, Bool.and_self, Int.reduceNeg, Int.reducePow, Int.reduceLT, Int.reduceLE, Int.reduceAdd, Int.reduceToNat, Int.natAbs_natCast, o_add, o_sub, o_lt, o_le, o_gt, o_ge, o_max, o_min, o_eqI, o_eqS, o_neI, o_neS, o_eqB, o_neB, o_is0, o_isI, o_isS, o_isT, o_isB, o_isn0, o_isnI, o_isnS, o_isnT, o_neg, o_abs, o_intI, o_intB, l_lst, l_nst, l_tup, l_flst, l_dct, t_non, t_bl, t_int, t_lst, t_nst, t_tup, t_dct, i_nil, ty_int, ty_str, ty_bl, ty_non, ty_tup, ty_lst, ow_im, ow_lst, ow_nst, ow_dct, ow_dnn, iD_int, if_true, if_false, Bool.false_eq_true, reduceIte, decide_true, decide_false, decide_eq_true_eq, Nat.reduceLT, Nat.reduceAdd, Nat.reduceSub, callA, takeA, putA, fzs, fzM, mkL, imsOf, List.zip_cons_cons, List.zip_nil_left, List.zip_nil_right, true_and, and_true, List.filterMap_cons, List.filterMap_nil, stays, itemsM, seqM, unsetAll, parM, reduceCtorEq, ne_app, pop_app, popN_app, g_last, lm_lst, lm_nst, Bool.not_false, Bool.not_true, List.filterMap_cons, isiM, ite_true, ite_false, u_ow, gn, app_lst b1]
    exact ih _ _ _ _ _ _ _
theorem ns_loop {Γ : Nat → CP.Sp} (h13 : Γ 13 = trmSp) {Kk : Ks} {P4 x y z : Option M} {iacc : M} {g : List Int} {names : List Str} {mN sN : Nat} {deep : Int} (hm1 : 1 ≤ mN) (hmn : mN + sN ≤ 60) (hd : 0 ≤ deep ∧ deep ≤ 8) (hnl : names.length = mN + sN) : ∀ (n j : Nat) (acc : List (Str × List Tm)) (l : Int) (a : Nat) (w : Option M), j + n ≤ sN → acc.length = j → acc.map (·.1) = (names.drop mN).take j → (∀ p ∈ acc, p.2.length ≤ 20 ∧ ∀ t ∈ p.2, 0 ≤ t.1 ∧ t.1 < ((mN + sN : Nat) : Int)) →
    (∀ (acc : List (Str × List Tm)) l a w, acc.length = j + n → acc.map (·.1) = (names.drop mN).take (j + n) → (∀ p ∈ acc, p.2.length ≤ 20 ∧ ∀ t ∈ p.2, 0 ≤ t.1 ∧ t.1 < ((mN + sN : Nat) : Int)) → Kk.nx [some (urnM l a g), some (.im (.int (mN : Int))), some (.im (.int (sN : Int))), some (.im (.int deep)), P4, some (.lst (names.map .str)), some iacc, x, y, z, some (.lst (acc.map stD)), w]) →
    forR (fun _ => True) (fun d s => bindT t14_1 (.im d) s) (xss G Γ l14_1) Kk ((List.range' j n).map fun (k : Nat) => D.int (k : Int)) [some (urnM l a g), some (.im (.int (mN : Int))), some (.im (.int (sN : Int))), some (.im (.int deep)), P4, some (.lst (names.map .str)), some iacc, x, y, z, some (.lst (acc.map stD)), w]
  | 0, j, acc, l, a, w, _, hl, hm, hp, q => q acc l a w hl hm hp
  | n + 1, j, acc, l, a, w, hb, hl, hm, hp, q => by
    have hj : mN + j < names.length := by omega
    obtain ⟨nm, gx⟩ : ∃ nm, names[mN + j]? = some nm := ⟨_, List.getElem?_eq_getElem hj⟩
    have gn : getM (.lst (names.map D.str)) (.im (.int ((mN : Int) + (j : Int)))) = some (.im (.str nm)) := by
      have := g_at (ds := names.map D.str) (n := mN + j) (d := .str nm) (by rw [List.getElem?_map, gx]; rfl)
      rw [Int.natCast_add] at this
      exact this
    have gd : (names.drop mN)[j]? = some nm := by rw [List.getElem?_drop, gx]
    have ih := fun (ts : List Tm) l a w h1 => ns_loop (Γ := Γ) h13 (Kk := Kk) (P4 := P4) (x := x) (y := y) (z := z) (iacc := iacc) (g := g) (names := names) (deep := deep) hm1 hmn hd hnl n (j + 1) (acc ++ [(nm, ts)]) l a w (by omega) (by rw [List.length_append, hl]; rfl) (by rw [List.map_append, hm, take_snoc gd]; rfl) h1 (fun acc l a w h1 h2 h3 => q acc l a w (by omega) (by rw [h2]; congr 1; omega) h3)
    have b1 : (acc.map stD).length < 16777216 := by rw [List.length_map]; omega
    rw [List.range'_succ, List.map_cons, for_cons]
    simp -implicitDefEqProofs only [List.map_append, List.map_cons, List.map_nil] at ih
    generalize forR (fun _ => True) (fun d s => bindT t14_1 (.im d) s) (xss G Γ l14_1) Kk ((List.range' (j + 1) n).map fun (k : Nat) => D.int (k : Int)) = W at ih ⊢
    simp -implicitDefEqProofs only [t14_1, l14_1, xss, CP.xs, CP.ev, CP.evs, takeK, evT, evTs, evA, evI, bor, two, evP, setP, fin_some, fin_none, bindO_some, bindO_none, slot0, slot1, set0, set1, List.map_cons, List.map_nil, List.cons_append, List.nil_append, List.getElem?_cons_zero, List.getElem?_cons_succ, Option.bind_some, Option.map_some, Option.getD_some, id, List.length_cons, List.length_nil, List.replicate_succ, List.replicate_zero, bindT, bindTs, tupM, List.length_set, Nat.zero_add, o_mulR, o_mulL, CP.small64, o_mod, o_fdiv, o_pow, o_lenL, o_lenN, o_lenT, o_lenF, o_lenD, o_listL, o_listT, o_listF, o_tupL, o_tupT, o_boolI, Bool.and_true, Bool.true_and, Bool.and_self, Int.reduceNeg, Int.reducePow, Int.reduceLT, Int.reduceLE, Int.reduceAdd, Int.reduceToNat, Int.natAbs_natCast, o_add, o_sub, o_lt, o_le, o_gt, o_ge, o_max, o_min, o_eqI, o_eqS, o_neI, o_neS, o_eqB, o_neB, o_is0, o_isI, o_isS, o_isT, o_isB, o_isn0, o_isnI, o_isnS, o_isnT, o_neg, o_abs, o_intI, o_intB, l_lst, l_nst, l_tup, l_flst, l_dct, t_non, t_bl, t_int, t_lst, t_nst, t_tup, t_dct, i_nil, ty_int, ty_str, ty_bl, ty_non, ty_tup, ty_lst, ow_im, ow_lst, ow_nst, ow_dct, ow_dnn, iD_int, if_true, if_false, Bool.false_eq_true, reduceIte, decide_true, decide_false, decide_eq_true_eq, Nat.reduceLT, Nat.reduceAdd, Nat.reduceSub, callA, takeA, putA, fzs, fzM, mkL, imsOf, List.zip_cons_cons, List.zip_nil_left, List.zip_nil_right, true_and, and_true, List.filterMap_cons, List.filterMap_nil, stays, itemsM, seqM, unsetAll, parM, reduceCtorEq, ne_app, pop_app, popN_app, g_last, lm_lst, lm_nst, Bool.not_false, Bool.not_true, List.filterMap_cons, isiM, ite_true, ite_false, u_ow, h13, gn]
    refine ⟨l, a, g, _, _, 4, deep, rfl, ⟨by omega, by omega⟩, ⟨by omega, by omega⟩, ⟨by omega, by omega⟩, hd, fun ts l1 a1 o2 o3 o4 o5 ht hn => ?_⟩
    simp -implicitDefEqProofs only [xss, CP.xs, CP.ev, CP.evs, takeK, evT, evTs, evA, evI, bor, two, evP, setP, fin_some, fin_none, bindO_some, bindO_none, slot0, slot1, set0, set1, List.map_cons, List.map_nil, List.cons_append, List.nil_append, List.getElem?_cons_zero, List.getElem?_cons_succ, Option.bind_some, Option.map_some, Option.getD_some, id, List.length_cons, List.length_nil, List.replicate_succ, List.replicate_zero, bindT, bindTs, tupM, List.length_set, Nat.zero_add, o_mulR, o_mulL, CP.small64, o_mod, o_fdiv, o_pow, o_lenL, o_lenN, o_lenT, o_lenF, o_lenD, o_listL, o_listT, o_listF, o_tupL, o_tupT, o_boolI, Bool.and_true, Bool.true_and, Bool.and_self, Int.reduceNeg, Int.reducePow, Int.reduceLT, Int.reduceLE, Int.reduceAdd, Int.reduceToNat, Int.natAbs_natCast, o_add, o_sub, o_lt, o_le, o_gt, o_ge, o_max, o_min, o_eqI, o_eqS, o_neI, o_neS, o_eqB, o_neB, o_is0, o_isI, o_isS, o_isT, o_isB, o_isn0, o_isnI, o_isnS, o_isnT, o_neg, o_abs, o_intI, o_intB, l_lst, l_nst, l_tup, l_flst, l_dct, t_non, t_bl, t_int, t_lst, t_nst, t_tup, t_dct, i_nil, ty_int, ty_str, ty_bl, ty_non, ty_tup, ty_lst, ow_im, ow_lst, ow_nst, ow_dct, ow_dnn, iD_int, if_true, if_false, Bool.false_eq_true, reduceIte, decide_true, decide_false, decide_eq_true_eq, Nat.reduceLT, Nat.reduceAdd, Nat.reduceSub, callA, takeA, putA, fzs, fzM, mkL, imsOf, List.zip_cons_cons, List.zip_nil_left, List.zip_nil_right, true_and, and_true, List.filterMap_cons, List.filterMap_nil, stays, itemsM, seqM, unsetAll, parM, reduceCtorEq, ne_app, pop_app, popN_app, g_last, lm_lst, lm_nst, Bool.not_false, Bool.not_true, List.filterMap_cons, isiM, ite_true, ite_false, u_ow, app_lst b1]
    refine ih ts _ _ _ fun p hpm => ?_
    rcases List.mem_append.mp hpm with hpm | hpm
    · exact hp p hpm
    · rw [List.mem_singleton.mp hpm]
      refine ⟨by show ts.length ≤ 20; omega, fun t htm => ?_⟩
      have := ht t htm
      unfold TmOk at this
      rw [Int.natCast_add]
      exact this.1
def netSp : CP.Sp := fun ms Q E => ∃ l a g many streams b, ms = [urnM l a g, .im (.int many), .im (.int streams), .im (.int 2), .im (.str b)] ∧ (1 ≤ many ∧ many ≤ 4) ∧ (0 ≤ streams ∧ streams ≤ 6) ∧ b.length ≤ 10 ∧ ∀ (n : Net) l' a' o2 o3 o4 o5, n.ok → Q (.im (netD n)) [some (urnM l' a' g), o2, o3, o4, o5]
theorem net_ok {Γ : Nat → CP.Sp} (h10 : Γ 10 = nmsSp) (h12 : Γ 12 = rngSp) (h13 : Γ 13 = trmSp) : ∀ ms Q E, netSp ms Q E → bodySp p14.length n14.length A14 (xss G Γ b14) ms Q E := by
  rintro ms Q E ⟨l, a, g, many, streams, b, rfl, hm, hs, hb, q⟩
  refine ⟨rfl, ?_⟩
  obtain ⟨mN, rfl⟩ := Int.eq_ofNat_of_zero_le (show 0 ≤ many by omega)
  obtain ⟨sN, rfl⟩ := Int.eq_ofNat_of_zero_le hs.1
  simp -implicitDefEqProofs only [xss, CP.xs, CP.ev, CP.evs, takeK, evT, evTs, evA, evI, bor, two, evP, setP, fin_some, fin_none, bindO_some, bindO_none, slot0, slot1, set0, set1, List.map_cons, List.map_nil, List.cons_append, List.nil_append, List.getElem?_cons_zero, List.getElem?_cons_succ, Option.bind_some, Option.map_some, Option.getD_some, id, List.length_cons, List.length_nil, List.replicate_succ, List.replicate_zero, bindT, bindTs, tupM, List.length_set, Nat.zero_add, o_mulR, o_mulL, CP.small64, o_mod, o_fdiv, o_pow, o_lenL, o_lenN, o_lenT, o_lenF, o_lenD, o_listL, o_listT, o_listF, o_tupL, o_tupT, o_boolI, Bool.and_true, Bool.true_and, Bool.and_self, Int.reduceNeg, Int.reducePow, Int.reduceLT, Int.reduceLE, Int.reduceAdd, Int.reduceToNat, Int.natAbs_natCast, o_add, o_sub, o_lt, o_le, o_gt, o_ge, o_max, o_min, o_eqI, o_eqS, o_neI, o_neS, o_eqB, o_neB, o_is0, o_isI, o_isS, o_isT, o_isB, o_isn0, o_isnI, o_isnS, o_isnT, o_neg, o_abs, o_intI, o_intB, l_lst, l_nst, l_tup, l_flst, l_dct, t_non, t_bl, t_int, t_lst, t_nst, t_tup, t_dct, i_nil, ty_int, ty_str, ty_bl, ty_non, ty_tup, ty_lst, ow_im, ow_lst, ow_nst, ow_dct, ow_dnn, iD_int, if_true, if_false, Bool.false_eq_true, reduceIte, decide_true, decide_false, decide_eq_true_eq, Nat.reduceLT, Nat.reduceAdd, Nat.reduceSub, callA, takeA, putA, fzs, fzM, mkL, imsOf, List.zip_cons_cons, List.zip_nil_left, List.zip_nil_right, true_and, and_true, List.filterMap_cons, List.filterMap_nil, stays, itemsM, seqM, unsetAll, parM, reduceCtorEq, ne_app, pop_app, popN_app, g_last, lm_lst, lm_nst, Bool.not_false, Bool.not_true, List.filterMap_cons, isiM, ite_true, ite_false, u_ow, h10]
  refine ⟨l, a, g, _, b, rfl, by omega, by omega, hb, fun names l1 a1 o2 o3 nk => ?_⟩
  have hnl : names.length = mN + sN := by rw [nk.len]; omega
  simp -implicitDefEqProofs only [xss, CP.xs, CP.ev, CP.evs, takeK, evT, evTs, evA, evI, bor, two, evP, setP, fin_some, fin_none, bindO_some, bindO_none, slot0, slot1, set0, set1, List.map_cons, List.map_nil, List.cons_append, List.nil_append, List.getElem?_cons_zero, List.getElem?_cons_succ, Option.bind_some, Option.map_some, Option.getD_some, id, List.length_cons, List.length_nil, List.replicate_succ, List.replicate_zero, bindT, bindTs, tupM, List.length_set, Nat.zero_add, o_mulR, o_mulL, CP.small64, o_mod, o_fdiv, o_pow, o_lenL, o_lenN, o_lenT, o_lenF, o_lenD, o_listL, o_listT, o_listF, o_tupL, o_tupT, o_boolI, Bool.and_true, Bool.true_and, Bool.and_self, Int.reduceNeg, Int.reducePow, Int.reduceLT, Int.reduceLE, Int.reduceAdd, Int.reduceToNat, Int.natAbs_natCast, o_add, o_sub, o_lt, o_le, o_gt, o_ge, o_max, o_min, o_eqI, o_eqS, o_neI, o_neS, o_eqB, o_neB, o_is0, o_isI, o_isS, o_isT, o_isB, o_isn0, o_isnI, o_isnS, o_isnT, o_neg, o_abs, o_intI, o_intB, l_lst, l_nst, l_tup, l_flst, l_dct, t_non, t_bl, t_int, t_lst, t_nst, t_tup, t_dct, i_nil, ty_int, ty_str, ty_bl, ty_non, ty_tup, ty_lst, ow_im, ow_lst, ow_nst, ow_dct, ow_dnn, iD_int, if_true, if_false, Bool.false_eq_true, reduceIte, decide_true, decide_false, decide_eq_true_eq, Nat.reduceLT, Nat.reduceAdd, Nat.reduceSub, callA, takeA, putA, fzs, fzM, mkL, imsOf, List.zip_cons_cons, List.zip_nil_left, List.zip_nil_right, true_and, and_true, List.filterMap_cons, List.filterMap_nil, stays, itemsM, seqM, unsetAll, parM, reduceCtorEq, ne_app, pop_app, popN_app, g_last, lm_lst, lm_nst, Bool.not_false, Bool.not_true, List.filterMap_cons, isiM, ite_true, ite_false, u_ow, Int.toNat_natCast]
  refine ⟨by omega, ?_⟩
  rw [r_range mN]
  refine ni_loop (names := names) h12 mN 0 [] l1 a1 _ _ _ (by omega) (by omega) rfl (by simp) fun iacc l2 a2 x y z hi1 hi2 => ?_
  simp -implicitDefEqProofs only [xss, CP.xs, CP.ev, CP.evs, takeK, evT, evTs, evA, evI, bor, two, evP, setP, fin_some, fin_none, bindO_some, bindO_none, slot0, slot1, set0, set1, List.map_cons, List.map_nil, List.cons_append, List.nil_append, List.getElem?_cons_zero, List.getElem?_cons_succ, Option.bind_some, Option.map_some, Option.getD_some, id, List.length_cons, List.length_nil, List.replicate_succ, List.replicate_zero, bindT, bindTs, tupM, List.length_set, Nat.zero_add, o_mulR, o_mulL, CP.small64, o_mod, o_fdiv, o_pow, o_lenL, o_lenN, o_lenT, o_lenF, o_lenD, o_listL, o_listT, o_listF, o_tupL, o_tupT, o_boolI, Bool.and_true, Bool.true_and, Bool.and_self, Int.reduceNeg, Int.reducePow, Int.reduceLT, Int.reduceLE, Int.reduceAdd, Int.reduceToNat, Int.natAbs_natCast, o_add, o_sub, o_lt, o_le, o_gt, o_ge, o_max, o_min, o_eqI, o_eqS, o_neI, o_neS, o_eqB, o_neB, o_is0, o_isI, o_isS, o_isT, o_isB, o_isn0, o_isnI, o_isnS, o_isnT, o_neg, o_abs, o_intI, o_intB, l_lst, l_nst, l_tup, l_flst, l_dct, t_non, t_bl, t_int, t_lst, t_nst, t_tup, t_dct, i_nil, ty_int, ty_str, ty_bl, ty_non, ty_tup, ty_lst, ow_im, ow_lst, ow_nst, ow_dct, ow_dnn, iD_int, if_true, if_false, Bool.false_eq_true, reduceIte, decide_true, decide_false, decide_eq_true_eq, Nat.reduceLT, Nat.reduceAdd, Nat.reduceSub, callA, takeA, putA, fzs, fzM, mkL, imsOf, List.zip_cons_cons, List.zip_nil_left, List.zip_nil_right, true_and, and_true, List.filterMap_cons, List.filterMap_nil, stays, itemsM, seqM, unsetAll, parM, reduceCtorEq, ne_app, pop_app, popN_app, g_last, lm_lst, lm_nst, Bool.not_false, Bool.not_true, List.filterMap_cons, isiM, ite_true, ite_false, u_ow, Int.toNat_natCast]
  refine ⟨by omega, ?_⟩
  rw [r_range sN]
  refine ns_loop (names := names) h13 (by omega) (by omega) ⟨by omega, by omega⟩ hnl sN 0 [] l2 a2 _ (by omega) rfl (by simp) (fun p h => nomatch h) fun acc l3 a3 w hs1 hs2 hs3 => ?_
  simp -implicitDefEqProofs only [xss, CP.xs, CP.ev, CP.evs, takeK, evT, evTs, evA, evI, bor, two, evP, setP, fin_some, fin_none, bindO_some, bindO_none, slot0, slot1, set0, set1, List.map_cons, List.map_nil, List.cons_append, List.nil_append, List.getElem?_cons_zero, List.getElem?_cons_succ, Option.bind_some, Option.map_some, Option.getD_some, id, List.length_cons, List.length_nil, List.replicate_succ, List.replicate_zero, bindT, bindTs, tupM, List.length_set, Nat.zero_add, o_mulR, o_mulL, CP.small64, o_mod, o_fdiv, o_pow, o_lenL, o_lenN, o_lenT, o_lenF, o_lenD, o_listL, o_listT, o_listF, o_tupL, o_tupT, o_boolI, Bool.and_true, Bool.true_and, Bool.and_self, Int.reduceNeg, Int.reducePow, Int.reduceLT, Int.reduceLE, Int.reduceAdd, Int.reduceToNat, Int.natAbs_natCast, o_add, o_sub, o_lt, o_le, o_gt, o_ge, o_max, o_min, o_eqI, o_eqS, o_neI, o_neS, o_eqB, o_neB, o_is0, o_isI, o_isS, o_isT, o_isB, o_isn0, o_isnI, o_isnS, o_isnT, o_neg, o_abs, o_intI, o_intB, l_lst, l_nst, l_tup, l_flst, l_dct, t_non, t_bl, t_int, t_lst, t_nst, t_tup, t_dct, i_nil, ty_int, ty_str, ty_bl, ty_non, ty_tup, ty_lst, ow_im, ow_lst, ow_nst, ow_dct, ow_dnn, iD_int, if_true, if_false, Bool.false_eq_true, reduceIte, decide_true, decide_false, decide_eq_true_eq, Nat.reduceLT, Nat.reduceAdd, Nat.reduceSub, callA, takeA, putA, fzs, fzM, mkL, imsOf, List.zip_cons_cons, List.zip_nil_left, List.zip_nil_right, true_and, and_true, List.filterMap_cons, List.filterMap_nil, stays, itemsM, seqM, unsetAll, parM, reduceCtorEq, ne_app, pop_app, popN_app, g_last, lm_lst, lm_nst, Bool.not_false, Bool.not_true, List.filterMap_cons, isiM, ite_true, ite_false, u_ow]
  have hn : (Net.mk iacc acc).names = names := by
    show iacc.map (·.1) ++ acc.map (·.1) = names
    rw [hi2, hs2, Nat.zero_add, Nat.zero_add, List.take_of_length_le (l := names.drop mN) (by rw [List.length_drop]; omega), List.take_append_drop]
  have hc : (Net.mk iacc acc).cnt = mN + sN := by show iacc.length + acc.length = _; omega
  refine q ⟨iacc, acc⟩ _ _ _ _ _ _ ⟨by show iacc.length ≤ 20; omega, by show acc.length ≤ 20; omega, fun p hp => ?_, by rw [hn]; exact nk.nd, by rw [hn]; exact nk.sm, by rw [hc]; omega⟩
  rw [hc]
  exact hs3 p hp
end K10
namespace K10
open PySem PySem.Spec PyProof.Rows L2 CP
/-! ### the wide net -/
def tx (w : Int) : Str := Str.ofString (toString w)
theorem o_str {w : Int} (h : w.natAbs < 2 ^ 140) : op1M .str (.im (.int w)) = some (.im (.str (tx w))) := by
  have : w.natAbs.log2 < 1920 := by
    by_cases e : w.natAbs = 0
    · rw [e]; decide
    · have := (Nat.log2_lt e).mpr h
      omega
  simp -implicitDefEqProofs only [op1M, iM, if_pos this, Option.map_some]
  rfl
theorem tx_len {w : Int} (h0 : 0 ≤ w) (h : w.natAbs < 2 ^ 140) : (tx w).length ≤ 43 := by
  refine toString_length_le h0 (by decide) ?_
  have big : (2 : Nat) ^ 140 ≤ 10 ^ 43 := by decide
  have : w.natAbs < 10 ^ 43 := Nat.lt_of_lt_of_le h big
  have e : ((10 : Nat) ^ 43 : Int) = (10 : Int) ^ 43 := by norm_cast
  omega
theorem sm140 {k : Nat} (h : k < 1000) : (k : Int).natAbs < 2 ^ 140 := by
  rw [Int.natAbs_natCast]
  exact Nat.lt_trans h (by decide)
def wnI : List Str := (List.range 4).map fun k : Nat => "i" ++ tx k
def wnS : List Str := (List.range 16).map fun k : Nat => "str" ++ tx k
theorem wn_nd : (wnI ++ wnS).Nodup := by decide +kernel
theorem wn_sm : ∀ s ∈ wnI ++ wnS, s.length ≤ 100 := by
  intro s hs
  have key : ∀ (a : Str) (k : Nat), a.length ≤ 3 → k < 20 → (a ++ tx k).length ≤ 100 := fun a k ha hk => by
    have h1 := tx_len (w := (k : Int)) (by omega) (sm140 (by omega))
    have h2 : (a ++ tx k).length = a.length + (tx k).length := Str.length_append _ _
    omega
  rcases List.mem_append.mp hs with hs | hs
  · obtain ⟨k, hk, rfl⟩ := List.mem_map.mp hs
    exact key _ k (by decide) (by have := List.mem_range.mp hk; omega)
  · obtain ⟨k, hk, rfl⟩ := List.mem_map.mp hs
    exact key _ k (by decide) (by have := List.mem_range.mp hk; omega)
def T20 (t : Tm) : Prop := 0 ≤ t.1 ∧ t.1 < 20
theorem w_in {Γ : Nat → CP.Sp} (h9 : Γ 9 = sipSp) {Kk : Ks} {P1 P2 P3 P4 : Option M} {g : List Int} {s : Int} : ∀ (sg : List Int) (acc : List Tm) (l : Int) (a : Nat) (w : Option M), (∀ x ∈ sg, 0 ≤ x ∧ x < 20) → (∀ t ∈ acc, T20 t) → acc.length + sg.length ≤ 100 →
    (∀ (acc' : List Tm) l a w, (∀ t ∈ acc', T20 t) → acc'.length ≤ acc.length + sg.length → Kk.nx [some (urnM l a g), P1, P2, P3, P4, some (.im (.int s)), some (.lst (acc'.map tmD)), w]) →
    forR (fun _ => True) (fun d s => bindT t20_2 (.im d) s) (xss G Γ l20_1) Kk (sg.map .int) [some (urnM l a g), P1, P2, P3, P4, some (.im (.int s)), some (.lst (acc.map tmD)), w]
  | [], acc, l, a, w, _, ha, _, q => q acc l a w ha (by simp)
  | x :: sg, acc, l, a, w, hx, ha, hl, q => by
    have hl' : acc.length + sg.length + 1 ≤ 100 := by rw [List.length_cons] at hl; omega
    have ih := fun (ys : List Tm) l a w (h1 : ∀ t ∈ ys, T20 t) (h2 : ys.length ≤ 1) => w_in (Γ := Γ) h9 (Kk := Kk) (P1 := P1) (P2 := P2) (P3 := P3) (P4 := P4) (g := g) (s := s) sg (acc ++ ys) l a w (fun y hy => hx y (by simp [hy])) (fun t ht => (List.mem_append.mp ht).elim (ha t) (h1 t)) (by rw [List.length_append]; omega) (fun acc' l a w g1 g2 => q acc' l a w g1 (by rw [List.length_append] at g2; rw [List.length_cons]; omega))
    have ih0 := fun l a w => ih [] l a w (fun t h => nomatch h) (Nat.zero_le _)
    have ih1 := fun (t : Tm) l a w (h : T20 t) => ih [t] l a w (fun u hu => by rw [List.mem_singleton.mp hu]; exact h) (Nat.le_refl _)
    have b1 : (acc.map tmD).length < 16777216 := by rw [List.length_map]; omega
    have hx0 := hx x (by simp)
    rw [List.append_nil] at ih0
    simp -implicitDefEqProofs only [List.map_append, List.map_cons, List.map_nil] at ih1
    rw [List.map_cons, for_cons]
    generalize forR (fun _ => True) (fun d s => bindT t20_2 (.im d) s) (xss G Γ l20_1) Kk (sg.map D.int) = W at ih0 ih1 ⊢
    simp -implicitDefEqProofs only [t20_2, l20_1, xss, CP.xs, CP.ev, CP.evs, takeK, evT, evTs, evA, evI, bor, two, evP, setP, fin_some, fin_none, bindO_some, bindO_none, slot0, slot1, set0, set1, List.map_cons, List.map_nil, List.cons_append, List.nil_append, List.getElem?_cons_zero, List.getElem?_cons_succ, Option.bind_some, Option.map_some, Option.getD_some, id, List.length_cons, List.length_nil, List.replicate_succ, List.replicate_zero, bindT, bindTs, tupM, List.length_set, Nat.zero_add, o_mulR, o_mulL, CP.small64, o_mod, o_fdiv, o_pow, o_lenL, o_lenN, o_lenT, o_lenF, o_lenD, o_listL, o_listT, o_listF, o_tupL, o_tupT, o_boolI, Bool.and_true, Bool.true_and, Bool.and_self, Int.reduceNeg, Int.reducePow, Int.reduceLT, Int.reduceLE, Int.reduceAdd, Int.reduceToNat, Int.natAbs_natCast, o_add, o_sub, o_lt, o_le, o_gt, o_ge, o_max, o_min, o_eqI, o_eqS, o_neI, o_neS, o_eqB, o_neB, o_is0, o_isI, o_isS, o_isT, o_isB, o_isn0, o_isnI, o_isnS, o_isnT, o_neg, o_abs, o_intI, o_intB, l_lst, l_nst, l_tup, l_flst, l_dct, t_non, t_bl, t_int, t_lst, t_nst, t_tup, t_dct, i_nil, ty_int, ty_str, ty_bl, ty_non, ty_tup, ty_lst, ow_im, ow_lst, ow_nst, ow_dct, ow_dnn, iD_int, if_true, if_false, Bool.false_eq_true, reduceIte, decide_true, decide_false, decide_eq_true_eq, Nat.reduceLT, Nat.reduceAdd, Nat.reduceSub, callA, takeA, putA, fzs, fzM, mkL, imsOf, List.zip_cons_cons, List.zip_nil_left, List.zip_nil_right, true_and, and_true, List.filterMap_cons, List.filterMap_nil, stays, itemsM, seqM, unsetAll, parM, reduceCtorEq, ne_app, pop_app, popN_app, g_last, lm_lst, lm_nst, Bool.not_false, Bool.not_true, List.filterMap_cons, isiM, ite_true, ite_false, u_ow, h9]
    refine ⟨l, a, g, 2, rfl, by omega, fun c l1 a1 hc0 hc1 => ?_⟩
    simp -implicitDefEqProofs only [xss, CP.xs, CP.ev, CP.evs, takeK, evT, evTs, evA, evI, bor, two, evP, setP, fin_some, fin_none, bindO_some, bindO_none, slot0, slot1, set0, set1, List.map_cons, List.map_nil, List.cons_append, List.nil_append, List.getElem?_cons_zero, List.getElem?_cons_succ, Option.bind_some, Option.map_some, Option.getD_some, id, List.length_cons, List.length_nil, List.replicate_succ, List.replicate_zero, bindT, bindTs, tupM, List.length_set, Nat.zero_add, o_mulR, o_mulL, CP.small64, o_mod, o_fdiv, o_pow, o_lenL, o_lenN, o_lenT, o_lenF, o_lenD, o_listL, o_listT, o_listF, o_tupL, o_tupT, o_boolI, Bool.and_true, Bool.true_and, Bool.and_self, Int.reduceNeg, Int.reducePow, Int.reduceLT, Int.reduceLE, Int.reduceAdd, Int.reduceToNat, Int.natAbs_natCast, o_add, o_sub, o_lt, o_le, o_gt, o_ge, o_max, o_min, o_eqI, o_eqS, o_neI, o_neS, o_eqB, o_neB, o_is0, o_isI, o_isS, o_isT, o_isB, o_isn0, o_isnI, o_isnS, o_isnT, o_neg, o_abs, o_intI, o_intB, l_lst, l_nst, l_tup, l_flst, l_dct, t_non, t_bl, t_int, t_lst, t_nst, t_tup, t_dct, i_nil, ty_int, ty_str, ty_bl, ty_non, ty_tup, ty_lst, ow_im, ow_lst, ow_nst, ow_dct, ow_dnn, iD_int, if_true, if_false, Bool.false_eq_true, reduceIte, decide_true, decide_false, decide_eq_true_eq, Nat.reduceLT, Nat.reduceAdd, Nat.reduceSub, callA, takeA, putA, fzs, fzM, mkL, imsOf, List.zip_cons_cons, List.zip_nil_left, List.zip_nil_right, true_and, and_true, List.filterMap_cons, List.filterMap_nil, stays, itemsM, seqM, unsetAll, parM, reduceCtorEq, ne_app, pop_app, popN_app, g_last, lm_lst, lm_nst, Bool.not_false, Bool.not_true, List.filterMap_cons, isiM, ite_true, ite_false, u_ow, h9]
    by_cases h3 : s = 3
    · subst h3
      simp -implicitDefEqProofs only [xss, CP.xs, CP.ev, CP.evs, takeK, evT, evTs, evA, evI, bor, two, evP, setP, fin_some, fin_none, bindO_some, bindO_none, slot0, slot1, set0, set1, List.map_cons, List.map_nil, List.cons_append, List.nil_append, List.getElem?_cons_zero, List.getElem?_cons_succ, Option.bind_some, Option.map_some, Option.getD_some, id, List.length_cons, List.length_nil, List.replicate_succ, List.replicate_zero, bindT, bindTs, tupM, List.length_set, Nat.zero_add, o_mulR, o_mulL, CP.small64, o_mod, o_fdiv, o_pow, o_lenL, o_lenN, o_lenT, o_lenF, o_lenD, o_listL, o_listT, o_listF, o_tupL, o_tupT, o_boolI, Bool.and_true, Bool.true_and, Bool.and_self, Int.reduceNeg, Int.reducePow, Int.reduceLT, Int.reduceLE, Int.reduceAdd, Int.reduceToNat, Int.natAbs_natCast, o_add, o_sub, o_lt, o_le, o_gt, o_ge, o_max, o_min, o_eqI, o_eqS, o_neI, o_neS, o_eqB, o_neB, o_is0, o_isI, o_isS, o_isT, o_isB, o_isn0, o_isnI, o_isnS, o_isnT, o_neg, o_abs, o_intI, o_intB, l_lst, l_nst, l_tup, l_flst, l_dct, t_non, t_bl, t_int, t_lst, t_nst, t_tup, t_dct, i_nil, ty_int, ty_str, ty_bl, ty_non, ty_tup, ty_lst, ow_im, ow_lst, ow_nst, ow_dct, ow_dnn, iD_int, if_true, if_false, Bool.false_eq_true, reduceIte, decide_true, decide_false, decide_eq_true_eq, Nat.reduceLT, Nat.reduceAdd, Nat.reduceSub, callA, takeA, putA, fzs, fzM, mkL, imsOf, List.zip_cons_cons, List.zip_nil_left, List.zip_nil_right, true_and, and_true, List.filterMap_cons, List.filterMap_nil, stays, itemsM, seqM, unsetAll, parM, reduceCtorEq, ne_app, pop_app, popN_app, g_last, lm_lst, lm_nst, Bool.not_false, Bool.not_true, List.filterMap_cons, isiM, ite_true, ite_false, u_ow, h9, eq_self, decide_true, if_true, ite_self]
      refine ⟨l1, a1, g, 99, rfl, by omega, fun c2 l2 a2 _ _ => ?_⟩
      simp -implicitDefEqProofs only [xss, CP.xs, CP.ev, CP.evs, takeK, evT, evTs, evA, evI, bor, two, evP, setP, fin_some, fin_none, bindO_some, bindO_none, slot0, slot1, set0, set1, List.map_cons, List.map_nil, List.cons_append, List.nil_append, List.getElem?_cons_zero, List.getElem?_cons_succ, Option.bind_some, Option.map_some, Option.getD_some, id, List.length_cons, List.length_nil, List.replicate_succ, List.replicate_zero, bindT, bindTs, tupM, List.length_set, Nat.zero_add, o_mulR, o_mulL, CP.small64, o_mod, o_fdiv, o_pow, o_lenL, o_lenN, o_lenT, o_lenF, o_lenD, o_listL, o_listT, o_listF, o_tupL, o_tupT, o_boolI, Bool.and_true, Bool.true_and, Bool.and_self, Int.reduceNeg, Int.reducePow, Int.reduceLT, Int.reduceLE, Int.reduceAdd, Int.reduceToNat, Int.natAbs_natCast, o_add, o_sub, o_lt, o_le, o_gt, o_ge, o_max, o_min, o_eqI, o_eqS, o_neI, o_neS, o_eqB, o_neB, o_is0, o_isI, o_isS, o_isT, o_isB, o_isn0, o_isnI, o_isnS, o_isnT, o_neg, o_abs, o_intI, o_intB, l_lst, l_nst, l_tup, l_flst, l_dct, t_non, t_bl, t_int, t_lst, t_nst, t_tup, t_dct, i_nil, ty_int, ty_str, ty_bl, ty_non, ty_tup, ty_lst, ow_im, ow_lst, ow_nst, ow_dct, ow_dnn, iD_int, if_true, if_false, Bool.false_eq_true, reduceIte, decide_true, decide_false, decide_eq_true_eq, Nat.reduceLT, Nat.reduceAdd, Nat.reduceSub, callA, takeA, putA, fzs, fzM, mkL, imsOf, List.zip_cons_cons, List.zip_nil_left, List.zip_nil_right, true_and, and_true, List.filterMap_cons, List.filterMap_nil, stays, itemsM, seqM, unsetAll, parM, reduceCtorEq, ne_app, pop_app, popN_app, g_last, lm_lst, lm_nst, Bool.not_false, Bool.not_true, List.filterMap_cons, isiM, ite_true, ite_false, u_ow, app_lst b1]
      exact ih1 (x, 8, 1 + c2) _ _ _ hx0
    · simp -implicitDefEqProofs only [xss, CP.xs, CP.ev, CP.evs, takeK, evT, evTs, evA, evI, bor, two, evP, setP, fin_some, fin_none, bindO_some, bindO_none, slot0, slot1, set0, set1, List.map_cons, List.map_nil, List.cons_append, List.nil_append, List.getElem?_cons_zero, List.getElem?_cons_succ, Option.bind_some, Option.map_some, Option.getD_some, id, List.length_cons, List.length_nil, List.replicate_succ, List.replicate_zero, bindT, bindTs, tupM, List.length_set, Nat.zero_add, o_mulR, o_mulL, CP.small64, o_mod, o_fdiv, o_pow, o_lenL, o_lenN, o_lenT, o_lenF, o_lenD, o_listL, o_listT, o_listF, o_tupL, o_tupT, o_boolI, Bool.and_true, Bool.true_and, Bool.and_self, Int.reduceNeg, Int.reducePow, Int.reduceLT, Int.reduceLE, Int.reduceAdd, Int.reduceToNat, Int.natAbs_natCast, o_add, o_sub, o_lt, o_le, o_gt, o_ge, o_max, o_min, o_eqI, o_eqS, o_neI, o_neS, o_eqB, o_neB, o_is0, o_isI, o_isS, o_isT, o_isB, o_isn0, o_isnI, o_isnS, o_isnT, o_neg, o_abs, o_intI, o_intB, l_lst, l_nst, l_tup, l_flst, l_dct, t_non, t_bl, t_int, t_lst, t_nst, t_tup, t_dct, i_nil, ty_int, ty_str, ty_bl, ty_non, ty_tup, ty_lst, ow_im, ow_lst, ow_nst, ow_dct, ow_dnn, iD_int, if_true, if_false, Bool.false_eq_true, reduceIte, decide_true, decide_false, decide_eq_true_eq, Nat.reduceLT, Nat.reduceAdd, Nat.reduceSub, callA, takeA, putA, fzs, fzM, mkL, imsOf, List.zip_cons_cons, List.zip_nil_left, List.zip_nil_right, true_and, and_true, List.filterMap_cons, List.filterMap_nil, stays, itemsM, seqM, unsetAll, parM, reduceCtorEq, ne_app, pop_app, popN_app, g_last, lm_lst, lm_nst, Bool.not_false, Bool.not_true, List.filterMap_cons, isiM, ite_true, ite_false, u_ow, h9, h3, decide_false]
      split
      · refine ⟨l1, a1, g, 8, rfl, by omega, fun c2 l2 a2 _ _ => ?_⟩
        simp -implicitDefEqProofs only [xss, CP.xs, CP.ev, CP.evs, takeK, evT, evTs, evA, evI, bor, two, evP, setP, fin_some, fin_none, bindO_some, bindO_none, slot0, slot1, set0, set1, List.map_cons, List.map_nil, List.cons_append, List.nil_append, List.getElem?_cons_zero, List.getElem?_cons_succ, Option.bind_some, Option.map_some, Option.getD_some, id, List.length_cons, List.length_nil, List.replicate_succ, List.replicate_zero, bindT, bindTs, tupM, List.length_set, Nat.zero_add, o_mulR, o_mulL, CP.small64, o_mod, o_fdiv, o_pow, o_lenL, o_lenN, o_lenT, o_lenF, o_lenD, o_listL, o_listT, o_listF, o_tupL, o_tupT, o_boolI, Bool.and_true, Bool.true_and, Bool.and_self, Int.reduceNeg, Int.reducePow, Int.reduceLT, Int.reduceLE, Int.reduceAdd, Int.reduceToNat, Int.natAbs_natCast, o_add, o_sub, o_lt, o_le, o_gt, o_ge, o_max, o_min, o_eqI, o_eqS, o_neI, o_neS, o_eqB, o_neB, o_is0, o_isI, o_isS, o_isT, o_isB, o_isn0, o_isnI, o_isnS, o_isnT, o_neg, o_abs, o_intI, o_intB, l_lst, l_nst, l_tup, l_flst, l_dct, t_non, t_bl, t_int, t_lst, t_nst, t_tup, t_dct, i_nil, ty_int, ty_str, ty_bl, ty_non, ty_tup, ty_lst, ow_im, ow_lst, ow_nst, ow_dct, ow_dnn, iD_int, if_true, if_false, Bool.false_eq_true, reduceIte, decide_true, decide_false, decide_eq_true_eq, Nat.reduceLT, Nat.reduceAdd, Nat.reduceSub, callA, takeA, putA, fzs, fzM, mkL, imsOf, List.zip_cons_cons, List.zip_nil_left, List.zip_nil_right, true_and, and_true, List.filterMap_cons, List.filterMap_nil, stays, itemsM, seqM, unsetAll, parM, reduceCtorEq, ne_app, pop_app, popN_app, g_last, lm_lst, lm_nst, Bool.not_false, Bool.not_true, List.filterMap_cons, isiM, ite_true, ite_false, u_ow, h9]
        refine ⟨l2, a2, g, 99, rfl, by omega, fun c3 l3 a3 _ _ => ?_⟩
        simp -implicitDefEqProofs only [xss, CP.xs, CP.ev, CP.evs, takeK, evT, evTs, evA, evI, bor, two, evP, setP, fin_some, fin_none, bindO_some, bindO_none, slot0, slot1, set0, set1, List.map_cons, List.map_nil, List.cons_append, List.nil_append, List.getElem?_cons_zero, List.getElem?_cons_succ, Option.bind_some, Option.map_some, Option.getD_some, id, List.length_cons, List.length_nil, List.replicate_succ, List.replicate_zero, bindT, bindTs, tupM, List.length_set, Nat.zero_add, o_mulR, o_mulL, CP.small64, o_mod, o_fdiv, o_pow, o_lenL, o_lenN, o_lenT, o_lenF, o_lenD, o_listL, o_listT, o_listF, o_tupL, o_tupT, o_boolI, Bool.and_true, Bool.true_and, Bool.and_self, Int.reduceNeg, Int.reducePow, Int.reduceLT, Int.reduceLE, Int.reduceAdd, Int.reduceToNat, Int.natAbs_natCast, o_add, o_sub, o_lt, o_le, o_gt, o_ge, o_max, o_min, o_eqI, o_eqS, o_neI, o_neS, o_eqB, o_neB, o_is0, o_isI, o_isS, o_isT, o_isB, o_isn0, o_isnI, o_isnS, o_isnT, o_neg, o_abs, o_intI, o_intB, l_lst, l_nst, l_tup, l_flst, l_dct, t_non, t_bl, t_int, t_lst, t_nst, t_tup, t_dct, i_nil, ty_int, ty_str, ty_bl, ty_non, ty_tup, ty_lst, ow_im, ow_lst, ow_nst, ow_dct, ow_dnn, iD_int, if_true, if_false, Bool.false_eq_true, reduceIte, decide_true, decide_false, decide_eq_true_eq, Nat.reduceLT, Nat.reduceAdd, Nat.reduceSub, callA, takeA, putA, fzs, fzM, mkL, imsOf, List.zip_cons_cons, List.zip_nil_left, List.zip_nil_right, true_and, and_true, List.filterMap_cons, List.filterMap_nil, stays, itemsM, seqM, unsetAll, parM, reduceCtorEq, ne_app, pop_app, popN_app, g_last, lm_lst, lm_nst, Bool.not_false, Bool.not_true, List.filterMap_cons, isiM, ite_true, ite_false, u_ow, app_lst b1]
        exact ih1 (x, 1 + c2, 1 + c3) _ _ _ hx0
      · exact ih0 _ _ _
theorem w_out {Γ : Nat → CP.Sp} (h9 : Γ 9 = sipSp) {Kk : Ks} {P1 P2 : Option M} {g : List Int} {sg : List Int} (hsg : ∀ x ∈ sg, 0 ≤ x ∧ x < 20) (hl3 : sg.length = 3) : ∀ (n j : Nat) (acc : List (Str × List Tm)) (l : Int) (a : Nat) (x y z : Option M), j + n ≤ 16 → acc.length = j → acc.map (·.1) = wnS.take j → (∀ p ∈ acc, p.2.length ≤ 20 ∧ ∀ t ∈ p.2, T20 t) →
    (∀ (acc : List (Str × List Tm)) l a x y z, acc.length = j + n → acc.map (·.1) = wnS.take (j + n) → (∀ p ∈ acc, p.2.length ≤ 20 ∧ ∀ t ∈ p.2, T20 t) → Kk.nx [some (urnM l a g), P1, P2, some (.lst (acc.map stD)), some (.im (.tup (sg.map .int))), x, y, z]) →
    forR (fun _ => True) (fun d s => bindT t20_1 (.im d) s) (xss G Γ l20_2) Kk ((List.range' j n).map fun (k : Nat) => D.int (k : Int)) [some (urnM l a g), P1, P2, some (.lst (acc.map stD)), some (.im (.tup (sg.map .int))), x, y, z]
  | 0, j, acc, l, a, x, y, z, _, hl, hm, hp, q => q acc l a x y z hl hm hp
  | n + 1, j, acc, l, a, x, y, z, hb, hl, hm, hp, q => by
    have gd : wnS[j]? = some ("str" ++ tx j) := by
      unfold wnS
      rw [List.getElem?_map, List.getElem?_range (by omega)]
      rfl
    have ih := fun (ts : List Tm) l a x y z h1 => w_out (Γ := Γ) h9 (Kk := Kk) (P1 := P1) (P2 := P2) (g := g) hsg hl3 n (j + 1) (acc ++ [("str" ++ tx j, ts)]) l a x y z (by omega) (by rw [List.length_append, hl]; rfl) (by rw [List.map_append, hm, take_snoc gd]; rfl) h1 (fun acc l a x y z h1 h2 h3 => q acc l a x y z (by omega) (by rw [h2]; congr 1; omega) h3)
    have b1 : (acc.map stD).length < 16777216 := by rw [List.length_map]; omega
    have hst := o_str (sm140 (k := j) (by omega))
    have hal : ("str" : Str).length + (tx j).length ≤ 16777216 := by have := tx_len (w := (j : Int)) (by omega) (sm140 (by omega)); have : ("str" : Str).length = 3 := rfl; omega
    rw [List.range'_succ, List.map_cons, for_cons]
    simp -implicitDefEqProofs only [List.map_append, List.map_cons, List.map_nil] at ih
    generalize forR (fun _ => True) (fun d s => bindT t20_1 (.im d) s) (xss G Γ l20_2) Kk ((List.range' (j + 1) n).map fun (k : Nat) => D.int (k : Int)) = W at ih ⊢
    have last : ∀ (ts : List Tm) l a w, (∀ t ∈ ts, T20 t) → ts.length ≤ 20 → xss G Γ (.cons (.exp (.mth1 .append (.var 3) (.tup (.cons (.op2 .add (.p (.str "str")) (.op1 .str (.v 5))) (.cons (.op1 .tuple (.srt (.v 6))) .nil))))) .nil) { Kk with nx := fun σ' => True ∧ W σ', ct := fun σ' => True ∧ W σ', bk := Kk.nx } [some (urnM l a g), P1, P2, some (.lst (acc.map stD)), some (.im (.tup (sg.map .int))), some (.im (.int (j : Int))), some (.lst (ts.map tmD)), w] := fun ts l a w ht hn => by
      simp -implicitDefEqProofs only [xss, CP.xs, CP.ev, CP.evs, takeK, evT, evTs, evA, evI, bor, two, evP, setP, fin_some, fin_none, bindO_some, bindO_none, slot0, slot1, set0, set1, List.map_cons, List.map_nil, List.cons_append, List.nil_append, List.getElem?_cons_zero, List.getElem?_cons_succ, Option.bind_some, Option.map_some, Option.getD_some, id, List.length_cons, List.length_nil, List.replicate_succ, List.replicate_zero, bindT, bindTs, tupM, List.length_set, Nat.zero_add, o_mulR, o_mulL, CP.small64, o_mod, o_fdiv, o_pow, o_lenL, o_lenN, o_lenT, o_lenF, o_lenD, o_listL, o_listT, o_listF, o_tupL, o_tupT, o_boolI, Bool.and_true, Bool.true_and, Bool.and_self, Int.reduceNeg, Int.reducePow, Int.reduceLT, Int.reduceLE, Int.reduceAdd, Int.reduceToNat, Int.natAbs_natCast, o_add, o_sub, o_lt, o_le, o_gt, o_ge, o_max, o_min, o_eqI, o_eqS, o_neI, o_neS, o_eqB, o_neB, o_is0, o_isI, o_isS, o_isT, o_isB, o_isn0, o_isnI, o_isnS, o_isnT, o_neg, o_abs, o_intI, o_intB, l_lst, l_nst, l_tup, l_flst, l_dct, t_non, t_bl, t_int, t_lst, t_nst, t_tup, t_dct, i_nil, ty_int, ty_str, ty_bl, ty_non, ty_tup, ty_lst, ow_im, ow_lst, ow_nst, ow_dct, ow_dnn, iD_int, if_true, if_false, Bool.false_eq_true, reduceIte, decide_true, decide_false, decide_eq_true_eq, Nat.reduceLT, Nat.reduceAdd, Nat.reduceSub, callA, takeA, putA, fzs, fzM, mkL, imsOf, List.zip_cons_cons, List.zip_nil_left, List.zip_nil_right, true_and, and_true, List.filterMap_cons, List.filterMap_nil, stays, itemsM, seqM, unsetAll, parM, reduceCtorEq, ne_app, pop_app, popN_app, g_last, lm_lst, lm_nst, Bool.not_false, Bool.not_true, List.filterMap_cons, isiM, ite_true, ite_false, u_ow, hst, o_addS hal, lstM]
      refine ⟨by rw [List.length_map]; omega, fun e he => ?_, fun es hpm => ?_⟩
      · obtain ⟨t, _, rfl⟩ := List.mem_map.mp he
        exact ⟨[t.1, t.2.1, t.2.2], List.cons_ne_nil _ _, rfl⟩
      · obtain ⟨us, rfl, hus⟩ := lift_list (F := tmD) (P := fun t => t ∈ ts) (es := es) fun e he => by
          obtain ⟨t, htm, rfl⟩ := List.mem_map.mp (hpm.mem_iff.mp he)
          exact ⟨t, htm, rfl⟩
        have hul : us.length = ts.length := by have := hpm.length_eq; simpa using this
        simp -implicitDefEqProofs only [xss, CP.xs, CP.ev, CP.evs, takeK, evT, evTs, evA, evI, bor, two, evP, setP, fin_some, fin_none, bindO_some, bindO_none, slot0, slot1, set0, set1, List.map_cons, List.map_nil, List.cons_append, List.nil_append, List.getElem?_cons_zero, List.getElem?_cons_succ, Option.bind_some, Option.map_some, Option.getD_some, id, List.length_cons, List.length_nil, List.replicate_succ, List.replicate_zero, bindT, bindTs, tupM, List.length_set, Nat.zero_add, o_mulR, o_mulL, CP.small64, o_mod, o_fdiv, o_pow, o_lenL, o_lenN, o_lenT, o_lenF, o_lenD, o_listL, o_listT, o_listF, o_tupL, o_tupT, o_boolI, Bool.and_true, Bool.true_and, Bool.and_self, Int.reduceNeg, Int.reducePow, Int.reduceLT, Int.reduceLE, Int.reduceAdd, Int.reduceToNat, Int.natAbs_natCast, o_add, o_sub, o_lt, o_le, o_gt, o_ge, o_max, o_min, o_eqI, o_eqS, o_neI, o_neS, o_eqB, o_neB, o_is0, o_isI, o_isS, o_isT, o_isB, o_isn0, o_isnI, o_isnS, o_isnT, o_neg, o_abs, o_intI, o_intB, l_lst, l_nst, l_tup, l_flst, l_dct, t_non, t_bl, t_int, t_lst, t_nst, t_tup, t_dct, i_nil, ty_int, ty_str, ty_bl, ty_non, ty_tup, ty_lst, ow_im, ow_lst, ow_nst, ow_dct, ow_dnn, iD_int, if_true, if_false, Bool.false_eq_true, reduceIte, decide_true, decide_false, decide_eq_true_eq, Nat.reduceLT, Nat.reduceAdd, Nat.reduceSub, callA, takeA, putA, fzs, fzM, mkL, imsOf, List.zip_cons_cons, List.zip_nil_left, List.zip_nil_right, true_and, and_true, List.filterMap_cons, List.filterMap_nil, stays, itemsM, seqM, unsetAll, parM, reduceCtorEq, ne_app, pop_app, popN_app, g_last, lm_lst, lm_nst, Bool.not_false, Bool.not_true, List.filterMap_cons, isiM, ite_true, ite_false, u_ow, app_lst b1]
        refine ih us _ _ _ _ _ fun p hpp => ?_
        rcases List.mem_append.mp hpp with hpp | hpp
        · exact hp p hpp
        · rw [List.mem_singleton.mp hpp]
          exact ⟨by show us.length ≤ 20; omega, fun t htm => ht t (hus t htm)⟩
    have hb0 : bindT t20_1 (.im (.int (j : Int))) [some (urnM l a g), P1, P2, some (.lst (acc.map stD)), some (.im (.tup (sg.map .int))), x, y, z] = some [some (urnM l a g), P1, P2, some (.lst (acc.map stD)), some (.im (.tup (sg.map .int))), some (.im (.int (j : Int))), y, z] := rfl
    rw [hb0, bindO_some, l20_2, seq_c]
    have s1 : ∀ Kx : Ks, CP.xs G Γ (.asg (.v 6) (.lst (.cons (.tup (.cons (.p (.int 0)) (.cons (.p (.int 0)) (.cons (.p (.int 1)) .nil)))) (.cons (.tup (.cons (.p (.int 1)) (.cons (.p (.int 0)) (.cons (.op1 .neg (.p (.int 1))) .nil)))) (.cons (.tup (.cons (.p (.int 2)) (.cons (.p (.int 0)) (.cons (.p (.int 1)) .nil)))) (.cons (.tup (.cons (.p (.int 3)) (.cons (.p (.int 0)) (.cons (.p (.int 5)) .nil)))) .nil)))))) Kx [some (urnM l a g), P1, P2, some (.lst (acc.map stD)), some (.im (.tup (sg.map .int))), some (.im (.int (j : Int))), y, z] =
        Kx.nx [some (urnM l a g), P1, P2, some (.lst (acc.map stD)), some (.im (.tup (sg.map .int))), some (.im (.int (j : Int))), some (.lst (([(0, 0, 1), (1, 0, -1), (2, 0, 1), (3, 0, 5)] : List Tm).map tmD)), z] := fun Kx => by
      simp -implicitDefEqProofs only [xss, CP.xs, CP.ev, CP.evs, takeK, evT, evTs, evA, evI, bor, two, evP, setP, fin_some, fin_none, bindO_some, bindO_none, slot0, slot1, set0, set1, List.map_cons, List.map_nil, List.cons_append, List.nil_append, List.getElem?_cons_zero, List.getElem?_cons_succ, Option.bind_some, Option.map_some, Option.getD_some, id, List.length_cons, List.length_nil, List.replicate_succ, List.replicate_zero, bindT, bindTs, tupM, List.length_set, Nat.zero_add, o_mulR, o_mulL, CP.small64, o_mod, o_fdiv, o_pow, o_lenL, o_lenN, o_lenT, o_lenF, o_lenD, o_listL, o_listT, o_listF, o_tupL, o_tupT, o_boolI, Bool.and_true, Bool.true_and, Bool.and_self, Int.reduceNeg, Int.reducePow, Int.reduceLT, Int.reduceLE, Int.reduceAdd, Int.reduceToNat, Int.natAbs_natCast, o_add, o_sub, o_lt, o_le, o_gt, o_ge, o_max, o_min, o_eqI, o_eqS, o_neI, o_neS, o_eqB, o_neB, o_is0, o_isI, o_isS, o_isT, o_isB, o_isn0, o_isnI, o_isnS, o_isnT, o_neg, o_abs, o_intI, o_intB, l_lst, l_nst, l_tup, l_flst, l_dct, t_non, t_bl, t_int, t_lst, t_nst, t_tup, t_dct, i_nil, ty_int, ty_str, ty_bl, ty_non, ty_tup, ty_lst, ow_im, ow_lst, ow_nst, ow_dct, ow_dnn, iD_int, if_true, if_false, Bool.false_eq_true, reduceIte, decide_true, decide_false, decide_eq_true_eq, Nat.reduceLT, Nat.reduceAdd, Nat.reduceSub, callA, takeA, putA, fzs, fzM, mkL, imsOf, List.zip_cons_cons, List.zip_nil_left, List.zip_nil_right, true_and, and_true, List.filterMap_cons, List.filterMap_nil, stays, itemsM, seqM, unsetAll, parM, reduceCtorEq, ne_app, pop_app, popN_app, g_last, lm_lst, lm_nst, Bool.not_false, Bool.not_true, List.filterMap_cons, isiM, ite_true, ite_false]
      rfl
    rw [s1]
    dsimp only
    rw [seq_c]
    have s2 : ∀ Kx : Ks, CP.xs G Γ (.for t20_2 (.seq (.v 4)) l20_1) Kx [some (urnM l a g), P1, P2, some (.lst (acc.map stD)), some (.im (.tup (sg.map .int))), some (.im (.int (j : Int))), some (.lst (([(0, 0, 1), (1, 0, -1), (2, 0, 1), (3, 0, 5)] : List Tm).map tmD)), z] =
        forR (fun _ => True) (fun d s => bindT t20_2 (.im d) s) (xss G Γ l20_1) Kx (sg.map .int) [some (urnM l a g), P1, P2, some (.lst (acc.map stD)), some (.im (.tup (sg.map .int))), some (.im (.int (j : Int))), some (.lst (([(0, 0, 1), (1, 0, -1), (2, 0, 1), (3, 0, 5)] : List Tm).map tmD)), z] := fun Kx => by
      simp -implicitDefEqProofs only [xss, CP.xs, CP.ev, CP.evs, takeK, evT, evTs, evA, evI, bor, two, evP, setP, fin_some, fin_none, bindO_some, bindO_none, slot0, slot1, set0, set1, List.map_cons, List.map_nil, List.cons_append, List.nil_append, List.getElem?_cons_zero, List.getElem?_cons_succ, Option.bind_some, Option.map_some, Option.getD_some, id, List.length_cons, List.length_nil, List.replicate_succ, List.replicate_zero, bindT, bindTs, tupM, List.length_set, Nat.zero_add, o_mulR, o_mulL, CP.small64, o_mod, o_fdiv, o_pow, o_lenL, o_lenN, o_lenT, o_lenF, o_lenD, o_listL, o_listT, o_listF, o_tupL, o_tupT, o_boolI, Bool.and_true, Bool.true_and, Bool.and_self, Int.reduceNeg, Int.reducePow, Int.reduceLT, Int.reduceLE, Int.reduceAdd, Int.reduceToNat, Int.natAbs_natCast, o_add, o_sub, o_lt, o_le, o_gt, o_ge, o_max, o_min, o_eqI, o_eqS, o_neI, o_neS, o_eqB, o_neB, o_is0, o_isI, o_isS, o_isT, o_isB, o_isn0, o_isnI, o_isnS, o_isnT, o_neg, o_abs, o_intI, o_intB, l_lst, l_nst, l_tup, l_flst, l_dct, t_non, t_bl, t_int, t_lst, t_nst, t_tup, t_dct, i_nil, ty_int, ty_str, ty_bl, ty_non, ty_tup, ty_lst, ow_im, ow_lst, ow_nst, ow_dct, ow_dnn, iD_int, if_true, if_false, Bool.false_eq_true, reduceIte, decide_true, decide_false, decide_eq_true_eq, Nat.reduceLT, Nat.reduceAdd, Nat.reduceSub, callA, takeA, putA, fzs, fzM, mkL, imsOf, List.zip_cons_cons, List.zip_nil_left, List.zip_nil_right, true_and, and_true, List.filterMap_cons, List.filterMap_nil, stays, itemsM, seqM, unsetAll, parM, reduceCtorEq, ne_app, pop_app, popN_app, g_last, lm_lst, lm_nst, Bool.not_false, Bool.not_true, List.filterMap_cons, isiM, ite_true, ite_false]
    rw [s2]
    refine w_in h9 sg _ l a z hsg (fun t ht => ?_) (by simp; omega) fun ts l1 a1 w ht hn => ?_
    · simp -implicitDefEqProofs only [List.mem_cons, List.not_mem_nil, or_false] at ht
      rcases ht with rfl | rfl | rfl | rfl <;> exact ⟨by decide, by decide⟩
    · simp -implicitDefEqProofs only [List.length_cons, List.length_nil] at hn
      dsimp only
      have b2 : (ts.map tmD).length < 16777216 := by rw [List.length_map]; omega
      rw [seq_c]
      by_cases h0 : (j : Int) > 0
      · have s3 : ∀ Kx : Ks, CP.xs G Γ (.ife (.c (.op2 .gt (.v 5) (.p (.int 0)))) (.cons (.exp (.mth1 .append (.var 6) (.tup (.cons (.op2 .add (.p (.int 3)) (.v 5)) (.cons (.p (.int 0)) (.cons (.op1 .neg (.p (.int 99))) .nil)))))) .nil) .nil) Kx [some (urnM l1 a1 g), P1, P2, some (.lst (acc.map stD)), some (.im (.tup (sg.map .int))), some (.im (.int (j : Int))), some (.lst (ts.map tmD)), w] =
            Kx.nx [some (urnM l1 a1 g), P1, P2, some (.lst (acc.map stD)), some (.im (.tup (sg.map .int))), some (.im (.int (j : Int))), some (.lst ((ts ++ [((3 + (j : Int), 0, -99) : Tm)]).map tmD)), w] := fun Kx => by
          simp -implicitDefEqProofs only [xss, CP.xs, CP.ev, CP.evs, takeK, evT, evTs, evA, evI, bor, two, evP, setP, fin_some, fin_none, bindO_some, bindO_none, slot0, slot1, set0, set1, List.map_cons, List.map_nil, List.cons_append, List.nil_append, List.getElem?_cons_zero, List.getElem?_cons_succ, Option.bind_some, Option.map_some, Option.getD_some, id, List.length_cons, List.length_nil, List.replicate_succ, List.replicate_zero, bindT, bindTs, tupM, List.length_set, Nat.zero_add, o_mulR, o_mulL, CP.small64, o_mod, o_fdiv, o_pow, o_lenL, o_lenN, o_lenT, o_lenF, o_lenD, o_listL, o_listT, o_listF, o_tupL, o_tupT, o_boolI, Bool.and_true, Bool.true_and, Bool.and_self, Int.reduceNeg, Int.reducePow, Int.reduceLT, Int.reduceLE, Int.reduceAdd, Int.reduceToNat, Int.natAbs_natCast, o_add, o_sub, o_lt, o_le, o_gt, o_ge, o_max, o_min, o_eqI, o_eqS, o_neI, o_neS, o_eqB, o_neB, o_is0, o_isI, o_isS, o_isT, o_isB, o_isn0, o_isnI, o_isnS, o_isnT, o_neg, o_abs, o_intI, o_intB, l_lst, l_nst, l_tup, l_flst, l_dct, t_non, t_bl, t_int, t_lst, t_nst, t_tup, t_dct, i_nil, ty_int, ty_str, ty_bl, ty_non, ty_tup, ty_lst, ow_im, ow_lst, ow_nst, ow_dct, ow_dnn, iD_int, if_true, if_false, Bool.false_eq_true, reduceIte, decide_true, decide_false, decide_eq_true_eq, Nat.reduceLT, Nat.reduceAdd, Nat.reduceSub, callA, takeA, putA, fzs, fzM, mkL, imsOf, List.zip_cons_cons, List.zip_nil_left, List.zip_nil_right, true_and, and_true, List.filterMap_cons, List.filterMap_nil, stays, itemsM, seqM, unsetAll, parM, reduceCtorEq, ne_app, pop_app, popN_app, g_last, lm_lst, lm_nst, Bool.not_false, Bool.not_true, List.filterMap_cons, isiM, ite_true, ite_false, h0, app_lst b2, List.map_append]
          rfl
        rw [s3]
        refine last _ _ _ _ (fun t htm => ?_) (by rw [List.length_append, List.length_singleton]; omega)
        rcases List.mem_append.mp htm with htm | htm
        · exact ht t htm
        · rw [List.mem_singleton.mp htm]
          exact ⟨by show (0 : Int) ≤ 3 + (j : Int); omega, by show 3 + (j : Int) < 20; omega⟩
      · have s3 : ∀ Kx : Ks, CP.xs G Γ (.ife (.c (.op2 .gt (.v 5) (.p (.int 0)))) (.cons (.exp (.mth1 .append (.var 6) (.tup (.cons (.op2 .add (.p (.int 3)) (.v 5)) (.cons (.p (.int 0)) (.cons (.op1 .neg (.p (.int 99))) .nil)))))) .nil) .nil) Kx [some (urnM l1 a1 g), P1, P2, some (.lst (acc.map stD)), some (.im (.tup (sg.map .int))), some (.im (.int (j : Int))), some (.lst (ts.map tmD)), w] =
            Kx.nx [some (urnM l1 a1 g), P1, P2, some (.lst (acc.map stD)), some (.im (.tup (sg.map .int))), some (.im (.int (j : Int))), some (.lst (ts.map tmD)), w] := fun Kx => by
          simp -implicitDefEqProofs only [xss, CP.xs, CP.ev, CP.evs, takeK, evT, evTs, evA, evI, bor, two, evP, setP, fin_some, fin_none, bindO_some, bindO_none, slot0, slot1, set0, set1, List.map_cons, List.map_nil, List.cons_append, List.nil_append, List.getElem?_cons_zero, List.getElem?_cons_succ, Option.bind_some, Option.map_some, Option.getD_some, id, List.length_cons, List.length_nil, List.replicate_succ, List.replicate_zero, bindT, bindTs, tupM, List.length_set, Nat.zero_add, o_mulR, o_mulL, CP.small64, o_mod, o_fdiv, o_pow, o_lenL, o_lenN, o_lenT, o_lenF, o_lenD, o_listL, o_listT, o_listF, o_tupL, o_tupT, o_boolI, Bool.and_true, Bool.true_and, Bool.and_self, Int.reduceNeg, Int.reducePow, Int.reduceLT, Int.reduceLE, Int.reduceAdd, Int.reduceToNat, Int.natAbs_natCast, o_add, o_sub, o_lt, o_le, o_gt, o_ge, o_max, o_min, o_eqI, o_eqS, o_neI, o_neS, o_eqB, o_neB, o_is0, o_isI, o_isS, o_isT, o_isB, o_isn0, o_isnI, o_isnS, o_isnT, o_neg, o_abs, o_intI, o_intB, l_lst, l_nst, l_tup, l_flst, l_dct, t_non, t_bl, t_int, t_lst, t_nst, t_tup, t_dct, i_nil, ty_int, ty_str, ty_bl, ty_non, ty_tup, ty_lst, ow_im, ow_lst, ow_nst, ow_dct, ow_dnn, iD_int, if_true, if_false, Bool.false_eq_true, reduceIte, decide_true, decide_false, decide_eq_true_eq, Nat.reduceLT, Nat.reduceAdd, Nat.reduceSub, callA, takeA, putA, fzs, fzM, mkL, imsOf, List.zip_cons_cons, List.zip_nil_left, List.zip_nil_right, true_and, and_true, List.filterMap_cons, List.filterMap_nil, stays, itemsM, seqM, unsetAll, parM, reduceCtorEq, ne_app, pop_app, popN_app, g_last, lm_lst, lm_nst, Bool.not_false, Bool.not_true, List.filterMap_cons, isiM, ite_true, ite_false, h0]
        rw [s3]
        exact last _ _ _ _ ht (by omega)
def widSp : CP.Sp := fun ms Q E => ∃ l a g, ms = [urnM l a g] ∧ ∀ (n : Net) l' a', n.ok → Q (.im (netD n)) [some (urnM l' a' g)]
theorem wid_ok {Γ : Nat → CP.Sp} (h9 : Γ 9 = sipSp) : ∀ ms Q E, widSp ms Q E → bodySp p20.length n20.length A20 (xss G Γ b20) ms Q E := by
  rintro ms Q E ⟨l, a, g, rfl, q⟩
  refine ⟨rfl, ?_⟩
  simp -implicitDefEqProofs only [xss, CP.xs, CP.ev, CP.evs, takeK, evT, evTs, evA, evI, bor, two, evP, setP, fin_some, fin_none, bindO_some, bindO_none, slot0, slot1, set0, set1, List.map_cons, List.map_nil, List.cons_append, List.nil_append, List.getElem?_cons_zero, List.getElem?_cons_succ, Option.bind_some, Option.map_some, Option.getD_some, id, List.length_cons, List.length_nil, List.replicate_succ, List.replicate_zero, bindT, bindTs, tupM, List.length_set, Nat.zero_add, o_mulR, o_mulL, CP.small64, o_mod, o_fdiv, o_pow, o_lenL, o_lenN, o_lenT, o_lenF, o_lenD, o_listL, o_listT, o_listF, o_tupL, o_tupT, o_boolI, Bool.and_true, Bool.true_and, Bool.and_self, Int.reduceNeg, Int.reducePow, Int.reduceLT, Int.reduceLE, Int.reduceAdd, Int.reduceToNat, Int.natAbs_natCast, o_add, o_sub, o_lt, o_le, o_gt, o_ge, o_max, o_min, o_eqI, o_eqS, o_neI, o_neS, o_eqB, o_neB, o_is0, o_isI, o_isS, o_isT, o_isB, o_isn0, o_isnI, o_isnS, o_isnT, o_neg, o_abs, o_intI, o_intB, l_lst, l_nst, l_tup, l_flst, l_dct, t_non, t_bl, t_int, t_lst, t_nst, t_tup, t_dct, i_nil, ty_int, ty_str, ty_bl, ty_non, ty_tup, ty_lst, ow_im, ow_lst, ow_nst, ow_dct, ow_dnn, iD_int, if_true, if_false, Bool.false_eq_true, reduceIte, decide_true, decide_false, decide_eq_true_eq, Nat.reduceLT, Nat.reduceAdd, Nat.reduceSub, callA, takeA, putA, fzs, fzM, mkL, imsOf, List.zip_cons_cons, List.zip_nil_left, List.zip_nil_right, true_and, and_true, List.filterMap_cons, List.filterMap_nil, stays, itemsM, seqM, unsetAll, parM, reduceCtorEq, ne_app, pop_app, popN_app, g_last, lm_lst, lm_nst, Bool.not_false, Bool.not_true, List.filterMap_cons, isiM, ite_true, ite_false, h9, u_ow]
  refine lc_map (fun k : Nat => D.int (k : Int)) (fun k : Nat => inpD ("i" ++ tx k, -9999, 9999)) rfl trivial (List.range 4) (fun k hk K kk => ?_) (by rw [List.length_range]; omega) ?_
  · have hk := List.mem_range.mp hk
    have hst := o_str (sm140 (k := k) (by omega))
    have hal : ("i" : Str).length + (tx k).length ≤ 16777216 := by have := tx_len (w := (k : Int)) (by omega) (sm140 (by omega)); have : ("i" : Str).length = 1 := rfl; omega
    simp -implicitDefEqProofs only [t20_3, e20_1, xss, CP.xs, CP.ev, CP.evs, takeK, evT, evTs, evA, evI, bor, two, evP, setP, fin_some, fin_none, bindO_some, bindO_none, slot0, slot1, set0, set1, List.map_cons, List.map_nil, List.cons_append, List.nil_append, List.getElem?_cons_zero, List.getElem?_cons_succ, Option.bind_some, Option.map_some, Option.getD_some, id, List.length_cons, List.length_nil, List.replicate_succ, List.replicate_zero, bindT, bindTs, tupM, List.length_set, Nat.zero_add, o_mulR, o_mulL, CP.small64, o_mod, o_fdiv, o_pow, o_lenL, o_lenN, o_lenT, o_lenF, o_lenD, o_listL, o_listT, o_listF, o_tupL, o_tupT, o_boolI, Bool.and_true, Bool.true_and, Bool.and_self, Int.reduceNeg, Int.reducePow, Int.reduceLT, Int.reduceLE, Int.reduceAdd, Int.reduceToNat, Int.natAbs_natCast, o_add, o_sub, o_lt, o_le, o_gt, o_ge, o_max, o_min, o_eqI, o_eqS, o_neI, o_neS, o_eqB, o_neB, o_is0, o_isI, o_isS, o_isT, o_isB, o_isn0, o_isnI, o_isnS, o_isnT, o_neg, o_abs, o_intI, o_intB, l_lst, l_nst, l_tup, l_flst, l_dct, t_non, t_bl, t_int, t_lst, t_nst, t_tup, t_dct, i_nil, ty_int, ty_str, ty_bl, ty_non, ty_tup, ty_lst, ow_im, ow_lst, ow_nst, ow_dct, ow_dnn, iD_int, if_true, if_false, Bool.false_eq_true, reduceIte, decide_true, decide_false, decide_eq_true_eq, Nat.reduceLT, Nat.reduceAdd, Nat.reduceSub, callA, takeA, putA, fzs, fzM, mkL, imsOf, List.zip_cons_cons, List.zip_nil_left, List.zip_nil_right, true_and, and_true, List.filterMap_cons, List.filterMap_nil, stays, itemsM, seqM, unsetAll, parM, reduceCtorEq, ne_app, pop_app, popN_app, g_last, lm_lst, lm_nst, Bool.not_false, Bool.not_true, List.filterMap_cons, isiM, ite_true, ite_false, hst, o_addS hal]
    exact kk
  · have e1 : (List.range 4).map (fun k : Nat => inpD ("i" ++ tx k, -9999, 9999)) = ((List.range 4).map fun k : Nat => (("i" ++ tx k, -9999, 9999) : Str × Int × Int)).map inpD := by rw [List.map_map]; rfl
    rw [e1]
    generalize hI : ((List.range 4).map fun k : Nat => (("i" ++ tx k, -9999, 9999) : Str × Int × Int)) = ins
    have hin : ins.map (·.1) = wnI := by rw [← hI, List.map_map]; rfl
    have hil : ins.length = 4 := by rw [← hI]; simp
    simp -implicitDefEqProofs only [xss, CP.xs, CP.ev, CP.evs, takeK, evT, evTs, evA, evI, bor, two, evP, setP, fin_some, fin_none, bindO_some, bindO_none, slot0, slot1, set0, set1, List.map_cons, List.map_nil, List.cons_append, List.nil_append, List.getElem?_cons_zero, List.getElem?_cons_succ, Option.bind_some, Option.map_some, Option.getD_some, id, List.length_cons, List.length_nil, List.replicate_succ, List.replicate_zero, bindT, bindTs, tupM, List.length_set, Nat.zero_add, o_mulR, o_mulL, CP.small64, o_mod, o_fdiv, o_pow, o_lenL, o_lenN, o_lenT, o_lenF, o_lenD, o_listL, o_listT, o_listF, o_tupL, o_tupT, o_boolI, Bool.and_true, Bool.true_and, Bool.and_self, Int.reduceNeg, Int.reducePow, Int.reduceLT, Int.reduceLE, Int.reduceAdd, Int.reduceToNat, Int.natAbs_natCast, o_add, o_sub, o_lt, o_le, o_gt, o_ge, o_max, o_min, o_eqI, o_eqS, o_neI, o_neS, o_eqB, o_neB, o_is0, o_isI, o_isS, o_isT, o_isB, o_isn0, o_isnI, o_isnS, o_isnT, o_neg, o_abs, o_intI, o_intB, l_lst, l_nst, l_tup, l_flst, l_dct, t_non, t_bl, t_int, t_lst, t_nst, t_tup, t_dct, i_nil, ty_int, ty_str, ty_bl, ty_non, ty_tup, ty_lst, ow_im, ow_lst, ow_nst, ow_dct, ow_dnn, iD_int, if_true, if_false, Bool.false_eq_true, reduceIte, decide_true, decide_false, decide_eq_true_eq, Nat.reduceLT, Nat.reduceAdd, Nat.reduceSub, callA, takeA, putA, fzs, fzM, mkL, imsOf, List.zip_cons_cons, List.zip_nil_left, List.zip_nil_right, true_and, and_true, List.filterMap_cons, List.filterMap_nil, stays, itemsM, seqM, unsetAll, parM, reduceCtorEq, ne_app, pop_app, popN_app, g_last, lm_lst, lm_nst, Bool.not_false, Bool.not_true, List.filterMap_cons, isiM, ite_true, ite_false, h9, u_ow]
    refine ⟨l, a, g, 4, rfl, by omega, fun s l1 a1 hs0 hs1 => ?_⟩
    have hg : ∃ sg : List Int, getM (.lst [.tup [.int 0, .int 1, .int 2], .tup [.int 1, .int 2, .int 3], .tup [.int 0, .int 2, .int 3], .tup [.int 0, .int 1, .int 3]]) (.im (.int s)) = some (.im (.tup (sg.map .int))) ∧ (∀ x ∈ sg, 0 ≤ x ∧ x < 20) ∧ sg.length = 3 := by
      have : s = 0 ∨ s = 1 ∨ s = 2 ∨ s = 3 := by omega
      rcases this with rfl | rfl | rfl | rfl
      · exact ⟨[0, 1, 2], rfl, by decide, rfl⟩
      · exact ⟨[1, 2, 3], rfl, by decide, rfl⟩
      · exact ⟨[0, 2, 3], rfl, by decide, rfl⟩
      · exact ⟨[0, 1, 3], rfl, by decide, rfl⟩
    obtain ⟨sg, hg, hsg, hl3⟩ := hg
    simp -implicitDefEqProofs only [xss, CP.xs, CP.ev, CP.evs, takeK, evT, evTs, evA, evI, bor, two, evP, setP, fin_some, fin_none, bindO_some, bindO_none, slot0, slot1, set0, set1, List.map_cons, List.map_nil, List.cons_append, List.nil_append, List.getElem?_cons_zero, List.getElem?_cons_succ, Option.bind_some, Option.map_some, Option.getD_some, id, List.length_cons, List.length_nil, List.replicate_succ, List.replicate_zero, bindT, bindTs, tupM, List.length_set, Nat.zero_add, o_mulR, o_mulL, CP.small64, o_mod, o_fdiv, o_pow, o_lenL, o_lenN, o_lenT, o_lenF, o_lenD, o_listL, o_listT, o_listF, o_tupL, o_tupT, o_boolI, Bool.and_true, Bool.true_and, Bool.and_self, Int.reduceNeg, Int.reducePow, Int.reduceLT, Int.reduceLE, Int.reduceAdd, Int.reduceToNat, Int.natAbs_natCast, o_add, o_sub, o_lt, o_le, o_gt, o_ge, o_max, o_min, o_eqI, o_eqS, o_neI, o_neS, o_eqB, o_neB, o_is0, o_isI, o_isS, o_isT, o_isB, o_isn0, o_isnI, o_isnS, o_isnT, o_neg, o_abs, o_intI, o_intB, l_lst, l_nst, l_tup, l_flst, l_dct, t_non, t_bl, t_int, t_lst, t_nst, t_tup, t_dct, i_nil, ty_int, ty_str, ty_bl, ty_non, ty_tup, ty_lst, ow_im, ow_lst, ow_nst, ow_dct, ow_dnn, iD_int, if_true, if_false, Bool.false_eq_true, reduceIte, decide_true, decide_false, decide_eq_true_eq, Nat.reduceLT, Nat.reduceAdd, Nat.reduceSub, callA, takeA, putA, fzs, fzM, mkL, imsOf, List.zip_cons_cons, List.zip_nil_left, List.zip_nil_right, true_and, and_true, List.filterMap_cons, List.filterMap_nil, stays, itemsM, seqM, unsetAll, parM, reduceCtorEq, ne_app, pop_app, popN_app, g_last, lm_lst, lm_nst, Bool.not_false, Bool.not_true, List.filterMap_cons, isiM, ite_true, ite_false, u_ow, o_idx hg]
    rw [r_range 16]
    refine w_out h9 hsg hl3 16 0 [] l1 a1 _ _ _ (by omega) rfl (by simp) (fun p h => nomatch h) fun acc l2 a2 x y z h1 h2 h3 => ?_
    simp -implicitDefEqProofs only [xss, CP.xs, CP.ev, CP.evs, takeK, evT, evTs, evA, evI, bor, two, evP, setP, fin_some, fin_none, bindO_some, bindO_none, slot0, slot1, set0, set1, List.map_cons, List.map_nil, List.cons_append, List.nil_append, List.getElem?_cons_zero, List.getElem?_cons_succ, Option.bind_some, Option.map_some, Option.getD_some, id, List.length_cons, List.length_nil, List.replicate_succ, List.replicate_zero, bindT, bindTs, tupM, List.length_set, Nat.zero_add, o_mulR, o_mulL, CP.small64, o_mod, o_fdiv, o_pow, o_lenL, o_lenN, o_lenT, o_lenF, o_lenD, o_listL, o_listT, o_listF, o_tupL, o_tupT, o_boolI, Bool.and_true, Bool.true_and, Bool.and_self, Int.reduceNeg, Int.reducePow, Int.reduceLT, Int.reduceLE, Int.reduceAdd, Int.reduceToNat, Int.natAbs_natCast, o_add, o_sub, o_lt, o_le, o_gt, o_ge, o_max, o_min, o_eqI, o_eqS, o_neI, o_neS, o_eqB, o_neB, o_is0, o_isI, o_isS, o_isT, o_isB, o_isn0, o_isnI, o_isnS, o_isnT, o_neg, o_abs, o_intI, o_intB, l_lst, l_nst, l_tup, l_flst, l_dct, t_non, t_bl, t_int, t_lst, t_nst, t_tup, t_dct, i_nil, ty_int, ty_str, ty_bl, ty_non, ty_tup, ty_lst, ow_im, ow_lst, ow_nst, ow_dct, ow_dnn, iD_int, if_true, if_false, Bool.false_eq_true, reduceIte, decide_true, decide_false, decide_eq_true_eq, Nat.reduceLT, Nat.reduceAdd, Nat.reduceSub, callA, takeA, putA, fzs, fzM, mkL, imsOf, List.zip_cons_cons, List.zip_nil_left, List.zip_nil_right, true_and, and_true, List.filterMap_cons, List.filterMap_nil, stays, itemsM, seqM, unsetAll, parM, reduceCtorEq, ne_app, pop_app, popN_app, g_last, lm_lst, lm_nst, Bool.not_false, Bool.not_true, List.filterMap_cons, isiM, ite_true, ite_false, u_ow]
    have hn : (Net.mk ins acc).names = wnI ++ wnS := by
      show ins.map (·.1) ++ acc.map (·.1) = _
      rw [hin, h2, List.take_of_length_le (by unfold wnS; simp)]
    have hc : (Net.mk ins acc).cnt = 20 := by show ins.length + acc.length = _; omega
    refine q ⟨ins, acc⟩ _ _ ⟨by show ins.length ≤ 20; omega, by show acc.length ≤ 20; omega, fun p hp => ⟨(h3 p hp).1, fun t ht => ?_⟩, by rw [hn]; exact wn_nd, by rw [hn]; exact wn_sm, by rw [hc]; omega⟩
    rw [hc]
    exact (h3 p hp).2 t ht
end K10
namespace K10
open PySem PySem.Spec PyProof.Rows L2 CP
/-! ### what is told, or refused -/
def sigD : D := .tup [.str "raised", .str "signal"]
def toldD (d : D) : D := .tup [.str "told", d]
def nameRes (n : Net) (z : Str) : D := match n.names.idxOf? z with
  | some k => toldD (.int (k : Nat))
  | none => sigD
def userRes (n : Net) (g : Int) : D := if 0 ≤ g ∧ g < n.cnt then toldD (.tup ((n.users g).map .int)) else sigD
theorem caught {rt : D → Prop} {out : Prop} : catch_ G (xStep "signal") rt out [("EchoError", .ife (.or (.not (.isi ["BadStep"])) (.or (.not (.isi ["CallError"])) (.isi ["DataError"]))) (.tup [.c (.str "other")]) (.tup [.c (.str "raised"), .fld "word"]))] = rt sigD := by
  have s := sub_BadStep
  have e : ∀ x, hxE G (xStep "signal") (.fld x) = kget [(("word" : Str), D.str "signal")] x := fun x => by
    show (kget G.sub "BadStep").bind (fun _ => kget [(("word" : Str), D.str "signal")] x) = _
    rw [s]
    rfl
  have t : ∀ cs, htE G (xStep "signal") (.isi cs) = some (anyS ["BadStep", "CallError", "EchoError"] cs) := fun cs => by
    show (kget G.sub "BadStep").map (fun l => anyS l cs) = _
    rw [s]
    rfl
  have b1 : anyS ["BadStep", "CallError", "EchoError"] ["BadStep"] = true := by decide
  have b2 : anyS ["BadStep", "CallError", "EchoError"] ["CallError"] = true := by decide
  have b3 : anyS ["BadStep", "CallError", "EchoError"] ["DataError"] = false := by decide
  have s' : G.sub? (xStep "signal").cls = some (["BadStep", "CallError", "EchoError"] : List Str) := s
  have m : ("EchoError" : Str) ∈ (["BadStep", "CallError", "EchoError"] : List Str) := by decide
  have v : hsE G (xStep "signal") (.ife (.or (.not (.isi ["BadStep"])) (.or (.not (.isi ["CallError"])) (.isi ["DataError"]))) (.tup [.c (.str "other")]) (.tup [.c (.str "raised"), .fld "word"])) = some sigD := by
    simp -implicitDefEqProofs only [hsE, htE] at t ⊢
    simp -implicitDefEqProofs only [t, b1, b2, b3, Option.map_some, Option.bind_some, Bool.not_true, Bool.false_eq_true, if_false, hxsE, e]
    rfl
  unfold catch_
  rw [s']
  dsimp only
  rw [if_pos m, v]
def toldSp : CP.Sp := fun ms Q E => ∃ (c : Str) (n : Net) (th r : D), ms = [.im (.str c), .im (netD n), .im th] ∧ n.ok ∧ (((c = "number" ∨ c = "named") ∧ ∃ z, th = .str z ∧ r = nameRes n z) ∨ ((c = "users" ∨ c = "signal") ∧ ∃ g, th = .int g ∧ r = userRes n g)) ∧ ∀ o1 o2 o3, Q (.im r) [o1, o2, o3]
theorem nq1 : (("named" : Str) = "number") = False := by decide
theorem nq2 : (("users" : Str) = "number") = False := by decide
theorem nq3 : (("users" : Str) = "named") = False := by decide
theorem nq4 : (("signal" : Str) = "number") = False := by decide
theorem nq5 : (("signal" : Str) = "named") = False := by decide
theorem nq6 : (("signal" : Str) = "users") = False := by decide
theorem told_ok {Γ : Nat → CP.Sp} (h6 : Γ 6 = snSp) (h7 : Γ 7 = usSp) : ∀ ms Q E, toldSp ms Q E → bodySp p17.length n17.length A17 (xss G Γ b17) ms Q E := by
  rintro ms Q E ⟨c, n, th, r, rfl, ok, hc, q⟩
  refine ⟨rfl, ?_⟩
  rcases hc with ⟨rfl | rfl, z, rfl, rfl⟩ | ⟨rfl | rfl, g, rfl, rfl⟩
  · simp -implicitDefEqProofs only [xss, CP.xs, CP.ev, CP.evs, takeK, evT, evTs, evA, evI, bor, two, evP, setP, fin_some, fin_none, bindO_some, bindO_none, slot0, slot1, set0, set1, List.map_cons, List.map_nil, List.cons_append, List.nil_append, List.getElem?_cons_zero, List.getElem?_cons_succ, Option.bind_some, Option.map_some, Option.getD_some, id, List.length_cons, List.length_nil, List.replicate_succ, List.replicate_zero, bindT, bindTs, tupM, List.length_set, Nat.zero_add, o_mulR, o_mulL, CP.small64, o_mod, o_fdiv, o_pow, o_lenL, o_lenN, o_lenT, o_lenF, o_lenD, o_listL, o_listT, o_listF, o_tupL, o_tupT, o_boolI, Bool.and_true, Bool.true_and, Bool.and_self, Int.reduceNeg, Int.reducePow, Int.reduceLT, Int.reduceLE, Int.reduceAdd, Int.reduceToNat, Int.natAbs_natCast, o_add, o_sub, o_lt, o_le, o_gt, o_ge, o_max, o_min, o_eqI, o_eqS, o_neI, o_neS, o_eqB, o_neB, o_is0, o_isI, o_isS, o_isT, o_isB, o_isn0, o_isnI, o_isnS, o_isnT, o_neg, o_abs, o_intI, o_intB, l_lst, l_nst, l_tup, l_flst, l_dct, t_non, t_bl, t_int, t_lst, t_nst, t_tup, t_dct, i_nil, ty_int, ty_str, ty_bl, ty_non, ty_tup, ty_lst, ow_im, ow_lst, ow_nst, ow_dct, ow_dnn, iD_int, if_true, if_false, Bool.false_eq_true, reduceIte, decide_true, decide_false, decide_eq_true_eq, Nat.reduceLT, Nat.reduceAdd, Nat.reduceSub, callA, takeA, putA, fzs, fzM, mkL, imsOf, List.zip_cons_cons, List.zip_nil_left, List.zip_nil_right, true_and, and_true, List.filterMap_cons, List.filterMap_nil, stays, itemsM, seqM, unsetAll, parM, reduceCtorEq, ne_app, pop_app, popN_app, g_last, lm_lst, lm_nst, Bool.not_false, Bool.not_true, List.filterMap_cons, isiM, ite_true, ite_false, h6, caught]
    refine ⟨n, z, rfl, ok, fun o1 o2 => ?_⟩
    unfold nameRes at q
    cases hk : n.names.idxOf? z with
    | some k => 
      simp -implicitDefEqProofs only [hk] at q
      simp -implicitDefEqProofs only [xss, CP.xs, CP.ev, CP.evs, takeK, evT, evTs, evA, evI, bor, two, evP, setP, fin_some, fin_none, bindO_some, bindO_none, slot0, slot1, set0, set1, List.map_cons, List.map_nil, List.cons_append, List.nil_append, List.getElem?_cons_zero, List.getElem?_cons_succ, Option.bind_some, Option.map_some, Option.getD_some, id, List.length_cons, List.length_nil, List.replicate_succ, List.replicate_zero, bindT, bindTs, tupM, List.length_set, Nat.zero_add, o_mulR, o_mulL, CP.small64, o_mod, o_fdiv, o_pow, o_lenL, o_lenN, o_lenT, o_lenF, o_lenD, o_listL, o_listT, o_listF, o_tupL, o_tupT, o_boolI, Bool.and_true, Bool.true_and, Bool.and_self, Int.reduceNeg, Int.reducePow, Int.reduceLT, Int.reduceLE, Int.reduceAdd, Int.reduceToNat, Int.natAbs_natCast, o_add, o_sub, o_lt, o_le, o_gt, o_ge, o_max, o_min, o_eqI, o_eqS, o_neI, o_neS, o_eqB, o_neB, o_is0, o_isI, o_isS, o_isT, o_isB, o_isn0, o_isnI, o_isnS, o_isnT, o_neg, o_abs, o_intI, o_intB, l_lst, l_nst, l_tup, l_flst, l_dct, t_non, t_bl, t_int, t_lst, t_nst, t_tup, t_dct, i_nil, ty_int, ty_str, ty_bl, ty_non, ty_tup, ty_lst, ow_im, ow_lst, ow_nst, ow_dct, ow_dnn, iD_int, if_true, if_false, Bool.false_eq_true, reduceIte, decide_true, decide_false, decide_eq_true_eq, Nat.reduceLT, Nat.reduceAdd, Nat.reduceSub, callA, takeA, putA, fzs, fzM, mkL, imsOf, List.zip_cons_cons, List.zip_nil_left, List.zip_nil_right, true_and, and_true, List.filterMap_cons, List.filterMap_nil, stays, itemsM, seqM, unsetAll, parM, reduceCtorEq, ne_app, pop_app, popN_app, g_last, lm_lst, lm_nst, Bool.not_false, Bool.not_true, List.filterMap_cons, isiM, ite_true, ite_false]
      exact q _ _ _
    | none => 
      simp -implicitDefEqProofs only [hk] at q
      simp -implicitDefEqProofs only [xss, CP.xs, CP.ev, CP.evs, takeK, evT, evTs, evA, evI, bor, two, evP, setP, fin_some, fin_none, bindO_some, bindO_none, slot0, slot1, set0, set1, List.map_cons, List.map_nil, List.cons_append, List.nil_append, List.getElem?_cons_zero, List.getElem?_cons_succ, Option.bind_some, Option.map_some, Option.getD_some, id, List.length_cons, List.length_nil, List.replicate_succ, List.replicate_zero, bindT, bindTs, tupM, List.length_set, Nat.zero_add, o_mulR, o_mulL, CP.small64, o_mod, o_fdiv, o_pow, o_lenL, o_lenN, o_lenT, o_lenF, o_lenD, o_listL, o_listT, o_listF, o_tupL, o_tupT, o_boolI, Bool.and_true, Bool.true_and, Bool.and_self, Int.reduceNeg, Int.reducePow, Int.reduceLT, Int.reduceLE, Int.reduceAdd, Int.reduceToNat, Int.natAbs_natCast, o_add, o_sub, o_lt, o_le, o_gt, o_ge, o_max, o_min, o_eqI, o_eqS, o_neI, o_neS, o_eqB, o_neB, o_is0, o_isI, o_isS, o_isT, o_isB, o_isn0, o_isnI, o_isnS, o_isnT, o_neg, o_abs, o_intI, o_intB, l_lst, l_nst, l_tup, l_flst, l_dct, t_non, t_bl, t_int, t_lst, t_nst, t_tup, t_dct, i_nil, ty_int, ty_str, ty_bl, ty_non, ty_tup, ty_lst, ow_im, ow_lst, ow_nst, ow_dct, ow_dnn, iD_int, if_true, if_false, Bool.false_eq_true, reduceIte, decide_true, decide_false, decide_eq_true_eq, Nat.reduceLT, Nat.reduceAdd, Nat.reduceSub, callA, takeA, putA, fzs, fzM, mkL, imsOf, List.zip_cons_cons, List.zip_nil_left, List.zip_nil_right, true_and, and_true, List.filterMap_cons, List.filterMap_nil, stays, itemsM, seqM, unsetAll, parM, reduceCtorEq, ne_app, pop_app, popN_app, g_last, lm_lst, lm_nst, Bool.not_false, Bool.not_true, List.filterMap_cons, isiM, ite_true, ite_false, caught]
      exact q _ _ _
  · simp -implicitDefEqProofs only [xss, CP.xs, CP.ev, CP.evs, takeK, evT, evTs, evA, evI, bor, two, evP, setP, fin_some, fin_none, bindO_some, bindO_none, slot0, slot1, set0, set1, List.map_cons, List.map_nil, List.cons_append, List.nil_append, List.getElem?_cons_zero, List.getElem?_cons_succ, Option.bind_some, Option.map_some, Option.getD_some, id, List.length_cons, List.length_nil, List.replicate_succ, List.replicate_zero, bindT, bindTs, tupM, List.length_set, Nat.zero_add, o_mulR, o_mulL, CP.small64, o_mod, o_fdiv, o_pow, o_lenL, o_lenN, o_lenT, o_lenF, o_lenD, o_listL, o_listT, o_listF, o_tupL, o_tupT, o_boolI, Bool.and_true, Bool.true_and, Bool.and_self, Int.reduceNeg, Int.reducePow, Int.reduceLT, Int.reduceLE, Int.reduceAdd, Int.reduceToNat, Int.natAbs_natCast, o_add, o_sub, o_lt, o_le, o_gt, o_ge, o_max, o_min, o_eqI, o_eqS, o_neI, o_neS, o_eqB, o_neB, o_is0, o_isI, o_isS, o_isT, o_isB, o_isn0, o_isnI, o_isnS, o_isnT, o_neg, o_abs, o_intI, o_intB, l_lst, l_nst, l_tup, l_flst, l_dct, t_non, t_bl, t_int, t_lst, t_nst, t_tup, t_dct, i_nil, ty_int, ty_str, ty_bl, ty_non, ty_tup, ty_lst, ow_im, ow_lst, ow_nst, ow_dct, ow_dnn, iD_int, if_true, if_false, Bool.false_eq_true, reduceIte, decide_true, decide_false, decide_eq_true_eq, Nat.reduceLT, Nat.reduceAdd, Nat.reduceSub, callA, takeA, putA, fzs, fzM, mkL, imsOf, List.zip_cons_cons, List.zip_nil_left, List.zip_nil_right, true_and, and_true, List.filterMap_cons, List.filterMap_nil, stays, itemsM, seqM, unsetAll, parM, reduceCtorEq, ne_app, pop_app, popN_app, g_last, lm_lst, lm_nst, Bool.not_false, Bool.not_true, List.filterMap_cons, isiM, ite_true, ite_false, h6, caught, nq1]
    refine ⟨n, z, rfl, ok, fun o1 o2 => ?_⟩
    unfold nameRes at q
    cases hk : n.names.idxOf? z with
    | some k => 
      simp -implicitDefEqProofs only [hk] at q
      simp -implicitDefEqProofs only [xss, CP.xs, CP.ev, CP.evs, takeK, evT, evTs, evA, evI, bor, two, evP, setP, fin_some, fin_none, bindO_some, bindO_none, slot0, slot1, set0, set1, List.map_cons, List.map_nil, List.cons_append, List.nil_append, List.getElem?_cons_zero, List.getElem?_cons_succ, Option.bind_some, Option.map_some, Option.getD_some, id, List.length_cons, List.length_nil, List.replicate_succ, List.replicate_zero, bindT, bindTs, tupM, List.length_set, Nat.zero_add, o_mulR, o_mulL, CP.small64, o_mod, o_fdiv, o_pow, o_lenL, o_lenN, o_lenT, o_lenF, o_lenD, o_listL, o_listT, o_listF, o_tupL, o_tupT, o_boolI, Bool.and_true, Bool.true_and, Bool.and_self, Int.reduceNeg, Int.reducePow, Int.reduceLT, Int.reduceLE, Int.reduceAdd, Int.reduceToNat, Int.natAbs_natCast, o_add, o_sub, o_lt, o_le, o_gt, o_ge, o_max, o_min, o_eqI, o_eqS, o_neI, o_neS, o_eqB, o_neB, o_is0, o_isI, o_isS, o_isT, o_isB, o_isn0, o_isnI, o_isnS, o_isnT, o_neg, o_abs, o_intI, o_intB, l_lst, l_nst, l_tup, l_flst, l_dct, t_non, t_bl, t_int, t_lst, t_nst, t_tup, t_dct, i_nil, ty_int, ty_str, ty_bl, ty_non, ty_tup, ty_lst, ow_im, ow_lst, ow_nst, ow_dct, ow_dnn, iD_int, if_true, if_false, Bool.false_eq_true, reduceIte, decide_true, decide_false, decide_eq_true_eq, Nat.reduceLT, Nat.reduceAdd, Nat.reduceSub, callA, takeA, putA, fzs, fzM, mkL, imsOf, List.zip_cons_cons, List.zip_nil_left, List.zip_nil_right, true_and, and_true, List.filterMap_cons, List.filterMap_nil, stays, itemsM, seqM, unsetAll, parM, reduceCtorEq, ne_app, pop_app, popN_app, g_last, lm_lst, lm_nst, Bool.not_false, Bool.not_true, List.filterMap_cons, isiM, ite_true, ite_false]
      exact q _ _ _
    | none => 
      simp -implicitDefEqProofs only [hk] at q
      simp -implicitDefEqProofs only [xss, CP.xs, CP.ev, CP.evs, takeK, evT, evTs, evA, evI, bor, two, evP, setP, fin_some, fin_none, bindO_some, bindO_none, slot0, slot1, set0, set1, List.map_cons, List.map_nil, List.cons_append, List.nil_append, List.getElem?_cons_zero, List.getElem?_cons_succ, Option.bind_some, Option.map_some, Option.getD_some, id, List.length_cons, List.length_nil, List.replicate_succ, List.replicate_zero, bindT, bindTs, tupM, List.length_set, Nat.zero_add, o_mulR, o_mulL, CP.small64, o_mod, o_fdiv, o_pow, o_lenL, o_lenN, o_lenT, o_lenF, o_lenD, o_listL, o_listT, o_listF, o_tupL, o_tupT, o_boolI, Bool.and_true, Bool.true_and, Bool.and_self, Int.reduceNeg, Int.reducePow, Int.reduceLT, Int.reduceLE, Int.reduceAdd, Int.reduceToNat, Int.natAbs_natCast, o_add, o_sub, o_lt, o_le, o_gt, o_ge, o_max, o_min, o_eqI, o_eqS, o_neI, o_neS, o_eqB, o_neB, o_is0, o_isI, o_isS, o_isT, o_isB, o_isn0, o_isnI, o_isnS, o_isnT, o_neg, o_abs, o_intI, o_intB, l_lst, l_nst, l_tup, l_flst, l_dct, t_non, t_bl, t_int, t_lst, t_nst, t_tup, t_dct, i_nil, ty_int, ty_str, ty_bl, ty_non, ty_tup, ty_lst, ow_im, ow_lst, ow_nst, ow_dct, ow_dnn, iD_int, if_true, if_false, Bool.false_eq_true, reduceIte, decide_true, decide_false, decide_eq_true_eq, Nat.reduceLT, Nat.reduceAdd, Nat.reduceSub, callA, takeA, putA, fzs, fzM, mkL, imsOf, List.zip_cons_cons, List.zip_nil_left, List.zip_nil_right, true_and, and_true, List.filterMap_cons, List.filterMap_nil, stays, itemsM, seqM, unsetAll, parM, reduceCtorEq, ne_app, pop_app, popN_app, g_last, lm_lst, lm_nst, Bool.not_false, Bool.not_true, List.filterMap_cons, isiM, ite_true, ite_false, caught]
      exact q _ _ _
  · simp -implicitDefEqProofs only [xss, CP.xs, CP.ev, CP.evs, takeK, evT, evTs, evA, evI, bor, two, evP, setP, fin_some, fin_none, bindO_some, bindO_none, slot0, slot1, set0, set1, List.map_cons, List.map_nil, List.cons_append, List.nil_append, List.getElem?_cons_zero, List.getElem?_cons_succ, Option.bind_some, Option.map_some, Option.getD_some, id, List.length_cons, List.length_nil, List.replicate_succ, List.replicate_zero, bindT, bindTs, tupM, List.length_set, Nat.zero_add, o_mulR, o_mulL, CP.small64, o_mod, o_fdiv, o_pow, o_lenL, o_lenN, o_lenT, o_lenF, o_lenD, o_listL, o_listT, o_listF, o_tupL, o_tupT, o_boolI, Bool.and_true, Bool.true_and, Bool.and_self, Int.reduceNeg, Int.reducePow, Int.reduceLT, Int.reduceLE, Int.reduceAdd, Int.reduceToNat, Int.natAbs_natCast, o_add, o_sub, o_lt, o_le, o_gt, o_ge, o_max, o_min, o_eqI, o_eqS, o_neI, o_neS, o_eqB, o_neB, o_is0, o_isI, o_isS, o_isT, o_isB, o_isn0, o_isnI, o_isnS, o_isnT, o_neg, o_abs, o_intI, o_intB, l_lst, l_nst, l_tup, l_flst, l_dct, t_non, t_bl, t_int, t_lst, t_nst, t_tup, t_dct, i_nil, ty_int, ty_str, ty_bl, ty_non, ty_tup, ty_lst, ow_im, ow_lst, ow_nst, ow_dct, ow_dnn, iD_int, if_true, if_false, Bool.false_eq_true, reduceIte, decide_true, decide_false, decide_eq_true_eq, Nat.reduceLT, Nat.reduceAdd, Nat.reduceSub, callA, takeA, putA, fzs, fzM, mkL, imsOf, List.zip_cons_cons, List.zip_nil_left, List.zip_nil_right, true_and, and_true, List.filterMap_cons, List.filterMap_nil, stays, itemsM, seqM, unsetAll, parM, reduceCtorEq, ne_app, pop_app, popN_app, g_last, lm_lst, lm_nst, Bool.not_false, Bool.not_true, List.filterMap_cons, isiM, ite_true, ite_false, h7, caught, nq2, nq3]
    refine ⟨n, g, rfl, ok, fun o1 o2 => ?_⟩
    unfold userRes at q
    split
    · rename_i hg
      simp -implicitDefEqProofs only [if_pos hg] at q
      simp -implicitDefEqProofs only [xss, CP.xs, CP.ev, CP.evs, takeK, evT, evTs, evA, evI, bor, two, evP, setP, fin_some, fin_none, bindO_some, bindO_none, slot0, slot1, set0, set1, List.map_cons, List.map_nil, List.cons_append, List.nil_append, List.getElem?_cons_zero, List.getElem?_cons_succ, Option.bind_some, Option.map_some, Option.getD_some, id, List.length_cons, List.length_nil, List.replicate_succ, List.replicate_zero, bindT, bindTs, tupM, List.length_set, Nat.zero_add, o_mulR, o_mulL, CP.small64, o_mod, o_fdiv, o_pow, o_lenL, o_lenN, o_lenT, o_lenF, o_lenD, o_listL, o_listT, o_listF, o_tupL, o_tupT, o_boolI, Bool.and_true, Bool.true_and, Bool.and_self, Int.reduceNeg, Int.reducePow, Int.reduceLT, Int.reduceLE, Int.reduceAdd, Int.reduceToNat, Int.natAbs_natCast, o_add, o_sub, o_lt, o_le, o_gt, o_ge, o_max, o_min, o_eqI, o_eqS, o_neI, o_neS, o_eqB, o_neB, o_is0, o_isI, o_isS, o_isT, o_isB, o_isn0, o_isnI, o_isnS, o_isnT, o_neg, o_abs, o_intI, o_intB, l_lst, l_nst, l_tup, l_flst, l_dct, t_non, t_bl, t_int, t_lst, t_nst, t_tup, t_dct, i_nil, ty_int, ty_str, ty_bl, ty_non, ty_tup, ty_lst, ow_im, ow_lst, ow_nst, ow_dct, ow_dnn, iD_int, if_true, if_false, Bool.false_eq_true, reduceIte, decide_true, decide_false, decide_eq_true_eq, Nat.reduceLT, Nat.reduceAdd, Nat.reduceSub, callA, takeA, putA, fzs, fzM, mkL, imsOf, List.zip_cons_cons, List.zip_nil_left, List.zip_nil_right, true_and, and_true, List.filterMap_cons, List.filterMap_nil, stays, itemsM, seqM, unsetAll, parM, reduceCtorEq, ne_app, pop_app, popN_app, g_last, lm_lst, lm_nst, Bool.not_false, Bool.not_true, List.filterMap_cons, isiM, ite_true, ite_false]
      exact q _ _ _
    · rename_i hg
      simp -implicitDefEqProofs only [if_neg hg] at q
      simp -implicitDefEqProofs only [xss, CP.xs, CP.ev, CP.evs, takeK, evT, evTs, evA, evI, bor, two, evP, setP, fin_some, fin_none, bindO_some, bindO_none, slot0, slot1, set0, set1, List.map_cons, List.map_nil, List.cons_append, List.nil_append, List.getElem?_cons_zero, List.getElem?_cons_succ, Option.bind_some, Option.map_some, Option.getD_some, id, List.length_cons, List.length_nil, List.replicate_succ, List.replicate_zero, bindT, bindTs, tupM, List.length_set, Nat.zero_add, o_mulR, o_mulL, CP.small64, o_mod, o_fdiv, o_pow, o_lenL, o_lenN, o_lenT, o_lenF, o_lenD, o_listL, o_listT, o_listF, o_tupL, o_tupT, o_boolI, Bool.and_true, Bool.true_and, Bool.and_self, Int.reduceNeg, Int.reducePow, Int.reduceLT, Int.reduceLE, Int.reduceAdd, Int.reduceToNat, Int.natAbs_natCast, o_add, o_sub, o_lt, o_le, o_gt, o_ge, o_max, o_min, o_eqI, o_eqS, o_neI, o_neS, o_eqB, o_neB, o_is0, o_isI, o_isS, o_isT, o_isB, o_isn0, o_isnI, o_isnS, o_isnT, o_neg, o_abs, o_intI, o_intB, l_lst, l_nst, l_tup, l_flst, l_dct, t_non, t_bl, t_int, t_lst, t_nst, t_tup, t_dct, i_nil, ty_int, ty_str, ty_bl, ty_non, ty_tup, ty_lst, ow_im, ow_lst, ow_nst, ow_dct, ow_dnn, iD_int, if_true, if_false, Bool.false_eq_true, reduceIte, decide_true, decide_false, decide_eq_true_eq, Nat.reduceLT, Nat.reduceAdd, Nat.reduceSub, callA, takeA, putA, fzs, fzM, mkL, imsOf, List.zip_cons_cons, List.zip_nil_left, List.zip_nil_right, true_and, and_true, List.filterMap_cons, List.filterMap_nil, stays, itemsM, seqM, unsetAll, parM, reduceCtorEq, ne_app, pop_app, popN_app, g_last, lm_lst, lm_nst, Bool.not_false, Bool.not_true, List.filterMap_cons, isiM, ite_true, ite_false, caught]
      exact q _ _ _
  · simp -implicitDefEqProofs only [xss, CP.xs, CP.ev, CP.evs, takeK, evT, evTs, evA, evI, bor, two, evP, setP, fin_some, fin_none, bindO_some, bindO_none, slot0, slot1, set0, set1, List.map_cons, List.map_nil, List.cons_append, List.nil_append, List.getElem?_cons_zero, List.getElem?_cons_succ, Option.bind_some, Option.map_some, Option.getD_some, id, List.length_cons, List.length_nil, List.replicate_succ, List.replicate_zero, bindT, bindTs, tupM, List.length_set, Nat.zero_add, o_mulR, o_mulL, CP.small64, o_mod, o_fdiv, o_pow, o_lenL, o_lenN, o_lenT, o_lenF, o_lenD, o_listL, o_listT, o_listF, o_tupL, o_tupT, o_boolI, Bool.and_true, Bool.true_and, Bool.and_self, Int.reduceNeg, Int.reducePow, Int.reduceLT, Int.reduceLE, Int.reduceAdd, Int.reduceToNat, Int.natAbs_natCast, o_add, o_sub, o_lt, o_le, o_gt, o_ge, o_max, o_min, o_eqI, o_eqS, o_neI, o_neS, o_eqB, o_neB, o_is0, o_isI, o_isS, o_isT, o_isB, o_isn0, o_isnI, o_isnS, o_isnT, o_neg, o_abs, o_intI, o_intB, l_lst, l_nst, l_tup, l_flst, l_dct, t_non, t_bl, t_int, t_lst, t_nst, t_tup, t_dct, i_nil, ty_int, ty_str, ty_bl, ty_non, ty_tup, ty_lst, ow_im, ow_lst, ow_nst, ow_dct, ow_dnn, iD_int, if_true, if_false, Bool.false_eq_true, reduceIte, decide_true, decide_false, decide_eq_true_eq, Nat.reduceLT, Nat.reduceAdd, Nat.reduceSub, callA, takeA, putA, fzs, fzM, mkL, imsOf, List.zip_cons_cons, List.zip_nil_left, List.zip_nil_right, true_and, and_true, List.filterMap_cons, List.filterMap_nil, stays, itemsM, seqM, unsetAll, parM, reduceCtorEq, ne_app, pop_app, popN_app, g_last, lm_lst, lm_nst, Bool.not_false, Bool.not_true, List.filterMap_cons, isiM, ite_true, ite_false, h7, caught, nq4, nq5, nq6]
    refine ⟨n, g, rfl, ok, fun o1 o2 => ?_⟩
    unfold userRes at q
    split
    · rename_i hg
      simp -implicitDefEqProofs only [if_pos hg] at q
      simp -implicitDefEqProofs only [xss, CP.xs, CP.ev, CP.evs, takeK, evT, evTs, evA, evI, bor, two, evP, setP, fin_some, fin_none, bindO_some, bindO_none, slot0, slot1, set0, set1, List.map_cons, List.map_nil, List.cons_append, List.nil_append, List.getElem?_cons_zero, List.getElem?_cons_succ, Option.bind_some, Option.map_some, Option.getD_some, id, List.length_cons, List.length_nil, List.replicate_succ, List.replicate_zero, bindT, bindTs, tupM, List.length_set, Nat.zero_add, o_mulR, o_mulL, CP.small64, o_mod, o_fdiv, o_pow, o_lenL, o_lenN, o_lenT, o_lenF, o_lenD, o_listL, o_listT, o_listF, o_tupL, o_tupT, o_boolI, Bool.and_true, Bool.true_and, Bool.and_self, Int.reduceNeg, Int.reducePow, Int.reduceLT, Int.reduceLE, Int.reduceAdd, Int.reduceToNat, Int.natAbs_natCast, o_add, o_sub, o_lt, o_le, o_gt, o_ge, o_max, o_min, o_eqI, o_eqS, o_neI, o_neS, o_eqB, o_neB, o_is0, o_isI, o_isS, o_isT, o_isB, o_isn0, o_isnI, o_isnS, o_isnT, o_neg, o_abs, o_intI, o_intB, l_lst, l_nst, l_tup, l_flst, l_dct, t_non, t_bl, t_int, t_lst, t_nst, t_tup, t_dct, i_nil, ty_int, ty_str, ty_bl, ty_non, ty_tup, ty_lst, ow_im, ow_lst, ow_nst, ow_dct, ow_dnn, iD_int, if_true, if_false, Bool.false_eq_true, reduceIte, decide_true, decide_false, decide_eq_true_eq, Nat.reduceLT, Nat.reduceAdd, Nat.reduceSub, callA, takeA, putA, fzs, fzM, mkL, imsOf, List.zip_cons_cons, List.zip_nil_left, List.zip_nil_right, true_and, and_true, List.filterMap_cons, List.filterMap_nil, stays, itemsM, seqM, unsetAll, parM, reduceCtorEq, ne_app, pop_app, popN_app, g_last, lm_lst, lm_nst, Bool.not_false, Bool.not_true, List.filterMap_cons, isiM, ite_true, ite_false]
      exact q _ _ _
    · rename_i hg
      simp -implicitDefEqProofs only [if_neg hg] at q
      simp -implicitDefEqProofs only [xss, CP.xs, CP.ev, CP.evs, takeK, evT, evTs, evA, evI, bor, two, evP, setP, fin_some, fin_none, bindO_some, bindO_none, slot0, slot1, set0, set1, List.map_cons, List.map_nil, List.cons_append, List.nil_append, List.getElem?_cons_zero, List.getElem?_cons_succ, Option.bind_some, Option.map_some, Option.getD_some, id, List.length_cons, List.length_nil, List.replicate_succ, List.replicate_zero, bindT, bindTs, tupM, List.length_set, Nat.zero_add, o_mulR, o_mulL, CP.small64, o_mod, o_fdiv, o_pow, o_lenL, o_lenN, o_lenT, o_lenF, o_lenD, o_listL, o_listT, o_listF, o_tupL, o_tupT, o_boolI, Bool.and_true, Bool.true_and, Bool.and_self, Int.reduceNeg, Int.reducePow, Int.reduceLT, Int.reduceLE, Int.reduceAdd, Int.reduceToNat, Int.natAbs_natCast, o_add, o_sub, o_lt, o_le, o_gt, o_ge, o_max, o_min, o_eqI, o_eqS, o_neI, o_neS, o_eqB, o_neB, o_is0, o_isI, o_isS, o_isT, o_isB, o_isn0, o_isnI, o_isnS, o_isnT, o_neg, o_abs, o_intI, o_intB, l_lst, l_nst, l_tup, l_flst, l_dct, t_non, t_bl, t_int, t_lst, t_nst, t_tup, t_dct, i_nil, ty_int, ty_str, ty_bl, ty_non, ty_tup, ty_lst, ow_im, ow_lst, ow_nst, ow_dct, ow_dnn, iD_int, if_true, if_false, Bool.false_eq_true, reduceIte, decide_true, decide_false, decide_eq_true_eq, Nat.reduceLT, Nat.reduceAdd, Nat.reduceSub, callA, takeA, putA, fzs, fzM, mkL, imsOf, List.zip_cons_cons, List.zip_nil_left, List.zip_nil_right, true_and, and_true, List.filterMap_cons, List.filterMap_nil, stays, itemsM, seqM, unsetAll, parM, reduceCtorEq, ne_app, pop_app, popN_app, g_last, lm_lst, lm_nst, Bool.not_false, Bool.not_true, List.filterMap_cons, isiM, ite_true, ite_false, caught]
      exact q _ _ _
end K10
namespace K10
open PySem PySem.Spec PyProof.Rows L2 CP
/-! ### a net asked -/
theorem eqvs_ints : ∀ l : List Int, eqvs (l.map .int) (l.map .int)
  | [] => by simp -implicitDefEqProofs only [List.map_nil, eqvs]
  | x :: l => by simp -implicitDefEqProofs only [List.map_cons, eqvs, eqv]; exact ⟨trivial, eqvs_ints l⟩
theorem eqvs_strs : ∀ l : List Str, eqvs (l.map .str) (l.map .str)
  | [] => by simp -implicitDefEqProofs only [List.map_nil, eqvs]
  | x :: l => by simp -implicitDefEqProofs only [List.map_cons, eqvs, eqv]; exact ⟨trivial, eqvs_strs l⟩
theorem szs_ints : ∀ l : List Int, szs (l.map .int) = l.length
  | [] => rfl
  | x :: l => by simp -implicitDefEqProofs only [List.map_cons, szs, sz, szs_ints l, List.length_cons]; omega
theorem szs_strs : ∀ l : List Str, szs (l.map .str) = l.length
  | [] => rfl
  | x :: l => by simp -implicitDefEqProofs only [List.map_cons, szs, sz, szs_strs l, List.length_cons]; omega
theorem eqv_tI {l : List Int} : eqv (.tup (l.map .int)) (.tup (l.map .int)) := by simp -implicitDefEqProofs only [eqv]; exact eqvs_ints l
theorem eqv_kS {l : List Str} : eqv (.kt (l.map .str)) (.tup (l.map .str)) := by simp -implicitDefEqProofs only [eqv]; exact eqvs_strs l
theorem sz_tI {l : List Int} (h : l.length ≤ 1000) : sz (.tup (l.map .int)) ≤ 2000000 := by simp -implicitDefEqProofs only [sz, szs_ints]; omega
theorem sz_tS {l : List Str} (h : l.length ≤ 1000) : sz (.tup (l.map .str)) ≤ 2000000 := by simp -implicitDefEqProofs only [sz, szs_strs]; omega
theorem eqv_i {x : Int} : eqv (.int x) (.int x) := by simp -implicitDefEqProofs only [eqv]
theorem sz_i {x : Int} : sz (.int x) ≤ 2000000 := by simp -implicitDefEqProofs only [sz]; omega
theorem eqv_sig : eqv sigD sigD := by simp -implicitDefEqProofs only [sigD, eqv, eqvs, and_self]
theorem sz_sig : sz sigD ≤ 2000000 := by decide
theorem eqv_tdI {x : Int} : eqv (toldD (.int x)) (toldD (.int x)) := by simp -implicitDefEqProofs only [toldD, eqv, eqvs, and_self]
theorem sz_tdI {x : Int} : sz (toldD (.int x)) ≤ 2000000 := by simp -implicitDefEqProofs only [toldD, sz, szs]; omega
theorem eqv_tdT {l : List Int} : eqv (toldD (.tup (l.map .int))) (toldD (.tup (l.map .int))) := by simp -implicitDefEqProofs only [toldD, eqv, eqvs, and_true, true_and]; exact eqvs_ints l
theorem sz_tdT {l : List Int} (h : l.length ≤ 1000) : sz (toldD (.tup (l.map .int))) ≤ 2000000 := by simp -implicitDefEqProofs only [toldD, sz, szs, szs_ints]; omega
theorem users_len {n : Net} (ok : n.ok) {g : Int} : (n.users g).length ≤ 1000 := by
  unfold Net.users
  rw [List.length_map]
  have h1 := List.length_filter_le (fun q => uses g q.2) (en n.sts)
  rw [en_len] at h1
  have := ok.ls
  omega
theorem spans_len {n : Net} (ok : n.ok) : n.spans.length ≤ 1000 := by
  have h : ∀ (ps : List (Str × List Tm)) (sp : List Int), (ps.foldl bumps sp).length = sp.length := fun ps => by
    induction ps with
    | nil => intro sp; rfl
    | cons p ps ih => intro sp; rw [List.foldl_cons, ih]; exact bumps_len (p := p)
  unfold Net.spans
  rw [h, List.length_replicate]
  have := ok.li
  have := ok.ls
  unfold Net.cnt
  omega
theorem names_len {n : Net} : n.names.length = n.cnt := by unfold Net.names Net.cnt; simp
theorem cnt_le {n : Net} (ok : n.ok) : n.cnt ≤ 40 := by
  have := ok.li
  have := ok.ls
  unfold Net.cnt
  omega
theorem pick2 {a b : Str} (k : Nat) : getM (.lst [.str a, .str b]) (.im (.int ((k : Int) % 2))) = some (.im (.str (if k % 2 = 0 then a else b))) := by
  rcases Nat.mod_two_eq_zero_or_one k with h | h
  · have : (k : Int) % 2 = 0 := by omega
    rw [this, if_pos h]
    rfl
  · have : (k : Int) % 2 = 1 := by omega
    rw [this, if_neg (by omega)]
    rfl
theorem pick_or {k : Nat} {a b : Str} : (if k % 2 = 0 then a else b) = a ∨ (if k % 2 = 0 then a else b) = b := by
  split
  · exact .inl rfl
  · exact .inr rfl
theorem a1_loop {Γ : Nat → CP.Sp} (h16 : Γ 16 = sameSp) (h17 : Γ 17 = toldSp) (h18 : Γ 18 = lusSp) {Kk : Ks} {P0 P2 P3 z6 z7 z8 z9 : Option M} {n : Net} (ok : n.ok) : ∀ (m j : Nat) (a : Option M), j + m = n.names.length →
    (∀ a, Kk.nx [P0, some (.im (netD n)), P2, P3, some (.lst (n.names.map .str)), a, z6, z7, z8, z9]) →
    forR (fun _ => True) (fun d s => bindT t19_3 (.im d) s) (xss G Γ l19_3) Kk ((List.range' j m).map fun (k : Nat) => D.int (k : Int)) [P0, some (.im (netD n)), P2, P3, some (.lst (n.names.map .str)), a, z6, z7, z8, z9]
  | 0, j, a, _, q => q a
  | m + 1, j, a, hb, q => by
    have hj : j < n.names.length := by omega
    obtain ⟨nm, gx⟩ : ∃ nm, n.names[j]? = some nm := ⟨_, List.getElem?_eq_getElem hj⟩
    have gn : getM (.lst (n.names.map D.str)) (.im (.int (j : Int))) = some (.im (.str nm)) := g_at (by rw [List.getElem?_map, gx]; rfl)
    have r1 : nameRes n nm = toldD (.int (j : Nat)) := by unfold nameRes; rw [idx_nd ok.nd gx]
    have r2 : userRes n (j : Nat) = toldD (.tup ((n.users (j : Nat)).map .int)) := by
      have := names_len (n := n)
      unfold userRes
      exact if_pos ⟨by omega, by omega⟩
    have ih := fun a => a1_loop (Γ := Γ) h16 h17 h18 (Kk := Kk) (P0 := P0) (P2 := P2) (P3 := P3) (z6 := z6) (z7 := z7) (z8 := z8) (z9 := z9) ok m (j + 1) a (by omega) q
    rw [List.range'_succ, List.map_cons, for_cons]
    generalize forR (fun _ => True) (fun d s => bindT t19_3 (.im d) s) (xss G Γ l19_3) Kk ((List.range' (j + 1) m).map fun (k : Nat) => D.int (k : Int)) = W at ih ⊢
    simp -implicitDefEqProofs only [t19_3, l19_3, xss, CP.xs, CP.ev, CP.evs, takeK, evT, evTs, evA, evI, bor, two, evP, setP, fin_some, fin_none, bindO_some, bindO_none, slot0, slot1, set0, set1, List.map_cons, List.map_nil, List.cons_append, List.nil_append, List.getElem?_cons_zero, List.getElem?_cons_succ, Option.bind_some, Option.map_some, Option.getD_some, id, List.length_cons, List.length_nil, List.replicate_succ, List.replicate_zero, bindT, bindTs, tupM, List.length_set, Nat.zero_add, o_mulR, o_mulL, CP.small64, o_mod, o_fdiv, o_pow, o_lenL, o_lenN, o_lenT, o_lenF, o_lenD, o_listL, o_listT, o_listF, o_tupL, o_tupT, o_boolI, Bool.and_true, Bool.true_and, Bool.and_self, Int.reduceNeg, Int.reducePow, Int.reduceLT, Int.reduceLE, Int.reduceAdd, Int.reduceToNat, Int.natAbs_natCast, o_add, o_sub, o_lt, o_le, o_gt, o_ge, o_max, o_min, o_eqI, o_eqS, o_neI, o_neS, o_eqB, o_neB, o_is0, o_isI, o_isS, o_isT, o_isB, o_isn0, o_isnI, o_isnS, o_isnT, o_neg, o_abs, o_intI, o_intB, l_lst, l_nst, l_tup, l_flst, l_dct, t_non, t_bl, t_int, t_lst, t_nst, t_tup, t_dct, i_nil, ty_int, ty_str, ty_bl, ty_non, ty_tup, ty_lst, ow_im, ow_lst, ow_nst, ow_dct, ow_dnn, iD_int, if_true, if_false, Bool.false_eq_true, reduceIte, decide_true, decide_false, decide_eq_true_eq, Nat.reduceLT, Nat.reduceAdd, Nat.reduceSub, callA, takeA, putA, fzs, fzM, mkL, imsOf, List.zip_cons_cons, List.zip_nil_left, List.zip_nil_right, true_and, and_true, List.filterMap_cons, List.filterMap_nil, stays, itemsM, seqM, unsetAll, parM, reduceCtorEq, ne_app, pop_app, popN_app, g_last, lm_lst, lm_nst, Bool.not_false, Bool.not_true, List.filterMap_cons, isiM, ite_true, ite_false, gn, h16, h17, h18, o_idx (pick2 j)]
    refine ⟨_, n, _, _, rfl, ok, .inl ⟨pick_or, nm, rfl, rfl⟩, fun o1 o2 o3 => ?_⟩
    simp -implicitDefEqProofs only [xss, CP.xs, CP.ev, CP.evs, takeK, evT, evTs, evA, evI, bor, two, evP, setP, fin_some, fin_none, bindO_some, bindO_none, slot0, slot1, set0, set1, List.map_cons, List.map_nil, List.cons_append, List.nil_append, List.getElem?_cons_zero, List.getElem?_cons_succ, Option.bind_some, Option.map_some, Option.getD_some, id, List.length_cons, List.length_nil, List.replicate_succ, List.replicate_zero, bindT, bindTs, tupM, List.length_set, Nat.zero_add, o_mulR, o_mulL, CP.small64, o_mod, o_fdiv, o_pow, o_lenL, o_lenN, o_lenT, o_lenF, o_lenD, o_listL, o_listT, o_listF, o_tupL, o_tupT, o_boolI, Bool.and_true, Bool.true_and, Bool.and_self, Int.reduceNeg, Int.reducePow, Int.reduceLT, Int.reduceLE, Int.reduceAdd, Int.reduceToNat, Int.natAbs_natCast, o_add, o_sub, o_lt, o_le, o_gt, o_ge, o_max, o_min, o_eqI, o_eqS, o_neI, o_neS, o_eqB, o_neB, o_is0, o_isI, o_isS, o_isT, o_isB, o_isn0, o_isnI, o_isnS, o_isnT, o_neg, o_abs, o_intI, o_intB, l_lst, l_nst, l_tup, l_flst, l_dct, t_non, t_bl, t_int, t_lst, t_nst, t_tup, t_dct, i_nil, ty_int, ty_str, ty_bl, ty_non, ty_tup, ty_lst, ow_im, ow_lst, ow_nst, ow_dct, ow_dnn, iD_int, if_true, if_false, Bool.false_eq_true, reduceIte, decide_true, decide_false, decide_eq_true_eq, Nat.reduceLT, Nat.reduceAdd, Nat.reduceSub, callA, takeA, putA, fzs, fzM, mkL, imsOf, List.zip_cons_cons, List.zip_nil_left, List.zip_nil_right, true_and, and_true, List.filterMap_cons, List.filterMap_nil, stays, itemsM, seqM, unsetAll, parM, reduceCtorEq, ne_app, pop_app, popN_app, g_last, lm_lst, lm_nst, Bool.not_false, Bool.not_true, List.filterMap_cons, isiM, ite_true, ite_false, gn, h16, h17, h18, o_idx (pick2 j)]
    refine ⟨_, _, rfl, by rw [r1]; exact eqv_tdI, sz_tdI, fun o1 o2 => ?_⟩
    simp -implicitDefEqProofs only [xss, CP.xs, CP.ev, CP.evs, takeK, evT, evTs, evA, evI, bor, two, evP, setP, fin_some, fin_none, bindO_some, bindO_none, slot0, slot1, set0, set1, List.map_cons, List.map_nil, List.cons_append, List.nil_append, List.getElem?_cons_zero, List.getElem?_cons_succ, Option.bind_some, Option.map_some, Option.getD_some, id, List.length_cons, List.length_nil, List.replicate_succ, List.replicate_zero, bindT, bindTs, tupM, List.length_set, Nat.zero_add, o_mulR, o_mulL, CP.small64, o_mod, o_fdiv, o_pow, o_lenL, o_lenN, o_lenT, o_lenF, o_lenD, o_listL, o_listT, o_listF, o_tupL, o_tupT, o_boolI, Bool.and_true, Bool.true_and, Bool.and_self, Int.reduceNeg, Int.reducePow, Int.reduceLT, Int.reduceLE, Int.reduceAdd, Int.reduceToNat, Int.natAbs_natCast, o_add, o_sub, o_lt, o_le, o_gt, o_ge, o_max, o_min, o_eqI, o_eqS, o_neI, o_neS, o_eqB, o_neB, o_is0, o_isI, o_isS, o_isT, o_isB, o_isn0, o_isnI, o_isnS, o_isnT, o_neg, o_abs, o_intI, o_intB, l_lst, l_nst, l_tup, l_flst, l_dct, t_non, t_bl, t_int, t_lst, t_nst, t_tup, t_dct, i_nil, ty_int, ty_str, ty_bl, ty_non, ty_tup, ty_lst, ow_im, ow_lst, ow_nst, ow_dct, ow_dnn, iD_int, if_true, if_false, Bool.false_eq_true, reduceIte, decide_true, decide_false, decide_eq_true_eq, Nat.reduceLT, Nat.reduceAdd, Nat.reduceSub, callA, takeA, putA, fzs, fzM, mkL, imsOf, List.zip_cons_cons, List.zip_nil_left, List.zip_nil_right, true_and, and_true, List.filterMap_cons, List.filterMap_nil, stays, itemsM, seqM, unsetAll, parM, reduceCtorEq, ne_app, pop_app, popN_app, g_last, lm_lst, lm_nst, Bool.not_false, Bool.not_true, List.filterMap_cons, isiM, ite_true, ite_false, gn, h16, h17, h18, o_idx (pick2 j)]
    refine ⟨_, n, _, _, rfl, ok, .inr ⟨pick_or, _, rfl, rfl⟩, fun o1 o2 o3 => ?_⟩
    simp -implicitDefEqProofs only [xss, CP.xs, CP.ev, CP.evs, takeK, evT, evTs, evA, evI, bor, two, evP, setP, fin_some, fin_none, bindO_some, bindO_none, slot0, slot1, set0, set1, List.map_cons, List.map_nil, List.cons_append, List.nil_append, List.getElem?_cons_zero, List.getElem?_cons_succ, Option.bind_some, Option.map_some, Option.getD_some, id, List.length_cons, List.length_nil, List.replicate_succ, List.replicate_zero, bindT, bindTs, tupM, List.length_set, Nat.zero_add, o_mulR, o_mulL, CP.small64, o_mod, o_fdiv, o_pow, o_lenL, o_lenN, o_lenT, o_lenF, o_lenD, o_listL, o_listT, o_listF, o_tupL, o_tupT, o_boolI, Bool.and_true, Bool.true_and, Bool.and_self, Int.reduceNeg, Int.reducePow, Int.reduceLT, Int.reduceLE, Int.reduceAdd, Int.reduceToNat, Int.natAbs_natCast, o_add, o_sub, o_lt, o_le, o_gt, o_ge, o_max, o_min, o_eqI, o_eqS, o_neI, o_neS, o_eqB, o_neB, o_is0, o_isI, o_isS, o_isT, o_isB, o_isn0, o_isnI, o_isnS, o_isnT, o_neg, o_abs, o_intI, o_intB, l_lst, l_nst, l_tup, l_flst, l_dct, t_non, t_bl, t_int, t_lst, t_nst, t_tup, t_dct, i_nil, ty_int, ty_str, ty_bl, ty_non, ty_tup, ty_lst, ow_im, ow_lst, ow_nst, ow_dct, ow_dnn, iD_int, if_true, if_false, Bool.false_eq_true, reduceIte, decide_true, decide_false, decide_eq_true_eq, Nat.reduceLT, Nat.reduceAdd, Nat.reduceSub, callA, takeA, putA, fzs, fzM, mkL, imsOf, List.zip_cons_cons, List.zip_nil_left, List.zip_nil_right, true_and, and_true, List.filterMap_cons, List.filterMap_nil, stays, itemsM, seqM, unsetAll, parM, reduceCtorEq, ne_app, pop_app, popN_app, g_last, lm_lst, lm_nst, Bool.not_false, Bool.not_true, List.filterMap_cons, isiM, ite_true, ite_false, gn, h16, h17, h18, o_idx (pick2 j)]
    refine ⟨n, _, rfl, ok, fun o1 o2 => ?_⟩
    simp -implicitDefEqProofs only [xss, CP.xs, CP.ev, CP.evs, takeK, evT, evTs, evA, evI, bor, two, evP, setP, fin_some, fin_none, bindO_some, bindO_none, slot0, slot1, set0, set1, List.map_cons, List.map_nil, List.cons_append, List.nil_append, List.getElem?_cons_zero, List.getElem?_cons_succ, Option.bind_some, Option.map_some, Option.getD_some, id, List.length_cons, List.length_nil, List.replicate_succ, List.replicate_zero, bindT, bindTs, tupM, List.length_set, Nat.zero_add, o_mulR, o_mulL, CP.small64, o_mod, o_fdiv, o_pow, o_lenL, o_lenN, o_lenT, o_lenF, o_lenD, o_listL, o_listT, o_listF, o_tupL, o_tupT, o_boolI, Bool.and_true, Bool.true_and, Bool.and_self, Int.reduceNeg, Int.reducePow, Int.reduceLT, Int.reduceLE, Int.reduceAdd, Int.reduceToNat, Int.natAbs_natCast, o_add, o_sub, o_lt, o_le, o_gt, o_ge, o_max, o_min, o_eqI, o_eqS, o_neI, o_neS, o_eqB, o_neB, o_is0, o_isI, o_isS, o_isT, o_isB, o_isn0, o_isnI, o_isnS, o_isnT, o_neg, o_abs, o_intI, o_intB, l_lst, l_nst, l_tup, l_flst, l_dct, t_non, t_bl, t_int, t_lst, t_nst, t_tup, t_dct, i_nil, ty_int, ty_str, ty_bl, ty_non, ty_tup, ty_lst, ow_im, ow_lst, ow_nst, ow_dct, ow_dnn, iD_int, if_true, if_false, Bool.false_eq_true, reduceIte, decide_true, decide_false, decide_eq_true_eq, Nat.reduceLT, Nat.reduceAdd, Nat.reduceSub, callA, takeA, putA, fzs, fzM, mkL, imsOf, List.zip_cons_cons, List.zip_nil_left, List.zip_nil_right, true_and, and_true, List.filterMap_cons, List.filterMap_nil, stays, itemsM, seqM, unsetAll, parM, reduceCtorEq, ne_app, pop_app, popN_app, g_last, lm_lst, lm_nst, Bool.not_false, Bool.not_true, List.filterMap_cons, isiM, ite_true, ite_false, gn, h16, h17, h18, o_idx (pick2 j)]
    refine ⟨_, _, rfl, by rw [r2]; exact eqv_tdT, sz_tdT (users_len ok), fun o1 o2 => ?_⟩
    simp -implicitDefEqProofs only [xss, CP.xs, CP.ev, CP.evs, takeK, evT, evTs, evA, evI, bor, two, evP, setP, fin_some, fin_none, bindO_some, bindO_none, slot0, slot1, set0, set1, List.map_cons, List.map_nil, List.cons_append, List.nil_append, List.getElem?_cons_zero, List.getElem?_cons_succ, Option.bind_some, Option.map_some, Option.getD_some, id, List.length_cons, List.length_nil, List.replicate_succ, List.replicate_zero, bindT, bindTs, tupM, List.length_set, Nat.zero_add, o_mulR, o_mulL, CP.small64, o_mod, o_fdiv, o_pow, o_lenL, o_lenN, o_lenT, o_lenF, o_lenD, o_listL, o_listT, o_listF, o_tupL, o_tupT, o_boolI, Bool.and_true, Bool.true_and, Bool.and_self, Int.reduceNeg, Int.reducePow, Int.reduceLT, Int.reduceLE, Int.reduceAdd, Int.reduceToNat, Int.natAbs_natCast, o_add, o_sub, o_lt, o_le, o_gt, o_ge, o_max, o_min, o_eqI, o_eqS, o_neI, o_neS, o_eqB, o_neB, o_is0, o_isI, o_isS, o_isT, o_isB, o_isn0, o_isnI, o_isnS, o_isnT, o_neg, o_abs, o_intI, o_intB, l_lst, l_nst, l_tup, l_flst, l_dct, t_non, t_bl, t_int, t_lst, t_nst, t_tup, t_dct, i_nil, ty_int, ty_str, ty_bl, ty_non, ty_tup, ty_lst, ow_im, ow_lst, ow_nst, ow_dct, ow_dnn, iD_int, if_true, if_false, Bool.false_eq_true, reduceIte, decide_true, decide_false, decide_eq_true_eq, Nat.reduceLT, Nat.reduceAdd, Nat.reduceSub, callA, takeA, putA, fzs, fzM, mkL, imsOf, List.zip_cons_cons, List.zip_nil_left, List.zip_nil_right, true_and, and_true, List.filterMap_cons, List.filterMap_nil, stays, itemsM, seqM, unsetAll, parM, reduceCtorEq, ne_app, pop_app, popN_app, g_last, lm_lst, lm_nst, Bool.not_false, Bool.not_true, List.filterMap_cons, isiM, ite_true, ite_false]
    exact ih _
theorem a2_loop {Γ : Nat → CP.Sp} (h16 : Γ 16 = sameSp) (h17 : Γ 17 = toldSp) {Kk : Ks} {P0 P2 P3 P5 P6 z9 : Option M} {n : Net} (ok : n.ok) : ∀ (zs : List Str) (a b : Option M),
    (∀ a b, Kk.nx [P0, some (.im (netD n)), P2, P3, some (.lst (n.names.map .str)), P5, P6, a, b, z9]) →
    forR (fun _ => True) (fun d s => bindT t19_2 (.im d) s) (xss G Γ l19_2) Kk (zs.map .str) [P0, some (.im (netD n)), P2, P3, some (.lst (n.names.map .str)), P5, P6, a, b, z9]
  | [], a, b, q => q a b
  | z :: zs, a, b, q => by
    have ih := fun a b => a2_loop (Γ := Γ) h16 h17 (Kk := Kk) (P0 := P0) (P2 := P2) (P3 := P3) (P5 := P5) (P6 := P6) (z9 := z9) ok zs a b q
    rw [List.map_cons, for_cons]
    generalize forR (fun _ => True) (fun d s => bindT t19_2 (.im d) s) (xss G Γ l19_2) Kk (zs.map D.str) = W at ih ⊢
    by_cases hz : z ∈ n.names
    · obtain ⟨k, hk, _⟩ := idx_mem hz
      have r1 : nameRes n z = toldD (.int (k : Nat)) := by unfold nameRes; rw [hk]
      simp -implicitDefEqProofs only [t19_2, l19_2, xss, CP.xs, CP.ev, CP.evs, takeK, evT, evTs, evA, evI, bor, two, evP, setP, fin_some, fin_none, bindO_some, bindO_none, slot0, slot1, set0, set1, List.map_cons, List.map_nil, List.cons_append, List.nil_append, List.getElem?_cons_zero, List.getElem?_cons_succ, Option.bind_some, Option.map_some, Option.getD_some, id, List.length_cons, List.length_nil, List.replicate_succ, List.replicate_zero, bindT, bindTs, tupM, List.length_set, Nat.zero_add, o_mulR, o_mulL, CP.small64, o_mod, o_fdiv, o_pow, o_lenL, o_lenN, o_lenT, o_lenF, o_lenD, o_listL, o_listT, o_listF, o_tupL, o_tupT, o_boolI, Bool.and_true, Bool.true_and, Bool.and_self, Int.reduceNeg, Int.reducePow, Int.reduceLT, Int.reduceLE, Int.reduceAdd, Int.reduceToNat, Int.natAbs_natCast, o_add, o_sub, o_lt, o_le, o_gt, o_ge, o_max, o_min, o_eqI, o_eqS, o_neI, o_neS, o_eqB, o_neB, o_is0, o_isI, o_isS, o_isT, o_isB, o_isn0, o_isnI, o_isnS, o_isnT, o_neg, o_abs, o_intI, o_intB, l_lst, l_nst, l_tup, l_flst, l_dct, t_non, t_bl, t_int, t_lst, t_nst, t_tup, t_dct, i_nil, ty_int, ty_str, ty_bl, ty_non, ty_tup, ty_lst, ow_im, ow_lst, ow_nst, ow_dct, ow_dnn, iD_int, if_true, if_false, Bool.false_eq_true, reduceIte, decide_true, decide_false, decide_eq_true_eq, Nat.reduceLT, Nat.reduceAdd, Nat.reduceSub, callA, takeA, putA, fzs, fzM, mkL, imsOf, List.zip_cons_cons, List.zip_nil_left, List.zip_nil_right, true_and, and_true, List.filterMap_cons, List.filterMap_nil, stays, itemsM, seqM, unsetAll, parM, reduceCtorEq, ne_app, pop_app, popN_app, g_last, lm_lst, lm_nst, Bool.not_false, Bool.not_true, List.filterMap_cons, isiM, ite_true, ite_false, h16, h17, o_inSL, hz, decide_true, o_idxSL hk]
      refine ⟨_, n, _, _, rfl, ok, .inl ⟨.inl rfl, z, rfl, rfl⟩, fun o1 o2 o3 => ?_⟩
      simp -implicitDefEqProofs only [xss, CP.xs, CP.ev, CP.evs, takeK, evT, evTs, evA, evI, bor, two, evP, setP, fin_some, fin_none, bindO_some, bindO_none, slot0, slot1, set0, set1, List.map_cons, List.map_nil, List.cons_append, List.nil_append, List.getElem?_cons_zero, List.getElem?_cons_succ, Option.bind_some, Option.map_some, Option.getD_some, id, List.length_cons, List.length_nil, List.replicate_succ, List.replicate_zero, bindT, bindTs, tupM, List.length_set, Nat.zero_add, o_mulR, o_mulL, CP.small64, o_mod, o_fdiv, o_pow, o_lenL, o_lenN, o_lenT, o_lenF, o_lenD, o_listL, o_listT, o_listF, o_tupL, o_tupT, o_boolI, Bool.and_true, Bool.true_and, Bool.and_self, Int.reduceNeg, Int.reducePow, Int.reduceLT, Int.reduceLE, Int.reduceAdd, Int.reduceToNat, Int.natAbs_natCast, o_add, o_sub, o_lt, o_le, o_gt, o_ge, o_max, o_min, o_eqI, o_eqS, o_neI, o_neS, o_eqB, o_neB, o_is0, o_isI, o_isS, o_isT, o_isB, o_isn0, o_isnI, o_isnS, o_isnT, o_neg, o_abs, o_intI, o_intB, l_lst, l_nst, l_tup, l_flst, l_dct, t_non, t_bl, t_int, t_lst, t_nst, t_tup, t_dct, i_nil, ty_int, ty_str, ty_bl, ty_non, ty_tup, ty_lst, ow_im, ow_lst, ow_nst, ow_dct, ow_dnn, iD_int, if_true, if_false, Bool.false_eq_true, reduceIte, decide_true, decide_false, decide_eq_true_eq, Nat.reduceLT, Nat.reduceAdd, Nat.reduceSub, callA, takeA, putA, fzs, fzM, mkL, imsOf, List.zip_cons_cons, List.zip_nil_left, List.zip_nil_right, true_and, and_true, List.filterMap_cons, List.filterMap_nil, stays, itemsM, seqM, unsetAll, parM, reduceCtorEq, ne_app, pop_app, popN_app, g_last, lm_lst, lm_nst, Bool.not_false, Bool.not_true, List.filterMap_cons, isiM, ite_true, ite_false, h16, h17]
      refine ⟨_, _, rfl, by rw [r1]; exact eqv_tdI, sz_tdI, fun o1 o2 => ?_⟩
      simp -implicitDefEqProofs only [xss, CP.xs, CP.ev, CP.evs, takeK, evT, evTs, evA, evI, bor, two, evP, setP, fin_some, fin_none, bindO_some, bindO_none, slot0, slot1, set0, set1, List.map_cons, List.map_nil, List.cons_append, List.nil_append, List.getElem?_cons_zero, List.getElem?_cons_succ, Option.bind_some, Option.map_some, Option.getD_some, id, List.length_cons, List.length_nil, List.replicate_succ, List.replicate_zero, bindT, bindTs, tupM, List.length_set, Nat.zero_add, o_mulR, o_mulL, CP.small64, o_mod, o_fdiv, o_pow, o_lenL, o_lenN, o_lenT, o_lenF, o_lenD, o_listL, o_listT, o_listF, o_tupL, o_tupT, o_boolI, Bool.and_true, Bool.true_and, Bool.and_self, Int.reduceNeg, Int.reducePow, Int.reduceLT, Int.reduceLE, Int.reduceAdd, Int.reduceToNat, Int.natAbs_natCast, o_add, o_sub, o_lt, o_le, o_gt, o_ge, o_max, o_min, o_eqI, o_eqS, o_neI, o_neS, o_eqB, o_neB, o_is0, o_isI, o_isS, o_isT, o_isB, o_isn0, o_isnI, o_isnS, o_isnT, o_neg, o_abs, o_intI, o_intB, l_lst, l_nst, l_tup, l_flst, l_dct, t_non, t_bl, t_int, t_lst, t_nst, t_tup, t_dct, i_nil, ty_int, ty_str, ty_bl, ty_non, ty_tup, ty_lst, ow_im, ow_lst, ow_nst, ow_dct, ow_dnn, iD_int, if_true, if_false, Bool.false_eq_true, reduceIte, decide_true, decide_false, decide_eq_true_eq, Nat.reduceLT, Nat.reduceAdd, Nat.reduceSub, callA, takeA, putA, fzs, fzM, mkL, imsOf, List.zip_cons_cons, List.zip_nil_left, List.zip_nil_right, true_and, and_true, List.filterMap_cons, List.filterMap_nil, stays, itemsM, seqM, unsetAll, parM, reduceCtorEq, ne_app, pop_app, popN_app, g_last, lm_lst, lm_nst, Bool.not_false, Bool.not_true, List.filterMap_cons, isiM, ite_true, ite_false]
      exact ih _ _
    · have r1 : nameRes n z = sigD := by unfold nameRes; rw [idx_none hz]
      simp -implicitDefEqProofs only [t19_2, l19_2, xss, CP.xs, CP.ev, CP.evs, takeK, evT, evTs, evA, evI, bor, two, evP, setP, fin_some, fin_none, bindO_some, bindO_none, slot0, slot1, set0, set1, List.map_cons, List.map_nil, List.cons_append, List.nil_append, List.getElem?_cons_zero, List.getElem?_cons_succ, Option.bind_some, Option.map_some, Option.getD_some, id, List.length_cons, List.length_nil, List.replicate_succ, List.replicate_zero, bindT, bindTs, tupM, List.length_set, Nat.zero_add, o_mulR, o_mulL, CP.small64, o_mod, o_fdiv, o_pow, o_lenL, o_lenN, o_lenT, o_lenF, o_lenD, o_listL, o_listT, o_listF, o_tupL, o_tupT, o_boolI, Bool.and_true, Bool.true_and, Bool.and_self, Int.reduceNeg, Int.reducePow, Int.reduceLT, Int.reduceLE, Int.reduceAdd, Int.reduceToNat, Int.natAbs_natCast, o_add, o_sub, o_lt, o_le, o_gt, o_ge, o_max, o_min, o_eqI, o_eqS, o_neI, o_neS, o_eqB, o_neB, o_is0, o_isI, o_isS, o_isT, o_isB, o_isn0, o_isnI, o_isnS, o_isnT, o_neg, o_abs, o_intI, o_intB, l_lst, l_nst, l_tup, l_flst, l_dct, t_non, t_bl, t_int, t_lst, t_nst, t_tup, t_dct, i_nil, ty_int, ty_str, ty_bl, ty_non, ty_tup, ty_lst, ow_im, ow_lst, ow_nst, ow_dct, ow_dnn, iD_int, if_true, if_false, Bool.false_eq_true, reduceIte, decide_true, decide_false, decide_eq_true_eq, Nat.reduceLT, Nat.reduceAdd, Nat.reduceSub, callA, takeA, putA, fzs, fzM, mkL, imsOf, List.zip_cons_cons, List.zip_nil_left, List.zip_nil_right, true_and, and_true, List.filterMap_cons, List.filterMap_nil, stays, itemsM, seqM, unsetAll, parM, reduceCtorEq, ne_app, pop_app, popN_app, g_last, lm_lst, lm_nst, Bool.not_false, Bool.not_true, List.filterMap_cons, isiM, ite_true, ite_false, h16, h17, o_inSL, hz, decide_false]
      refine ⟨_, n, _, _, rfl, ok, .inl ⟨.inl rfl, z, rfl, rfl⟩, fun o1 o2 o3 => ?_⟩
      simp -implicitDefEqProofs only [xss, CP.xs, CP.ev, CP.evs, takeK, evT, evTs, evA, evI, bor, two, evP, setP, fin_some, fin_none, bindO_some, bindO_none, slot0, slot1, set0, set1, List.map_cons, List.map_nil, List.cons_append, List.nil_append, List.getElem?_cons_zero, List.getElem?_cons_succ, Option.bind_some, Option.map_some, Option.getD_some, id, List.length_cons, List.length_nil, List.replicate_succ, List.replicate_zero, bindT, bindTs, tupM, List.length_set, Nat.zero_add, o_mulR, o_mulL, CP.small64, o_mod, o_fdiv, o_pow, o_lenL, o_lenN, o_lenT, o_lenF, o_lenD, o_listL, o_listT, o_listF, o_tupL, o_tupT, o_boolI, Bool.and_true, Bool.true_and, Bool.and_self, Int.reduceNeg, Int.reducePow, Int.reduceLT, Int.reduceLE, Int.reduceAdd, Int.reduceToNat, Int.natAbs_natCast, o_add, o_sub, o_lt, o_le, o_gt, o_ge, o_max, o_min, o_eqI, o_eqS, o_neI, o_neS, o_eqB, o_neB, o_is0, o_isI, o_isS, o_isT, o_isB, o_isn0, o_isnI, o_isnS, o_isnT, o_neg, o_abs, o_intI, o_intB, l_lst, l_nst, l_tup, l_flst, l_dct, t_non, t_bl, t_int, t_lst, t_nst, t_tup, t_dct, i_nil, ty_int, ty_str, ty_bl, ty_non, ty_tup, ty_lst, ow_im, ow_lst, ow_nst, ow_dct, ow_dnn, iD_int, if_true, if_false, Bool.false_eq_true, reduceIte, decide_true, decide_false, decide_eq_true_eq, Nat.reduceLT, Nat.reduceAdd, Nat.reduceSub, callA, takeA, putA, fzs, fzM, mkL, imsOf, List.zip_cons_cons, List.zip_nil_left, List.zip_nil_right, true_and, and_true, List.filterMap_cons, List.filterMap_nil, stays, itemsM, seqM, unsetAll, parM, reduceCtorEq, ne_app, pop_app, popN_app, g_last, lm_lst, lm_nst, Bool.not_false, Bool.not_true, List.filterMap_cons, isiM, ite_true, ite_false, h16, h17]
      refine ⟨_, _, rfl, by rw [r1]; exact eqv_sig, sz_sig, fun o1 o2 => ?_⟩
      simp -implicitDefEqProofs only [xss, CP.xs, CP.ev, CP.evs, takeK, evT, evTs, evA, evI, bor, two, evP, setP, fin_some, fin_none, bindO_some, bindO_none, slot0, slot1, set0, set1, List.map_cons, List.map_nil, List.cons_append, List.nil_append, List.getElem?_cons_zero, List.getElem?_cons_succ, Option.bind_some, Option.map_some, Option.getD_some, id, List.length_cons, List.length_nil, List.replicate_succ, List.replicate_zero, bindT, bindTs, tupM, List.length_set, Nat.zero_add, o_mulR, o_mulL, CP.small64, o_mod, o_fdiv, o_pow, o_lenL, o_lenN, o_lenT, o_lenF, o_lenD, o_listL, o_listT, o_listF, o_tupL, o_tupT, o_boolI, Bool.and_true, Bool.true_and, Bool.and_self, Int.reduceNeg, Int.reducePow, Int.reduceLT, Int.reduceLE, Int.reduceAdd, Int.reduceToNat, Int.natAbs_natCast, o_add, o_sub, o_lt, o_le, o_gt, o_ge, o_max, o_min, o_eqI, o_eqS, o_neI, o_neS, o_eqB, o_neB, o_is0, o_isI, o_isS, o_isT, o_isB, o_isn0, o_isnI, o_isnS, o_isnT, o_neg, o_abs, o_intI, o_intB, l_lst, l_nst, l_tup, l_flst, l_dct, t_non, t_bl, t_int, t_lst, t_nst, t_tup, t_dct, i_nil, ty_int, ty_str, ty_bl, ty_non, ty_tup, ty_lst, ow_im, ow_lst, ow_nst, ow_dct, ow_dnn, iD_int, if_true, if_false, Bool.false_eq_true, reduceIte, decide_true, decide_false, decide_eq_true_eq, Nat.reduceLT, Nat.reduceAdd, Nat.reduceSub, callA, takeA, putA, fzs, fzM, mkL, imsOf, List.zip_cons_cons, List.zip_nil_left, List.zip_nil_right, true_and, and_true, List.filterMap_cons, List.filterMap_nil, stays, itemsM, seqM, unsetAll, parM, reduceCtorEq, ne_app, pop_app, popN_app, g_last, lm_lst, lm_nst, Bool.not_false, Bool.not_true, List.filterMap_cons, isiM, ite_true, ite_false]
      exact ih _ _
theorem a3_loop {Γ : Nat → CP.Sp} (h16 : Γ 16 = sameSp) (h17 : Γ 17 = toldSp) {Kk : Ks} {P0 P2 P3 P4 P5 P6 P7 P8 : Option M} {n : Net} (ok : n.ok) : ∀ (gs : List Int) (a : Option M), (∀ g ∈ gs, ¬ (0 ≤ g ∧ g < n.cnt)) →
    (∀ a, Kk.nx [P0, some (.im (netD n)), P2, P3, P4, P5, P6, P7, P8, a]) →
    forR (fun _ => True) (fun d s => bindT t19_1 (.im d) s) (xss G Γ l19_1) Kk (gs.map .int) [P0, some (.im (netD n)), P2, P3, P4, P5, P6, P7, P8, a]
  | [], a, _, q => q a
  | g :: gs, a, hg, q => by
    have ih := fun a => a3_loop (Γ := Γ) h16 h17 (Kk := Kk) (P0 := P0) (P2 := P2) (P3 := P3) (P4 := P4) (P5 := P5) (P6 := P6) (P7 := P7) (P8 := P8) ok gs a (fun g h => hg g (by simp [h])) q
    rw [List.map_cons, for_cons]
    generalize forR (fun _ => True) (fun d s => bindT t19_1 (.im d) s) (xss G Γ l19_1) Kk (gs.map D.int) = W at ih ⊢
    have r1 : userRes n g = sigD := by unfold userRes; exact if_neg (hg g (by simp))
    simp -implicitDefEqProofs only [t19_1, l19_1, xss, CP.xs, CP.ev, CP.evs, takeK, evT, evTs, evA, evI, bor, two, evP, setP, fin_some, fin_none, bindO_some, bindO_none, slot0, slot1, set0, set1, List.map_cons, List.map_nil, List.cons_append, List.nil_append, List.getElem?_cons_zero, List.getElem?_cons_succ, Option.bind_some, Option.map_some, Option.getD_some, id, List.length_cons, List.length_nil, List.replicate_succ, List.replicate_zero, bindT, bindTs, tupM, List.length_set, Nat.zero_add, o_mulR, o_mulL, CP.small64, o_mod, o_fdiv, o_pow, o_lenL, o_lenN, o_lenT, o_lenF, o_lenD, o_listL, o_listT, o_listF, o_tupL, o_tupT, o_boolI, Bool.and_true, Bool.true_and, Bool.and_self, Int.reduceNeg, Int.reducePow, Int.reduceLT, Int.reduceLE, Int.reduceAdd, Int.reduceToNat, Int.natAbs_natCast, o_add, o_sub, o_lt, o_le, o_gt, o_ge, o_max, o_min, o_eqI, o_eqS, o_neI, o_neS, o_eqB, o_neB, o_is0, o_isI, o_isS, o_isT, o_isB, o_isn0, o_isnI, o_isnS, o_isnT, o_neg, o_abs, o_intI, o_intB, l_lst, l_nst, l_tup, l_flst, l_dct, t_non, t_bl, t_int, t_lst, t_nst, t_tup, t_dct, i_nil, ty_int, ty_str, ty_bl, ty_non, ty_tup, ty_lst, ow_im, ow_lst, ow_nst, ow_dct, ow_dnn, iD_int, if_true, if_false, Bool.false_eq_true, reduceIte, decide_true, decide_false, decide_eq_true_eq, Nat.reduceLT, Nat.reduceAdd, Nat.reduceSub, callA, takeA, putA, fzs, fzM, mkL, imsOf, List.zip_cons_cons, List.zip_nil_left, List.zip_nil_right, true_and, and_true, List.filterMap_cons, List.filterMap_nil, stays, itemsM, seqM, unsetAll, parM, reduceCtorEq, ne_app, pop_app, popN_app, g_last, lm_lst, lm_nst, Bool.not_false, Bool.not_true, List.filterMap_cons, isiM, ite_true, ite_false, h16, h17]
    refine ⟨_, n, _, _, rfl, ok, .inr ⟨.inl rfl, g, rfl, rfl⟩, fun o1 o2 o3 => ?_⟩
    simp -implicitDefEqProofs only [xss, CP.xs, CP.ev, CP.evs, takeK, evT, evTs, evA, evI, bor, two, evP, setP, fin_some, fin_none, bindO_some, bindO_none, slot0, slot1, set0, set1, List.map_cons, List.map_nil, List.cons_append, List.nil_append, List.getElem?_cons_zero, List.getElem?_cons_succ, Option.bind_some, Option.map_some, Option.getD_some, id, List.length_cons, List.length_nil, List.replicate_succ, List.replicate_zero, bindT, bindTs, tupM, List.length_set, Nat.zero_add, o_mulR, o_mulL, CP.small64, o_mod, o_fdiv, o_pow, o_lenL, o_lenN, o_lenT, o_lenF, o_lenD, o_listL, o_listT, o_listF, o_tupL, o_tupT, o_boolI, Bool.and_true, Bool.true_and, Bool.and_self, Int.reduceNeg, Int.reducePow, Int.reduceLT, Int.reduceLE, Int.reduceAdd, Int.reduceToNat, Int.natAbs_natCast, o_add, o_sub, o_lt, o_le, o_gt, o_ge, o_max, o_min, o_eqI, o_eqS, o_neI, o_neS, o_eqB, o_neB, o_is0, o_isI, o_isS, o_isT, o_isB, o_isn0, o_isnI, o_isnS, o_isnT, o_neg, o_abs, o_intI, o_intB, l_lst, l_nst, l_tup, l_flst, l_dct, t_non, t_bl, t_int, t_lst, t_nst, t_tup, t_dct, i_nil, ty_int, ty_str, ty_bl, ty_non, ty_tup, ty_lst, ow_im, ow_lst, ow_nst, ow_dct, ow_dnn, iD_int, if_true, if_false, Bool.false_eq_true, reduceIte, decide_true, decide_false, decide_eq_true_eq, Nat.reduceLT, Nat.reduceAdd, Nat.reduceSub, callA, takeA, putA, fzs, fzM, mkL, imsOf, List.zip_cons_cons, List.zip_nil_left, List.zip_nil_right, true_and, and_true, List.filterMap_cons, List.filterMap_nil, stays, itemsM, seqM, unsetAll, parM, reduceCtorEq, ne_app, pop_app, popN_app, g_last, lm_lst, lm_nst, Bool.not_false, Bool.not_true, List.filterMap_cons, isiM, ite_true, ite_false, h16, h17]
    refine ⟨_, _, rfl, by rw [r1]; exact eqv_sig, sz_sig, fun o1 o2 => ?_⟩
    simp -implicitDefEqProofs only [xss, CP.xs, CP.ev, CP.evs, takeK, evT, evTs, evA, evI, bor, two, evP, setP, fin_some, fin_none, bindO_some, bindO_none, slot0, slot1, set0, set1, List.map_cons, List.map_nil, List.cons_append, List.nil_append, List.getElem?_cons_zero, List.getElem?_cons_succ, Option.bind_some, Option.map_some, Option.getD_some, id, List.length_cons, List.length_nil, List.replicate_succ, List.replicate_zero, bindT, bindTs, tupM, List.length_set, Nat.zero_add, o_mulR, o_mulL, CP.small64, o_mod, o_fdiv, o_pow, o_lenL, o_lenN, o_lenT, o_lenF, o_lenD, o_listL, o_listT, o_listF, o_tupL, o_tupT, o_boolI, Bool.and_true, Bool.true_and, Bool.and_self, Int.reduceNeg, Int.reducePow, Int.reduceLT, Int.reduceLE, Int.reduceAdd, Int.reduceToNat, Int.natAbs_natCast, o_add, o_sub, o_lt, o_le, o_gt, o_ge, o_max, o_min, o_eqI, o_eqS, o_neI, o_neS, o_eqB, o_neB, o_is0, o_isI, o_isS, o_isT, o_isB, o_isn0, o_isnI, o_isnS, o_isnT, o_neg, o_abs, o_intI, o_intB, l_lst, l_nst, l_tup, l_flst, l_dct, t_non, t_bl, t_int, t_lst, t_nst, t_tup, t_dct, i_nil, ty_int, ty_str, ty_bl, ty_non, ty_tup, ty_lst, ow_im, ow_lst, ow_nst, ow_dct, ow_dnn, iD_int, if_true, if_false, Bool.false_eq_true, reduceIte, decide_true, decide_false, decide_eq_true_eq, Nat.reduceLT, Nat.reduceAdd, Nat.reduceSub, callA, takeA, putA, fzs, fzM, mkL, imsOf, List.zip_cons_cons, List.zip_nil_left, List.zip_nil_right, true_and, and_true, List.filterMap_cons, List.filterMap_nil, stays, itemsM, seqM, unsetAll, parM, reduceCtorEq, ne_app, pop_app, popN_app, g_last, lm_lst, lm_nst, Bool.not_false, Bool.not_true, List.filterMap_cons, isiM, ite_true, ite_false]
    exact ih _
end K10
namespace K10
open PySem PySem.Spec PyProof.Rows L2 CP
def askSp : CP.Sp := fun ms Q E => ∃ l a g, ∃ n : Net, ms = [urnM l a g, .im (netD n)] ∧ n.ok ∧ ∀ l' a' o, Q (.im (.bl true)) [some (urnM l' a' g), o]
theorem szl' {n : Nat} (h : n ≤ 16777216) : n ≤ sizeLine := h
theorem ask_ok {Γ : Nat → CP.Sp} (h1 : Γ 1 = spansSp) (h2 : Γ 2 = cellsSp) (h3 : Γ 3 = namesSp) (h9 : Γ 9 = sipSp) (h15 : Γ 15 = lspSp) (h16 : Γ 16 = sameSp) (h17 : Γ 17 = toldSp) (h18 : Γ 18 = lusSp) : ∀ ms Q E, askSp ms Q E → bodySp p19.length n19.length A19 (xss G Γ b19) ms Q E := by
  rintro ms Q E ⟨l, a, g, n, rfl, ok, q⟩
  refine ⟨rfl, ?_⟩
  have hs := spans_len ok
  have hli := ok.li
  have hls := ok.ls
  have hnl := names_len (n := n)
  have hc := cnt_le ok
  simp -implicitDefEqProofs only [xss, CP.xs, CP.ev, CP.evs, takeK, evT, evTs, evA, evI, bor, two, evP, setP, fin_some, fin_none, bindO_some, bindO_none, slot0, slot1, set0, set1, List.map_cons, List.map_nil, List.cons_append, List.nil_append, List.getElem?_cons_zero, List.getElem?_cons_succ, Option.bind_some, Option.map_some, Option.getD_some, id, List.length_cons, List.length_nil, List.replicate_succ, List.replicate_zero, bindT, bindTs, tupM, List.length_set, Nat.zero_add, o_mulR, o_mulL, CP.small64, o_mod, o_fdiv, o_pow, o_lenL, o_lenN, o_lenT, o_lenF, o_lenD, o_listL, o_listT, o_listF, o_tupL, o_tupT, o_boolI, Bool.and_true, Bool.true_and, Bool.and_self, Int.reduceNeg, Int.reducePow, Int.reduceLT, Int.reduceLE, Int.reduceAdd, Int.reduceToNat, Int.natAbs_natCast, o_add, o_sub, o_lt, o_le, o_gt, o_ge, o_max, o_min, o_eqI, o_eqS, o_neI, o_neS, o_eqB, o_neB, o_is0, o_isI, o_isS, o_isT, o_isB, o_isn0, o_isnI, o_isnS, o_isnT, o_neg, o_abs, o_intI, o_intB, l_lst, l_nst, l_tup, l_flst, l_dct, t_non, t_bl, t_int, t_lst, t_nst, t_tup, t_dct, i_nil, ty_int, ty_str, ty_bl, ty_non, ty_tup, ty_lst, ow_im, ow_lst, ow_nst, ow_dct, ow_dnn, iD_int, if_true, if_false, Bool.false_eq_true, reduceIte, decide_true, decide_false, decide_eq_true_eq, Nat.reduceLT, Nat.reduceAdd, Nat.reduceSub, callA, takeA, putA, fzs, fzM, mkL, imsOf, List.zip_cons_cons, List.zip_nil_left, List.zip_nil_right, true_and, and_true, List.filterMap_cons, List.filterMap_nil, stays, itemsM, seqM, unsetAll, parM, reduceCtorEq, ne_app, pop_app, popN_app, g_last, lm_lst, lm_nst, Bool.not_false, Bool.not_true, List.filterMap_cons, isiM, ite_true, ite_false, h15, u_ow]
  refine ⟨n, rfl, ok, fun o => ?_⟩
  simp -implicitDefEqProofs only [xss, CP.xs, CP.ev, CP.evs, takeK, evT, evTs, evA, evI, bor, two, evP, setP, fin_some, fin_none, bindO_some, bindO_none, slot0, slot1, set0, set1, List.map_cons, List.map_nil, List.cons_append, List.nil_append, List.getElem?_cons_zero, List.getElem?_cons_succ, Option.bind_some, Option.map_some, Option.getD_some, id, List.length_cons, List.length_nil, List.replicate_succ, List.replicate_zero, bindT, bindTs, tupM, List.length_set, Nat.zero_add, o_mulR, o_mulL, CP.small64, o_mod, o_fdiv, o_pow, o_lenL, o_lenN, o_lenT, o_lenF, o_lenD, o_listL, o_listT, o_listF, o_tupL, o_tupT, o_boolI, Bool.and_true, Bool.true_and, Bool.and_self, Int.reduceNeg, Int.reducePow, Int.reduceLT, Int.reduceLE, Int.reduceAdd, Int.reduceToNat, Int.natAbs_natCast, o_add, o_sub, o_lt, o_le, o_gt, o_ge, o_max, o_min, o_eqI, o_eqS, o_neI, o_neS, o_eqB, o_neB, o_is0, o_isI, o_isS, o_isT, o_isB, o_isn0, o_isnI, o_isnS, o_isnT, o_neg, o_abs, o_intI, o_intB, l_lst, l_nst, l_tup, l_flst, l_dct, t_non, t_bl, t_int, t_lst, t_nst, t_tup, t_dct, i_nil, ty_int, ty_str, ty_bl, ty_non, ty_tup, ty_lst, ow_im, ow_lst, ow_nst, ow_dct, ow_dnn, iD_int, if_true, if_false, Bool.false_eq_true, reduceIte, decide_true, decide_false, decide_eq_true_eq, Nat.reduceLT, Nat.reduceAdd, Nat.reduceSub, callA, takeA, putA, fzs, fzM, mkL, imsOf, List.zip_cons_cons, List.zip_nil_left, List.zip_nil_right, true_and, and_true, List.filterMap_cons, List.filterMap_nil, stays, itemsM, seqM, unsetAll, parM, reduceCtorEq, ne_app, pop_app, popN_app, g_last, lm_lst, lm_nst, Bool.not_false, Bool.not_true, List.filterMap_cons, isiM, ite_true, ite_false, u_ow, n_0, n_1]
  refine lc_map inpD (fun p => D.str p.1) rfl trivial n.ins (fun x hx K k => ?_) (by omega) ?_
  · simp -implicitDefEqProofs only [t19_4, e19_1, inpD, xss, CP.xs, CP.ev, CP.evs, takeK, evT, evTs, evA, evI, bor, two, evP, setP, fin_some, fin_none, bindO_some, bindO_none, slot0, slot1, set0, set1, List.map_cons, List.map_nil, List.cons_append, List.nil_append, List.getElem?_cons_zero, List.getElem?_cons_succ, Option.bind_some, Option.map_some, Option.getD_some, id, List.length_cons, List.length_nil, List.replicate_succ, List.replicate_zero, bindT, bindTs, tupM, List.length_set, Nat.zero_add, o_mulR, o_mulL, CP.small64, o_mod, o_fdiv, o_pow, o_lenL, o_lenN, o_lenT, o_lenF, o_lenD, o_listL, o_listT, o_listF, o_tupL, o_tupT, o_boolI, Bool.and_true, Bool.true_and, Bool.and_self, Int.reduceNeg, Int.reducePow, Int.reduceLT, Int.reduceLE, Int.reduceAdd, Int.reduceToNat, Int.natAbs_natCast, o_add, o_sub, o_lt, o_le, o_gt, o_ge, o_max, o_min, o_eqI, o_eqS, o_neI, o_neS, o_eqB, o_neB, o_is0, o_isI, o_isS, o_isT, o_isB, o_isn0, o_isnI, o_isnS, o_isnT, o_neg, o_abs, o_intI, o_intB, l_lst, l_nst, l_tup, l_flst, l_dct, t_non, t_bl, t_int, t_lst, t_nst, t_tup, t_dct, i_nil, ty_int, ty_str, ty_bl, ty_non, ty_tup, ty_lst, ow_im, ow_lst, ow_nst, ow_dct, ow_dnn, iD_int, if_true, if_false, Bool.false_eq_true, reduceIte, decide_true, decide_false, decide_eq_true_eq, Nat.reduceLT, Nat.reduceAdd, Nat.reduceSub, callA, takeA, putA, fzs, fzM, mkL, imsOf, List.zip_cons_cons, List.zip_nil_left, List.zip_nil_right, true_and, and_true, List.filterMap_cons, List.filterMap_nil, stays, itemsM, seqM, unsetAll, parM, reduceCtorEq, ne_app, pop_app, popN_app, g_last, lm_lst, lm_nst, Bool.not_false, Bool.not_true, List.filterMap_cons, isiM, ite_true, ite_false, g_t0]
    exact k
  simp -implicitDefEqProofs only [xss, CP.xs, CP.ev, CP.evs, takeK, evT, evTs, evA, evI, bor, two, evP, setP, fin_some, fin_none, bindO_some, bindO_none, slot0, slot1, set0, set1, List.map_cons, List.map_nil, List.cons_append, List.nil_append, List.getElem?_cons_zero, List.getElem?_cons_succ, Option.bind_some, Option.map_some, Option.getD_some, id, List.length_cons, List.length_nil, List.replicate_succ, List.replicate_zero, bindT, bindTs, tupM, List.length_set, Nat.zero_add, o_mulR, o_mulL, CP.small64, o_mod, o_fdiv, o_pow, o_lenL, o_lenN, o_lenT, o_lenF, o_lenD, o_listL, o_listT, o_listF, o_tupL, o_tupT, o_boolI, Bool.and_true, Bool.true_and, Bool.and_self, Int.reduceNeg, Int.reducePow, Int.reduceLT, Int.reduceLE, Int.reduceAdd, Int.reduceToNat, Int.natAbs_natCast, o_add, o_sub, o_lt, o_le, o_gt, o_ge, o_max, o_min, o_eqI, o_eqS, o_neI, o_neS, o_eqB, o_neB, o_is0, o_isI, o_isS, o_isT, o_isB, o_isn0, o_isnI, o_isnS, o_isnT, o_neg, o_abs, o_intI, o_intB, l_lst, l_nst, l_tup, l_flst, l_dct, t_non, t_bl, t_int, t_lst, t_nst, t_tup, t_dct, i_nil, ty_int, ty_str, ty_bl, ty_non, ty_tup, ty_lst, ow_im, ow_lst, ow_nst, ow_dct, ow_dnn, iD_int, if_true, if_false, Bool.false_eq_true, reduceIte, decide_true, decide_false, decide_eq_true_eq, Nat.reduceLT, Nat.reduceAdd, Nat.reduceSub, callA, takeA, putA, fzs, fzM, mkL, imsOf, List.zip_cons_cons, List.zip_nil_left, List.zip_nil_right, true_and, and_true, List.filterMap_cons, List.filterMap_nil, stays, itemsM, seqM, unsetAll, parM, reduceCtorEq, ne_app, pop_app, popN_app, g_last, lm_lst, lm_nst, Bool.not_false, Bool.not_true, List.filterMap_cons, isiM, ite_true, ite_false, u_ow, n_0, n_1]
  refine lc_map stD (fun p => D.str p.1) rfl trivial n.sts (fun x hx K k => ?_) (by omega) ?_
  · simp -implicitDefEqProofs only [t19_5, e19_2, stD, xss, CP.xs, CP.ev, CP.evs, takeK, evT, evTs, evA, evI, bor, two, evP, setP, fin_some, fin_none, bindO_some, bindO_none, slot0, slot1, set0, set1, List.map_cons, List.map_nil, List.cons_append, List.nil_append, List.getElem?_cons_zero, List.getElem?_cons_succ, Option.bind_some, Option.map_some, Option.getD_some, id, List.length_cons, List.length_nil, List.replicate_succ, List.replicate_zero, bindT, bindTs, tupM, List.length_set, Nat.zero_add, o_mulR, o_mulL, CP.small64, o_mod, o_fdiv, o_pow, o_lenL, o_lenN, o_lenT, o_lenF, o_lenD, o_listL, o_listT, o_listF, o_tupL, o_tupT, o_boolI, Bool.and_true, Bool.true_and, Bool.and_self, Int.reduceNeg, Int.reducePow, Int.reduceLT, Int.reduceLE, Int.reduceAdd, Int.reduceToNat, Int.natAbs_natCast, o_add, o_sub, o_lt, o_le, o_gt, o_ge, o_max, o_min, o_eqI, o_eqS, o_neI, o_neS, o_eqB, o_neB, o_is0, o_isI, o_isS, o_isT, o_isB, o_isn0, o_isnI, o_isnS, o_isnT, o_neg, o_abs, o_intI, o_intB, l_lst, l_nst, l_tup, l_flst, l_dct, t_non, t_bl, t_int, t_lst, t_nst, t_tup, t_dct, i_nil, ty_int, ty_str, ty_bl, ty_non, ty_tup, ty_lst, ow_im, ow_lst, ow_nst, ow_dct, ow_dnn, iD_int, if_true, if_false, Bool.false_eq_true, reduceIte, decide_true, decide_false, decide_eq_true_eq, Nat.reduceLT, Nat.reduceAdd, Nat.reduceSub, callA, takeA, putA, fzs, fzM, mkL, imsOf, List.zip_cons_cons, List.zip_nil_left, List.zip_nil_right, true_and, and_true, List.filterMap_cons, List.filterMap_nil, stays, itemsM, seqM, unsetAll, parM, reduceCtorEq, ne_app, pop_app, popN_app, g_last, lm_lst, lm_nst, Bool.not_false, Bool.not_true, List.filterMap_cons, isiM, ite_true, ite_false, g_t0]
    exact k
  have en : n.ins.map (fun p => D.str p.1) ++ n.sts.map (fun p => D.str p.1) = n.names.map .str := by
    unfold Net.names
    rw [List.map_append, List.map_map, List.map_map]; rfl
  have ha : (n.ins.map (fun p => D.str p.1)).length + (n.sts.map (fun p => D.str p.1)).length ≤ 16777216 := by simp; omega
  simp -implicitDefEqProofs only [xss, CP.xs, CP.ev, CP.evs, takeK, evT, evTs, evA, evI, bor, two, evP, setP, fin_some, fin_none, bindO_some, bindO_none, slot0, slot1, set0, set1, List.map_cons, List.map_nil, List.cons_append, List.nil_append, List.getElem?_cons_zero, List.getElem?_cons_succ, Option.bind_some, Option.map_some, Option.getD_some, id, List.length_cons, List.length_nil, List.replicate_succ, List.replicate_zero, bindT, bindTs, tupM, List.length_set, Nat.zero_add, o_mulR, o_mulL, CP.small64, o_mod, o_fdiv, o_pow, o_lenL, o_lenN, o_lenT, o_lenF, o_lenD, o_listL, o_listT, o_listF, o_tupL, o_tupT, o_boolI, Bool.and_true, Bool.true_and, Bool.and_self, Int.reduceNeg, Int.reducePow, Int.reduceLT, Int.reduceLE, Int.reduceAdd, Int.reduceToNat, Int.natAbs_natCast, o_add, o_sub, o_lt, o_le, o_gt, o_ge, o_max, o_min, o_eqI, o_eqS, o_neI, o_neS, o_eqB, o_neB, o_is0, o_isI, o_isS, o_isT, o_isB, o_isn0, o_isnI, o_isnS, o_isnT, o_neg, o_abs, o_intI, o_intB, l_lst, l_nst, l_tup, l_flst, l_dct, t_non, t_bl, t_int, t_lst, t_nst, t_tup, t_dct, i_nil, ty_int, ty_str, ty_bl, ty_non, ty_tup, ty_lst, ow_im, ow_lst, ow_nst, ow_dct, ow_dnn, iD_int, if_true, if_false, Bool.false_eq_true, reduceIte, decide_true, decide_false, decide_eq_true_eq, Nat.reduceLT, Nat.reduceAdd, Nat.reduceSub, callA, takeA, putA, fzs, fzM, mkL, imsOf, List.zip_cons_cons, List.zip_nil_left, List.zip_nil_right, true_and, and_true, List.filterMap_cons, List.filterMap_nil, stays, itemsM, seqM, unsetAll, parM, reduceCtorEq, ne_app, pop_app, popN_app, g_last, lm_lst, lm_nst, Bool.not_false, Bool.not_true, List.filterMap_cons, isiM, ite_true, ite_false, u_ow, o_addL ha, en, h1, h16]
  refine ⟨n, rfl, ok, fun o1 => ?_⟩
  simp -implicitDefEqProofs only [xss, CP.xs, CP.ev, CP.evs, takeK, evT, evTs, evA, evI, bor, two, evP, setP, fin_some, fin_none, bindO_some, bindO_none, slot0, slot1, set0, set1, List.map_cons, List.map_nil, List.cons_append, List.nil_append, List.getElem?_cons_zero, List.getElem?_cons_succ, Option.bind_some, Option.map_some, Option.getD_some, id, List.length_cons, List.length_nil, List.replicate_succ, List.replicate_zero, bindT, bindTs, tupM, List.length_set, Nat.zero_add, o_mulR, o_mulL, CP.small64, o_mod, o_fdiv, o_pow, o_lenL, o_lenN, o_lenT, o_lenF, o_lenD, o_listL, o_listT, o_listF, o_tupL, o_tupT, o_boolI, Bool.and_true, Bool.true_and, Bool.and_self, Int.reduceNeg, Int.reducePow, Int.reduceLT, Int.reduceLE, Int.reduceAdd, Int.reduceToNat, Int.natAbs_natCast, o_add, o_sub, o_lt, o_le, o_gt, o_ge, o_max, o_min, o_eqI, o_eqS, o_neI, o_neS, o_eqB, o_neB, o_is0, o_isI, o_isS, o_isT, o_isB, o_isn0, o_isnI, o_isnS, o_isnT, o_neg, o_abs, o_intI, o_intB, l_lst, l_nst, l_tup, l_flst, l_dct, t_non, t_bl, t_int, t_lst, t_nst, t_tup, t_dct, i_nil, ty_int, ty_str, ty_bl, ty_non, ty_tup, ty_lst, ow_im, ow_lst, ow_nst, ow_dct, ow_dnn, iD_int, if_true, if_false, Bool.false_eq_true, reduceIte, decide_true, decide_false, decide_eq_true_eq, Nat.reduceLT, Nat.reduceAdd, Nat.reduceSub, callA, takeA, putA, fzs, fzM, mkL, imsOf, List.zip_cons_cons, List.zip_nil_left, List.zip_nil_right, true_and, and_true, List.filterMap_cons, List.filterMap_nil, stays, itemsM, seqM, unsetAll, parM, reduceCtorEq, ne_app, pop_app, popN_app, g_last, lm_lst, lm_nst, Bool.not_false, Bool.not_true, List.filterMap_cons, isiM, ite_true, ite_false, u_ow]
  refine ⟨_, _, rfl, eqv_tI, sz_tI hs, fun o2 o3 => ?_⟩
  simp -implicitDefEqProofs only [xss, CP.xs, CP.ev, CP.evs, takeK, evT, evTs, evA, evI, bor, two, evP, setP, fin_some, fin_none, bindO_some, bindO_none, slot0, slot1, set0, set1, List.map_cons, List.map_nil, List.cons_append, List.nil_append, List.getElem?_cons_zero, List.getElem?_cons_succ, Option.bind_some, Option.map_some, Option.getD_some, id, List.length_cons, List.length_nil, List.replicate_succ, List.replicate_zero, bindT, bindTs, tupM, List.length_set, Nat.zero_add, o_mulR, o_mulL, CP.small64, o_mod, o_fdiv, o_pow, o_lenL, o_lenN, o_lenT, o_lenF, o_lenD, o_listL, o_listT, o_listF, o_tupL, o_tupT, o_boolI, Bool.and_true, Bool.true_and, Bool.and_self, Int.reduceNeg, Int.reducePow, Int.reduceLT, Int.reduceLE, Int.reduceAdd, Int.reduceToNat, Int.natAbs_natCast, o_add, o_sub, o_lt, o_le, o_gt, o_ge, o_max, o_min, o_eqI, o_eqS, o_neI, o_neS, o_eqB, o_neB, o_is0, o_isI, o_isS, o_isT, o_isB, o_isn0, o_isnI, o_isnS, o_isnT, o_neg, o_abs, o_intI, o_intB, l_lst, l_nst, l_tup, l_flst, l_dct, t_non, t_bl, t_int, t_lst, t_nst, t_tup, t_dct, i_nil, ty_int, ty_str, ty_bl, ty_non, ty_tup, ty_lst, ow_im, ow_lst, ow_nst, ow_dct, ow_dnn, iD_int, if_true, if_false, Bool.false_eq_true, reduceIte, decide_true, decide_false, decide_eq_true_eq, Nat.reduceLT, Nat.reduceAdd, Nat.reduceSub, callA, takeA, putA, fzs, fzM, mkL, imsOf, List.zip_cons_cons, List.zip_nil_left, List.zip_nil_right, true_and, and_true, List.filterMap_cons, List.filterMap_nil, stays, itemsM, seqM, unsetAll, parM, reduceCtorEq, ne_app, pop_app, popN_app, g_last, lm_lst, lm_nst, Bool.not_false, Bool.not_true, List.filterMap_cons, isiM, ite_true, ite_false, u_ow, h2, h16]
  refine ⟨n, rfl, ok, fun o1 => ?_⟩
  simp -implicitDefEqProofs only [xss, CP.xs, CP.ev, CP.evs, takeK, evT, evTs, evA, evI, bor, two, evP, setP, fin_some, fin_none, bindO_some, bindO_none, slot0, slot1, set0, set1, List.map_cons, List.map_nil, List.cons_append, List.nil_append, List.getElem?_cons_zero, List.getElem?_cons_succ, Option.bind_some, Option.map_some, Option.getD_some, id, List.length_cons, List.length_nil, List.replicate_succ, List.replicate_zero, bindT, bindTs, tupM, List.length_set, Nat.zero_add, o_mulR, o_mulL, CP.small64, o_mod, o_fdiv, o_pow, o_lenL, o_lenN, o_lenT, o_lenF, o_lenD, o_listL, o_listT, o_listF, o_tupL, o_tupT, o_boolI, Bool.and_true, Bool.true_and, Bool.and_self, Int.reduceNeg, Int.reducePow, Int.reduceLT, Int.reduceLE, Int.reduceAdd, Int.reduceToNat, Int.natAbs_natCast, o_add, o_sub, o_lt, o_le, o_gt, o_ge, o_max, o_min, o_eqI, o_eqS, o_neI, o_neS, o_eqB, o_neB, o_is0, o_isI, o_isS, o_isT, o_isB, o_isn0, o_isnI, o_isnS, o_isnT, o_neg, o_abs, o_intI, o_intB, l_lst, l_nst, l_tup, l_flst, l_dct, t_non, t_bl, t_int, t_lst, t_nst, t_tup, t_dct, i_nil, ty_int, ty_str, ty_bl, ty_non, ty_tup, ty_lst, ow_im, ow_lst, ow_nst, ow_dct, ow_dnn, iD_int, if_true, if_false, Bool.false_eq_true, reduceIte, decide_true, decide_false, decide_eq_true_eq, Nat.reduceLT, Nat.reduceAdd, Nat.reduceSub, callA, takeA, putA, fzs, fzM, mkL, imsOf, List.zip_cons_cons, List.zip_nil_left, List.zip_nil_right, true_and, and_true, List.filterMap_cons, List.filterMap_nil, stays, itemsM, seqM, unsetAll, parM, reduceCtorEq, ne_app, pop_app, popN_app, g_last, lm_lst, lm_nst, Bool.not_false, Bool.not_true, List.filterMap_cons, isiM, ite_true, ite_false, u_ow, o_sumL]
  refine ⟨_, _, rfl, eqv_i, sz_i, fun o2 o3 => ?_⟩
  simp -implicitDefEqProofs only [xss, CP.xs, CP.ev, CP.evs, takeK, evT, evTs, evA, evI, bor, two, evP, setP, fin_some, fin_none, bindO_some, bindO_none, slot0, slot1, set0, set1, List.map_cons, List.map_nil, List.cons_append, List.nil_append, List.getElem?_cons_zero, List.getElem?_cons_succ, Option.bind_some, Option.map_some, Option.getD_some, id, List.length_cons, List.length_nil, List.replicate_succ, List.replicate_zero, bindT, bindTs, tupM, List.length_set, Nat.zero_add, o_mulR, o_mulL, CP.small64, o_mod, o_fdiv, o_pow, o_lenL, o_lenN, o_lenT, o_lenF, o_lenD, o_listL, o_listT, o_listF, o_tupL, o_tupT, o_boolI, Bool.and_true, Bool.true_and, Bool.and_self, Int.reduceNeg, Int.reducePow, Int.reduceLT, Int.reduceLE, Int.reduceAdd, Int.reduceToNat, Int.natAbs_natCast, o_add, o_sub, o_lt, o_le, o_gt, o_ge, o_max, o_min, o_eqI, o_eqS, o_neI, o_neS, o_eqB, o_neB, o_is0, o_isI, o_isS, o_isT, o_isB, o_isn0, o_isnI, o_isnS, o_isnT, o_neg, o_abs, o_intI, o_intB, l_lst, l_nst, l_tup, l_flst, l_dct, t_non, t_bl, t_int, t_lst, t_nst, t_tup, t_dct, i_nil, ty_int, ty_str, ty_bl, ty_non, ty_tup, ty_lst, ow_im, ow_lst, ow_nst, ow_dct, ow_dnn, iD_int, if_true, if_false, Bool.false_eq_true, reduceIte, decide_true, decide_false, decide_eq_true_eq, Nat.reduceLT, Nat.reduceAdd, Nat.reduceSub, callA, takeA, putA, fzs, fzM, mkL, imsOf, List.zip_cons_cons, List.zip_nil_left, List.zip_nil_right, true_and, and_true, List.filterMap_cons, List.filterMap_nil, stays, itemsM, seqM, unsetAll, parM, reduceCtorEq, ne_app, pop_app, popN_app, g_last, lm_lst, lm_nst, Bool.not_false, Bool.not_true, List.filterMap_cons, isiM, ite_true, ite_false, u_ow, h3, h16]
  refine ⟨n, rfl, ok, fun o1 => ?_⟩
  simp -implicitDefEqProofs only [xss, CP.xs, CP.ev, CP.evs, takeK, evT, evTs, evA, evI, bor, two, evP, setP, fin_some, fin_none, bindO_some, bindO_none, slot0, slot1, set0, set1, List.map_cons, List.map_nil, List.cons_append, List.nil_append, List.getElem?_cons_zero, List.getElem?_cons_succ, Option.bind_some, Option.map_some, Option.getD_some, id, List.length_cons, List.length_nil, List.replicate_succ, List.replicate_zero, bindT, bindTs, tupM, List.length_set, Nat.zero_add, o_mulR, o_mulL, CP.small64, o_mod, o_fdiv, o_pow, o_lenL, o_lenN, o_lenT, o_lenF, o_lenD, o_listL, o_listT, o_listF, o_tupL, o_tupT, o_boolI, Bool.and_true, Bool.true_and, Bool.and_self, Int.reduceNeg, Int.reducePow, Int.reduceLT, Int.reduceLE, Int.reduceAdd, Int.reduceToNat, Int.natAbs_natCast, o_add, o_sub, o_lt, o_le, o_gt, o_ge, o_max, o_min, o_eqI, o_eqS, o_neI, o_neS, o_eqB, o_neB, o_is0, o_isI, o_isS, o_isT, o_isB, o_isn0, o_isnI, o_isnS, o_isnT, o_neg, o_abs, o_intI, o_intB, l_lst, l_nst, l_tup, l_flst, l_dct, t_non, t_bl, t_int, t_lst, t_nst, t_tup, t_dct, i_nil, ty_int, ty_str, ty_bl, ty_non, ty_tup, ty_lst, ow_im, ow_lst, ow_nst, ow_dct, ow_dnn, iD_int, if_true, if_false, Bool.false_eq_true, reduceIte, decide_true, decide_false, decide_eq_true_eq, Nat.reduceLT, Nat.reduceAdd, Nat.reduceSub, callA, takeA, putA, fzs, fzM, mkL, imsOf, List.zip_cons_cons, List.zip_nil_left, List.zip_nil_right, true_and, and_true, List.filterMap_cons, List.filterMap_nil, stays, itemsM, seqM, unsetAll, parM, reduceCtorEq, ne_app, pop_app, popN_app, g_last, lm_lst, lm_nst, Bool.not_false, Bool.not_true, List.filterMap_cons, isiM, ite_true, ite_false, u_ow]
  refine ⟨_, _, rfl, eqv_kS, sz_tS (by omega), fun o2 o3 => ?_⟩
  simp -implicitDefEqProofs only [xss, CP.xs, CP.ev, CP.evs, takeK, evT, evTs, evA, evI, bor, two, evP, setP, fin_some, fin_none, bindO_some, bindO_none, slot0, slot1, set0, set1, List.map_cons, List.map_nil, List.cons_append, List.nil_append, List.getElem?_cons_zero, List.getElem?_cons_succ, Option.bind_some, Option.map_some, Option.getD_some, id, List.length_cons, List.length_nil, List.replicate_succ, List.replicate_zero, bindT, bindTs, tupM, List.length_set, Nat.zero_add, o_mulR, o_mulL, CP.small64, o_mod, o_fdiv, o_pow, o_lenL, o_lenN, o_lenT, o_lenF, o_lenD, o_listL, o_listT, o_listF, o_tupL, o_tupT, o_boolI, Bool.and_true, Bool.true_and, Bool.and_self, Int.reduceNeg, Int.reducePow, Int.reduceLT, Int.reduceLE, Int.reduceAdd, Int.reduceToNat, Int.natAbs_natCast, o_add, o_sub, o_lt, o_le, o_gt, o_ge, o_max, o_min, o_eqI, o_eqS, o_neI, o_neS, o_eqB, o_neB, o_is0, o_isI, o_isS, o_isT, o_isB, o_isn0, o_isnI, o_isnS, o_isnT, o_neg, o_abs, o_intI, o_intB, l_lst, l_nst, l_tup, l_flst, l_dct, t_non, t_bl, t_int, t_lst, t_nst, t_tup, t_dct, i_nil, ty_int, ty_str, ty_bl, ty_non, ty_tup, ty_lst, ow_im, ow_lst, ow_nst, ow_dct, ow_dnn, iD_int, if_true, if_false, Bool.false_eq_true, reduceIte, decide_true, decide_false, decide_eq_true_eq, Nat.reduceLT, Nat.reduceAdd, Nat.reduceSub, callA, takeA, putA, fzs, fzM, mkL, imsOf, List.zip_cons_cons, List.zip_nil_left, List.zip_nil_right, true_and, and_true, List.filterMap_cons, List.filterMap_nil, stays, itemsM, seqM, unsetAll, parM, reduceCtorEq, ne_app, pop_app, popN_app, g_last, lm_lst, lm_nst, Bool.not_false, Bool.not_true, List.filterMap_cons, isiM, ite_true, ite_false, u_ow, List.length_map, Int.toNat_natCast]
  refine ⟨by omega, ?_⟩
  rw [r_range n.names.length]
  refine a1_loop h16 h17 h18 ok n.names.length 0 _ (by omega) fun a5 => ?_
  simp -implicitDefEqProofs only [xss, CP.xs, CP.ev, CP.evs, takeK, evT, evTs, evA, evI, bor, two, evP, setP, fin_some, fin_none, bindO_some, bindO_none, slot0, slot1, set0, set1, List.map_cons, List.map_nil, List.cons_append, List.nil_append, List.getElem?_cons_zero, List.getElem?_cons_succ, Option.bind_some, Option.map_some, Option.getD_some, id, List.length_cons, List.length_nil, List.replicate_succ, List.replicate_zero, bindT, bindTs, tupM, List.length_set, Nat.zero_add, o_mulR, o_mulL, CP.small64, o_mod, o_fdiv, o_pow, o_lenL, o_lenN, o_lenT, o_lenF, o_lenD, o_listL, o_listT, o_listF, o_tupL, o_tupT, o_boolI, Bool.and_true, Bool.true_and, Bool.and_self, Int.reduceNeg, Int.reducePow, Int.reduceLT, Int.reduceLE, Int.reduceAdd, Int.reduceToNat, Int.natAbs_natCast, o_add, o_sub, o_lt, o_le, o_gt, o_ge, o_max, o_min, o_eqI, o_eqS, o_neI, o_neS, o_eqB, o_neB, o_is0, o_isI, o_isS, o_isT, o_isB, o_isn0, o_isnI, o_isnS, o_isnT, o_neg, o_abs, o_intI, o_intB, l_lst, l_nst, l_tup, l_flst, l_dct, t_non, t_bl, t_int, t_lst, t_nst, t_tup, t_dct, i_nil, ty_int, ty_str, ty_bl, ty_non, ty_tup, ty_lst, ow_im, ow_lst, ow_nst, ow_dct, ow_dnn, iD_int, if_true, if_false, Bool.false_eq_true, reduceIte, decide_true, decide_false, decide_eq_true_eq, Nat.reduceLT, Nat.reduceAdd, Nat.reduceSub, callA, takeA, putA, fzs, fzM, mkL, imsOf, List.zip_cons_cons, List.zip_nil_left, List.zip_nil_right, true_and, and_true, List.filterMap_cons, List.filterMap_nil, stays, itemsM, seqM, unsetAll, parM, reduceCtorEq, ne_app, pop_app, popN_app, g_last, lm_lst, lm_nst, Bool.not_false, Bool.not_true, List.filterMap_cons, isiM, ite_true, ite_false, u_ow, List.length_map, h9]
  refine ⟨l, a, g, _, rfl, by have := ok.ne; omega, fun t l1 a1 ht0 ht1 => ?_⟩
  obtain ⟨k, rfl⟩ := Int.eq_ofNat_of_zero_le ht0
  have hk : k < n.names.length := by omega
  obtain ⟨nm, gx⟩ : ∃ nm, n.names[k]? = some nm := ⟨_, List.getElem?_eq_getElem hk⟩
  have gn : getM (.lst (n.names.map D.str)) (.im (.int (k : Int))) = some (.im (.str nm)) := g_at (by rw [List.getElem?_map, gx]; rfl)
  have ln : nm.length ≤ 100 := ok.ln nm (List.mem_of_getElem? gx)
  have p1 : nm.length + ("0" : Str).length ≤ 16777216 := by have : ("0" : Str).length = 1 := rfl; omega
  have p2 : (" " : Str).length + nm.length ≤ 16777216 := by have : (" " : Str).length = 1 := rfl; omega
  have p3 : nm.length ≤ 5592405 := by omega
  have p4 : nm.length ≤ 16777216 := by omega
  simp -implicitDefEqProofs only [xss, CP.xs, CP.ev, CP.evs, takeK, evT, evTs, evA, evI, bor, two, evP, setP, fin_some, fin_none, bindO_some, bindO_none, slot0, slot1, set0, set1, List.map_cons, List.map_nil, List.cons_append, List.nil_append, List.getElem?_cons_zero, List.getElem?_cons_succ, Option.bind_some, Option.map_some, Option.getD_some, id, List.length_cons, List.length_nil, List.replicate_succ, List.replicate_zero, bindT, bindTs, tupM, List.length_set, Nat.zero_add, o_mulR, o_mulL, CP.small64, o_mod, o_fdiv, o_pow, o_lenL, o_lenN, o_lenT, o_lenF, o_lenD, o_listL, o_listT, o_listF, o_tupL, o_tupT, o_boolI, Bool.and_true, Bool.true_and, Bool.and_self, Int.reduceNeg, Int.reducePow, Int.reduceLT, Int.reduceLE, Int.reduceAdd, Int.reduceToNat, Int.natAbs_natCast, o_add, o_sub, o_lt, o_le, o_gt, o_ge, o_max, o_min, o_eqI, o_eqS, o_neI, o_neS, o_eqB, o_neB, o_is0, o_isI, o_isS, o_isT, o_isB, o_isn0, o_isnI, o_isnS, o_isnT, o_neg, o_abs, o_intI, o_intB, l_lst, l_nst, l_tup, l_flst, l_dct, t_non, t_bl, t_int, t_lst, t_nst, t_tup, t_dct, i_nil, ty_int, ty_str, ty_bl, ty_non, ty_tup, ty_lst, ow_im, ow_lst, ow_nst, ow_dct, ow_dnn, iD_int, if_true, if_false, Bool.false_eq_true, reduceIte, decide_true, decide_false, decide_eq_true_eq, Nat.reduceLT, Nat.reduceAdd, Nat.reduceSub, callA, takeA, putA, fzs, fzM, mkL, imsOf, List.zip_cons_cons, List.zip_nil_left, List.zip_nil_right, true_and, and_true, List.filterMap_cons, List.filterMap_nil, stays, itemsM, seqM, unsetAll, parM, reduceCtorEq, ne_app, pop_app, popN_app, g_last, lm_lst, lm_nst, Bool.not_false, Bool.not_true, List.filterMap_cons, isiM, ite_true, ite_false, u_ow, o_idx gn]
  have pn : ∀ σ : CP.Env, partP G none σ = some none := fun _ => rfl
  have pm : ∀ σ : CP.Env, partP G (some (.neg (.int 1))) σ = some (some (-1)) := fun _ => rfl
  have su : op1M .upper (.im (.str nm)) = some (.im (.str (Txt.upper nm))) := if_pos p3
  have sc : slcM (.im (.str nm)) none (some (-1)) = some (.im (.str (cutS nm none (some (-1))))) := if_pos (szl' p4)
  simp -implicitDefEqProofs only [xss, CP.xs, CP.ev, CP.evs, takeK, evT, evTs, evA, evI, bor, two, evP, setP, fin_some, fin_none, bindO_some, bindO_none, slot0, slot1, set0, set1, List.map_cons, List.map_nil, List.cons_append, List.nil_append, List.getElem?_cons_zero, List.getElem?_cons_succ, Option.bind_some, Option.map_some, Option.getD_some, id, List.length_cons, List.length_nil, List.replicate_succ, List.replicate_zero, bindT, bindTs, tupM, List.length_set, Nat.zero_add, o_mulR, o_mulL, CP.small64, o_mod, o_fdiv, o_pow, o_lenL, o_lenN, o_lenT, o_lenF, o_lenD, o_listL, o_listT, o_listF, o_tupL, o_tupT, o_boolI, Bool.and_true, Bool.true_and, Bool.and_self, Int.reduceNeg, Int.reducePow, Int.reduceLT, Int.reduceLE, Int.reduceAdd, Int.reduceToNat, Int.natAbs_natCast, o_add, o_sub, o_lt, o_le, o_gt, o_ge, o_max, o_min, o_eqI, o_eqS, o_neI, o_neS, o_eqB, o_neB, o_is0, o_isI, o_isS, o_isT, o_isB, o_isn0, o_isnI, o_isnS, o_isnT, o_neg, o_abs, o_intI, o_intB, l_lst, l_nst, l_tup, l_flst, l_dct, t_non, t_bl, t_int, t_lst, t_nst, t_tup, t_dct, i_nil, ty_int, ty_str, ty_bl, ty_non, ty_tup, ty_lst, ow_im, ow_lst, ow_nst, ow_dct, ow_dnn, iD_int, if_true, if_false, Bool.false_eq_true, reduceIte, decide_true, decide_false, decide_eq_true_eq, Nat.reduceLT, Nat.reduceAdd, Nat.reduceSub, callA, takeA, putA, fzs, fzM, mkL, imsOf, List.zip_cons_cons, List.zip_nil_left, List.zip_nil_right, true_and, and_true, List.filterMap_cons, List.filterMap_nil, stays, itemsM, seqM, unsetAll, parM, reduceCtorEq, ne_app, pop_app, popN_app, g_last, lm_lst, lm_nst, Bool.not_false, Bool.not_true, List.filterMap_cons, isiM, ite_true, ite_false, u_ow, o_addS p1, o_addS p2, pn, pm, su, sc]
  refine a2_loop h16 h17 ok [nm ++ "0", cutS nm none (some (-1)), "input", "", Txt.upper nm, " " ++ nm, "zz9"] _ _ fun z7 z8 => ?_
  simp -implicitDefEqProofs only [xss, CP.xs, CP.ev, CP.evs, takeK, evT, evTs, evA, evI, bor, two, evP, setP, fin_some, fin_none, bindO_some, bindO_none, slot0, slot1, set0, set1, List.map_cons, List.map_nil, List.cons_append, List.nil_append, List.getElem?_cons_zero, List.getElem?_cons_succ, Option.bind_some, Option.map_some, Option.getD_some, id, List.length_cons, List.length_nil, List.replicate_succ, List.replicate_zero, bindT, bindTs, tupM, List.length_set, Nat.zero_add, o_mulR, o_mulL, CP.small64, o_mod, o_fdiv, o_pow, o_lenL, o_lenN, o_lenT, o_lenF, o_lenD, o_listL, o_listT, o_listF, o_tupL, o_tupT, o_boolI, Bool.and_true, Bool.true_and, Bool.and_self, Int.reduceNeg, Int.reducePow, Int.reduceLT, Int.reduceLE, Int.reduceAdd, Int.reduceToNat, Int.natAbs_natCast, o_add, o_sub, o_lt, o_le, o_gt, o_ge, o_max, o_min, o_eqI, o_eqS, o_neI, o_neS, o_eqB, o_neB, o_is0, o_isI, o_isS, o_isT, o_isB, o_isn0, o_isnI, o_isnS, o_isnT, o_neg, o_abs, o_intI, o_intB, l_lst, l_nst, l_tup, l_flst, l_dct, t_non, t_bl, t_int, t_lst, t_nst, t_tup, t_dct, i_nil, ty_int, ty_str, ty_bl, ty_non, ty_tup, ty_lst, ow_im, ow_lst, ow_nst, ow_dct, ow_dnn, iD_int, if_true, if_false, Bool.false_eq_true, reduceIte, decide_true, decide_false, decide_eq_true_eq, Nat.reduceLT, Nat.reduceAdd, Nat.reduceSub, callA, takeA, putA, fzs, fzM, mkL, imsOf, List.zip_cons_cons, List.zip_nil_left, List.zip_nil_right, true_and, and_true, List.filterMap_cons, List.filterMap_nil, stays, itemsM, seqM, unsetAll, parM, reduceCtorEq, ne_app, pop_app, popN_app, g_last, lm_lst, lm_nst, Bool.not_false, Bool.not_true, List.filterMap_cons, isiM, ite_true, ite_false, u_ow, List.length_map, h9, pw9]
  refine ⟨l1, a1, g, _, rfl, by omega, fun t2 l2 a2 hu0 hu1 => ?_⟩
  simp -implicitDefEqProofs only [xss, CP.xs, CP.ev, CP.evs, takeK, evT, evTs, evA, evI, bor, two, evP, setP, fin_some, fin_none, bindO_some, bindO_none, slot0, slot1, set0, set1, List.map_cons, List.map_nil, List.cons_append, List.nil_append, List.getElem?_cons_zero, List.getElem?_cons_succ, Option.bind_some, Option.map_some, Option.getD_some, id, List.length_cons, List.length_nil, List.replicate_succ, List.replicate_zero, bindT, bindTs, tupM, List.length_set, Nat.zero_add, o_mulR, o_mulL, CP.small64, o_mod, o_fdiv, o_pow, o_lenL, o_lenN, o_lenT, o_lenF, o_lenD, o_listL, o_listT, o_listF, o_tupL, o_tupT, o_boolI, Bool.and_true, Bool.true_and, Bool.and_self, Int.reduceNeg, Int.reducePow, Int.reduceLT, Int.reduceLE, Int.reduceAdd, Int.reduceToNat, Int.natAbs_natCast, o_add, o_sub, o_lt, o_le, o_gt, o_ge, o_max, o_min, o_eqI, o_eqS, o_neI, o_neS, o_eqB, o_neB, o_is0, o_isI, o_isS, o_isT, o_isB, o_isn0, o_isnI, o_isnS, o_isnT, o_neg, o_abs, o_intI, o_intB, l_lst, l_nst, l_tup, l_flst, l_dct, t_non, t_bl, t_int, t_lst, t_nst, t_tup, t_dct, i_nil, ty_int, ty_str, ty_bl, ty_non, ty_tup, ty_lst, ow_im, ow_lst, ow_nst, ow_dct, ow_dnn, iD_int, if_true, if_false, Bool.false_eq_true, reduceIte, decide_true, decide_false, decide_eq_true_eq, Nat.reduceLT, Nat.reduceAdd, Nat.reduceSub, callA, takeA, putA, fzs, fzM, mkL, imsOf, List.zip_cons_cons, List.zip_nil_left, List.zip_nil_right, true_and, and_true, List.filterMap_cons, List.filterMap_nil, stays, itemsM, seqM, unsetAll, parM, reduceCtorEq, ne_app, pop_app, popN_app, g_last, lm_lst, lm_nst, Bool.not_false, Bool.not_true, List.filterMap_cons, isiM, ite_true, ite_false, u_ow, List.length_map, h9]
  refine ⟨l2, a2, g, _, rfl, by omega, fun t3 l3 a3 hv0 hv1 => ?_⟩
  simp -implicitDefEqProofs only [xss, CP.xs, CP.ev, CP.evs, takeK, evT, evTs, evA, evI, bor, two, evP, setP, fin_some, fin_none, bindO_some, bindO_none, slot0, slot1, set0, set1, List.map_cons, List.map_nil, List.cons_append, List.nil_append, List.getElem?_cons_zero, List.getElem?_cons_succ, Option.bind_some, Option.map_some, Option.getD_some, id, List.length_cons, List.length_nil, List.replicate_succ, List.replicate_zero, bindT, bindTs, tupM, List.length_set, Nat.zero_add, o_mulR, o_mulL, CP.small64, o_mod, o_fdiv, o_pow, o_lenL, o_lenN, o_lenT, o_lenF, o_lenD, o_listL, o_listT, o_listF, o_tupL, o_tupT, o_boolI, Bool.and_true, Bool.true_and, Bool.and_self, Int.reduceNeg, Int.reducePow, Int.reduceLT, Int.reduceLE, Int.reduceAdd, Int.reduceToNat, Int.natAbs_natCast, o_add, o_sub, o_lt, o_le, o_gt, o_ge, o_max, o_min, o_eqI, o_eqS, o_neI, o_neS, o_eqB, o_neB, o_is0, o_isI, o_isS, o_isT, o_isB, o_isn0, o_isnI, o_isnS, o_isnT, o_neg, o_abs, o_intI, o_intB, l_lst, l_nst, l_tup, l_flst, l_dct, t_non, t_bl, t_int, t_lst, t_nst, t_tup, t_dct, i_nil, ty_int, ty_str, ty_bl, ty_non, ty_tup, ty_lst, ow_im, ow_lst, ow_nst, ow_dct, ow_dnn, iD_int, if_true, if_false, Bool.false_eq_true, reduceIte, decide_true, decide_false, decide_eq_true_eq, Nat.reduceLT, Nat.reduceAdd, Nat.reduceSub, callA, takeA, putA, fzs, fzM, mkL, imsOf, List.zip_cons_cons, List.zip_nil_left, List.zip_nil_right, true_and, and_true, List.filterMap_cons, List.filterMap_nil, stays, itemsM, seqM, unsetAll, parM, reduceCtorEq, ne_app, pop_app, popN_app, g_last, lm_lst, lm_nst, Bool.not_false, Bool.not_true, List.filterMap_cons, isiM, ite_true, ite_false, u_ow]
  refine a3_loop h16 h17 ok [(n.names.length : Int), -1, (n.names.length : Int) + t2, -1 - t3] _ (fun x hx => ?_) fun a9 => ?_
  · simp -implicitDefEqProofs only [List.mem_cons, List.not_mem_nil, or_false] at hx
    rcases hx with rfl | rfl | rfl | rfl <;> omega
  simp -implicitDefEqProofs only [xss, CP.xs, CP.ev, CP.evs, takeK, evT, evTs, evA, evI, bor, two, evP, setP, fin_some, fin_none, bindO_some, bindO_none, slot0, slot1, set0, set1, List.map_cons, List.map_nil, List.cons_append, List.nil_append, List.getElem?_cons_zero, List.getElem?_cons_succ, Option.bind_some, Option.map_some, Option.getD_some, id, List.length_cons, List.length_nil, List.replicate_succ, List.replicate_zero, bindT, bindTs, tupM, List.length_set, Nat.zero_add, o_mulR, o_mulL, CP.small64, o_mod, o_fdiv, o_pow, o_lenL, o_lenN, o_lenT, o_lenF, o_lenD, o_listL, o_listT, o_listF, o_tupL, o_tupT, o_boolI, Bool.and_true, Bool.true_and, Bool.and_self, Int.reduceNeg, Int.reducePow, Int.reduceLT, Int.reduceLE, Int.reduceAdd, Int.reduceToNat, Int.natAbs_natCast, o_add, o_sub, o_lt, o_le, o_gt, o_ge, o_max, o_min, o_eqI, o_eqS, o_neI, o_neS, o_eqB, o_neB, o_is0, o_isI, o_isS, o_isT, o_isB, o_isn0, o_isnI, o_isnS, o_isnT, o_neg, o_abs, o_intI, o_intB, l_lst, l_nst, l_tup, l_flst, l_dct, t_non, t_bl, t_int, t_lst, t_nst, t_tup, t_dct, i_nil, ty_int, ty_str, ty_bl, ty_non, ty_tup, ty_lst, ow_im, ow_lst, ow_nst, ow_dct, ow_dnn, iD_int, if_true, if_false, Bool.false_eq_true, reduceIte, decide_true, decide_false, decide_eq_true_eq, Nat.reduceLT, Nat.reduceAdd, Nat.reduceSub, callA, takeA, putA, fzs, fzM, mkL, imsOf, List.zip_cons_cons, List.zip_nil_left, List.zip_nil_right, true_and, and_true, List.filterMap_cons, List.filterMap_nil, stays, itemsM, seqM, unsetAll, parM, reduceCtorEq, ne_app, pop_app, popN_app, g_last, lm_lst, lm_nst, Bool.not_false, Bool.not_true, List.filterMap_cons, isiM, ite_true, ite_false, u_ow]
  exact q _ _ _
end K10
namespace K10
open PySem PySem.Spec PyProof.Rows L2 CP
/-! ### the law -/
theorem law_loop {Γ : Nat → CP.Sp} (h9 : Γ 9 = sipSp) (h14 : Γ 14 = netSp) (h19 : Γ 19 = askSp) {Kk : Ks} {P0 P2 z5 : Option M} {g : List Int} : ∀ (ks : List Nat) (l : Int) (a : Nat) (x y : Option M),
    (∀ l a x y, Kk.nx [P0, some (urnM l a g), P2, x, y, z5]) →
    forR (fun _ => True) (fun d s => bindT t21_1 (.im d) s) (xss G Γ l21_1) Kk (ks.map fun (k : Nat) => D.int (k : Int)) [P0, some (urnM l a g), P2, x, y, z5]
  | [], l, a, x, y, q => q l a x y
  | k :: ks, l, a, x, y, q => by
    have ih := fun l a x y => law_loop (Γ := Γ) h9 h14 h19 (Kk := Kk) (P0 := P0) (P2 := P2) (z5 := z5) (g := g) ks l a x y q
    have pick : ∀ t : Int, 0 ≤ t → t < 3 → ∃ b : Str, getM (.lst [.str "", .str "q", .str "7"]) (.im (.int t)) = some (.im (.str b)) ∧ b.length ≤ 10 := fun t h0 h1 => by
      have : t = 0 ∨ t = 1 ∨ t = 2 := by omega
      rcases this with rfl | rfl | rfl
      · exact ⟨"", rfl, by decide⟩
      · exact ⟨"q", rfl, by decide⟩
      · exact ⟨"7", rfl, by decide⟩
    rw [List.map_cons, for_cons]
    generalize forR (fun _ => True) (fun d s => bindT t21_1 (.im d) s) (xss G Γ l21_1) Kk (ks.map fun (k : Nat) => D.int (k : Int)) = W at ih ⊢
    simp -implicitDefEqProofs only [t21_1, l21_1, xss, CP.xs, CP.ev, CP.evs, takeK, evT, evTs, evA, evI, bor, two, evP, setP, fin_some, fin_none, bindO_some, bindO_none, slot0, slot1, set0, set1, List.map_cons, List.map_nil, List.cons_append, List.nil_append, List.getElem?_cons_zero, List.getElem?_cons_succ, Option.bind_some, Option.map_some, Option.getD_some, id, List.length_cons, List.length_nil, List.replicate_succ, List.replicate_zero, bindT, bindTs, tupM, List.length_set, Nat.zero_add, o_mulR, o_mulL, CP.small64, o_mod, o_fdiv, o_pow, o_lenL, o_lenN, o_lenT, o_lenF, o_lenD, o_listL, o_listT, o_listF, o_tupL, o_tupT, o_boolI, Bool.and_true, Bool.true_and, Bool.and_self, Int.reduceNeg, Int.reducePow, Int.reduceLT, Int.reduceLE, Int.reduceAdd, Int.reduceToNat, Int.natAbs_natCast, o_add, o_sub, o_lt, o_le, o_gt, o_ge, o_max, o_min, o_eqI, o_eqS, o_neI, o_neS, o_eqB, o_neB, o_is0, o_isI, o_isS, o_isT, o_isB, o_isn0, o_isnI, o_isnS, o_isnT, o_neg, o_abs, o_intI, o_intB, l_lst, l_nst, l_tup, l_flst, l_dct, t_non, t_bl, t_int, t_lst, t_nst, t_tup, t_dct, i_nil, ty_int, ty_str, ty_bl, ty_non, ty_tup, ty_lst, ow_im, ow_lst, ow_nst, ow_dct, ow_dnn, iD_int, if_true, if_false, Bool.false_eq_true, reduceIte, decide_true, decide_false, decide_eq_true_eq, Nat.reduceLT, Nat.reduceAdd, Nat.reduceSub, callA, takeA, putA, fzs, fzM, mkL, imsOf, List.zip_cons_cons, List.zip_nil_left, List.zip_nil_right, true_and, and_true, List.filterMap_cons, List.filterMap_nil, stays, itemsM, seqM, unsetAll, parM, reduceCtorEq, ne_app, pop_app, popN_app, g_last, lm_lst, lm_nst, Bool.not_false, Bool.not_true, List.filterMap_cons, isiM, ite_true, ite_false, u_ow, h9, h14, h19]
    refine ⟨l, a, g, 4, rfl, by omega, fun t1 l1 a1 ha0 ha1 => ?_⟩
    simp -implicitDefEqProofs only [xss, CP.xs, CP.ev, CP.evs, takeK, evT, evTs, evA, evI, bor, two, evP, setP, fin_some, fin_none, bindO_some, bindO_none, slot0, slot1, set0, set1, List.map_cons, List.map_nil, List.cons_append, List.nil_append, List.getElem?_cons_zero, List.getElem?_cons_succ, Option.bind_some, Option.map_some, Option.getD_some, id, List.length_cons, List.length_nil, List.replicate_succ, List.replicate_zero, bindT, bindTs, tupM, List.length_set, Nat.zero_add, o_mulR, o_mulL, CP.small64, o_mod, o_fdiv, o_pow, o_lenL, o_lenN, o_lenT, o_lenF, o_lenD, o_listL, o_listT, o_listF, o_tupL, o_tupT, o_boolI, Bool.and_true, Bool.true_and, Bool.and_self, Int.reduceNeg, Int.reducePow, Int.reduceLT, Int.reduceLE, Int.reduceAdd, Int.reduceToNat, Int.natAbs_natCast, o_add, o_sub, o_lt, o_le, o_gt, o_ge, o_max, o_min, o_eqI, o_eqS, o_neI, o_neS, o_eqB, o_neB, o_is0, o_isI, o_isS, o_isT, o_isB, o_isn0, o_isnI, o_isnS, o_isnT, o_neg, o_abs, o_intI, o_intB, l_lst, l_nst, l_tup, l_flst, l_dct, t_non, t_bl, t_int, t_lst, t_nst, t_tup, t_dct, i_nil, ty_int, ty_str, ty_bl, ty_non, ty_tup, ty_lst, ow_im, ow_lst, ow_nst, ow_dct, ow_dnn, iD_int, if_true, if_false, Bool.false_eq_true, reduceIte, decide_true, decide_false, decide_eq_true_eq, Nat.reduceLT, Nat.reduceAdd, Nat.reduceSub, callA, takeA, putA, fzs, fzM, mkL, imsOf, List.zip_cons_cons, List.zip_nil_left, List.zip_nil_right, true_and, and_true, List.filterMap_cons, List.filterMap_nil, stays, itemsM, seqM, unsetAll, parM, reduceCtorEq, ne_app, pop_app, popN_app, g_last, lm_lst, lm_nst, Bool.not_false, Bool.not_true, List.filterMap_cons, isiM, ite_true, ite_false, u_ow, h9]
    refine ⟨l1, a1, g, 6, rfl, by omega, fun t2 l2 a2 hb0 hb1 => ?_⟩
    simp -implicitDefEqProofs only [xss, CP.xs, CP.ev, CP.evs, takeK, evT, evTs, evA, evI, bor, two, evP, setP, fin_some, fin_none, bindO_some, bindO_none, slot0, slot1, set0, set1, List.map_cons, List.map_nil, List.cons_append, List.nil_append, List.getElem?_cons_zero, List.getElem?_cons_succ, Option.bind_some, Option.map_some, Option.getD_some, id, List.length_cons, List.length_nil, List.replicate_succ, List.replicate_zero, bindT, bindTs, tupM, List.length_set, Nat.zero_add, o_mulR, o_mulL, CP.small64, o_mod, o_fdiv, o_pow, o_lenL, o_lenN, o_lenT, o_lenF, o_lenD, o_listL, o_listT, o_listF, o_tupL, o_tupT, o_boolI, Bool.and_true, Bool.true_and, Bool.and_self, Int.reduceNeg, Int.reducePow, Int.reduceLT, Int.reduceLE, Int.reduceAdd, Int.reduceToNat, Int.natAbs_natCast, o_add, o_sub, o_lt, o_le, o_gt, o_ge, o_max, o_min, o_eqI, o_eqS, o_neI, o_neS, o_eqB, o_neB, o_is0, o_isI, o_isS, o_isT, o_isB, o_isn0, o_isnI, o_isnS, o_isnT, o_neg, o_abs, o_intI, o_intB, l_lst, l_nst, l_tup, l_flst, l_dct, t_non, t_bl, t_int, t_lst, t_nst, t_tup, t_dct, i_nil, ty_int, ty_str, ty_bl, ty_non, ty_tup, ty_lst, ow_im, ow_lst, ow_nst, ow_dct, ow_dnn, iD_int, if_true, if_false, Bool.false_eq_true, reduceIte, decide_true, decide_false, decide_eq_true_eq, Nat.reduceLT, Nat.reduceAdd, Nat.reduceSub, callA, takeA, putA, fzs, fzM, mkL, imsOf, List.zip_cons_cons, List.zip_nil_left, List.zip_nil_right, true_and, and_true, List.filterMap_cons, List.filterMap_nil, stays, itemsM, seqM, unsetAll, parM, reduceCtorEq, ne_app, pop_app, popN_app, g_last, lm_lst, lm_nst, Bool.not_false, Bool.not_true, List.filterMap_cons, isiM, ite_true, ite_false, u_ow, h9]
    refine ⟨l2, a2, g, 3, rfl, by omega, fun t3 l3 a3 hc0 hc1 => ?_⟩
    obtain ⟨b, hb, hbl⟩ := pick t3 hc0 hc1
    simp -implicitDefEqProofs only [xss, CP.xs, CP.ev, CP.evs, takeK, evT, evTs, evA, evI, bor, two, evP, setP, fin_some, fin_none, bindO_some, bindO_none, slot0, slot1, set0, set1, List.map_cons, List.map_nil, List.cons_append, List.nil_append, List.getElem?_cons_zero, List.getElem?_cons_succ, Option.bind_some, Option.map_some, Option.getD_some, id, List.length_cons, List.length_nil, List.replicate_succ, List.replicate_zero, bindT, bindTs, tupM, List.length_set, Nat.zero_add, o_mulR, o_mulL, CP.small64, o_mod, o_fdiv, o_pow, o_lenL, o_lenN, o_lenT, o_lenF, o_lenD, o_listL, o_listT, o_listF, o_tupL, o_tupT, o_boolI, Bool.and_true, Bool.true_and, Bool.and_self, Int.reduceNeg, Int.reducePow, Int.reduceLT, Int.reduceLE, Int.reduceAdd, Int.reduceToNat, Int.natAbs_natCast, o_add, o_sub, o_lt, o_le, o_gt, o_ge, o_max, o_min, o_eqI, o_eqS, o_neI, o_neS, o_eqB, o_neB, o_is0, o_isI, o_isS, o_isT, o_isB, o_isn0, o_isnI, o_isnS, o_isnT, o_neg, o_abs, o_intI, o_intB, l_lst, l_nst, l_tup, l_flst, l_dct, t_non, t_bl, t_int, t_lst, t_nst, t_tup, t_dct, i_nil, ty_int, ty_str, ty_bl, ty_non, ty_tup, ty_lst, ow_im, ow_lst, ow_nst, ow_dct, ow_dnn, iD_int, if_true, if_false, Bool.false_eq_true, reduceIte, decide_true, decide_false, decide_eq_true_eq, Nat.reduceLT, Nat.reduceAdd, Nat.reduceSub, callA, takeA, putA, fzs, fzM, mkL, imsOf, List.zip_cons_cons, List.zip_nil_left, List.zip_nil_right, true_and, and_true, List.filterMap_cons, List.filterMap_nil, stays, itemsM, seqM, unsetAll, parM, reduceCtorEq, ne_app, pop_app, popN_app, g_last, lm_lst, lm_nst, Bool.not_false, Bool.not_true, List.filterMap_cons, isiM, ite_true, ite_false, u_ow, o_idx hb, h14]
    refine ⟨l3, a3, g, _, _, b, rfl, ⟨by omega, by omega⟩, ⟨by omega, by omega⟩, hbl, fun n l4 a4 o2 o3 o4 o5 ok => ?_⟩
    simp -implicitDefEqProofs only [xss, CP.xs, CP.ev, CP.evs, takeK, evT, evTs, evA, evI, bor, two, evP, setP, fin_some, fin_none, bindO_some, bindO_none, slot0, slot1, set0, set1, List.map_cons, List.map_nil, List.cons_append, List.nil_append, List.getElem?_cons_zero, List.getElem?_cons_succ, Option.bind_some, Option.map_some, Option.getD_some, id, List.length_cons, List.length_nil, List.replicate_succ, List.replicate_zero, bindT, bindTs, tupM, List.length_set, Nat.zero_add, o_mulR, o_mulL, CP.small64, o_mod, o_fdiv, o_pow, o_lenL, o_lenN, o_lenT, o_lenF, o_lenD, o_listL, o_listT, o_listF, o_tupL, o_tupT, o_boolI, Bool.and_true, Bool.true_and, Bool.and_self, Int.reduceNeg, Int.reducePow, Int.reduceLT, Int.reduceLE, Int.reduceAdd, Int.reduceToNat, Int.natAbs_natCast, o_add, o_sub, o_lt, o_le, o_gt, o_ge, o_max, o_min, o_eqI, o_eqS, o_neI, o_neS, o_eqB, o_neB, o_is0, o_isI, o_isS, o_isT, o_isB, o_isn0, o_isnI, o_isnS, o_isnT, o_neg, o_abs, o_intI, o_intB, l_lst, l_nst, l_tup, l_flst, l_dct, t_non, t_bl, t_int, t_lst, t_nst, t_tup, t_dct, i_nil, ty_int, ty_str, ty_bl, ty_non, ty_tup, ty_lst, ow_im, ow_lst, ow_nst, ow_dct, ow_dnn, iD_int, if_true, if_false, Bool.false_eq_true, reduceIte, decide_true, decide_false, decide_eq_true_eq, Nat.reduceLT, Nat.reduceAdd, Nat.reduceSub, callA, takeA, putA, fzs, fzM, mkL, imsOf, List.zip_cons_cons, List.zip_nil_left, List.zip_nil_right, true_and, and_true, List.filterMap_cons, List.filterMap_nil, stays, itemsM, seqM, unsetAll, parM, reduceCtorEq, ne_app, pop_app, popN_app, g_last, lm_lst, lm_nst, Bool.not_false, Bool.not_true, List.filterMap_cons, isiM, ite_true, ite_false, u_ow, h19]
    refine ⟨l4, a4, g, n, rfl, ok, fun l5 a5 o => ?_⟩
    simp -implicitDefEqProofs only [xss, CP.xs, CP.ev, CP.evs, takeK, evT, evTs, evA, evI, bor, two, evP, setP, fin_some, fin_none, bindO_some, bindO_none, slot0, slot1, set0, set1, List.map_cons, List.map_nil, List.cons_append, List.nil_append, List.getElem?_cons_zero, List.getElem?_cons_succ, Option.bind_some, Option.map_some, Option.getD_some, id, List.length_cons, List.length_nil, List.replicate_succ, List.replicate_zero, bindT, bindTs, tupM, List.length_set, Nat.zero_add, o_mulR, o_mulL, CP.small64, o_mod, o_fdiv, o_pow, o_lenL, o_lenN, o_lenT, o_lenF, o_lenD, o_listL, o_listT, o_listF, o_tupL, o_tupT, o_boolI, Bool.and_true, Bool.true_and, Bool.and_self, Int.reduceNeg, Int.reducePow, Int.reduceLT, Int.reduceLE, Int.reduceAdd, Int.reduceToNat, Int.natAbs_natCast, o_add, o_sub, o_lt, o_le, o_gt, o_ge, o_max, o_min, o_eqI, o_eqS, o_neI, o_neS, o_eqB, o_neB, o_is0, o_isI, o_isS, o_isT, o_isB, o_isn0, o_isnI, o_isnS, o_isnT, o_neg, o_abs, o_intI, o_intB, l_lst, l_nst, l_tup, l_flst, l_dct, t_non, t_bl, t_int, t_lst, t_nst, t_tup, t_dct, i_nil, ty_int, ty_str, ty_bl, ty_non, ty_tup, ty_lst, ow_im, ow_lst, ow_nst, ow_dct, ow_dnn, iD_int, if_true, if_false, Bool.false_eq_true, reduceIte, decide_true, decide_false, decide_eq_true_eq, Nat.reduceLT, Nat.reduceAdd, Nat.reduceSub, callA, takeA, putA, fzs, fzM, mkL, imsOf, List.zip_cons_cons, List.zip_nil_left, List.zip_nil_right, true_and, and_true, List.filterMap_cons, List.filterMap_nil, stays, itemsM, seqM, unsetAll, parM, reduceCtorEq, ne_app, pop_app, popN_app, g_last, lm_lst, lm_nst, Bool.not_false, Bool.not_true, List.filterMap_cons, isiM, ite_true, ite_false, u_ow]
    exact ih _ _ _ _
def ring : Net := ⟨[⟨"x", 0, 1⟩], [⟨"ab", [(0, 0, 1), (2, 3, 1)]⟩, ⟨"abc", [(1, 0, 2), (2, 1, 1)]⟩]⟩
theorem ring_ok : ring.ok := by
  refine ⟨by decide, by decide, fun p hp => ?_, by decide +kernel, fun s hs => ?_, by decide⟩
  · have : p = ⟨"ab", [(0, 0, 1), (2, 3, 1)]⟩ ∨ p = ⟨"abc", [(1, 0, 2), (2, 1, 1)]⟩ := by simpa [ring] using hp
    rcases this with rfl | rfl
    · refine ⟨by decide, fun t ht => ?_⟩
      have : t = (0, 0, 1) ∨ t = (2, 3, 1) := by simpa using ht
      rcases this with rfl | rfl <;> exact ⟨by decide, by decide⟩
    · refine ⟨by decide, fun t ht => ?_⟩
      have : t = (1, 0, 2) ∨ t = (2, 1, 1) := by simpa using ht
      rcases this with rfl | rfl <;> exact ⟨by decide, by decide⟩
  · have : s = "x" ∨ s = "ab" ∨ s = "abc" := by simpa [ring, Net.names] using hs
    rcases this with rfl | rfl | rfl <;> decide
def lawSp : CP.Sp := fun ms Q E => ∃ m ns, ms = [m] ∧ IsScr m ns ∧ ns.length ≤ 63 ∧ Q (.im (.bl true)) [some m]
def ringM : M := .im (.tup [.tup [.tup [.str "x", .int 0, .int 1]], .tup [.tup [.str "ab", .tup [.tup [.int 0, .int 0, .int 1], .tup [.int 2, .int 3, .int 1]]], .tup [.str "abc", .tup [.tup [.int 1, .int 0, .int 2], .tup [.int 2, .int 1, .int 1]]]]])
theorem ring_eq : ringM = .im (netD ring) := rfl
theorem law_ok {Γ : Nat → CP.Sp} (h1 : Γ 1 = spansSp) (h2 : Γ 2 = cellsSp) (h3 : Γ 3 = namesSp) (h8 : Γ 8 = urnSp) (h9 : Γ 9 = sipSp) (h14 : Γ 14 = netSp) (h16 : Γ 16 = sameSp) (h19 : Γ 19 = askSp) (h20 : Γ 20 = widSp) : ∀ ms Q E, lawSp ms Q E → bodySp p21.length n21.length A21 (xss G Γ b21) ms Q E := by
  rintro ms Q E ⟨m, ns, rfl, hs, hl, q⟩
  refine ⟨rfl, ?_⟩
  have e0 : [m].map some ++ List.replicate (n21.length - p21.length) none = [some m, none, none, none, none, none] := rfl
  have s1 : ∀ Kx : Ks, (∀ l g, Kx.nx [some m, some (urnM l 0 g), none, none, none, none]) → CP.xs G Γ (.asg (.v 1) (.call 8 (.cons (.v 0) .nil))) Kx [some m, none, none, none, none, none] := fun Kx k => by
    have hs' := hs
    rcases hs with rfl | rfl
    · simp -implicitDefEqProofs only [xss, CP.xs, CP.ev, CP.evs, takeK, evT, evTs, evA, evI, bor, two, evP, setP, fin_some, fin_none, bindO_some, bindO_none, slot0, slot1, set0, set1, List.map_cons, List.map_nil, List.cons_append, List.nil_append, List.getElem?_cons_zero, List.getElem?_cons_succ, Option.bind_some, Option.map_some, Option.getD_some, id, List.length_cons, List.length_nil, List.replicate_succ, List.replicate_zero, bindT, bindTs, tupM, List.length_set, Nat.zero_add, o_mulR, o_mulL, CP.small64, o_mod, o_fdiv, o_pow, o_lenL, o_lenN, o_lenT, o_lenF, o_lenD, o_listL, o_listT, o_listF, o_tupL, o_tupT, o_boolI, Bool.and_true, Bool.true_and, Bool.and_self, Int.reduceNeg, Int.reducePow, Int.reduceLT, Int.reduceLE, Int.reduceAdd, Int.reduceToNat, Int.natAbs_natCast, o_add, o_sub, o_lt, o_le, o_gt, o_ge, o_max, o_min, o_eqI, o_eqS, o_neI, o_neS, o_eqB, o_neB, o_is0, o_isI, o_isS, o_isT, o_isB, o_isn0, o_isnI, o_isnS, o_isnT, o_neg, o_abs, o_intI, o_intB, l_lst, l_nst, l_tup, l_flst, l_dct, t_non, t_bl, t_int, t_lst, t_nst, t_tup, t_dct, i_nil, ty_int, ty_str, ty_bl, ty_non, ty_tup, ty_lst, ow_im, ow_lst, ow_nst, ow_dct, ow_dnn, iD_int, if_true, if_false, Bool.false_eq_true, reduceIte, decide_true, decide_false, decide_eq_true_eq, Nat.reduceLT, Nat.reduceAdd, Nat.reduceSub, callA, takeA, putA, fzs, fzM, mkL, imsOf, List.zip_cons_cons, List.zip_nil_left, List.zip_nil_right, true_and, and_true, List.filterMap_cons, List.filterMap_nil, stays, itemsM, seqM, unsetAll, parM, reduceCtorEq, ne_app, pop_app, popN_app, g_last, lm_lst, lm_nst, Bool.not_false, Bool.not_true, List.filterMap_cons, isiM, ite_true, ite_false, h8]
      refine ⟨_, ns, rfl, hs', hl, fun l g => ?_⟩
      simp -implicitDefEqProofs only [xss, CP.xs, CP.ev, CP.evs, takeK, evT, evTs, evA, evI, bor, two, evP, setP, fin_some, fin_none, bindO_some, bindO_none, slot0, slot1, set0, set1, List.map_cons, List.map_nil, List.cons_append, List.nil_append, List.getElem?_cons_zero, List.getElem?_cons_succ, Option.bind_some, Option.map_some, Option.getD_some, id, List.length_cons, List.length_nil, List.replicate_succ, List.replicate_zero, bindT, bindTs, tupM, List.length_set, Nat.zero_add, o_mulR, o_mulL, CP.small64, o_mod, o_fdiv, o_pow, o_lenL, o_lenN, o_lenT, o_lenF, o_lenD, o_listL, o_listT, o_listF, o_tupL, o_tupT, o_boolI, Bool.and_true, Bool.true_and, Bool.and_self, Int.reduceNeg, Int.reducePow, Int.reduceLT, Int.reduceLE, Int.reduceAdd, Int.reduceToNat, Int.natAbs_natCast, o_add, o_sub, o_lt, o_le, o_gt, o_ge, o_max, o_min, o_eqI, o_eqS, o_neI, o_neS, o_eqB, o_neB, o_is0, o_isI, o_isS, o_isT, o_isB, o_isn0, o_isnI, o_isnS, o_isnT, o_neg, o_abs, o_intI, o_intB, l_lst, l_nst, l_tup, l_flst, l_dct, t_non, t_bl, t_int, t_lst, t_nst, t_tup, t_dct, i_nil, ty_int, ty_str, ty_bl, ty_non, ty_tup, ty_lst, ow_im, ow_lst, ow_nst, ow_dct, ow_dnn, iD_int, if_true, if_false, Bool.false_eq_true, reduceIte, decide_true, decide_false, decide_eq_true_eq, Nat.reduceLT, Nat.reduceAdd, Nat.reduceSub, callA, takeA, putA, fzs, fzM, mkL, imsOf, List.zip_cons_cons, List.zip_nil_left, List.zip_nil_right, true_and, and_true, List.filterMap_cons, List.filterMap_nil, stays, itemsM, seqM, unsetAll, parM, reduceCtorEq, ne_app, pop_app, popN_app, g_last, lm_lst, lm_nst, Bool.not_false, Bool.not_true, List.filterMap_cons, isiM, ite_true, ite_false]
      exact k l g
    · simp -implicitDefEqProofs only [xss, CP.xs, CP.ev, CP.evs, takeK, evT, evTs, evA, evI, bor, two, evP, setP, fin_some, fin_none, bindO_some, bindO_none, slot0, slot1, set0, set1, List.map_cons, List.map_nil, List.cons_append, List.nil_append, List.getElem?_cons_zero, List.getElem?_cons_succ, Option.bind_some, Option.map_some, Option.getD_some, id, List.length_cons, List.length_nil, List.replicate_succ, List.replicate_zero, bindT, bindTs, tupM, List.length_set, Nat.zero_add, o_mulR, o_mulL, CP.small64, o_mod, o_fdiv, o_pow, o_lenL, o_lenN, o_lenT, o_lenF, o_lenD, o_listL, o_listT, o_listF, o_tupL, o_tupT, o_boolI, Bool.and_true, Bool.true_and, Bool.and_self, Int.reduceNeg, Int.reducePow, Int.reduceLT, Int.reduceLE, Int.reduceAdd, Int.reduceToNat, Int.natAbs_natCast, o_add, o_sub, o_lt, o_le, o_gt, o_ge, o_max, o_min, o_eqI, o_eqS, o_neI, o_neS, o_eqB, o_neB, o_is0, o_isI, o_isS, o_isT, o_isB, o_isn0, o_isnI, o_isnS, o_isnT, o_neg, o_abs, o_intI, o_intB, l_lst, l_nst, l_tup, l_flst, l_dct, t_non, t_bl, t_int, t_lst, t_nst, t_tup, t_dct, i_nil, ty_int, ty_str, ty_bl, ty_non, ty_tup, ty_lst, ow_im, ow_lst, ow_nst, ow_dct, ow_dnn, iD_int, if_true, if_false, Bool.false_eq_true, reduceIte, decide_true, decide_false, decide_eq_true_eq, Nat.reduceLT, Nat.reduceAdd, Nat.reduceSub, callA, takeA, putA, fzs, fzM, mkL, imsOf, List.zip_cons_cons, List.zip_nil_left, List.zip_nil_right, true_and, and_true, List.filterMap_cons, List.filterMap_nil, stays, itemsM, seqM, unsetAll, parM, reduceCtorEq, ne_app, pop_app, popN_app, g_last, lm_lst, lm_nst, Bool.not_false, Bool.not_true, List.filterMap_cons, isiM, ite_true, ite_false, h8]
      refine ⟨_, ns, rfl, hs', hl, fun l g => ?_⟩
      simp -implicitDefEqProofs only [xss, CP.xs, CP.ev, CP.evs, takeK, evT, evTs, evA, evI, bor, two, evP, setP, fin_some, fin_none, bindO_some, bindO_none, slot0, slot1, set0, set1, List.map_cons, List.map_nil, List.cons_append, List.nil_append, List.getElem?_cons_zero, List.getElem?_cons_succ, Option.bind_some, Option.map_some, Option.getD_some, id, List.length_cons, List.length_nil, List.replicate_succ, List.replicate_zero, bindT, bindTs, tupM, List.length_set, Nat.zero_add, o_mulR, o_mulL, CP.small64, o_mod, o_fdiv, o_pow, o_lenL, o_lenN, o_lenT, o_lenF, o_lenD, o_listL, o_listT, o_listF, o_tupL, o_tupT, o_boolI, Bool.and_true, Bool.true_and, Bool.and_self, Int.reduceNeg, Int.reducePow, Int.reduceLT, Int.reduceLE, Int.reduceAdd, Int.reduceToNat, Int.natAbs_natCast, o_add, o_sub, o_lt, o_le, o_gt, o_ge, o_max, o_min, o_eqI, o_eqS, o_neI, o_neS, o_eqB, o_neB, o_is0, o_isI, o_isS, o_isT, o_isB, o_isn0, o_isnI, o_isnS, o_isnT, o_neg, o_abs, o_intI, o_intB, l_lst, l_nst, l_tup, l_flst, l_dct, t_non, t_bl, t_int, t_lst, t_nst, t_tup, t_dct, i_nil, ty_int, ty_str, ty_bl, ty_non, ty_tup, ty_lst, ow_im, ow_lst, ow_nst, ow_dct, ow_dnn, iD_int, if_true, if_false, Bool.false_eq_true, reduceIte, decide_true, decide_false, decide_eq_true_eq, Nat.reduceLT, Nat.reduceAdd, Nat.reduceSub, callA, takeA, putA, fzs, fzM, mkL, imsOf, List.zip_cons_cons, List.zip_nil_left, List.zip_nil_right, true_and, and_true, List.filterMap_cons, List.filterMap_nil, stays, itemsM, seqM, unsetAll, parM, reduceCtorEq, ne_app, pop_app, popN_app, g_last, lm_lst, lm_nst, Bool.not_false, Bool.not_true, List.filterMap_cons, isiM, ite_true, ite_false]
      exact k l g
  rw [e0, seq_c]
  refine s1 _ fun l g => ?_
  simp -implicitDefEqProofs only [xss, CP.xs, CP.ev, CP.evs, takeK, evT, evTs, evA, evI, bor, two, evP, setP, fin_some, fin_none, bindO_some, bindO_none, slot0, slot1, set0, set1, List.map_cons, List.map_nil, List.cons_append, List.nil_append, List.getElem?_cons_zero, List.getElem?_cons_succ, Option.bind_some, Option.map_some, Option.getD_some, id, List.length_cons, List.length_nil, List.replicate_succ, List.replicate_zero, bindT, bindTs, tupM, List.length_set, Nat.zero_add, o_mulR, o_mulL, CP.small64, o_mod, o_fdiv, o_pow, o_lenL, o_lenN, o_lenT, o_lenF, o_lenD, o_listL, o_listT, o_listF, o_tupL, o_tupT, o_boolI, Bool.and_true, Bool.true_and, Bool.and_self, Int.reduceNeg, Int.reducePow, Int.reduceLT, Int.reduceLE, Int.reduceAdd, Int.reduceToNat, Int.natAbs_natCast, o_add, o_sub, o_lt, o_le, o_gt, o_ge, o_max, o_min, o_eqI, o_eqS, o_neI, o_neS, o_eqB, o_neB, o_is0, o_isI, o_isS, o_isT, o_isB, o_isn0, o_isnI, o_isnS, o_isnT, o_neg, o_abs, o_intI, o_intB, l_lst, l_nst, l_tup, l_flst, l_dct, t_non, t_bl, t_int, t_lst, t_nst, t_tup, t_dct, i_nil, ty_int, ty_str, ty_bl, ty_non, ty_tup, ty_lst, ow_im, ow_lst, ow_nst, ow_dct, ow_dnn, iD_int, if_true, if_false, Bool.false_eq_true, reduceIte, decide_true, decide_false, decide_eq_true_eq, Nat.reduceLT, Nat.reduceAdd, Nat.reduceSub, callA, takeA, putA, fzs, fzM, mkL, imsOf, List.zip_cons_cons, List.zip_nil_left, List.zip_nil_right, true_and, and_true, List.filterMap_cons, List.filterMap_nil, stays, itemsM, seqM, unsetAll, parM, reduceCtorEq, ne_app, pop_app, popN_app, g_last, lm_lst, lm_nst, Bool.not_false, Bool.not_true, List.filterMap_cons, isiM, ite_true, ite_false, u_0, u_ow]
  refine law_loop h9 h14 h19 [0, 1, 2] l 0 _ _ fun l a x y => ?_
  simp -implicitDefEqProofs only [xss, CP.xs, CP.ev, CP.evs, takeK, evT, evTs, evA, evI, bor, two, evP, setP, fin_some, fin_none, bindO_some, bindO_none, slot0, slot1, set0, set1, List.map_cons, List.map_nil, List.cons_append, List.nil_append, List.getElem?_cons_zero, List.getElem?_cons_succ, Option.bind_some, Option.map_some, Option.getD_some, id, List.length_cons, List.length_nil, List.replicate_succ, List.replicate_zero, bindT, bindTs, tupM, List.length_set, Nat.zero_add, o_mulR, o_mulL, CP.small64, o_mod, o_fdiv, o_pow, o_lenL, o_lenN, o_lenT, o_lenF, o_lenD, o_listL, o_listT, o_listF, o_tupL, o_tupT, o_boolI, Bool.and_true, Bool.true_and, Bool.and_self, Int.reduceNeg, Int.reducePow, Int.reduceLT, Int.reduceLE, Int.reduceAdd, Int.reduceToNat, Int.natAbs_natCast, o_add, o_sub, o_lt, o_le, o_gt, o_ge, o_max, o_min, o_eqI, o_eqS, o_neI, o_neS, o_eqB, o_neB, o_is0, o_isI, o_isS, o_isT, o_isB, o_isn0, o_isnI, o_isnS, o_isnT, o_neg, o_abs, o_intI, o_intB, l_lst, l_nst, l_tup, l_flst, l_dct, t_non, t_bl, t_int, t_lst, t_nst, t_tup, t_dct, i_nil, ty_int, ty_str, ty_bl, ty_non, ty_tup, ty_lst, ow_im, ow_lst, ow_nst, ow_dct, ow_dnn, iD_int, if_true, if_false, Bool.false_eq_true, reduceIte, decide_true, decide_false, decide_eq_true_eq, Nat.reduceLT, Nat.reduceAdd, Nat.reduceSub, callA, takeA, putA, fzs, fzM, mkL, imsOf, List.zip_cons_cons, List.zip_nil_left, List.zip_nil_right, true_and, and_true, List.filterMap_cons, List.filterMap_nil, stays, itemsM, seqM, unsetAll, parM, reduceCtorEq, ne_app, pop_app, popN_app, g_last, lm_lst, lm_nst, Bool.not_false, Bool.not_true, List.filterMap_cons, isiM, ite_true, ite_false, u_ow, h20]
  have rg := ring_ok
  have r1 : eqv (.tup (ring.spans.map .int)) (.tup [.int 0, .int 0, .int 3]) := by
    have : ring.spans = [0, 0, 3] := by decide +kernel
    rw [this]
    exact eqv_tI (l := [0, 0, 3])
  have r2 : eqv (.int ring.spans.sum) (.int 3) := by
    have : ring.spans.sum = 3 := by decide +kernel
    rw [this]
    exact eqv_i
  have r3 : eqv (.kt (ring.names.map .str)) (.tup [.str "x", .str "ab", .str "abc"]) := eqv_kS (l := ["x", "ab", "abc"])
  split
  · refine ⟨l, a, g, rfl, fun nw l1 a1 okw => ?_⟩
    simp -implicitDefEqProofs only [xss, CP.xs, CP.ev, CP.evs, takeK, evT, evTs, evA, evI, bor, two, evP, setP, fin_some, fin_none, bindO_some, bindO_none, slot0, slot1, set0, set1, List.map_cons, List.map_nil, List.cons_append, List.nil_append, List.getElem?_cons_zero, List.getElem?_cons_succ, Option.bind_some, Option.map_some, Option.getD_some, id, List.length_cons, List.length_nil, List.replicate_succ, List.replicate_zero, bindT, bindTs, tupM, List.length_set, Nat.zero_add, o_mulR, o_mulL, CP.small64, o_mod, o_fdiv, o_pow, o_lenL, o_lenN, o_lenT, o_lenF, o_lenD, o_listL, o_listT, o_listF, o_tupL, o_tupT, o_boolI, Bool.and_true, Bool.true_and, Bool.and_self, Int.reduceNeg, Int.reducePow, Int.reduceLT, Int.reduceLE, Int.reduceAdd, Int.reduceToNat, Int.natAbs_natCast, o_add, o_sub, o_lt, o_le, o_gt, o_ge, o_max, o_min, o_eqI, o_eqS, o_neI, o_neS, o_eqB, o_neB, o_is0, o_isI, o_isS, o_isT, o_isB, o_isn0, o_isnI, o_isnS, o_isnT, o_neg, o_abs, o_intI, o_intB, l_lst, l_nst, l_tup, l_flst, l_dct, t_non, t_bl, t_int, t_lst, t_nst, t_tup, t_dct, i_nil, ty_int, ty_str, ty_bl, ty_non, ty_tup, ty_lst, ow_im, ow_lst, ow_nst, ow_dct, ow_dnn, iD_int, if_true, if_false, Bool.false_eq_true, reduceIte, decide_true, decide_false, decide_eq_true_eq, Nat.reduceLT, Nat.reduceAdd, Nat.reduceSub, callA, takeA, putA, fzs, fzM, mkL, imsOf, List.zip_cons_cons, List.zip_nil_left, List.zip_nil_right, true_and, and_true, List.filterMap_cons, List.filterMap_nil, stays, itemsM, seqM, unsetAll, parM, reduceCtorEq, ne_app, pop_app, popN_app, g_last, lm_lst, lm_nst, Bool.not_false, Bool.not_true, List.filterMap_cons, isiM, ite_true, ite_false, u_ow, h19]
    refine ⟨l1, a1, g, nw, rfl, okw, fun l2 a2 o => ?_⟩
    simp -implicitDefEqProofs only [xss, CP.xs, CP.ev, CP.evs, takeK, evT, evTs, evA, evI, bor, two, evP, setP, fin_some, fin_none, bindO_some, bindO_none, slot0, slot1, set0, set1, List.map_cons, List.map_nil, List.cons_append, List.nil_append, List.getElem?_cons_zero, List.getElem?_cons_succ, Option.bind_some, Option.map_some, Option.getD_some, id, List.length_cons, List.length_nil, List.replicate_succ, List.replicate_zero, bindT, bindTs, tupM, List.length_set, Nat.zero_add, o_mulR, o_mulL, CP.small64, o_mod, o_fdiv, o_pow, o_lenL, o_lenN, o_lenT, o_lenF, o_lenD, o_listL, o_listT, o_listF, o_tupL, o_tupT, o_boolI, Bool.and_true, Bool.true_and, Bool.and_self, Int.reduceNeg, Int.reducePow, Int.reduceLT, Int.reduceLE, Int.reduceAdd, Int.reduceToNat, Int.natAbs_natCast, o_add, o_sub, o_lt, o_le, o_gt, o_ge, o_max, o_min, o_eqI, o_eqS, o_neI, o_neS, o_eqB, o_neB, o_is0, o_isI, o_isS, o_isT, o_isB, o_isn0, o_isnI, o_isnS, o_isnT, o_neg, o_abs, o_intI, o_intB, l_lst, l_nst, l_tup, l_flst, l_dct, t_non, t_bl, t_int, t_lst, t_nst, t_tup, t_dct, i_nil, ty_int, ty_str, ty_bl, ty_non, ty_tup, ty_lst, ow_im, ow_lst, ow_nst, ow_dct, ow_dnn, iD_int, if_true, if_false, Bool.false_eq_true, reduceIte, decide_true, decide_false, decide_eq_true_eq, Nat.reduceLT, Nat.reduceAdd, Nat.reduceSub, callA, takeA, putA, fzs, fzM, mkL, imsOf, List.zip_cons_cons, List.zip_nil_left, List.zip_nil_right, true_and, and_true, List.filterMap_cons, List.filterMap_nil, stays, itemsM, seqM, unsetAll, parM, reduceCtorEq, ne_app, pop_app, popN_app, g_last, lm_lst, lm_nst, Bool.not_false, Bool.not_true, List.filterMap_cons, isiM, ite_true, ite_false, u_ow, h1, h16]
    refine ⟨ring, rfl, rg, fun o => ?_⟩
    simp -implicitDefEqProofs only [xss, CP.xs, CP.ev, CP.evs, takeK, evT, evTs, evA, evI, bor, two, evP, setP, fin_some, fin_none, bindO_some, bindO_none, slot0, slot1, set0, set1, List.map_cons, List.map_nil, List.cons_append, List.nil_append, List.getElem?_cons_zero, List.getElem?_cons_succ, Option.bind_some, Option.map_some, Option.getD_some, id, List.length_cons, List.length_nil, List.replicate_succ, List.replicate_zero, bindT, bindTs, tupM, List.length_set, Nat.zero_add, o_mulR, o_mulL, CP.small64, o_mod, o_fdiv, o_pow, o_lenL, o_lenN, o_lenT, o_lenF, o_lenD, o_listL, o_listT, o_listF, o_tupL, o_tupT, o_boolI, Bool.and_true, Bool.true_and, Bool.and_self, Int.reduceNeg, Int.reducePow, Int.reduceLT, Int.reduceLE, Int.reduceAdd, Int.reduceToNat, Int.natAbs_natCast, o_add, o_sub, o_lt, o_le, o_gt, o_ge, o_max, o_min, o_eqI, o_eqS, o_neI, o_neS, o_eqB, o_neB, o_is0, o_isI, o_isS, o_isT, o_isB, o_isn0, o_isnI, o_isnS, o_isnT, o_neg, o_abs, o_intI, o_intB, l_lst, l_nst, l_tup, l_flst, l_dct, t_non, t_bl, t_int, t_lst, t_nst, t_tup, t_dct, i_nil, ty_int, ty_str, ty_bl, ty_non, ty_tup, ty_lst, ow_im, ow_lst, ow_nst, ow_dct, ow_dnn, iD_int, if_true, if_false, Bool.false_eq_true, reduceIte, decide_true, decide_false, decide_eq_true_eq, Nat.reduceLT, Nat.reduceAdd, Nat.reduceSub, callA, takeA, putA, fzs, fzM, mkL, imsOf, List.zip_cons_cons, List.zip_nil_left, List.zip_nil_right, true_and, and_true, List.filterMap_cons, List.filterMap_nil, stays, itemsM, seqM, unsetAll, parM, reduceCtorEq, ne_app, pop_app, popN_app, g_last, lm_lst, lm_nst, Bool.not_false, Bool.not_true, List.filterMap_cons, isiM, ite_true, ite_false, u_ow, h16]
    refine ⟨_, _, rfl, r1, by decide, fun o1 o2 => ?_⟩
    simp -implicitDefEqProofs only [xss, CP.xs, CP.ev, CP.evs, takeK, evT, evTs, evA, evI, bor, two, evP, setP, fin_some, fin_none, bindO_some, bindO_none, slot0, slot1, set0, set1, List.map_cons, List.map_nil, List.cons_append, List.nil_append, List.getElem?_cons_zero, List.getElem?_cons_succ, Option.bind_some, Option.map_some, Option.getD_some, id, List.length_cons, List.length_nil, List.replicate_succ, List.replicate_zero, bindT, bindTs, tupM, List.length_set, Nat.zero_add, o_mulR, o_mulL, CP.small64, o_mod, o_fdiv, o_pow, o_lenL, o_lenN, o_lenT, o_lenF, o_lenD, o_listL, o_listT, o_listF, o_tupL, o_tupT, o_boolI, Bool.and_true, Bool.true_and, Bool.and_self, Int.reduceNeg, Int.reducePow, Int.reduceLT, Int.reduceLE, Int.reduceAdd, Int.reduceToNat, Int.natAbs_natCast, o_add, o_sub, o_lt, o_le, o_gt, o_ge, o_max, o_min, o_eqI, o_eqS, o_neI, o_neS, o_eqB, o_neB, o_is0, o_isI, o_isS, o_isT, o_isB, o_isn0, o_isnI, o_isnS, o_isnT, o_neg, o_abs, o_intI, o_intB, l_lst, l_nst, l_tup, l_flst, l_dct, t_non, t_bl, t_int, t_lst, t_nst, t_tup, t_dct, i_nil, ty_int, ty_str, ty_bl, ty_non, ty_tup, ty_lst, ow_im, ow_lst, ow_nst, ow_dct, ow_dnn, iD_int, if_true, if_false, Bool.false_eq_true, reduceIte, decide_true, decide_false, decide_eq_true_eq, Nat.reduceLT, Nat.reduceAdd, Nat.reduceSub, callA, takeA, putA, fzs, fzM, mkL, imsOf, List.zip_cons_cons, List.zip_nil_left, List.zip_nil_right, true_and, and_true, List.filterMap_cons, List.filterMap_nil, stays, itemsM, seqM, unsetAll, parM, reduceCtorEq, ne_app, pop_app, popN_app, g_last, lm_lst, lm_nst, Bool.not_false, Bool.not_true, List.filterMap_cons, isiM, ite_true, ite_false, u_ow, h2, h16]
    refine ⟨ring, rfl, rg, fun o => ?_⟩
    simp -implicitDefEqProofs only [xss, CP.xs, CP.ev, CP.evs, takeK, evT, evTs, evA, evI, bor, two, evP, setP, fin_some, fin_none, bindO_some, bindO_none, slot0, slot1, set0, set1, List.map_cons, List.map_nil, List.cons_append, List.nil_append, List.getElem?_cons_zero, List.getElem?_cons_succ, Option.bind_some, Option.map_some, Option.getD_some, id, List.length_cons, List.length_nil, List.replicate_succ, List.replicate_zero, bindT, bindTs, tupM, List.length_set, Nat.zero_add, o_mulR, o_mulL, CP.small64, o_mod, o_fdiv, o_pow, o_lenL, o_lenN, o_lenT, o_lenF, o_lenD, o_listL, o_listT, o_listF, o_tupL, o_tupT, o_boolI, Bool.and_true, Bool.true_and, Bool.and_self, Int.reduceNeg, Int.reducePow, Int.reduceLT, Int.reduceLE, Int.reduceAdd, Int.reduceToNat, Int.natAbs_natCast, o_add, o_sub, o_lt, o_le, o_gt, o_ge, o_max, o_min, o_eqI, o_eqS, o_neI, o_neS, o_eqB, o_neB, o_is0, o_isI, o_isS, o_isT, o_isB, o_isn0, o_isnI, o_isnS, o_isnT, o_neg, o_abs, o_intI, o_intB, l_lst, l_nst, l_tup, l_flst, l_dct, t_non, t_bl, t_int, t_lst, t_nst, t_tup, t_dct, i_nil, ty_int, ty_str, ty_bl, ty_non, ty_tup, ty_lst, ow_im, ow_lst, ow_nst, ow_dct, ow_dnn, iD_int, if_true, if_false, Bool.false_eq_true, reduceIte, decide_true, decide_false, decide_eq_true_eq, Nat.reduceLT, Nat.reduceAdd, Nat.reduceSub, callA, takeA, putA, fzs, fzM, mkL, imsOf, List.zip_cons_cons, List.zip_nil_left, List.zip_nil_right, true_and, and_true, List.filterMap_cons, List.filterMap_nil, stays, itemsM, seqM, unsetAll, parM, reduceCtorEq, ne_app, pop_app, popN_app, g_last, lm_lst, lm_nst, Bool.not_false, Bool.not_true, List.filterMap_cons, isiM, ite_true, ite_false, u_ow, h16]
    refine ⟨_, _, rfl, r2, by decide, fun o1 o2 => ?_⟩
    simp -implicitDefEqProofs only [xss, CP.xs, CP.ev, CP.evs, takeK, evT, evTs, evA, evI, bor, two, evP, setP, fin_some, fin_none, bindO_some, bindO_none, slot0, slot1, set0, set1, List.map_cons, List.map_nil, List.cons_append, List.nil_append, List.getElem?_cons_zero, List.getElem?_cons_succ, Option.bind_some, Option.map_some, Option.getD_some, id, List.length_cons, List.length_nil, List.replicate_succ, List.replicate_zero, bindT, bindTs, tupM, List.length_set, Nat.zero_add, o_mulR, o_mulL, CP.small64, o_mod, o_fdiv, o_pow, o_lenL, o_lenN, o_lenT, o_lenF, o_lenD, o_listL, o_listT, o_listF, o_tupL, o_tupT, o_boolI, Bool.and_true, Bool.true_and, Bool.and_self, Int.reduceNeg, Int.reducePow, Int.reduceLT, Int.reduceLE, Int.reduceAdd, Int.reduceToNat, Int.natAbs_natCast, o_add, o_sub, o_lt, o_le, o_gt, o_ge, o_max, o_min, o_eqI, o_eqS, o_neI, o_neS, o_eqB, o_neB, o_is0, o_isI, o_isS, o_isT, o_isB, o_isn0, o_isnI, o_isnS, o_isnT, o_neg, o_abs, o_intI, o_intB, l_lst, l_nst, l_tup, l_flst, l_dct, t_non, t_bl, t_int, t_lst, t_nst, t_tup, t_dct, i_nil, ty_int, ty_str, ty_bl, ty_non, ty_tup, ty_lst, ow_im, ow_lst, ow_nst, ow_dct, ow_dnn, iD_int, if_true, if_false, Bool.false_eq_true, reduceIte, decide_true, decide_false, decide_eq_true_eq, Nat.reduceLT, Nat.reduceAdd, Nat.reduceSub, callA, takeA, putA, fzs, fzM, mkL, imsOf, List.zip_cons_cons, List.zip_nil_left, List.zip_nil_right, true_and, and_true, List.filterMap_cons, List.filterMap_nil, stays, itemsM, seqM, unsetAll, parM, reduceCtorEq, ne_app, pop_app, popN_app, g_last, lm_lst, lm_nst, Bool.not_false, Bool.not_true, List.filterMap_cons, isiM, ite_true, ite_false, u_ow, h3, h16]
    refine ⟨ring, rfl, rg, fun o => ?_⟩
    simp -implicitDefEqProofs only [xss, CP.xs, CP.ev, CP.evs, takeK, evT, evTs, evA, evI, bor, two, evP, setP, fin_some, fin_none, bindO_some, bindO_none, slot0, slot1, set0, set1, List.map_cons, List.map_nil, List.cons_append, List.nil_append, List.getElem?_cons_zero, List.getElem?_cons_succ, Option.bind_some, Option.map_some, Option.getD_some, id, List.length_cons, List.length_nil, List.replicate_succ, List.replicate_zero, bindT, bindTs, tupM, List.length_set, Nat.zero_add, o_mulR, o_mulL, CP.small64, o_mod, o_fdiv, o_pow, o_lenL, o_lenN, o_lenT, o_lenF, o_lenD, o_listL, o_listT, o_listF, o_tupL, o_tupT, o_boolI, Bool.and_true, Bool.true_and, Bool.and_self, Int.reduceNeg, Int.reducePow, Int.reduceLT, Int.reduceLE, Int.reduceAdd, Int.reduceToNat, Int.natAbs_natCast, o_add, o_sub, o_lt, o_le, o_gt, o_ge, o_max, o_min, o_eqI, o_eqS, o_neI, o_neS, o_eqB, o_neB, o_is0, o_isI, o_isS, o_isT, o_isB, o_isn0, o_isnI, o_isnS, o_isnT, o_neg, o_abs, o_intI, o_intB, l_lst, l_nst, l_tup, l_flst, l_dct, t_non, t_bl, t_int, t_lst, t_nst, t_tup, t_dct, i_nil, ty_int, ty_str, ty_bl, ty_non, ty_tup, ty_lst, ow_im, ow_lst, ow_nst, ow_dct, ow_dnn, iD_int, if_true, if_false, Bool.false_eq_true, reduceIte, decide_true, decide_false, decide_eq_true_eq, Nat.reduceLT, Nat.reduceAdd, Nat.reduceSub, callA, takeA, putA, fzs, fzM, mkL, imsOf, List.zip_cons_cons, List.zip_nil_left, List.zip_nil_right, true_and, and_true, List.filterMap_cons, List.filterMap_nil, stays, itemsM, seqM, unsetAll, parM, reduceCtorEq, ne_app, pop_app, popN_app, g_last, lm_lst, lm_nst, Bool.not_false, Bool.not_true, List.filterMap_cons, isiM, ite_true, ite_false, u_ow, h16]
    refine ⟨_, _, rfl, r3, by decide, fun o1 o2 => ?_⟩
    simp -implicitDefEqProofs only [xss, CP.xs, CP.ev, CP.evs, takeK, evT, evTs, evA, evI, bor, two, evP, setP, fin_some, fin_none, bindO_some, bindO_none, slot0, slot1, set0, set1, List.map_cons, List.map_nil, List.cons_append, List.nil_append, List.getElem?_cons_zero, List.getElem?_cons_succ, Option.bind_some, Option.map_some, Option.getD_some, id, List.length_cons, List.length_nil, List.replicate_succ, List.replicate_zero, bindT, bindTs, tupM, List.length_set, Nat.zero_add, o_mulR, o_mulL, CP.small64, o_mod, o_fdiv, o_pow, o_lenL, o_lenN, o_lenT, o_lenF, o_lenD, o_listL, o_listT, o_listF, o_tupL, o_tupT, o_boolI, Bool.and_true, Bool.true_and, Bool.and_self, Int.reduceNeg, Int.reducePow, Int.reduceLT, Int.reduceLE, Int.reduceAdd, Int.reduceToNat, Int.natAbs_natCast, o_add, o_sub, o_lt, o_le, o_gt, o_ge, o_max, o_min, o_eqI, o_eqS, o_neI, o_neS, o_eqB, o_neB, o_is0, o_isI, o_isS, o_isT, o_isB, o_isn0, o_isnI, o_isnS, o_isnT, o_neg, o_abs, o_intI, o_intB, l_lst, l_nst, l_tup, l_flst, l_dct, t_non, t_bl, t_int, t_lst, t_nst, t_tup, t_dct, i_nil, ty_int, ty_str, ty_bl, ty_non, ty_tup, ty_lst, ow_im, ow_lst, ow_nst, ow_dct, ow_dnn, iD_int, if_true, if_false, Bool.false_eq_true, reduceIte, decide_true, decide_false, decide_eq_true_eq, Nat.reduceLT, Nat.reduceAdd, Nat.reduceSub, callA, takeA, putA, fzs, fzM, mkL, imsOf, List.zip_cons_cons, List.zip_nil_left, List.zip_nil_right, true_and, and_true, List.filterMap_cons, List.filterMap_nil, stays, itemsM, seqM, unsetAll, parM, reduceCtorEq, ne_app, pop_app, popN_app, g_last, lm_lst, lm_nst, Bool.not_false, Bool.not_true, List.filterMap_cons, isiM, ite_true, ite_false, u_ow, h19]
    refine ⟨_, _, g, ring, rfl, rg, fun l2 a2 o => ?_⟩
    simp -implicitDefEqProofs only [xss, CP.xs, CP.ev, CP.evs, takeK, evT, evTs, evA, evI, bor, two, evP, setP, fin_some, fin_none, bindO_some, bindO_none, slot0, slot1, set0, set1, List.map_cons, List.map_nil, List.cons_append, List.nil_append, List.getElem?_cons_zero, List.getElem?_cons_succ, Option.bind_some, Option.map_some, Option.getD_some, id, List.length_cons, List.length_nil, List.replicate_succ, List.replicate_zero, bindT, bindTs, tupM, List.length_set, Nat.zero_add, o_mulR, o_mulL, CP.small64, o_mod, o_fdiv, o_pow, o_lenL, o_lenN, o_lenT, o_lenF, o_lenD, o_listL, o_listT, o_listF, o_tupL, o_tupT, o_boolI, Bool.and_true, Bool.true_and, Bool.and_self, Int.reduceNeg, Int.reducePow, Int.reduceLT, Int.reduceLE, Int.reduceAdd, Int.reduceToNat, Int.natAbs_natCast, o_add, o_sub, o_lt, o_le, o_gt, o_ge, o_max, o_min, o_eqI, o_eqS, o_neI, o_neS, o_eqB, o_neB, o_is0, o_isI, o_isS, o_isT, o_isB, o_isn0, o_isnI, o_isnS, o_isnT, o_neg, o_abs, o_intI, o_intB, l_lst, l_nst, l_tup, l_flst, l_dct, t_non, t_bl, t_int, t_lst, t_nst, t_tup, t_dct, i_nil, ty_int, ty_str, ty_bl, ty_non, ty_tup, ty_lst, ow_im, ow_lst, ow_nst, ow_dct, ow_dnn, iD_int, if_true, if_false, Bool.false_eq_true, reduceIte, decide_true, decide_false, decide_eq_true_eq, Nat.reduceLT, Nat.reduceAdd, Nat.reduceSub, callA, takeA, putA, fzs, fzM, mkL, imsOf, List.zip_cons_cons, List.zip_nil_left, List.zip_nil_right, true_and, and_true, List.filterMap_cons, List.filterMap_nil, stays, itemsM, seqM, unsetAll, parM, reduceCtorEq, ne_app, pop_app, popN_app, g_last, lm_lst, lm_nst, Bool.not_false, Bool.not_true, List.filterMap_cons, isiM, ite_true, ite_false, u_ow]
    exact q
  · simp -implicitDefEqProofs only [xss, CP.xs, CP.ev, CP.evs, takeK, evT, evTs, evA, evI, bor, two, evP, setP, fin_some, fin_none, bindO_some, bindO_none, slot0, slot1, set0, set1, List.map_cons, List.map_nil, List.cons_append, List.nil_append, List.getElem?_cons_zero, List.getElem?_cons_succ, Option.bind_some, Option.map_some, Option.getD_some, id, List.length_cons, List.length_nil, List.replicate_succ, List.replicate_zero, bindT, bindTs, tupM, List.length_set, Nat.zero_add, o_mulR, o_mulL, CP.small64, o_mod, o_fdiv, o_pow, o_lenL, o_lenN, o_lenT, o_lenF, o_lenD, o_listL, o_listT, o_listF, o_tupL, o_tupT, o_boolI, Bool.and_true, Bool.true_and, Bool.and_self, Int.reduceNeg, Int.reducePow, Int.reduceLT, Int.reduceLE, Int.reduceAdd, Int.reduceToNat, Int.natAbs_natCast, o_add, o_sub, o_lt, o_le, o_gt, o_ge, o_max, o_min, o_eqI, o_eqS, o_neI, o_neS, o_eqB, o_neB, o_is0, o_isI, o_isS, o_isT, o_isB, o_isn0, o_isnI, o_isnS, o_isnT, o_neg, o_abs, o_intI, o_intB, l_lst, l_nst, l_tup, l_flst, l_dct, t_non, t_bl, t_int, t_lst, t_nst, t_tup, t_dct, i_nil, ty_int, ty_str, ty_bl, ty_non, ty_tup, ty_lst, ow_im, ow_lst, ow_nst, ow_dct, ow_dnn, iD_int, if_true, if_false, Bool.false_eq_true, reduceIte, decide_true, decide_false, decide_eq_true_eq, Nat.reduceLT, Nat.reduceAdd, Nat.reduceSub, callA, takeA, putA, fzs, fzM, mkL, imsOf, List.zip_cons_cons, List.zip_nil_left, List.zip_nil_right, true_and, and_true, List.filterMap_cons, List.filterMap_nil, stays, itemsM, seqM, unsetAll, parM, reduceCtorEq, ne_app, pop_app, popN_app, g_last, lm_lst, lm_nst, Bool.not_false, Bool.not_true, List.filterMap_cons, isiM, ite_true, ite_false, u_ow, h1, h16]
    refine ⟨ring, rfl, rg, fun o => ?_⟩
    simp -implicitDefEqProofs only [xss, CP.xs, CP.ev, CP.evs, takeK, evT, evTs, evA, evI, bor, two, evP, setP, fin_some, fin_none, bindO_some, bindO_none, slot0, slot1, set0, set1, List.map_cons, List.map_nil, List.cons_append, List.nil_append, List.getElem?_cons_zero, List.getElem?_cons_succ, Option.bind_some, Option.map_some, Option.getD_some, id, List.length_cons, List.length_nil, List.replicate_succ, List.replicate_zero, bindT, bindTs, tupM, List.length_set, Nat.zero_add, o_mulR, o_mulL, CP.small64, o_mod, o_fdiv, o_pow, o_lenL, o_lenN, o_lenT, o_lenF, o_lenD, o_listL, o_listT, o_listF, o_tupL, o_tupT, o_boolI, Bool.and_true, Bool.true_and, Bool.and_self, Int.reduceNeg, Int.reducePow, Int.reduceLT, Int.reduceLE, Int.reduceAdd, Int.reduceToNat, Int.natAbs_natCast, o_add, o_sub, o_lt, o_le, o_gt, o_ge, o_max, o_min, o_eqI, o_eqS, o_neI, o_neS, o_eqB, o_neB, o_is0, o_isI, o_isS, o_isT, o_isB, o_isn0, o_isnI, o_isnS, o_isnT, o_neg, o_abs, o_intI, o_intB, l_lst, l_nst, l_tup, l_flst, l_dct, t_non, t_bl, t_int, t_lst, t_nst, t_tup, t_dct, i_nil, ty_int, ty_str, ty_bl, ty_non, ty_tup, ty_lst, ow_im, ow_lst, ow_nst, ow_dct, ow_dnn, iD_int, if_true, if_false, Bool.false_eq_true, reduceIte, decide_true, decide_false, decide_eq_true_eq, Nat.reduceLT, Nat.reduceAdd, Nat.reduceSub, callA, takeA, putA, fzs, fzM, mkL, imsOf, List.zip_cons_cons, List.zip_nil_left, List.zip_nil_right, true_and, and_true, List.filterMap_cons, List.filterMap_nil, stays, itemsM, seqM, unsetAll, parM, reduceCtorEq, ne_app, pop_app, popN_app, g_last, lm_lst, lm_nst, Bool.not_false, Bool.not_true, List.filterMap_cons, isiM, ite_true, ite_false, u_ow, h16]
    refine ⟨_, _, rfl, r1, by decide, fun o1 o2 => ?_⟩
    simp -implicitDefEqProofs only [xss, CP.xs, CP.ev, CP.evs, takeK, evT, evTs, evA, evI, bor, two, evP, setP, fin_some, fin_none, bindO_some, bindO_none, slot0, slot1, set0, set1, List.map_cons, List.map_nil, List.cons_append, List.nil_append, List.getElem?_cons_zero, List.getElem?_cons_succ, Option.bind_some, Option.map_some, Option.getD_some, id, List.length_cons, List.length_nil, List.replicate_succ, List.replicate_zero, bindT, bindTs, tupM, List.length_set, Nat.zero_add, o_mulR, o_mulL, CP.small64, o_mod, o_fdiv, o_pow, o_lenL, o_lenN, o_lenT, o_lenF, o_lenD, o_listL, o_listT, o_listF, o_tupL, o_tupT, o_boolI, Bool.and_true, Bool.true_and, Bool.and_self, Int.reduceNeg, Int.reducePow, Int.reduceLT, Int.reduceLE, Int.reduceAdd, Int.reduceToNat, Int.natAbs_natCast, o_add, o_sub, o_lt, o_le, o_gt, o_ge, o_max, o_min, o_eqI, o_eqS, o_neI, o_neS, o_eqB, o_neB, o_is0, o_isI, o_isS, o_isT, o_isB, o_isn0, o_isnI, o_isnS, o_isnT, o_neg, o_abs, o_intI, o_intB, l_lst, l_nst, l_tup, l_flst, l_dct, t_non, t_bl, t_int, t_lst, t_nst, t_tup, t_dct, i_nil, ty_int, ty_str, ty_bl, ty_non, ty_tup, ty_lst, ow_im, ow_lst, ow_nst, ow_dct, ow_dnn, iD_int, if_true, if_false, Bool.false_eq_true, reduceIte, decide_true, decide_false, decide_eq_true_eq, Nat.reduceLT, Nat.reduceAdd, Nat.reduceSub, callA, takeA, putA, fzs, fzM, mkL, imsOf, List.zip_cons_cons, List.zip_nil_left, List.zip_nil_right, true_and, and_true, List.filterMap_cons, List.filterMap_nil, stays, itemsM, seqM, unsetAll, parM, reduceCtorEq, ne_app, pop_app, popN_app, g_last, lm_lst, lm_nst, Bool.not_false, Bool.not_true, List.filterMap_cons, isiM, ite_true, ite_false, u_ow, h2, h16]
    refine ⟨ring, rfl, rg, fun o => ?_⟩
    simp -implicitDefEqProofs only [xss, CP.xs, CP.ev, CP.evs, takeK, evT, evTs, evA, evI, bor, two, evP, setP, fin_some, fin_none, bindO_some, bindO_none, slot0, slot1, set0, set1, List.map_cons, List.map_nil, List.cons_append, List.nil_append, List.getElem?_cons_zero, List.getElem?_cons_succ, Option.bind_some, Option.map_some, Option.getD_some, id, List.length_cons, List.length_nil, List.replicate_succ, List.replicate_zero, bindT, bindTs, tupM, List.length_set, Nat.zero_add, o_mulR, o_mulL, CP.small64, o_mod, o_fdiv, o_pow, o_lenL, o_lenN, o_lenT, o_lenF, o_lenD, o_listL, o_listT, o_listF, o_tupL, o_tupT, o_boolI, Bool.and_true, Bool.true_and, Bool.and_self, Int.reduceNeg, Int.reducePow, Int.reduceLT, Int.reduceLE, Int.reduceAdd, Int.reduceToNat, Int.natAbs_natCast, o_add, o_sub, o_lt, o_le, o_gt, o_ge, o_max, o_min, o_eqI, o_eqS, o_neI, o_neS, o_eqB, o_neB, o_is0, o_isI, o_isS, o_isT, o_isB, o_isn0, o_isnI, o_isnS, o_isnT, o_neg, o_abs, o_intI, o_intB, l_lst, l_nst, l_tup, l_flst, l_dct, t_non, t_bl, t_int, t_lst, t_nst, t_tup, t_dct, i_nil, ty_int, ty_str, ty_bl, ty_non, ty_tup, ty_lst, ow_im, ow_lst, ow_nst, ow_dct, ow_dnn, iD_int, if_true, if_false, Bool.false_eq_true, reduceIte, decide_true, decide_false, decide_eq_true_eq, Nat.reduceLT, Nat.reduceAdd, Nat.reduceSub, callA, takeA, putA, fzs, fzM, mkL, imsOf, List.zip_cons_cons, List.zip_nil_left, List.zip_nil_right, true_and, and_true, List.filterMap_cons, List.filterMap_nil, stays, itemsM, seqM, unsetAll, parM, reduceCtorEq, ne_app, pop_app, popN_app, g_last, lm_lst, lm_nst, Bool.not_false, Bool.not_true, List.filterMap_cons, isiM, ite_true, ite_false, u_ow, h16]
    refine ⟨_, _, rfl, r2, by decide, fun o1 o2 => ?_⟩
    simp -implicitDefEqProofs only [xss, CP.xs, CP.ev, CP.evs, takeK, evT, evTs, evA, evI, bor, two, evP, setP, fin_some, fin_none, bindO_some, bindO_none, slot0, slot1, set0, set1, List.map_cons, List.map_nil, List.cons_append, List.nil_append, List.getElem?_cons_zero, List.getElem?_cons_succ, Option.bind_some, Option.map_some, Option.getD_some, id, List.length_cons, List.length_nil, List.replicate_succ, List.replicate_zero, bindT, bindTs, tupM, List.length_set, Nat.zero_add, o_mulR, o_mulL, CP.small64, o_mod, o_fdiv, o_pow, o_lenL, o_lenN, o_lenT, o_lenF, o_lenD, o_listL, o_listT, o_listF, o_tupL, o_tupT, o_boolI, Bool.and_true, Bool.true_and, Bool.and_self, Int.reduceNeg, Int.reducePow, Int.reduceLT, Int.reduceLE, Int.reduceAdd, Int.reduceToNat, Int.natAbs_natCast, o_add, o_sub, o_lt, o_le, o_gt, o_ge, o_max, o_min, o_eqI, o_eqS, o_neI, o_neS, o_eqB, o_neB, o_is0, o_isI, o_isS, o_isT, o_isB, o_isn0, o_isnI, o_isnS, o_isnT, o_neg, o_abs, o_intI, o_intB, l_lst, l_nst, l_tup, l_flst, l_dct, t_non, t_bl, t_int, t_lst, t_nst, t_tup, t_dct, i_nil, ty_int, ty_str, ty_bl, ty_non, ty_tup, ty_lst, ow_im, ow_lst, ow_nst, ow_dct, ow_dnn, iD_int, if_true, if_false, Bool.false_eq_true, reduceIte, decide_true, decide_false, decide_eq_true_eq, Nat.reduceLT, Nat.reduceAdd, Nat.reduceSub, callA, takeA, putA, fzs, fzM, mkL, imsOf, List.zip_cons_cons, List.zip_nil_left, List.zip_nil_right, true_and, and_true, List.filterMap_cons, List.filterMap_nil, stays, itemsM, seqM, unsetAll, parM, reduceCtorEq, ne_app, pop_app, popN_app, g_last, lm_lst, lm_nst, Bool.not_false, Bool.not_true, List.filterMap_cons, isiM, ite_true, ite_false, u_ow, h3, h16]
    refine ⟨ring, rfl, rg, fun o => ?_⟩
    simp -implicitDefEqProofs only [xss, CP.xs, CP.ev, CP.evs, takeK, evT, evTs, evA, evI, bor, two, evP, setP, fin_some, fin_none, bindO_some, bindO_none, slot0, slot1, set0, set1, List.map_cons, List.map_nil, List.cons_append, List.nil_append, List.getElem?_cons_zero, List.getElem?_cons_succ, Option.bind_some, Option.map_some, Option.getD_some, id, List.length_cons, List.length_nil, List.replicate_succ, List.replicate_zero, bindT, bindTs, tupM, List.length_set, Nat.zero_add, o_mulR, o_mulL, CP.small64, o_mod, o_fdiv, o_pow, o_lenL, o_lenN, o_lenT, o_lenF, o_lenD, o_listL, o_listT, o_listF, o_tupL, o_tupT, o_boolI, Bool.and_true, Bool.true_and, Bool.and_self, Int.reduceNeg, Int.reducePow, Int.reduceLT, Int.reduceLE, Int.reduceAdd, Int.reduceToNat, Int.natAbs_natCast, o_add, o_sub, o_lt, o_le, o_gt, o_ge, o_max, o_min, o_eqI, o_eqS, o_neI, o_neS, o_eqB, o_neB, o_is0, o_isI, o_isS, o_isT, o_isB, o_isn0, o_isnI, o_isnS, o_isnT, o_neg, o_abs, o_intI, o_intB, l_lst, l_nst, l_tup, l_flst, l_dct, t_non, t_bl, t_int, t_lst, t_nst, t_tup, t_dct, i_nil, ty_int, ty_str, ty_bl, ty_non, ty_tup, ty_lst, ow_im, ow_lst, ow_nst, ow_dct, ow_dnn, iD_int, if_true, if_false, Bool.false_eq_true, reduceIte, decide_true, decide_false, decide_eq_true_eq, Nat.reduceLT, Nat.reduceAdd, Nat.reduceSub, callA, takeA, putA, fzs, fzM, mkL, imsOf, List.zip_cons_cons, List.zip_nil_left, List.zip_nil_right, true_and, and_true, List.filterMap_cons, List.filterMap_nil, stays, itemsM, seqM, unsetAll, parM, reduceCtorEq, ne_app, pop_app, popN_app, g_last, lm_lst, lm_nst, Bool.not_false, Bool.not_true, List.filterMap_cons, isiM, ite_true, ite_false, u_ow, h16]
    refine ⟨_, _, rfl, r3, by decide, fun o1 o2 => ?_⟩
    simp -implicitDefEqProofs only [xss, CP.xs, CP.ev, CP.evs, takeK, evT, evTs, evA, evI, bor, two, evP, setP, fin_some, fin_none, bindO_some, bindO_none, slot0, slot1, set0, set1, List.map_cons, List.map_nil, List.cons_append, List.nil_append, List.getElem?_cons_zero, List.getElem?_cons_succ, Option.bind_some, Option.map_some, Option.getD_some, id, List.length_cons, List.length_nil, List.replicate_succ, List.replicate_zero, bindT, bindTs, tupM, List.length_set, Nat.zero_add, o_mulR, o_mulL, CP.small64, o_mod, o_fdiv, o_pow, o_lenL, o_lenN, o_lenT, o_lenF, o_lenD, o_listL, o_listT, o_listF, o_tupL, o_tupT, o_boolI, Bool.and_true, Bool.true_and, Bool.and_self, Int.reduceNeg, Int.reducePow, Int.reduceLT, Int.reduceLE, Int.reduceAdd, Int.reduceToNat, Int.natAbs_natCast, o_add, o_sub, o_lt, o_le, o_gt, o_ge, o_max, o_min, o_eqI, o_eqS, o_neI, o_neS, o_eqB, o_neB, o_is0, o_isI, o_isS, o_isT, o_isB, o_isn0, o_isnI, o_isnS, o_isnT, o_neg, o_abs, o_intI, o_intB, l_lst, l_nst, l_tup, l_flst, l_dct, t_non, t_bl, t_int, t_lst, t_nst, t_tup, t_dct, i_nil, ty_int, ty_str, ty_bl, ty_non, ty_tup, ty_lst, ow_im, ow_lst, ow_nst, ow_dct, ow_dnn, iD_int, if_true, if_false, Bool.false_eq_true, reduceIte, decide_true, decide_false, decide_eq_true_eq, Nat.reduceLT, Nat.reduceAdd, Nat.reduceSub, callA, takeA, putA, fzs, fzM, mkL, imsOf, List.zip_cons_cons, List.zip_nil_left, List.zip_nil_right, true_and, and_true, List.filterMap_cons, List.filterMap_nil, stays, itemsM, seqM, unsetAll, parM, reduceCtorEq, ne_app, pop_app, popN_app, g_last, lm_lst, lm_nst, Bool.not_false, Bool.not_true, List.filterMap_cons, isiM, ite_true, ite_false, u_ow, h19]
    refine ⟨_, _, g, ring, rfl, rg, fun l2 a2 o => ?_⟩
    simp -implicitDefEqProofs only [xss, CP.xs, CP.ev, CP.evs, takeK, evT, evTs, evA, evI, bor, two, evP, setP, fin_some, fin_none, bindO_some, bindO_none, slot0, slot1, set0, set1, List.map_cons, List.map_nil, List.cons_append, List.nil_append, List.getElem?_cons_zero, List.getElem?_cons_succ, Option.bind_some, Option.map_some, Option.getD_some, id, List.length_cons, List.length_nil, List.replicate_succ, List.replicate_zero, bindT, bindTs, tupM, List.length_set, Nat.zero_add, o_mulR, o_mulL, CP.small64, o_mod, o_fdiv, o_pow, o_lenL, o_lenN, o_lenT, o_lenF, o_lenD, o_listL, o_listT, o_listF, o_tupL, o_tupT, o_boolI, Bool.and_true, Bool.true_and, Bool.and_self, Int.reduceNeg, Int.reducePow, Int.reduceLT, Int.reduceLE, Int.reduceAdd, Int.reduceToNat, Int.natAbs_natCast, o_add, o_sub, o_lt, o_le, o_gt, o_ge, o_max, o_min, o_eqI, o_eqS, o_neI, o_neS, o_eqB, o_neB, o_is0, o_isI, o_isS, o_isT, o_isB, o_isn0, o_isnI, o_isnS, o_isnT, o_neg, o_abs, o_intI, o_intB, l_lst, l_nst, l_tup, l_flst, l_dct, t_non, t_bl, t_int, t_lst, t_nst, t_tup, t_dct, i_nil, ty_int, ty_str, ty_bl, ty_non, ty_tup, ty_lst, ow_im, ow_lst, ow_nst, ow_dct, ow_dnn, iD_int, if_true, if_false, Bool.false_eq_true, reduceIte, decide_true, decide_false, decide_eq_true_eq, Nat.reduceLT, Nat.reduceAdd, Nat.reduceSub, callA, takeA, putA, fzs, fzM, mkL, imsOf, List.zip_cons_cons, List.zip_nil_left, List.zip_nil_right, true_and, and_true, List.filterMap_cons, List.filterMap_nil, stays, itemsM, seqM, unsetAll, parM, reduceCtorEq, ne_app, pop_app, popN_app, g_last, lm_lst, lm_nst, Bool.not_false, Bool.not_true, List.filterMap_cons, isiM, ite_true, ite_false, u_ow]
    exact q
end K10
namespace K10
open PySem PySem.Spec PyProof.Rows L2 CP
def GG : Nat → CP.Sp := fun i => match i with
  | 0 => cntSp
  | 1 => spansSp
  | 2 => cellsSp
  | 3 => namesSp
  | 4 => nrSp
  | 5 => srSp
  | 6 => snSp
  | 7 => usSp
  | 8 => urnSp
  | 9 => sipSp
  | 10 => nmsSp
  | 11 => gainSp
  | 12 => rngSp
  | 13 => trmSp
  | 14 => netSp
  | 15 => lspSp
  | 16 => sameSp
  | 17 => toldSp
  | 18 => lusSp
  | 19 => askSp
  | 20 => widSp
  | _ => lawSp
section
variable {P : Program} {w : World} {K : PySem.W.Frag} {mg : Str → Option Value} {base : Heap} {cc : Str → Addr} {f : Nat → Addr} {fd : Nat → FuncData}
theorem main (L : Lk K mg cc f fd) : FnOk P w K mg base (L2.CX P w) 8 (f 21) (fd 21) p21 (toSp K cc 1 lawSp) := by
  have c0 : FnOk P w K mg base (L2.CX P w) 1 (f 0) (fd 0) p0 (toSp K cc p0.length cntSp) := ok0 (k := 0) (Γ := GG) L (cnt_ok)
  have c1 : FnOk P w K mg base (L2.CX P w) 2 (f 1) (fd 1) p1 (toSp K cc p1.length spansSp) := ok1 (k := 1) (Γ := GG) L (c0.mono (by decide)) (spans_ok rfl)
  have c2 : FnOk P w K mg base (L2.CX P w) 3 (f 2) (fd 2) p2 (toSp K cc p2.length cellsSp) := ok2 (k := 2) (Γ := GG) L (c1.mono (by decide)) (cells_ok rfl)
  have c3 : FnOk P w K mg base (L2.CX P w) 1 (f 3) (fd 3) p3 (toSp K cc p3.length namesSp) := ok3 (k := 0) (Γ := GG) L (names_ok)
  have c8 : FnOk P w K mg base (L2.CX P w) 1 (f 8) (fd 8) p8 (toSp K cc p8.length urnSp) := ok8 (k := 0) (Γ := GG) L (urn_ok)
  have c9 : FnOk P w K mg base (L2.CX P w) 1 (f 9) (fd 9) p9 (toSp K cc p9.length sipSp) := ok9 (k := 0) (Γ := GG) L (sip_ok)
  have c10 : FnOk P w K mg base (L2.CX P w) 2 (f 10) (fd 10) p10 (toSp K cc p10.length nmsSp) := ok10 (k := 1) (Γ := GG) L (c9.mono (by decide)) (nms_ok rfl)
  have c12 : FnOk P w K mg base (L2.CX P w) 2 (f 12) (fd 12) p12 (toSp K cc p12.length rngSp) := ok12 (k := 1) (Γ := GG) L (c9.mono (by decide)) (rng_ok rfl)
  have c11 : FnOk P w K mg base (L2.CX P w) 2 (f 11) (fd 11) p11 (toSp K cc p11.length gainSp) := ok11 (k := 1) (Γ := GG) L (c9.mono (by decide)) (gain_ok rfl)
  have c13 : FnOk P w K mg base (L2.CX P w) 3 (f 13) (fd 13) p13 (toSp K cc p13.length trmSp) := ok13 (k := 2) (Γ := GG) L (c9.mono (by decide)) (c11.mono (by decide)) (trm_ok rfl rfl)
  have c14 : FnOk P w K mg base (L2.CX P w) 4 (f 14) (fd 14) p14 (toSp K cc p14.length netSp) := ok14 (k := 3) (Γ := GG) L (c10.mono (by decide)) (c12.mono (by decide)) (c13.mono (by decide)) (net_ok rfl rfl rfl)
  have c16 : FnOk P w K mg base (L2.CX P w) 1 (f 16) (fd 16) p16 (toSp K cc p16.length sameSp) := ok16 (k := 0) (Γ := GG) L (same_ok)
  have c15 : FnOk P w K mg base (L2.CX P w) 1 (f 15) (fd 15) p15 (toSp K cc p15.length lspSp) := ok15 (k := 0) (Γ := GG) L (lsp_ok)
  have c6 : FnOk P w K mg base (L2.CX P w) 3 (f 6) (fd 6) p6 (toSp K cc p6.length snSp) := ok6 (k := 2) (Γ := GG) L (by decide) (c3.mono (by decide)) (sn_ok rfl)
  have c4 : FnOk P w K mg base (L2.CX P w) 3 (f 4) (fd 4) p4 (toSp K cc p4.length nrSp) := ok4 (k := 2) (Γ := GG) L (by decide) (nr_ok)
  have c5 : FnOk P w K mg base (L2.CX P w) 4 (f 5) (fd 5) p5 (toSp K cc p5.length srSp) := ok5 (k := 3) (Γ := GG) L (c0.mono (by decide)) (c4.mono (by decide)) (sr_ok rfl rfl)
  have c7 : FnOk P w K mg base (L2.CX P w) 5 (f 7) (fd 7) p7 (toSp K cc p7.length usSp) := ok7 (k := 4) (Γ := GG) L (c5.mono (by decide)) (us_ok rfl)
  have c17 : FnOk P w K mg base (L2.CX P w) 6 (f 17) (fd 17) p17 (toSp K cc p17.length toldSp) := ok17 (k := 5) (Γ := GG) L (c6.mono (by decide)) (c7.mono (by decide)) (told_ok rfl rfl)
  have c18 : FnOk P w K mg base (L2.CX P w) 1 (f 18) (fd 18) p18 (toSp K cc p18.length lusSp) := ok18 (k := 0) (Γ := GG) L (lus_ok)
  have c19 : FnOk P w K mg base (L2.CX P w) 7 (f 19) (fd 19) p19 (toSp K cc p19.length askSp) := ok19 (k := 6) (Γ := GG) L (c1.mono (by decide)) (c2.mono (by decide)) (c3.mono (by decide)) (c9.mono (by decide)) (c15.mono (by decide)) (c16.mono (by decide)) (c17.mono (by decide)) (c18.mono (by decide)) (ask_ok rfl rfl rfl rfl rfl rfl rfl rfl)
  have c20 : FnOk P w K mg base (L2.CX P w) 2 (f 20) (fd 20) p20 (toSp K cc p20.length widSp) := ok20 (k := 1) (Γ := GG) L (c9.mono (by decide)) (wid_ok rfl)
  exact ok21 (k := 7) (Γ := GG) L (c1.mono (by decide)) (c2.mono (by decide)) (c3.mono (by decide)) (c8.mono (by decide)) (c9.mono (by decide)) (c14.mono (by decide)) (c16.mono (by decide)) (c19.mono (by decide)) (c20.mono (by decide)) (law_ok rfl rfl rfl rfl rfl rfl rfl rfl rfl)
theorem law_pure (ns : List Int) (hl : ns.length ≤ 63) : ∀ m, IsScr m ns → lawSp [m] (fun m _ => m = .im (.bl true)) (fun _ _ => False) :=
  fun m h => ⟨m, ns, rfl, h, hl, rfl⟩
end
end K10
/- level 8 -/
namespace K10
open PySem PySem.Spec PyProof.Rows L2 CP
def dd (st : Stmt) (x : Str) : He.DefD := ⟨(x, none), x, x, defArgs st, defBody st, defScope st, [], []⟩
def di (st : Stmt) (x y : Str) : He.DefD := ⟨(x, some "__init__"), "__init__", y, defArgs st, defBody st, defScope st, [], []⟩
def fn : List He.DefD := [dd s0 "signal_count", dd s1 "spans_of", dd s2 "cell_number", dd s3 "signal_names", dd s4 "number_or_raise", dd s5 "signal_or_raise", dd s6 "signal_number", dd s7 "users_of", dd s8 "_law_urn", dd s9 "_law_sip", dd s10 "_law_names", dd s11 "_law_gain", dd s12 "_law_range", dd s13 "_law_terms", dd s14 "_law_net", dd s15 "_law_spans", dd s16 "_law_same", dd s17 "_law_told", dd s18 "_law_users", dd s19 "_law_asked", dd s20 "_law_wide", dd s21 "law", di sI0 "BadStep" "BadStep.__init__"]
def fa : List He.Fa := [.glo "signal_count", .glo "spans_of", .glo "cell_number", .glo "signal_names", .glo "number_or_raise", .glo "signal_or_raise", .glo "signal_number", .glo "users_of", .glo "_law_urn", .glo "_law_sip", .glo "_law_names", .glo "_law_gain", .glo "_law_range", .glo "_law_terms", .glo "_law_net", .glo "_law_spans", .glo "_law_same", .glo "_law_told", .glo "_law_users", .glo "_law_asked", .glo "_law_wide", .glo "law", .free "abs", .free "bool", .free "enumerate", .free "int", .free "isinstance", .free "len", .free "list", .free "max", .free "min", .free "range", .free "sorted", .free "str", .free "sum", .free "tuple", .glo "BadStep", .glo "CallError", .glo "DataError", .glo "EchoError"]
def ck (K : PySem.W.Frag) : Bool := exB K G && (iniB K "BadStep")
abbrev R : PySem.W.OpenRow := PySem.W.OpenLaw.row PySem.Challenge.rw_echoesend_k10_nets_looked_at
abbrev hk : PySem.W.Hook := hookC 4 fa fn ck
def ob (s : PySem.W.SharedT) : He.AlD := obsCG 4 fa fn ck (HandSHeadRun.getT s)
theorem ob_eq (s : PySem.W.SharedT) : ob s = hk.obs s.abs := obsCG_eq (HandSHeadRun.getT_eq s)
def loose : List Str := (PR.main.scope.names.map (·.1)).filter fun x => x != "law" && x != "__name__"
theorem run (w : World) : HandSHeadRun.RunEq R (PySem.W.view R.prog [28]) hk ob 4000 loose w := by
  intro os
  kernel_rfl
def atf : Nat → Str × Option Str := fun j => ([("signal_count", none), ("spans_of", none), ("cell_number", none), ("signal_names", none), ("number_or_raise", none), ("signal_or_raise", none), ("signal_number", none), ("users_of", none), ("_law_urn", none), ("_law_sip", none), ("_law_names", none), ("_law_gain", none), ("_law_range", none), ("_law_terms", none), ("_law_net", none), ("_law_spans", none), ("_law_same", none), ("_law_told", none), ("_law_users", none), ("_law_asked", none), ("_law_wide", none), ("law", none), ("BadStep", some "__init__")] : List (Str × Option Str)).getD j ("", none)
theorem facts {K : PySem.W.Frag} {h : Heap} {mg : Str → Option Value} (X : K.In h) (G0 : h.Ns mainGlobals mg) (c0 : obsC fa fn ck K = He.valD fn) : ∃ fd : Nat → FuncData, Lk K mg (He.ga K) (fun j => He.fAd K (atf j)) fd := by
  have c : He.SaysD fa fn K := saysC c0
  have cq : ck K = true := saysC_ck c0
  unfold ck at cq
  obtain ⟨k0, cq⟩ := He.ba cq
  have k1 := cq
  obtain ⟨fd0, F0⟩ := c.def_ 0 (d := dd s0 "signal_count") rfl
  obtain ⟨fd1, F1⟩ := c.def_ 1 (d := dd s1 "spans_of") rfl
  obtain ⟨fd2, F2⟩ := c.def_ 2 (d := dd s2 "cell_number") rfl
  obtain ⟨fd3, F3⟩ := c.def_ 3 (d := dd s3 "signal_names") rfl
  obtain ⟨fd4, F4⟩ := c.def_ 4 (d := dd s4 "number_or_raise") rfl
  obtain ⟨fd5, F5⟩ := c.def_ 5 (d := dd s5 "signal_or_raise") rfl
  obtain ⟨fd6, F6⟩ := c.def_ 6 (d := dd s6 "signal_number") rfl
  obtain ⟨fd7, F7⟩ := c.def_ 7 (d := dd s7 "users_of") rfl
  obtain ⟨fd8, F8⟩ := c.def_ 8 (d := dd s8 "_law_urn") rfl
  obtain ⟨fd9, F9⟩ := c.def_ 9 (d := dd s9 "_law_sip") rfl
  obtain ⟨fd10, F10⟩ := c.def_ 10 (d := dd s10 "_law_names") rfl
  obtain ⟨fd11, F11⟩ := c.def_ 11 (d := dd s11 "_law_gain") rfl
  obtain ⟨fd12, F12⟩ := c.def_ 12 (d := dd s12 "_law_range") rfl
  obtain ⟨fd13, F13⟩ := c.def_ 13 (d := dd s13 "_law_terms") rfl
  obtain ⟨fd14, F14⟩ := c.def_ 14 (d := dd s14 "_law_net") rfl
  obtain ⟨fd15, F15⟩ := c.def_ 15 (d := dd s15 "_law_spans") rfl
  obtain ⟨fd16, F16⟩ := c.def_ 16 (d := dd s16 "_law_same") rfl
  obtain ⟨fd17, F17⟩ := c.def_ 17 (d := dd s17 "_law_told") rfl
  obtain ⟨fd18, F18⟩ := c.def_ 18 (d := dd s18 "_law_users") rfl
  obtain ⟨fd19, F19⟩ := c.def_ 19 (d := dd s19 "_law_asked") rfl
  obtain ⟨fd20, F20⟩ := c.def_ 20 (d := dd s20 "_law_wide") rfl
  obtain ⟨fd21, F21⟩ := c.def_ 21 (d := dd s21 "law") rfl
  obtain ⟨fd22, F22⟩ := c.def_ 22 (d := di sI0 "BadStep" "BadStep.__init__") rfl
  refine ⟨fun j => [fd0, fd1, fd2, fd3, fd4, fd5, fd6, fd7, fd8, fd9, fd10, fd11, fd12, fd13, fd14, fd15, fd16, fd17, fd18, fd19, fd20, fd21, fd22].getD j fd0, ?_⟩
  exact { F0 := F0, g0 := He.glo_ok X G0 (c.fact 0 (f := .glo "signal_count") rfl), F1 := F1, g1 := He.glo_ok X G0 (c.fact 1 (f := .glo "spans_of") rfl), F2 := F2, g2 := He.glo_ok X G0 (c.fact 2 (f := .glo "cell_number") rfl), F3 := F3, g3 := He.glo_ok X G0 (c.fact 3 (f := .glo "signal_names") rfl), F4 := F4, g4 := He.glo_ok X G0 (c.fact 4 (f := .glo "number_or_raise") rfl), F5 := F5, g5 := He.glo_ok X G0 (c.fact 5 (f := .glo "signal_or_raise") rfl), F6 := F6, g6 := He.glo_ok X G0 (c.fact 6 (f := .glo "signal_number") rfl), F7 := F7, g7 := He.glo_ok X G0 (c.fact 7 (f := .glo "users_of") rfl), F8 := F8, g8 := He.glo_ok X G0 (c.fact 8 (f := .glo "_law_urn") rfl), F9 := F9, g9 := He.glo_ok X G0 (c.fact 9 (f := .glo "_law_sip") rfl), F10 := F10, g10 := He.glo_ok X G0 (c.fact 10 (f := .glo "_law_names") rfl), F11 := F11, g11 := He.glo_ok X G0 (c.fact 11 (f := .glo "_law_gain") rfl), F12 := F12, g12 := He.glo_ok X G0 (c.fact 12 (f := .glo "_law_range") rfl), F13 := F13, g13 := He.glo_ok X G0 (c.fact 13 (f := .glo "_law_terms") rfl), F14 := F14, g14 := He.glo_ok X G0 (c.fact 14 (f := .glo "_law_net") rfl), F15 := F15, g15 := He.glo_ok X G0 (c.fact 15 (f := .glo "_law_spans") rfl), F16 := F16, g16 := He.glo_ok X G0 (c.fact 16 (f := .glo "_law_same") rfl), F17 := F17, g17 := He.glo_ok X G0 (c.fact 17 (f := .glo "_law_told") rfl), F18 := F18, g18 := He.glo_ok X G0 (c.fact 18 (f := .glo "_law_users") rfl), F19 := F19, g19 := He.glo_ok X G0 (c.fact 19 (f := .glo "_law_asked") rfl), F20 := F20, g20 := He.glo_ok X G0 (c.fact 20 (f := .glo "_law_wide") rfl), F21 := F21, g21 := He.glo_ok X G0 (c.fact 21 (f := .glo "law") rfl), m_abs := He.free_ok X G0 (c.fact 22 (f := .free "abs") rfl), m_bool := He.free_ok X G0 (c.fact 23 (f := .free "bool") rfl), m_enumerate := He.free_ok X G0 (c.fact 24 (f := .free "enumerate") rfl), m_int := He.free_ok X G0 (c.fact 25 (f := .free "int") rfl), m_isinstance := He.free_ok X G0 (c.fact 26 (f := .free "isinstance") rfl), m_len := He.free_ok X G0 (c.fact 27 (f := .free "len") rfl), m_list := He.free_ok X G0 (c.fact 28 (f := .free "list") rfl), m_max := He.free_ok X G0 (c.fact 29 (f := .free "max") rfl), m_min := He.free_ok X G0 (c.fact 30 (f := .free "min") rfl), m_range := He.free_ok X G0 (c.fact 31 (f := .free "range") rfl), m_sorted := He.free_ok X G0 (c.fact 32 (f := .free "sorted") rfl), m_str := He.free_ok X G0 (c.fact 33 (f := .free "str") rfl), m_sum := He.free_ok X G0 (c.fact 34 (f := .free "sum") rfl), m_tuple := He.free_ok X G0 (c.fact 35 (f := .free "tuple") rfl), gc_BadStep := He.glo_ok X G0 (c.fact 36 (f := .glo "BadStep") rfl), gc_CallError := He.glo_ok X G0 (c.fact 37 (f := .glo "CallError") rfl), gc_DataError := He.glo_ok X G0 (c.fact 38 (f := .glo "DataError") rfl), gc_EchoError := He.glo_ok X G0 (c.fact 39 (f := .glo "EchoError") rfl), F22 := F22, iC_BadStep := (iniB_ok k1).1, tI_BadStep := (iniB_ok k1).2, ex := exB_ok k0 }
theorem Lk.bA {K : PySem.W.Frag} {mg : Str → Option Value} {cc : Str → Addr} {f : Nat → Addr} {fd : Nat → FuncData} (L : Lk K mg cc f fd) (s : Shared) (us : List Value) (hl : us.length = 1) : BindsTo s (fd 21) ⟨us, []⟩ (p21.zip us) := FunD.bindsA L.F21 (fun _ _ _ _ _ _ us hl => match us, hl with | [_], _ => rfl) s us hl
end K10
open PySem PySem.W PySem.Calls PyProof.Rows
theorem PySem.Challenge.cw_echoesend_k10_nets_looked_at_holds : PySem.Challenge.rw_echoesend_k10_nets_looked_at.Holds := by
  w_on; o_law
  refine HandSHeadRun.head_any (r := OpenLaw.row PySem.Challenge.rw_echoesend_k10_nets_looked_at) (q := view (OpenLaw.row PySem.Challenge.rw_echoesend_k10_nets_looked_at).prog [28]) (H := K10.hk) (ob := K10.ob) (M := 4000) (loose := K10.loose) (d := HandSHeadRun.topDef (OpenLaw.row PySem.Challenge.rw_echoesend_k10_nets_looked_at).prog 28) (kwd := []) K10.ob_eq
    (by kernel_rfl) (fun s => by kernel_rfl) K10.run (by kernel_rfl) (by kernel_rfl) (by kernel_rfl) (by rfl) (by first | assumption | decide +kernel) (by decide +kernel) ⟨rfl, rfl, rfl, rfl, rfl, by decide +kernel⟩ ?hw ?hc
  case hw => w_witness2
  case hc =>
    refine L2.walk_ofE (l := PySem.Challenge.rw_echoesend_k10_nets_looked_at) (n := 63) (k := 8) (x := "script") (CX := L2.CX0) rfl (by decide) (by kernel_rfl) ⟨rfl, by decide, by decide⟩ ?F (fun _ _ _ _ z => z)
    intro w mg fa h Y G hmg0
    obtain ⟨K, KX, c⟩ := Y
    have hmg : mg ("law" : PySem.Str) = some (.ref fa) := by
      have e : (HandSHeadRun.topDef (OpenLaw.row PySem.Challenge.rw_echoesend_k10_nets_looked_at).prog 28).name = ("law" : PySem.Str) := by kernel_rfl
      rw [← e]
      exact hmg0
    obtain ⟨fd, Lk⟩ := K10.facts KX G c
    have e := hmg.symm.trans Lk.g21
    cases e
    exact ⟨K, fd 21, (fun vs H Q _ => CP.toSp K (He.ga K) 1 K10.lawSp vs H Q fun _ _ _ => False), KX, fun s u => K10.Lk.bA Lk s [u] rfl, fun H a ns hl _ hS => CP.law_start (cc := He.ga K) hS (K10.law_pure ns hl), fun base _ _ => CP.toCX0 (K10.main (cc := He.ga K) Lk)⟩
