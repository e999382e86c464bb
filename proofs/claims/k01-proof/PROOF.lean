import PyProof.Rows.All
import Wide.All
import OpenK.AllK
import Wide.FinOn
import HandS.ForMost
import HandS.ForExc
import HandS.TupAny
import HandS.TupMul
import HandS.Flow
import HandS.Text
import HandS.IsInst
import HandS.Zip
import HandS.Walk
import HandS.ExcCtx
import HandS.CallSlots
import HandS.Words
import HandS.More
import HandS.TupLe
import HandS.Star
import PyProof.ReprRoads
import HandS.Style
import HandS.HotCalls
import HandS.ExcIs
import HandS.Ends
import PyProof.ReprLen
import PyProof.FitsInt
import PySem.Challenge.RW_owedforever_k01_words_and_what_they_keep
import PyProof.P3Eq
set_option Elab.async false
set_option linter.all false
set_option maxRecDepth 100000
/-! Sm: a semantic layer of our own over HandS. Values as data (D), the objects that change as a list (MO), what code does as plain Lean functions. -/
namespace Sm
open PySem PySem.Spec L2

/-- data: a value as it is, a tuple, a list that nobody changes any more, an object by its number -/
inductive D where
  | raw (v : V)
  | tup (xs : List D)
  | lst (xs : List D)
  | scr (xs : List D)
  | obj (n : Nat)

/-- what an object holds -/
inductive MO where
  | lst (xs : List D)
  | ins (C : Addr) (fs : List (Str × D))

abbrev MH := List MO
abbrev Fr := List (Option D)

/-- what comes of code: nothing that we know, a value with the objects, an exception by its class's number with its fields -/
inductive R (α : Type) where
  | no
  | ok (a : α) (m : MH)
  | ex (c : Nat) (fs : List (Str × D)) (m : MH)

def R.bnd {α β : Type} (r : R α) (f : α → MH → R β) : R β :=
  match r with
  | .no => .no
  | .ok a m => f a m
  | .ex c fs m => .ex c fs m

/-- the law's own: what is written, the classes of exceptions by number -/
structure Gm where
  K : PySem.W.Frag
  ct : Nat → Addr

/-- where the objects stand; addresses that are held aside -/
structure Wd where
  ι : List Addr
  hid : List Addr

/-- of the written part -/
def KT (K : PySem.W.Frag) (a : Addr) (xs : List V) : Prop :=
  ∃ (o : Obj) (its : Array Value) (n : Nat), K.lookup a = some o ∧ o.cls = .type "tuple" ∧ o.data = .seq its n ∧ its.size ≤ sizeLine ∧ Vals xs its.toList
/-- it stands, and is none of ours -/
def Fz (H : Hp) (w : Wd) (a : Addr) (o : HO) : Prop := H a = some o ∧ a ∉ w.ι ∧ a ∉ w.hid
/-- a list of the written part -/
def KL (K : PySem.W.Frag) (a : Addr) (xs : List V) : Prop :=
  ∃ (o : Obj) (its : Array Value) (n : Nat), K.lookup a = some o ∧ o.cls = .type "list" ∧ o.dict = none ∧ o.data = .seq its n ∧ its.size ≤ sizeLine ∧ Vals xs its.toList
/-- a list that is only read -/
def FzL (K : PySem.W.Frag) (H : Hp) (w : Wd) (a : Addr) (xs : List V) : Prop := (∃ o, Fz H w a (.frz o (.lst xs))) ∨ KL K a xs
def FzT (K : PySem.W.Frag) (H : Hp) (w : Wd) (a : Addr) (xs : List V) : Prop := Fz H w a (.tup xs) ∨ KT K a xs

mutual
inductive RD (K : PySem.W.Frag) (H : Hp) (w : Wd) : V → D → Prop where
  | raw (v : V) : RD K H w v (.raw v)
  | tup {a : Addr} {xs : List V} {ds : List D} : FzT K H w a xs → RDs K H w xs ds → RD K H w (.ref a) (.tup ds)
  | lst {a : Addr} {xs : List V} {ds : List D} : Fz H w a (.lst xs) → RDs K H w xs ds → RD K H w (.ref a) (.lst ds)
  | scr {a : Addr} {xs : List V} {ds : List D} : FzL K H w a xs → RDs K H w xs ds → RD K H w (.ref a) (.scr ds)
  | obj {a : Addr} {n : Nat} : w.ι[n]? = some a → RD K H w (.ref a) (.obj n)
inductive RDs (K : PySem.W.Frag) (H : Hp) (w : Wd) : List V → List D → Prop where
  | nil : RDs K H w [] []
  | cons {v : V} {d : D} {vs : List V} {ds : List D} : RD K H w v d → RDs K H w vs ds → RDs K H w (v :: vs) (d :: ds)
end

/-- fields, in their order -/
def RFs (K : PySem.W.Frag) (H : Hp) (w : Wd) : List (Str × V) → List (Str × D) → Prop :=
  fun fs gs => fs.map (·.1) = gs.map (·.1) ∧ RDs K H w (fs.map (·.2)) (gs.map (·.2))

def RO (K : PySem.W.Frag) (H : Hp) (w : Wd) (a : Addr) : MO → Prop
  | .lst ds => ∃ xs, H a = some (.lst xs) ∧ RDs K H w xs ds
  | .ins C gs => ∃ dx fs, H a = some (.ins C dx fs) ∧ RFs K H w fs gs

structure RH (K : PySem.W.Frag) (H : Hp) (w : Wd) (m : MH) : Prop where
  len : w.ι.length = m.length
  nd : w.ι.Nodup
  dj : ∀ a ∈ w.ι, a ∉ w.hid
  hd : ∀ a ∈ w.hid, H a ≠ none
  ob : ∀ (n : Nat) (a : Addr) (mo : MO), w.ι[n]? = some a → m[n]? = some mo → RO K H w a mo

/-- time goes on: what is none of ours stays -/
structure Ext (w : Wd) (H : Hp) (w' : Wd) (H' : Hp) : Prop where
  hid : w'.hid = w.hid
  new : ∃ t, w'.ι = w.ι ++ t ∧ ∀ a ∈ t, H a = none ∧ a ∉ w.hid
  keep : ∀ a o, H a = some o → a ∉ w.ι → H' a = some o
  live : ∀ a, H a ≠ none → H' a ≠ none

section
variable {K : PySem.W.Frag} {H H' H'' : Hp} {w w' w'' : Wd}
theorem Ext.refl : Ext w H w H := ⟨rfl, ⟨[], by simp⟩, fun _ _ e _ => e, fun _ h => h⟩
theorem Ext.out (e : Ext w H w' H') {a : Addr} {o : HO} (h : H a = some o) (n : a ∉ w.ι) : a ∉ w'.ι := by
  obtain ⟨t, e1, e2⟩ := e.new
  rw [e1]
  intro hm
  rcases List.mem_append.mp hm with hm | hm
  · exact n hm
  · rw [(e2 a hm).1] at h; cases h
theorem Ext.trans (e : Ext w H w' H') (f : Ext w' H' w'' H'') : Ext w H w'' H'' := by
  obtain ⟨t, e1, e2⟩ := e.new
  obtain ⟨u, f1, f2⟩ := f.new
  refine ⟨f.hid.trans e.hid, ⟨t ++ u, by rw [f1, e1, List.append_assoc], fun a ha => ?_⟩, fun a o h n => f.keep a o (e.keep a o h n) (e.out h n), fun a h => f.live a (e.live a h)⟩
  rcases List.mem_append.mp ha with ha | ha
  · exact e2 a ha
  · have z := f2 a ha
    refine ⟨?_, by rw [← e.hid]; exact z.2⟩
    cases q : H a with
    | none => rfl
    | some o => exact absurd z.1 (e.live a (by rw [q]; simp))
theorem Ext.ix (e : Ext w H w' H') {n : Nat} {a : Addr} (h : w.ι[n]? = some a) : w'.ι[n]? = some a := by
  obtain ⟨t, e1, _⟩ := e.new
  rw [e1, List.getElem?_append_left (List.getElem?_eq_some_iff.mp h).1]
  exact h
theorem Fz.mono (e : Ext w H w' H') {a : Addr} {o : HO} (h : Fz H w a o) : Fz H' w' a o := by
  obtain ⟨r, n1, n2⟩ := h
  exact ⟨e.keep a _ r n1, e.out r n1, by rw [e.hid]; exact n2⟩
theorem FzL.mono (e : Ext w H w' H') {a : Addr} {xs : List V} (h : FzL K H w a xs) : FzL K H' w' a xs := h.imp (fun ⟨o, f⟩ => ⟨o, f.mono e⟩) id
theorem FzT.mono (e : Ext w H w' H') {a : Addr} {xs : List V} (h : FzT K H w a xs) : FzT K H' w' a xs := h.imp (·.mono e) id
mutual
theorem RD.mono (e : Ext w H w' H') {v : V} {d : D} (h : RD K H w v d) : RD K H' w' v d := by
  cases h with
  | raw v => exact .raw v
  | tup f r => exact .tup (f.mono e) (RDs.mono e r)
  | lst f r => exact .lst (f.mono e) (RDs.mono e r)
  | scr f r => exact .scr (f.mono e) (RDs.mono e r)
  | obj f => exact .obj (e.ix f)
theorem RDs.mono (e : Ext w H w' H') {vs : List V} {ds : List D} (h : RDs K H w vs ds) : RDs K H' w' vs ds := by
  cases h with
  | nil => exact .nil
  | cons r t => exact .cons (RD.mono e r) (RDs.mono e t)
end
theorem FzL.sq {a : Addr} {xs : List V} (h : FzL K H w a xs) : SqL K H a xs := h.imp (fun ⟨o, f⟩ => .inr ⟨o, f.1⟩) id
theorem FzT.sq {a : Addr} {xs : List V} (h : FzT K H w a xs) : SqT K H a xs := by
  rcases h with h | h
  · exact .inl (.inl h.1)
  · exact .inr h
theorem RDs.length : ∀ {vs : List V} {ds : List D}, RDs K H w vs ds → vs.length = ds.length
  | _, _, .nil => rfl
  | _, _, .cons _ t => by rw [List.length_cons, List.length_cons, RDs.length t]
theorem RDs.get : ∀ {vs : List V} {ds : List D} {i : Nat} {d : D}, RDs K H w vs ds → ds[i]? = some d → ∃ v, vs[i]? = some v ∧ RD K H w v d
  | _, _, _, _, .nil, e => by simp at e
  | _, _, 0, _, .cons r _, e => by simp at e; subst e; exact ⟨_, rfl, r⟩
  | _, _, i + 1, d, .cons _ t, e => by
    obtain ⟨v, h1, h2⟩ := RDs.get (i := i) (d := d) t (by simpa using e)
    exact ⟨v, by simpa using h1, h2⟩
theorem RDs.getV : ∀ {vs : List V} {ds : List D} {i : Nat} {v : V}, RDs K H w vs ds → vs[i]? = some v → ∃ d, ds[i]? = some d ∧ RD K H w v d
  | _, _, _, _, .nil, e => by simp at e
  | _, _, 0, _, .cons r _, e => by simp at e; subst e; exact ⟨_, rfl, r⟩
  | _, _, i + 1, v, .cons _ t, e => by
    obtain ⟨d, h1, h2⟩ := RDs.getV (i := i) (v := v) t (by simpa using e)
    exact ⟨d, by simpa using h1, h2⟩
theorem RDs.append : ∀ {xs ys : List V} {ds es : List D}, RDs K H w xs ds → RDs K H w ys es → RDs K H w (xs ++ ys) (ds ++ es)
  | _, _, _, _, .nil, s => s
  | _, _, _, _, .cons r t, s => .cons r (RDs.append t s)
theorem RDs.set {v : V} {d : D} (r : RD K H w v d) : ∀ {xs : List V} {ds : List D} (i : Nat), RDs K H w xs ds → RDs K H w (xs.set i v) (ds.set i d)
  | _, _, _, .nil => .nil
  | _, _, 0, .cons _ t => .cons r t
  | _, _, i + 1, .cons q t => .cons q (RDs.set r i t)
theorem RDs.take : ∀ {xs : List V} {ds : List D} (n : Nat), RDs K H w xs ds → RDs K H w (xs.take n) (ds.take n)
  | _, _, 0, _ => .nil
  | _, _, _ + 1, .nil => .nil
  | _, _, n + 1, .cons r t => .cons r (RDs.take n t)
theorem RDs.drop : ∀ {xs : List V} {ds : List D} (n : Nat), RDs K H w xs ds → RDs K H w (xs.drop n) (ds.drop n)
  | _, _, 0, r => r
  | _, _, _ + 1, .nil => .nil
  | _, _, n + 1, .cons _ t => RDs.drop n t
theorem RDs.reverse : ∀ {xs : List V} {ds : List D}, RDs K H w xs ds → RDs K H w xs.reverse ds.reverse
  | _, _, .nil => .nil
  | _, _, .cons r t => by rw [List.reverse_cons, List.reverse_cons]; exact (RDs.reverse t).append (.cons r .nil)
end

/-! ### the objects, as the heap goes on -/
section
variable {K : PySem.W.Frag} {H H' : Hp} {w w' : Wd} {m : MH} {a p : Addr} {o : HO} {mo : MO}
theorem RFs.mono (e : Ext w H w' H') {fs : List (Str × V)} {gs : List (Str × D)} (h : RFs K H w fs gs) : RFs K H' w' fs gs := ⟨h.1, h.2.mono e⟩
theorem RO.mono (e : Ext w H w' H') (q : H' a = H a) (h : RO K H w a mo) : RO K H' w' a mo := by
  cases mo with
  | lst ds => obtain ⟨xs, h1, h2⟩ := h; exact ⟨xs, q.trans h1, h2.mono e⟩
  | ins C gs => obtain ⟨dx, fs, h1, h2⟩ := h; exact ⟨dx, fs, q.trans h1, h2.mono e⟩
theorem RH.at (h : RH K H w m) {n : Nat} (e : m[n]? = some mo) : ∃ a, w.ι[n]? = some a ∧ RO K H w a mo := by
  have hn : n < w.ι.length := by rw [h.len]; exact (List.getElem?_eq_some_iff.mp e).1
  exact ⟨w.ι[n], List.getElem?_eq_getElem hn, h.ob n _ mo (List.getElem?_eq_getElem hn) e⟩
theorem RH.live (h : RH K H w m) (ha : a ∈ w.ι) : H a ≠ none := by
  obtain ⟨n, hn, rfl⟩ := List.mem_iff_getElem.mp ha
  have hm : n < m.length := by rw [← h.len]; exact hn
  have q := h.ob n _ _ (List.getElem?_eq_getElem hn) (List.getElem?_eq_getElem hm)
  cases e : m[n] with
  | lst ds => rw [e] at q; obtain ⟨xs, h1, _⟩ := q; rw [h1]; simp
  | ins C gs => rw [e] at q; obtain ⟨dx, fs, h1, _⟩ := q; rw [h1]; simp
theorem RH.nin (h : RH K H w m) (hp : H p = none) : p ∉ w.ι := fun q => h.live q hp
theorem RH.nhid (h : RH K H w m) (hp : H p = none) : p ∉ w.hid := fun q => h.hd p q hp
/-- a new thing that is none of ours -/
theorem RH.ext_new (h : RH K H w m) (hp : H p = none) : Ext w H w (upd H p o) := by
  refine ⟨rfl, ⟨[], by simp⟩, fun b u e n => ?_, fun b e => ?_⟩
  · rw [upd_ne (ne_of_none e hp)]; exact e
  · by_cases q : b = p
    · rw [q, upd_same]; simp
    · rw [upd_ne q]; exact e
theorem RH.new (h : RH K H w m) (hp : H p = none) : RH K (upd H p o) w m := by
  have e : Ext w H w (upd H p o) := h.ext_new hp
  refine ⟨h.len, h.nd, h.dj, fun b hb => e.live b (h.hd b hb), fun n b mo hb hm => (h.ob n b mo hb hm).mono e ?_⟩
  rw [upd_ne]
  intro q
  subst q
  exact h.nin hp (List.mem_of_getElem? hb)
/-- a new object of ours -/
theorem RH.ext_push (h : RH K H w m) (hp : H p = none) : Ext w H ⟨w.ι ++ [p], w.hid⟩ (upd H p o) := by
  refine ⟨rfl, ⟨[p], rfl, fun b hb => ?_⟩, fun b u e n => ?_, fun b e => ?_⟩
  · have : b = p := by simpa using hb
    subst this
    exact ⟨hp, h.nhid hp⟩
  · rw [upd_ne (ne_of_none e hp)]; exact e
  · by_cases q : b = p
    · rw [q, upd_same]; simp
    · rw [upd_ne q]; exact e
theorem RH.push (h : RH K H w m) (hp : H p = none) (ho : RO K (upd H p o) ⟨w.ι ++ [p], w.hid⟩ p mo) : RH K (upd H p o) ⟨w.ι ++ [p], w.hid⟩ (m ++ [mo]) := by
  have e : Ext w H ⟨w.ι ++ [p], w.hid⟩ (upd H p o) := h.ext_push hp
  have hn := h.nin hp
  refine ⟨by simp [h.len], ?_, fun b hb => ?_, fun b hb => e.live b (h.hd b hb), fun n b mo' hb hm => ?_⟩
  · exact List.nodup_append.mpr ⟨h.nd, by simp, fun x hx y hy => by
      have : y = p := by simpa using hy
      subst this
      exact fun z => hn (z ▸ hx)⟩
  · rcases List.mem_append.mp hb with hb | hb
    · exact h.dj b hb
    · have : b = p := by simpa using hb
      subst this
      exact h.nhid hp
  · by_cases hl : n < w.ι.length
    · have hb' : w.ι[n]? = some b := by rw [← hb]; exact (List.getElem?_append_left hl).symm
      have hm' : m[n]? = some mo' := by rw [← hm]; exact (List.getElem?_append_left (by rw [← h.len]; exact hl)).symm
      refine (h.ob n b mo' hb' hm').mono e ?_
      rw [upd_ne]
      intro q
      subst q
      exact hn (List.mem_of_getElem? hb')
    · have hb' := hb
      have hm' := hm
      simp only at hb'
      rw [List.getElem?_append_right (by omega)] at hb'
      rw [List.getElem?_append_right (by rw [← h.len]; omega), ← h.len] at hm'
      have e0 : n - w.ι.length = 0 := by
        have := (List.getElem?_eq_some_iff.mp hb').1
        simp at this
        omega
      rw [e0] at hb' hm'
      simp at hb' hm'
      subst hb' hm'
      exact ho
/-- an object of ours is written -/
theorem RH.ext_write (h : RH K H w m) (hp : p ∈ w.ι) : Ext w H w (upd H p o) := by
  refine ⟨rfl, ⟨[], by simp⟩, fun b u e n => ?_, fun b e => ?_⟩
  · rw [upd_ne (fun (q : b = p) => n (by rw [q]; exact hp))]; exact e
  · by_cases q : b = p
    · rw [q, upd_same]; simp
    · rw [upd_ne q]; exact e
theorem RH.write (h : RH K H w m) {n : Nat} (hp : w.ι[n]? = some p) (ho : RO K (upd H p o) w p mo) : RH K (upd H p o) w (m.set n mo) := by
  have e : Ext w H w (upd H p o) := h.ext_write (List.mem_of_getElem? hp)
  refine ⟨by simp [h.len], h.nd, h.dj, fun b hb => e.live b (h.hd b hb), fun k b mo' hb hm => ?_⟩
  by_cases q : n = k
  · subst q
    rw [hp] at hb
    cases hb
    have hl : n < m.length := by rw [← h.len]; exact (List.getElem?_eq_some_iff.mp hp).1
    rw [List.getElem?_set_self hl] at hm
    cases hm
    exact ho
  · rw [List.getElem?_set_ne q] at hm
    refine (h.ob k b mo' hb hm).mono e ?_
    rw [upd_ne]
    intro z
    subst z
    obtain ⟨h1, e1⟩ := List.getElem?_eq_some_iff.mp hp
    obtain ⟨h2, e2⟩ := List.getElem?_eq_some_iff.mp hb
    exact q ((List.getElem_inj h.nd).mp (e1.trans e2.symm))
end

/-! ### readings by plain functions -/
/-- the frame's slots -/
def RF (K : PySem.W.Frag) (H : Hp) (w : Wd) (σ : St) (δ : Fr) : Prop := σ.length = δ.length ∧ ∀ (i : Nat) (d : D), δ[i]? = some (some d) → ∃ v, σ[i]? = some (some v) ∧ RD K H w v d

/-- the exception's dict: none where it has no fields -/
def DxOk (K : PySem.W.Frag) (H : Hp) (w : Wd) (dx : Option Addr) (fs : List (Str × D)) : Prop :=
  (fs = [] ∧ dx = none) ∨ (fs ≠ [] ∧ ∃ x gs, dx = some x ∧ H x = some (.xd gs) ∧ x ∉ w.ι ∧ x ∉ w.hid ∧ RFs K H w gs fs)
section
variable (Γ : Gm) (W : WX)
/-- what is wanted of an exception at the slots σ -/
def KnX (σ : St) (w : Wd) (H : Hp) (c : Nat) (fs : List (Str × D)) (m : MH) : Prop :=
  ∀ dx H' w', Ext w H w' H' → RH Γ.K H' w' m → DxOk Γ.K H' w' dx fs → W (.ref (Γ.ct c)) dx σ H'
/-- what is wanted of an outcome; W: what is wanted of an exception -/
def Kn (σ : St) (w : Wd) (H : Hp) (r : R D) (Q : VK) : Prop :=
  match r with
  | .no => False
  | .ok d m => ∀ v H' w', Ext w H w' H' → RH Γ.K H' w' m → RD Γ.K H' w' v d → Q v H'
  | .ex c fs m => KnX Γ W σ w H c fs m
def tOf (F : Fr → MH → R D) : TE := fun σ H Q => ∃ w m δ, RH Γ.K H w m ∧ RF Γ.K H w σ δ ∧ Kn Γ W σ w H (F δ m) Q
/-- a test -/
def KnT (σ : St) (w : Wd) (H : Hp) (r : R Bool) (Q : Bool → Hp → Prop) : Prop :=
  match r with
  | .no => False
  | .ok b m => ∀ H' w', Ext w H w' H' → RH Γ.K H' w' m → Q b H'
  | .ex c fs m => KnX Γ W σ w H c fs m
def tOfT (F : Fr → MH → R Bool) : TT := fun σ H Q => ∃ w m δ, RH Γ.K H w m ∧ RF Γ.K H w σ δ ∧ KnT Γ W σ w H (F δ m) Q
/-- arguments -/
def KnA (σ : St) (w : Wd) (H : Hp) (r : R (List D)) (Q : List V → Hp → Prop) : Prop :=
  match r with
  | .no => False
  | .ok ds m => ∀ vs H' w', Ext w H w' H' → RH Γ.K H' w' m → RDs Γ.K H' w' vs ds → Q vs H'
  | .ex c fs m => KnX Γ W σ w H c fs m
def tOfA (F : Fr → MH → R (List D)) : TA := fun σ H Q => ∃ w m δ, RH Γ.K H w m ∧ RF Γ.K H w σ δ ∧ KnA Γ W σ w H (F δ m) Q
end

/-- how a statement ends -/
inductive Fl where
  | nx (δ : Fr)
  | rt (d : D)
  | bk (δ : Fr)
  | ct (δ : Fr)
section
variable (Γ : Gm) (W : WX)
def KnS (n : Nat) (w : Wd) (H : Hp) (r : R Fl) (E : Ends) : Prop :=
  match r with
  | .no => False
  | .ok (.nx δ) m => ∀ σ H' w', Ext w H w' H' → RH Γ.K H' w' m → RF Γ.K H' w' σ δ → σ.length = n → E.nx σ H'
  | .ok (.bk δ) m => ∀ σ H' w', Ext w H w' H' → RH Γ.K H' w' m → RF Γ.K H' w' σ δ → σ.length = n → E.bk σ H'
  | .ok (.ct δ) m => ∀ σ H' w', Ext w H w' H' → RH Γ.K H' w' m → RF Γ.K H' w' σ δ → σ.length = n → E.ct σ H'
  | .ok (.rt d) m => ∀ v H' w', Ext w H w' H' → RH Γ.K H' w' m → RD Γ.K H' w' v d → E.rt v H'
  | .ex c fs m => ∀ σ, σ.length = n → KnX Γ W σ w H c fs m
def tOfS (F : Fr → MH → R Fl) : TS := fun E σ H => ∃ w m δ, RH Γ.K H w m ∧ RF Γ.K H w σ δ ∧ KnS Γ W σ.length w H (F δ m) E
end

/-! ### going on -/
section
variable {Γ : Gm} {W : WX} {σ : St} {H H1 : Hp} {w w1 : Wd}
theorem RF.mono {δ : Fr} (e : Ext w H w1 H1) (r : RF Γ.K H w σ δ) : RF Γ.K H1 w1 σ δ :=
  ⟨r.1, fun i d h => let ⟨v, h1, h2⟩ := r.2 i d h; ⟨v, h1, h2.mono e⟩⟩
theorem KnX.later {c : Nat} {fs : List (Str × D)} {m : MH} (e : Ext w H w1 H1) (k : KnX Γ W σ w H c fs m) : KnX Γ W σ w1 H1 c fs m := fun dx H' w' e' rh hx => k dx H' w' (e.trans e') rh hx
theorem Kn.later {r : R D} {Q : VK} (e : Ext w H w1 H1) (k : Kn Γ W σ w H r Q) : Kn Γ W σ w1 H1 r Q := by
  cases r with
  | no => exact k
  | ok d m => exact fun v H' w' e' rh rd => k v H' w' (e.trans e') rh rd
  | ex c fs m => exact KnX.later e k
theorem KnT.later {r : R Bool} {Q : Bool → Hp → Prop} (e : Ext w H w1 H1) (k : KnT Γ W σ w H r Q) : KnT Γ W σ w1 H1 r Q := by
  cases r with
  | no => exact k
  | ok d m => exact fun H' w' e' rh => k H' w' (e.trans e') rh
  | ex c fs m => exact KnX.later e k
theorem KnA.later {r : R (List D)} {Q : List V → Hp → Prop} (e : Ext w H w1 H1) (k : KnA Γ W σ w H r Q) : KnA Γ W σ w1 H1 r Q := by
  cases r with
  | no => exact k
  | ok d m => exact fun v H' w' e' rh rd => k v H' w' (e.trans e') rh rd
  | ex c fs m => exact KnX.later e k
theorem KnS.later {n : Nat} {r : R Fl} {E : Ends} (e : Ext w H w1 H1) (k : KnS Γ W n w H r E) : KnS Γ W n w1 H1 r E := by
  cases r with
  | no => exact k
  | ok f m =>
    cases f with
    | nx δ => exact fun v H' w' e' rh rd hl => k v H' w' (e.trans e') rh rd hl
    | bk δ => exact fun v H' w' e' rh rd hl => k v H' w' (e.trans e') rh rd hl
    | ct δ => exact fun v H' w' e' rh rd hl => k v H' w' (e.trans e') rh rd hl
    | rt d => exact fun v H' w' e' rh rd => k v H' w' (e.trans e') rh rd
  | ex c fs m => exact fun σ hl => KnX.later e (k σ hl)

/-- the state that a continuation stands in: a value has come -/
structure Cm (Γ : Gm) (H : Hp) (w : Wd) (σ : St) (δ : Fr) (m : MH) : Prop where
  h : RH Γ.K H w m
  f : RF Γ.K H w σ δ

/-- first an expression, then what its value does -/
theorem tOf_then {F : Fr → MH → R D} {α : Type} {P : Wd → Hp → R α → Prop} {G : D → MH → R α} {δ : Fr} {m : MH} {Q : VK}
    (hno : ∀ w H, ¬ P w H .no) (hex : ∀ w H c fs m, P w H (.ex c fs m) → KnX Γ W σ w H c fs m) (hl : ∀ w H w1 H1 r, Ext w H w1 H1 → P w H r → P w1 H1 r)
    (c : Cm Γ H w σ δ m) (k : P w H ((F δ m).bnd G)) (q : ∀ v d m1 H1 w1, Ext w H w1 H1 → Cm Γ H1 w1 σ δ m1 → RD Γ.K H1 w1 v d → P w1 H1 (G d m1) → Q v H1) : tOf Γ W F σ H Q := by
  refine ⟨w, m, δ, c.h, c.f, ?_⟩
  cases e : F δ m with
  | no => rw [e] at k; exact (hno _ _ k).elim
  | ok d m1 =>
    rw [e] at k
    exact fun v H' w' ex rh rd => q v d m1 H' w' ex ⟨rh, c.f.mono ex⟩ rd (hl _ _ _ _ _ ex k)
  | ex c' fs m1 => rw [e] at k; exact hex _ _ _ _ _ k
theorem tOfT_then {F : Fr → MH → R Bool} {α : Type} {P : Wd → Hp → R α → Prop} {G : Bool → MH → R α} {δ : Fr} {m : MH} {Q : Bool → Hp → Prop}
    (hno : ∀ w H, ¬ P w H .no) (hex : ∀ w H c fs m, P w H (.ex c fs m) → KnX Γ W σ w H c fs m) (hl : ∀ w H w1 H1 r, Ext w H w1 H1 → P w H r → P w1 H1 r)
    (c : Cm Γ H w σ δ m) (k : P w H ((F δ m).bnd G)) (q : ∀ b m1 H1 w1, Ext w H w1 H1 → Cm Γ H1 w1 σ δ m1 → P w1 H1 (G b m1) → Q b H1) : tOfT Γ W F σ H Q := by
  refine ⟨w, m, δ, c.h, c.f, ?_⟩
  cases e : F δ m with
  | no => rw [e] at k; exact (hno _ _ k).elim
  | ok d m1 =>
    rw [e] at k
    exact fun H' w' ex rh => q d m1 H' w' ex ⟨rh, c.f.mono ex⟩ (hl _ _ _ _ _ ex k)
  | ex c' fs m1 => rw [e] at k; exact hex _ _ _ _ _ k
theorem tOfA_then {F : Fr → MH → R (List D)} {α : Type} {P : Wd → Hp → R α → Prop} {G : List D → MH → R α} {δ : Fr} {m : MH} {Q : List V → Hp → Prop}
    (hno : ∀ w H, ¬ P w H .no) (hex : ∀ w H c fs m, P w H (.ex c fs m) → KnX Γ W σ w H c fs m) (hl : ∀ w H w1 H1 r, Ext w H w1 H1 → P w H r → P w1 H1 r)
    (c : Cm Γ H w σ δ m) (k : P w H ((F δ m).bnd G)) (q : ∀ vs ds m1 H1 w1, Ext w H w1 H1 → Cm Γ H1 w1 σ δ m1 → RDs Γ.K H1 w1 vs ds → P w1 H1 (G ds m1) → Q vs H1) : tOfA Γ W F σ H Q := by
  refine ⟨w, m, δ, c.h, c.f, ?_⟩
  cases e : F δ m with
  | no => rw [e] at k; exact (hno _ _ k).elim
  | ok d m1 =>
    rw [e] at k
    exact fun v H' w' ex rh rd => q v d m1 H' w' ex ⟨rh, c.f.mono ex⟩ rd (hl _ _ _ _ _ ex k)
  | ex c' fs m1 => rw [e] at k; exact hex _ _ _ _ _ k
/-- the four kinds of ends as such P -/
structure Go (Γ : Gm) (W : WX) (σ : St) {α : Type} (P : Wd → Hp → R α → Prop) : Prop where
  no : ∀ w H, ¬ P w H .no
  ex : ∀ w H c fs m, P w H (.ex c fs m) → KnX Γ W σ w H c fs m
  later : ∀ w H w1 H1 r, Ext w H w1 H1 → P w H r → P w1 H1 r
theorem go_e {Q : VK} : Go Γ W σ (fun w H r => Kn Γ W σ w H r Q) := ⟨fun _ _ h => h, fun _ _ _ _ _ h => h, fun _ _ _ _ _ e h => h.later e⟩
theorem go_t {Q : Bool → Hp → Prop} : Go Γ W σ (fun w H r => KnT Γ W σ w H r Q) := ⟨fun _ _ h => h, fun _ _ _ _ _ h => h, fun _ _ _ _ _ e h => h.later e⟩
theorem go_a {Q : List V → Hp → Prop} : Go Γ W σ (fun w H r => KnA Γ W σ w H r Q) := ⟨fun _ _ h => h, fun _ _ _ _ _ h => h, fun _ _ _ _ _ e h => h.later e⟩
theorem go_s {E : Ends} : Go Γ W σ (fun w H r => KnS Γ W σ.length w H r E) := ⟨fun _ _ h => h, fun _ _ _ _ _ h => h σ rfl, fun _ _ _ _ _ e h => h.later e⟩
/-- .. in use -/
theorem e_then {F : Fr → MH → R D} {α : Type} {P : Wd → Hp → R α → Prop} {G : D → MH → R α} {δ : Fr} {m : MH} {Q : VK} (g : Go Γ W σ P)
    (c : Cm Γ H w σ δ m) (k : P w H ((F δ m).bnd G)) (q : ∀ v d m1 H1 w1, Ext w H w1 H1 → Cm Γ H1 w1 σ δ m1 → RD Γ.K H1 w1 v d → P w1 H1 (G d m1) → Q v H1) : tOf Γ W F σ H Q := tOf_then g.no g.ex g.later c k q
theorem t_then {F : Fr → MH → R Bool} {α : Type} {P : Wd → Hp → R α → Prop} {G : Bool → MH → R α} {δ : Fr} {m : MH} {Q : Bool → Hp → Prop} (g : Go Γ W σ P)
    (c : Cm Γ H w σ δ m) (k : P w H ((F δ m).bnd G)) (q : ∀ b m1 H1 w1, Ext w H w1 H1 → Cm Γ H1 w1 σ δ m1 → P w1 H1 (G b m1) → Q b H1) : tOfT Γ W F σ H Q := tOfT_then g.no g.ex g.later c k q
theorem a_then {F : Fr → MH → R (List D)} {α : Type} {P : Wd → Hp → R α → Prop} {G : List D → MH → R α} {δ : Fr} {m : MH} {Q : List V → Hp → Prop} (g : Go Γ W σ P)
    (c : Cm Γ H w σ δ m) (k : P w H ((F δ m).bnd G)) (q : ∀ vs ds m1 H1 w1, Ext w H w1 H1 → Cm Γ H1 w1 σ δ m1 → RDs Γ.K H1 w1 vs ds → P w1 H1 (G ds m1) → Q vs H1) : tOfA Γ W F σ H Q := tOfA_then g.no g.ex g.later c k q

end
section
variable {X : Cx} {Γ : Gm} {W : WX}
theorem pe_imp {e : Expr} {t u : TE} (h : PE X e t) (i : ∀ σ H Q, u σ H Q → t σ H Q) : PE X e u := ⟨fun pins s σ H Q I q => h.run pins s σ H Q I (i _ _ _ q)⟩
theorem pt_imp {e : Expr} {t u : TT} (h : PT X e t) (i : ∀ σ H Q, u σ H Q → t σ H Q) : PT X e u := ⟨fun pins s σ H Q I q => h.run pins s σ H Q I (i _ _ _ q)⟩
theorem pa_imp {e : List Expr} {t u : TA} (h : PA X e t) (i : ∀ σ H Q, u σ H Q → t σ H Q) : PA X e u := ⟨fun pos pins s σ H Q I q => h.run pos pins s σ H Q I (i _ _ _ q)⟩
theorem ps_imp {e : Stmt} {t u : TS} (h : PS X e t) (i : ∀ D σ H, u D σ H → t D σ H) : PS X e u := ⟨fun pins s σ H D I q => h.run pins s σ H D I (i _ _ _ q)⟩
theorem pss_imp {e : List Stmt} {t u : TS} (h : PSs X e t) (i : ∀ D σ H, u D σ H → t D σ H) : PSs X e u := ⟨fun pins s σ H D I q => h.run pins s σ H D I (i _ _ _ q)⟩
/-- the judgements of this layer -/
abbrev SE (X : Cx) (ct : Nat → Addr) (W : WX) (e : Expr) (F : Fr → MH → R D) : Prop := PE X e (tOf ⟨X.K, ct⟩ W F)
abbrev ST (X : Cx) (ct : Nat → Addr) (W : WX) (e : Expr) (F : Fr → MH → R Bool) : Prop := PT X e (tOfT ⟨X.K, ct⟩ W F)
abbrev SA (X : Cx) (ct : Nat → Addr) (W : WX) (e : List Expr) (F : Fr → MH → R (List D)) : Prop := PA X e (tOfA ⟨X.K, ct⟩ W F)
abbrev SS (X : Cx) (ct : Nat → Addr) (W : WX) (e : Stmt) (F : Fr → MH → R Fl) : Prop := PS X e (tOfS ⟨X.K, ct⟩ W F)
abbrev SSs (X : Cx) (ct : Nat → Addr) (W : WX) (e : List Stmt) (F : Fr → MH → R Fl) : Prop := PSs X e (tOfS ⟨X.K, ct⟩ W F)
end
end Sm

set_option Elab.async false
set_option linter.all false
set_option maxRecDepth 100000
/-! Sm, expressions. -/
namespace Sm
open PySem PySem.Spec L2

/-! ### what is new -/
section
variable {Γ : Gm} {W : WX} {σ : St} {H : Hp} {w : Wd} {m : MH} {Q : VK}
theorem Kn.here {d : D} {v : V} (k : Kn Γ W σ w H (.ok d m) Q) (h : RH Γ.K H w m) (r : RD Γ.K H w v d) : Q v H := k v H w Ext.refl h r
theorem Kn.newTup {xs : List V} {ds : List D} (k : Kn Γ W σ w H (.ok (.tup ds) m) Q) (h : RH Γ.K H w m) (r : RDs Γ.K H w xs ds) (p : Addr) (hp : H p = none) : Q (.ref p) (upd H p (.tup xs)) :=
  k _ _ w (h.ext_new hp) (h.new hp) (.tup (.inl ⟨upd_same, h.nin hp, h.nhid hp⟩) (r.mono (h.ext_new hp)))
theorem Kn.newLst {xs : List V} {ds : List D} (k : Kn Γ W σ w H (.ok (.lst ds) m) Q) (h : RH Γ.K H w m) (r : RDs Γ.K H w xs ds) (p : Addr) (hp : H p = none) : Q (.ref p) (upd H p (.lst xs)) :=
  k _ _ w (h.ext_new hp) (h.new hp) (.lst ⟨upd_same, h.nin hp, h.nhid hp⟩ (r.mono (h.ext_new hp)))
theorem Kn.newObj {xs : List V} {ds : List D} (k : Kn Γ W σ w H (.ok (.obj m.length) (m ++ [.lst ds])) Q) (h : RH Γ.K H w m) (r : RDs Γ.K H w xs ds) (p : Addr) (hp : H p = none) : Q (.ref p) (upd H p (.lst xs)) :=
  k _ _ ⟨w.ι ++ [p], w.hid⟩ (h.ext_push hp) (h.push hp ⟨xs, upd_same, r.mono (h.ext_push hp)⟩) (.obj (by simp [← h.len]))
end

/-! ### combinators -/
def eVar (i : Nat) : Fr → MH → R D := fun δ m => match δ[i]? with
  | some (some d) => .ok d m
  | _ => .no
def eC (d : D) : Fr → MH → R D := fun _ m => .ok d m
def e2 (g : D → D → MH → R D) (A B : Fr → MH → R D) : Fr → MH → R D := fun δ m => (A δ m).bnd fun d m1 => (B δ m1).bnd fun e m2 => g d e m2
def e1 (g : D → MH → R D) (A : Fr → MH → R D) : Fr → MH → R D := fun δ m => (A δ m).bnd g
def aNil : Fr → MH → R (List D) := fun _ m => .ok [] m
def aCons (A : Fr → MH → R D) (B : Fr → MH → R (List D)) : Fr → MH → R (List D) := fun δ m => (A δ m).bnd fun d m1 => (B δ m1).bnd fun ds m2 => .ok (d :: ds) m2
def eA (g : List D → MH → R D) (A : Fr → MH → R (List D)) : Fr → MH → R D := fun δ m => (A δ m).bnd g
def toB : D → MH → R Bool
  | .raw (.bl b), m => .ok b m
  | _, _ => .no
/-- truth -/
def tru (m : MH) : D → Option Bool
  | .raw .non => some false
  | .raw (.bl b) => some b
  | .raw (.int i) => some (i != 0)
  | .raw (.str y) => if y.length ≤ sizeLine then some ((y.length : Int) != 0) else none
  | .tup ds => some !ds.isEmpty
  | .lst ds => some !ds.isEmpty
  | .scr ds => some !ds.isEmpty
  | .obj n => match m[n]? with
    | some (.lst ds) => some !ds.isEmpty
    | _ => none
  | _ => none
def toT (d : D) (m : MH) : R Bool := match tru m d with
  | some b => .ok b m
  | none => .no
/-- tests -/
def bVal (A : Fr → MH → R D) : Fr → MH → R Bool := fun δ m => (A δ m).bnd toB
def bTru (A : Fr → MH → R D) : Fr → MH → R Bool := fun δ m => (A δ m).bnd toT
def bNot (A : Fr → MH → R Bool) : Fr → MH → R Bool := fun δ m => (A δ m).bnd fun b m1 => .ok (!b) m1
def bAnd (A B : Fr → MH → R Bool) : Fr → MH → R Bool := fun δ m => (A δ m).bnd fun b m1 => if b = true then B δ m1 else .ok false m1
def bOr (A B : Fr → MH → R Bool) : Fr → MH → R Bool := fun δ m => (A δ m).bnd fun b m1 => if b = true then .ok true m1 else B δ m1
/-- values -/
def eIf (T : Fr → MH → R Bool) (A B : Fr → MH → R D) : Fr → MH → R D := fun δ m => (T δ m).bnd fun b m1 => if b = true then A δ m1 else B δ m1
def eAnd (A B : Fr → MH → R D) : Fr → MH → R D := fun δ m => (A δ m).bnd fun d m1 => (toT d m1).bnd fun b m2 => if b = true then B δ m2 else .ok d m2
def eOr (A B : Fr → MH → R D) : Fr → MH → R D := fun δ m => (A δ m).bnd fun d m1 => (toT d m1).bnd fun b m2 => if b = true then .ok d m2 else B δ m2
def eNot (A : Fr → MH → R D) : Fr → MH → R D := fun δ m => (A δ m).bnd fun d m1 => (toT d m1).bnd fun b m2 => .ok (.raw (.bl (!b))) m2

section
variable {X : Cx} {Γ : Gm} {ct : Nat → Addr} {W : WX}
theorem bnd_bnd {α β γ : Type} (r : R α) (f : α → MH → R β) (g : β → MH → R γ) : (r.bnd f).bnd g = r.bnd fun a m => (f a m).bnd g := by cases r <;> rfl

theorem se_var (i : Nat) {x : Str} {pos : Pos} (hN : X.N[i]? = some x := by rfl) (hv : Vis X.env.scope x := by first | exact Or.inl rfl | exact Or.inr (Or.inl rfl) | exact Or.inr (Or.inr rfl)) (hd : (x == ("__debug__" : Str)) = false := by decide)
    (hcd : (x == ("__classdict__" : Str)) = false := by decide) : SE X ct W (.Name x pos) (eVar i) := by
  refine pe_imp (pe_var (i := i) hN hv hd hcd) ?_
  rintro σ H Q ⟨w, m, δ, h, f, k⟩
  unfold eVar at k
  cases e : δ[i]? with
  | none => rw [e] at k; exact k.elim
  | some o =>
    cases o with
    | none => rw [e] at k; exact k.elim
    | some d =>
      rw [e] at k
      obtain ⟨v, h1, h2⟩ := f.2 i d e
      exact ⟨v, h1, k.here h h2⟩
/-- what is the same at every heap -/
theorem se_const {e : Expr} {v : V} {d : D} (h : PE X e (tC v)) (r : ∀ H w, RD X.K H w v d) : SE X ct W e (eC d) := by
  refine pe_imp h ?_
  rintro σ H Q ⟨w, m, δ, h, f, k⟩
  exact Kn.here k h (r H w)
theorem se_int {i : Int} {j pos} : SE X ct W (.Constant (.int i) j pos) (eC (.raw (.int i))) := se_const pe_int fun _ _ => .raw _
theorem se_bl {b : Bool} {j pos} : SE X ct W (.Constant (.bool b) j pos) (eC (.raw (.bl b))) := se_const pe_bl fun _ _ => .raw _
theorem se_non {j pos} : SE X ct W (.Constant .none j pos) (eC (.raw .non)) := se_const pe_non fun _ _ => .raw _
theorem se_str {x : Str} {j pos} : SE X ct W (.Constant (.str x) j pos) (eC (.raw (.str x))) := se_const pe_str fun _ _ => .raw _

/-- a rule by values, and the function on data that it is -/
def OpD (Γ : Gm) (r : R2) (g : D → D → MH → R D) : Prop :=
  ∀ (W : WX) (σ : St) (x y : V) (d e : D) (H : Hp) (w : Wd) (m : MH) (Q : VK), RH Γ.K H w m → RD Γ.K H w x d → RD Γ.K H w y e → Kn Γ W σ w H (g d e m) Q → r x y H Q
def UnD (Γ : Gm) (r : V → Hp → VK → Prop) (g : D → MH → R D) : Prop :=
  ∀ (W : WX) (σ : St) (x : V) (d : D) (H : Hp) (w : Wd) (m : MH) (Q : VK), RH Γ.K H w m → RD Γ.K H w x d → Kn Γ W σ w H (g d m) Q → r x H Q
def CallD (Γ : Gm) (r : List V → Hp → VK → Prop) (g : List D → MH → R D) : Prop :=
  ∀ (W : WX) (σ : St) (xs : List V) (ds : List D) (H : Hp) (w : Wd) (m : MH) (Q : VK), RH Γ.K H w m → RDs Γ.K H w xs ds → Kn Γ W σ w H (g ds m) Q → r xs H Q

variable {a b c : Expr} {A B C : Fr → MH → R D} {S T : Fr → MH → R Bool} {pos : Pos}
theorem two_of {r : R2} {g : D → D → MH → R D} (hd : OpD Γ r g) {σ : St} {H : Hp} {Q : VK} (h : tOf Γ W (e2 g A B) σ H Q) : tOp r (tOf Γ W A) (tOf Γ W B) σ H Q := by
  obtain ⟨w, m, δ, h, f, k⟩ := h
  refine e_then go_e ⟨h, f⟩ k fun x d m1 H1 w1 _ c1 r1 k1 => ?_
  exact e_then go_e c1 k1 fun y e m2 H2 w2 x2 c2 r2 k2 => hd W σ x y d e H2 w2 m2 Q c2.h (r1.mono x2) r2 k2
theorem one_of {r : V → Hp → VK → Prop} {g : D → MH → R D} (hd : UnD Γ r g) {σ : St} {H : Hp} {Q : VK} (h : tOf Γ W (e1 g A) σ H Q) : tUn r (tOf Γ W A) σ H Q := by
  obtain ⟨w, m, δ, h, f, k⟩ := h
  exact e_then go_e ⟨h, f⟩ k fun x d m1 H1 w1 _ c1 r1 k1 => hd W σ x d H1 w1 m1 Q c1.h r1 k1
theorem se_op {op : Operator} {r : R2} {g : D → D → MH → R D} (ho : OpR X (binaryOp op) r) (hd : OpD ⟨X.K, ct⟩ r g) (ha : SE X ct W a A) (hb : SE X ct W b B) : SE X ct W (.BinOp a op b pos) (e2 g A B) :=
  pe_imp (pe_op ho ha hb) fun _ _ _ => two_of hd
theorem se_cmp {op : CmpOp} {r : R2} {g : D → D → MH → R D} (ho : OpR X (compareOp op) r) (hd : OpD ⟨X.K, ct⟩ r g) (ha : SE X ct W a A) (hb : SE X ct W b B) (hm : behindInMarks op b = false) : SE X ct W (.Compare a [op] [b] pos) (e2 g A B) :=
  pe_imp (pe_cmpR ho ha hb hm) fun _ _ _ => two_of hd
theorem se_ix {r : R2} {g : D → D → MH → R D} (ho : IxR X r) (hd : OpD ⟨X.K, ct⟩ r g) (ha : SE X ct W a A) (hb : SE X ct W b B) (hs : PlainIx b) : SE X ct W (.Subscript a b pos) (e2 g A B) :=
  pe_imp (pe_ix ho ha hb hs) fun _ _ _ => two_of hd
theorem se_un {op : UnaryOp} {r : V → Hp → VK → Prop} {g : D → MH → R D} (ho : UnR X (unaryOp op) r) (hd : UnD ⟨X.K, ct⟩ r g) (ha : SE X ct W a A) : SE X ct W (.UnaryOp op a pos) (e1 g A) :=
  pe_imp (pe_un ho ha) fun _ _ _ => one_of hd

/-! ### tests -/
theorem val_of {σ : St} {H : Hp} {Q : Bool → Hp → Prop} (h : tOfT Γ W (bVal A) σ H Q) : tOf Γ W A σ H (fun x H' => ∃ k, x = .bl k ∧ Q k H') := by
  obtain ⟨w, m, δ, h, f, k⟩ := h
  refine e_then go_t ⟨h, f⟩ k fun x d m1 H1 w1 _ c1 r1 k1 => ?_
  cases r1 with
  | raw =>
    cases x with
    | bl b => exact ⟨b, rfl, k1 H1 w1 Ext.refl c1.h⟩
    | _ => exact k1.elim
  | _ => exact k1.elim
theorem st_cmp {op : CmpOp} {r : R2} {g : D → D → MH → R D} (ho : OpR X (compareOp op) r) (hd : OpD ⟨X.K, ct⟩ r g) (ha : SE X ct W a A) (hb : SE X ct W b B) (hm : behindInMarks op b = false) : ST X ct W (.Compare a [op] [b] pos) (bVal (e2 g A B)) := by
  refine pt_imp (pt_cmpR ho ha hb hm) fun σ H Q h => ?_
  obtain ⟨w, m, δ, h, f, k⟩ := val_of h
  exact two_of hd ⟨w, m, δ, h, f, k⟩
theorem tru_of {K : PySem.W.Frag} {H : Hp} {w : Wd} {m : MH} {x : V} {d : D} {k : Bool} (h : RH K H w m) (r : RD K H w x d) (e : tru m d = some k) : TruV K x H k := by
  cases r with
  | raw =>
    cases x with
    | non => cases e; rfl
    | bl b => cases e; rfl
    | int i => cases e; rfl
    | str y =>
      have e' : (if y.length ≤ sizeLine then some ((y.length : Int) != 0) else none) = some k := e
      split at e'
      · rename_i hz
        cases e'
        exact ⟨hz, rfl⟩
      · cases e'
    | _ => cases e
  | @tup a xs ds f r =>
    cases e
    exact .inr (.inl ⟨xs, f.sq, by cases r <;> rfl⟩)
  | @lst a xs ds f r =>
    cases e
    exact .inl ⟨xs, SqL.of f.1, by cases r <;> rfl⟩
  | @scr a xs ds f r =>
    cases e
    exact .inl ⟨xs, f.sq, by cases r <;> rfl⟩
  | @obj a n hn =>
    have e' : (match m[n]? with | some (MO.lst ds) => some !ds.isEmpty | _ => none) = some k := e
    cases q : m[n]? with
    | none => rw [q] at e'; cases e'
    | some mo =>
      rw [q] at e'
      cases mo with
      | ins C fs => cases e'
      | lst ds =>
        cases e'
        obtain ⟨xs, h1, h2⟩ := h.ob n a _ hn q
        exact .inl ⟨xs, SqL.of h1, by cases h2 <;> rfl⟩
theorem st_tru (ha : SE X ct W a A) (he : ∀ whole, isTrue a X.env whole = (do let v ← whole; standAt a.pos; holding [v] (truthy v)) := by intro _; rfl) : ST X ct W a (bTru A) := by
  refine pt_imp (pt_truth ha he) ?_
  rintro σ H Q ⟨w, m, δ, h, f, k⟩
  refine e_then go_t ⟨h, f⟩ k fun x d m1 H1 w1 _ c1 r1 k1 => ?_
  have k2 : KnT ⟨X.K, ct⟩ W σ w1 H1 (match tru m1 d with | some b => .ok b m1 | none => .no) Q := k1
  cases e : tru m1 d with
  | none => rw [e] at k2; exact k2.elim
  | some b => rw [e] at k2; exact ⟨b, tru_of c1.h r1 e, k2 H1 w1 Ext.refl c1.h⟩
theorem st_not (ha : ST X ct W a S) : ST X ct W (.UnaryOp .Not a pos) (bNot S) := by
  refine pt_imp (pt_not ha) ?_
  rintro σ H Q ⟨w, m, δ, h, f, k⟩
  exact t_then go_t ⟨h, f⟩ k fun b m1 H1 w1 _ c1 k1 => k1 H1 w1 Ext.refl c1.h
end
section
variable {X : Cx} {Γ : Gm} {ct : Nat → Addr} {W : WX} {a b c : Expr} {A B C : Fr → MH → R D} {S T : Fr → MH → R Bool} {pos : Pos} {rest : List Expr}
/-- a test whatever its whole is -/
abbrev SW (X : Cx) (ct : Nat → Addr) (W : WX) (e : Expr) (F : Fr → MH → R Bool) : Prop := PW X e (tOfT ⟨X.K, ct⟩ W F)
theorem pw_imp {e : Expr} {t u : TT} (h : PW X e t) (i : ∀ σ H Q, u σ H Q → t σ H Q) : PW X e u := ⟨fun wh pins s σ H Q I q => h.run wh pins s σ H Q I (i _ _ _ q)⟩
theorem sw_and1 (ha : ST X ct W a S) : SW X ct W (.BoolOp .And [a] pos) S := pw_and1 ha
theorem sw_or1 (ha : ST X ct W a S) : SW X ct W (.BoolOp .Or [a] pos) S := pw_or1 ha
theorem sw_and (ha : ST X ct W a S) (hb : SW X ct W (.BoolOp .And (b :: rest) pos) T) : SW X ct W (.BoolOp .And (a :: b :: rest) pos) (bAnd S T) := by
  refine pw_imp (pw_and ha hb) ?_
  rintro σ H Q ⟨w, m, δ, h, f, k⟩
  refine t_then go_t ⟨h, f⟩ k fun b m1 H1 w1 _ c1 k1 => ?_
  cases b with
  | true => exact ⟨w1, m1, δ, c1.h, c1.f, k1⟩
  | false => exact iteF (k1 H1 w1 Ext.refl c1.h)
theorem sw_or (ha : ST X ct W a S) (hb : SW X ct W (.BoolOp .Or (b :: rest) pos) T) : SW X ct W (.BoolOp .Or (a :: b :: rest) pos) (bOr S T) := by
  refine pw_imp (pw_or ha hb) ?_
  rintro σ H Q ⟨w, m, δ, h, f, k⟩
  refine t_then go_t ⟨h, f⟩ k fun b m1 H1 w1 _ c1 k1 => ?_
  cases b with
  | true => exact iteT (k1 H1 w1 Ext.refl c1.h)
  | false => exact iteF ⟨w1, m1, δ, c1.h, c1.f, k1⟩
theorem st_w (h : SW X ct W a S) : ST X ct W a S := h.pt
/-- values by tests and truth -/
theorem se_if (hc : ST X ct W c S) (ha : SE X ct W a A) (hb : SE X ct W b B) : SE X ct W (.IfExp c a b pos) (eIf S A B) := by
  refine pe_imp (pe_ifExp hc ha hb) ?_
  rintro σ H Q ⟨w, m, δ, h, f, k⟩
  refine t_then go_e ⟨h, f⟩ k fun b m1 H1 w1 _ c1 k1 => ?_
  cases b with
  | true => exact iteT ⟨w1, m1, δ, c1.h, c1.f, k1⟩
  | false => exact iteF ⟨w1, m1, δ, c1.h, c1.f, k1⟩
theorem toT_of {σ : St} {α : Type} {P : Wd → Hp → R α → Prop} (g : Go Γ W σ P) {H : Hp} {w : Wd} {m : MH} {d : D} {G : Bool → MH → R α} (k : P w H ((toT d m).bnd G)) : ∃ b, tru m d = some b ∧ P w H (G b m) := by
  have k2 : P w H (R.bnd (match tru m d with | some b => .ok b m | none => .no) G) := k
  cases e : tru m d with
  | none => rw [e] at k2; exact (g.no _ _ k2).elim
  | some b => rw [e] at k2; exact ⟨b, rfl, k2⟩
theorem se_one {op} (h : SE X ct W a A) : SE X ct W (.BoolOp op [a] pos) A := pe_one h
theorem se_and (ha : SE X ct W a A) (hb : SE X ct W (.BoolOp .And (b :: rest) pos) B) : SE X ct W (.BoolOp .And (a :: b :: rest) pos) (eAnd A B) := by
  refine pe_imp (pe_andT ha hb) ?_
  rintro σ H Q ⟨w, m, δ, h, f, k⟩
  refine e_then go_e ⟨h, f⟩ k fun x d m1 H1 w1 _ c1 r1 k1 => ?_
  obtain ⟨b, e, k2⟩ := toT_of go_e k1
  refine ⟨b, tru_of c1.h r1 e, ?_⟩
  cases b with
  | true => exact iteT ⟨w1, m1, δ, c1.h, c1.f, k2⟩
  | false => exact iteF (Kn.here k2 c1.h r1)
theorem se_or (ha : SE X ct W a A) (hb : SE X ct W (.BoolOp .Or (b :: rest) pos) B) : SE X ct W (.BoolOp .Or (a :: b :: rest) pos) (eOr A B) := by
  refine pe_imp (pe_orT ha hb) ?_
  rintro σ H Q ⟨w, m, δ, h, f, k⟩
  refine e_then go_e ⟨h, f⟩ k fun x d m1 H1 w1 _ c1 r1 k1 => ?_
  obtain ⟨b, e, k2⟩ := toT_of go_e k1
  refine ⟨b, tru_of c1.h r1 e, ?_⟩
  cases b with
  | true => exact iteT (Kn.here k2 c1.h r1)
  | false => exact iteF ⟨w1, m1, δ, c1.h, c1.f, k2⟩
theorem se_not (ha : SE X ct W a A) : SE X ct W (.UnaryOp .Not a pos) (eNot A) := by
  refine pe_imp (pe_notT ha) ?_
  rintro σ H Q ⟨w, m, δ, h, f, k⟩
  refine e_then go_e ⟨h, f⟩ k fun x d m1 H1 w1 _ c1 r1 k1 => ?_
  obtain ⟨b, e, k2⟩ := toT_of go_e k1
  exact ⟨b, tru_of c1.h r1 e, Kn.here k2 c1.h (.raw _)⟩
/-! ### arguments, displays -/
variable {es : List Expr} {As : Fr → MH → R (List D)}
theorem sa_nil : SA X ct W [] aNil := pa_imp pa_nil fun σ H Q ⟨w, m, δ, h, f, k⟩ => k [] H w Ext.refl h .nil
theorem sa_cons (ha : SE X ct W a A) (hr : SA X ct W es As) (hs : starEach (a :: es) X.env = (false, eval a X.env) :: starEach es X.env := by rfl) : SA X ct W (a :: es) (aCons A As) := by
  refine pa_imp (pa_cons ha hr hs) ?_
  rintro σ H Q ⟨w, m, δ, h, f, k⟩
  refine e_then go_a ⟨h, f⟩ k fun x d m1 H1 w1 _ c1 r1 k1 => ?_
  exact a_then go_a c1 k1 fun xs ds m2 H2 w2 x2 c2 r2 k2 => k2 (x :: xs) H2 w2 Ext.refl c2.h (.cons (r1.mono x2) r2)
def gTup (ds : List D) (m : MH) : R D := if ds.length ≤ sizeLine then .ok (.tup ds) m else .no
def gLst (ds : List D) (m : MH) : R D := if ds.length ≤ sizeLine then .ok (.lst ds) m else .no
def gNew (ds : List D) (m : MH) : R D := if ds.length ≤ sizeLine then .ok (.obj m.length) (m ++ [.lst ds]) else .no
theorem kn_if {c : Prop} [Decidable c] {σ : St} {w : Wd} {H : Hp} {r : R D} {Q : VK} (k : Kn Γ W σ w H (if c then r else .no) Q) : c ∧ Kn Γ W σ w H r Q := by
  by_cases h : c
  · rw [if_pos h] at k; exact ⟨h, k⟩
  · rw [if_neg h] at k; exact k.elim
theorem se_tup {x1} (h : SA X ct W es As) : SE X ct W (.Tuple es x1 pos) (eA gTup As) := by
  refine pe_imp (pe_tup h) ?_
  rintro σ H Q ⟨w, m, δ, h, f, k⟩
  refine a_then go_e ⟨h, f⟩ k fun xs ds m1 H1 w1 _ c1 r1 k1 => ?_
  obtain ⟨hz, k2⟩ := kn_if k1
  exact ⟨by rw [r1.length]; exact hz, k2.newTup c1.h r1⟩
theorem se_lst (h : SA X ct W es As) : SE X ct W (.List es pos) (eA gLst As) := by
  refine pe_imp (pe_lst h) ?_
  rintro σ H Q ⟨w, m, δ, h, f, k⟩
  refine a_then go_e ⟨h, f⟩ k fun xs ds m1 H1 w1 _ c1 r1 k1 => ?_
  obtain ⟨hz, k2⟩ := kn_if k1
  exact ⟨by rw [r1.length]; exact hz, k2.newLst c1.h r1⟩
theorem se_new (h : SA X ct W es As) : SE X ct W (.List es pos) (eA gNew As) := by
  refine pe_imp (pe_lst h) ?_
  rintro σ H Q ⟨w, m, δ, h, f, k⟩
  refine a_then go_e ⟨h, f⟩ k fun xs ds m1 H1 w1 _ c1 r1 k1 => ?_
  obtain ⟨hz, k2⟩ := kn_if k1
  exact ⟨by rw [r1.length]; exact hz, k2.newObj c1.h r1⟩
/-! ### builtin functions, methods of builtin types -/
theorem call_of {r : List V → Hp → VK → Prop} {g : List D → MH → R D} (hd : CallD Γ r g) {σ : St} {H : Hp} {Q : VK} (h : tOf Γ W (eA g As) σ H Q) : tCB r (tOfA Γ W As) σ H Q := by
  obtain ⟨w, m, δ, h, f, k⟩ := h
  exact a_then go_e ⟨h, f⟩ k fun xs ds m1 H1 w1 _ c1 r1 k1 => hd W σ xs ds H1 w1 m1 Q c1.h r1 k1
variable {x : Str} {p : Pos} {e : Expr} {id T' : String} {r : List V → Hp → VK → Prop} {g : List D → MH → R D}
theorem se_callB (hc : CallR X (.builtin id) r) (hd : CallD ⟨X.K, ct⟩ r g) (hg : Gl X x) (hm : X.mg x = none) (hv : bootBuiltins x = some (.builtin id)) (ha : SA X ct W (e :: es) As) (hn : x ≠ "__name__" := by decide) (hdb : (x == ("__debug__" : Str)) = false := by decide)
    (hs : starEach (e :: es) X.env = (false, eval e X.env) :: starEach es X.env := by rfl) (hpl : (backTo pos (starEach es X.env)).any (·.1) = false := by rfl) : SE X ct W (.Call (.Name x p) (e :: es) [] pos) (eA g As) :=
  pe_imp (pe_callB hc hg hm hv ha hn hdb hs hpl) fun _ _ _ => call_of hd
theorem se_callTy (hc : CallR X (.type T') r) (hd : CallD ⟨X.K, ct⟩ r g) (hg : Gl X x) (hm : X.mg x = none) (hv : bootBuiltins x = some (.type T')) (ha : SA X ct W (e :: es) As) (hn : x ≠ "__name__" := by decide) (hdb : (x == ("__debug__" : Str)) = false := by decide)
    (hs : starEach (e :: es) X.env = (false, eval e X.env) :: starEach es X.env := by rfl) (hpl : (backTo pos (starEach es X.env)).any (·.1) = false := by rfl) : SE X ct W (.Call (.Name x p) (e :: es) [] pos) (eA g As) :=
  pe_imp (pe_callTy hc hg hm hv ha hn hdb hs hpl) fun _ _ _ => call_of hd
end
end Sm

set_option Elab.async false
set_option linter.all false
set_option maxRecDepth 100000
/-! Sm, operations on data. -/
namespace Sm
open PySem PySem.Spec L2
section
variable {X : Cx} {Γ : Gm}
theorem OpR.or {f : Value → Value → Sem Value} {r r' : R2} (h : OpR X f r) (h' : OpR X f r') : OpR X f (fun x y H Q => r x y H Q ∨ r' x y H Q) := by
  intro pins s σ H x y v u Q I rx ry q
  rcases q with q | q
  · exact h pins s σ H x y v u Q I rx ry q
  · exact h' pins s σ H x y v u Q I rx ry q
theorem CallR.or {f : Value} {r r' : List V → Hp → VK → Prop} (h : CallR X f r) (h' : CallR X f r') : CallR X f (fun x H Q => r x H Q ∨ r' x H Q) := by
  intro pins s σ H x v Q I rx q
  rcases q with q | q
  · exact h pins s σ H x v Q I rx q
  · exact h' pins s σ H x v Q I rx q

/-! ### ints -/
def gI (c : Int → Int → Bool) (f : Int → Int → V) : D → D → MH → R D
  | .raw (.int i), .raw (.int j), m => if c i j = true then .ok (.raw (f i j)) m else .no
  | _, _, _ => .no
theorem gI_of {c : Int → Int → Bool} {f : Int → Int → V} {W : WX} {σ : St} {x y : V} {d e : D} {H : Hp} {w : Wd} {m : MH} {Q : VK} (h : RH Γ.K H w m) (rx : RD Γ.K H w x d) (ry : RD Γ.K H w y e) (k : Kn Γ W σ w H (gI c f d e m) Q) :
    ∃ i j, x = .int i ∧ y = .int j ∧ c i j = true ∧ Q (f i j) H := by
  unfold gI at k
  split at k
  · rename_i i j
    cases rx
    cases ry
    obtain ⟨hc, k⟩ := kn_if k
    exact ⟨i, j, rfl, rfl, hc, k.here h (.raw _)⟩
  · exact k.elim
theorem d_rI {C : Int → Int → Prop} {c : Int → Int → Bool} {f : Int → Int → V} (hc : ∀ i j, c i j = true → C i j) : OpD Γ (rI C f) (gI c f) := fun W σ x y d e H w m Q h rx ry k => by
  obtain ⟨i, j, rfl, rfl, h1, q⟩ := gI_of h rx ry k
  exact ⟨i, j, rfl, rfl, hc i j h1, q⟩
def cT : Int → Int → Bool := fun _ _ => true
theorem d_rI0 {f : Int → Int → V} : OpD Γ (rI0 f) (gI cT f) := fun W σ x y d e H w m Q h rx ry k => by
  obtain ⟨i, j, rfl, rfl, h1, q⟩ := gI_of h rx ry k
  exact ⟨i, j, rfl, rfl, q⟩
def cMul : Int → Int → Bool := fun i j => (decide (-(2 ^ 64) < i) && decide (i < 2 ^ 64)) || (decide (-(2 ^ 64) < j) && decide (j < 2 ^ 64))
theorem cMul_ok (i j : Int) (h : cMul i j = true) : CMul i j := by
  unfold cMul at h
  simp only [Bool.or_eq_true, Bool.and_eq_true, decide_eq_true_eq] at h
  exact h
def cDiv : Int → Int → Bool := fun _ j => decide (0 < j) && decide (j < 1073741824)
theorem cDiv_ok (i j : Int) (h : cDiv i j = true) : CDiv i j := by
  unfold cDiv at h
  simp only [Bool.and_eq_true, decide_eq_true_eq] at h
  exact h
def cPos : Int → Int → Bool := fun _ j => decide (0 < j)
theorem cPos_ok (i j : Int) (h : cPos i j = true) : 0 < j := of_decide_eq_true h
def cNN : Int → Int → Bool := fun _ j => decide (0 ≤ j)
theorem cNN_ok (i j : Int) (h : cNN i j = true) : 0 ≤ j := of_decide_eq_true h
def cPow : Int → Int → Bool := fun i j => decide (0 ≤ j) && decide (j ≤ 1000000) && decide (i.natAbs < 2 ^ 64)
theorem cPow_ok (i j : Int) (h : cPow i j = true) : CPow i j := by
  unfold cPow at h
  simp only [Bool.and_eq_true, decide_eq_true_eq] at h
  exact ⟨h.1.1, h.1.2, h.2⟩
abbrev gSub := gI cT fun i j => .int (i - j)
abbrev gMod := gI cPos fun i j => .int (i % j)
abbrev gFdiv := gI cDiv fun i j => .int (i / j)
abbrev gShl := gI cPow fun i j => .int (i * 2 ^ j.toNat)
abbrev gShr := gI cNN fun i j => .int (i / 2 ^ j.toNat)
abbrev gBand := gI cT fun i j => .int (Builtin.bitAnd i j)
abbrev gLt := gI cT fun i j => .bl (decide (i < j))
abbrev gLe := gI cT fun i j => .bl (decide (i ≤ j))
abbrev gGt := gI cT fun i j => .bl (decide (j < i))
abbrev gGe := gI cT fun i j => .bl (decide (j ≤ i))
def gNeg : D → MH → R D
  | .raw (.int i), m => .ok (.raw (.int (-i))) m
  | _, _ => .no
theorem d_neg : UnD Γ (rU fun i => .int (-i)) gNeg := fun W σ x d H w m Q h rx k => by
  unfold gNeg at k
  split at k
  · rename_i i
    cases rx
    exact ⟨i, rfl, k.here h (.raw _)⟩
  · exact k.elim

/-! ### a list that is at hand -/
/-- the items of a list, frozen or an object -/
def lstOf (m : MH) : D → Option (List D)
  | .lst ds => some ds
  | .obj n => match m[n]? with
    | some (.lst ds) => some ds
    | _ => none
  | _ => none
theorem lst_at {K : PySem.W.Frag} {H : Hp} {w : Wd} {m : MH} {x : V} {d : D} {ds : List D} (h : RH K H w m) (r : RD K H w x d) (e : lstOf m d = some ds) : ∃ a xs, x = .ref a ∧ H a = some (.lst xs) ∧ RDs K H w xs ds := by
  cases r with
  | @lst a xs ds' f r => cases e; exact ⟨a, xs, rfl, f.1, r⟩
  | @obj a n hn =>
    have e' : (match m[n]? with | some (MO.lst ds) => some ds | _ => none) = some ds := e
    cases q : m[n]? with
    | none => rw [q] at e'; cases e'
    | some mo =>
      rw [q] at e'
      cases mo with
      | ins C fs => cases e'
      | lst ds' =>
        cases e'
        obtain ⟨xs, h1, h2⟩ := h.ob n a _ hn q
        exact ⟨a, xs, rfl, h1, h2⟩
  | _ => cases e
/-- .. a tuple's -/
def tupOf : D → Option (List D)
  | .tup ds => some ds
  | _ => none
theorem tup_at {K : PySem.W.Frag} {H : Hp} {w : Wd} {x : V} {d : D} {ds : List D} (r : RD K H w x d) (e : tupOf d = some ds) : ∃ a xs, x = .ref a ∧ SqT K H a xs ∧ RDs K H w xs ds := by
  cases r with
  | @tup a xs ds' f r => cases e; exact ⟨a, xs, rfl, f.sq, r⟩
  | _ => cases e
/-- a sequence that is read -/
def seqOf (m : MH) (d : D) : Option (List D) := match d with
  | .tup ds => some ds
  | .scr ds => some ds
  | d => lstOf m d
theorem seq_at {K : PySem.W.Frag} {H : Hp} {w : Wd} {m : MH} {x : V} {d : D} {ds : List D} (h : RH K H w m) (r : RD K H w x d) (e : seqOf m d = some ds) : ∃ a xs, x = .ref a ∧ (SqL K H a xs ∨ SqT K H a xs) ∧ RDs K H w xs ds := by
  cases r with
  | @tup a xs ds' f r => cases e; exact ⟨a, xs, rfl, .inr f.sq, r⟩
  | @scr a xs ds' f r => cases e; exact ⟨a, xs, rfl, .inl f.sq, r⟩
  | @lst a xs ds' f r => cases e; exact ⟨a, xs, rfl, .inl (SqL.of f.1), r⟩
  | @obj a n hn =>
    obtain ⟨b, xs, e1, e2, e3⟩ := lst_at h (.obj hn) (show lstOf m (.obj n) = some ds from e)
    exact ⟨b, xs, e1, .inl (SqL.of e2), e3⟩
  | raw v => cases e

/-! ### + -/
def gAdd (d e : D) (m : MH) : R D :=
  match d, e with
  | .raw (.int i), .raw (.int j) => .ok (.raw (.int (i + j))) m
  | .raw (.str a), .raw (.str b) => if a.length + b.length ≤ sizeLine then .ok (.raw (.str (a ++ b))) m else .no
  | .tup ds, .tup es => if ds.length + es.length ≤ sizeLine then .ok (.tup (ds ++ es)) m else .no
  | d, e => match lstOf m d, lstOf m e with
    | some ds, some es => if ds.length + es.length ≤ sizeLine then .ok (.lst (ds ++ es)) m else .no
    | _, _ => .no
/-- .. a new list that changes later -/
def gAddNew (d e : D) (m : MH) : R D :=
  match lstOf m d, lstOf m e with
    | some ds, some es => if ds.length + es.length ≤ sizeLine then .ok (.obj m.length) (m ++ [.lst (ds ++ es)]) else .no
    | _, _ => .no
def rAddU (K : PySem.W.Frag) : R2 := fun x y H Q => (rI0 (fun i j => V.int (i + j))) x y H Q ∨ ((∃ i j, x = .str i ∧ y = .str j ∧ i.length + j.length ≤ sizeLine ∧ Q (.str (i ++ j)) H) ∨ (rCatA K x y H Q ∨ rCat x y H Q))
theorem op_addU : OpR X (binaryOp .Add) (rAddU X.K) := Sm.OpR.or op_add (Sm.OpR.or op_add_str (Sm.OpR.or op_catA op_cat))
theorem cat_of {W : WX} {σ : St} {x y : V} {d e : D} {H : Hp} {w : Wd} {m : MH} {Q : VK} (h : RH Γ.K H w m) (rx : RD Γ.K H w x d) (ry : RD Γ.K H w y e)
    (k : Kn Γ W σ w H (match lstOf m d, lstOf m e with | some ds, some es => if ds.length + es.length ≤ sizeLine then .ok (.lst (ds ++ es)) m else .no | _, _ => .no) Q) : rCat x y H Q := by
  cases e1 : lstOf m d with
  | none => rw [e1] at k; exact k.elim
  | some ds =>
    cases e2 : lstOf m e with
    | none => rw [e1, e2] at k; exact k.elim
    | some es =>
      rw [e1, e2] at k
      obtain ⟨hz, k⟩ := kn_if k
      obtain ⟨a, xs, rfl, h1, r1⟩ := lst_at h rx e1
      obtain ⟨b, ys, rfl, h2, r2⟩ := lst_at h ry e2
      exact ⟨a, b, xs, ys, rfl, rfl, h1, h2, by rw [r1.length, r2.length]; exact hz, k.newLst h (r1.append r2)⟩
theorem d_addU : OpD Γ (rAddU Γ.K) gAdd := fun W σ x y d e H w m Q h rx ry k => by
  unfold gAdd at k
  split at k
  · rename_i i j
    cases rx; cases ry
    exact .inl ⟨i, j, rfl, rfl, k.here h (.raw _)⟩
  · rename_i a b
    cases rx; cases ry
    obtain ⟨hz, k⟩ := kn_if k
    exact .inr (.inl ⟨a, b, rfl, rfl, hz, k.here h (.raw _)⟩)
  · rename_i ds es
    obtain ⟨hz, k⟩ := kn_if k
    cases rx with
    | @tup a xs _ f r =>
      cases ry with
      | @tup b ys _ g s =>
        refine .inr (.inr (.inl ⟨a, b, xs, ys, rfl, rfl, f.sq, g.sq, by rw [r.length, s.length]; exact hz, fun e => ?_, fun _ e => ?_, fun _ _ => k.newTup h (r.append s)⟩))
        · subst e
          cases r
          exact k.here h (.tup g s)
        · subst e
          cases s
          rw [List.append_nil] at k
          exact k.here h (.tup f r)
  · exact .inr (.inr (.inr (cat_of h rx ry k)))
theorem d_catNew : OpD Γ rCat gAddNew := fun W σ x y d e H w m Q h rx ry k => by
  unfold gAddNew at k
  cases e1 : lstOf m d with
  | none => rw [e1] at k; exact k.elim
  | some ds =>
    cases e2 : lstOf m e with
    | none => rw [e1, e2] at k; exact k.elim
    | some es =>
      rw [e1, e2] at k
      obtain ⟨hz, k⟩ := kn_if k
      obtain ⟨a, xs, rfl, h1, r1⟩ := lst_at h rx e1
      obtain ⟨b, ys, rfl, h2, r2⟩ := lst_at h ry e2
      exact ⟨a, b, xs, ys, rfl, rfl, h1, h2, by rw [r1.length, r2.length]; exact hz, k.newObj h (r1.append r2)⟩

/-! ### items, parts -/
theorem ixN_len (n : Nat) (i : Int) (j : Nat) (h : ixN n i = some j) : j < n := by
  unfold ixN at h
  split at h
  · split at h
    · cases h; omega
    · cases h
  · split at h
    · cases h; omega
    · cases h
theorem atI_rds {K : PySem.W.Frag} {H : Hp} {w : Wd} {xs : List V} {ds : List D} {i : Int} {d : D} (r : RDs K H w xs ds) (e : atI ds i = some d) : ∃ v, atI xs i = some v ∧ RD K H w v d := by
  unfold atI at e ⊢
  rw [r.length]
  cases q : ixN ds.length i with
  | none => rw [q] at e; cases e
  | some j =>
    rw [q] at e
    exact r.get e
def gIx (d e : D) (m : MH) : R D :=
  match d, e with
  | .raw (.str z), .raw (.int i) => if z.length ≤ sizeLine then (match atI z.cps.toList i with | some c => .ok (.raw (.str ⟨#[c]⟩)) m | none => .no) else .no
  | d, .raw (.int i) => match seqOf m d with
    | some ds => match atI ds i with
      | some x => .ok x m
      | none => .no
    | none => .no
  | _, _ => .no
theorem d_ix : OpD Γ (rIx Γ.K) gIx := fun W σ x y d e H w m Q h rx ry k => by
  unfold gIx at k
  split at k
  · rename_i z i
    cases rx; cases ry
    obtain ⟨hz, k⟩ := kn_if k
    cases q : atI z.cps.toList i with
    | none => rw [q] at k; exact k.elim
    | some c => rw [q] at k; exact .inr (.inr ⟨z, i, c, rfl, rfl, hz, q, k.here h (.raw _)⟩)
  · rename_i i _
    cases ry
    cases q : seqOf m d with
    | none => rw [q] at k; exact k.elim
    | some ds =>
      rw [q] at k
      obtain ⟨a, xs, rfl, hs, r⟩ := seq_at h rx q
      cases q2 : atI ds i with
      | none => simp only [q2] at k; exact k.elim
      | some d' =>
        simp only [q2] at k
        obtain ⟨v, e1, r1⟩ := atI_rds r q2
        rcases hs with hs | hs
        · exact .inl ⟨a, xs, i, v, rfl, rfl, hs, e1, k.here h r1⟩
        · exact .inr (.inl ⟨a, xs, i, v, rfl, rfl, hs, e1, k.here h r1⟩)
  · exact k.elim
def cutD (ds : List D) (lo hi : Option Int) : List D := (ds.drop (HT.sIx ds.length 0 lo)).take (HT.sIx ds.length ds.length hi - HT.sIx ds.length 0 lo)
theorem cut_rds {K : PySem.W.Frag} {H : Hp} {w : Wd} {xs : List V} {ds : List D} (r : RDs K H w xs ds) (lo hi : Option Int) : RDs K H w (cutV xs lo hi) (cutD ds lo hi) := by
  unfold cutV cutD
  rw [r.length]
  exact (r.drop _).take _
/-- a slice; a tuple's whole is the tuple -/
def gSl (d : D) (lo hi : Option Int) (m : MH) : R D :=
  match d with
  | .raw (.str z) => if z.length ≤ sizeLine then .ok (.raw (.str (cutS z lo hi))) m else .no
  | .tup ds => .ok (.tup (cutD ds lo hi)) m
  | d => match lstOf m d with
    | some ds => .ok (.lst (cutD ds lo hi)) m
    | none => .no
def rSlU (K : PySem.W.Frag) : V → Option Int → Option Int → Hp → VK → Prop := fun x lo hi H Q => rSlA K x lo hi H Q ∨ (rSlL K x lo hi H Q ∨ rSlS x lo hi H Q)
theorem sl_U : SlR X (rSlU X.K) := sl_tupA.or (sl_list.or sl_str)
theorem cut_whole {ds : List D} {lo hi : Option Int} (h : HT.sIx ds.length 0 lo = 0 ∧ HT.sIx ds.length ds.length hi = ds.length) : cutD ds lo hi = ds := by
  unfold cutD
  rw [h.1, h.2]
  simp
theorem sl_of {W : WX} {σ : St} {x : V} {d : D} {lo hi : Option Int} {H : Hp} {w : Wd} {m : MH} {Q : VK} (h : RH Γ.K H w m) (rx : RD Γ.K H w x d) (k : Kn Γ W σ w H (gSl d lo hi m) Q) : rSlU Γ.K x lo hi H Q := by
  unfold gSl at k
  split at k
  · rename_i z
    cases rx
    obtain ⟨hz, k⟩ := kn_if k
    exact .inr (.inr ⟨z, rfl, hz, k.here h (.raw _)⟩)
  · rename_i ds
    cases rx with
    | @tup a xs _ f r =>
      refine .inl ⟨a, xs, rfl, f.sq, fun e => ?_, fun _ => k.newTup h (cut_rds r lo hi)⟩
      rw [r.length] at e
      rw [cut_whole e] at k
      exact k.here h (.tup f r)
  · cases q : lstOf m d with
    | none => rw [q] at k; exact k.elim
    | some ds =>
      rw [q] at k
      obtain ⟨a, xs, rfl, h1, r⟩ := lst_at h rx q
      exact .inr (.inl ⟨a, xs, rfl, SqL.of h1, k.newLst h (cut_rds r lo hi)⟩)
end
end Sm

set_option Elab.async false
set_option linter.all false
set_option maxRecDepth 100000
/-! Sm, slices, ==, len, in, and other calls. -/
namespace Sm
open PySem PySem.Spec L2
/-! ### slices -/
def toI : D → MH → R (Option Int)
  | .raw (.int i), m => .ok (some i) m
  | _, _ => .no
/-- a part of a slice -/
def oP : Option (Fr → MH → R D) → Fr → MH → R (Option Int)
  | none => fun _ m => .ok none m
  | some A => fun δ m => (A δ m).bnd toI
def eSl (A : Fr → MH → R D) (lo hi : Option (Fr → MH → R D)) : Fr → MH → R D := fun δ m => (A δ m).bnd fun d m1 => (oP lo δ m1).bnd fun l m2 => (oP hi δ m2).bnd fun u m3 => gSl d l u m3
section
variable {X : Cx} {Γ : Gm} {ct : Nat → Addr} {W : WX} {a b : Expr} {A B : Fr → MH → R D} {pos p2 : Pos}
/-- a part's end, for whatever is behind -/
def tOfO (Γ : Gm) (W : WX) (F : Fr → MH → R (Option Int)) : TO := fun σ H Q => ∃ w m δ, RH Γ.K H w m ∧ RF Γ.K H w σ δ ∧ (match F δ m with
  | .no => False
  | .ok o m' => ∀ H' w', Ext w H w' H' → RH Γ.K H' w' m' → Q o H'
  | .ex c fs m' => KnX Γ W σ w H c fs m')
theorem o_then {σ : St} {H : Hp} {w : Wd} {F : Fr → MH → R (Option Int)} {α : Type} {P : Wd → Hp → R α → Prop} {G : Option Int → MH → R α} {δ : Fr} {m : MH} {Q : Option Int → Hp → Prop} (g : Go Γ W σ P)
    (c : Cm Γ H w σ δ m) (k : P w H ((F δ m).bnd G)) (q : ∀ o m1 H1 w1, Ext w H w1 H1 → Cm Γ H1 w1 σ δ m1 → P w1 H1 (G o m1) → Q o H1) : tOfO Γ W F σ H Q := by
  refine ⟨w, m, δ, c.h, c.f, ?_⟩
  cases e : F δ m with
  | no => rw [e] at k; exact (g.no _ _ k).elim
  | ok d m1 =>
    rw [e] at k
    exact fun H' w' ex rh => q d m1 H' w' ex ⟨rh, c.f.mono ex⟩ (g.later _ _ _ _ _ ex k)
  | ex c' fs m1 => rw [e] at k; exact g.ex _ _ _ _ _ k
abbrev SO (X : Cx) (ct : Nat → Addr) (W : WX) (e : Option Expr) (F : Option (Fr → MH → R D)) : Prop := PO X e (tOfO ⟨X.K, ct⟩ W (oP F))
theorem po_imp {e : Option Expr} {t u : TO} (h : PO X e t) (i : ∀ σ H Q, u σ H Q → t σ H Q) : PO X e u := ⟨fun pins s σ H Q I q => h.run pins s σ H Q I (i _ _ _ q)⟩
theorem so_none : SO X ct W none none := by
  refine po_imp po_none ?_
  rintro σ H Q ⟨w, m, δ, h, f, k⟩
  exact k H w Ext.refl h
theorem so_some (h : SE X ct W a A) : SO X ct W (some a) (some A) := by
  refine po_imp (po_some h) ?_
  rintro σ H Q ⟨w, m, δ, h, f, k⟩
  refine ⟨w, m, δ, h, f, ?_⟩
  have k2 : (match (A δ m).bnd toI with
    | .no => False
    | .ok o m' => ∀ H' w', Ext w H w' H' → RH X.K H' w' m' → Q o H'
    | .ex c fs m' => KnX ⟨X.K, ct⟩ W σ w H c fs m') := k
  cases e : A δ m with
  | no => rw [e] at k2; exact k2.elim
  | ex c fs m1 => rw [e] at k2; exact k2
  | ok d m1 =>
    rw [e] at k2
    intro v H' w' ex rh rd
    cases rd with
    | raw =>
      cases v with
      | int i => exact ⟨i, rfl, k2 H' w' ex rh⟩
      | _ => exact k2.elim
    | _ => exact k2.elim
theorem se_sl {lo hi : Option Expr} {L U : Option (Fr → MH → R D)} (ha : SE X ct W a A) (hl : SO X ct W lo L) (hu : SO X ct W hi U) : SE X ct W (.Subscript a (.Slice lo hi none p2) pos) (eSl A L U) := by
  refine pe_imp (pe_slice sl_U ha hl hu) ?_
  rintro σ H Q ⟨w, m, δ, h, f, k⟩
  refine e_then go_e ⟨h, f⟩ k fun x d m1 H1 w1 x1 c1 r1 k1 => ?_
  refine o_then go_e c1 k1 fun l m2 H2 w2 x2 c2 k2 => ?_
  exact o_then go_e c2 k2 fun u m3 H3 w3 x3 c3 k3 => sl_of (W := W) (σ := σ) (Γ := ⟨X.K, ct⟩) c3.h (r1.mono (x2.trans x3)) k3
end
/-! ### == -/
mutual
def toP : D → Option PyData
  | .raw .non => some .none
  | .raw (.bl b) => some (.bool b)
  | .raw (.int i) => some (.int i)
  | .raw (.str x) => some (.str x)
  | .tup ds => (toPs ds).map .tuple
  | .lst ds => (toPs ds).map .list
  | .scr ds => (toPs ds).map .list
  | _ => none
def toPs : List D → Option (List PyData)
  | [] => some []
  | d :: ds => match toP d, toPs ds with
    | some p, some ps => some (p :: ps)
    | _, _ => none
end
/-- .. of an object that is a list, too -/
def toPm (m : MH) : D → Option PyData
  | .obj n => match m[n]? with
    | some (.lst ds) => (toPs ds).map .list
    | _ => none
  | d => toP d
section
variable {K : PySem.W.Frag} {H : Hp} {w : Wd} {m : MH}
mutual
theorem dp_of {v : V} {d : D} {p : PyData} (r : RD K H w v d) (e : toP d = some p) : Dp K H v p := by
  cases r with
  | raw v =>
    cases v with
    | non => cases e; exact .non
    | bl b => cases e; exact .bl b
    | int i => cases e; exact .int i
    | str x => cases e; exact .str x
    | _ => cases e
  | @tup a xs ds f r =>
    have e' : (toPs ds).map PyData.tuple = some p := e
    cases q : toPs ds with
    | none => rw [q] at e'; cases e'
    | some ps => rw [q] at e'; cases e'; exact .tup f.sq (dps_of r q)
  | @lst a xs ds f r =>
    have e' : (toPs ds).map PyData.list = some p := e
    cases q : toPs ds with
    | none => rw [q] at e'; cases e'
    | some ps => rw [q] at e'; cases e'; exact .lst (SqL.of f.1) (dps_of r q)
  | @scr a xs ds f r =>
    have e' : (toPs ds).map PyData.list = some p := e
    cases q : toPs ds with
    | none => rw [q] at e'; cases e'
    | some ps => rw [q] at e'; cases e'; exact .lst f.sq (dps_of r q)
  | obj _ => cases e
theorem dps_of {vs : List V} {ds : List D} {ps : List PyData} (r : RDs K H w vs ds) (e : toPs ds = some ps) : DpAll K H vs ps := by
  cases r with
  | nil => cases e; exact .nil
  | @cons v d vs ds r t =>
    have e' : (match toP d, toPs ds with | some p, some ps => some (p :: ps) | _, _ => none) = some ps := e
    cases q1 : toP d with
    | none => rw [q1] at e'; cases e'
    | some p =>
      cases q2 : toPs ds with
      | none => rw [q1, q2] at e'; cases e'
      | some ps' => rw [q1, q2] at e'; cases e'; exact .cons (dp_of r q1) (dps_of t q2)
end
theorem dpm_of {v : V} {d : D} {p : PyData} (h : RH K H w m) (r : RD K H w v d) (e : toPm m d = some p) : Dp K H v p := by
  cases d with
  | obj n =>
    have e' : (match m[n]? with | some (MO.lst ds) => (toPs ds).map PyData.list | _ => none) = some p := e
    cases q : m[n]? with
    | none => rw [q] at e'; cases e'
    | some mo =>
      rw [q] at e'
      cases mo with
      | ins C fs => cases e'
      | lst ds =>
        have e2 : (toPs ds).map PyData.list = some p := e'
        cases q2 : toPs ds with
        | none => rw [q2] at e2; cases e2
        | some ps =>
          rw [q2] at e2
          cases e2
          cases r with
          | obj hn =>
            obtain ⟨xs, h1, h2⟩ := h.ob n _ _ hn q
            exact .lst (SqL.of h1) (dps_of h2 q2)
  | raw v => exact dp_of r e
  | tup ds => exact dp_of r e
  | lst ds => exact dp_of r e
  | scr ds => exact dp_of r e
end
def gEqB (f : Bool → Bool) (d e : D) (m : MH) : R D :=
  match toPm m d, toPm m e with
  | some p, some q => if (SeqAt.shaped p && SeqAt.shaped q) = true then .ok (.raw (.bl (f (PyData.eqv p q)))) m else .no
  | _, _ => .no
abbrev gEq := gEqB id
abbrev gNe := gEqB not
section
variable {X : Cx} {Γ : Gm}
theorem eqB_of {f : Bool → Bool} {W : WX} {σ : St} {x y : V} {d e : D} {H : Hp} {w : Wd} {m : MH} {Q : VK} (h : RH Γ.K H w m) (rx : RD Γ.K H w x d) (ry : RD Γ.K H w y e) (k : Kn Γ W σ w H (gEqB f d e m) Q) :
    ∃ p q, Dp Γ.K H x p ∧ Dp Γ.K H y q ∧ SeqAt.shaped p = true ∧ SeqAt.shaped q = true ∧ Q (.bl (f (PyData.eqv p q))) H := by
  unfold gEqB at k
  cases e1 : toPm m d with
  | none => rw [e1] at k; exact k.elim
  | some p =>
    cases e2 : toPm m e with
    | none => rw [e1, e2] at k; exact k.elim
    | some q =>
      rw [e1, e2] at k
      obtain ⟨hs, k⟩ := kn_if k
      rw [Bool.and_eq_true] at hs
      exact ⟨p, q, dpm_of h rx e1, dpm_of h ry e2, hs.1, hs.2, k.here h (.raw _)⟩
theorem d_eq : OpD Γ (rEqD Γ.K) gEq := fun W σ x y d e H w m Q h rx ry k => eqB_of h rx ry k
theorem d_ne : OpD Γ (rNeD Γ.K) gNe := fun W σ x y d e H w m Q h rx ry k => eqB_of h rx ry k
/-! ### is None -/
def isNonD : D → Bool
  | .raw .non => true
  | _ => false
def gIsN (f : Bool → Bool) (d e : D) (m : MH) : R D := match e with
  | .raw .non => .ok (.raw (.bl (f (isNonD d)))) m
  | _ => .no
theorem isN_of {K : PySem.W.Frag} {H : Hp} {w : Wd} {x : V} {d : D} (r : RD K H w x d) : decide (x = V.non) = isNonD d := by
  cases r with
  | raw => cases x <;> rfl
  | _ => rfl
theorem d_isN : OpD Γ (fun x y H Q => y = .non ∧ Q (.bl (decide (x = .non))) H) (gIsN id) := fun W σ x y d e H w m Q h rx ry k => by
  unfold gIsN at k
  split at k
  · cases ry
    exact ⟨rfl, by rw [isN_of rx]; exact k.here h (.raw _)⟩
  · exact k.elim
theorem d_notN : OpD Γ (fun x y H Q => y = .non ∧ Q (.bl (!decide (x = .non))) H) (gIsN not) := fun W σ x y d e H w m Q h rx ry k => by
  unfold gIsN at k
  split at k
  · cases ry
    exact ⟨rfl, by rw [isN_of rx]; exact k.here h (.raw _)⟩
  · exact k.elim
/-! ### len, tuple, list, int, min, max, all, any -/
def gLen (ds : List D) (m : MH) : R D := match ds with
  | [.raw (.str y)] => if y.length ≤ sizeLine then .ok (.raw (.int y.length)) m else .no
  | [d] => match seqOf m d with
    | some es => .ok (.raw (.int es.length)) m
    | none => .no
  | _ => .no
theorem d_len : CallD Γ (fun xs H Q => ∃ x n, xs = [x] ∧ LenV Γ.K x H n ∧ Q (.int n) H) gLen := fun W σ xs ds H w m Q h r k => by
  unfold gLen at k
  split at k
  · rename_i y
    cases r with
    | cons r t =>
      cases t
      cases r
      obtain ⟨hz, k⟩ := kn_if k
      exact ⟨_, _, rfl, ⟨hz, rfl⟩, k.here h (.raw _)⟩
  · rename_i d _
    cases r with
    | cons r t =>
      cases t
      cases q : seqOf m d with
      | none => rw [q] at k; exact k.elim
      | some es =>
        rw [q] at k
        obtain ⟨a, ys, rfl, hs, r2⟩ := seq_at h r q
        refine ⟨_, es.length, rfl, ?_, k.here h (.raw _)⟩
        rcases hs with hs | hs
        · exact .inl ⟨ys, hs, r2.length.symm⟩
        · exact .inr ⟨ys, hs, r2.length.symm⟩
  · exact k.elim
def gTuple (ds : List D) (m : MH) : R D := match ds with
  | [.tup es] => .ok (.tup es) m
  | [d] => match lstOf m d with
    | some es => .ok (.tup es) m
    | none => .no
  | _ => .no
theorem d_tuple : CallD Γ (fun xs H Q => ∃ p ys, xs = [.ref p] ∧ ((SqL Γ.K H p ys ∧ ∀ l, H l = none → Q (.ref l) (upd H l (.tup ys))) ∨ (SqT Γ.K H p ys ∧ Q (.ref p) H))) gTuple := fun W σ xs ds H w m Q h r k => by
  unfold gTuple at k
  split at k
  · rename_i es
    cases r with
    | cons r t =>
      cases t
      cases r with
      | @tup a ys _ f r => exact ⟨a, ys, rfl, .inr ⟨f.sq, k.here h (.tup f r)⟩⟩
  · rename_i d _
    cases r with
    | cons r t =>
      cases t
      cases q : lstOf m d with
      | none => rw [q] at k; exact k.elim
      | some es =>
        rw [q] at k
        obtain ⟨a, ys, rfl, h1, r2⟩ := lst_at h r q
        exact ⟨a, ys, rfl, .inl ⟨SqL.of h1, k.newTup h r2⟩⟩
  · exact k.elim
def gList (ds : List D) (m : MH) : R D := match ds with
  | [d] => match seqOf m d with
    | some es => .ok (.lst es) m
    | none => .no
  | _ => .no
def gListNew (ds : List D) (m : MH) : R D := match ds with
  | [d] => match seqOf m d with
    | some es => .ok (.obj m.length) (m ++ [.lst es])
    | none => .no
  | _ => .no
theorem d_list : CallD Γ (fun xs H Q => ∃ p ys, xs = [.ref p] ∧ (SqL Γ.K H p ys ∨ SqT Γ.K H p ys) ∧ ∀ l, H l = none → Q (.ref l) (upd H l (.lst ys))) gList := fun W σ xs ds H w m Q h r k => by
  unfold gList at k
  split at k
  · rename_i d
    cases r with
    | cons r t =>
      cases t
      cases q : seqOf m d with
      | none => rw [q] at k; exact k.elim
      | some es =>
        rw [q] at k
        obtain ⟨a, ys, rfl, h1, r2⟩ := seq_at h r q
        exact ⟨a, ys, rfl, h1, k.newLst h r2⟩
  · exact k.elim
theorem d_listNew : CallD Γ (fun xs H Q => ∃ p ys, xs = [.ref p] ∧ (SqL Γ.K H p ys ∨ SqT Γ.K H p ys) ∧ ∀ l, H l = none → Q (.ref l) (upd H l (.lst ys))) gListNew := fun W σ xs ds H w m Q h r k => by
  unfold gListNew at k
  split at k
  · rename_i d
    cases r with
    | cons r t =>
      cases t
      cases q : seqOf m d with
      | none => rw [q] at k; exact k.elim
      | some es =>
        rw [q] at k
        obtain ⟨a, ys, rfl, h1, r2⟩ := seq_at h r q
        exact ⟨a, ys, rfl, h1, k.newObj h r2⟩
  · exact k.elim
def gInt (ds : List D) (m : MH) : R D := match ds with
  | [.raw (.int i)] => .ok (.raw (.int i)) m
  | [.raw (.bl b)] => .ok (.raw (.int (if b then 1 else 0))) m
  | _ => .no
theorem d_int : CallD Γ (fun xs H Q => (∃ i, xs = [.int i] ∧ Q (.int i) H) ∨ ∃ k, xs = [.bl k] ∧ Q (.int (if k then 1 else 0)) H) gInt := fun W σ xs ds H w m Q h r k => by
  unfold gInt at k
  split at k
  · rename_i i
    cases r with
    | cons r t =>
      cases t
      cases r
      exact .inl ⟨i, rfl, k.here h (.raw _)⟩
  · rename_i b
    cases r with
    | cons r t =>
      cases t
      cases r
      exact .inr ⟨b, rfl, k.here h (.raw _)⟩
  · exact k.elim
def gMin2 (ds : List D) (m : MH) : R D := match ds with
  | [.raw (.int i), .raw (.int j)] => .ok (.raw (.int (if j < i then j else i))) m
  | _ => .no
def gMax2 (ds : List D) (m : MH) : R D := match ds with
  | [.raw (.int i), .raw (.int j)] => .ok (.raw (.int (if j > i then j else i))) m
  | _ => .no
theorem d_min2 : CallD Γ (fun xs H Q => ∃ i j, xs = [.int i, .int j] ∧ Q (.int (if j < i then j else i)) H) gMin2 := fun W σ xs ds H w m Q h r k => by
  unfold gMin2 at k
  split at k
  · rename_i i j
    cases r with
    | cons r t =>
      cases t with
      | cons r2 t =>
        cases t
        cases r
        cases r2
        exact ⟨i, j, rfl, k.here h (.raw _)⟩
  · exact k.elim
theorem d_max2 : CallD Γ (fun xs H Q => ∃ i j, xs = [.int i, .int j] ∧ Q (.int (if j > i then j else i)) H) gMax2 := fun W σ xs ds H w m Q h r k => by
  unfold gMax2 at k
  split at k
  · rename_i i j
    cases r with
    | cons r t =>
      cases t with
      | cons r2 t =>
        cases t
        cases r
        cases r2
        exact ⟨i, j, rfl, k.here h (.raw _)⟩
  · exact k.elim
/-- bools -/
def bools : List D → Option (List Bool)
  | [] => some []
  | .raw (.bl b) :: ds => (bools ds).map (b :: ·)
  | _ => none
theorem bools_at {K : PySem.W.Frag} {H : Hp} {w : Wd} : ∀ {xs : List V} {ds : List D} {bs : List Bool}, RDs K H w xs ds → bools ds = some bs → xs = bs.map V.bl
  | _, _, _, .nil, e => by cases e; rfl
  | _, _, bs, @RDs.cons _ _ _ v d vs ds r t, e => by
    cases r with
    | raw =>
      cases v with
      | bl b =>
        have e' : (bools ds).map (b :: ·) = some bs := e
        cases q : bools ds with
        | none => rw [q] at e'; cases e'
        | some cs => rw [q] at e'; cases e'; rw [bools_at t q]; rfl
      | _ => cases e
    | _ => cases e
def gQuant (f : List Bool → Bool) (ds : List D) (m : MH) : R D := match ds with
  | [d] => match lstOf m d with
    | some es => match bools es with
      | some bs => .ok (.raw (.bl (f bs))) m
      | none => .no
    | none => .no
  | _ => .no
theorem quant_of {f : List Bool → Bool} {W : WX} {σ : St} {xs : List V} {ds : List D} {H : Hp} {w : Wd} {m : MH} {Q : VK} (h : RH Γ.K H w m) (r : RDs Γ.K H w xs ds) (k : Kn Γ W σ w H (gQuant f ds m) Q) :
    ∃ a bs, xs = [V.ref a] ∧ SqL Γ.K H a (bs.map V.bl) ∧ Q (.bl (f bs)) H := by
  unfold gQuant at k
  split at k
  · rename_i d
    cases r with
    | cons r t =>
      cases t
      cases q : lstOf m d with
      | none => rw [q] at k; exact k.elim
      | some es =>
        simp only [q] at k
        obtain ⟨a, ys, rfl, h1, r2⟩ := lst_at h r q
        cases q2 : bools es with
        | none => rw [q2] at k; exact k.elim
        | some bs =>
          rw [q2] at k
          have e := bools_at r2 q2
          subst e
          exact ⟨a, bs, rfl, SqL.of h1, k.here h (.raw _)⟩
  · exact k.elim
abbrev gAll := gQuant fun bs => bs.all id
abbrev gAny := gQuant fun bs => bs.any id
theorem d_all : CallD Γ (rAll Γ.K) gAll := fun W σ xs ds H w m Q h r k => quant_of h r k
theorem d_any : CallD Γ (rAny Γ.K) gAny := fun W σ xs ds H w m Q h r k => quant_of h r k
end
end Sm

set_option Elab.async false
set_option linter.all false
set_option maxRecDepth 100000
/-! Sm, methods of lists, in, isinstance, * of lists. -/
namespace Sm
open PySem PySem.Spec L2
section
variable {Γ : Gm} {W : WX} {σ : St} {H : Hp} {w : Wd} {m : MH} {Q : VK}
/-- an object that is a list is written -/
theorem Kn.wrote {n : Nat} {a : Addr} {xs : List V} {ds : List D} {d : D} {v : V} (k : Kn Γ W σ w H (.ok d (m.set n (.lst ds))) Q) (h : RH Γ.K H w m) (hn : w.ι[n]? = some a) (r : RDs Γ.K H w xs ds) (rd : RD Γ.K H w v d) : Q v (upd H a (.lst xs)) := by
  have e : Ext w H w (upd H a (.lst xs)) := h.ext_write (List.mem_of_getElem? hn)
  exact k v _ w e (h.write hn ⟨xs, upd_same, r.mono e⟩) (rd.mono e)
theorem obj_at {K : PySem.W.Frag} {x : V} {n : Nat} (r : RD K H w x (.obj n)) : ∃ a, x = .ref a ∧ w.ι[n]? = some a := by
  cases r with
  | obj hn => exact ⟨_, rfl, hn⟩
end
/-! ### methods of built-in types -/
def eM (ty : MH → D → Bool) (g : D → List D → MH → R D) (O : Fr → MH → R D) (As : Fr → MH → R (List D)) : Fr → MH → R D :=
  fun δ m => (O δ m).bnd fun o m1 => if ty m1 o = true then (As δ m1).bnd fun ds m2 => g o ds m2 else .no
def eM0 (ty : MH → D → Bool) (g : D → List D → MH → R D) (O : Fr → MH → R D) : Fr → MH → R D :=
  fun δ m => (O δ m).bnd fun o m1 => if ty m1 o = true then g o [] m1 else .no
def isLst (m : MH) (d : D) : Bool := (lstOf m d).isSome
def isStr (_ : MH) (d : D) : Bool := match d with
  | .raw (.str _) => true
  | _ => false
/-- what a type's test says -/
def TyD (Γ : Gm) (T : String) (ty : MH → D → Bool) : Prop := ∀ (x : V) (d : D) (H : Hp) (w : Wd) (m : MH), RH Γ.K H w m → RD Γ.K H w x d → ty m d = true → tyV Γ.K T x H
def MtD (Γ : Gm) (r : V → List V → Hp → VK → Prop) (g : D → List D → MH → R D) : Prop :=
  ∀ (W : WX) (σ : St) (x : V) (d : D) (xs : List V) (ds : List D) (H : Hp) (w : Wd) (m : MH) (Q : VK), RH Γ.K H w m → RD Γ.K H w x d → RDs Γ.K H w xs ds → Kn Γ W σ w H (g d ds m) Q → r x xs H Q
section
variable {X : Cx} {Γ : Gm} {ct : Nat → Addr} {W : WX}
theorem ty_lst : TyD Γ "list" isLst := fun x d H w m h r e => by
  obtain ⟨ds, e⟩ := Option.isSome_iff_exists.mp e
  obtain ⟨a, xs, rfl, h1, _⟩ := lst_at h r e
  exact .inl ⟨rfl, xs, SqL.of h1⟩
theorem ty_str : TyD Γ "str" isStr := fun x d H w m h r e => by
  unfold isStr at e
  split at e
  · cases r; rfl
  · cases e
variable {o e : Expr} {es : List Expr} {O : Fr → MH → R D} {As : Fr → MH → R (List D)} {name : Str} {apos cpos : Pos} {T id : String} {r : V → List V → Hp → VK → Prop} {g : D → List D → MH → R D} {ty : MH → D → Bool}
theorem se_bm (pa : PlainAttrs T) (slot : Slot T name id) (hty : typeOf (.builtin id) = pure (.type "method_descriptor")) (hm : MtR X id r) (ht : TyD ⟨X.K, ct⟩ T ty) (hd : MtD ⟨X.K, ct⟩ r g) (ho : SE X ct W o O) (ha : SA X ct W (e :: es) As)
    (hbase : attributeBase o name X.env (eval o X.env) = eval o X.env := by rfl)
    (hfew : ((backTo cpos (starEach (e :: es) X.env)).all (fun x => !x.1) && (backToKw cpos (keywordEach [] X.env)).all (fun x => x.1.isSome)
      && decide ((e :: es).length + ([] : List Keyword).length + (if ([] : List Keyword).isEmpty then 0 else 1) < 30)) = true := by rfl)
    (hline : (apos.endLine == cpos.line) = true := by rfl) (hs : starEach (e :: es) X.env = (false, eval e X.env) :: starEach es X.env := by rfl) (hplain : (backTo cpos (starEach es X.env)).any (·.1) = false := by rfl) :
    SE X ct W (.Call (.Attribute o name apos) (e :: es) [] cpos) (eM ty g O As) := by
  refine pe_imp (pe_bm pa slot hty hm ho ha hbase hfew hline hs hplain) ?_
  rintro σ H Q ⟨w, m, δ, h, f, k⟩
  refine e_then go_e ⟨h, f⟩ k fun x d m1 H1 w1 _ c1 r1 k1 => ?_
  obtain ⟨hx, k1⟩ := kn_if k1
  refine ⟨ht x d H1 w1 m1 c1.h r1 hx, ?_⟩
  exact a_then go_e c1 k1 fun xs ds m2 H2 w2 x2 c2 r2 k2 => hd W σ x d xs ds H2 w2 m2 Q c2.h (r1.mono x2) r2 k2
theorem se_bm0 (pa : PlainAttrs T) (slot : Slot T name id) (hty : typeOf (.builtin id) = pure (.type "method_descriptor")) (hm : MtR X id r) (ht : TyD ⟨X.K, ct⟩ T ty) (hd : MtD ⟨X.K, ct⟩ r g) (ho : SE X ct W o O)
    (hbase : attributeBase o name X.env (eval o X.env) = eval o X.env := by rfl) (hline : (apos.endLine == cpos.line) = true := by rfl) :
    SE X ct W (.Call (.Attribute o name apos) [] [] cpos) (eM0 ty g O) := by
  refine pe_imp (pe_bm0 pa slot hty hm ho hbase hline) ?_
  rintro σ H Q ⟨w, m, δ, h, f, k⟩
  refine e_then go_e ⟨h, f⟩ k fun x d m1 H1 w1 _ c1 r1 k1 => ?_
  obtain ⟨hx, k1⟩ := kn_if k1
  exact ⟨ht x d H1 w1 m1 c1.h r1 hx, hd W σ x d [] [] H1 w1 m1 Q c1.h r1 .nil k1⟩

def gAppend (o : D) (ds : List D) (m : MH) : R D := match o, ds with
  | .obj n, [d] => match m[n]? with
    | some (.lst es) => if es.length < sizeLine then .ok (.raw .non) (m.set n (.lst (es ++ [d]))) else .no
    | _ => .no
  | _, _ => .no
theorem at_obj {K : PySem.W.Frag} {H : Hp} {w : Wd} {m : MH} {n : Nat} {a : Addr} {es : List D} (h : RH K H w m) (hn : w.ι[n]? = some a) (q : m[n]? = some (.lst es)) : ∃ xs, H a = some (.lst xs) ∧ RDs K H w xs es := h.ob n a _ hn q
theorem d_append : MtD Γ rAppend gAppend := fun W σ x d xs ds H w m Q h r rs k => by
  unfold gAppend at k
  split at k
  · rename_i n d
    obtain ⟨a, rfl, hn⟩ := obj_at r
    split at k
    · rename_i es q
      obtain ⟨hz, k⟩ := kn_if k
      obtain ⟨ys, h1, r1⟩ := at_obj h hn q
      cases rs with
      | @cons y _ _ _ ry t =>
        cases t
        exact ⟨a, ys, y, rfl, rfl, h1, by rw [r1.length]; exact hz, k.wrote h hn (r1.append (.cons ry .nil)) (.raw _)⟩
    · exact k.elim
  · exact k.elim
def gExtend (o : D) (ds : List D) (m : MH) : R D := match o, ds with
  | .obj n, [d] => match m[n]?, lstOf m d with
    | some (.lst es), some fs => if es.length + fs.length ≤ sizeLine then .ok (.raw .non) (m.set n (.lst (es ++ fs))) else .no
    | _, _ => .no
  | _, _ => .no
theorem d_extend : MtD Γ rExtend gExtend := fun W σ x d xs ds H w m Q h r rs k => by
  unfold gExtend at k
  split at k
  · rename_i n d
    obtain ⟨a, rfl, hn⟩ := obj_at r
    split at k
    · rename_i es fs q q2
      obtain ⟨hz, k⟩ := kn_if k
      obtain ⟨ys, h1, r1⟩ := at_obj h hn q
      cases rs with
      | @cons y _ _ _ ry t =>
        cases t
        obtain ⟨b, zs, rfl, h2, r2⟩ := lst_at h ry q2
        exact ⟨a, b, ys, zs, rfl, rfl, h1, h2, by rw [r1.length, r2.length]; exact hz, k.wrote h hn (r1.append r2) (.raw _)⟩
    · exact k.elim
  · exact k.elim
def gPop (o : D) (ds : List D) (m : MH) : R D := match o, ds with
  | .obj n, [] => match m[n]? with
    | some (.lst es) => match es[es.length - 1]? with
      | some d => .ok d (m.set n (.lst es.dropLast))
      | none => .no
    | _ => .no
  | _, _ => .no
theorem RDs.dropLast {K : PySem.W.Frag} {H : Hp} {w : Wd} {xs : List V} {ds : List D} (r : RDs K H w xs ds) : RDs K H w xs.dropLast ds.dropLast := by
  rw [List.dropLast_eq_take, List.dropLast_eq_take, r.length]
  exact r.take _
theorem d_pop : MtD Γ rPop gPop := fun W σ x d xs ds H w m Q h r rs k => by
  unfold gPop at k
  split at k
  · rename_i n
    obtain ⟨a, rfl, hn⟩ := obj_at r
    split at k
    · rename_i es q
      obtain ⟨ys, h1, r1⟩ := at_obj h hn q
      cases rs
      cases e : es[es.length - 1]? with
      | none => rw [e] at k; exact k.elim
      | some d =>
        rw [e] at k
        obtain ⟨y, e1, ry⟩ := r1.get e
        exact ⟨a, ys, y, rfl, rfl, h1, by rw [r1.length]; exact e1, k.wrote h hn r1.dropLast ry⟩
    · exact k.elim
  · exact k.elim
def gReverse (o : D) (ds : List D) (m : MH) : R D := match o, ds with
  | .obj n, [] => match m[n]? with
    | some (.lst es) => .ok (.raw .non) (m.set n (.lst es.reverse))
    | _ => .no
  | _, _ => .no
theorem d_reverse : MtD Γ rReverse gReverse := fun W σ x d xs ds H w m Q h r rs k => by
  unfold gReverse at k
  split at k
  · rename_i n
    obtain ⟨a, rfl, hn⟩ := obj_at r
    split at k
    · rename_i es q
      obtain ⟨ys, h1, r1⟩ := at_obj h hn q
      cases rs
      exact ⟨a, ys, rfl, rfl, h1, k.wrote h hn r1.reverse (.raw _)⟩
    · exact k.elim
  · exact k.elim

/-! ### flat items: in, not in, index -/
def flats : List D → Option (List V)
  | [] => some []
  | .raw v :: ds => (flats ds).map (v :: ·)
  | _ => none
theorem flats_at {K : PySem.W.Frag} {H : Hp} {w : Wd} : ∀ {xs : List V} {ds : List D} {vs : List V}, RDs K H w xs ds → flats ds = some vs → xs = vs
  | _, _, _, .nil, e => by cases e; rfl
  | _, _, bs, @RDs.cons _ _ _ v d vs ds r t, e => by
    cases r with
    | raw =>
      have e' : (flats ds).map (v :: ·) = some bs := e
      cases q : flats ds with
      | none => rw [q] at e'; cases e'
      | some cs => rw [q] at e'; cases e'; rw [flats_at t q]
    | _ => cases e
def gIn (neg : Bool) (d e : D) (m : MH) : R D := match d, seqOf m e with
  | .raw v, some es => match flats es with
    | some vs => if (flatV v && vs.all flatV) = true then .ok (.raw (.bl (if neg then !inV v vs else inV v vs))) m else .no
    | none => .no
  | _, _ => .no
theorem d_in {neg : Bool} : OpD Γ (rIn Γ.K neg) (gIn neg) := fun W σ x y d e H w m Q h rx ry k => by
  unfold gIn at k
  split at k
  · rename_i v es q
    cases rx
    obtain ⟨a, ys, rfl, hs, r⟩ := seq_at h ry q
    cases q2 : flats es with
    | none => rw [q2] at k; exact k.elim
    | some vs =>
      rw [q2] at k
      have e2 := flats_at r q2
      subst e2
      obtain ⟨hf, k⟩ := kn_if k
      rw [Bool.and_eq_true] at hf
      exact ⟨a, ys, rfl, hs, hf.1, hf.2, k.here h (.raw _)⟩
  · exact k.elim
/-! ### isinstance of a built-in type -/
def tyN (m : MH) : D → Option String
  | .raw .non => some "NoneType"
  | .raw (.bl _) => some "bool"
  | .raw (.int _) => some "int"
  | .raw (.str _) => some "str"
  | .tup _ => some "tuple"
  | d => match lstOf m d with
    | some _ => some "list"
    | none => none
theorem tyN_of {K : PySem.W.Frag} {H : Hp} {w : Wd} {m : MH} {x : V} {d : D} {t : String} (h : RH K H w m) (r : RD K H w x d) (e : tyN m d = some t) : TyX K H x (.type t) := by
  cases r with
  | raw =>
    cases x with
    | non => cases e; exact .base .non
    | bl b => cases e; exact .base (.bl b)
    | int i => cases e; exact .base (.int i)
    | str i => cases e; exact .base (.str i)
    | _ => cases e
  | @tup a xs ds f r =>
    cases e
    rcases f with f | ⟨o, its, n, h1, h2, _⟩
    · exact .base (.tup f.1)
    · exact .kTuple h1 h2
  | @lst a xs ds f r => cases e; exact .base (.lst f.1)
  | scr f r => cases e
  | @obj a n hn =>
    have e' : (match lstOf m (.obj n) with | some _ => some "list" | none => none) = some t := e
    cases q : lstOf m (.obj n) with
    | none => rw [q] at e'; cases e'
    | some ds =>
      rw [q] at e'
      cases e'
      obtain ⟨b, xs, e1, e2, e3⟩ := lst_at h (.obj hn) q
      cases e1
      exact .base (.lst e2)
def gIsi (ds : List D) (m : MH) : R D := match ds with
  | [d, .raw (.ty T)] => match tyN m d with
    | some t => match kitB t T with
      | some b => .ok (.raw (.bl b)) m
      | none => .no
    | none => .no
  | _ => .no
theorem d_isi : CallD Γ (rIsi Γ.K) gIsi := fun W σ xs ds H w m Q h r k => by
  unfold gIsi at k
  split at k
  · rename_i d T
    cases r with
    | @cons x _ _ _ r t =>
      cases t with
      | cons r2 t =>
        cases t
        cases r2
        cases q : tyN m d with
        | none => rw [q] at k; exact k.elim
        | some tn =>
          simp only [q] at k
          cases q2 : kitB tn T with
          | none => rw [q2] at k; exact k.elim
          | some b =>
            rw [q2] at k
            exact ⟨x, _, _, _, b, rfl, .ty T, tyN_of h r q, kit_ty q2, k.here h (.raw _)⟩
  · exact k.elim
/-! ### * -/
def gMul (d e : D) (m : MH) : R D := match d, e with
  | .raw (.int i), .raw (.int j) => if cMul i j = true then .ok (.raw (.int (i * j))) m else .no
  | .tup ds, .raw (.int k) => if (!ds.isEmpty && decide (2 ≤ k) && decide (k ≤ 1000) && decide (ds.length ≤ 1000)) = true then .ok (.tup (List.replicate k.toNat ds).flatten) m else .no
  | d, .raw (.int k) => match lstOf m d with
    | some ds => if (decide (-(2 ^ 63) ≤ k) && decide (k < 2 ^ 63) && decide (ds.length * k.toNat ≤ sizeLine)) = true then .ok (.lst (List.replicate k.toNat ds).flatten) m else .no
    | none => .no
  | _, _ => .no
theorem rep_rds {K : PySem.W.Frag} {H : Hp} {w : Wd} {xs : List V} {ds : List D} (r : RDs K H w xs ds) : ∀ k : Nat, RDs K H w (List.replicate k xs).flatten (List.replicate k ds).flatten
  | 0 => .nil
  | k + 1 => by
    rw [List.replicate_succ, List.replicate_succ, List.flatten_cons, List.flatten_cons]
    exact r.append (rep_rds r k)
def rMulU (K : PySem.W.Frag) : R2 := fun x y H Q => (rI CMul (fun i j => V.int (i * j))) x y H Q ∨ (rRepT K x y H Q ∨ rRep x y H Q)
theorem op_mulU : OpR X (binaryOp .Mult) (rMulU X.K) := Sm.OpR.or op_mul (Sm.OpR.or op_repT op_rep)
theorem d_mulU : OpD Γ (rMulU Γ.K) gMul := fun W σ x y d e H w m Q h rx ry k => by
  unfold gMul at k
  split at k
  · rename_i i j
    cases rx; cases ry
    obtain ⟨hc, k⟩ := kn_if k
    exact .inl ⟨i, j, rfl, rfl, cMul_ok i j hc, k.here h (.raw _)⟩
  · rename_i ds j
    obtain ⟨hc, k⟩ := kn_if k
    cases ry
    simp only [Bool.and_eq_true, decide_eq_true_eq] at hc
    cases rx with
    | @tup a xs _ f r =>
      refine .inr (.inl ⟨a, j, xs, rfl, rfl, f.sq, fun e => ?_, hc.1.1.2, hc.1.2, by rw [r.length]; exact hc.2, k.newTup h (rep_rds r _)⟩)
      subst e
      cases r
      exact absurd hc.1.1.1 (by decide)
  · rename_i j _ _
    cases ry
    cases q : lstOf m d with
    | none => rw [q] at k; exact k.elim
    | some ds =>
      rw [q] at k
      obtain ⟨hc, k⟩ := kn_if k
      simp only [Bool.and_eq_true, decide_eq_true_eq] at hc
      obtain ⟨a, xs, rfl, h1, r⟩ := lst_at h rx q
      exact .inr (.inr ⟨a, j, xs, rfl, rfl, h1, hc.1.1, hc.1.2, by rw [r.length]; exact hc.2, k.newLst h (rep_rds r _)⟩)
  · exact k.elim
end
end Sm

set_option Elab.async false
set_option linter.all false
set_option maxRecDepth 100000
/-! Sm, statements. -/
namespace Sm
open PySem PySem.Spec L2
/-! ### combinators -/
abbrev SmS := Fr → MH → R Fl
def sSeq (F G : SmS) : SmS := fun δ m => (F δ m).bnd fun f m1 => match f with
  | .nx δ1 => G δ1 m1
  | f => .ok f m1
def sNext : SmS := fun δ m => .ok (.nx δ) m
def sBrk : SmS := fun δ m => .ok (.bk δ) m
def sCt : SmS := fun δ m => .ok (.ct δ) m
def sRet (A : Fr → MH → R D) : SmS := fun δ m => (A δ m).bnd fun d m1 => .ok (.rt d) m1
def sRetN : SmS := fun _ m => .ok (.rt (.raw .non)) m
def sDo (A : Fr → MH → R D) : SmS := fun δ m => (A δ m).bnd fun _ m1 => .ok (.nx δ) m1
def sIf (T : Fr → MH → R Bool) (F G : SmS) : SmS := fun δ m => (T δ m).bnd fun b m1 => if b = true then F δ m1 else G δ m1
/-- targets -/
abbrev SmG := D → Fr → MH → R Fr
def gN (i : Nat) : SmG := fun d δ m => .ok (δ.set i (some d)) m
def gAnd {α : Type} (r : R Fr) (f : Fr → MH → R α) : R α := match r with
  | .ok δ m => f δ m
  | _ => .no
def sAsg (A : Fr → MH → R D) (G : SmG) : SmS := fun δ m => (A δ m).bnd fun d m1 => gAnd (G d δ m1) fun δ1 m2 => .ok (.nx δ1) m2
/-- several targets -/
abbrev SmGs := List D → Fr → MH → R Fr
def gsNil : SmGs := fun ds δ m => match ds with
  | [] => .ok δ m
  | _ => .no
def gsCons (G : SmG) (Gs : SmGs) : SmGs := fun ds δ m => match ds with
  | d :: ds => gAnd (G d δ m) fun δ1 m1 => Gs ds δ1 m1
  | [] => .no
def gT (n : Nat) (Gs : SmGs) : SmG := fun d δ m => match tupOf d with
  | some ds => if ds.length = n then Gs ds δ m else .no
  | none => .no
section
variable (Γ : Gm)
/-- what is wanted of a target's end; ts: the slots that it may change -/
def KnG (ts : List Nat) (σ : St) (w : Wd) (H : Hp) (r : R Fr) (Q : St → Hp → Prop) : Prop :=
  match r with
  | .ok δ m => ∀ σ' H' w', Ext w H w' H' → RH Γ.K H' w' m → RF Γ.K H' w' σ' δ → σ'.length = σ.length → (∀ j, j ∉ ts → σ'[j]? = σ[j]?) → Q σ' H'
  | _ => False
def tOfG (ts : List Nat) (G : SmG) : TG := fun v σ H Q => ∃ w m δ d, RH Γ.K H w m ∧ RF Γ.K H w σ δ ∧ RD Γ.K H w v d ∧ KnG Γ ts σ w H (G d δ m) Q
def tOfGs (ts : List Nat) (G : SmGs) : TGs := fun vs σ H Q => ∃ w m δ ds, RH Γ.K H w m ∧ RF Γ.K H w σ δ ∧ RDs Γ.K H w vs ds ∧ KnG Γ ts σ w H (G ds δ m) Q
end
abbrev SG (X : Cx) (ct : Nat → Addr) (e : Expr) (ts : List Nat) (F : SmG) : Prop := PG X e (tOfG ⟨X.K, ct⟩ ts F)
abbrev SGs (X : Cx) (ct : Nat → Addr) (e : List Expr) (ts : List Nat) (F : SmGs) : Prop := PGs X e (tOfGs ⟨X.K, ct⟩ ts F)

section
variable {Γ : Gm} {W : WX} {σ : St} {H H1 : Hp} {w w1 : Wd} {ts : List Nat}
theorem KnG.later {r : R Fr} {Q : St → Hp → Prop} (e : Ext w H w1 H1) (k : KnG Γ ts σ w H r Q) : KnG Γ ts σ w1 H1 r Q := by
  cases r with
  | no => exact k
  | ok d m => exact fun v H' w' e' rh rd hl ha => k v H' w' (e.trans e') rh rd hl ha
  | ex c fs m => exact k
theorem KnG.and {r : R Fr} {f : Fr → MH → R Fr} {Q : St → Hp → Prop} (k : KnG Γ ts σ w H (gAnd r f) Q) : ∃ δ m, r = .ok δ m ∧ KnG Γ ts σ w H (f δ m) Q := by
  cases r with
  | no => exact k.elim
  | ok d m => exact ⟨d, m, rfl, k⟩
  | ex c fs m => exact k.elim
theorem Go.and {β : Type} {P : Wd → Hp → R β → Prop} (g : Go Γ W σ P) {r : R Fr} {f : Fr → MH → R β} (k : P w H (gAnd r f)) : ∃ δ m, r = .ok δ m ∧ P w H (f δ m) := by
  cases r with
  | no => exact (g.no _ _ k).elim
  | ok d m => exact ⟨d, m, rfl, k⟩
  | ex c fs m => exact (g.no _ _ k).elim
theorem RF.set {K : PySem.W.Frag} {δ : Fr} {v : V} {d : D} (r : RF K H w σ δ) (i : Nat) (rd : RD K H w v d) : RF K H w (σ.set i (some v)) (δ.set i (some d)) := by
  refine ⟨by rw [List.length_set, List.length_set]; exact r.1, fun j e h => ?_⟩
  by_cases q : i = j
  · subst q
    have hl : i < δ.length := by
      have := (List.getElem?_eq_some_iff.mp h).1
      rwa [List.length_set] at this
    rw [List.getElem?_set_self hl] at h
    cases h
    exact ⟨v, List.getElem?_set_self (by rw [r.1]; exact hl), rd⟩
  · rw [List.getElem?_set_ne q] at h
    obtain ⟨u, h1, h2⟩ := r.2 j e h
    exact ⟨u, by rw [List.getElem?_set_ne q]; exact h1, h2⟩
/-- a target, then what follows -/
theorem g_then {G : SmG} {v : V} {d : D} {δ δ1 : Fr} {m m1 : MH} {Q : St → Hp → Prop} (h : RH Γ.K H w m) (f : RF Γ.K H w σ δ) (r : RD Γ.K H w v d) (e : G d δ m = .ok δ1 m1)
    (q : ∀ σ' H' w', Ext w H w' H' → RH Γ.K H' w' m1 → RF Γ.K H' w' σ' δ1 → σ'.length = σ.length → (∀ j, j ∉ ts → σ'[j]? = σ[j]?) → Q σ' H') : tOfG Γ ts G v σ H Q := ⟨w, m, δ, d, h, f, r, by rw [e]; exact q⟩
end
section
variable {X : Cx} {Γ : Gm} {ct : Nat → Addr} {W : WX} {a b e : Expr} {A B : Fr → MH → R D} {T : Fr → MH → R Bool} {pos : Pos} {st : Stmt} {rest sts : List Stmt} {F F' : SmS} {G : SmG} {Gs : SmGs}
theorem sss_nil : SSs X ct W [] sNext := pss_imp pss_nil fun D σ H ⟨w, m, δ, h, f, k⟩ => k σ H w Ext.refl h f rfl
theorem seq_of {D : Ends} {σ : St} {H : Hp} (h : tOfS Γ W (sSeq F F') D σ H) : tSeq (tOfS Γ W F) (tOfS Γ W F') D σ H := by
  obtain ⟨w, m, δ, h, f, k⟩ := h
  refine ⟨w, m, δ, h, f, ?_⟩
  have k2 : KnS Γ W σ.length w H ((F δ m).bnd fun f m1 => match f with | .nx δ1 => F' δ1 m1 | f => .ok f m1) D := k
  cases q : F δ m with
  | no => rw [q] at k2; exact k2
  | ex c fs m1 => rw [q] at k2; exact k2
  | ok fl m1 =>
    rw [q] at k2
    cases fl with
    | nx δ1 => exact fun σ' H' w' x rh rf hl => ⟨w', m1, δ1, rh, rf, by rw [hl]; exact KnS.later x k2⟩
    | rt d => exact k2
    | bk δ1 => exact k2
    | ct δ1 => exact k2
theorem sss_cons (h1 : SS X ct W st F) (h2 : SSs X ct W rest F') : SSs X ct W (st :: rest) (sSeq F F') := pss_imp (pss_cons h1 h2) fun D σ H => seq_of
theorem sss_one (h1 : SS X ct W st F) : SSs X ct W [st] F := pss_one h1
theorem ss_pass : SS X ct W (.Pass pos) sNext := ps_imp ps_pass fun D σ H ⟨w, m, δ, h, f, k⟩ => k σ H w Ext.refl h f rfl
theorem ss_brk : SS X ct W (.Break pos) sBrk := ps_imp ps_break fun D σ H ⟨w, m, δ, h, f, k⟩ => k σ H w Ext.refl h f rfl
theorem ss_ct : SS X ct W (.Continue pos) sCt := ps_imp ps_continue fun D σ H ⟨w, m, δ, h, f, k⟩ => k σ H w Ext.refl h f rfl
theorem ss_doc {x : Str} {j pos pos'} : SS X ct W (.Expr (.Constant (.str x) j pos) pos') sNext := ps_imp ps_doc fun D σ H ⟨w, m, δ, h, f, k⟩ => k σ H w Ext.refl h f rfl
theorem ss_ret (he : SE X ct W e A) : SS X ct W (.Return (some e) pos) (sRet A) := by
  refine ps_imp (ps_ret he) ?_
  rintro D σ H ⟨w, m, δ, h, f, k⟩
  exact e_then go_s ⟨h, f⟩ k fun v d m1 H1 w1 _ c1 r1 k1 => k1 v H1 w1 Ext.refl c1.h r1
theorem ss_retN : SS X ct W (.Return none pos) sRetN := ps_imp ps_retN fun D σ H ⟨w, m, δ, h, f, k⟩ => k .non H w Ext.refl h (.raw _)
theorem ss_do (he : SE X ct W e A) (hs : swapsWith e none pos.line X.env = pure false := by rfl) : SS X ct W (.Expr e pos) (sDo A) := by
  refine ps_imp (ps_expr he hs) ?_
  rintro D σ H ⟨w, m, δ, h, f, k⟩
  exact e_then go_s ⟨h, f⟩ k fun v d m1 H1 w1 _ c1 r1 k1 => k1 σ H1 w1 Ext.refl c1.h c1.f rfl
theorem ss_if {c : Expr} {s1 s2 : List Stmt} (hc : ST X ct W c T) (ha : SSs X ct W s1 F) (hb : SSs X ct W s2 F') : SS X ct W (.If c s1 s2 pos) (sIf T F F') := by
  refine ps_imp (ps_if hc ha hb) ?_
  rintro D σ H ⟨w, m, δ, h, f, k⟩
  refine t_then go_s ⟨h, f⟩ k fun b m1 H1 w1 _ c1 k1 => ?_
  cases b with
  | true => exact iteT ⟨w1, m1, δ, c1.h, c1.f, k1⟩
  | false => exact iteF ⟨w1, m1, δ, c1.h, c1.f, k1⟩
/-! ### targets -/
variable {ts us : List Nat}
theorem sg_name {i : Nat} {x : Str} (hN : X.N.Nodup) (hi : X.N[i]? = some x) (hx : Loc X.env.scope x) (hf : X.fn x = true ∨ X.env.scope.names.lookup x = some .local := by first | exact .inl rfl | exact .inr rfl | assumption) : SG X ct (.Name x pos) [i] (gN i) := by
  refine ⟨fun pins s σ H v u Q I r h => (pg_name (i := i) hN hi hx hf).run pins s σ H v u Q I r ?_⟩
  obtain ⟨w, m, δ, d, h, f, rd, k⟩ := h
  exact k _ H w Ext.refl h (f.set i rd) (by rw [List.length_set]) fun j hj => List.getElem?_set_ne (fun q => hj (by rw [q]; exact List.mem_cons_self))
theorem sgs_nil : SGs X ct [] [] gsNil := by
  refine ⟨fun pins s σ H vs u Q I r h => pgs_nil.run pins s σ H vs u Q I r ?_⟩
  obtain ⟨w, m, δ, ds, h, f, rd, k⟩ := h
  cases rd with
  | nil => exact ⟨rfl, k σ H w Ext.refl h f rfl fun _ _ => rfl⟩
  | cons _ _ => exact k.elim
theorem sgs_cons {es : List Expr} (h1 : SG X ct e ts G) (h2 : SGs X ct es us Gs) (hs : (assignEach (e :: es) X.env).map (·.2) = assign e X.env :: (assignEach es X.env).map (·.2) := by rfl) : SGs X ct (e :: es) (ts ++ us) (gsCons G Gs) := by
  refine ⟨fun pins s σ H vs u Q I r h => (pgs_cons h1 h2 hs).run pins s σ H vs u Q I r ?_⟩
  obtain ⟨w, m, δ, ds, h, f, rd, k⟩ := h
  cases rd with
  | nil => exact k.elim
  | @cons v d vs ds rv rt =>
    have k2 : KnG ⟨X.K, ct⟩ (ts ++ us) σ w H (gAnd (G d δ m) fun δ1 m1 => Gs ds δ1 m1) Q := k
    obtain ⟨δ1, m1, q, k3⟩ := k2.and
    refine ⟨v, vs, rfl, g_then (Γ := ⟨X.K, ct⟩) h f rv q fun σ' H' w' x rh rf hl ha => ⟨w', m1, δ1, ds, rh, rf, rt.mono x, ?_⟩⟩
    cases q2 : Gs ds δ1 m1 with
    | no => rw [q2] at k3; exact k3
    | ex c fs m2 => rw [q2] at k3; exact k3
    | ok δ2 m2 =>
      rw [q2] at k3
      exact fun σ2 H2 w2 x2 rh2 rf2 hl2 ha2 => k3 σ2 H2 w2 (x.trans x2) rh2 rf2 (hl2.trans hl) fun j hj => (ha2 j fun z => hj (List.mem_append_right _ z)).trans (ha j fun z => hj (List.mem_append_left _ z))
theorem sg_tup {es : List Expr} {j n : Nat} (hc : X.calm = true) (h : SGs X ct es ts Gs) (hn : (assignEach es X.env).length = n := by rfl) (hst : (assignEach es X.env).findIdx? (·.1) = none := by rfl) : SG X ct (.Tuple es j pos) ts (gT n Gs) := by
  refine ⟨fun pins s σ H v u Q I r h0 => (pg_tup hc h hn hst).run pins s σ H v u Q I r ?_⟩
  obtain ⟨w, m, δ, d, h, f, rd, k⟩ := h0
  unfold gT at k
  cases q : tupOf d with
  | none => rw [q] at k; exact k.elim
  | some ds =>
    simp only [q] at k
    obtain ⟨a, xs, rfl, hs, r2⟩ := tup_at rd q
    by_cases hl : ds.length = n
    · rw [if_pos hl] at k
      exact ⟨a, xs, rfl, hs, r2.length.trans hl, w, m, δ, ds, h, f, r2, k⟩
    · rw [if_neg hl] at k; exact k.elim
theorem ss_asg (he : SE X ct W e A) (hg : SG X ct a ts G) (hs : swapsWithSole [a] e pos.line X.env = pure false := by rfl) (hw : swappedStores [a] e X.env = pure none := by rfl)
    (h1 : (assignEach [a] X.env).map (·.2) = [assign a X.env] := by rfl) : SS X ct W (.Assign [a] e pos) (sAsg A G) := by
  refine ps_imp (ps_asg he hg hs hw h1) ?_
  rintro D σ H ⟨w, m, δ, h, f, k⟩
  refine e_then go_s ⟨h, f⟩ k fun v d m1 H1 w1 _ c1 r1 k1 => ?_
  obtain ⟨δ1, m2, q, k2⟩ := Go.and go_s k1
  exact g_then (Γ := ⟨X.K, ct⟩) c1.h c1.f r1 q fun σ' H' w' x rh rf hl _ => k2 σ' H' w' x rh rf hl
theorem ss_set {i : Nat} {x : Str} {pos' : Pos} (hN : X.N.Nodup) (hi : X.N[i]? = some x) (hx : Loc X.env.scope x) (he : SE X ct W e A) (hs : swapsWith e (some (.Name x pos')) pos.line X.env = pure false := by rfl)
    (hf : X.fn x = true ∨ X.env.scope.names.lookup x = some .local := by first | exact .inl rfl | exact .inr rfl | assumption) : SS X ct W (.Assign [.Name x pos'] e pos) (sAsg A (gN i)) := by
  refine ps_imp (ps_set (i := i) hN hi hx he hs hf) ?_
  rintro D σ H ⟨w, m, δ, h, f, k⟩
  exact e_then go_s ⟨h, f⟩ k fun v d m1 H1 w1 _ c1 r1 k1 => k1 _ H1 w1 Ext.refl c1.h (c1.f.set i r1) (by rw [List.length_set])
end
end Sm

set_option Elab.async false
set_option linter.all false
set_option maxRecDepth 100000
/-! Sm, what is walked; loops. -/
namespace Sm
open PySem PySem.Spec L2
/-- what is frozen stays, what is ours keeps its number -/
structure Kp (w : Wd) (H : Hp) (w' : Wd) (H' : Hp) : Prop where
  fz : ∀ a o, Fz H w a o → Fz H' w' a o
  ix : ∀ (n : Nat) (a : Addr), w.ι[n]? = some a → w'.ι[n]? = some a
section
variable {K : PySem.W.Frag} {H H' H'' : Hp} {w w' w'' : Wd}
theorem Ext.kp (e : Ext w H w' H') : Kp w H w' H' := ⟨fun _ _ h => h.mono e, fun _ _ h => e.ix h⟩
theorem Kp.refl : Kp w H w H := ⟨fun _ _ h => h, fun _ _ h => h⟩
theorem Kp.trans (e : Kp w H w' H') (f : Kp w' H' w'' H'') : Kp w H w'' H'' := ⟨fun a o h => f.fz a o (e.fz a o h), fun n a h => f.ix n a (e.ix n a h)⟩
mutual
theorem RD.kp (e : Kp w H w' H') {v : V} {d : D} (h : RD K H w v d) : RD K H' w' v d := by
  cases h with
  | raw v => exact .raw v
  | tup f r => exact .tup (f.imp (e.fz _ _) id) (RDs.kp e r)
  | lst f r => exact .lst (e.fz _ _ f) (RDs.kp e r)
  | scr f r => exact .scr (f.imp (fun ⟨o, f⟩ => ⟨o, e.fz _ _ f⟩) id) (RDs.kp e r)
  | obj f => exact .obj (e.ix _ _ f)
theorem RDs.kp (e : Kp w H w' H') {vs : List V} {ds : List D} (h : RDs K H w vs ds) : RDs K H' w' vs ds := by
  cases h with
  | nil => exact .nil
  | cons r t => exact .cons (RD.kp e r) (RDs.kp e t)
end
theorem RF.kp {σ : St} {δ : Fr} (e : Kp w H w' H') (r : RF K H w σ δ) : RF K H' w' σ δ := ⟨r.1, fun i d h => let ⟨v, h1, h2⟩ := r.2 i d h; ⟨v, h1, h2.kp e⟩⟩
end
/-- a walk over data that stand -/
structure Wk (K : PySem.W.Frag) (J : It) (ds : List D) (w : Wd) (H : Hp) : Prop where
  go : ∀ H2 w2 i, Kp w H w2 H2 → i < ds.length → J.go i H2
  stop : ∀ H2 w2, Kp w H w2 H2 → J.stop ds.length H2
  yld : ∀ H2 w2 m2 i x H3, Kp w H w2 H2 → RH K H2 w2 m2 → i < ds.length → J.yld i H2 x H3 → Ext w2 H2 w2 H3 ∧ RH K H3 w2 m2 ∧ ∃ d, ds[i]? = some d ∧ RD K H3 w2 x d
/-- .. over an object's list as it is -/
structure WkO (K : PySem.W.Frag) (J : It) (n : Nat) (w : Wd) (H : Hp) : Prop where
  go : ∀ H2 w2 m2 i ds, Kp w H w2 H2 → RH K H2 w2 m2 → m2[n]? = some (.lst ds) → i < ds.length → J.go i H2
  stop : ∀ H2 w2 m2 i ds, Kp w H w2 H2 → RH K H2 w2 m2 → m2[n]? = some (.lst ds) → ds.length ≤ i → J.stop i H2
  yld : ∀ H2 w2 m2 i ds x H3, Kp w H w2 H2 → RH K H2 w2 m2 → m2[n]? = some (.lst ds) → J.yld i H2 x H3 → H3 = H2 ∧ ∃ d, ds[i]? = some d ∧ RD K H2 w2 x d
section
variable {K : PySem.W.Frag} {H : Hp} {w : Wd} {a b : Addr} {xs ys : List V} {ds es : List D}
theorem wk_sq (z : ∀ {H2 w2}, Kp w H w2 H2 → SqL K H2 a xs) (r : RDs K H w xs ds) : Wk K (Itl K a) ds w H := by
  refine ⟨fun H2 w2 i k hi => ?_, fun H2 w2 k => ⟨xs, z k, by rw [r.length]; exact Nat.le_refl _⟩, fun H2 w2 m2 i x H3 k rh hi y => ?_⟩
  · have hi' : i < xs.length := by rw [r.length]; exact hi
    exact ⟨xs, xs[i], z k, List.getElem?_eq_getElem hi'⟩
  · obtain ⟨rfl, y⟩ := y
    obtain ⟨d, e, rd⟩ := r.getV (y xs (z k))
    exact ⟨Ext.refl, rh, d, e, rd.kp k⟩
theorem wk_lst {o : HO} (f : Fz H w a o) (hs : ∀ H2, H2 a = some o → SqL K H2 a xs) (r : RDs K H w xs ds) : Wk K (Itl K a) ds w H := wk_sq (fun k => hs _ (k.fz _ _ f).1) r
theorem wk_tup (f : FzT K H w a xs) (r : RDs K H w xs ds) : Wk K (Itt K a) ds w H := by
  have z : ∀ {H2 w2}, Kp w H w2 H2 → SqT K H2 a xs := fun k => by
    rcases f with f | f
    · exact .inl (.inl (k.fz _ _ f).1)
    · exact .inr f
  refine ⟨fun H2 w2 i k hi => ?_, fun H2 w2 k => ⟨xs, z k, by rw [r.length]; exact Nat.le_refl _⟩, fun H2 w2 m2 i x H3 k rh hi y => ?_⟩
  · have hi' : i < xs.length := by rw [r.length]; exact hi
    exact ⟨xs, xs[i], z k, List.getElem?_eq_getElem hi'⟩
  · obtain ⟨rfl, y⟩ := y
    obtain ⟨d, e, rd⟩ := r.getV (y xs (z k))
    exact ⟨Ext.refl, rh, d, e, rd.kp k⟩
def rangeD (lo : Int) (n : Nat) : List D := (List.range n).map fun i => .raw (.int (lo + (i : Nat)))
def rangeDC (lo c : Int) (n : Nat) : List D := (List.range n).map fun i => .raw (.int (lo + (i : Nat) * c))
theorem rangeD_len {lo : Int} {n : Nat} : (rangeD lo n).length = n := by simp [rangeD]
theorem wk_range {lo : Int} {n : Nat} : Wk K (Itr lo n) (rangeD lo n) w H := by
  refine ⟨fun H2 w2 i k hi => by rw [rangeD_len] at hi; exact hi, fun H2 w2 k => by rw [rangeD_len]; exact Nat.le_refl _, fun H2 w2 m2 i x H3 k rh hi y => ?_⟩
  obtain ⟨rfl, rfl⟩ := y
  rw [rangeD_len] at hi
  exact ⟨Ext.refl, rh, _, by simp [rangeD, hi], .raw _⟩
theorem wk_rangeC {lo c : Int} {n : Nat} : Wk K (Itc lo c n) (rangeDC lo c n) w H := by
  have hl : (rangeDC lo c n).length = n := by simp [rangeDC]
  refine ⟨fun H2 w2 i k hi => by rw [hl] at hi; exact hi, fun H2 w2 k => by rw [hl]; exact Nat.le_refl _, fun H2 w2 m2 i x H3 k rh hi y => ?_⟩
  obtain ⟨rfl, rfl⟩ := y
  rw [hl] at hi
  exact ⟨Ext.refl, rh, _, by simp [rangeDC, hi], .raw _⟩
theorem wk_obj {n : Nat} (hn : w.ι[n]? = some a) : WkO K (Itl K a) n w H := by
  have z : ∀ {H2 w2 m2 ds}, Kp w H w2 H2 → RH K H2 w2 m2 → m2[n]? = some (.lst ds) → ∃ xs, H2 a = some (.lst xs) ∧ RDs K H2 w2 xs ds := fun k rh q => rh.ob n a _ (k.ix _ _ hn) q
  refine ⟨fun H2 w2 m2 i ds k rh q hi => ?_, fun H2 w2 m2 i ds k rh q hi => ?_, fun H2 w2 m2 i ds x H3 k rh q y => ?_⟩
  · obtain ⟨xs, h1, r⟩ := z k rh q
    have hi' : i < xs.length := by rw [r.length]; exact hi
    exact ⟨xs, xs[i], SqL.of h1, List.getElem?_eq_getElem hi'⟩
  · obtain ⟨xs, h1, r⟩ := z k rh q
    exact ⟨xs, SqL.of h1, by rw [r.length]; exact hi⟩
  · obtain ⟨xs, h1, r⟩ := z k rh q
    obtain ⟨rfl, y⟩ := y
    obtain ⟨d, e, rd⟩ := r.getV (y xs (SqL.of h1))
    exact ⟨rfl, d, e, rd⟩
def zipD : List D → List D → List D
  | d :: ds, e :: es => .tup [d, e] :: zipD ds es
  | _, _ => []
theorem zipD_len : ∀ {ds es : List D}, (zipD ds es).length = min ds.length es.length
  | [], _ => by simp [zipD]
  | _ :: _, [] => by simp [zipD]
  | _ :: ds, _ :: es => by simp [zipD, zipD_len (ds := ds) (es := es)]
theorem zipD_get : ∀ {ds es : List D} {i : Nat} {d e : D}, ds[i]? = some d → es[i]? = some e → (zipD ds es)[i]? = some (.tup [d, e])
  | [], _, _, _, _, h, _ => by simp at h
  | _ :: _, [], _, _, _, _, h => by simp at h
  | _ :: _, _ :: _, 0, _, _, h, h' => by simp at h h'; subst h h'; rfl
  | _ :: ds, _ :: es, i + 1, _, _, h, h' => by simpa [zipD] using zipD_get (by simpa using h) (by simpa using h')
theorem yld_pair {J : It} {H2 H3 : Hp} {w2 : Wd} {m2 : MH} {x : V} {T : Addr} {x1 x2 : V} {d e : D} (rh : RH K H2 w2 m2) (hT : H2 T = none) (r1 : RD K H2 w2 x1 d) (r2 : RD K H2 w2 x2 e) :
    Ext w2 H2 w2 (upd H2 T (.tup [x1, x2])) ∧ RH K (upd H2 T (.tup [x1, x2])) w2 m2 ∧ RD K (upd H2 T (.tup [x1, x2])) w2 (.ref T) (.tup [d, e]) := by
  have ex : Ext w2 H2 w2 (upd H2 T (.tup [x1, x2])) := rh.ext_new hT
  exact ⟨ex, rh.new hT, .tup (.inl ⟨upd_same, rh.nin hT, rh.nhid hT⟩) (.cons (r1.mono ex) (.cons (r2.mono ex) .nil))⟩
theorem wk_zipL {o p : HO} (f : Fz H w a o) (hs : ∀ H2, H2 a = some o → SqL K H2 a xs) (r : RDs K H w xs ds) (g : Fz H w b p) (gs : ∀ H2, H2 b = some p → SqL K H2 b ys) (s : RDs K H w ys es) : Wk K (Itz K a b) (zipD ds es) w H := by
  have z1 : ∀ {H2 w2}, Kp w H w2 H2 → SqL K H2 a xs := fun k => hs _ (k.fz _ _ f).1
  have z2 : ∀ {H2 w2}, Kp w H w2 H2 → SqL K H2 b ys := fun k => gs _ (k.fz _ _ g).1
  have l1 := r.length
  have l2 := s.length
  refine ⟨fun H2 w2 i k hi => ?_, fun H2 w2 k => ⟨xs, ys, z1 k, z2 k, by rw [zipD_len]; omega⟩, fun H2 w2 m2 i x H3 k rh hi y => ?_⟩
  · rw [zipD_len] at hi
    exact ⟨xs, ys, xs[i]'(by omega), ys[i]'(by omega), z1 k, z2 k, by simp, by simp⟩
  · obtain ⟨T, x1, x2, rfl, hT, rfl, y1, y2⟩ := y
    obtain ⟨d, e1, r1⟩ := r.getV (y1 xs (z1 k))
    obtain ⟨e, e2, r2⟩ := s.getV (y2 ys (z2 k))
    obtain ⟨q1, q2, q3⟩ := yld_pair (J := Itz K a b) (H3 := H2) (x := x1) rh hT (r1.kp k) (r2.kp k)
    exact ⟨q1, q2, _, zipD_get e1 e2, q3⟩
theorem wk_zipT (f : FzT K H w a xs) (r : RDs K H w xs ds) (g : FzT K H w b ys) (s : RDs K H w ys es) : Wk K (RZ.ItzT K a b) (zipD ds es) w H := by
  have z : ∀ {H2 w2 c zs}, FzT K H w c zs → Kp w H w2 H2 → SqT K H2 c zs := fun f k => by
    rcases f with f | f
    · exact .inl (.inl (k.fz _ _ f).1)
    · exact .inr f
  have l1 := r.length
  have l2 := s.length
  refine ⟨fun H2 w2 i k hi => ?_, fun H2 w2 k => ⟨xs, ys, z f k, z g k, by rw [zipD_len]; omega⟩, fun H2 w2 m2 i x H3 k rh hi y => ?_⟩
  · rw [zipD_len] at hi
    exact ⟨xs, ys, xs[i]'(by omega), ys[i]'(by omega), z f k, z g k, by simp, by simp⟩
  · obtain ⟨T, x1, x2, rfl, hT, rfl, y1, y2⟩ := y
    obtain ⟨d, e1, r1⟩ := r.getV (y1 xs (z f k))
    obtain ⟨e, e2, r2⟩ := s.getV (y2 ys (z g k))
    obtain ⟨q1, q2, q3⟩ := yld_pair (J := Itz K a b) (H3 := H2) (x := x1) rh hT (r1.kp k) (r2.kp k)
    exact ⟨q1, q2, _, zipD_get e1 e2, q3⟩
end
/-! ### sources -/
section
variable (Γ : Gm) (W : WX)
def KnI (σ : St) (w : Wd) (H : Hp) (r : R (List D)) (R : It → Hp → Prop) : Prop :=
  match r with
  | .no => False
  | .ok ds m => ∀ J H' w', Ext w H w' H' → RH Γ.K H' w' m → Wk Γ.K J ds w' H' → R J H'
  | .ex c fs m => KnX Γ W σ w H c fs m
def tOfI (F : Fr → MH → R (List D)) : TI := fun σ H R => ∃ w m δ, RH Γ.K H w m ∧ RF Γ.K H w σ δ ∧ KnI Γ W σ w H (F δ m) R
def KnIO (σ : St) (w : Wd) (H : Hp) (r : R Nat) (R : It → Hp → Prop) : Prop :=
  match r with
  | .no => False
  | .ok n m => ∀ J H' w', Ext w H w' H' → RH Γ.K H' w' m → WkO Γ.K J n w' H' → R J H'
  | .ex c fs m => KnX Γ W σ w H c fs m
def tOfIO (F : Fr → MH → R Nat) : TI := fun σ H R => ∃ w m δ, RH Γ.K H w m ∧ RF Γ.K H w σ δ ∧ KnIO Γ W σ w H (F δ m) R
end
abbrev SI (X : Cx) (ct : Nat → Addr) (W : WX) (tg e : Expr) (F : Fr → MH → R (List D)) : Prop := PI X tg e (tOfI ⟨X.K, ct⟩ W F)
abbrev SIO (X : Cx) (ct : Nat → Addr) (W : WX) (tg e : Expr) (F : Fr → MH → R Nat) : Prop := PI X tg e (tOfIO ⟨X.K, ct⟩ W F)
def itD : D → MH → R (List D)
  | .tup ds, m => .ok ds m
  | .lst ds, m => .ok ds m
  | .scr ds, m => .ok ds m
  | _, _ => .no
def iD (A : Fr → MH → R D) : Fr → MH → R (List D) := fun δ m => (A δ m).bnd itD
def itO : D → MH → R Nat
  | .obj n, m => match m[n]? with
    | some (.lst _) => .ok n m
    | _ => .no
  | _, _ => .no
def iO (A : Fr → MH → R D) : Fr → MH → R Nat := fun δ m => (A δ m).bnd itO
def okI (i : Int) : Bool := decide (-(2 ^ 62) ≤ i) && decide (i < 2 ^ 62)
theorem okI_of {i : Int} (h : okI i = true) : -(2 ^ 62) ≤ i ∧ i < 2 ^ 62 := by
  unfold okI at h
  simpa using h
def gR1 : List D → MH → R (List D)
  | [.raw (.int j)], m => if okI j = true then .ok (rangeD 0 j.toNat) m else .no
  | _, _ => .no
def gR2 : List D → MH → R (List D)
  | [.raw (.int i), .raw (.int j)], m => if (okI i && okI j) = true then .ok (rangeD i (j - i).toNat) m else .no
  | _, _ => .no
/-- by -1 -/
def gR3 : List D → MH → R (List D)
  | [.raw (.int i), .raw (.int j), .raw (.int c)], m => if (okI i && okI j && decide (c = -1)) = true then .ok (rangeDC i (-1) (i - j).toNat) m else .no
  | _, _ => .no
def gZip : List D → MH → R (List D)
  | [.tup ds, .tup es], m => .ok (zipD ds es) m
  | [.lst ds, .lst es], m => .ok (zipD ds es) m
  | _, _ => .no
def iA (g : List D → MH → R (List D)) (As : Fr → MH → R (List D)) : Fr → MH → R (List D) := fun δ m => (As δ m).bnd g
section
variable {X : Cx} {Γ : Gm} {ct : Nat → Addr} {W : WX} {σ : St} {R' : It → Hp → Prop} {tg a b c e e2 : Expr} {A : Fr → MH → R D} {As : Fr → MH → R (List D)} {p pos : Pos}
theorem PI.or {t u : TI} (h : PI X tg e t) (h' : PI X tg e u) : PI X tg e (fun σ H R => t σ H R ∨ u σ H R) := ⟨fun pins s σ H R I q => q.elim (h.run pins s σ H R I) (h'.run pins s σ H R I)⟩
theorem pi_imp {t u : TI} (h : PI X tg e t) (i : ∀ σ H R, u σ H R → t σ H R) : PI X tg e u := ⟨fun pins s σ H R I q => h.run pins s σ H R I (i _ _ _ q)⟩
theorem go_i : Go Γ W σ (fun w H r => KnI Γ W σ w H r R') := ⟨fun _ _ h => h, fun _ _ _ _ _ h => h, fun w H w1 H1 r e h => by
  cases r with
  | no => exact h
  | ok ds m => exact fun J H' w' e' => h J H' w' (e.trans e')
  | ex c fs m => exact KnX.later e h⟩
theorem go_io : Go Γ W σ (fun w H r => KnIO Γ W σ w H r R') := ⟨fun _ _ h => h, fun _ _ _ _ _ h => h, fun w H w1 H1 r e h => by
  cases r with
  | no => exact h
  | ok ds m => exact fun J H' w' e' => h J H' w' (e.trans e')
  | ex c fs m => exact KnX.later e h⟩
theorem kni_if {c : Prop} [Decidable c] {w : Wd} {H : Hp} {r : R (List D)} (k : KnI Γ W σ w H (if c then r else .no) R') : c ∧ KnI Γ W σ w H r R' := by
  by_cases h : c
  · rw [if_pos h] at k; exact ⟨h, k⟩
  · rw [if_neg h] at k; exact k.elim
/-- what e_then needs for a value whose kind is met only there: a postcondition for both kinds -/
theorem si_seq (ha : SE X ct W e A) : SI X ct W tg e (iD A) := by
  refine pi_imp (u := tOfI ⟨X.K, ct⟩ W (iD A)) (PI.or (pi_list (tg := tg) ha) (pi_tup (tg := tg) ha)) ?_
  rintro σ H R ⟨w, m, δ, h, f, k⟩
  have k2 : KnI ⟨X.K, ct⟩ W σ w H ((A δ m).bnd itD) R := k
  cases q : A δ m with
  | no => rw [q] at k2; exact k2.elim
  | ex c fs m1 =>
    rw [q] at k2
    exact .inl ⟨w, m, δ, h, f, by rw [q]; exact k2⟩
  | ok d m1 =>
    rw [q] at k2
    cases d with
    | raw v => exact k2.elim
    | obj n => exact k2.elim
    | tup ds =>
      refine .inr ⟨w, m, δ, h, f, ?_⟩
      rw [q]
      intro v H' w' ex rh rd
      cases rd with
      | @tup a xs _ f r => exact ⟨a, rfl, ⟨xs, f.sq⟩, k2 _ H' w' ex rh (wk_tup f r)⟩
    | lst ds =>
      refine .inl ⟨w, m, δ, h, f, ?_⟩
      rw [q]
      intro v H' w' ex rh rd
      cases rd with
      | @lst a xs _ f r => exact ⟨a, rfl, ⟨xs, SqL.of f.1⟩, k2 _ H' w' ex rh (wk_lst f (fun _ e => SqL.of e) r)⟩
    | scr ds =>
      refine .inl ⟨w, m, δ, h, f, ?_⟩
      rw [q]
      intro v H' w' ex rh rd
      cases rd with
      | @scr a xs _ f r => exact ⟨a, rfl, ⟨xs, f.sq⟩, k2 _ H' w' ex rh (wk_sq (fun k => f.imp (fun ⟨o, f⟩ => .inr ⟨o, (k.fz _ _ f).1⟩) id) r)⟩
theorem si_obj (ha : SE X ct W e A) : SIO X ct W tg e (iO A) := by
  refine pi_imp (u := tOfIO ⟨X.K, ct⟩ W (iO A)) (pi_list (tg := tg) ha) ?_
  rintro σ H R ⟨w, m, δ, h, f, k⟩
  refine e_then go_io ⟨h, f⟩ k fun x d m1 H1 w1 _ c1 r1 k1 => ?_
  cases r1 with
  | raw v => exact k1.elim
  | tup _ _ => exact k1.elim
  | lst _ _ => exact k1.elim
  | scr _ _ => exact k1.elim
  | @obj a n hn =>
    have k2 : KnIO ⟨X.K, ct⟩ W σ w1 H1 (match m1[n]? with | some (MO.lst _) => .ok n m1 | _ => .no) R := k1
    split at k2
    · rename_i ds q
      obtain ⟨xs, h1, _⟩ := c1.h.ob n a _ hn q
      exact ⟨a, rfl, ⟨xs, SqL.of h1⟩, k2 _ H1 w1 Ext.refl c1.h (wk_obj hn)⟩
    · exact k2.elim
theorem si_range1 (hg : Gl X "range") (hm : X.mg "range" = none) (ha : SA X ct W [a] As) (hs : starEach [a] X.env = [(false, eval a X.env)] := by rfl) : SI X ct W tg (.Call (.Name "range" p) [a] [] pos) (iA gR1 As) := by
  refine pi_imp (pi_range1 (tg := tg) hg hm ha hs) ?_
  rintro σ H R ⟨w, m, δ, h, f, k⟩
  refine a_then go_i ⟨h, f⟩ k fun xs ds m1 H1 w1 _ c1 r1 k1 => ?_
  unfold gR1 at k1
  split at k1
  · rename_i j
    obtain ⟨hj, k2⟩ := kni_if k1
    cases r1 with
    | cons r t =>
      cases t; cases r
      exact ⟨j, rfl, (okI_of hj).1, (okI_of hj).2, k2 _ H1 w1 Ext.refl c1.h wk_range⟩
  · exact k1.elim
theorem si_range2 (hg : Gl X "range") (hm : X.mg "range" = none) (ha : SA X ct W [a, b] As) (hs : starEach [a, b] X.env = [(false, eval a X.env), (false, eval b X.env)] := by rfl) (hs2 : starEach [b] X.env = [(false, eval b X.env)] := by rfl) :
    SI X ct W tg (.Call (.Name "range" p) [a, b] [] pos) (iA gR2 As) := by
  refine pi_imp (pi_range2 (tg := tg) hg hm ha hs hs2) ?_
  rintro σ H R ⟨w, m, δ, h, f, k⟩
  refine a_then go_i ⟨h, f⟩ k fun xs ds m1 H1 w1 _ c1 r1 k1 => ?_
  unfold gR2 at k1
  split at k1
  · rename_i i j
    obtain ⟨hj, k2⟩ := kni_if k1
    rw [Bool.and_eq_true] at hj
    cases r1 with
    | cons r t =>
      cases t with
      | cons r' t =>
      cases t; cases r; cases r'
      exact ⟨i, j, rfl, ⟨(okI_of hj.1).1, (okI_of hj.1).2, (okI_of hj.2).1, (okI_of hj.2).2⟩, k2 _ H1 w1 Ext.refl c1.h wk_range⟩
  · exact k1.elim
theorem si_range3 (hg : Gl X "range") (hm : X.mg "range" = none) (ha : SA X ct W [a, b, c] As) (hs : starEach [a, b, c] X.env = (false, eval a X.env) :: starEach [b, c] X.env := by rfl) (hpl : (backTo pos (starEach [b, c] X.env)).any (·.1) = false := by rfl) :
    SI X ct W tg (.Call (.Name "range" p) [a, b, c] [] pos) (iA gR3 As) := by
  refine pi_imp (pi_range3 (tg := tg) hg hm ha hs hpl) ?_
  rintro σ H R ⟨w, m, δ, h, f, k⟩
  refine a_then go_i ⟨h, f⟩ k fun xs ds m1 H1 w1 _ c1 r1 k1 => ?_
  unfold gR3 at k1
  split at k1
  · rename_i i j c
    obtain ⟨hj, k2⟩ := kni_if k1
    rw [Bool.and_eq_true, Bool.and_eq_true, decide_eq_true_eq] at hj
    obtain ⟨⟨h1, h2⟩, rfl⟩ := hj
    cases r1 with
    | cons r t =>
      cases t with
      | cons r' t =>
        cases t with
        | cons r'' t =>
        cases t; cases r; cases r'; cases r''
        exact ⟨i, j, -1, _, rfl, RgC.neg (okI_of h1).1 (okI_of h1).2 (okI_of h2).1 (okI_of h2).2, k2 _ H1 w1 Ext.refl c1.h wk_rangeC⟩
  · exact k1.elim
theorem si_zip {elts : List Expr} {kk : Nat} {tpos : Pos} (hg : Gl X "zip") (hm : X.mg "zip" = none) (ha : SA X ct W [e, e2] As) (hs : starEach [e, e2] X.env = (false, eval e X.env) :: starEach [e2] X.env := by rfl) (hpl : (backTo pos (starEach [e2] X.env)).any (·.1) = false := by rfl) :
    SI X ct W (.Tuple elts kk tpos) (.Call (.Name "zip" p) [e, e2] [] pos) (iA gZip As) := by
  refine pi_imp (RZ.pi_zipA hg hm ha hs hpl) ?_
  rintro σ H R ⟨w, m, δ, h, f, k⟩
  refine a_then go_i ⟨h, f⟩ k fun xs ds m1 H1 w1 _ c1 r1 k1 => ?_
  unfold gZip at k1
  split at k1
  · cases r1 with
    | cons r t =>
      cases t with
      | cons r' t =>
        cases t
        cases r with
        | tup f r =>
          cases r' with
          | tup g s => exact ⟨_, _, _, _, rfl, .inr ⟨f.sq, g.sq, k1 _ H1 w1 Ext.refl c1.h (wk_zipT f r g s)⟩⟩
  · cases r1 with
    | cons r t =>
      cases t with
      | cons r' t =>
        cases t
        cases r with
        | lst f r =>
          cases r' with
          | lst g s => exact ⟨_, _, _, _, rfl, .inl ⟨SqL.of f.1, SqL.of g.1, k1 _ H1 w1 Ext.refl c1.h (wk_zipL f (fun _ e => SqL.of e) r g (fun _ e => SqL.of e) s)⟩⟩
  · exact k1.elim
end
end Sm

set_option Elab.async false
set_option linter.all false
set_option maxRecDepth 100000
/-! Sm, loops. -/
namespace Sm
open PySem PySem.Spec L2
/-- behind a turn's body -/
def aft (k : SmS) : Fl → MH → R Fl
  | .nx δ, m => k δ m
  | .ct δ, m => k δ m
  | .bk δ, m => .ok (.nx δ) m
  | .rt d, m => .ok (.rt d) m
/-- a loop over items -/
def forL (G : SmG) (B : SmS) : List D → SmS
  | [] => fun δ m => .ok (.nx δ) m
  | d :: ds => fun δ m => gAnd (G d δ m) fun δ1 m1 => (B δ1 m1).bnd (aft (forL G B ds))
def sFor (I : Fr → MH → R (List D)) (G : SmG) (B : SmS) : SmS := fun δ m => (I δ m).bnd fun ds m1 => forL G B ds δ m1
/-- over an object's list as it is at each turn -/
def forO (G : SmG) (B : SmS) (n : Nat) : Nat → Nat → SmS
  | 0, _ => fun _ _ => .no
  | k + 1, i => fun δ m => match m[n]? with
    | some (.lst ds) => match ds[i]? with
      | some d => gAnd (G d δ m) fun δ1 m1 => (B δ1 m1).bnd (aft (forO G B n k (i + 1)))
      | none => .ok (.nx δ) m
    | _ => .no
def sForO (fuel : Nat) (I : Fr → MH → R Nat) (G : SmG) (B : SmS) : SmS := fun δ m => (I δ m).bnd fun n m1 => forO G B n fuel 0 δ m1
/-- a while, so many turns at most -/
def whl (T : Fr → MH → R Bool) (B : SmS) : Nat → SmS
  | 0 => fun _ _ => .no
  | n + 1 => fun δ m => (T δ m).bnd fun b m1 => if b = true then (B δ m1).bnd (aft (whl T B n)) else .ok (.nx δ) m1
section
variable {X : Cx} {Γ : Gm} {W : WX} {n : Nat} {D' : Ends} {w w1 : Wd} {H H1 : Hp}
/-- at a turn -/
def LI (Γ : Gm) (W : WX) (K : SmS) (D' : Ends) (n : Nat) (w1 : Wd) (H1 : Hp) : St → Hp → Prop :=
  fun σ' H' => ∃ w' m' δ', Ext w1 H1 w' H' ∧ RH Γ.K H' w' m' ∧ RF Γ.K H' w' σ' δ' ∧ σ'.length = n ∧ KnS Γ W n w' H' (K δ' m') D'
theorem body_of {r : R Fl} {K : SmS} (e : Ext w1 H1 w H) (k : KnS Γ W n w H (r.bnd (aft K)) D') : KnS Γ W n w H r { D' with nx := LI Γ W K D' n w1 H1, ct := LI Γ W K D' n w1 H1, bk := D'.nx } := by
  cases r with
  | no => exact k
  | ex c fs m => exact k
  | ok f m =>
    cases f with
    | nx δ => exact fun σ' H' w' x rh rf hl => ⟨w', m, δ, e.trans x, rh, rf, hl, KnS.later x k⟩
    | ct δ => exact fun σ' H' w' x rh rf hl => ⟨w', m, δ, e.trans x, rh, rf, hl, KnS.later x k⟩
    | bk δ => exact k
    | rt d => exact k
end
section
variable {X : Cx} {Γ : Gm} {ct : Nat → Addr} {W : WX} {tg iter c : Expr} {I : Fr → MH → R (List D)} {IO : Fr → MH → R Nat} {T : Fr → MH → R Bool} {pos : Pos} {body : List Stmt} {B : SmS} {G : SmG} {ts : List Nat}
theorem ss_for (hp : PassesOwn (model X.prog X.w) X.A X.env X.xe) (hc : X.calm = true) (hi : SI X ct W tg iter I) (hg : SG X ct tg ts G) (hb : SSs X ct W body B)
    (hs : ∀ x, foldedSetIterable iter X.env x = pure x := by intro _; rfl) : SS X ct W (.For tg iter body [] pos) (sFor I G B) := by
  refine ps_imp (ps_for hp hc hi hg hb hs) ?_
  rintro D' σ H ⟨w, m, δ, h, f, k⟩
  refine ⟨w, m, δ, h, f, ?_⟩
  have k1 : KnS ⟨X.K, ct⟩ W σ.length w H ((I δ m).bnd fun ds m1 => forL G B ds δ m1) D' := k
  cases q : I δ m with
  | no => rw [q] at k1; exact k1.elim
  | ex c fs m1 => rw [q] at k1; exact k1 σ rfl
  | ok ds m1 =>
    rw [q] at k1
    intro J H1 w1 x1 rh1 wk
    refine ⟨fun i mm σ' H' => mm = ds.length - i ∧ i ≤ ds.length ∧ LI ⟨X.K, ct⟩ W (forL G B (ds.drop i)) D' σ.length w1 H1 σ' H', ⟨ds.length, by simp, Nat.zero_le _, w1, m1, δ, Ext.refl, rh1, f.mono x1, rfl, KnS.later x1 k1⟩, ?_⟩
    rintro i mm σ' H' ⟨rfl, hi', w', m', δ', x', rh', rf', hl', k'⟩
    by_cases hlt : i < ds.length
    · have ed : ds.drop i = ds[i] :: ds.drop (i + 1) := List.drop_eq_getElem_cons hlt
      rw [ed] at k'
      refine .inr ⟨wk.go H' w' i x'.kp hlt, LI ⟨X.K, ct⟩ W (forL G B (ds.drop (i + 1))) D' σ.length w1 H1, fun σ2 H2 l2 => ⟨_, by omega, rfl, hlt, l2⟩, fun x H3 y => ?_⟩
      obtain ⟨x3, rh3, d, ed2, rd⟩ := wk.yld H' w' m' i x H3 x'.kp rh' hlt y
      have e3 : ds[i] = d := by
        rw [List.getElem?_eq_getElem hlt] at ed2
        exact Option.some.inj ed2
      rw [e3] at k'
      have k2 : KnS ⟨X.K, ct⟩ W σ.length w' H' (gAnd (G d δ' m') fun δ1 m1 => (B δ1 m1).bnd (aft (forL G B (ds.drop (i + 1))))) D' := k'
      have g : Go ⟨X.K, ct⟩ W σ' (fun w H r => KnS ⟨X.K, ct⟩ W σ.length w H r D') := ⟨fun _ _ h => h, fun _ _ _ _ _ h => h σ' hl', fun _ _ _ _ _ e h => h.later e⟩
      obtain ⟨δ1, m4, q4, k4⟩ := g.and k2
      exact g_then (Γ := ⟨X.K, ct⟩) rh3 (rf'.mono x3) rd q4 fun σ5 H5 w5 x5 rh5 rf5 hl5 _ => ⟨w5, m4, δ1, rh5, rf5, by rw [hl5, hl']; exact body_of ((x'.trans x3).trans x5) (KnS.later (x3.trans x5) k4)⟩
    · have e : i = ds.length := by omega
      subst e
      rw [List.drop_length] at k'
      exact .inl ⟨wk.stop H' w' x'.kp, k' σ' H' w' Ext.refl rh' rf' hl'⟩
theorem ss_forO (fuel : Nat) (hp : PassesOwn (model X.prog X.w) X.A X.env X.xe) (hc : X.calm = true) (hi : SIO X ct W tg iter IO) (hg : SG X ct tg ts G) (hb : SSs X ct W body B)
    (hs : ∀ x, foldedSetIterable iter X.env x = pure x := by intro _; rfl) : SS X ct W (.For tg iter body [] pos) (sForO fuel IO G B) := by
  refine ps_imp (ps_for hp hc hi hg hb hs) ?_
  rintro D' σ H ⟨w, m, δ, h, f, k⟩
  refine ⟨w, m, δ, h, f, ?_⟩
  have k1 : KnS ⟨X.K, ct⟩ W σ.length w H ((IO δ m).bnd fun n m1 => forO G B n fuel 0 δ m1) D' := k
  cases q : IO δ m with
  | no => rw [q] at k1; exact k1.elim
  | ex c fs m1 => rw [q] at k1; exact k1 σ rfl
  | ok n m1 =>
    rw [q] at k1
    intro J H1 w1 x1 rh1 wk
    refine ⟨fun i mm σ' H' => LI ⟨X.K, ct⟩ W (forO G B n mm i) D' σ.length w1 H1 σ' H', ⟨fuel, w1, m1, δ, Ext.refl, rh1, f.mono x1, rfl, KnS.later x1 k1⟩, ?_⟩
    rintro i mm σ' H' ⟨w', m', δ', x', rh', rf', hl', k'⟩
    cases mm with
    | zero => exact k'.elim
    | succ mm =>
      have k2 : KnS ⟨X.K, ct⟩ W σ.length w' H' (match m'[n]? with
        | some (.lst ds) => match ds[i]? with
          | some d => gAnd (G d δ' m') fun δ1 m1 => (B δ1 m1).bnd (aft (forO G B n mm (i + 1)))
          | none => .ok (.nx δ') m'
        | _ => .no) D' := k'
      split at k2
      · rename_i ds qd
        cases qi : ds[i]? with
        | none =>
          rw [qi] at k2
          exact .inl ⟨wk.stop H' w' m' i ds x'.kp rh' qd (List.getElem?_eq_none_iff.mp qi), k2 σ' H' w' Ext.refl rh' rf' hl'⟩
        | some d =>
          rw [qi] at k2
          have hlt := (List.getElem?_eq_some_iff.mp qi).1
          refine .inr ⟨wk.go H' w' m' i ds x'.kp rh' qd hlt, LI ⟨X.K, ct⟩ W (forO G B n mm (i + 1)) D' σ.length w1 H1, fun σ2 H2 l2 => ⟨mm, Nat.lt_succ_self _, l2⟩, fun x H3 y => ?_⟩
          obtain ⟨rfl, d', e2, rd⟩ := wk.yld H' w' m' i ds x H3 x'.kp rh' qd y
          rw [qi] at e2
          cases e2
          have g : Go ⟨X.K, ct⟩ W σ' (fun w H r => KnS ⟨X.K, ct⟩ W σ.length w H r D') := ⟨fun _ _ h => h, fun _ _ _ _ _ h => h σ' hl', fun _ _ _ _ _ e h => h.later e⟩
          obtain ⟨δ1, m4, q4, k4⟩ := g.and k2
          exact g_then (Γ := ⟨X.K, ct⟩) rh' rf' rd q4 fun σ5 H5 w5 x5 rh5 rf5 hl5 _ => ⟨w5, m4, δ1, rh5, rf5, by rw [hl5, hl']; exact body_of (x'.trans x5) (KnS.later x5 k4)⟩
      · exact k2.elim
theorem ss_while (fuel : Nat) (hp : PassesOwn (model X.prog X.w) X.A X.env X.xe) (hc : ST X ct W c T) (hb : SSs X ct W body B) : SS X ct W (.While c body [] pos) (whl T B fuel) := by
  refine ps_imp (ps_while hp hc hb) ?_
  rintro D' σ H ⟨w, m, δ, h, f, k⟩
  refine ⟨fun mm σ' H' => LI ⟨X.K, ct⟩ W (whl T B mm) D' σ.length w H σ' H', ⟨fuel, w, m, δ, Ext.refl, h, f, rfl, k⟩, ?_⟩
  rintro mm σ' H' ⟨w', m', δ', x', rh', rf', hl', k'⟩
  cases mm with
  | zero => exact k'.elim
  | succ mm =>
    have k2 : KnS ⟨X.K, ct⟩ W σ.length w' H' ((T δ' m').bnd fun b m1 => if b = true then (B δ' m1).bnd (aft (whl T B mm)) else .ok (.nx δ') m1) D' := k'
    have g : Go ⟨X.K, ct⟩ W σ' (fun w H r => KnS ⟨X.K, ct⟩ W σ.length w H r D') := ⟨fun _ _ h => h, fun _ _ _ _ _ h => h σ' hl', fun _ _ _ _ _ e h => h.later e⟩
    refine t_then g ⟨rh', rf'⟩ k2 fun b m1 H1 w1 x1 c1 k3 => ?_
    cases b with
    | true => exact iteT ⟨LI ⟨X.K, ct⟩ W (whl T B mm) D' σ.length w H, fun σ2 H2 l2 => ⟨mm, Nat.lt_succ_self _, l2⟩, w1, m1, δ', c1.h, c1.f, by rw [hl']; exact body_of (x'.trans x1) k3⟩
    | false => exact iteF (k3 σ' H1 w1 Ext.refl c1.h c1.f hl')
end
end Sm

set_option Elab.async false
set_option linter.all false
set_option maxRecDepth 100000
/-! Sm, comprehensions of lists. -/
namespace Sm
open PySem PySem.Spec L2
def oAnd {α β : Type} (r : R α) (f : α → MH → R β) : R β := match r with
  | .ok a m => f a m
  | _ => .no
theorem oAnd_ok {α β : Type} {r : R α} {f : α → MH → R β} {b : β} {m : MH} (h : oAnd r f = .ok b m) : ∃ a m1, r = .ok a m1 ∧ f a m1 = .ok b m := by
  cases r with
  | no => cases h
  | ok a m1 => exact ⟨a, m1, rfl, h⟩
  | ex c fs m1 => cases h
theorem gAnd_ok {β : Type} {r : R Fr} {f : Fr → MH → R β} {b : β} {m : MH} (h : gAnd r f = .ok b m) : ∃ a m1, r = .ok a m1 ∧ f a m1 = .ok b m := by
  cases r with
  | no => cases h
  | ok a m1 => exact ⟨a, m1, rfl, h⟩
  | ex c fs m1 => cases h
def wipeF (δ : Fr) : List Nat → Fr
  | [] => δ
  | v :: vs => (wipeF δ vs).set v none
def bTrue : Fr → MH → R Bool := fun _ m => .ok true m
/-- the items that a comprehension makes -/
def cmpL (G : SmG) (T : Fr → MH → R Bool) (E : Fr → MH → R D) (δ : Fr) : List D → MH → R (List D)
  | [], m => .ok [] m
  | d :: ds, m => gAnd (G d δ m) fun δ1 m1 => oAnd (T δ1 m1) fun b m2 =>
      if b = true then oAnd (E δ1 m2) fun e m3 => oAnd (cmpL G T E δ ds m3) fun es m4 => .ok (e :: es) m4 else cmpL G T E δ ds m2
def lcF (vs : List Nat) (I : Fr → MH → R (List D)) (G : SmG) (T : Fr → MH → R Bool) (E : Fr → MH → R D) : Fr → MH → R (List D) :=
  fun δ m => (I δ m).bnd fun ds m1 => if ds.length ≤ sizeLine then oAnd (cmpL G T E (wipeF δ vs) ds m1) fun es m2 => .ok es m2 else .no
def eLc (F : Fr → MH → R (List D)) : Fr → MH → R D := fun δ m => (F δ m).bnd fun es m1 => .ok (.lst es) m1
def eLcO (F : Fr → MH → R (List D)) : Fr → MH → R D := fun δ m => (F δ m).bnd fun es m1 => .ok (.obj m1.length) (m1 ++ [.lst es])
abbrev WF : WX := fun _ _ _ _ => False
section
variable {K : PySem.W.Frag} {H H' H1 : Hp} {w w' w1 : Wd} {m : MH} {a : Addr} {o : HO}
theorem RF.wipe {σ : St} {δ : Fr} (r : RF K H w σ δ) : ∀ vs, RF K H w (wipe σ vs) (wipeF δ vs)
  | [] => r
  | v :: vs => by
    have q := r.wipe vs
    refine ⟨by unfold L2.wipe wipeF; rw [List.length_set, List.length_set]; exact q.1, fun j e h => ?_⟩
    unfold wipeF at h
    unfold L2.wipe
    by_cases z : v = j
    · subst z
      have hl : v < (wipeF δ vs).length := by
        have := (List.getElem?_eq_some_iff.mp h).1
        rwa [List.length_set] at this
      rw [List.getElem?_set_self hl] at h
      cases h
    · rw [List.getElem?_set_ne z] at h ⊢
      exact q.2 j e h
theorem wipe_agree {σ σ' : St} {ts : List Nat} : ∀ {vs : List Nat}, σ'.length = σ.length → (∀ j, j ∉ ts → σ'[j]? = σ[j]?) → (∀ t ∈ ts, t ∈ vs) → L2.wipe σ' vs = L2.wipe σ vs := by
  intro vs hl ha hs
  have get : ∀ (vs : List Nat) (σ : St) (j : Nat), (L2.wipe σ vs)[j]? = if j ∈ vs ∧ j < σ.length then some none else σ[j]? := by
    intro vs
    induction vs with
    | nil => intro σ j; simp [L2.wipe]
    | cons v vs ih =>
      intro σ j
      unfold L2.wipe
      by_cases z : v = j
      · subst z
        by_cases hv : v < σ.length
        · rw [List.getElem?_set_self (by rw [L2.wipe_length]; exact hv), if_pos ⟨List.mem_cons_self, hv⟩]
        · rw [if_neg (fun q => hv q.2), List.getElem?_eq_none (by rw [List.length_set, L2.wipe_length]; omega), List.getElem?_eq_none (by omega)]
      · rw [List.getElem?_set_ne z, ih]
        have : (j ∈ v :: vs) ↔ j ∈ vs := by simp [Ne.symm z]
        simp only [this]
  refine List.ext_getElem? fun j => ?_
  rw [get, get, hl]
  by_cases z : j ∈ vs
  · by_cases hj : j < σ.length
    · rw [if_pos ⟨z, hj⟩, if_pos ⟨z, hj⟩]
    · rw [if_neg (fun q => hj q.2), if_neg (fun q => hj q.2), List.getElem?_eq_none (by omega), List.getElem?_eq_none (by omega)]
  · rw [if_neg (fun q => z q.1), if_neg (fun q => z q.1)]
    exact ha j fun t => z (hs j t)
theorem wipe_wipe {σ : St} (vs : List Nat) : L2.wipe (L2.wipe σ vs) vs = L2.wipe σ vs := by
  refine wipe_agree (ts := vs) (L2.wipe_length _ _) (fun j hj => ?_) (fun _ h => h)
  induction vs with
  | nil => rfl
  | cons v vs ih =>
    unfold L2.wipe
    rw [List.getElem?_set_ne (fun q => hj (by rw [q]; exact List.mem_cons_self))]
    exact ih fun z => hj (List.mem_cons_of_mem _ z)
/-- a thing aside is written -/
theorem kp_side (ha : a ∈ w.hid) : Kp w H w (upd H a o) := ⟨fun b u h => ⟨by rw [upd_ne (fun q => h.2.2 (by rw [q]; exact ha))]; exact h.1, h.2.1, h.2.2⟩, fun _ _ h => h⟩
theorem RO.kp {mo : MO} (e : Kp w H w' H') (q : H' a = H a) (h : RO K H w a mo) : RO K H' w' a mo := by
  cases mo with
  | lst ds => obtain ⟨xs, h1, h2⟩ := h; exact ⟨xs, q.trans h1, h2.kp e⟩
  | ins C gs => obtain ⟨dx, fs, h1, h2, h3⟩ := h; exact ⟨dx, fs, q.trans h1, h2, h3.kp e⟩
theorem RH.side (h : RH K H w m) (ha : a ∈ w.hid) : RH K (upd H a o) w m := by
  refine ⟨h.len, h.nd, h.dj, fun b hb => ?_, fun n b mo hb hm => (h.ob n b mo hb hm).kp (kp_side ha) ?_⟩
  · by_cases q : b = a
    · rw [q, upd_same]; simp
    · rw [upd_ne q]; exact h.hd b hb
  · exact upd_ne fun q => h.dj b (List.mem_of_getElem? hb) (by rw [q]; exact ha)
theorem Ext.side (e : Ext w H w' H') (hn : H a = none) : Ext w H w' (upd H' a o) := by
  refine ⟨e.hid, e.new, fun b u h n => ?_, fun b h => ?_⟩
  · rw [upd_ne (ne_of_none h hn)]; exact e.keep b u h n
  · by_cases q : b = a
    · rw [q, upd_same]; simp
    · rw [upd_ne q]; exact e.live b h
/-- less is aside -/
theorem kp_less {l : List Addr} (hs : ∀ b ∈ l, b ∈ w.hid) : Kp w H ⟨w.ι, l⟩ H := ⟨fun b u h => ⟨h.1, h.2.1, fun q => h.2.2 (hs b q)⟩, fun _ _ h => h⟩
theorem RH.less {l : List Addr} (h : RH K H w m) (hs : ∀ b ∈ l, b ∈ w.hid) : RH K H ⟨w.ι, l⟩ m :=
  ⟨h.len, h.nd, fun b hb q => h.dj b hb (hs b q), fun b hb => h.hd b (hs b hb), fun n b mo hb hm => (h.ob n b mo hb hm).kp (kp_less hs) rfl⟩
/-- from outside to within, a new thing at a aside -/
theorem kp_in {ι' : List Addr} (e : Ext w H ⟨ι', w.hid⟩ H') (hn : H a = none) : Kp w H ⟨ι', a :: w.hid⟩ H' :=
  ⟨fun b u h => ⟨(h.mono e).1, (h.mono e).2.1, fun q => (List.mem_cons.mp q).elim (fun z => by rw [z] at h; rw [h.1] at hn; cases hn) h.2.2⟩, fun n b hb => e.ix hb⟩
theorem Ext.out1 {ι1 ι2 l : List Addr} (e : Ext ⟨ι1, a :: l⟩ H ⟨ι2, a :: l⟩ H') : Ext ⟨ι1, l⟩ H ⟨ι2, l⟩ H' := by
  obtain ⟨t, h1, h2⟩ := e.new
  exact ⟨rfl, ⟨t, h1, fun b hb => ⟨(h2 b hb).1, fun q => (h2 b hb).2 (List.mem_cons_of_mem _ q)⟩⟩, e.keep, e.live⟩
end
section
variable {X : Cx} {ct : Nat → Addr} {W : WX} {elt tg iter : Expr} {ifs : List Expr} {scope : Scope} {own : List (Str × Nat)} {pos : Pos} {I : Fr → MH → R (List D)} {G : SmG} {T : Fr → MH → R Bool} {E : Fr → MH → R D} {ts vs : List Nat}
/-- the tests of a comprehension -/
abbrev STs (X : Cx) (ct : Nat → Addr) (W : WX) (e : List Expr) (F : Fr → MH → R Bool) : Prop := PTs X e (tOfT ⟨X.K, ct⟩ W F)
theorem sts_nil : STs X ct W [] bTrue := ⟨fun pins s σ H Q I h => pts_nil.run pins s σ H Q I (by
  obtain ⟨w, m, δ, h, f, k⟩ := h
  exact k H w Ext.refl h)⟩
theorem sts_one {c : Expr} (h : ST X ct W c T) : STs X ct W [c] T := pts_one h
/-- the turns, whatever is made of the end -/
theorem lc_sm {Γ : Gm} {σ : St} {H : Hp} {w : Wd} {δ : Fr} {m : MH} {Q : VK} {P : Wd → Hp → R D → Prop} (g : Go Γ W σ P) (fin : List D → MH → R D) (hv : ∀ t ∈ ts, t ∈ vs) (c : Cm Γ H w σ δ m)
    (k : P w H ((lcF vs I G T E δ m).bnd fin))
    (hfin : ∀ (w1 : Wd) (H1 : Hp) (Dd : Addr) (wi : Wd) (Hc : Hp) (mi : MH) (acc : List V) (ads : List D), Ext w H w1 H1 → Cm Γ H1 w1 σ δ mi ∨ True → H1 Dd = none → Dd ∉ w1.ι → Dd ∉ w1.hid → wi.hid = Dd :: w1.hid → Ext w1 H1 ⟨wi.ι, w1.hid⟩ Hc →
      RH Γ.K Hc wi mi → Hc Dd = some (.lst acc) → RDs Γ.K Hc wi acc ads → RF Γ.K H1 w1 σ δ → P w1 H1 (fin ads mi) → Q (.ref Dd) Hc) :
    tLc (tOfI Γ W I) (tOfG Γ ts G) (tOfT Γ WF T) (tOf Γ WF E) vs σ H Q := by
  refine ⟨w, m, δ, c.h, c.f, ?_⟩
  have k1 : P w H (((I δ m).bnd fun ds m1 => if ds.length ≤ sizeLine then oAnd (cmpL G T E (wipeF δ vs) ds m1) fun es m2 => .ok es m2 else .no).bnd fin) := k
  rw [bnd_bnd] at k1
  cases q : I δ m with
  | no => rw [q] at k1; exact (g.no _ _ k1).elim
  | ex c' fs m1 => rw [q] at k1; exact g.ex _ _ _ _ _ k1
  | ok ds m1 =>
    rw [q] at k1
    have k2 : P w H ((if ds.length ≤ sizeLine then oAnd (cmpL G T E (wipeF δ vs) ds m1) fun es m2 => .ok es m2 else .no).bnd fin) := k1
    by_cases hz : ds.length ≤ sizeLine
    · rw [if_pos hz] at k2
      cases q2 : cmpL G T E (wipeF δ vs) ds m1 with
      | no => rw [q2] at k2; exact (g.no _ _ k2).elim
      | ex c' fs m2 => rw [q2] at k2; exact (g.no _ _ k2).elim
      | ok es0 mf0 =>
        rw [q2] at k2
        have k3 : P w H (fin es0 mf0) := k2
        intro J H1 w1 x1 rh1 wk Dd hDd
        have hDi : Dd ∉ w1.ι := rh1.nin hDd
        have hDh : Dd ∉ w1.hid := rh1.nhid hDd
        have rf1 : RF Γ.K H1 w1 σ δ := c.f.mono x1
        refine ⟨fun i mm Hc => mm = ds.length - i ∧ i ≤ ds.length ∧ ∃ (wi : Wd) (mi : MH) (acc : List V) (ads es : List D), wi.hid = Dd :: w1.hid ∧ Ext w1 H1 ⟨wi.ι, w1.hid⟩ Hc ∧ RH Γ.K Hc wi mi ∧ Hc Dd = some (.lst acc) ∧ RDs Γ.K Hc wi acc ads ∧
          acc.length ≤ i ∧ cmpL G T E (wipeF δ vs) (ds.drop i) mi = .ok es mf0 ∧ es0 = ads ++ es, ⟨ds.length, by simp, Nat.zero_le _, ⟨w1.ι, Dd :: w1.hid⟩, m1, [], [], es0, rfl, ?_, ?_, upd_same, .nil, Nat.le_refl _, q2, rfl⟩, ?_⟩
        · exact Ext.side Ext.refl hDd
        · have e0 : Ext w1 H1 w1 (upd H1 Dd (.lst [])) := rh1.ext_new hDd
          have r0 := rh1.new (o := .lst []) hDd
          refine ⟨r0.len, r0.nd, fun b hb q => (List.mem_cons.mp q).elim (fun z => hDi (by rw [← z]; exact hb)) (r0.dj b hb), fun b hb => ?_, fun n b mo hb hm => ?_⟩
          · rcases List.mem_cons.mp hb with z | z
            · rw [z, upd_same]; simp
            · exact r0.hd b z
          · refine RO.kp (w := w1) (H := H1) ⟨fun a o f => ?_, fun _ _ h => h⟩ ?_ (rh1.ob n b mo hb hm)
            · have na : a ≠ Dd := fun z => by rw [z] at f; rw [f.1] at hDd; cases hDd
              exact ⟨by rw [upd_ne na]; exact f.1, f.2.1, fun z => (List.mem_cons.mp z).elim na f.2.2⟩
            · exact upd_ne fun z => hDi (by rw [← z]; exact List.mem_of_getElem? hb)
        · rintro i mm Hc ⟨rfl, hi', wi, mi, acc, ads, es, hhid, xc, rhc, hacc, rds, hlen, hcmp, hes⟩
          have kpc : Kp w1 H1 wi Hc := by
            have z := kp_in (a := Dd) xc hDd
            have e : wi = ⟨wi.ι, Dd :: w1.hid⟩ := by
              obtain ⟨ι, hid⟩ := wi
              simp only at hhid
              rw [hhid]
            rw [e]
            exact z
          by_cases hlt : i < ds.length
          · have ed : ds.drop i = ds[i] :: ds.drop (i + 1) := List.drop_eq_getElem_cons hlt
            rw [ed] at hcmp
            refine .inr ⟨wk.go Hc wi i kpc hlt, fun Hn => (i + 1 ≤ ds.length ∧ ∃ (wi : Wd) (mi : MH) (acc : List V) (ads es : List D), wi.hid = Dd :: w1.hid ∧ Ext w1 H1 ⟨wi.ι, w1.hid⟩ Hn ∧ RH Γ.K Hn wi mi ∧ Hn Dd = some (.lst acc) ∧ RDs Γ.K Hn wi acc ads ∧
              acc.length ≤ i + 1 ∧ cmpL G T E (wipeF δ vs) (ds.drop (i + 1)) mi = .ok es mf0 ∧ es0 = ads ++ es), fun Hn hN => ⟨_, by omega, rfl, hN⟩, fun x H3 y => ?_⟩
            obtain ⟨x3, rh3, d, ed2, rd⟩ := wk.yld Hc wi mi i x H3 kpc rhc hlt y
            have e3 : ds[i] = d := by
              rw [List.getElem?_eq_getElem hlt] at ed2
              exact Option.some.inj ed2
            rw [e3] at hcmp
            obtain ⟨δ1, m4, q4, hcmp⟩ := gAnd_ok hcmp
            have rfw : RF Γ.K H3 wi (L2.wipe σ vs) (wipeF δ vs) := ((rf1.kp (kpc.trans x3.kp)).wipe vs)
            refine g_then (Γ := Γ) rh3 rfw rd q4 fun σ5 H5 w5 x5 rh5 rf5 hl5 ha5 => ⟨(wipe_agree hl5 ha5 hv).trans (wipe_wipe vs), ?_⟩
            obtain ⟨b, m6, q6, hcmp⟩ := oAnd_ok hcmp
            refine ⟨w5, m4, δ1, rh5, rf5, ?_⟩
            rw [q6]
            intro H6 w6 x6 rh6
            have x36 : Ext wi Hc w6 H6 := (x3.trans x5).trans x6
            have h36 : w6.hid = Dd :: w1.hid := x36.hid.trans hhid
            have mem6 : Dd ∈ w6.hid := by rw [h36]; exact List.mem_cons_self
            have memi : Dd ∈ wi.hid := by rw [hhid]; exact List.mem_cons_self
            have nii : Dd ∉ wi.ι := fun z => rhc.dj Dd z memi
            have out : ∀ {w7 : Wd} {H7 : Hp}, Ext wi Hc w7 H7 → Ext w1 H1 ⟨w7.ι, w1.hid⟩ H7 := fun {w7 H7} x7 => by
              have h7 : w7.hid = Dd :: w1.hid := x7.hid.trans hhid
              obtain ⟨ι, hid⟩ := wi
              obtain ⟨ι7, hid7⟩ := w7
              simp only at hhid h7
              subst hhid h7
              exact xc.trans x7.out1
            cases b with
            | true =>
              rw [if_pos rfl] at hcmp ⊢
              obtain ⟨e, m7, q7, hcmp⟩ := oAnd_ok hcmp
              obtain ⟨es', m8, q8, hcmp⟩ := oAnd_ok hcmp
              cases hcmp
              refine ⟨w6, m6, δ1, rh6, rf5.mono x6, ?_⟩
              rw [q7]
              intro yv H7 w7 x7 rh7 rd7
              have x37 : Ext wi Hc w7 H7 := x36.trans x7
              have h37 : w7.hid = Dd :: w1.hid := x37.hid.trans hhid
              have mem7 : Dd ∈ w7.hid := by rw [h37]; exact List.mem_cons_self
              have hacc7 : H7 Dd = some (.lst acc) := x37.keep Dd _ hacc nii
              refine ⟨acc, hacc7, by omega, hlt, w7, m7, acc ++ [yv], ads ++ [e], es', h37, Ext.side (out x37) hDd, rh7.side mem7, upd_same, ((rds.mono x37).append (.cons rd7 .nil)).kp (kp_side mem7), by rw [List.length_append]; exact Nat.succ_le_succ hlen, q8, by rw [hes, List.append_assoc]; rfl⟩
            | false =>
              rw [if_neg Bool.false_ne_true] at hcmp ⊢
              exact ⟨hlt, w6, m6, acc, ads, es, h36, out x36, rh6, x36.keep Dd _ hacc nii, rds.mono x36, Nat.le_succ_of_le hlen, hcmp, hes⟩
          · have e : i = ds.length := by omega
            subst e
            rw [List.drop_length] at hcmp
            cases hcmp
            rw [List.append_nil] at hes
            subst hes
            exact .inl ⟨wk.stop Hc wi kpc, hfin w1 H1 Dd wi Hc mf0 acc es0 x1 (.inr trivial) hDd hDi hDh hhid xc rhc hacc rds rf1 (g.later _ _ _ _ _ x1 k3)⟩
    · rw [if_neg hz] at k2; exact (g.no _ _ k2).elim
theorem lc_lst {Γ : Gm} {w1 : Wd} {H1 : Hp} {Dd : Addr} {wi : Wd} {Hc : Hp} {mi : MH} {acc : List V} {ads : List D} (hDd : H1 Dd = none) (hDh : Dd ∉ w1.hid) (hh : wi.hid = Dd :: w1.hid)
    (rh : RH Γ.K Hc wi mi) (ha : Hc Dd = some (.lst acc)) (r : RDs Γ.K Hc wi acc ads) : RH Γ.K Hc ⟨wi.ι, w1.hid⟩ mi ∧ RD Γ.K Hc ⟨wi.ι, w1.hid⟩ (.ref Dd) (.lst ads) := by
  have hs : ∀ b ∈ w1.hid, b ∈ wi.hid := fun b hb => by rw [hh]; exact List.mem_cons_of_mem _ hb
  exact ⟨rh.less hs, .lst ⟨ha, fun z => rh.dj Dd z (by rw [hh]; exact List.mem_cons_self), hDh⟩ (r.kp (kp_less hs))⟩
theorem lc_obj {Γ : Gm} {w1 : Wd} {H1 : Hp} {Dd : Addr} {wi : Wd} {Hc : Hp} {mi : MH} {acc : List V} {ads : List D} (hDd : H1 Dd = none) (hDh : Dd ∉ w1.hid) (hh : wi.hid = Dd :: w1.hid) (xc : Ext w1 H1 ⟨wi.ι, w1.hid⟩ Hc)
    (rh : RH Γ.K Hc wi mi) (ha : Hc Dd = some (.lst acc)) (r : RDs Γ.K Hc wi acc ads) :
    Ext w1 H1 ⟨wi.ι ++ [Dd], w1.hid⟩ Hc ∧ RH Γ.K Hc ⟨wi.ι ++ [Dd], w1.hid⟩ (mi ++ [.lst ads]) ∧ RD Γ.K Hc ⟨wi.ι ++ [Dd], w1.hid⟩ (.ref Dd) (.obj mi.length) := by
  have hs : ∀ b ∈ w1.hid, b ∈ wi.hid := fun b hb => by rw [hh]; exact List.mem_cons_of_mem _ hb
  have nii : Dd ∉ wi.ι := fun z => rh.dj Dd z (by rw [hh]; exact List.mem_cons_self)
  have kp : Kp wi Hc ⟨wi.ι ++ [Dd], w1.hid⟩ Hc := ⟨fun b u f => ⟨f.1, fun q => (List.mem_append.mp q).elim f.2.1 fun z => f.2.2 (by rw [hh]; simp at z; rw [z]; exact List.mem_cons_self), fun q => f.2.2 (hs b q)⟩, fun n b hb => by
    have z : n < wi.ι.length := (List.getElem?_eq_some_iff.mp hb).1
    show (wi.ι ++ [Dd])[n]? = some b
    rw [List.getElem?_append_left z]; exact hb⟩
  refine ⟨?_, ?_, .obj (by simp [← rh.len])⟩
  · obtain ⟨t, h1, h2⟩ := xc.new
    refine ⟨rfl, ⟨t ++ [Dd], ?_, fun b hb => ?_⟩, xc.keep, xc.live⟩
    · show wi.ι ++ [Dd] = w1.ι ++ (t ++ [Dd])
      have h1' : wi.ι = w1.ι ++ t := h1
      rw [h1', List.append_assoc]
    · rcases List.mem_append.mp hb with z | z
      · exact h2 b z
      · have e : b = Dd := by simpa using z
        subst e
        exact ⟨hDd, hDh⟩
  · refine ⟨by simp [rh.len], List.nodup_append.mpr ⟨rh.nd, by simp, fun x hx y hy => by
        have : y = Dd := by simpa using hy
        subst this
        exact fun z => nii (z ▸ hx)⟩, fun b hb q => ?_, fun b hb => rh.hd b (hs b hb), fun n b mo hb hm => ?_⟩
    · rcases List.mem_append.mp hb with z | z
      · exact rh.dj b z (hs b q)
      · have e : b = Dd := by simpa using z
        subst e
        exact hDh q
    · by_cases hl : n < wi.ι.length
      · have hb' : wi.ι[n]? = some b := by rw [← hb]; exact (List.getElem?_append_left hl).symm
        have hm' : mi[n]? = some mo := by rw [← hm]; exact (List.getElem?_append_left (by rw [← rh.len]; exact hl)).symm
        exact (rh.ob n b mo hb' hm').kp kp rfl
      · have hb' := hb
        have hm' := hm
        simp only at hb'
        rw [List.getElem?_append_right (by omega)] at hb'
        rw [List.getElem?_append_right (by rw [← rh.len]; omega), ← rh.len] at hm'
        have e0 : n - wi.ι.length = 0 := by
          have := (List.getElem?_eq_some_iff.mp hb').1
          simp at this
          omega
        rw [e0] at hb' hm'
        simp at hb' hm'
        subst hb' hm'
        exact ⟨acc, ha, r.kp kp⟩
variable (hc : X.calm = true) (hN : X.N.Nodup) (hi : SI X ct W tg iter I) (ok : BlkOk X.N X.env.scope scope own) (hv : ∀ t ∈ ts, t ∈ own.map (·.2))
    (hg : ∀ (s : Shared) (H : Hp) (C : Addr) (cl : List (Str × Addr)) (fp : List Addr), SG (X.blk s H scope (compEnvC scope cl C X.env) fp) ct tg ts G) (ht : ∀ (s : Shared) (H : Hp) (C : Addr) (cl : List (Str × Addr)) (fp : List Addr), STs (X.blk s H scope (compEnvC scope cl C X.env) fp) ct WF ifs T)
    (he : ∀ (s : Shared) (H : Hp) (C : Addr) (cl : List (Str × Addr)) (fp : List Addr), SE (X.blk s H scope (compEnvC scope cl C X.env) fp) ct WF elt E)
include hc hN hi ok hv hg ht he
theorem se_lc (hs : ∀ x, foldedSetIterable iter X.env x = pure x := by intro _; rfl) : SE X ct W (.ListComp elt [⟨tg, iter, ifs, 0⟩] scope pos) (eLc (lcF (own.map (·.2)) I G T E)) := by
  refine pe_imp (pe_lc (g := tOfG ⟨X.K, ct⟩ ts G) (tt := tOfT ⟨X.K, ct⟩ WF T) (te := tOf ⟨X.K, ct⟩ WF E) hc hN hi ok hg ht he hs) ?_
  rintro σ H Q ⟨w, m, δ, h, f, k⟩
  refine lc_sm (P := fun w H r => Kn ⟨X.K, ct⟩ W σ w H r Q) go_e (fun es m1 => .ok (.lst es) m1) hv ⟨h, f⟩ k ?_
  intro w1 H1 Dd wi Hc mi acc ads x1 _ hDd hDi hDh hh xc rh ha r _ kf
  obtain ⟨z1, z2⟩ := lc_lst hDd hDh hh rh ha r
  exact kf _ Hc ⟨wi.ι, w1.hid⟩ xc z1 z2
theorem se_lcO (hs : ∀ x, foldedSetIterable iter X.env x = pure x := by intro _; rfl) : SE X ct W (.ListComp elt [⟨tg, iter, ifs, 0⟩] scope pos) (eLcO (lcF (own.map (·.2)) I G T E)) := by
  refine pe_imp (pe_lc (g := tOfG ⟨X.K, ct⟩ ts G) (tt := tOfT ⟨X.K, ct⟩ WF T) (te := tOf ⟨X.K, ct⟩ WF E) hc hN hi ok hg ht he hs) ?_
  rintro σ H Q ⟨w, m, δ, h, f, k⟩
  refine lc_sm (P := fun w H r => Kn ⟨X.K, ct⟩ W σ w H r Q) go_e (fun es m1 => .ok (.obj m1.length) (m1 ++ [MO.lst es])) hv ⟨h, f⟩ k ?_
  intro w1 H1 Dd wi Hc mi acc ads x1 _ hDd hDi hDh hh xc rh ha r _ kf
  obtain ⟨z0, z1, z2⟩ := lc_obj hDd hDh hh xc rh ha r
  exact kf _ Hc _ z0 z1 z2
variable {i : Nat} {y : Str} {py spos : Pos} (hy : X.N[i]? = some y) (hyl : X.env.scope.names.lookup y = some .local) (hsw : swapsWith (.ListComp elt [⟨tg, iter, ifs, 0⟩] scope pos) (some (.Name y py)) spos.line X.env = pure true)
include hy hyl hsw
theorem ss_setLc (hs : ∀ x, foldedSetIterable iter X.env x = pure x := by intro _; rfl) : SS X ct W (.Assign [.Name y py] (.ListComp elt [⟨tg, iter, ifs, 0⟩] scope pos) spos) (sAsg (eLc (lcF (own.map (·.2)) I G T E)) (gN i)) := by
  refine ps_imp (ps_setLc (g := tOfG ⟨X.K, ct⟩ ts G) (tt := tOfT ⟨X.K, ct⟩ WF T) (te := tOf ⟨X.K, ct⟩ WF E) hc hN hy hyl hsw hi ok hg ht he hs) ?_
  rintro D' σ H ⟨w, m, δ, h, f, k⟩
  have k' : KnS ⟨X.K, ct⟩ W σ.length w H (((lcF (own.map (·.2)) I G T E δ m).bnd fun es m1 => .ok (.lst es) m1).bnd fun d m1 => .ok (.nx (δ.set i (some d))) m1) D' := k
  rw [bnd_bnd] at k'
  refine lc_sm (Q := fun x H1 => gName i x σ H1 D'.nx) (P := fun w H (r : R D) => KnS ⟨X.K, ct⟩ W σ.length w H (r.bnd fun d m1 => .ok (.nx (δ.set i (some d))) m1) D') ⟨fun _ _ h => h, fun _ _ _ _ _ h => h σ rfl, fun _ _ _ _ r e h => KnS.later e h⟩
    (fun es m1 => .ok (.lst es) m1) hv ⟨h, f⟩ (by rw [bnd_bnd]; exact k') ?_
  intro w1 H1 Dd wi Hc mi acc ads x1 _ hDd hDi hDh hh xc rh ha r rf kf
  obtain ⟨z1, z2⟩ := lc_lst hDd hDh hh rh ha r
  exact kf _ Hc ⟨wi.ι, w1.hid⟩ xc z1 ((rf.mono xc).set i z2) (by rw [List.length_set])
theorem ss_setLcO (hs : ∀ x, foldedSetIterable iter X.env x = pure x := by intro _; rfl) : SS X ct W (.Assign [.Name y py] (.ListComp elt [⟨tg, iter, ifs, 0⟩] scope pos) spos) (sAsg (eLcO (lcF (own.map (·.2)) I G T E)) (gN i)) := by
  refine ps_imp (ps_setLc (g := tOfG ⟨X.K, ct⟩ ts G) (tt := tOfT ⟨X.K, ct⟩ WF T) (te := tOf ⟨X.K, ct⟩ WF E) hc hN hy hyl hsw hi ok hg ht he hs) ?_
  rintro D' σ H ⟨w, m, δ, h, f, k⟩
  have k' : KnS ⟨X.K, ct⟩ W σ.length w H (((lcF (own.map (·.2)) I G T E δ m).bnd fun es m1 => .ok (.obj m1.length) (m1 ++ [.lst es])).bnd fun d m1 => .ok (.nx (δ.set i (some d))) m1) D' := k
  rw [bnd_bnd] at k'
  refine lc_sm (Q := fun x H1 => gName i x σ H1 D'.nx) (P := fun w H (r : R D) => KnS ⟨X.K, ct⟩ W σ.length w H (r.bnd fun d m1 => .ok (.nx (δ.set i (some d))) m1) D') ⟨fun _ _ h => h, fun _ _ _ _ _ h => h σ rfl, fun _ _ _ _ r e h => KnS.later e h⟩
    (fun es m1 => .ok (.obj m1.length) (m1 ++ [MO.lst es])) hv ⟨h, f⟩ (by rw [bnd_bnd]; exact k') ?_
  intro w1 H1 Dd wi Hc mi acc ads x1 _ hDd hDi hDh hh xc rh ha r rf kf
  obtain ⟨z0, z1, z2⟩ := lc_obj hDd hDh hh xc rh ha r
  exact kf _ Hc _ z0 z1 ((rf.mono z0).set i z2) (by rw [List.length_set])
end
end Sm

set_option Elab.async false
set_option linter.all false
set_option maxRecDepth 100000
/-! Sm, calls. -/
namespace Sm
open PySem PySem.Spec L2
/-! ### data without objects -/
mutual
def clo : D → Bool
  | .raw _ => true
  | .tup ds => cloL ds
  | .lst ds => cloL ds
  | .scr ds => cloL ds
  | .obj _ => false
def cloL : List D → Bool
  | [] => true
  | d :: ds => clo d && cloL ds
end
mutual
/-- what comes back: a list that is the callee's own is frozen; k objects are the caller's -/
def frz (k : Nat) (m : MH) : D → Option D
  | .raw v => some (.raw v)
  | .tup ds => (frzL k m ds).map .tup
  | .lst ds => (frzL k m ds).map .lst
  | .scr ds => (frzL k m ds).map .scr
  | .obj j => if j < k then none else match m[j]? with
    | some (.lst es) => if cloL es = true then some (.lst es) else none
    | _ => none
def frzL (k : Nat) (m : MH) : List D → Option (List D)
  | [] => some []
  | d :: ds => match frz k m d, frzL k m ds with
    | some e, some es => some (e :: es)
    | _, _ => none
end
def cloO : MO → Bool
  | .lst ds => cloL ds
  | .ins _ _ => false
/-- the objects among the arguments, each once -/
def objsOf : List D → List Nat → List Nat
  | [], os => os
  | .obj n :: ds, os => objsOf ds (if n ∈ os then os else os ++ [n])
  | _ :: ds, os => objsOf ds os
def subM (m : MH) : List Nat → Option MH
  | [] => some []
  | n :: os => match m[n]?, subM m os with
    | some mo, some sub => if cloO mo = true then some (mo :: sub) else none
    | _, _ => none
def renD (os : List Nat) : D → Option D
  | .obj n => (os.idxOf? n).map .obj
  | d => if clo d = true then some d else none
def renL (os : List Nat) : List D → Option (List D)
  | [] => some []
  | d :: ds => match renD os d, renL os ds with
    | some e, some es => some (e :: es)
    | _, _ => none
/-- the callee's first objects are put back -/
def putM : List Nat → MH → MH → Option MH
  | [], _, m => some m
  | _ :: _, [], _ => none
  | n :: os, mo :: m', m => if cloO mo = true then putM os m' (m.set n mo) else none
def backD (os : List Nat) (m' : MH) : D → Option D
  | .obj j => match os[j]? with
    | some n => some (.obj n)
    | none => frz os.length m' (.obj j)
  | d => frz os.length m' d
def cloF (fs : List (Str × D)) : Bool := cloL (fs.map (·.2))
def newD (k : Nat) (m' : MH) : D → Option (List D)
  | .obj j => if j < k then none else match m'[j]? with
    | some (.lst es) => if cloL es = true then some es else none
    | _ => none
  | _ => none
/-- a call; nw: its new list is ours from now on -/
def callM (nw : Bool) (mf : List D → MH → R D) (ds : List D) (m : MH) : R D :=
  match subM m (objsOf ds []), renL (objsOf ds []) ds with
  | some sub, some es => match mf es sub with
    | .no => .no
    | .ok d m' => match putM (objsOf ds []) m' m with
      | none => .no
      | some m2 => if nw = true then (match newD (objsOf ds []).length m' d with
          | some es => .ok (.obj m2.length) (m2 ++ [.lst es])
          | none => .no) else match backD (objsOf ds []) m' d with
        | some d' => .ok d' m2
        | none => .no
    | .ex c fs m' => match putM (objsOf ds []) m' m with
      | none => .no
      | some m2 => if cloF fs = true then .ex c fs m2 else .no
  | _, _ => .no
/-- a def by its body -/
def runF (n p : Nat) (body : SmS) : List D → MH → R D := fun args m =>
  if args.length = p then match body (args.map some ++ List.replicate (n - args.length) none) m with
    | .ok (.rt d) m' => .ok d m'
    | .ok (.nx _) m' => .ok (.raw .non) m'
    | .ex c fs m' => .ex c fs m'
    | _ => .no
  else .no
def eCall (nw : Bool) (mf : List D → MH → R D) (As : Fr → MH → R (List D)) : Fr → MH → R D := fun δ m => (As δ m).bnd (callM nw mf)

def KnC (Γ : Gm) (w : Wd) (H : Hp) (r : R D) (Q : VK) (E : XK) : Prop := Kn Γ (fun cls d _ H => E cls d H) [] w H r Q
/-- a def's promise -/
def spM (Γ : Gm) (p : Nat) (mf : List D → MH → R D) : Sp := fun vs H Q E => vs.length = p ∧ ∃ w m ds, RH Γ.K H w m ∧ RDs Γ.K H w vs ds ∧ KnC Γ w H (mf ds m) Q E

section
variable {K : PySem.W.Frag} {H H' : Hp} {w w' : Wd} {m m' : MH}
/-- less held than w' holds -/
def Sub (w w' : Wd) : Prop := ∀ a, a ∈ w.ι ∨ a ∈ w.hid → a ∈ w'.ι ∨ a ∈ w'.hid
theorem Fz.sub (s : Sub w w') {a : Addr} {o : HO} (f : Fz H w' a o) : Fz H w a o :=
  ⟨f.1, fun h => (s a (.inl h)).elim f.2.1 f.2.2, fun h => (s a (.inr h)).elim f.2.1 f.2.2⟩
mutual
theorem RD.sub (s : Sub w w') {v : V} {d : D} (r : RD K H w' v d) (c : clo d = true) : RD K H w v d := by
  cases r with
  | raw v => exact .raw v
  | tup f r => exact .tup (f.imp (Fz.sub s) id) (RDs.sub s r (by simpa [clo] using c))
  | lst f r => exact .lst (f.sub s) (RDs.sub s r (by simpa [clo] using c))
  | scr f r => exact .scr (f.imp (fun ⟨o, f⟩ => ⟨o, f.sub s⟩) id) (RDs.sub s r (by simpa [clo] using c))
  | obj f => simp [clo] at c
theorem RDs.sub (s : Sub w w') {vs : List V} {ds : List D} (r : RDs K H w' vs ds) (c : cloL ds = true) : RDs K H w vs ds := by
  cases r with
  | nil => exact .nil
  | cons r t =>
    simp only [cloL, Bool.and_eq_true] at c
    exact .cons (RD.sub s r c.1) (RDs.sub s t c.2)
end
/-- frozen, seen from the caller -/
structure Bk (K : PySem.W.Frag) (H : Hp) (w w' : Wd) (k : Nat) (m' : MH) : Prop where
  h : RH K H w' m'
  s : Sub w w'
  own : ∀ (j : Nat) (a : Addr), k ≤ j → w'.ι[j]? = some a → a ∉ w.ι ∧ a ∉ w.hid
mutual
theorem Bk.frz {k : Nat} (b : Bk K H w w' k m') : ∀ {v : V} {d d' : D}, RD K H w' v d → frz k m' d = some d' → RD K H w v d'
  | _, .raw _, _, .raw v, e => by simp only [Sm.frz] at e; cases e; exact .raw v
  | _, .tup ds, _, .tup f r, e => by
    simp only [Sm.frz, Option.map_eq_some_iff] at e
    obtain ⟨es, e, rfl⟩ := e
    exact .tup (f.imp (Fz.sub b.s) id) (Bk.frzL b r e)
  | _, .lst ds, _, .lst f r, e => by
    simp only [Sm.frz, Option.map_eq_some_iff] at e
    obtain ⟨es, e, rfl⟩ := e
    exact .lst (f.sub b.s) (Bk.frzL b r e)
  | _, .scr ds, _, .scr f r, e => by
    simp only [Sm.frz, Option.map_eq_some_iff] at e
    obtain ⟨es, e, rfl⟩ := e
    exact .scr (f.imp (fun ⟨o, f⟩ => ⟨o, f.sub b.s⟩) id) (Bk.frzL b r e)
  | _, .obj j, _, @RD.obj _ _ _ a _ hj, e => by
    simp only [Sm.frz] at e
    split at e
    · cases e
    · rename_i hk
      split at e
      · rename_i es q
        split at e
        · rename_i hc
          cases e
          obtain ⟨xs, h1, r⟩ := b.h.ob j a _ hj q
          obtain ⟨n1, n2⟩ := b.own j a (by omega) hj
          exact .lst ⟨h1, n1, n2⟩ (r.sub b.s hc)
        · cases e
      · cases e
theorem Bk.frzL {k : Nat} (b : Bk K H w w' k m') : ∀ {vs : List V} {ds ds' : List D}, RDs K H w' vs ds → frzL k m' ds = some ds' → RDs K H w vs ds'
  | _, [], _, .nil, e => by simp only [Sm.frzL] at e; cases e; exact .nil
  | _, d :: ds, _, .cons r t, e => by
    simp only [Sm.frzL] at e
    split at e
    · rename_i e1 es1 q1 q2
      cases e
      exact .cons (Bk.frz b r q1) (Bk.frzL b t q2)
    · cases e
end
end

/-! ### the objects that go along -/
theorem objsOf_nodup : ∀ {ds : List D} {os : List Nat}, os.Nodup → (objsOf ds os).Nodup
  | [], _, h => h
  | .obj n :: ds, os, h => by
    unfold objsOf
    refine objsOf_nodup ?_
    split
    · exact h
    · rename_i hn
      exact List.nodup_append.mpr ⟨h, by simp, fun x hx y hy z => hn (by simp at hy; rw [← hy, ← z]; exact hx)⟩
  | .raw _ :: ds, os, h => by unfold objsOf; exact objsOf_nodup h
  | .tup _ :: ds, os, h => by unfold objsOf; exact objsOf_nodup h
  | .lst _ :: ds, os, h => by unfold objsOf; exact objsOf_nodup h
  | .scr _ :: ds, os, h => by unfold objsOf; exact objsOf_nodup h
theorem subM_spec {m : MH} : ∀ {os : List Nat} {sub : MH}, subM m os = some sub → sub.length = os.length ∧ ∀ (j n : Nat), os[j]? = some n → ∃ mo, m[n]? = some mo ∧ sub[j]? = some mo ∧ cloO mo = true
  | [], sub, e => by cases e; exact ⟨rfl, fun j n h => by simp at h⟩
  | n :: os, sub, e => by
    unfold subM at e
    split at e
    · rename_i mo sub' h1 h2
      split at e
      · rename_i hc
        cases e
        obtain ⟨l, r⟩ := subM_spec h2
        refine ⟨by simp [l], fun j k h => ?_⟩
        cases j with
        | zero => simp at h; subst h; exact ⟨mo, h1, rfl, hc⟩
        | succ j =>
          obtain ⟨mo', a1, a2, a3⟩ := r j k (by simpa using h)
          exact ⟨mo', a1, by simpa using a2, a3⟩
      · cases e
    · cases e
theorem putM_spec : ∀ {os : List Nat} {m' m m2 : MH}, os.Nodup → putM os m' m = some m2 → m2.length = m.length ∧ (∀ n, n ∉ os → m2[n]? = m[n]?) ∧
    ∀ (j n : Nat) (mo : MO), os[j]? = some n → n < m.length → m2[n]? = some mo → m'[j]? = some mo ∧ cloO mo = true
  | [], m', m, m2, _, e => by cases e; exact ⟨rfl, fun _ _ => rfl, fun j n mo h => by simp at h⟩
  | n :: os, [], m, m2, _, e => by cases e
  | n :: os, mo :: m', m, m2, nd, e => by
    unfold putM at e
    split at e
    · rename_i hc
      obtain ⟨nn, nd'⟩ := List.nodup_cons.mp nd
      obtain ⟨l, r1, r2⟩ := putM_spec nd' e
      refine ⟨by rw [l, List.length_set], fun k hk => ?_, fun j k mo' h hl h2 => ?_⟩
      · rw [r1 k fun z => hk (List.mem_cons_of_mem _ z), List.getElem?_set_ne fun z => hk (by rw [z]; exact List.mem_cons_self)]
      · cases j with
        | zero =>
          simp at h
          subst h
          rw [r1 n nn, List.getElem?_set_self hl] at h2
          cases h2
          exact ⟨rfl, hc⟩
        | succ j =>
          obtain ⟨a1, a2⟩ := r2 j k mo' (by simpa using h) (by rw [List.length_set]; exact hl) h2
          exact ⟨by simpa using a1, a2⟩
    · cases e
section
variable {K : PySem.W.Frag} {H H' H1 : Hp} {w w' w1 : Wd} {m m' m1 : MH}
theorem RO.sub (s : Sub w w') {a : Addr} {mo : MO} (r : RO K H w' a mo) (c : cloO mo = true) : RO K H w a mo := by
  cases mo with
  | lst ds =>
    obtain ⟨xs, h1, h2⟩ := r
    exact ⟨xs, h1, h2.sub s c⟩
  | ins C fs => cases c
/-- the callee's world -/
def asOf (w : Wd) (os : List Nat) : List Addr := os.map fun n => (w.ι[n]?).getD 0
def inW (w : Wd) (os : List Nat) : Wd := ⟨asOf w os, (w.ι.filter fun a => !(asOf w os).contains a) ++ w.hid⟩
structure InOk (K : PySem.W.Frag) (H : Hp) (w : Wd) (m : MH) (os : List Nat) (sub : MH) : Prop where
  h : RH K H w m
  nd : os.Nodup
  sp : sub.length = os.length ∧ ∀ (j n : Nat), os[j]? = some n → ∃ mo, m[n]? = some mo ∧ sub[j]? = some mo ∧ cloO mo = true
section
variable {os : List Nat} {sub : MH}
theorem InOk.at (i : InOk K H w m os sub) {j n : Nat} (h : os[j]? = some n) : ∃ a, w.ι[n]? = some a ∧ (asOf w os)[j]? = some a ∧ n < m.length := by
  obtain ⟨mo, h1, _, _⟩ := i.sp.2 j n h
  have hl : n < m.length := (List.getElem?_eq_some_iff.mp h1).1
  have hl' : n < w.ι.length := by rw [i.h.len]; exact hl
  refine ⟨w.ι[n], List.getElem?_eq_getElem hl', ?_, hl⟩
  unfold asOf
  rw [List.getElem?_map, h]
  simp [List.getElem?_eq_getElem hl']
theorem InOk.sub_ι (i : InOk K H w m os sub) {a : Addr} (h : a ∈ asOf w os) : a ∈ w.ι := by
  obtain ⟨j, hj⟩ := List.mem_iff_getElem?.mp h
  have hjl : j < os.length := by
    have := (List.getElem?_eq_some_iff.mp hj).1
    simpa [asOf] using this
  obtain ⟨b, h1, h2, _⟩ := i.at (List.getElem?_eq_getElem hjl)
  rw [h2] at hj
  cases hj
  exact List.mem_of_getElem? h1
theorem InOk.of_ι (i : InOk K H w m os sub) {n : Nat} {a : Addr} (hn : w.ι[n]? = some a) (h : a ∈ asOf w os) : ∃ j : Nat, os[j]? = some n ∧ (asOf w os)[j]? = some a := by
  obtain ⟨j, hj⟩ := List.mem_iff_getElem?.mp h
  have hjl : j < os.length := by
    have := (List.getElem?_eq_some_iff.mp hj).1
    simpa [asOf] using this
  obtain ⟨b, h1, h2, _⟩ := i.at (List.getElem?_eq_getElem hjl)
  rw [h2] at hj
  cases hj
  obtain ⟨l1, e1⟩ := List.getElem?_eq_some_iff.mp hn
  obtain ⟨l2, e2⟩ := List.getElem?_eq_some_iff.mp h1
  have : n = os[j] := (List.getElem_inj i.h.nd).mp (e1.trans e2.symm)
  exact ⟨j, by rw [this]; exact List.getElem?_eq_getElem hjl, h2⟩
theorem InOk.s1 (i : InOk K H w m os sub) : Sub (inW w os) w := fun a h => by
  rcases h with h | h
  · exact .inl (i.sub_ι h)
  · rcases List.mem_append.mp h with h | h
    · exact .inl (List.mem_filter.mp h).1
    · exact .inr h
theorem InOk.s2 : Sub w (inW w os) := fun a h => by
  rcases h with h | h
  · by_cases q : a ∈ asOf w os
    · exact .inl q
    · exact .inr (List.mem_append_left _ (List.mem_filter.mpr ⟨h, by simp [q]⟩))
  · exact .inr (List.mem_append_right _ h)
theorem InOk.rh (i : InOk K H w m os sub) : RH K H (inW w os) sub := by
  refine ⟨by show (asOf w os).length = _; simp [asOf, i.sp.1], ?_, fun a ha hh => ?_, fun a ha => ?_, fun j a mo hj hm => ?_⟩
  · show (os.map fun n => (w.ι[n]?).getD 0).Nodup
    refine List.pairwise_map.mpr (List.Pairwise.imp_of_mem (fun {p q} hp hq hpq e => hpq ?_) i.nd)
    obtain ⟨jp, hjp⟩ := List.mem_iff_getElem?.mp hp
    obtain ⟨jq, hjq⟩ := List.mem_iff_getElem?.mp hq
    obtain ⟨a, h1, h2, _⟩ := i.at hjp
    obtain ⟨b, h3, h4, _⟩ := i.at hjq
    have e' : a = b := by simpa [h1, h3] using e
    subst e'
    obtain ⟨l1, e1⟩ := List.getElem?_eq_some_iff.mp h1
    obtain ⟨l2, e2⟩ := List.getElem?_eq_some_iff.mp h3
    exact (List.getElem_inj i.h.nd).mp (e1.trans e2.symm)
  · rcases List.mem_append.mp hh with z | z
    · have := (List.mem_filter.mp z).2
      have ha' : a ∈ asOf w os := ha
      simp [ha'] at this
    · exact i.h.dj a (i.sub_ι ha) z
  · rcases List.mem_append.mp ha with z | z
    · exact i.h.live (List.mem_filter.mp z).1
    · exact i.h.hd a z
  · have hjl : j < os.length := by
      have := (List.getElem?_eq_some_iff.mp hj).1
      simpa [inW, asOf] using this
    obtain ⟨mo', q1, q2, q3⟩ := i.sp.2 j _ (List.getElem?_eq_getElem hjl)
    obtain ⟨b, h1, h2, _⟩ := i.at (List.getElem?_eq_getElem hjl)
    rw [q2] at hm
    cases hm
    have hj' : (asOf w os)[j]? = some a := hj
    rw [h2] at hj'
    cases hj'
    exact (i.h.ob _ _ _ h1 q1).sub i.s1 q3
theorem idxOf_spec {os : List Nat} {n j : Nat} (h : os.idxOf? n = some j) : os[j]? = some n := by
  unfold List.idxOf? at h
  obtain ⟨h1, h2⟩ := List.findIdx?_eq_some_iff_getElem.mp h
  have := h2.1
  rw [List.getElem?_eq_getElem h1]
  simpa using this
theorem InOk.ren (i : InOk K H w m os sub) : ∀ {vs : List V} {ds es : List D}, RDs K H w vs ds → renL os ds = some es → RDs K H (inW w os) vs es
  | _, [], _, .nil, e => by cases e; exact .nil
  | _, d :: ds, _, .cons r t, e => by
    unfold renL at e
    split at e
    · rename_i e1 es1 q1 q2
      cases e
      refine .cons ?_ (i.ren t q2)
      have cl : ∀ {v : V} {d : D}, RD K H w v d → (if clo d = true then some d else none) = some e1 → RD K H (inW w os) v e1 := fun r q => by
        split at q
        · rename_i hc
          cases q
          exact r.sub i.s1 hc
        · cases q
      cases d with
      | obj n =>
        unfold renD at q1
        obtain ⟨j, hj, rfl⟩ := Option.map_eq_some_iff.mp q1
        have hn := idxOf_spec hj
        cases r with
        | obj ha =>
          obtain ⟨b, h1, h2, _⟩ := i.at hn
          rw [ha] at h1
          cases h1
          exact .obj h2
      | raw v => exact cl r q1
      | tup ds => exact cl r q1
      | lst ds => exact cl r q1
      | scr ds => exact cl r q1
    · cases e
/-- behind the call: t new objects are taken over -/
theorem InOk.back (i : InOk K H w m os sub) (x : Ext (inW w os) H w' H') (rh : RH K H' w' m') {m2 : MH} (hp : putM os m' m = some m2) {t : List Addr} (ht : t.Nodup) (hts : ∀ a ∈ t, a ∈ w'.ι ∧ H a = none) {tm : MH} (hl : tm.length = t.length)
    (hob : ∀ (j : Nat) (a : Addr) (mo : MO), t[j]? = some a → tm[j]? = some mo → RO K H' ⟨w.ι ++ t, w.hid⟩ a mo) :
    Ext w H ⟨w.ι ++ t, w.hid⟩ H' ∧ RH K H' ⟨w.ι ++ t, w.hid⟩ (m2 ++ tm) := by
  have e : Ext w H ⟨w.ι ++ t, w.hid⟩ H' := ⟨rfl, ⟨t, rfl, fun a ha => ⟨(hts a ha).2, fun q => i.h.hd a q (hts a ha).2⟩⟩, fun a o h n => x.keep a o h fun q => n (i.sub_ι q), x.live⟩
  have s : Sub ⟨w.ι ++ t, w.hid⟩ w' := fun a h => by
    obtain ⟨t', h1, _⟩ := x.new
    rcases h with h | h
    · rcases List.mem_append.mp h with h | h
      · rcases InOk.s2 (os := os) a (.inl h) with q | q
        · exact .inl (by rw [h1]; exact List.mem_append_left _ q)
        · exact .inr (by rw [x.hid]; exact q)
      · exact .inl (hts a h).1
    · exact .inr (by rw [x.hid]; exact List.mem_append_right _ h)
  obtain ⟨pl, p1, p2⟩ := putM_spec i.nd hp
  refine ⟨e, ⟨by simp [i.h.len, pl, hl], ?_, fun a ha q => ?_, fun a ha => x.live a (i.h.hd a ha), fun n a mo hn hm => ?_⟩⟩
  · exact List.nodup_append.mpr ⟨i.h.nd, ht, fun p hp q hq z => by subst z; exact i.h.nin (hts p hq).2 hp⟩
  · rcases List.mem_append.mp ha with ha | ha
    · exact i.h.dj a ha q
    · exact i.h.hd a q (hts a ha).2
  · by_cases hnl : n < w.ι.length
    · have hn' : w.ι[n]? = some a := by rw [← hn]; exact (List.getElem?_append_left hnl).symm
      have hm' : m2[n]? = some mo := by rw [← hm]; exact (List.getElem?_append_left (by rw [pl, ← i.h.len]; exact hnl)).symm
      by_cases hin : a ∈ asOf w os
      · obtain ⟨j, q1, q2⟩ := i.of_ι hn' hin
        obtain ⟨q3, q4⟩ := p2 j n mo q1 (by rw [← i.h.len]; exact hnl) hm'
        exact (rh.ob j a mo (x.ix q2) q3).sub s q4
      · have hno : n ∉ os := fun z => by
          obtain ⟨j, hj⟩ := List.mem_iff_getElem?.mp z
          obtain ⟨b, h1, h2, _⟩ := i.at hj
          rw [hn'] at h1
          cases h1
          exact hin (List.mem_of_getElem? h2)
        rw [p1 n hno] at hm'
        have r := i.h.ob n a mo hn' hm'
        refine r.kp e.kp ?_
        cases q : H a with
        | none => exact absurd q (i.h.live (List.mem_of_getElem? hn'))
        | some o => exact x.keep a o q hin
    · have hn2 := hn
      have hm2 := hm
      simp only at hn2
      rw [List.getElem?_append_right (by omega)] at hn2
      rw [List.getElem?_append_right (by rw [pl, ← i.h.len]; omega), pl, ← i.h.len] at hm2
      exact hob _ _ _ hn2 hm2
theorem InOk.sb (x : Ext (inW w os) H w' H') : Sub w w' := fun a h => by
  obtain ⟨t', h1, _⟩ := x.new
  rcases InOk.s2 (os := os) a h with q | q
  · exact .inl (by rw [h1]; exact List.mem_append_left _ q)
  · exact .inr (by rw [x.hid]; exact q)
theorem InOk.newA (i : InOk K H w m os sub) (x : Ext (inW w os) H w' H') {j : Nat} {a : Addr} (hj : os.length ≤ j) (ha : w'.ι[j]? = some a) : a ∈ w'.ι ∧ H a = none ∧ a ∉ w.ι ∧ a ∉ w.hid := by
  obtain ⟨t', h1, h2⟩ := x.new
  have hm := List.mem_of_getElem? ha
  have e : (inW w os).ι.length = os.length := by simp [inW, asOf]
  rw [h1, List.getElem?_append_right (by rw [e]; exact hj)] at ha
  have hn := (h2 a (List.mem_of_getElem? ha)).1
  exact ⟨hm, hn, i.h.nin hn, i.h.nhid hn⟩
theorem InOk.bk (i : InOk K H w m os sub) (x : Ext (inW w os) H w' H') (rh : RH K H' w' m') : Bk K H' w w' os.length m' := ⟨rh, InOk.sb x, fun j a hj ha => (i.newA x hj ha).2.2⟩
theorem InOk.backD (i : InOk K H w m os sub) (x : Ext (inW w os) H w' H') (rh : RH K H' w' m') {v : V} {d d' : D} (r : RD K H' w' v d) (e : backD os m' d = some d') : RD K H' w v d' := by
  have b := i.bk x rh
  cases d with
  | obj j =>
    simp only [Sm.backD] at e
    cases q : os[j]? with
    | none => rw [q] at e; exact b.frz r e
    | some n =>
      rw [q] at e
      cases e
      obtain ⟨a, h1, h2, _⟩ := i.at q
      cases r with
      | obj ha =>
        have z : w'.ι[j]? = some a := x.ix h2
        rw [ha] at z
        cases z
        exact .obj h1
  | raw v => exact b.frz r e
  | tup ds => exact b.frz r e
  | lst ds => exact b.frz r e
  | scr ds => exact b.frz r e
end
end
section
variable {Γ : Gm} {W : WX} {σ : St} {H : Hp} {w : Wd} {m : MH}
theorem call_sm {p : Nat} {nw : Bool} {mf : List D → MH → R D} {vs : List V} {ds : List D} {Q : VK} (hp : ∀ es sub, mf es sub ≠ .no → es.length = p) (h : RH Γ.K H w m) (r : RDs Γ.K H w vs ds) (k : Kn Γ W σ w H (callM nw mf ds m) Q) :
    spM Γ p mf vs H Q (fun cls d H => W cls d σ H) := by
  have nd : (objsOf ds []).Nodup := objsOf_nodup List.nodup_nil
  unfold callM at k
  generalize hos : objsOf ds [] = os at k nd
  split at k
  · rename_i sub es h1 h2
    have i : InOk Γ.K H w m os sub := ⟨h, nd, subM_spec h1⟩
    have r2 := i.ren r h2
    have hl : vs.length = p := by
      rw [r2.length]
      refine hp es sub fun e => ?_
      rw [e] at k
      exact k
    refine ⟨hl, inW w os, sub, es, i.rh, r2, ?_⟩
    cases q : mf es sub with
    | no => rw [q] at k; exact k.elim
    | ex c fs m' =>
      simp only [q] at k
      intro dx H' w' x rh hx
      cases q2 : putM os m' m with
      | none => rw [q2] at k; exact k.elim
      | some m2 =>
        simp only [q2] at k
        by_cases hc : cloF fs = true
        · rw [if_pos hc] at k
          obtain ⟨x1, rh1⟩ := i.back x rh q2 (t := []) List.nodup_nil (fun _ z => nomatch z) (tm := []) rfl (fun _ _ _ z => by simp at z)
          have ew : (⟨w.ι ++ [], w.hid⟩ : Wd) = w := by rw [List.append_nil]
          rw [ew] at x1 rh1
          rw [List.append_nil] at rh1
          refine k dx H' w x1 rh1 (hx.imp id fun hf => ?_)
          obtain ⟨hf0, xx, gs, e1, e2, e3, e5, e4⟩ := hf
          have sb : Sub w w' := InOk.sb x
          exact ⟨hf0, xx, gs, e1, e2, fun z => (sb xx (.inl z)).elim e3 e5, fun z => (sb xx (.inr z)).elim e3 e5, e4.1, e4.2.sub sb hc⟩
        · rw [if_neg hc] at k; exact k.elim
    | ok d m' =>
      simp only [q] at k
      intro v H' w' x rh rd
      cases q2 : putM os m' m with
      | none => rw [q2] at k; exact k.elim
      | some m2 =>
        simp only [q2] at k
        cases nw with
        | false =>
          rw [if_neg Bool.false_ne_true] at k
          cases q3 : backD os m' d with
          | none => rw [q3] at k; exact k.elim
          | some d' =>
            rw [q3] at k
            obtain ⟨x1, rh1⟩ := i.back x rh q2 (t := []) List.nodup_nil (fun _ z => nomatch z) (tm := []) rfl (fun _ _ _ z => by simp at z)
            have ew : (⟨w.ι ++ [], w.hid⟩ : Wd) = w := by rw [List.append_nil]
            rw [ew] at x1 rh1
            rw [List.append_nil] at rh1
            exact k v H' w x1 rh1 (i.backD x rh rd q3)
        | true =>
          rw [if_pos rfl] at k
          cases q3 : newD os.length m' d with
          | none => rw [q3] at k; exact k.elim
          | some es' =>
            rw [q3] at k
            cases d with
            | obj j =>
              simp only [newD] at q3
              by_cases hj : j < os.length
              · rw [if_pos hj] at q3; cases q3
              · rw [if_neg hj] at q3
                split at q3
                · rename_i es2 q4
                  split at q3
                  · rename_i hc
                    cases q3
                    cases rd with
                    | @obj a _ ha =>
                      obtain ⟨n1, n2, n3, n4⟩ := i.newA x (by omega) ha
                      obtain ⟨xs, o1, o2⟩ := rh.ob j a _ ha q4
                      have sb : Sub ⟨w.ι ++ [a], w.hid⟩ w' := fun b hb => by
                        rcases hb with hb | hb
                        · rcases List.mem_append.mp hb with hb | hb
                          · exact InOk.sb x b (.inl hb)
                          · simp at hb; rw [hb]; exact .inl n1
                        · exact InOk.sb x b (.inr hb)
                      obtain ⟨x1, rh1⟩ := i.back x rh q2 (t := [a]) (by simp) (fun b z => by simp at z; rw [z]; exact ⟨n1, n2⟩) (tm := [.lst es']) rfl (fun j b mo hb hm => by
                        cases j with
                        | zero => simp at hb hm; subst hb hm; exact ⟨xs, o1, o2.sub sb hc⟩
                        | succ j => simp at hb)
                      obtain ⟨pl, _, _⟩ := putM_spec i.nd q2
                      exact k _ H' _ x1 rh1 (.obj (by simp [pl, ← h.len]))
                  · cases q3
                · cases q3
            | raw v => cases q3
            | tup ds => cases q3
            | lst ds => cases q3
            | scr ds => cases q3
  · exact k.elim
end
end Sm

set_option Elab.async false
set_option linter.all false
set_option maxRecDepth 100000
/-! Sm, defs, raises. -/
namespace Sm
open PySem PySem.Spec L2
open PyProof.Rows (envOfC)
/-- room, and no repr is under way -/
structure RG (k : Nat) (A : Around) : Prop where
  r : Room k A
  g : A.guards = some []
theorem RG.mono {j k : Nat} {A : Around} (r : RG k A) (h : j ≤ k) : RG j A := ⟨r.r.mono h, r.g⟩
/-- as FnOk, where no repr is under way -/
structure FnG (P : Program) (w : World) (K : PySem.W.Frag) (mg : Str → Option Value) (base : Heap) (k : Nat) (f : Addr) (fd : FuncData) (ps : List Str) (sp : Sp) : Prop where
  wide : ∀ vs H Q E, sp vs H Q E → vs.length = ps.length
  goes : ∀ (A : Around) (fr : List Env) (s : Shared) (H : Hp) (ar : Args) (us : List Value) (vs : List V) (Q : VK) (E : XK), RG k A → Env0 P w K mg base A fr s H → BindsTo s fd ar (ps.zip us) → Vals vs us → sp vs H Q E →
    codeAny (model P w) A (.call (.ref f) ar) (CR (L2N.CX P w) fr P w H s Q E) s
theorem FnG.mono {P : Program} {w : World} {K : PySem.W.Frag} {mg : Str → Option Value} {base : Heap} {j k : Nat} {f : Addr} {fd : FuncData} {ps : List Str} {sp : Sp} (F : FnG P w K mg base j f fd ps sp) (h : j ≤ k) : FnG P w K mg base k f fd ps sp :=
  ⟨F.wide, fun A fr s H ar us vs Q E r => F.goes A fr s H ar us vs Q E (r.mono h)⟩
section
variable {X : Cx} {k : Nat} {f : Addr} {fd : FuncData} {ps : List Str} {sp : Sp} {W : WX} {x : Str} {p pos : Pos} {e : Expr} {es : List Expr} {t : TA}
theorem FnG.runs {pins : List (Addr × Obj)} {σ : St} {H : Hp} {s : Shared} {Q : VK} {us : List Value} {vs : List V} (F : FnG X.prog X.w X.K X.mg X.base k f fd ps sp) (hr : RG k X.A) (hb : Binds X.K fd ps []) (tk : L2N.Takes X W)
    (I : Inv X pins σ H s) (r : Vals vs us) (h : sp vs H Q (WE W σ)) : wpAny (model X.prog X.w) X.A (call (.ref f) us) (EP X pins σ Q) X.xe s := by
  have hl : us.length = ps.length := r.length.symm.trans (F.wide _ _ _ _ h)
  have hz := hb s us I.kIn (by simpa using hl)
  rw [List.append_nil] at hz
  refine wpAny_call (codeAny_mono (F.goes X.A X.stack s H ⟨us, []⟩ us vs Q (WE W σ) hr I.env0 hz r h) fun o s2 h2 => ?_)
  match o, h2 with
  | .error e, h2 => exact L2N.passAt tk σ pins H s e s2 I h2
  | .ok (.ret u), h2 => exact I.after h2
/-- f(..) -/
theorem pe_callG (F : FnG X.prog X.w X.K X.mg X.base k f fd ps sp) (hr : RG k X.A) (hg : Gl X x) (hm : X.mg x = some (.ref f)) (hk : PySem.W.keepIn X.K (.ref f) = true) (hb : Binds X.K fd ps []) (tk : L2N.Takes X W)
    (ha : PA X (e :: es) t) (hd : (x == ("__debug__" : Str)) = false) (he : starEach (e :: es) X.env = (false, eval e X.env) :: starEach es X.env) (hl : (backTo pos (starEach es X.env)).any (·.1) = false) :
    PE X (.Call (.Name x p) (e :: es) [] pos) (tCallS sp (WE W) t) :=
  ⟨fun pins s σ H Q I h => wpAny_Call_Name_kw (ld_glob I hg hm (PySem.W.callWith_K (h₀ := X.base) I.ok.mod.kin hk (thn (ha.run pos pins s σ H _ I h) fun us s1 ⟨vs, H1, I1, r, q⟩ => ⟨I1.kIn, F.runs hr hb tk I1 r q⟩) he hl) hd)⟩
end
/-- a def by its body -/
theorem fnG_of {P : Program} {w : World} {K : PySem.W.Frag} {mg : Str → Option Value} {base : Heap} {k : Nat} {f : Addr} {name qual : Str} {pr : Arguments} {body : List Stmt} {sc : Scope} {dV kV doc pm cdv ctv oc : Value} {an od : Option Addr}
    {osl : Array (Option Value)} {N ps : List Str} {sp : Sp} (lk : K.lookup f = some ⟨oc, od, .func (PySem.W.fnOf name qual pr body sc dV kV doc pm an cdv ctv), osl⟩) (hcd : PySem.W.codeIn K cdv qual = true) (S : FnScope N ps sc)
    (wide : ∀ vs H Q E, sp vs H Q E → vs.length = ps.length)
    (hbody : ∀ (A : Around) (fr : List Env) (s : Shared) (H : Hp) (vs : List V) (Q : VK) (E : XK), RG k (A.deeper (envOfC qual sc s.heap.objs.size f cdv)) → sp vs H Q E →
      ∃ t, PSs (cxOf (L2N.CX P w) P w K mg base N qual sc f cdv A fr s H E) body t ∧ t { nx := fun _ H' => Q .non H', rt := Q } (start N vs) H) :
    FnG P w K mg base (k + 1) f (PySem.W.fnOf name qual pr body sc dV kV doc pm an cdv ctv) ps sp := by
  constructor
  · exact wide
  intro A fr s H ar us vs Q E hr e0 hb r hsp
  have hl := wide _ _ _ _ hsp
  have old : ∀ b o, base.get? b = some o → s.heap.get? b = some o := fun b o e => (e0.bs b o e).1
  have KX : K.In s.heap := e0.mod.kin.keeps old
  refine codeAny_call_function hr.r.depth (KX _ _ lk) rfl S.co S.gen rfl (PySem.W.codeRec_of KX hcd) (hb _ _ _ _ ?_)
  refine wpAny_newFunctionEnv_cells S.kind ?_ fun env he s1 x => ?_
  · rintro ⟨n, v⟩ hy
    exact (S.par n (List.of_mem_zip hy).1).imp id fun q => ⟨q, PySem.W.cellsFrom_some _ _ _ (.inl q)⟩
  subst he
  obtain ⟨t, ht, hq⟩ := hbody A fr s H vs Q E ⟨hr.r.deeper _, hr.g⟩ hsp
  refine ⟨(e0.mod.nolimit.keeps old).keeps x.toInCall.keep, codeAny_func (wpAny_mono (ht.run [] s1 (start N vs) H _ (inv_start S hr.r.hd e0 hl r x) hq) (fun fl s2 hs => ?_) fun e s2 hs => hs)⟩
  match fl, hs with
  | .ret u, ⟨v, σ2, H2, J, rv, q⟩ => exact ⟨v, H2, J.os, J.bare, J.base, J.hok, rv, q⟩
  | .next, ⟨σ2, H2, J, q⟩ => exact ⟨.non, H2, J.os, J.bare, J.base, J.hok, rfl, q⟩
  | .brk, ⟨_, _, _, q⟩ => exact q.elim
  | .cont, ⟨_, _, _, q⟩ => exact q.elim
/-- a def's promise with its place -/
structure FM (P : Program) (w : World) (K : PySem.W.Frag) (mg : Str → Option Value) (base : Heap) (ct : Nat → Addr) (k : Nat) (x : Str) (p : Nat) (mf : List D → MH → R D) : Prop where
  ex : ∃ (f : Addr) (fd : FuncData) (ps : List Str), FnG P w K mg base k f fd ps (spM ⟨K, ct⟩ p mf) ∧ mg x = some (.ref f) ∧ PySem.W.keepIn K (.ref f) = true ∧ Binds K fd ps []
  hp : ∀ es sub, mf es sub ≠ .no → es.length = p
theorem FM.mono {P : Program} {w : World} {K : PySem.W.Frag} {mg : Str → Option Value} {base : Heap} {ct : Nat → Addr} {j k : Nat} {x : Str} {p : Nat} {mf : List D → MH → R D} (F : FM P w K mg base ct j x p mf) (h : j ≤ k) : FM P w K mg base ct k x p mf := by
  obtain ⟨⟨f, fd, ps, a, b⟩, hp⟩ := F
  exact ⟨⟨f, fd, ps, a.mono h, b⟩, hp⟩
section
variable {X : Cx} {ct : Nat → Addr} {W : WX} {k p : Nat} {x : Str} {mf : List D → MH → R D} {nw : Bool} {e : Expr} {es : List Expr} {As : Fr → MH → R (List D)} {pp pos : Pos}
theorem se_call (F : FM X.prog X.w X.K X.mg X.base ct k x p mf) (hr : RG k X.A) (tk : L2N.Takes X W) (hg : Gl X x) (ha : SA X ct W (e :: es) As) (hdb : (x == ("__debug__" : Str)) = false := by decide)
    (he : starEach (e :: es) X.env = (false, eval e X.env) :: starEach es X.env := by rfl) (hpl : (backTo pos (starEach es X.env)).any (·.1) = false := by rfl) : SE X ct W (.Call (.Name x pp) (e :: es) [] pos) (eCall nw mf As) := by
  obtain ⟨⟨f, fd, ps, FO, hm, hk, hb⟩, hp⟩ := F
  refine pe_imp (pe_callG FO hr hg hm hk hb tk ha hdb he hpl) ?_
  rintro σ H Q ⟨w, m, δ, h, f', k'⟩
  exact a_then go_e ⟨h, f'⟩ k' fun xs ds m1 H1 w1 _ c1 r1 k1 => call_sm hp c1.h r1 k1
/-- a call with one starred argument is not had; without arguments: -/
theorem se_call0 (F : FM X.prog X.w X.K X.mg X.base ct k x p mf) (hr : RG k X.A) (tk : L2N.Takes X W) (hg : Gl X x) (hdb : (x == ("__debug__" : Str)) = false := by decide) : SE X ct W (.Call (.Name x pp) [] [] pos) (eCall nw mf aNil) := by
  obtain ⟨⟨f, fd, ps, FO, hm, hk, hb⟩, hp⟩ := F
  refine ⟨fun pins s σ H Q I h => ?_⟩
  obtain ⟨w, m, δ, h, f', k'⟩ := h
  have k1 : Kn ⟨X.K, ct⟩ W σ w H (callM nw mf [] m) Q := k'
  refine wpAny_Call_Name_kw (ld_glob I hg hm ?_ hdb)
  exact PySem.W.callWith_K0 I.kIn hk (FO.runs (us := []) hr hb tk I .nil (call_sm hp h .nil k1))
end
section
variable {P : Program} {w : World} {K : PySem.W.Frag} {mg : Str → Option Value} {base : Heap} {ct : Nat → Addr}
/-- the wish of a body about exceptions -/
abbrev wE (E : XK) : WX := fun cls d _ H => E cls d H
/-- the context of a body -/
abbrev cxM (P : Program) (w : World) (K : PySem.W.Frag) (mg : Str → Option Value) (base : Heap) (N : List Str) (qual : Str) (scope : Scope) (f : Addr) (cdv : Value) (A : Around) (outer : List Env) (s : Shared) (H : Hp) (E : XK) : Cx :=
  cxOf (L2N.CX P w) P w K mg base N qual scope f cdv A outer s H E
theorem FnG.mk' {x qual : Str} {st : Stmt} {f : Addr} {fd : FuncData} {N ps : List Str} {k : Nat} {body : SmS} (F : Fun K x qual st f fd) (S : FnScope N ps (defScope st))
    (h : ∀ (cdv : Value) (A : Around) (outer : List Env) (s : Shared) (H : Hp) (E : XK), RG k (cxM P w K mg base N qual (defScope st) f cdv A outer s H E).A →
      L2N.Takes (cxM P w K mg base N qual (defScope st) f cdv A outer s H E) (wE E) → PassesOwn (model P w) (cxM P w K mg base N qual (defScope st) f cdv A outer s H E).A (cxM P w K mg base N qual (defScope st) f cdv A outer s H E).env (cxM P w K mg base N qual (defScope st) f cdv A outer s H E).xe →
      SSs (cxM P w K mg base N qual (defScope st) f cdv A outer s H E) ct (wE E) (defBody st) body) : FnG P w K mg base (k + 1) f fd ps (spM ⟨K, ct⟩ ps.length (runF N.length ps.length body)) := by
  obtain ⟨oc, od, kV, doc, pm, an, cdv, ctv, osl, rfl, lk, hcd⟩ := F.ex
  refine fnG_of lk hcd S (fun vs H Q E h => h.1) fun A outer s H vs Q E hr hsp => ⟨_, h cdv A outer s H E hr (L2N.takes_of rfl rfl rfl rfl) (L2.passes_of rfl), ?_⟩
  obtain ⟨hl, w1, m, ds, rh, rd, k1⟩ := hsp
  have hpl : ps.length ≤ N.length := by have := congrArg List.length S.pre; rw [List.length_take] at this; omega
  have hd : ds.length = ps.length := rd.length.symm.trans hl
  have k2 : KnC ⟨K, ct⟩ w1 H (if ds.length = ps.length then match body (ds.map some ++ List.replicate (N.length - ds.length) none) m with
    | .ok (.rt d) m' => .ok d m'
    | .ok (.nx _) m' => .ok (.raw .non) m'
    | .ex c fs m' => .ex c fs m'
    | _ => .no else .no) Q E := k1
  rw [if_pos hd] at k2
  refine ⟨w1, m, ds.map some ++ List.replicate (N.length - ds.length) none, rh, ?_, ?_⟩
  · refine ⟨by simp [L2.start, rd.length], fun i d hi => ?_⟩
    by_cases hil : i < ds.length
    · rw [List.getElem?_append_left (by simpa using hil), List.getElem?_map] at hi
      cases q : ds[i]? with
      | none => rw [q] at hi; cases hi
      | some d' =>
        rw [q] at hi
        cases hi
        obtain ⟨v, e1, r⟩ := rd.get q
        refine ⟨v, ?_, r⟩
        unfold L2.start
        have hiv : i < vs.length := by rw [rd.length]; exact hil
        rw [List.getElem?_append_left (by simpa using hiv), List.getElem?_map, e1]
        rfl
    · rw [List.getElem?_append_right (by simpa using hil), List.getElem?_replicate] at hi
      split at hi <;> cases hi
  · cases q : body (ds.map some ++ List.replicate (N.length - ds.length) none) m with
    | no => rw [q] at k2; exact k2.elim
    | ex c fs m' => rw [q] at k2; exact fun σ _ => k2
    | ok fl m' =>
      rw [q] at k2
      cases fl with
      | nx δ => exact fun σ H' w' x rh' _ _ => k2 .non H' w' x rh' (.raw _)
      | rt d => exact k2
      | bk δ => exact k2.elim
      | ct δ => exact k2.elim
theorem FM.mk' {x qual : Str} {st : Stmt} {f : Addr} {fd : FuncData} {N ps : List Str} {k : Nat} {body : SmS} (F : Fun K x qual st f fd) (hm : mg x = some (.ref f)) (hb : Binds K fd ps []) (S : FnScope N ps (defScope st))
    (h : ∀ (cdv : Value) (A : Around) (outer : List Env) (s : Shared) (H : Hp) (E : XK), RG k (cxM P w K mg base N qual (defScope st) f cdv A outer s H E).A →
      L2N.Takes (cxM P w K mg base N qual (defScope st) f cdv A outer s H E) (wE E) → PassesOwn (model P w) (cxM P w K mg base N qual (defScope st) f cdv A outer s H E).A (cxM P w K mg base N qual (defScope st) f cdv A outer s H E).env (cxM P w K mg base N qual (defScope st) f cdv A outer s H E).xe →
      SSs (cxM P w K mg base N qual (defScope st) f cdv A outer s H E) ct (wE E) (defBody st) body) : FM P w K mg base ct (k + 1) x ps.length (runF N.length ps.length body) := by
  refine ⟨⟨f, fd, ps, FnG.mk' F S h, hm, F.kp, hb⟩, fun es sub e => ?_⟩
  unfold runF at e
  by_cases hd : es.length = ps.length
  · exact hd
  · rw [if_neg hd] at e; exact absurd rfl e
end
/-! ### raise of an own error with a text -/
structure ErrT (K : PySem.W.Frag) (mg : Str → Option Value) (x : Str) (C : Addr) (B newId : String) (bmB : List Value) : Prop where
  gC : mg x = some (.ref C)
  q : PySem.W.excIn K C bmB newId = true
  kC : PySem.W.keepIn K (.ref C) = true
  sub : PySem.W.subIn K (.ref C) (.type "BaseException") = some true
  ty : PySem.W.typeIn K (.ref C) = some (.type "type")
def sRaise (c : Nat) : SmS := fun _ m => .ex c [] m
section
variable {X : Cx} {ct : Nat → Addr} {W : WX} {x m : Str} {j c : Nat} {p p2 pos pos2 : Pos} {B newId initId : String} {bmB : List Value}
theorem ss_raise (F : ExcBaseFacts B newId initId bmB) (T : ErrT X.K X.mg x (ct c) B newId bmB) (hc : X.calm = true) (tk : L2N.Takes X W) (hg : Gl X x) (hdb : (x == ("__debug__" : Str)) = false := by decide) :
    SS X ct W (.Raise (some (.Call (.Name x p) [.Constant (.str m) j p2] [] pos)) none pos2) (sRaise c) := by
  refine ps_imp (L2N.ps_raise hc tk (L2N.pmk_own F T.q T.gC T.kC (raises_own T.sub T.ty) hg hdb)) ?_
  rintro D' σ H ⟨w, m', δ, h, f, k⟩
  exact k σ rfl none H w Ext.refl h (.inl ⟨rfl, rfl⟩)
end
end Sm

set_option Elab.async false
set_option linter.all false
set_option maxRecDepth 100000
/-! Sm, the rest of the rules. -/
namespace Sm
open PySem PySem.Spec L2
/-! ### chains -/
def chB : D → MH → (MH → R D) → R D
  | .raw (.bl true), m, f => f m
  | .raw (.bl false), m, _ => .ok (.raw (.bl false)) m
  | _, _, _ => .no
def eChain (g g' : D → D → MH → R D) (A B C : Fr → MH → R D) : Fr → MH → R D := fun δ m => (A δ m).bnd fun x m1 => (B δ m1).bnd fun y m2 => (g x y m2).bnd fun z m3 => chB z m3 fun m4 => (C δ m4).bnd fun w m5 => g' y w m5
def aStar (A : Fr → MH → R D) (As : Fr → MH → R (List D)) : Fr → MH → R (List D) := fun δ m => (A δ m).bnd fun d m1 => match seqOf m1 d with
  | some ds => (As δ m1).bnd fun es m2 => .ok (ds ++ es) m2
  | none => .no
def sAug (i : Nat) (A : Fr → MH → R D) (g : D → D → MH → R D) : SmS := fun δ m => match δ[i]? with
  | some (some d) => (A δ m).bnd fun e m1 => (g d e m1).bnd fun z m2 => .ok (.nx (δ.set i (some z))) m2
  | _ => .no
def par2 (i j : Nat) (δ : Fr) : List D → MH → R Fl
  | [d, e], m => .ok (.nx ((δ.set i (some d)).set j (some e))) m
  | _, _ => .no
def sPar (i j : Nat) (As : Fr → MH → R (List D)) : SmS := fun δ m => (As δ m).bnd (par2 i j δ)
def gSetL (o i d : D) (m : MH) : Option MH := match o, i with
  | .obj n, .raw (.int k) => match m[n]? with
    | some (.lst es) => match ixN es.length k with
      | some j => some (m.set n (.lst (es.set j d)))
      | none => none
    | _ => none
  | _, _ => none
def gSubT (O I : Fr → MH → R D) : SmG := fun d δ m => oAnd (O δ m) fun o m1 => oAnd (I δ m1) fun i m2 => match gSetL o i d m2 with
  | some m3 => .ok δ m3
  | none => .no
section
variable {X : Cx} {Γ : Gm} {ct : Nat → Addr} {W : WX} {a b c e : Expr} {A B C O I : Fr → MH → R D} {As : Fr → MH → R (List D)} {pos p : Pos} {es : List Expr}
theorem chain_of {r r' : R2} {g g' : D → D → MH → R D} (hd : OpD Γ r g) (hd' : OpD Γ r' g') {σ : St} {H : Hp} {Q : VK} (h : tOf Γ W (eChain g g' A B C) σ H Q) : tChain r r' (tOf Γ W A) (tOf Γ W B) (tOf Γ W C) σ H Q := by
  obtain ⟨w, m, δ, h, f, k⟩ := h
  refine e_then go_e ⟨h, f⟩ k fun x d m1 H1 w1 x1 c1 r1 k1 => ?_
  refine e_then go_e c1 k1 fun y e m2 H2 w2 x2 c2 r2 k2 => ?_
  have k2' : Kn Γ W σ w2 H2 ((g d e m2).bnd fun z m3 => chB z m3 fun m4 => (C δ m4).bnd fun w m5 => g' e w m5) Q := k2
  refine hd W σ x y d e H2 w2 m2 _ c2.h (r1.mono x2) r2 ?_
  cases q : g d e m2 with
  | no => rw [q] at k2'; exact k2'
  | ex c' fs m3 => rw [q] at k2'; exact k2'
  | ok z m3 =>
    rw [q] at k2'
    intro v H3 w3 x3 rh rd
    have k3 : Kn Γ W σ w2 H2 (chB z m3 fun m4 => (C δ m4).bnd fun w m5 => g' e w m5) Q := k2'
    unfold chB at k3
    split at k3
    · cases rd
      refine ⟨true, rfl, iteT ?_⟩
      exact e_then go_e ⟨rh, c2.f.mono x3⟩ (Kn.later x3 k3) fun u e' m4 H4 w4 x4 c4 r4 k4 => hd' W σ y u e e' H4 w4 m4 Q c4.h ((r2.mono x3).mono x4) r4 k4
    · cases rd
      exact ⟨false, rfl, iteF (k3 _ H3 w3 x3 rh (.raw _))⟩
    · exact k3.elim
theorem se_chain {op op' : CmpOp} {r r' : R2} {g g' : D → D → MH → R D} (ho : OpR X (compareOp op) r) (hd : OpD ⟨X.K, ct⟩ r g) (ho' : OpR X (compareOp op') r') (hd' : OpD ⟨X.K, ct⟩ r' g') (ha : SE X ct W a A) (hb : SE X ct W b B) (hc : SE X ct W c C)
    (hm : lastMarks [op, op'] [b, c] = false := by with_unfolding_all rfl) : SE X ct W (.Compare a [op, op'] [b, c] pos) (eChain g g' A B C) := pe_imp (pe_chain ho ho' ha hb hc hm) fun _ _ _ => chain_of hd hd'
theorem st_chain {op op' : CmpOp} {r r' : R2} {g g' : D → D → MH → R D} (ho : OpR X (compareOp op) r) (hd : OpD ⟨X.K, ct⟩ r g) (ho' : OpR X (compareOp op') r') (hd' : OpD ⟨X.K, ct⟩ r' g') (ha : SE X ct W a A) (hb : SE X ct W b B) (hc : SE X ct W c C)
    (hm : lastMarks [op, op'] [b, c] = false := by with_unfolding_all rfl) : ST X ct W (.Compare a [op, op'] [b, c] pos) (bVal (eChain g g' A B C)) := by
  refine pt_imp (pt_chain ho ho' ha hb hc hm) fun σ H Q h => ?_
  obtain ⟨w, m, δ, h, f, k⟩ := val_of h
  exact chain_of hd hd' ⟨w, m, δ, h, f, k⟩
/-! ### *e among the arguments -/
theorem sa_star (he : SE X ct W e A) (hr : SA X ct W es As) (hs : starEach (.Starred e p :: es) X.env = (true, eval e X.env) :: starEach es X.env := by rfl) : SA X ct W (.Starred e p :: es) (aStar A As) := by
  refine pa_imp (StX.pa_star he hr hs) ?_
  rintro σ H Q ⟨w, m, δ, h, f, k⟩
  refine e_then go_a ⟨h, f⟩ k fun x d m1 H1 w1 x1 c1 r1 k1 => ?_
  have k1' : KnA ⟨X.K, ct⟩ W σ w1 H1 (match seqOf m1 d with
    | some ds => (As δ m1).bnd fun es m2 => .ok (ds ++ es) m2
    | none => .no) Q := k1
  cases q : seqOf m1 d with
  | none => rw [q] at k1'; exact k1'.elim
  | some ds =>
    rw [q] at k1'
    obtain ⟨a, xs, rfl, hs, r⟩ := seq_at c1.h r1 q
    exact ⟨a, xs, rfl, hs.symm, a_then go_a c1 k1' fun ys es m2 H2 w2 x2 c2 r2 k2 => k2 _ H2 w2 Ext.refl c2.h ((r.mono x2).append r2)⟩
/-! ### stores -/
def IpD (Γ : Gm) (r : TIp) (g : D → D → MH → R D) : Prop :=
  ∀ (W : WX) (σ : St) (x y : V) (d e : D) (H : Hp) (w : Wd) (m : MH) (Q : VK), RH Γ.K H w m → RD Γ.K H w x d → RD Γ.K H w y e → Kn Γ W σ w H (g d e m) Q → r x y H Q
theorem ip_I {f : Int → Int → Int} : IpD Γ (ipI f) (gI cT fun i j => .int (f i j)) := fun W σ x y d e H w m Q h rx ry k => by
  obtain ⟨i, j, rfl, rfl, _, q⟩ := gI_of h rx ry k
  exact ⟨i, j, rfl, rfl, q⟩
theorem ss_aug {i : Nat} {x : Str} {op : Operator} {r : TIp} {g : D → D → MH → R D} {pos' : Pos} (ho : PIp X op r) (hd : IpD ⟨X.K, ct⟩ r g) (hN : X.N.Nodup) (hi : X.N[i]? = some x) (hx : Loc X.env.scope x) (he : SE X ct W e A)
    (hf : X.fn x = true ∨ X.env.scope.names.lookup x = some .local := by first | exact .inl rfl | exact .inr rfl | assumption) : SS X ct W (.AugAssign (.Name x pos') op e pos) (sAug i A g) := by
  refine ps_imp (ps_aug (i := i) hN hi hx he ho hf) ?_
  rintro D' σ H ⟨w, m, δ, h, f, k⟩
  have k1 : KnS ⟨X.K, ct⟩ W σ.length w H (match δ[i]? with
    | some (some d) => (A δ m).bnd fun e m1 => (g d e m1).bnd fun z m2 => .ok (.nx (δ.set i (some z))) m2
    | _ => .no) D' := k
  split at k1
  · rename_i d hd'
    obtain ⟨v, h1, h2⟩ := f.2 i d hd'
    refine ⟨v, h1, ?_⟩
    refine e_then go_s ⟨h, f⟩ k1 fun y e m1 H1 w1 x1 c1 r1 k2 => ?_
    have k2' : KnS ⟨X.K, ct⟩ W σ.length w1 H1 ((g d e m1).bnd fun z m2 => .ok (.nx (δ.set i (some z))) m2) D' := k2
    refine hd W σ v y d e H1 w1 m1 _ c1.h (h2.mono x1) r1 ?_
    cases q : g d e m1 with
    | no => rw [q] at k2'; exact k2'
    | ex c' fs m3 => rw [q] at k2'; exact k2' σ rfl
    | ok z m3 =>
      rw [q] at k2'
      exact fun u H3 w3 x3 rh rd => k2' _ H3 w3 x3 rh ((c1.f.mono x3).set i rd) (by rw [List.length_set])
  · exact k1.elim
theorem ss_par {i j : Nat} {x y : Str} {px py pt : Pos} {kt k2 pt2} (hc : X.calm = true) (hN : X.N.Nodup) (hi : X.N[i]? = some x) (hj : X.N[j]? = some y) (hij : i ≠ j)
    (hx : X.env.scope.names.lookup x = some .local) (hy : X.env.scope.names.lookup y = some .local) (ha : SA X ct W [a, b] As)
    (hw : swappedStores [.Tuple [.Name x px, .Name y py] kt pt] (.Tuple [a, b] k2 pt2) X.env = pure (some [x, y]))
    (hs : swapsWithSole [.Tuple [.Name x px, .Name y py] kt pt] (.Tuple [a, b] k2 pt2) pos.line X.env = pure false := by rfl) : SS X ct W (.Assign [.Tuple [.Name x px, .Name y py] kt pt] (.Tuple [a, b] k2 pt2) pos) (sPar i j As) := by
  refine ps_imp (ps_par hc hN hi hj hij hx hy ha hw hs) ?_
  rintro D' σ H ⟨w, m, δ, h, f, k⟩
  refine a_then go_s ⟨h, f⟩ k fun xs ds m1 H1 w1 x1 c1 r1 k1 => ?_
  unfold par2 at k1
  split at k1
  · cases r1 with
    | cons r t =>
      cases t with
      | cons r' t =>
        cases t
        exact ⟨_, _, rfl, k1 _ H1 w1 Ext.refl c1.h ((c1.f.set i r).set j r') (by rw [List.length_set, List.length_set])⟩
  · exact k1.elim
theorem sg_sub {o i : Expr} (hO : SE X ct W o O) (hI : SE X ct W i I)
    (ha : ∀ v, assign (.Subscript o i pos) X.env v = (do
      let ov ← holding [v] (eval o X.env)
      let iv ← holding [v, ov] (eval i X.env)
      standAt pos
      holding [v, ov, iv] (setItem ov iv v)
      release [v, ov, iv] []) := by intro _; rfl) : SG X ct (.Subscript o i pos) [] (gSubT O I) := by
  refine ⟨fun pins s σ H v u Q I' r h => (pg_sub hO hI set_list ha).run pins s σ H v u Q I' r ?_⟩
  obtain ⟨w, m, δ, d, h, f, rd, k⟩ := h
  have k1 : KnG ⟨X.K, ct⟩ [] σ w H (oAnd (O δ m) fun o m1 => oAnd (I δ m1) fun i m2 => match gSetL o i d m2 with
    | some m3 => .ok δ m3
    | none => .no) Q := k
  cases q : O δ m with
  | no => rw [q] at k1; exact k1.elim
  | ex c' fs m3 => rw [q] at k1; exact k1.elim
  | ok od m1 =>
    rw [q] at k1
    refine ⟨w, m, δ, h, f, ?_⟩
    rw [q]
    intro ov H1 w1 x1 rh1 ro
    have k2 : KnG ⟨X.K, ct⟩ [] σ w H (oAnd (I δ m1) fun i m2 => match gSetL od i d m2 with
      | some m3 => .ok δ m3
      | none => .no) Q := k1
    cases q2 : I δ m1 with
    | no => rw [q2] at k2; exact k2.elim
    | ex c' fs m3 => rw [q2] at k2; exact k2.elim
    | ok id m2 =>
      rw [q2] at k2
      refine ⟨w1, m1, δ, rh1, f.mono x1, ?_⟩
      rw [q2]
      intro iv H2 w2 x2 rh2 ri
      have k3 : KnG ⟨X.K, ct⟩ [] σ w H (match gSetL od id d m2 with
        | some m3 => .ok δ m3
        | none => .no) Q := k2
      cases q3 : gSetL od id d m2 with
      | none => rw [q3] at k3; exact k3.elim
      | some m3 =>
        rw [q3] at k3
        unfold gSetL at q3
        split at q3
        · rename_i n kk
          split at q3
          · rename_i es q4
            split at q3
            · rename_i j q5
              cases q3
              obtain ⟨a, rfl, hn⟩ := obj_at (ro.mono x2)
              cases ri
              obtain ⟨ys, h1, r1⟩ := at_obj rh2 hn q4
              refine ⟨a, ys, kk, j, rfl, rfl, h1, by rw [r1.length]; exact q5, ?_⟩
              have rd2 : RD X.K H2 w2 v d := rd.mono (x1.trans x2)
              have e : Ext w2 H2 w2 (upd H2 a (.lst (ys.set j v))) := rh2.ext_write (List.mem_of_getElem? hn)
              exact k3 σ _ w2 ((x1.trans x2).trans e) (rh2.write hn ⟨_, upd_same, (r1.set rd2 j).mono e⟩) (f.mono ((x1.trans x2).trans e)) rfl fun _ _ => rfl
            · cases q3
          · cases q3
        · cases q3
/-! ### bools by is -/
def gIsB (f : Bool → Bool) (d e : D) (m : MH) : R D := match d, e with
  | .raw (.bl a), .raw (.bl b) => .ok (.raw (.bl (f (decide (a = b))))) m
  | _, _ => .no
theorem d_isB : OpD Γ (fun x y H Q => ∃ a b, x = .bl a ∧ y = .bl b ∧ Q (.bl (decide (a = b))) H) (gIsB id) := fun W σ x y d e H w m Q h rx ry k => by
  unfold gIsB at k
  split at k
  · cases rx; cases ry
    exact ⟨_, _, rfl, rfl, k.here h (.raw _)⟩
  · exact k.elim
theorem d_isnotB : OpD Γ (fun x y H Q => ∃ a b, x = .bl a ∧ y = .bl b ∧ Q (.bl (!decide (a = b))) H) (gIsB not) := fun W σ x y d e H w m Q h rx ry k => by
  unfold gIsB at k
  split at k
  · cases rx; cases ry
    exact ⟨_, _, rfl, rfl, k.here h (.raw _)⟩
  · exact k.elim
/-! ### the module's own -/
theorem se_glob {x : Str} {d : D} {v : V} (hg : Gl X x) (h : ∃ u, X.mg x = some u ∧ RelV v u) (r : ∀ H w, RD X.K H w v d) (hd : (x == ("__debug__" : Str)) = false := by decide) : SE X ct W (.Name x p) (eC d) := by
  obtain ⟨u, hm, ru⟩ := h
  exact se_const (pe_glob hg hm ru hd) r
/-- a written dict with texts for keys; tbl: what is known of it -/
def gInK (a : Addr) (tbl : List (Str × Option V)) (neg : Bool) (d e : D) (m : MH) : R D := match d, e with
  | .raw (.str z), .raw (.ref b) => if a = b then match tbl.lookup z with
    | some r => .ok (.raw (.bl (if neg then !r.isSome else r.isSome))) m
    | none => .no else .no
  | _, _ => .no
def gIxK (a : Addr) (tbl : List (Str × Option V)) (d e : D) (m : MH) : R D := match d, e with
  | .raw (.ref b), .raw (.str z) => if a = b then match tbl.lookup z with
    | some (some v) => .ok (.raw v) m
    | _ => .no else .no
  | _, _ => .no
/-- that the table is right -/
def TblOk (K : PySem.W.Frag) (a : Addr) (tbl : List (Str × Option V)) : Prop := ∀ p ∈ tbl, ∃ r, PySem.W.nsIn K a p.1 = some r ∧ r.isSome = p.2.isSome ∧ ∀ v, p.2 = some v → ∃ u, r = some u ∧ RelV v u
theorem lookup_mem {α : Type} : ∀ {l : List (Str × α)} {z : Str} {r : α}, l.lookup z = some r → (z, r) ∈ l
  | (k, v) :: l, z, r, h => by
    rw [List.lookup_cons] at h
    cases q : z == k with
    | true =>
      rw [q] at h
      cases h
      have : z = k := by simpa using q
      subst this
      exact List.mem_cons_self
    | false => rw [q] at h; exact List.mem_cons_of_mem _ (lookup_mem h)
theorem d_inK {K : PySem.W.Frag} {dd : Addr} {tbl : List (Str × Option V)} {neg : Bool} (hΓ : Γ.K = K) (T : TblOk K dd tbl) :
    OpD Γ (fun x y H Q => ∃ (z : Str) (r : Option Value), x = .str z ∧ y = .ref dd ∧ PySem.W.nsIn K dd z = some r ∧ Q (.bl (if neg then !r.isSome else r.isSome)) H) (gInK dd tbl neg) := fun W σ x y d e H w m Q h rx ry k => by
  unfold gInK at k
  split at k
  · rename_i z b
    obtain ⟨hab, k1⟩ := kn_if k
    clear k
    subst hab
    cases rx; cases ry
    cases q : tbl.lookup z with
    | none => rw [q] at k1; exact k1.elim
    | some r =>
      rw [q] at k1
      obtain ⟨r', h1, h2, _⟩ := T _ (lookup_mem q)
      exact ⟨z, r', rfl, rfl, h1, by rw [h2]; exact k1.here h (.raw _)⟩
  · exact k.elim
theorem op_inK {es : Array DictEntry} {n : Nat} {dd : Addr} (D : KDict X.K X.w dd es n) : OpR X (compareOp .In) (fun x y H Q => ∃ (z : Str) (r : Option Value), x = .str z ∧ y = .ref dd ∧ PySem.W.nsIn X.K dd z = some r ∧ Q (.bl (if false = true then !r.isSome else r.isSome)) H) := op_in_kd D
theorem op_notInK {es : Array DictEntry} {n : Nat} {dd : Addr} (D : KDict X.K X.w dd es n) : OpR X (compareOp .NotIn) (fun x y H Q => ∃ (z : Str) (r : Option Value), x = .str z ∧ y = .ref dd ∧ PySem.W.nsIn X.K dd z = some r ∧ Q (.bl (if true = true then !r.isSome else r.isSome)) H) := op_notIn_kd D
theorem d_ixK {wd : World} {es : Array DictEntry} {n : Nat} {dd : Addr} {tbl : List (Str × Option V)} (D : KDict Γ.K wd dd es n) (T : TblOk Γ.K dd tbl) : OpD Γ (rIxD Γ.K wd) (gIxK dd tbl) := fun W σ x y d e H w m Q h rx ry k => by
  unfold gIxK at k
  split at k
  · rename_i b z
    obtain ⟨hab, k1⟩ := kn_if k
    clear k
    subst hab
    cases rx; cases ry
    split at k1
    · rename_i v q
      obtain ⟨r', h1, h2, h3⟩ := T _ (lookup_mem q)
      obtain ⟨u, rfl, ru⟩ := h3 v rfl
      exact ⟨dd, z, v, rfl, rfl, ⟨es, n, u, D.at_, D.lit, h1, ru⟩, k1.here h (.raw _)⟩
    · exact k1.elim
  · exact k.elim
end
end Sm

set_option Elab.async false
set_option linter.all false
set_option maxRecDepth 100000
/-! Sm: index, count, repr, t * 1, calls of values. -/
namespace Sm
open PySem PySem.Spec L2
section
variable {X : Cx} {Γ : Gm} {ct : Nat → Addr} {W : WX}
/-! ### list.index of flat items, the first place -/
def firstV (v : V) : List V → Option Nat
  | [] => none
  | u :: us => if eqV u v = true then some 0 else (firstV v us).map (· + 1)
theorem firstV_spec {v : V} : ∀ {us : List V} {j : Nat}, firstV v us = some j → ∃ z, us[j]? = some z ∧ eqV z v = true ∧ ∀ (m : Nat) (z' : V), m < j → us[m]? = some z' → eqV z' v = false
  | [], _, h => by cases h
  | u :: us, j, h => by
    unfold firstV at h
    by_cases e : eqV u v = true
    · rw [if_pos e] at h
      cases h
      exact ⟨u, rfl, e, fun m _ hm => absurd hm (Nat.not_lt_zero m)⟩
    · rw [if_neg e] at h
      obtain ⟨i, hi, rfl⟩ := Option.map_eq_some_iff.mp h
      obtain ⟨z, h1, h2, h3⟩ := firstV_spec hi
      refine ⟨z, by simpa using h1, h2, fun m z' hm hz => ?_⟩
      cases m with
      | zero =>
        simp at hz
        subst hz
        simpa using e
      | succ m => exact h3 m z' (by omega) (by simpa using hz)
def gIndex (o : D) (ds : List D) (m : MH) : R D := match lstOf m o, ds with
  | some es, [.raw v] => match flats es with
    | some vs => if (flatV v && vs.all flatV) = true then match firstV v vs with
        | some j => .ok (.raw (.int (j : Nat))) m
        | none => .no else .no
    | none => .no
  | _, _ => .no
theorem d_index : MtD Γ (rIndex Γ.K) gIndex := fun W σ x d xs ds H w m Q h r rs k => by
  unfold gIndex at k
  split at k
  · rename_i es v q
    cases rs with
    | cons r1 t =>
      cases t; cases r1
      cases q2 : flats es with
      | none => rw [q2] at k; exact k.elim
      | some vs =>
        rw [q2] at k
        obtain ⟨hf, k1⟩ := kn_if k
        rw [Bool.and_eq_true] at hf
        obtain ⟨a, ys, rfl, h1, r2⟩ := lst_at h r q
        have e := flats_at r2 q2
        subst e
        cases q3 : firstV v ys with
        | none => rw [q3] at k1; exact k1.elim
        | some j =>
          rw [q3] at k1
          obtain ⟨z, z1, z2, z3⟩ := firstV_spec q3
          exact ⟨a, ys, v, j, z, rfl, rfl, SqL.of h1, hf.1, hf.2, z1, z2, z3, k1.here h (.raw _)⟩
  · exact k.elim
/-! ### list.count of flat items -/
def rCountV (K : PySem.W.Frag) : V → List V → Hp → VK → Prop := fun x xs H Q => ∃ (a : Addr) (ys : List V) (y : V), x = .ref a ∧ xs = [y] ∧ SqL K H a ys ∧ flatV y = true ∧ ys.all flatV = true ∧ Q (.int (ys.countP (fun z => eqV z y) : Nat)) H
theorem count_vals {y : V} : ∀ {ys : List V} {us : List Value}, Vals ys us → ys.all flatV = true → us.countP (eqU y) = ys.countP fun z => eqV z y
  | _, _, .nil, _ => rfl
  | z :: ys, u :: us, .cons r t, f => by
    rw [List.all_cons, Bool.and_eq_true] at f
    rw [List.countP_cons, List.countP_cons, count_vals t f.2, eqU_of r f.1]
theorem mt_countV : MtR X "list.count" (rCountV X.K) := by
  intro pins s σ H x xs v us Q I rx rxs h
  obtain ⟨a, ys, y, rfl, rfl, hs, fy, fys, q⟩ := h
  obtain rfl : v = Value.ref a := rx
  match us, rxs with
  | [uy], .cons ry .nil =>
    obtain ⟨its, rv, ⟨⟨cls, dd, data, sl⟩, n, ho, hc, hdn, hd⟩, hlen⟩ := I.list hs
    simp only at hc hd
    subst hc hd
    refine call_meets PySem.F.slot_list_count ⟨_, ho, rfl⟩ PySem.F.entry_list_count (PySem.F.args_list_count_2 _ _) (SeqAt.list_countAt a its.toArray n dd sl uy (eqU y)) ⟨ho, fun z hz => mem_eqAt ry fy rv fys z (by simpa using hz), ?_⟩
    refine ⟨.int _, H, I.tok _, ⟨_, rfl⟩, ?_⟩
    rw [show its.toArray.toList = its from rfl, count_vals rv fys]
    exact q
def gCount (o : D) (ds : List D) (m : MH) : R D := match lstOf m o, ds with
  | some es, [.raw v] => match flats es with
    | some vs => if (flatV v && vs.all flatV) = true then .ok (.raw (.int (vs.countP (fun z => eqV z v) : Nat))) m else .no
    | none => .no
  | _, _ => .no
theorem d_count : MtD Γ (rCountV Γ.K) gCount := fun W σ x d xs ds H w m Q h r rs k => by
  unfold gCount at k
  split at k
  · rename_i es v q
    cases rs with
    | cons r1 t =>
      cases t; cases r1
      cases q2 : flats es with
      | none => rw [q2] at k; exact k.elim
      | some vs =>
        rw [q2] at k
        obtain ⟨hf, k1⟩ := kn_if k
        rw [Bool.and_eq_true] at hf
        obtain ⟨a, ys, rfl, h1, r2⟩ := lst_at h r q
        have e := flats_at r2 q2
        subst e
        exact ⟨a, ys, v, rfl, rfl, SqL.of h1, hf.1, hf.2, k1.here h (.raw _)⟩
  · exact k.elim
/-! ### repr of data -/
def rRepr (K : PySem.W.Frag) : List V → Hp → VK → Prop := fun xs H Q => ∃ (a : Addr) (p : PyData), xs = [.ref a] ∧ Dp K H (.ref a) p ∧ p.showable = true ∧ p.hasDict = false ∧ p.depth ≤ 40 ∧ p.shown.length ≤ sizeLine ∧ Q (.str p.shown) H
theorem cr_repr {k : Nat} (hr : RG k X.A) : CallR X (.builtin "repr") (rRepr X.K) := by
  intro pins s σ H xs us Q I r h
  obtain ⟨a, p, rfl, hp, h1, h2, h3, h4, q⟩ := h
  match us, r with
  | [u], .cons ru .nil =>
    obtain ⟨as, rd⟩ := Dp.reads I p (.ref a) u hp ru
    obtain rfl : u = Value.ref a := ru
    have hu := hr.r.un
    refine repr_of_reads' rd h1 (fun z => by rw [h2] at z; cases z) hr.g (by omega) (fun _ _ e => e) (fun h' u tk hk => ?_) h4
    exact ⟨.str _, H, I.kept (t' := tk) hk, ⟨u, rfl⟩, q⟩
def gRepr (ds : List D) (m : MH) : R D := match ds with
  | [.raw _] => .no
  | [d] => match toPm m d with
    | some p => if (p.showable && !p.hasDict && decide (p.depth ≤ 40) && decide (p.shown.length ≤ sizeLine)) = true then .ok (.raw (.str p.shown)) m else .no
    | none => .no
  | _ => .no
theorem d_repr : CallD Γ (rRepr Γ.K) gRepr := fun W σ xs ds H w m Q h r k => by
  unfold gRepr at k
  split at k
  · exact k.elim
  · rename_i d hd
    cases q : toPm m d with
    | none => simp only [q] at k; exact k.elim
    | some p =>
      simp only [q] at k
      obtain ⟨hc, k1⟩ := kn_if k
      simp only [Bool.and_eq_true, Bool.not_eq_true', decide_eq_true_eq] at hc
      cases r with
      | cons r t =>
        cases t
        have dp := dpm_of h r q
        cases r with
        | raw v => exact absurd rfl (hd _)
        | tup f r => exact ⟨_, p, rfl, dp, hc.1.1.1, hc.1.1.2, hc.1.2, hc.2, k1.here h (.raw _)⟩
        | lst f r => exact ⟨_, p, rfl, dp, hc.1.1.1, hc.1.1.2, hc.1.2, hc.2, k1.here h (.raw _)⟩
        | scr f r => exact ⟨_, p, rfl, dp, hc.1.1.1, hc.1.1.2, hc.1.2, hc.2, k1.here h (.raw _)⟩
        | obj f => exact ⟨_, p, rfl, dp, hc.1.1.1, hc.1.1.2, hc.1.2, hc.2, k1.here h (.raw _)⟩
  · exact k.elim
/-! ### a function out of a value -/
structure FA (P : Program) (w : World) (K : PySem.W.Frag) (mg : Str → Option Value) (base : Heap) (ct : Nat → Addr) (k : Nat) (f : Addr) (p : Nat) (mf : List D → MH → R D) : Prop where
  ex : ∃ (fd : FuncData) (ps : List Str), FnG P w K mg base k f fd ps (spM ⟨K, ct⟩ p mf) ∧ PySem.W.keepIn K (.ref f) = true ∧ Binds K fd ps []
  hp : ∀ es sub, mf es sub ≠ .no → es.length = p
def eCallF (nw : Bool) (tbl : List (Addr × Nat × (List D → MH → R D))) (A : Fr → MH → R D) (As : Fr → MH → R (List D)) : Fr → MH → R D := fun δ m => (A δ m).bnd fun d m1 => match d with
  | .raw (.ref a) => match tbl.lookup a with
    | some (_, mf) => (As δ m1).bnd (callM nw mf)
    | none => .no
  | _ => .no
theorem lookupA_mem {α : Type} : ∀ {l : List (Addr × α)} {z : Addr} {r : α}, l.lookup z = some r → (z, r) ∈ l
  | (k, v) :: l, z, r, h => by
    rw [List.lookup_cons] at h
    cases q : z == k with
    | true =>
      rw [q] at h
      cases h
      have : z = k := by simpa using q
      subst this
      exact List.mem_cons_self
    | false => rw [q] at h; exact List.mem_cons_of_mem _ (lookupA_mem h)
theorem se_callF {k : Nat} {nw : Bool} {tbl : List (Addr × Nat × (List D → MH → R D))} {fe e : Expr} {es : List Expr} {A : Fr → MH → R D} {As : Fr → MH → R (List D)} {pos : Pos} (hr : RG k X.A) (tk : L2N.Takes X W)
    (T : ∀ q ∈ tbl, FA X.prog X.w X.K X.mg X.base ct k q.1 q.2.1 q.2.2) (hf : SE X ct W fe A) (ha : SA X ct W (e :: es) As)
    (ht : eval (.Call fe (e :: es) [] pos) X.env = (do callWith pos (← eval fe X.env) [] (backTo pos (starEach (e :: es) X.env)) (backToKw pos (keywordEach [] X.env))) := by rfl)
    (he : starEach (e :: es) X.env = (false, eval e X.env) :: starEach es X.env := by rfl) (hpl : (backTo pos (starEach es X.env)).any (·.1) = false := by rfl) : SE X ct W (.Call fe (e :: es) [] pos) (eCallF nw tbl A As) := by
  refine ⟨fun pins s σ H Q I h => ?_⟩
  obtain ⟨w, m, δ, h, f, k1⟩ := h
  have go : tOf ⟨X.K, ct⟩ W A σ H (fun v H1 => ∃ a q, v = .ref a ∧ (a, q) ∈ tbl ∧ tOfA ⟨X.K, ct⟩ W As σ H1 fun vs H2 => spM ⟨X.K, ct⟩ q.1 q.2 vs H2 Q (WE W σ)) := by
    refine e_then go_e ⟨h, f⟩ k1 fun v d m1 H1 w1 x1 c1 r1 k2 => ?_
    split at k2
    · rename_i a
      split at k2
      · rename_i n mf q
        cases r1
        have mem := lookupA_mem q
        refine ⟨a, (n, mf), rfl, mem, ?_⟩
        exact a_then go_e c1 k2 fun xs ds m2 H2 w2 _ c2 r2 k3 => call_sm (T _ mem).hp c2.h r2 k3
      · exact k2.elim
    · exact k2.elim
  refine PyProof.Rows.Call_ (thn (hf.run pins s σ H _ I go) fun u s1 ⟨v, H1, I1, rv, a, q, ev, mem, q1⟩ => ?_) ht
  subst ev
  obtain rfl : u = Value.ref a := rv
  obtain ⟨⟨fd, ps, F, hk, hb⟩, _⟩ := T _ mem
  exact PySem.W.callWith_K (h₀ := X.base) I1.ok.mod.kin hk (thn (ha.run pos pins s1 σ H1 _ I1 q1) fun us s2 ⟨vs, H2, I2, r, q2⟩ => ⟨I2.kIn, F.runs hr hb tk I2 r q2⟩) he hpl
theorem FM.fa {P : Program} {w : World} {K : PySem.W.Frag} {mg : Str → Option Value} {base : Heap} {k : Nat} {x : Str} {p : Nat} {mf : List D → MH → R D} {f : Addr} (F : FM P w K mg base ct k x p mf) (hm : mg x = some (.ref f)) : FA P w K mg base ct k f p mf := by
  obtain ⟨⟨f', fd, ps, a, b, c, d⟩, hp⟩ := F
  rw [hm] at b
  cases b
  exact ⟨⟨fd, ps, a, c, d⟩, hp⟩
end
end Sm

set_option Elab.async false
set_option linter.all false
set_option maxRecDepth 100000
/-! Sm: what the printed texts lean on. -/
namespace Sm
open PySem PySem.Spec L2
theorem bt_len : bootBuiltins "len" = some (.builtin "len") := by decide +kernel
theorem bt_repr : bootBuiltins "repr" = some (.builtin "repr") := by decide +kernel
theorem bt_isinstance : bootBuiltins "isinstance" = some (.builtin "isinstance") := by decide +kernel
theorem bt_all : bootBuiltins "all" = some (.builtin "all") := by decide +kernel
theorem bt_any : bootBuiltins "any" = some (.builtin "any") := by decide +kernel
theorem bt_min : bootBuiltins "min" = some (.builtin "min") := by decide +kernel
theorem bt_max : bootBuiltins "max" = some (.builtin "max") := by decide +kernel
theorem bt_int : bootBuiltins "int" = some (.type "int") := by decide +kernel
theorem bt_tuple : bootBuiltins "tuple" = some (.type "tuple") := by decide +kernel
theorem bt_list : bootBuiltins "list" = some (.type "list") := by decide +kernel
theorem bt_str : bootBuiltins "str" = some (.type "str") := by decide +kernel
theorem bt_bool : bootBuiltins "bool" = some (.type "bool") := by decide +kernel
theorem takes0N {X : Cx} : L2N.Takes X WF := fun u s' x => by
  obtain ⟨_, _, _, _, _, _, _, _, _, _, _, _, _, _, _, _, z⟩ := x
  exact z.elim
theorem hu_of64 {k : Nat} {A : Around} (h : RG k A) : A.units + 64 < cLine := by
  have := h.r.un
  omega
section
variable {X : Cx} {Γ : Gm} {ct : Nat → Addr} {W : WX} {a b c e : Expr} {A B C : Fr → MH → R D} {As : Fr → MH → R (List D)} {pos p : Pos}
theorem se_gl {x : Str} {d : D} (hg : Gl X x) (h : ∃ (v : V) (u : Value), X.mg x = some u ∧ RelV v u ∧ ∀ H w, RD X.K H w v d) (hd : (x == ("__debug__" : Str)) = false := by decide) : SE X ct W (.Name x p) (eC d) := by
  obtain ⟨v, u, hm, r, h⟩ := h
  exact se_glob hg ⟨u, hm, r⟩ h hd
theorem se_gref {x : Str} {a : Addr} (hg : Gl X x) (h : X.mg x = some (.ref a)) (hd : (x == ("__debug__" : Str)) = false := by decide) : SE X ct W (.Name x p) (eC (.raw (.ref a))) :=
  se_glob (v := .ref a) hg ⟨_, h, rfl⟩ (fun _ _ => .raw _) hd
theorem se_tyN {x : Str} {T : String} (hg : Gl X x) (hm : X.mg x = none) (hv : bootBuiltins x = some (.type T)) (hn : x ≠ "__name__" := by decide) (hd : (x == ("__debug__" : Str)) = false := by decide) : SE X ct W (.Name x p) (eC (.raw (.ty T))) :=
  se_const (pe_bltn (v := .ty T) hg hm hv rfl hn hd) (fun _ _ => .raw _)
/-- a written dict of texts -/
def KD (K : PySem.W.Frag) (w : World) (a : Addr) : Prop := ∃ es n, KDict K w a es n
theorem op_inKD {dd : Addr} (D : KD X.K X.w dd) : OpR X (compareOp .In) (fun x y H Q => ∃ (z : Str) (r : Option Value), x = .str z ∧ y = .ref dd ∧ PySem.W.nsIn X.K dd z = some r ∧ Q (.bl (if false = true then !r.isSome else r.isSome)) H) := by
  obtain ⟨es, n, D⟩ := D
  exact op_inK D
theorem op_notInKD {dd : Addr} (D : KD X.K X.w dd) : OpR X (compareOp .NotIn) (fun x y H Q => ∃ (z : Str) (r : Option Value), x = .str z ∧ y = .ref dd ∧ PySem.W.nsIn X.K dd z = some r ∧ Q (.bl (if true = true then !r.isSome else r.isSome)) H) := by
  obtain ⟨es, n, D⟩ := D
  exact op_notInK D
theorem d_ixKD {wd : World} {dd : Addr} {tbl : List (Str × Option V)} (D : KD Γ.K wd dd) (T : TblOk Γ.K dd tbl) : OpD Γ (rIxD Γ.K wd) (gIxK dd tbl) := by
  obtain ⟨es, n, D⟩ := D
  exact d_ixK D T
/-- a new list that changes later, n times -/
def gMulNew (d e : D) (m : MH) : R D := match lstOf m d, e with
  | some ds, .raw (.int k) => if (decide (-(2 ^ 63) ≤ k) && decide (k < 2 ^ 63) && decide (ds.length * k.toNat ≤ sizeLine)) = true then .ok (.obj m.length) (m ++ [.lst (List.replicate k.toNat ds).flatten]) else .no
  | _, _ => .no
theorem d_repNew : OpD Γ rRep gMulNew := fun W σ x y d e H w m Q h rx ry k => by
  unfold gMulNew at k
  split at k
  · rename_i ds j q
    cases ry
    obtain ⟨hc, k1⟩ := kn_if k
    simp only [Bool.and_eq_true, decide_eq_true_eq] at hc
    obtain ⟨a, xs, rfl, h1, r⟩ := lst_at h rx q
    exact ⟨a, j, xs, rfl, rfl, h1, hc.1.1, hc.1.2, by rw [r.length]; exact hc.2, k1.newObj h (rep_rds r _)⟩
  · exact k.elim
def par3 (i j l : Nat) (δ : Fr) : List D → MH → R Fl
  | [d, e, f], m => .ok (.nx (((δ.set i (some d)).set j (some e)).set l (some f))) m
  | _, _ => .no
def sPar3 (i j l : Nat) (As : Fr → MH → R (List D)) : SmS := fun δ m => (As δ m).bnd (par3 i j l δ)
theorem ss_par3 {i j l : Nat} {x y z : Str} {px py pz pt : Pos} {kt k2 pt2} (hc : X.calm = true) (hN : X.N.Nodup) (hi : X.N[i]? = some x) (hj : X.N[j]? = some y) (hl : X.N[l]? = some z) (hij : i ≠ j) (hil : i ≠ l) (hjl : j ≠ l)
    (hx : X.env.scope.names.lookup x = some .local) (hy : X.env.scope.names.lookup y = some .local) (hz : X.env.scope.names.lookup z = some .local) (ha : SA X ct W [a, b, c] As)
    (hw : swappedStores [.Tuple [.Name x px, .Name y py, .Name z pz] kt pt] (.Tuple [a, b, c] k2 pt2) X.env = pure (some [x, y, z]))
    (hs : swapsWithSole [.Tuple [.Name x px, .Name y py, .Name z pz] kt pt] (.Tuple [a, b, c] k2 pt2) pos.line X.env = pure false := by rfl) :
    SS X ct W (.Assign [.Tuple [.Name x px, .Name y py, .Name z pz] kt pt] (.Tuple [a, b, c] k2 pt2) pos) (sPar3 i j l As) := by
  refine ps_imp (ps_par3 hc hN hi hj hl hij hil hjl hx hy hz ha hw hs) ?_
  rintro D' σ H ⟨w, m, δ, h, f, k⟩
  refine a_then go_s ⟨h, f⟩ k fun xs ds m1 H1 w1 x1 c1 r1 k1 => ?_
  unfold par3 at k1
  split at k1
  · cases r1 with
    | cons r t =>
      cases t with
      | cons r' t =>
        cases t with
        | cons r'' t =>
          cases t
          exact ⟨_, _, _, rfl, k1 _ H1 w1 Ext.refl c1.h (((c1.f.set i r).set j r').set l r'') (by rw [List.length_set, List.length_set, List.length_set])⟩
  · exact k1.elim
end
section
variable {P : Program} {w : World} {K : PySem.W.Frag} {mg : Str → Option Value} {base : Heap} {ct : Nat → Addr}
/-- nothing is promised -/
theorem FM.zero {x qual : Str} {st : Stmt} {f : Addr} {fd : FuncData} {ps : List Str} {k p : Nat} (F : Fun K x qual st f fd) (hm : mg x = some (.ref f)) (hb : Binds K fd ps []) (hl : ps.length = p) : FM P w K mg base ct k x p (fun _ _ => .no) := by
  refine ⟨⟨f, fd, ps, ⟨fun vs H Q E h => h.1.trans hl.symm, fun A fr s H ar us vs Q E _ _ _ _ h => ?_⟩, hm, F.kp, hb⟩, fun es sub e => absurd rfl e⟩
  obtain ⟨_, w1, m, ds, _, _, k⟩ := h
  exact k.elim
end
end Sm

set_option Elab.async false
set_option linter.all false
set_option maxRecDepth 100000
/-! Sm: except suites that tell the kind of an error. -/
namespace Sm
open PySem PySem.Spec L2
open L2H (RoomH Hot1 PinOk cxH inv_startH roomH_of)
open PyProof.Rows (envOfC)
/-- a def's promise within an except suite; p: the handled exception -/
structure FnK (P : Program) (w : World) (K : PySem.W.Frag) (mg : Str → Option Value) (base : Heap) (k : Nat) (f : Addr) (fd : FuncData) (ps : List Str) (sp : Addr × Obj → Sp) : Prop where
  wide : ∀ p vs H Q E, sp p vs H Q E → vs.length = ps.length
  goes : ∀ (A : Around) (fr : List Env) (s : Shared) (H : Hp) (ar : Args) (us : List Value) (vs : List V) (Q : VK) (E : XK) (p : Addr × Obj), RoomH k A → Hot1 A p → PinOk fr H s p → Env0 P w K mg base A fr s H → BindsTo s fd ar (ps.zip us) → Vals vs us →
    sp p vs H Q E → codeAny (model P w) A (.call (.ref f) ar) (CR (L2N.CX P w) fr P w H s Q E) s
theorem fnK_of {P : Program} {w : World} {K : PySem.W.Frag} {mg : Str → Option Value} {base : Heap} {k : Nat} {f : Addr} {name qual : Str} {pr : Arguments} {body : List Stmt} {sc : Scope} {dV kV doc pm cdv ctv oc : Value} {an od : Option Addr}
    {osl : Array (Option Value)} {N ps : List Str} {sp : Addr × Obj → Sp} (lk : K.lookup f = some ⟨oc, od, .func (PySem.W.fnOf name qual pr body sc dV kV doc pm an cdv ctv), osl⟩) (hcd : PySem.W.codeIn K cdv qual = true) (S : FnScope N ps sc)
    (wide : ∀ p vs H Q E, sp p vs H Q E → vs.length = ps.length)
    (hbody : ∀ (A : Around) (fr : List Env) (s : Shared) (H : Hp) (vs : List V) (Q : VK) (E : XK) (p : Addr × Obj), RoomH k (A.deeper (envOfC qual sc s.heap.objs.size f cdv)) → sp p vs H Q E →
      ∃ t, PSs (cxH (L2N.CX P w) P w K mg base N qual sc f cdv A fr s H E p) body t ∧ t { nx := fun _ H' => Q .non H', rt := Q } (L2.start N vs) H) :
    FnK P w K mg base (k + 1) f (PySem.W.fnOf name qual pr body sc dV kV doc pm an cdv ctv) ps sp := by
  constructor
  · exact wide
  intro A fr s H ar us vs Q E p hr hot hpin e0 hb r hsp
  have hl := wide _ _ _ _ _ hsp
  have old : ∀ b o, base.get? b = some o → s.heap.get? b = some o := fun b o e => (e0.bs b o e).1
  have KX : K.In s.heap := e0.mod.kin.keeps old
  refine codeAny_call_function hr.depth (KX _ _ lk) rfl S.co S.gen rfl (PySem.W.codeRec_of KX hcd) (hb _ _ _ _ ?_)
  refine wpAny_newFunctionEnv_cells S.kind ?_ fun env he s1 x => ?_
  · rintro ⟨n, v⟩ hy
    exact (S.par n (List.of_mem_zip hy).1).imp id fun q => ⟨q, PySem.W.cellsFrom_some _ _ _ (.inl q)⟩
  subst he
  obtain ⟨t, ht, hq⟩ := hbody A fr s H vs Q E p (hr.deeper _) hsp
  refine ⟨(e0.mod.nolimit.keeps old).keeps x.toInCall.keep, codeAny_func (wpAny_mono (ht.run [] s1 (L2.start N vs) H _ (inv_startH S hpin e0 hl r x) hq) (fun fl s2 hs => ?_) fun e s2 hs => hs)⟩
  match fl, hs with
  | .ret u, ⟨v, σ2, H2, J, rv, q⟩ => exact ⟨v, H2, J.os, J.bare, J.base, J.hok, rv, q⟩
  | .next, ⟨σ2, H2, J, q⟩ => exact ⟨.non, H2, J.os, J.bare, J.base, J.hok, rfl, q⟩
  | .brk, ⟨_, _, _, q⟩ => exact q.elim
  | .cont, ⟨_, _, _, q⟩ => exact q.elim
/-- what the telling of a kind promises -/
def spK (Γ : Gm) (kd : Nat → Option Str) : Addr × Obj → Sp := fun p vs H Q _ => vs.length = 1 ∧ ∃ c z, kd c = some z ∧ vs = [.ref p.1] ∧ p.2.cls = .ref (Γ.ct c) ∧ p.2.dict = none ∧ (∃ us, p.2.data = .fields us) ∧
  ∃ w m, RH Γ.K H w m ∧ ∀ H' w', Ext w H w' H' → RH Γ.K H' w' m → Q (.str z) H'
structure FK (P : Program) (w : World) (K : PySem.W.Frag) (mg : Str → Option Value) (base : Heap) (ct : Nat → Addr) (k : Nat) (x : Str) (kd : Nat → Option Str) : Prop where
  ex : ∃ (f : Addr) (fd : FuncData) (ps : List Str), FnK P w K mg base k f fd ps (spK ⟨K, ct⟩ kd) ∧ mg x = some (.ref f) ∧ PySem.W.keepIn K (.ref f) = true ∧ Binds K fd ps []
section
variable {X : Cx} {k : Nat} {f : Addr} {fd : FuncData} {ps : List Str} {sp : Addr × Obj → Sp} {x : Str} {q pos : Pos} {e : Expr} {es : List Expr} {t : TA} {p : Addr × Obj}
theorem FnK.runs {pins : List (Addr × Obj)} {σ : St} {H : Hp} {s : Shared} {Q : VK} {us : List Value} {vs : List V} (F : FnK X.prog X.w X.K X.mg X.base k f fd ps sp) (hr : RoomH k X.A) (hot : Hot1 X.A p) (hp : p ∈ X.pn) (hb : Binds X.K fd ps [])
    (tk : L2N.Takes X WF) (I : Inv X pins σ H s) (r : Vals vs us) (h : sp p vs H Q (WE WF σ)) : wpAny (model X.prog X.w) X.A (call (.ref f) us) (EP X pins σ Q) X.xe s := by
  have hl : us.length = ps.length := r.length.symm.trans (F.wide _ _ _ _ _ h)
  have hz := hb s us I.kIn (by simpa using hl)
  rw [List.append_nil] at hz
  have P1 := I.pin p (List.mem_append_left _ hp)
  have hpin : PinOk X.stack H s p := ⟨P1.1, P1.2.1, fun hm => (List.mem_cons.mp (I.stkSub p.1 hm)).elim P1.2.2.1 P1.2.2.2.1, P1.2.2.2.2⟩
  refine wpAny_call (codeAny_mono (F.goes X.A X.stack s H ⟨us, []⟩ us vs Q (WE WF σ) p hr hot hpin I.env0 hz r h) fun o s2 h2 => ?_)
  match o, h2 with
  | .error e, h2 => exact L2N.passAt tk σ pins H s e s2 I h2
  | .ok (.ret u), h2 => exact I.after h2
theorem pe_callK (F : FnK X.prog X.w X.K X.mg X.base k f fd ps sp) (hr : RoomH k X.A) (hot : Hot1 X.A p) (hp : p ∈ X.pn) (hg : Gl X x) (hm : X.mg x = some (.ref f)) (hk : PySem.W.keepIn X.K (.ref f) = true) (hb : Binds X.K fd ps []) (tk : L2N.Takes X WF)
    (ha : PA X (e :: es) t) (hd : (x == ("__debug__" : Str)) = false) (he : starEach (e :: es) X.env = (false, eval e X.env) :: starEach es X.env) (hl : (backTo pos (starEach es X.env)).any (·.1) = false) :
    PE X (.Call (.Name x q) (e :: es) [] pos) (tCallS (sp p) (WE WF) t) :=
  ⟨fun pins s σ H Q I h => wpAny_Call_Name_kw (ld_glob I hg hm (PySem.W.callWith_K (h₀ := X.base) I.ok.mod.kin hk (thn (ha.run pos pins s σ H _ I h) fun us s1 ⟨vs, H1, I1, r, q⟩ => ⟨I1.kIn, F.runs hr hot hp hb tk I1 r q⟩) he hl) hd)⟩
/-- isinstance of the handled exception -/
theorem call_isP {D : Addr} (hp : p ∈ X.pn) (C : ExcC X.K D) (hc : p.2.cls = .ref D) (hd : p.2.dict = none) (hf : ∃ us, p.2.data = .fields us) : CallR X (.builtin "isinstance") (rIsE X.K D p.1) := by
  rintro pins s σ H xs us Q I r ⟨c, cv, b, rfl, hcv, e, q⟩
  match us, r with
  | [u1, u2], .cons r1 (.cons r2 .nil) =>
    obtain rfl : u1 = Value.ref p.1 := r1
    obtain rfl := hcv _ r2
    have g1 := (I.pin p (List.mem_append.mpr (.inl hp))).1
    obtain ⟨ws, hv⟩ := hf
    have J : PySem.W.InstAt s.heap p.1 p.2 D none := by
      obtain ⟨a, oc, od, oda, osl⟩ := p
      dsimp only at hc hd hv g1
      subst hc hd hv
      exact ⟨g1, rfl, rfl, trivial⟩
    exact PySem.W.kia_one (PySem.W.handS_kitx_exc C.hg C.hk C.hs C.hd C.ha C.hn C.ht C.hm) I.kIn J e (fun z => nomatch z) fun tk => ⟨.bl b, H, I.kept (t' := tk) fun _ _ z => z, rfl, q⟩
end
/-- isinstance(error, C), error the exception at a -/
def gIsP (a : Addr) (isb : Addr → Option Bool) (ds : List D) (m : MH) : R D := match ds with
  | [.raw (.ref b), .raw (.ref c)] => if a = b then match isb c with
    | some r => .ok (.raw (.bl r)) m
    | none => .no else .no
  | _ => .no
theorem d_isP {Γ : Gm} {a D : Addr} {isb : Addr → Option Bool} (hk : ∀ c r, isb c = some r → PySem.W.kitOne Γ.K (.ref D) (.ref c) = some r) : CallD Γ (rIsE Γ.K D a) (gIsP a isb) := fun W σ xs ds H w m Q h r k => by
  unfold gIsP at k
  split at k
  · rename_i b c
    obtain ⟨hab, k1⟩ := kn_if k
    clear k
    subst hab
    match xs, r with
    | [x1, x2], .cons r1 (.cons r2 .nil) =>
      cases r1; cases r2
      cases q : isb c with
      | none => rw [q] at k1; exact k1.elim
      | some b =>
        rw [q] at k1
        exact ⟨.ref c, .ref c, b, rfl, fun u ru => ru, hk c b q, k1.here h (.raw _)⟩
  · exact k.elim
/-- try: .. except x as n: return kind(n) -/
def sTryK (i : Nat) (kd : Nat → Option Str) (B : SmS) : SmS := fun δ m => match B δ m with
  | .ex c [] m' => match kd c with
    | some z => if i < δ.length then .ok (.rt (.raw (.str z))) m' else .no
    | none => .no
  | .ex _ _ _ => .no
  | r => r
section
variable {X : Cx} {ct : Nat → Addr} {W : WX} {x n kn : Str} {c0 : Value} {i k : Nat} {body : List Stmt} {np q1 q2 q3 q4 pos pos' : Pos} {B : SmS} {kd : Nat → Option Str}
theorem ss_tryK (hs : X.stack = X.env :: X.outer) (hf : X.env.frame = some X.env.locals) (hN : X.N.Nodup) (hi : X.N[i]? = some n) (hln : X.env.kindOf n = some .local) (hc : Names X x c0) (tk : L2N.Takes X W) (FF : FK X.prog X.w X.K X.mg X.base ct k kn kd) (hr : RG k X.A)
    (ca : ∀ c z, kd c = some z → PySem.W.exmOne X.K (.ref (ct c)) c0 = some true) (hg : Gl X kn)
    (hb : ∀ (W : WX) (pn : List (Addr × Obj)) (xe : Value → Shared → Prop), L2N.Takes (X.tr pn xe) W → PassesOwn (model X.prog X.w) X.A X.env xe → SSs (X.tr pn xe) ct W body B)
    (hv : Vis X.env.scope n := by first | exact Or.inl rfl | exact Or.inr (Or.inl rfl)) (hd : (n == ("__debug__" : Str)) = false := by decide) (hcd : (n == ("__classdict__" : Str)) = false := by decide) (hkd : (kn == ("__debug__" : Str)) = false := by decide) :
    SS X ct W (.Try body [.ExceptHandler (some (.Name x np)) (some n) [.Return (some (.Call (.Name kn q1) [.Name n q2] [] q3)) q4] pos'] [] [] pos) (sTryK i kd B) := by
  obtain ⟨⟨f, fd, ps, FO, hm, hk, hbb⟩⟩ := FF
  refine ps_imp (L2N.ps_try_as (tb := fun W => tOfS ⟨X.K, ct⟩ W B) (Wout := W) (c := c0) (i := i)
    (ts := fun a cls d D σ H => ∃ c z, kd c = some z ∧ cls = .ref (ct c) ∧ d = none ∧ σ[i]? = some (some (.ref a)) ∧ ∃ w m, RH X.K H w m ∧ ∀ H' w', Ext w H w' H' → RH X.K H' w' m → D.rt (.str z) H') hs hf hN hi hln hc tk hb ?_) ?_
  · intro a oe cls d pn hz hfs
    have hot : Hot1 (X.suite a ((a, oe) :: pn)).A (a, oe) := by
      obtain ⟨us, e⟩ := hfs
      exact ⟨rfl, us, e, hz.2.2 us e⟩
    have hrH : RoomH k (X.suite a ((a, oe) :: pn)).A := ⟨hr.r.dp, hr.r.un⟩
    refine pss_one (ps_imp (ps_ret (pe_callK (p := (a, oe)) (t := tCons (tVar i) tNil) FO hrH hot List.mem_cons_self hg hm hk hbb takes0N (pa_cons (pe_var hi hv hd hcd) pa_nil) hkd rfl rfl)) ?_)
    rintro D σ H ⟨c, z, h1, h2, h3, h4, w, m, rh, h5⟩
    refine ⟨.ref a, h4, ?_⟩
    exact ⟨rfl, c, z, h1, rfl, hz.1.trans h2, hz.2.1.trans h3, hfs, w, m, rh, h5⟩
  · rintro D σ H ⟨w, m, δ, h, f', k1⟩
    refine ⟨w, m, δ, h, f', ?_⟩
    have k2 : KnS ⟨X.K, ct⟩ W σ.length w H (match B δ m with
      | .ex c [] m' => match kd c with
        | some z => if i < δ.length then .ok (.rt (.raw (.str z))) m' else .no
        | none => .no
      | .ex _ _ _ => .no
      | r => r) D := k1
    cases q : B δ m with
    | no => rw [q] at k2; exact k2
    | ok fl m1 => rw [q] at k2; cases fl <;> exact k2
    | ex c fs m1 =>
      rw [q] at k2
      cases fs with
      | cons a b => exact k2.elim
      | nil =>
        simp only at k2
        cases q2 : kd c with
        | none => rw [q2] at k2; exact k2.elim
        | some z =>
          rw [q2] at k2
          simp only at k2
          by_cases hiδ : i < δ.length
          rotate_left
          · rw [if_neg hiδ] at k2; exact k2.elim
          rw [if_pos hiδ] at k2
          intro σ' hl dx H' w' x rh hx
          refine ⟨true, ca c z q2, fun _ a na => ?_, fun z => Bool.noConfusion z⟩
          have hdx : dx = none := hx.elim (fun h => h.2) fun h => absurd rfl h.1
          have hil : i < σ'.length := by rw [hl, f'.1]; exact hiδ
          exact ⟨c, z, q2, rfl, hdx, List.getElem?_set_self hil, w', m1, rh, fun H2 w2 x2 rh2 => k2 _ H2 w2 (x.trans x2) rh2 (.raw _)⟩
end
theorem lookupN_mem {α : Type} : ∀ {l : List (Nat × α)} {z : Nat} {r : α}, l.lookup z = some r → (z, r) ∈ l
  | (k, v) :: l, z, r, h => by
    rw [List.lookup_cons] at h
    cases q : z == k with
    | true =>
      rw [q] at h
      cases h
      have : z = k := by simpa using q
      subst this
      exact List.mem_cons_self
    | false => rw [q] at h; exact List.mem_cons_of_mem _ (lookupN_mem h)
theorem isP1 {K : PySem.W.Frag} {D C : Addr} {b : Bool} (h : PySem.W.kitOne K (.ref D) (.ref C) = some b) : ∀ c r, (if c = C then some b else none) = some r → PySem.W.kitOne K (.ref D) (.ref c) = some r := fun c r e => by
  by_cases z : c = C
  · subst z
    rw [if_pos rfl] at e
    cases e
    exact h
  · rw [if_neg z] at e; cases e
theorem FK.mk' {P : Program} {w : World} {K : PySem.W.Frag} {mg : Str → Option Value} {base : Heap} {ct : Nat → Addr} {x qual p1 : Str} {st : Stmt} {f : Addr} {fd : FuncData} {N : List Str} {kd : Nat → Option Str} {bd : Addr → (Nat → Addr) → Nat → SmS}
    (F : Fun K x qual st f fd) (hm : mg x = some (.ref f)) (hb : Binds K fd [p1] []) (S : FnScope N [p1] (defScope st))
    (ev : ∀ {a : Addr} {c : Nat} {z : Str}, kd c = some z → ∀ m, bd a ct c (some (.raw (.ref a)) :: List.replicate (N.length - 1) none) m = .ok (.rt (.raw (.str z))) m)
    (h : ∀ (cdv : Value) (A : Around) (outer : List Env) (s : Shared) (H : Hp) (E : XK) (p : Addr × Obj) (c : Nat) (z : Str), (cxH (L2N.CX P w) P w K mg base N qual (defScope st) f cdv A outer s H E p).A.units + 64 < cLine →
      p.2.cls = .ref (ct c) → p.2.dict = none → (∃ us, p.2.data = .fields us) → kd c = some z →
      SSs (cxH (L2N.CX P w) P w K mg base N qual (defScope st) f cdv A outer s H E p) ct WF (defBody st) (bd p.1 ct c)) : FK P w K mg base ct 1 x kd := by
  refine ⟨f, fd, [p1], ?_, hm, F.kp, hb⟩
  obtain ⟨oc, od, kV, doc, pm, an, cdv, ctv, osl, rfl, lk, hcd⟩ := F.ex
  refine fnK_of (k := 0) lk hcd S (fun p vs H Q E h => h.1) fun A outer s H vs Q E p hr hsp => ?_
  obtain ⟨hl, c, z, h1, rfl, h3, h4, h5, w1, m, rh, k1⟩ := hsp
  have hu := hr.un
  refine ⟨_, h cdv A outer s H E p c z (by
    show (A.deeper (envOfC qual (defScope st) s.heap.objs.size f cdv)).units + 64 < cLine
    omega) h3 h4 h5 h1, ?_⟩
  refine ⟨w1, m, some (.raw (.ref p.1)) :: List.replicate (N.length - 1) none, rh, ⟨by simp [L2.start], fun i d hi => ?_⟩, ?_⟩
  · cases i with
    | zero =>
      simp at hi
      subst hi
      exact ⟨.ref p.1, by simp [L2.start], .raw _⟩
    | succ i =>
      rw [List.getElem?_cons_succ, List.getElem?_replicate] at hi
      split at hi <;> cases hi
  · rw [ev h1 m]
    intro v H' w' x rh' rd
    cases rd
    exact k1 H' w' x rh'
/-- what evaluates a suite's telling -/
theorem evK : True := trivial
end Sm

set_option Elab.async false
set_option linter.all false
set_option maxRecDepth 100000
/-! Sm: the end. -/
namespace Sm
open PySem PySem.Spec L2
open PyProof.Rows (AllBare IntsAre)
abbrev scrD (ns : List Int) : D := .scr (ns.map fun i => .raw (.int i))
theorem rds_raw {K : PySem.W.Frag} {H : Hp} {w : Wd} : ∀ ns : List Int, RDs K H w (ns.map V.int) (ns.map fun i => D.raw (.int i))
  | [] => .nil
  | _ :: ns => .cons (.raw _) (rds_raw ns)
section
variable {P : Program} {w : World} {K : PySem.W.Frag} {mg mb : Str → Option Value} {ct : Nat → Addr} {k : Nat} {fa a : Addr} {fd : FuncData} {x : Str} {mf : List D → MH → R D} {s₁ : Shared} {vs : List Value} {ns : List Int}
/-- from what is tracked -/
theorem goes_from (KX : K.In s₁.heap) (hns : s₁.heap.Ns mainGlobals mg) (hb : s₁.heap.Ns builtinsNs mb) (hbb : ∀ x : Str, x ≠ "__name__" → mb x = bootBuiltins x) (hlim : s₁.heap.NoLimit) (hg : s₁.gens = #[])
    (ha : s₁.heap.get? a = some { cls := .type "list", data := .seq vs.toArray }) (hr : RG k callerA)
    (F : ∀ base : Heap, K.In base → base.Ns mainGlobals mg → FnG P w K mg base k fa fd [x] (spM ⟨K, ct⟩ 1 mf)) (hbind : ∀ (s : Shared) (u : Value), BindsTo s fd ⟨[u], []⟩ [(x, u)])
    (hm : ∃ m', mf [scrD ns] [] = .ok (.raw (.bl true)) m')
    (H : Hp) (hS : FzL K H ⟨[], []⟩ a (ns.map V.int)) (hok : HOk P w H s₁.heap) (hA : ∀ b, H b ≠ none → b = a) (hK : H a ≠ none → K.lookup a = none) (hO : ∀ b u, H b = some u → ∃ o z, H b = some (.frz o z)) :
    codeAny (model P w) callerA (.call (.ref fa) ⟨[.ref a], []⟩) (fun r s' => r = .ok (.ret (.bool true)) ∧ OldK s₁.heap s'.heap ∧ s'.os = s₁.os ∧ AllBare s'.gens) s₁ := by
  have atA : ∀ {b : Addr}, (∀ e : b = a, False) → H b = none := fun {b} n => by
    cases q : H b with
    | none => rfl
    | some u => exact (n (hA b (by rw [q]; simp))).elim
  have low : ∀ {b : Addr} {o : Obj}, s₁.heap.get? b = some o → H b = none → (hidT s₁.heap H).get? b = some o := fun e n => hidT_get e n
  have ns' : ∀ {b : Addr} {m : Str → Option Value}, s₁.heap.Ns b m → (hidT s₁.heap H).Ns b m := fun {b m} ⟨o, es, ep, e, d, r⟩ => ⟨o, es, ep, low e (atA fun z => by
    subst z
    rw [ha] at e
    cases e
    cases (show Data.seq vs.toArray _ = Data.dict es ep from d)), d, r⟩
  have lim' : (hidT s₁.heap H).NoLimit := by
    obtain ⟨mc, h1, h2⟩ := hlim
    exact ⟨mc, ns' h1, h2⟩
  have kin : K.In (hidT s₁.heap H) := fun b o e => by
    refine low (KX b o e) ?_
    cases q : H b with
    | none => rfl
    | some u =>
      have z := hA b (by rw [q]; simp)
      subst z
      rw [hK (by rw [q]; simp)] at e
      cases e
  have e0 : Env0 P w K mg (hidT s₁.heap H) callerA [] s₁ H :=
    ⟨rfl, ⟨kin, ns' hns, ⟨mb, ns' hb, hbb⟩, lim'⟩, fun b o e => of_hidT e, Nat.le_of_eq (hidT_size _ _), trivial, fun b hb => (nomatch hb), hok, .of_eq hg⟩
  obtain ⟨m', em⟩ := hm
  have sp : spM ⟨K, ct⟩ 1 mf [.ref a] H (fun v _ => v = .bl true) (fun _ _ _ => False) := by
    refine ⟨rfl, ⟨[], []⟩, [], [scrD ns], ⟨rfl, List.nodup_nil, fun _ h => (nomatch h), fun _ h => (nomatch h), fun n b mo h => by simp at h⟩, .cons (.scr hS (rds_raw ns)) .nil, ?_⟩
    rw [em]
    intro v H' w' _ _ rd
    cases rd
    rfl
  refine codeAny_mono ((F _ kin (ns' hns)).goes callerA [] s₁ H ⟨[.ref a], []⟩ [.ref a] [.ref a] _ _ hr e0 (hbind s₁ (.ref a)) (.cons rfl .nil) sp) fun r s2 h => ?_
  match r, h with
  | .error e, h =>
    obtain ⟨_, _, _, _, _, _, _, _, _, _, _, _, z⟩ := h
    exact z.elim
  | .ok (.ret u), ⟨v, H', os, bare, un, hok', rv, q⟩ =>
    have q' : v = .bl true := q
    subst q'
    obtain rfl : u = Value.bool true := rv
    refine ⟨rfl, OldK.of_keep fun b o e => ?_, os, bare⟩
    cases q : H b with
    | none => exact un.keep b o e q (fun z => nomatch z) (fun z => nomatch z)
    | some u =>
      obtain ⟨ob, z, e3⟩ := hO b u q
      obtain ⟨e1, _⟩ := hok b _ e3
      obtain ⟨e2, _⟩ := hok' b _ (un.frzs b ob _ e3)
      rw [e] at e1
      cases e1
      exact e2
theorem call_end (KX : K.In s₁.heap) (hns : s₁.heap.Ns mainGlobals mg) (hb : s₁.heap.Ns builtinsNs mb) (hbb : ∀ x : Str, x ≠ "__name__" → mb x = bootBuiltins x) (hlim : s₁.heap.NoLimit) (hg : s₁.gens = #[])
    (ha : s₁.heap.get? a = some { cls := .type "list", data := .seq vs.toArray }) (hi : IntsAre vs ns) (hl : ns.length ≤ sizeLine) (hr : RG k callerA)
    (F : ∀ base : Heap, K.In base → base.Ns mainGlobals mg → FnG P w K mg base k fa fd [x] (spM ⟨K, ct⟩ 1 mf)) (hbind : ∀ (s : Shared) (u : Value), BindsTo s fd ⟨[u], []⟩ [(x, u)])
    (hm : ∃ m', mf [scrD ns] [] = .ok (.raw (.bl true)) m') :
    codeAny (model P w) callerA (.call (.ref fa) ⟨[.ref a], []⟩) (fun r s' => r = .ok (.ret (.bool true)) ∧ OldK s₁.heap s'.heap ∧ s'.os = s₁.os ∧ AllBare s'.gens) s₁ := by
  have rv := vals_ints hi
  have hlv := hi.length
  have go := goes_from (ns := ns) KX hns hb hbb hlim hg ha hr F hbind hm
  by_cases hk : K.lookup a = none
  · refine go (fun b => if b = a then some (.frz { cls := .type "list", data := .seq vs.toArray } (.lst (ns.map V.int))) else none) (.inl ⟨_, if_pos rfl, fun z => (nomatch z), fun z => (nomatch z)⟩) (fun b u z => ?_) (fun b z => ?_) (fun _ => hk) fun b u z => ?_
    all_goals (try dsimp only at z)
    all_goals by_cases hb' : b = a
    · subst hb'
      rw [if_pos rfl] at z
      cases z
      exact ⟨ha, by rw [List.length_map]; exact hl, vs, _, rv, ha⟩
    · rw [if_neg hb'] at z; cases z
    · exact hb'
    · exact absurd (if_neg hb') z
    · exact ⟨_, _, by rw [if_pos hb']⟩
    · rw [if_neg hb'] at z; cases z
  · obtain ⟨o, ho⟩ := Option.ne_none_iff_exists'.mp hk
    have e := KX a o ho
    rw [ha] at e
    cases e
    refine go (fun _ => none) (.inr ⟨_, vs.toArray, _, ho, rfl, rfl, rfl, by rw [List.size_toArray, hlv]; exact hl, by simpa using rv⟩) (fun b u z => nomatch z) (fun b z => absurd rfl z) (fun z => absurd rfl z) fun b u z => nomatch z
end
theorem rg_caller {k : Nat} (h : Room k callerA) : RG k callerA := ⟨h, rfl⟩
theorem kit_self {K : PySem.W.Frag} {C : Addr} : PySem.W.kitOne K (.ref C) (.ref C) = some true := if_pos (beq_self_eq_true _)
theorem kit_ne {K : PySem.W.Frag} {C D : Addr} {b : Bool} (n : (D == C) = false) (hd : PySem.W.hasDictIn K C = true) (ty : PySem.W.typeIn K (.ref C) = some (.type "type")) (h : PySem.W.subIn K (.ref D) (.ref C) = some b) : PySem.W.kitOne K (.ref D) (.ref C) = some b := by
  have n2 : ¬ ((Value.ref D == Value.ref C) = true) := fun e => by
    have := beq_iff_eq.mp e
    cases this
    simp at n
  obtain ⟨cd, hc, _⟩ := PySem.W.any_some hd
  have e2 : ((PySem.W.clsIn K C).isSome && PySem.W.typeIn K (.ref C) == some (.type "type")) = true := by
    rw [hc, ty]
    rfl
  exact (if_neg n2).trans ((if_pos e2).trans h)
/-- the goal that k_head leaves, from the law's plain reading -/
theorem walk_ofG {l : PySem.W.OpenLaw} {n k : Nat} {q : Program} {loose : List Str} {XP : (Str → Option Value) → Heap → Prop} {YP : World → Heap → Prop} {d : DefRec} {K : Params → PySem.W.Frag} {x : Str}
    (hn : l.most = some n) (hn2 : n ≤ sizeLine) (hdf : d.params.defaults = []) (hr : Room k callerA) (hY : ∀ (w : World) (h : Heap), YP w h → (K w.params).In h)
    (F : ∀ (w : World) (mg : Str → Option Value) (fa : Addr) (h : Heap), (K w.params).In h → h.Ns mainGlobals mg → mg d.name = some (.ref fa) →
      ∃ (fd : FuncData) (ct : Nat → Addr) (mf : List D → MH → R D), (∀ (s : Shared) (u : Value), BindsTo s fd ⟨[u], []⟩ [(x, u)]) ∧ (∀ ns : List Int, ns.length ≤ n → ∃ m', mf [scrD ns] [] = .ok (.raw (.bl true)) m') ∧
        ∀ base : Heap, (K w.params).In base → base.Ns mainGlobals mg → FnG l.prog w (K w.params) mg base k fa fd [x] (spM ⟨K w.params, ct⟩ 1 mf)) :
    PySem.W.WalkO q loose XP YP l.row.toRowW d [] (fun f vs => PySem.call f vs) := by
  refine Att.attach_call hn hdf fun w s₀ s₁ mg mb fa o pm cd doc a vs ns G Y ho hd hcd hmg hobj hints hlen hg => ?_
  have KX := hY w _ Y
  obtain ⟨fd, ct, mf, hb, hm, hF⟩ := F w mg fa _ KX G.T.g hmg
  exact call_end KX G.T.g G.T.b G.T.builtins G.T.nolimit hg hobj hints (Nat.le_trans hlen hn2) (rg_caller hr) hF hb (hm ns hlen)
end Sm

set_option Elab.async false
set_option linter.all false
set_option maxRecDepth 100000
set_option maxHeartbeats 4000000
/-! Sm: t * 1. -/
namespace Sm
open PySem PySem.Spec L2
theorem tuple_mul1 (l : Addr) (its : Array Value) (n : Nat) (dd : Option Addr) (sl : Array (Option Value)) (u : Tok) :
    Meets (Builtin.«tuple.__mul__» ⟨[.ref l, .int 1 u], []⟩) (fun _ R s => s.heap.get? l = some { cls := .type "tuple", dict := dd, data := .seq its n, slots := sl } ∧ R (.ok (.ret (.ref l))) s) :=
  .of_wp fun prog w A R s h => by
    obtain ⟨hp, g, d, tk, os⟩ := s
    obtain ⟨hl, h⟩ := h
    have f1 := AutoSeq1.idx_int
    wp_walk using wpAny_loadPart' hl
    repeat (first
      | (refine wpAny_ite_false (decide_eq_false (by decide)) ?_; wp_walk using wpAny_loadPart' hl)
      | (refine wpAny_ite_true (decide_eq_true (by simp)) ?_; wp_walk using wpAny_loadPart' hl))
    exact ⟨_, rfl, h⟩
def rRep1 (K : PySem.W.Frag) : R2 := fun x y H Q => ∃ l xs, x = .ref l ∧ y = .int 1 ∧ SqT K H l xs ∧ Q (.ref l) H
section
variable {X : Cx} {Γ : Gm}
theorem op_rep1 : OpR X (binaryOp .Mult) (rRep1 X.K) := by
  rintro pins s σ H x y v u Q I rx ry ⟨l, xs, rfl, rfl, hT, q⟩
  obtain rfl : v = Value.ref l := rx
  obtain ⟨t, rfl⟩ := (show ∃ t, u = Value.int 1 t from ry)
  obtain ⟨its, r, ⟨⟨cls, dd, data, sl⟩, ho, hc, n, hd⟩, hs⟩ := I.tuple hT
  simp only at hc hd
  subst hc hd
  refine wpAny_binaryOp_repeat_ref (T := "tuple") (U := "int") (by decide) ⟨_, ho, rfl⟩ (fun s' => typeIs_int s' 1 t) noFill_tuple_mul F.fills_int_mul F.slot_int_rmul repeat_tuple F.slot_int_index.lookup ?_
  refine call_meets F.slot_int_rmul (typeIs_int s 1 t) F.entry_int_rmul (F.args_int_rmul_2 _ _) (int_rmul_tuple 1 t l its.toArray n dd sl) ⟨ho, rfl, ⟨_, ho, rfl⟩, ?_⟩
  exact call_meets F.slot_tuple_mul ⟨_, ho, rfl⟩ F.entry_tuple_mul (F.args_tuple_mul_2 _ _) (tuple_mul1 l its.toArray n dd sl t) ⟨ho, .ref l, H, I, rfl, q⟩
def gMulT (d e : D) (m : MH) : R D := match d, e with
  | .tup ds, .raw (.int k) => if k = 1 then .ok (.tup ds) m else gMul (.tup ds) (.raw (.int k)) m
  | d, e => gMul d e m
def rMulT (K : PySem.W.Frag) : R2 := fun x y H Q => rRep1 K x y H Q ∨ rMulU K x y H Q
theorem op_mulT : OpR X (binaryOp .Mult) (rMulT X.K) := Sm.OpR.or op_rep1 op_mulU
theorem d_mulT : OpD Γ (rMulT Γ.K) gMulT := fun W σ x y d e H w m Q h rx ry k => by
  unfold gMulT at k
  split at k
  · rename_i ds j
    by_cases hj : j = 1
    · rw [if_pos hj] at k
      subst hj
      cases ry
      cases rx with
      | @tup a xs ds f r => exact .inl ⟨a, xs, rfl, rfl, f.sq, k.here h (.tup f r)⟩
    · rw [if_neg hj] at k
      exact .inr (d_mulU W σ x y _ _ H w m Q h rx ry k)
  · exact .inr (d_mulU W σ x y d e H w m Q h rx ry k)
end
end Sm

set_option Elab.async false
set_option linter.all false
set_option maxRecDepth 100000
/-! Sm: how the plain functions are evaluated. -/
namespace Sm
open PySem PySem.Spec L2
@[simp] theorem bnd_ok {α β : Type} (a : α) (m : MH) (f : α → MH → R β) : (R.ok a m).bnd f = f a m := rfl
@[simp] theorem bnd_no {α β : Type} (f : α → MH → R β) : (R.no : R α).bnd f = .no := rfl
@[simp] theorem bnd_ex {α β : Type} (c : Nat) (fs : List (Str × D)) (m : MH) (f : α → MH → R β) : (R.ex c fs m : R α).bnd f = .ex c fs m := rfl
@[simp] theorem gAnd_ok' {β : Type} (a : Fr) (m : MH) (f : Fr → MH → R β) : gAnd (R.ok a m) f = f a m := rfl
@[simp] theorem oAnd_ok' {α β : Type} (a : α) (m : MH) (f : α → MH → R β) : oAnd (R.ok a m) f = f a m := rfl
theorem z16 : sizeLine = 16777216 := sizeLine_eq
/-! comprehensions -/
theorem cmpL_of {α : Type} {G : SmG} {T : Fr → MH → R Bool} {E : Fr → MH → R D} {δ : Fr} {m : MH} (enc : α → D) (f : α → D) : ∀ (xs : List α), (∀ x ∈ xs, ∃ δ1, G (enc x) δ m = .ok δ1 m ∧ T δ1 m = .ok true m ∧ E δ1 m = .ok (f x) m) →
    cmpL G T E δ (xs.map enc) m = .ok (xs.map f) m
  | [], _ => rfl
  | x :: xs, h => by
    obtain ⟨δ1, h1, h2, h3⟩ := h x List.mem_cons_self
    rw [List.map_cons, List.map_cons]
    unfold cmpL
    rw [h1, gAnd_ok', h2, oAnd_ok', if_pos rfl, h3, oAnd_ok', cmpL_of enc f xs fun y hy => h y (List.mem_cons_of_mem _ hy)]
    rfl
theorem lcF_of {α : Type} {vs : List Nat} {I : Fr → MH → R (List D)} {G : SmG} {T : Fr → MH → R Bool} {E : Fr → MH → R D} {δ : Fr} {m m1 : MH} (enc : α → D) (f : α → D) (xs : List α) (hi : I δ m = .ok (xs.map enc) m1) (hl : xs.length ≤ sizeLine)
    (h : ∀ x ∈ xs, ∃ δ1, G (enc x) (wipeF δ vs) m1 = .ok δ1 m1 ∧ T δ1 m1 = .ok true m1 ∧ E δ1 m1 = .ok (f x) m1) : lcF vs I G T E δ m = .ok (xs.map f) m1 := by
  unfold lcF
  rw [hi, bnd_ok, if_pos (by rw [List.length_map]; exact hl), cmpL_of enc f xs h]
  rfl
/-! calls -/
theorem clo_ren {d : D} (h : clo d = true) (os : List Nat) : renD os d = some d := by
  cases d with
  | obj n => simp [clo] at h
  | raw v => exact if_pos (e := none) h
  | tup ds => exact if_pos (e := none) h
  | lst ds => exact if_pos (e := none) h
  | scr ds => exact if_pos (e := none) h
theorem cloL_ren : ∀ {ds : List D}, cloL ds = true → ∀ os, renL os ds = some ds
  | [], _, _ => rfl
  | d :: ds, h, os => by
    simp only [cloL, Bool.and_eq_true] at h
    unfold renL
    rw [clo_ren h.1, cloL_ren h.2]
theorem cloL_objs : ∀ {ds : List D}, cloL ds = true → ∀ os, objsOf ds os = os
  | [], _, _ => rfl
  | d :: ds, h, os => by
    simp only [cloL, Bool.and_eq_true] at h
    cases d with
    | obj n => simp [clo] at h
    | raw v => unfold objsOf; exact cloL_objs h.2 os
    | tup _ => unfold objsOf; exact cloL_objs h.2 os
    | lst _ => unfold objsOf; exact cloL_objs h.2 os
    | scr _ => unfold objsOf; exact cloL_objs h.2 os
mutual
theorem frz_clo {k : Nat} {m : MH} : ∀ {d : D}, clo d = true → frz k m d = some d
  | .raw v, _ => by simp only [frz]
  | .tup ds, h => by simp only [frz, frzL_clo (show cloL ds = true by simpa [clo] using h), Option.map_some]
  | .lst ds, h => by simp only [frz, frzL_clo (show cloL ds = true by simpa [clo] using h), Option.map_some]
  | .scr ds, h => by simp only [frz, frzL_clo (show cloL ds = true by simpa [clo] using h), Option.map_some]
  | .obj n, h => by simp [clo] at h
theorem frzL_clo {k : Nat} {m : MH} : ∀ {ds : List D}, cloL ds = true → frzL k m ds = some ds
  | [], _ => by simp only [frzL]
  | d :: ds, h => by
    simp only [cloL, Bool.and_eq_true] at h
    simp only [frzL, frz_clo h.1, frzL_clo h.2]
end
/-- a call with no objects among the arguments, by what comes -/
theorem call_ok {mf : List D → MH → R D} {ds : List D} {m m' : MH} {d d' : D} (hc : cloL ds = true) (h : mf ds [] = .ok d m') (hd : frz 0 m' d = some d') : callM false mf ds m = .ok d' m := by
  unfold callM
  rw [cloL_objs hc, cloL_ren hc]
  simp only [subM, h, putM, List.length_nil]
  have e : backD [] m' d = some d' := by
    cases d with
    | obj j => simp only [backD, List.getElem?_nil]; exact hd
    | raw v => exact hd
    | tup _ => exact hd
    | lst _ => exact hd
    | scr _ => exact hd
  simp [e]
theorem call_okc {mf : List D → MH → R D} {ds : List D} {m m' : MH} {d : D} (hc : cloL ds = true) (h : mf ds [] = .ok d m') (hd : clo d = true) : callM false mf ds m = .ok d m := call_ok hc h (frz_clo hd)
theorem call_ex {mf : List D → MH → R D} {nw : Bool} {ds : List D} {m m' : MH} {c : Nat} (hc : cloL ds = true) (h : mf ds [] = .ex c [] m') : callM nw mf ds m = .ex c [] m := by
  unfold callM
  rw [cloL_objs hc, cloL_ren hc]
  simp [subM, h, putM, cloF, cloL]
/-- .. its new list is ours -/
theorem call_new {mf : List D → MH → R D} {ds : List D} {m m' : MH} {j : Nat} {es : List D} (hc : cloL ds = true) (h : mf ds [] = .ok (.obj j) m') (hj : m'[j]? = some (.lst es)) (he : cloL es = true) : callM true mf ds m = .ok (.obj m.length) (m ++ [.lst es]) := by
  unfold callM
  rw [cloL_objs hc, cloL_ren hc]
  simp [subM, h, putM, newD, hj, he]
/-- one object, ahead of the others -/
theorem call_obj {mf : List D → MH → R D} {nw : Bool} {ds : List D} {m : MH} {n : Nat} {es : List D} (hc : cloL ds = true) (hn : m[n]? = some (.lst es)) (he : cloL es = true) :
    callM nw mf (.obj n :: ds) m = match mf (.obj 0 :: ds) [.lst es] with
      | .no => .no
      | .ok d m' => match putM [n] m' m with
        | none => .no
        | some m2 => if nw = true then (match newD 1 m' d with
            | some es => .ok (.obj m2.length) (m2 ++ [.lst es])
            | none => .no) else match backD [n] m' d with
          | some d' => .ok d' m2
          | none => .no
      | .ex c fs m' => match putM [n] m' m with
        | none => .no
        | some m2 => if cloF fs = true then .ex c fs m2 else .no := by
  have e1 : objsOf (.obj n :: ds) [] = [n] := by
    unfold objsOf
    rw [if_neg (by simp)]
    exact cloL_objs hc _
  unfold callM
  rw [e1]
  have e2 : renL [n] (.obj n :: ds) = some (.obj 0 :: ds) := by
    unfold renL
    rw [cloL_ren hc]
    simp [renD, List.idxOf?, List.findIdx?_cons]
  rw [e2]
  simp only [subM, hn, cloO, he, if_true]
  rfl
theorem call_objok {mf : List D → MH → R D} {ds : List D} {m m' : MH} {n : Nat} {es es' : List D} {d : D} (hc : cloL ds = true) (hn : m[n]? = some (.lst es)) (he : cloL es = true) (h : mf (.obj 0 :: ds) [.lst es] = .ok d (.lst es' :: m')) (he' : cloL es' = true) (hd : clo d = true) :
    callM false mf (.obj n :: ds) m = .ok d (m.set n (.lst es')) := by
  rw [call_obj hc hn he, h]
  have e : backD [n] (.lst es' :: m') d = some d := by
    cases d with
    | obj j => simp [clo] at hd
    | raw v => exact frz_clo hd
    | tup _ => exact frz_clo hd
    | lst _ => exact frz_clo hd
    | scr _ => exact frz_clo hd
  simp [putM, cloO, he', e]
theorem runF_ok {n p : Nat} {body : SmS} {ds : List D} {m m' : MH} {d : D} (hl : ds.length = p) (h : body (ds.map some ++ List.replicate (n - ds.length) none) m = .ok (.rt d) m') : runF n p body ds m = .ok d m' := by
  unfold runF
  rw [if_pos hl, h]
section
variable {A B C : Fr → MH → R D} {As : Fr → MH → R (List D)} {S T : Fr → MH → R Bool} {δ : Fr} {m : MH} {g g' : D → D → MH → R D} {d e : D} {F G : SmS} {i j : Nat}
@[simp] theorem q_var : eVar i δ m = match δ[i]? with | some (some d) => .ok d m | _ => .no := rfl
@[simp] theorem q_C : eC d δ m = .ok d m := rfl
@[simp] theorem q_2 : e2 g A B δ m = (A δ m).bnd fun d m1 => (B δ m1).bnd fun e m2 => g d e m2 := rfl
@[simp] theorem q_1 {g : D → MH → R D} : e1 g A δ m = (A δ m).bnd g := rfl
@[simp] theorem q_nil : aNil δ m = .ok [] m := rfl
@[simp] theorem q_cons : aCons A As δ m = (A δ m).bnd fun d m1 => (As δ m1).bnd fun ds m2 => .ok (d :: ds) m2 := rfl
@[simp] theorem q_star : aStar A As δ m = (A δ m).bnd fun d m1 => match seqOf m1 d with | some ds => (As δ m1).bnd fun es m2 => .ok (ds ++ es) m2 | none => .no := rfl
@[simp] theorem q_A {g : List D → MH → R D} : eA g As δ m = (As δ m).bnd g := rfl
@[simp] theorem q_val : bVal A δ m = (A δ m).bnd toB := rfl
@[simp] theorem q_toB {b : Bool} : toB (.raw (.bl b)) m = .ok b m := rfl
@[simp] theorem q_bTru : bTru A δ m = (A δ m).bnd toT := rfl
@[simp] theorem q_toT {b : Bool} : toT (.raw (.bl b)) m = .ok b m := rfl
@[simp] theorem q_toTi {b : Int} : toT (.raw (.int b)) m = .ok (b != 0) m := rfl
@[simp] theorem q_toTt {ds : List D} : toT (.tup ds) m = .ok (!ds.isEmpty) m := rfl
@[simp] theorem q_toTl {ds : List D} : toT (.lst ds) m = .ok (!ds.isEmpty) m := rfl
@[simp] theorem q_not : bNot S δ m = (S δ m).bnd fun b m1 => .ok (!b) m1 := rfl
@[simp] theorem q_and : bAnd S T δ m = (S δ m).bnd fun b m1 => if b = true then T δ m1 else .ok false m1 := rfl
@[simp] theorem q_or : bOr S T δ m = (S δ m).bnd fun b m1 => if b = true then .ok true m1 else T δ m1 := rfl
@[simp] theorem q_if : eIf S A B δ m = (S δ m).bnd fun b m1 => if b = true then A δ m1 else B δ m1 := rfl
@[simp] theorem q_eAnd : eAnd A B δ m = (A δ m).bnd fun d m1 => (toT d m1).bnd fun b m2 => if b = true then B δ m2 else .ok d m2 := rfl
@[simp] theorem q_eOr : eOr A B δ m = (A δ m).bnd fun d m1 => (toT d m1).bnd fun b m2 => if b = true then .ok d m2 else B δ m2 := rfl
@[simp] theorem q_eNot : eNot A δ m = (A δ m).bnd fun d m1 => (toT d m1).bnd fun b m2 => .ok (.raw (.bl (!b))) m2 := rfl
@[simp] theorem q_gTup {ds : List D} : gTup ds m = if ds.length ≤ sizeLine then .ok (.tup ds) m else .no := rfl
@[simp] theorem q_gLst {ds : List D} : gLst ds m = if ds.length ≤ sizeLine then .ok (.lst ds) m else .no := rfl
@[simp] theorem q_gNew {ds : List D} : gNew ds m = if ds.length ≤ sizeLine then .ok (.obj m.length) (m ++ [.lst ds]) else .no := rfl
@[simp] theorem q_gI {c : Int → Int → Bool} {f : Int → Int → V} {x y : Int} : gI c f (.raw (.int x)) (.raw (.int y)) m = if c x y = true then .ok (.raw (f x y)) m else .no := rfl
@[simp] theorem q_cT {x y : Int} : cT x y = true := rfl
@[simp] theorem q_neg {x : Int} : gNeg (.raw (.int x)) m = .ok (.raw (.int (-x))) m := rfl
@[simp] theorem q_seq : sSeq F G δ m = (F δ m).bnd fun f m1 => match f with | .nx δ1 => G δ1 m1 | f => .ok f m1 := rfl
@[simp] theorem q_next : sNext δ m = .ok (.nx δ) m := rfl
@[simp] theorem q_brk : sBrk δ m = .ok (.bk δ) m := rfl
@[simp] theorem q_ct : sCt δ m = .ok (.ct δ) m := rfl
@[simp] theorem q_ret : sRet A δ m = (A δ m).bnd fun d m1 => .ok (.rt d) m1 := rfl
@[simp] theorem q_do : sDo A δ m = (A δ m).bnd fun _ m1 => .ok (.nx δ) m1 := rfl
@[simp] theorem q_sIf : sIf S F G δ m = (S δ m).bnd fun b m1 => if b = true then F δ m1 else G δ m1 := rfl
@[simp] theorem q_gN : gN i d δ m = .ok (δ.set i (some d)) m := rfl
@[simp] theorem q_asg {G : SmG} : sAsg A G δ m = (A δ m).bnd fun d m1 => gAnd (G d δ m1) fun δ1 m2 => .ok (.nx δ1) m2 := rfl
@[simp] theorem q_gsNil : gsNil [] δ m = .ok δ m := rfl
@[simp] theorem q_gsCons {G : SmG} {Gs : SmGs} {ds : List D} : gsCons G Gs (d :: ds) δ m = gAnd (G d δ m) fun δ1 m1 => Gs ds δ1 m1 := rfl
@[simp] theorem q_gT {n : Nat} {Gs : SmGs} {ds : List D} : gT n Gs (.tup ds) δ m = if ds.length = n then Gs ds δ m else .no := rfl
@[simp] theorem q_par : sPar i j As δ m = (As δ m).bnd (par2 i j δ) := rfl
@[simp] theorem q_par2 {d e : D} : par2 i j δ [d, e] m = .ok (.nx ((δ.set i (some d)).set j (some e))) m := rfl
@[simp] theorem q_raise {c : Nat} : sRaise c δ m = .ex c [] m := rfl
@[simp] theorem q_call {nw : Bool} {mf : List D → MH → R D} : eCall nw mf As δ m = (As δ m).bnd (callM nw mf) := rfl
@[simp] theorem q_for {I : Fr → MH → R (List D)} {G : SmG} {B : SmS} : sFor I G B δ m = (I δ m).bnd fun ds m1 => forL G B ds δ m1 := rfl
@[simp] theorem q_iA {g : List D → MH → R (List D)} : iA g As δ m = (As δ m).bnd g := rfl
@[simp] theorem q_iD : iD A δ m = (A δ m).bnd itD := rfl
@[simp] theorem q_itT {ds : List D} : itD (.tup ds) m = .ok ds m := rfl
@[simp] theorem q_itL {ds : List D} : itD (.lst ds) m = .ok ds m := rfl
@[simp] theorem q_itS {ds : List D} : itD (.scr ds) m = .ok ds m := rfl
@[simp] theorem q_bTrue : bTrue δ m = .ok true m := rfl
@[simp] theorem q_eLc {L : Fr → MH → R (List D)} : eLc L δ m = (L δ m).bnd fun es m1 => .ok (.lst es) m1 := rfl
@[simp] theorem q_chain : eChain g g' A B C δ m = (A δ m).bnd fun x m1 => (B δ m1).bnd fun y m2 => (g x y m2).bnd fun z m3 => chB z m3 fun m4 => (C δ m4).bnd fun w m5 => g' y w m5 := rfl
@[simp] theorem q_chBt {f : MH → R D} : chB (.raw (.bl true)) m f = f m := rfl
@[simp] theorem q_chBf {f : MH → R D} : chB (.raw (.bl false)) m f = .ok (.raw (.bl false)) m := rfl
@[simp] theorem q_lenT {ds : List D} : gLen [.tup ds] m = .ok (.raw (.int ds.length)) m := rfl
@[simp] theorem q_lenL {ds : List D} : gLen [.lst ds] m = .ok (.raw (.int ds.length)) m := rfl
@[simp] theorem q_sl {lo hi : Option (Fr → MH → R D)} : eSl A lo hi δ m = (A δ m).bnd fun d m1 => (oP lo δ m1).bnd fun l m2 => (oP hi δ m2).bnd fun u m3 => gSl d l u m3 := rfl
@[simp] theorem q_oPn : oP none δ m = .ok none m := rfl
@[simp] theorem q_oPs : oP (some A) δ m = (A δ m).bnd toI := rfl
@[simp] theorem q_toI {x : Int} : toI (.raw (.int x)) m = .ok (some x) m := rfl
@[simp] theorem q_slT {ds : List D} {l u : Option Int} : gSl (.tup ds) l u m = .ok (.tup (cutD ds l u)) m := rfl
@[simp] theorem q_slL {ds : List D} {l u : Option Int} : gSl (.lst ds) l u m = .ok (.lst (cutD ds l u)) m := rfl
@[simp] theorem q_ixT {ds : List D} {x : Int} : gIx (.tup ds) (.raw (.int x)) m = match atI ds x with | some d => .ok d m | none => .no := rfl
@[simp] theorem q_ixL {ds : List D} {x : Int} : gIx (.lst ds) (.raw (.int x)) m = match atI ds x with | some d => .ok d m | none => .no := rfl
@[simp] theorem q_tupT {ds : List D} : gTuple [.tup ds] m = .ok (.tup ds) m := rfl
@[simp] theorem q_tupL {ds : List D} : gTuple [.lst ds] m = .ok (.tup ds) m := rfl
@[simp] theorem q_int {x : Int} : gInt [.raw (.int x)] m = .ok (.raw (.int x)) m := rfl
end
@[simp] theorem q_addI {x y : Int} {m : MH} : gAdd (.raw (.int x)) (.raw (.int y)) m = .ok (.raw (.int (x + y))) m := rfl
@[simp] theorem q_addT {ds es : List D} {m : MH} : gAdd (.tup ds) (.tup es) m = if ds.length + es.length ≤ sizeLine then .ok (.tup (ds ++ es)) m else .no := rfl
@[simp] theorem q_addL {ds es : List D} {m : MH} : gAdd (.lst ds) (.lst es) m = if ds.length + es.length ≤ sizeLine then .ok (.lst (ds ++ es)) m else .no := rfl
@[simp] theorem q_addS {x y : Str} {m : MH} : gAdd (.raw (.str x)) (.raw (.str y)) m = if x.length + y.length ≤ sizeLine then .ok (.raw (.str (x ++ y))) m else .no := rfl
theorem all_bools {bs : List Bool} {m : MH} {f : List Bool → Bool} : gQuant f [.lst (bs.map fun b => .raw (.bl b))] m = .ok (.raw (.bl (f bs))) m := by
  have h : ∀ bs : List Bool, bools (bs.map fun b => D.raw (.bl b)) = some bs := fun bs => by
    induction bs with
    | nil => rfl
    | cons b bs ih => simp [bools, ih]
  unfold gQuant
  simp [lstOf, h]
theorem all_of {α : Type} (xs : List α) (f : α → Bool) (m : MH) : gAll [.lst (xs.map fun x => .raw (.bl (f x)))] m = .ok (.raw (.bl (xs.all f))) m := by
  have := all_bools (bs := xs.map f) (m := m) (f := fun bs => bs.all id)
  rw [List.map_map] at this
  simpa [List.all_map, Function.comp_def] using this
/-! loops -/
inductive Out (σ : Type) where
  | go (s : σ)
  | ret (d : D) (m : MH)
  | brk (s : σ)
def Out.to {σ : Type} (fr : σ → Fr) (mm : σ → MH) : Out σ → R Fl
  | .go s => .ok (.nx (fr s)) (mm s)
  | .ret d m => .ok (.rt d) m
  | .brk s => .ok (.bk (fr s)) (mm s)
def Out.end {σ : Type} (fr : σ → Fr) (mm : σ → MH) : Out σ → R Fl
  | .go s => .ok (.nx (fr s)) (mm s)
  | .ret d m => .ok (.rt d) m
  | .brk s => .ok (.nx (fr s)) (mm s)
def goL {α σ : Type} (f : σ → α → Out σ) : List α → σ → Out σ
  | [], s => .go s
  | x :: xs, s => match f s x with
    | .go s' => goL f xs s'
    | o => o
theorem forL_out {α σ : Type} {G : SmG} {B : SmS} (enc : α → D) (fr : σ → Fr) (mm : σ → MH) (f : σ → α → Out σ) (inv : σ → Prop) : ∀ (xs : List α) (s : σ), inv s →
    (∀ s, inv s → ∀ x ∈ xs, ∃ δ1 m1, G (enc x) (fr s) (mm s) = .ok δ1 m1 ∧ B δ1 m1 = (f s x).to fr mm ∧ ∀ s', f s x = .go s' → inv s') →
    forL G B (xs.map enc) (fr s) (mm s) = (goL f xs s).end fr mm
  | [], s, _, _ => rfl
  | x :: xs, s, i, h => by
    obtain ⟨δ1, m1, h1, h2, h3⟩ := h s i x List.mem_cons_self
    rw [List.map_cons]
    unfold forL goL
    rw [h1, gAnd_ok', h2]
    cases e : f s x with
    | go s' =>
      show forL G B (xs.map enc) (fr s') (mm s') = _
      exact forL_out enc fr mm f inv xs s' (h3 s' e) fun s i y hy => h s i y (List.mem_cons_of_mem _ hy)
    | ret d m => rfl
    | brk s' => rfl
/-- where nothing leaves the loop -/
theorem goL_fold {α σ : Type} (f : σ → α → σ) : ∀ (xs : List α) (s : σ), goL (fun s x => .go (f s x)) xs s = .go (xs.foldl f s)
  | [], _ => rfl
  | x :: xs, s => by
    unfold goL
    exact goL_fold f xs (f s x)
theorem forL_fold {α σ : Type} {G : SmG} {B : SmS} (enc : α → D) (fr : σ → Fr) (mm : σ → MH) (f : σ → α → σ) (inv : σ → Prop) (xs : List α) (s : σ) (i : inv s)
    (h : ∀ s, inv s → ∀ x ∈ xs, ∃ δ1 m1, G (enc x) (fr s) (mm s) = .ok δ1 m1 ∧ B δ1 m1 = .ok (.nx (fr (f s x))) (mm (f s x)) ∧ inv (f s x)) :
    forL G B (xs.map enc) (fr s) (mm s) = .ok (.nx (fr (xs.foldl f s))) (mm (xs.foldl f s)) := by
  rw [forL_out enc fr mm (fun s x => .go (f s x)) inv xs s i fun s i x hx => ?_, goL_fold]
  · rfl
  · obtain ⟨δ1, m1, h1, h2, h3⟩ := h s i x hx
    exact ⟨δ1, m1, h1, h2, fun s' e => by cases e; exact h3⟩
/-- the first that is found is given back -/
theorem forL_find {α : Type} {G : SmG} {B : SmS} {i : Nat} {δ : Fr} {m : MH} (enc : α → D) (c : α → Bool) (val : α → D) (hG : ∀ x δ, G (enc x) δ m = .ok (δ.set i (some (enc x))) m) : ∀ (xs : List α),
    (∀ x ∈ xs, ∀ o, B ((δ.set i o).set i (some (enc x))) m = if c x = true then .ok (.rt (val x)) m else .ok (.nx (δ.set i (some (enc x)))) m) → ∀ o,
    forL G B (xs.map enc) (δ.set i o) m = (xs.find? c).elim (.ok (.nx (δ.set i ((xs.getLast?.map fun x => some (enc x)).getD o))) m) fun x => .ok (.rt (val x)) m
  | [], _, o => rfl
  | x :: xs, h, o => by
    rw [List.map_cons]
    unfold forL
    rw [hG, gAnd_ok', h x List.mem_cons_self, List.find?_cons]
    cases e : c x with
    | true => rfl
    | false =>
      rw [if_neg (by simp), bnd_ok]
      show forL G B (xs.map enc) (δ.set i (some (enc x))) m = _
      rw [forL_find enc c val hG xs (fun y hy => h y (List.mem_cons_of_mem _ hy)) (some (enc x))]
      cases q : xs.find? c with
      | some y => rfl
      | none =>
        cases xs with
        | nil => rfl
        | cons y ys =>
          simp only [List.getLast?_cons, Option.map_some, Option.getD_some]
/-! items -/
theorem atI_nat {α : Type} {xs : List α} {n : Nat} (h : n < xs.length) : atI xs (n : Int) = some xs[n] := by
  unfold atI ixN
  rw [if_pos (by omega), if_pos (by omega)]
  simp [h]
theorem atI_mapN {α : Type} {f : α → D} {xs : List α} {n : Nat} (h : n < xs.length) : atI (xs.map f) (n : Int) = some (f xs[n]) := by
  rw [atI_nat (by rw [List.length_map]; exact h), List.getElem_map]
theorem atI_last {α : Type} {xs : List α} (h : xs ≠ []) : atI xs (-1) = some (xs.getLast h) := by
  have hl : 0 < xs.length := List.length_pos_iff.mpr h
  unfold atI ixN
  rw [if_neg (by omega), if_pos (by omega)]
  have e : (-1 + (xs.length : Int)).toNat = xs.length - 1 := by omega
  simp [e, List.getLast_eq_getElem]
theorem rangeD_eq (n : Nat) : rangeD 0 n = (List.range n).map fun i => .raw (.int (i : Nat)) := by
  unfold rangeD
  simp
theorem rangeD_from (lo n : Nat) : rangeD (lo : Int) n = ((List.range n).map (lo + ·)).map fun i => .raw (.int (i : Nat)) := by
  unfold rangeD
  rw [List.map_map]
  refine List.map_congr_left fun i _ => ?_
  simp
theorem cut_to {ds : List D} {n : Nat} (h : n ≤ ds.length) : cutD ds none (some (n : Int)) = ds.take n := by
  have e : HT.sIx ds.length ds.length (some (n : Int)) = n := by
    rw [HT.sIx_nat]
    omega
  unfold cutD
  rw [e]
  have e0 : HT.sIx ds.length 0 none = 0 := rfl
  rw [e0]
  simp
theorem cut_from {ds : List D} {n : Nat} (h : n ≤ ds.length) : cutD ds (some (n : Int)) none = ds.drop n := by
  have e : HT.sIx ds.length 0 (some (n : Int)) = n := by
    rw [HT.sIx_nat]
    omega
  unfold cutD
  rw [e]
  have e0 : HT.sIx ds.length ds.length none = ds.length := rfl
  rw [e0]
  exact List.take_of_length_le (by rw [List.length_drop]; exact Nat.le_refl _)
theorem cut_butlast {ds : List D} : cutD ds none (some (-1)) = ds.dropLast := by
  have e : HT.sIx ds.length ds.length (some (-1)) = ds.length - 1 := by
    unfold HT.sIx
    simp
    omega
  unfold cutD
  rw [e]
  have e0 : HT.sIx ds.length 0 none = 0 := rfl
  rw [e0, List.dropLast_eq_take]
  simp
/-! == of data of one kind -/
structure EqEnc {α : Type} [DecidableEq α] (d : α → D) (k : Nat) : Prop where
  ex : ∃ p : α → PyData, (∀ x, toP (d x) = some (p x)) ∧ (∀ x, (p x).canLay0 = true) ∧ (∀ x, (p x).depth ≤ k) ∧ ∀ x y, PyData.eqv (p x) (p y) = decide (x = y)
theorem toPm_of {m : MH} {d : D} {p : PyData} (h : toP d = some p) : toPm m d = some p := by
  cases d with
  | obj n => simp [toP] at h
  | raw v => exact h
  | tup _ => exact h
  | lst _ => exact h
  | scr _ => exact h
section
variable {α β : Type} [DecidableEq α] [DecidableEq β] {d : α → D} {e : β → D} {k j : Nat}
theorem EqEnc.eq (E : EqEnc d k) (hk : k ≤ 64) (f : Bool → Bool) (x y : α) (m : MH) : gEqB f (d x) (d y) m = .ok (.raw (.bl (f (decide (x = y))))) m := by
  obtain ⟨p, h1, h2, h3, h4⟩ := E.ex
  unfold gEqB
  rw [toPm_of (h1 x), toPm_of (h1 y)]
  have hs : ∀ x, SeqAt.shaped (p x) = true := fun x => by
    unfold SeqAt.shaped
    rw [h2 x, Bool.true_and]
    exact decide_eq_true (Nat.le_trans (h3 x) hk)
  simp only [hs, Bool.and_self, if_true, h4]
theorem enc_int : EqEnc (fun i : Int => D.raw (.int i)) 0 := ⟨fun i => .int i, fun _ => rfl, fun _ => rfl, fun _ => Nat.le_refl _, fun x y => by
  show (x == y) = decide (x = y)
  by_cases h : x = y <;> simp [h]⟩
theorem enc_bool : EqEnc (fun i : Bool => D.raw (.bl i)) 0 := ⟨fun i => .bool i, fun _ => rfl, fun _ => rfl, fun _ => Nat.le_refl _, fun x y => by
  show (x == y) = decide (x = y)
  cases x <;> cases y <;> rfl⟩
theorem eqvAll_map (p : α → PyData) (h : ∀ x y, PyData.eqv (p x) (p y) = decide (x = y)) : ∀ xs ys : List α, PyData.eqvAll (xs.map p) (ys.map p) = decide (xs = ys)
  | [], [] => rfl
  | [], _ :: _ => rfl
  | _ :: _, [] => rfl
  | x :: xs, y :: ys => by
    show (PyData.eqv (p x) (p y) && PyData.eqvAll (xs.map p) (ys.map p)) = _
    rw [h, eqvAll_map p h xs ys]
    by_cases h1 : x = y <;> by_cases h2 : xs = ys <;> simp [h1, h2]
theorem toPs_map (d : α → D) (p : α → PyData) (h : ∀ x, toP (d x) = some (p x)) : ∀ xs : List α, toPs (xs.map d) = some (xs.map p)
  | [] => by simp [toPs]
  | x :: xs => by simp [toPs, h, toPs_map d p h xs]
theorem lay_map (p : α → PyData) (h : ∀ x, (p x).canLay0 = true) : ∀ xs : List α, PyData.canLayAll0 (xs.map p) = true
  | [] => by simp [PyData.canLayAll0]
  | x :: xs => by simp [PyData.canLayAll0, h, lay_map p h xs]
theorem dep_map (p : α → PyData) (h : ∀ x, (p x).depth ≤ k) : ∀ xs : List α, PyData.depthAll (xs.map p) ≤ k
  | [] => by simp [PyData.depthAll]
  | x :: xs => by
    have h1 := dep_map p h xs
    have h2 := h x
    simp only [List.map_cons, PyData.depthAll]
    omega
theorem EqEnc.tup (E : EqEnc d k) : EqEnc (fun xs : List α => D.tup (xs.map d)) (k + 1) := by
  obtain ⟨p, h1, h2, h3, h4⟩ := E.ex
  refine ⟨fun xs => .tuple (xs.map p), fun xs => by simp [toP, toPs_map d p h1], fun xs => ?_, fun xs => ?_, fun xs ys => eqvAll_map p h4 xs ys⟩
  · simp [PyData.canLay0, lay_map p h2]
  · have := dep_map p h3 xs
    simp only [PyData.depth]
    omega
theorem EqEnc.lst (E : EqEnc d k) : EqEnc (fun xs : List α => D.lst (xs.map d)) (k + 1) := by
  obtain ⟨p, h1, h2, h3, h4⟩ := E.ex
  refine ⟨fun xs => .list (xs.map p), fun xs => by simp [toP, toPs_map d p h1], fun xs => ?_, fun xs => ?_, fun xs ys => eqvAll_map p h4 xs ys⟩
  · simp [PyData.canLay0, lay_map p h2]
  · have := dep_map p h3 xs
    simp only [PyData.depth]
    omega
theorem EqEnc.pair (E : EqEnc d k) (F : EqEnc e k) : EqEnc (fun q : α × β => D.tup [d q.1, e q.2]) (k + 1) := by
  obtain ⟨p, h1, h2, h3, h4⟩ := E.ex
  obtain ⟨p', h1', h2', h3', h4'⟩ := F.ex
  refine ⟨fun q => .tuple [p q.1, p' q.2], fun q => by simp [toP, toPs, h1, h1'], fun q => ?_, fun q => ?_, fun q r => ?_⟩
  · simp [PyData.canLay0, PyData.canLayAll0, h2, h2']
  · have := h3 q.1
    have := h3' q.2
    simp only [PyData.depth, PyData.depthAll]
    omega
  · show (PyData.eqv (p q.1) (p r.1) && (PyData.eqv (p' q.2) (p' r.2) && true)) = _
    rw [h4, h4']
    obtain ⟨a, b⟩ := q
    obtain ⟨c, d⟩ := r
    by_cases h1 : a = c <;> by_cases h2 : b = d <;> simp [h1, h2]
@[simp] theorem q_eqI {f : Bool → Bool} {x y : Int} {m : MH} : gEqB f (.raw (.int x)) (.raw (.int y)) m = .ok (.raw (.bl (f (decide (x = y))))) m := enc_int.eq (by decide) f x y m
@[simp] theorem q_eqB {f : Bool → Bool} {x y : Bool} {m : MH} : gEqB f (.raw (.bl x)) (.raw (.bl y)) m = .ok (.raw (.bl (f (decide (x = y))))) m := enc_bool.eq (by decide) f x y m
end
/-! ranges -/
theorem okI_nat {n : Nat} (h : n < 1000000000000) : okI (n : Int) = true := by
  unfold okI
  rw [decide_eq_true (by omega), decide_eq_true (by omega)]
  rfl
theorem r1_nat {n : Nat} (h : n < 1000000000000) (m : MH) : gR1 [.raw (.int n)] m = .ok ((List.range n).map fun i => .raw (.int (i : Nat))) m := by
  show (if okI (n : Int) = true then R.ok (rangeD 0 (n : Int).toNat) m else .no) = _
  rw [if_pos (okI_nat h), Int.toNat_natCast, rangeD_eq]
theorem r2_nat {a b : Nat} (h : b < 1000000000000) (ha : a ≤ b) (m : MH) : gR2 [.raw (.int a), .raw (.int b)] m = .ok (((List.range (b - a)).map (a + ·)).map fun i => .raw (.int (i : Nat))) m := by
  show (if (okI (a : Int) && okI (b : Int)) = true then R.ok (rangeD a ((b : Int) - a).toNat) m else .no) = _
  rw [okI_nat h, okI_nat (by omega : a < 1000000000000), if_pos (by rfl)]
  have e : ((b : Int) - a).toNat = b - a := by omega
  rw [e, rangeD_from]
theorem r3_down {n : Nat} (h : n < 1000000000000) (m : MH) : gR3 [.raw (.int ((n : Int) - 1)), .raw (.int (-1)), .raw (.int (-1))] m = .ok (((List.range n).map (n - 1 - ·)).map fun i => .raw (.int (i : Nat))) m := by
  have h1 : okI ((n : Int) - 1) = true := by
    unfold okI
    rw [decide_eq_true (by omega), decide_eq_true (by omega)]
    rfl
  show (if (okI ((n : Int) - 1) && okI (-1) && decide ((-1 : Int) = -1)) = true then R.ok (rangeDC ((n : Int) - 1) (-1) ((n : Int) - 1 - (-1)).toNat) m else .no) = _
  rw [h1, if_pos (by decide)]
  have e : ((n : Int) - 1 - (-1)).toNat = n := by omega
  rw [e]
  unfold rangeDC
  rw [List.map_map]
  refine congrArg (fun l => R.ok l m) (List.map_congr_left fun i hi => ?_)
  have hi := List.mem_range.mp hi
  show D.raw (V.int ((n : Int) - 1 + (i : Int) * -1)) = D.raw (V.int ((n - 1 - i : Nat) : Int))
  congr 2
  omega
/-! texts -/
theorem ofString_inj {x y : String} : Str.ofString x = Str.ofString y ↔ x = y := by
  refine ⟨fun h => ?_, fun h => by rw [h]⟩
  rw [Str.ofString_eq_toList, Str.ofString_eq_toList] at h
  have h2 : x.toList.map Char.toNat = y.toList.map Char.toNat := by
    have := congrArg (fun z : Str => z.cps.toList) h
    simpa using this
  have h3 : x.toList = y.toList := List.map_inj_right (fun a b e => Char.ext (UInt32.toNat_inj.mp e)) |>.mp h2
  exact String.toList_inj.mp h3
@[simp] theorem beq_ofString {x y : String} : (Str.ofString x == Str.ofString y) = decide (x = y) := by
  by_cases h : x = y
  · subst h
    simp
  · rw [decide_eq_false h]
    exact beq_eq_false_iff_ne.mpr fun e => h (ofString_inj.mp e)
theorem strOk_of (x : String) : PyData.strOk (Str.ofString x) = true := by
  rw [Str.ofString_eq_toList]
  unfold PyData.strOk
  rw [Array.all_eq_true']
  intro c hc
  simp at hc
  obtain ⟨a, _, rfl⟩ := hc
  have := a.valid
  simp only [decide_eq_true_eq]
  rcases this with h | h
  · have : a.toNat < 55296 := h
    omega
  · exact h.2
theorem enc_str : EqEnc (fun x : String => D.raw (.str (Str.ofString x))) 0 := ⟨fun i => .str (Str.ofString i), fun _ => rfl, fun x => by simpa [PyData.canLay0] using strOk_of x, fun _ => Nat.le_refl _, fun x y => by
  show (Str.ofString x == Str.ofString y) = decide (x = y)
  exact beq_ofString⟩
@[simp] theorem q_eqS {f : Bool → Bool} {x y : String} {m : MH} : gEqB f (.raw (.str (Str.ofString x))) (.raw (.str (Str.ofString y))) m = .ok (.raw (.bl (f (decide (x = y))))) m := enc_str.eq (by decide) f x y m
theorem in_strs {neg : Bool} {x : String} {xs : List String} {e : D} {m : MH} (h : seqOf m e = some (xs.map fun x => D.raw (.str (Str.ofString x)))) : gIn neg (.raw (.str (Str.ofString x))) e m = .ok (.raw (.bl (if neg then !decide (x ∈ xs) else decide (x ∈ xs)))) m := by
  have hf : ∀ xs : List String, flats (xs.map fun x => D.raw (.str (Str.ofString x))) = some (xs.map fun x => V.str (Str.ofString x)) := fun xs => by
    induction xs with
    | nil => rfl
    | cons a xs ih => simp [flats, ih]
  have ha : ∀ xs : List String, (xs.map fun x => V.str (Str.ofString x)).all flatV = true := fun xs => by
    induction xs with
    | nil => rfl
    | cons a xs ih => simp [flatV]
  have hi : ∀ xs : List String, inV (V.str (Str.ofString x)) (xs.map fun x => V.str (Str.ofString x)) = decide (x ∈ xs) := fun xs => by
    unfold inV
    induction xs with
    | nil => rfl
    | cons a xs ih =>
      rw [List.map_cons, List.any_cons, ih]
      have e : eqV (V.str (Str.ofString a)) (V.str (Str.ofString x)) = decide (a = x) := beq_ofString
      rw [e]
      by_cases h : a = x
      · subst h; simp
      · have : ¬ x = a := fun z => h z.symm
        simp [h, this]
  simp only [gIn, h, hf, ha, hi]
  simp [flatV]
theorem forL_cons {G : SmG} {B : SmS} {d : D} {ds : List D} {δ : Fr} {m : MH} : forL G B (d :: ds) δ m = gAnd (G d δ m) fun δ1 m1 => (B δ1 m1).bnd (aft (forL G B ds)) := rfl
theorem forL_nil {G : SmG} {B : SmS} {δ : Fr} {m : MH} : forL G B [] δ m = .ok (.nx δ) m := rfl
@[simp] theorem aft_nx {k : SmS} {δ : Fr} {m : MH} : aft k (.nx δ) m = k δ m := rfl
@[simp] theorem aft_ct {k : SmS} {δ : Fr} {m : MH} : aft k (.ct δ) m = k δ m := rfl
@[simp] theorem aft_bk {k : SmS} {δ : Fr} {m : MH} : aft k (.bk δ) m = .ok (.nx δ) m := rfl
@[simp] theorem aft_rt {k : SmS} {d : D} {m : MH} : aft k (.rt d) m = .ok (.rt d) m := rfl
theorem mul_ok {l n : Nat} (hn : n < 1000000000000) (hz : l * n ≤ sizeLine) : (decide (-(2 ^ 63) ≤ (n : Int)) && decide ((n : Int) < 2 ^ 63) && decide (l * (n : Int).toNat ≤ sizeLine)) = true := by
  rw [Int.toNat_natCast, decide_eq_true hz, decide_eq_true (by omega), decide_eq_true (by omega)]
  rfl
theorem mulNew_nat {ds : List D} {n : Nat} {m : MH} (hn : n < 1000000000000) (hz : ds.length * n ≤ sizeLine) : gMulNew (.lst ds) (.raw (.int n)) m = .ok (.obj m.length) (m ++ [.lst (List.replicate n ds).flatten]) := by
  simp only [gMulNew, lstOf]
  rw [if_pos (mul_ok hn hz), Int.toNat_natCast]
theorem mulL_nat {ds : List D} {n : Nat} {m : MH} (hn : n < 1000000000000) (hz : ds.length * n ≤ sizeLine) : gMulT (.lst ds) (.raw (.int n)) m = .ok (.lst (List.replicate n ds).flatten) m := by
  simp only [gMulT, gMul, lstOf]
  rw [if_pos (mul_ok hn hz), Int.toNat_natCast]
theorem rep_one {α : Type} (x : α) : ∀ n : Nat, (List.replicate n [x]).flatten = List.replicate n x
  | 0 => rfl
  | n + 1 => by rw [List.replicate_succ, List.replicate_succ, List.flatten_cons, rep_one x n]; rfl
end Sm

set_option Elab.async false
set_option linter.all false
set_option maxRecDepth 100000
set_option maxHeartbeats 4000000
/-! Sm, more evaluation: loops and comprehensions by what they keep. -/
namespace Sm
open PySem PySem.Spec L2
def Stp (P Q : Fr → MH → Prop) : Fl → MH → Prop
  | .nx δ, m => P δ m
  | .ct δ, m => P δ m
  | .bk δ, m => Q δ m
  | .rt _, _ => False
theorem forL_ind {G : SmG} {B : SmS} (P : Nat → Fr → MH → Prop) (Q : Fr → MH → Prop) (h0 : ∀ δ m, P 0 δ m → Q δ m) : ∀ (ds : List D) (δ : Fr) (m : MH),
    (∀ d ∈ ds, ∀ k δ m, P (k + 1) δ m → ∃ δ1 m1 f m2, G d δ m = .ok δ1 m1 ∧ B δ1 m1 = .ok f m2 ∧ Stp (P k) Q f m2) → P ds.length δ m → ∃ δ' m', forL G B ds δ m = .ok (.nx δ') m' ∧ Q δ' m'
  | [], δ, m, _, hp => ⟨δ, m, rfl, h0 _ _ hp⟩
  | d :: ds, δ, m, h, hp => by
    obtain ⟨δ1, m1, f, m2, e1, e2, hs⟩ := h d List.mem_cons_self ds.length δ m hp
    rw [forL_cons, e1, gAnd_ok', e2, bnd_ok]
    have ih := fun δ m => forL_ind P Q h0 ds δ m fun d hd => h d (List.mem_cons_of_mem _ hd)
    cases f with
    | nx δ2 => exact ih δ2 m2 hs
    | ct δ2 => exact ih δ2 m2 hs
    | bk δ2 => exact ⟨δ2, m2, rfl, hs⟩
    | rt d => exact hs.elim
theorem cmpL_ind {G : SmG} {T : Fr → MH → R Bool} {E : Fr → MH → R D} {δ : Fr} (P : MH → Prop) (Q : D → Prop) : ∀ (ds : List D) (m : MH),
    (∀ d ∈ ds, ∀ m, P m → ∃ δ1 e m', G d δ m = .ok δ1 m ∧ T δ1 m = .ok true m ∧ E δ1 m = .ok e m' ∧ P m' ∧ Q e) → P m → ∃ es m', cmpL G T E δ ds m = .ok es m' ∧ P m' ∧ es.length = ds.length ∧ ∀ e ∈ es, Q e
  | [], m, _, hp => ⟨[], m, rfl, hp, rfl, fun e he => by cases he⟩
  | d :: ds, m, h, hp => by
    obtain ⟨δ1, e, m1, h1, h2, h3, h4, h5⟩ := h d List.mem_cons_self m hp
    obtain ⟨es, m2, k1, k2, k3, k4⟩ := cmpL_ind P Q ds m1 (fun d hd => h d (List.mem_cons_of_mem _ hd)) h4
    refine ⟨e :: es, m2, ?_, k2, by rw [List.length_cons, List.length_cons, k3], fun x hx => ?_⟩
    · unfold cmpL
      rw [h1, gAnd_ok', h2, oAnd_ok', if_pos rfl, h3, oAnd_ok', k1]
      rfl
    · rcases List.mem_cons.mp hx with rfl | hx
      · exact h5
      · exact k4 x hx
theorem lcF_ind {vs : List Nat} {I : Fr → MH → R (List D)} {G : SmG} {T : Fr → MH → R Bool} {E : Fr → MH → R D} {δ : Fr} {m m1 : MH} (P : MH → Prop) (Q : D → Prop) (ds : List D) (hi : I δ m = .ok ds m1) (hl : ds.length ≤ sizeLine) (hp : P m1)
    (h : ∀ d ∈ ds, ∀ m, P m → ∃ δ1 e m', G d (wipeF δ vs) m = .ok δ1 m ∧ T δ1 m = .ok true m ∧ E δ1 m = .ok e m' ∧ P m' ∧ Q e) : ∃ es m', lcF vs I G T E δ m = .ok es m' ∧ P m' ∧ es.length = ds.length ∧ ∀ e ∈ es, Q e := by
  obtain ⟨es, m', h1, h2, h3, h4⟩ := cmpL_ind (δ := wipeF δ vs) P Q ds m1 h hp
  refine ⟨es, m', ?_, h2, h3, h4⟩
  unfold lcF
  rw [hi, bnd_ok, if_pos hl, h1]
  rfl
theorem list_of {α : Type} {f : α → D} {R : α → Prop} : ∀ {es : List D}, (∀ e ∈ es, ∃ x, e = f x ∧ R x) → ∃ xs : List α, es = xs.map f ∧ ∀ x ∈ xs, R x
  | [], _ => ⟨[], rfl, fun x hx => by cases hx⟩
  | e :: es, h => by
    obtain ⟨x, h1, h2⟩ := h e List.mem_cons_self
    obtain ⟨xs, h3, h4⟩ := list_of fun e he => h e (List.mem_cons_of_mem _ he)
    refine ⟨x :: xs, by rw [h1, h3, List.map_cons], fun y hy => ?_⟩
    rcases List.mem_cons.mp hy with rfl | hy
    · exact h2
    · exact h4 y hy
/-- an object ahead; the new list is ours -/
theorem call_objnew {mf : List D → MH → R D} {ds : List D} {m m' : MH} {n j : Nat} {es es' fs : List D} (hc : cloL ds = true) (hn : m[n]? = some (.lst es)) (he : cloL es = true) (h : mf (.obj 0 :: ds) [.lst es] = .ok (.obj (j + 1)) (.lst es' :: m')) (he' : cloL es' = true) (hj : m'[j]? = some (.lst fs)) (hf : cloL fs = true) :
    callM true mf (.obj n :: ds) m = .ok (.obj m.length) (m.set n (.lst es') ++ [.lst fs]) := by
  rw [call_obj hc hn he, h]
  simp [putM, cloO, he', newD, hj, hf]
theorem seq_nx {F G : SmS} {δ δ1 : Fr} {m m1 : MH} (h : F δ m = .ok (.nx δ1) m1) : sSeq F G δ m = G δ1 m1 := by rw [q_seq, h, bnd_ok]
theorem seq_rt {F G : SmS} {δ : Fr} {d : D} {m m1 : MH} (h : F δ m = .ok (.rt d) m1) : sSeq F G δ m = .ok (.rt d) m1 := by rw [q_seq, h, bnd_ok]
theorem whl_succ {T : Fr → MH → R Bool} {B : SmS} {n : Nat} {δ : Fr} {m : MH} : whl T B (n + 1) δ m = (T δ m).bnd fun b m1 => if b = true then (B δ m1).bnd (aft (whl T B n)) else .ok (.nx δ) m1 := rfl
section
variable {m : MH} {ds es : List D} {d : D} {b : Bool} {n : Nat} {x : Str} {i : Int}
@[simp] theorem q_toTo : toT (.obj 0) (.lst ds :: m) = .ok (!ds.isEmpty) (.lst ds :: m) := rfl
@[simp] theorem q_isl : isLst (.lst ds :: m) (.obj 0) = true := rfl
theorem isl_of (h : m[n]? = some (.lst ds)) : isLst m (.obj n) = true := by simp [isLst, lstOf, h]
theorem pop_of (h : m[n]? = some (.lst (ds ++ [d]))) : gPop (.obj n) [] m = .ok d (m.set n (.lst ds)) := by
  show (match m[n]? with
    | some (.lst es) => match es[es.length - 1]? with
      | some d => R.ok d (m.set n (.lst es.dropLast))
      | none => .no
    | _ => .no) = _
  rw [h]
  simp
theorem ext_of (h : m[n]? = some (.lst ds)) (hl : ds.length + es.length ≤ sizeLine) : gExtend (.obj n) [.lst es] m = .ok (.raw .non) (m.set n (.lst (ds ++ es))) := by
  show (match m[n]?, lstOf m (.lst es) with
    | some (.lst es), some fs => if es.length + fs.length ≤ sizeLine then R.ok (D.raw .non) (m.set n (.lst (es ++ fs))) else .no
    | _, _ => .no) = _
  rw [h]
  simp [lstOf, hl]
theorem app_of (h : m[n]? = some (.lst ds)) (hl : ds.length < sizeLine) : gAppend (.obj n) [d] m = .ok (.raw .non) (m.set n (.lst (ds ++ [d]))) := by
  show (match m[n]? with
    | some (.lst es) => if es.length < sizeLine then R.ok (D.raw .non) (m.set n (.lst (es ++ [d]))) else .no
    | _ => .no) = _
  rw [h]
  simp [hl]
@[simp] theorem q_pop : gPop (.obj 0) [] (.lst (ds ++ [d]) :: m) = .ok d (.lst ds :: m) := pop_of rfl
@[simp] theorem q_ext : gExtend (.obj 0) [.lst es] (.lst ds :: m) = if ds.length + es.length ≤ sizeLine then .ok (.raw .non) (.lst (ds ++ es) :: m) else .no := rfl
@[simp] theorem q_app : gAppend (.obj 0) [d] (.lst ds :: m) = if ds.length < sizeLine then .ok (.raw .non) (.lst (ds ++ [d]) :: m) else .no := rfl
@[simp] theorem q_toTo1 {o : MO} : toT (.obj 1) (o :: .lst ds :: m) = .ok (!ds.isEmpty) (o :: .lst ds :: m) := rfl
@[simp] theorem q_isl1 {o : MO} : isLst (o :: .lst ds :: m) (.obj 1) = true := rfl
@[simp] theorem q_app1 {o : MO} : gAppend (.obj 1) [d] (o :: .lst ds :: m) = if ds.length < sizeLine then .ok (.raw .non) (o :: .lst (ds ++ [d]) :: m) else .no := rfl
@[simp] theorem q_ext1 {o : MO} : gExtend (.obj 1) [.lst es] (o :: .lst ds :: m) = if ds.length + es.length ≤ sizeLine then .ok (.raw .non) (o :: .lst (ds ++ es) :: m) else .no := rfl
@[simp] theorem q_addn10 : gAddNew (.obj 1) (.obj 0) (.lst ds :: .lst es :: m) = if es.length + ds.length ≤ sizeLine then .ok (.obj (m.length + 1 + 1)) (.lst ds :: .lst es :: m ++ [.lst (es ++ ds)]) else .no := rfl
@[simp] theorem q_rev : gReverse (.obj 0) [] (.lst ds :: m) = .ok (.raw .non) (.lst ds.reverse :: m) := rfl
@[simp] theorem q_eM {ty : MH → D → Bool} {g : D → List D → MH → R D} {O : Fr → MH → R D} {As : Fr → MH → R (List D)} {δ : Fr} : eM ty g O As δ m = (O δ m).bnd fun o m1 => if ty m1 o = true then (As δ m1).bnd fun ds m2 => g o ds m2 else .no := rfl
@[simp] theorem q_eM0 {ty : MH → D → Bool} {g : D → List D → MH → R D} {O : Fr → MH → R D} {δ : Fr} : eM0 ty g O δ m = (O δ m).bnd fun o m1 => if ty m1 o = true then g o [] m1 else .no := rfl
@[simp] theorem q_isB {f : Bool → Bool} {x y : Bool} : gIsB f (.raw (.bl x)) (.raw (.bl y)) m = .ok (.raw (.bl (f (decide (x = y))))) m := rfl
@[simp] theorem q_isiTT : gIsi [.tup ds, .raw (.ty "tuple")] m = .ok (.raw (.bl true)) m := rfl
@[simp] theorem q_isiSS : gIsi [.raw (.str x), .raw (.ty "str")] m = .ok (.raw (.bl true)) m := rfl
@[simp] theorem q_isiII : gIsi [.raw (.int i), .raw (.ty "int")] m = .ok (.raw (.bl true)) m := rfl
@[simp] theorem q_isiIB : gIsi [.raw (.int i), .raw (.ty "bool")] m = .ok (.raw (.bl false)) m := rfl
@[simp] theorem q_isiST : gIsi [.raw (.str x), .raw (.ty "tuple")] m = .ok (.raw (.bl false)) m := rfl
@[simp] theorem q_isiIT : gIsi [.raw (.int i), .raw (.ty "tuple")] m = .ok (.raw (.bl false)) m := rfl
theorem q_aug {i : Nat} {A : Fr → MH → R D} {g : D → D → MH → R D} {δ : Fr} (h : δ[i]? = some (some d)) : sAug i A g δ m = (A δ m).bnd fun e m1 => (g d e m1).bnd fun z m2 => .ok (.nx (δ.set i (some z))) m2 := by
  unfold sAug
  rw [h]
@[simp] theorem q_mulI {x y : Int} : gMulT (.raw (.int x)) (.raw (.int y)) m = if cMul x y = true then .ok (.raw (.int (x * y))) m else .no := rfl
theorem cMul_r {x y : Int} (h : -1000000000000 ≤ y) (h' : y ≤ 1000000000000) : cMul x y = true := by
  unfold cMul
  rw [decide_eq_true (show -(2 ^ 64) < y by omega), decide_eq_true (show y < 2 ^ 64 by omega)]
  simp
theorem cMul_l {x y : Int} (h : -1000000000000 ≤ x) (h' : x ≤ 1000000000000) : cMul x y = true := by
  unfold cMul
  rw [decide_eq_true (show -(2 ^ 64) < x by omega), decide_eq_true (show x < 2 ^ 64 by omega)]
  simp
theorem i0 (a : D) (l : List D) : atI (a :: l) 0 = some a := by
  have := atI_nat (xs := a :: l) (n := 0) (by simp)
  simpa using this
theorem i1 (a b : D) (l : List D) : atI (a :: b :: l) 1 = some b := by
  have := atI_nat (xs := a :: b :: l) (n := 1) (by simp)
  simpa using this
theorem i2 (a b c : D) (l : List D) : atI (a :: b :: c :: l) 2 = some c := by
  have := atI_nat (xs := a :: b :: c :: l) (n := 2) (by simp)
  simpa using this
theorem i3 (a b c d : D) (l : List D) : atI (a :: b :: c :: d :: l) 3 = some d := by
  have := atI_nat (xs := a :: b :: c :: d :: l) (n := 3) (by simp)
  simpa using this
theorem i4 (a b c d e : D) (l : List D) : atI (a :: b :: c :: d :: e :: l) 4 = some e := by
  have := atI_nat (xs := a :: b :: c :: d :: e :: l) (n := 4) (by simp)
  simpa using this
theorem zs (n : Nat) (h : n ≤ 1000) : n ≤ sizeLine := by rw [z16]; omega
end
end Sm

set_option Elab.async false
set_option linter.all false
set_option maxRecDepth 100000
set_option maxHeartbeats 4000000
/-! Sm, repr of data. -/
namespace Sm
open PySem PySem.Spec L2
theorem sOk_app (x y : Str) : PyData.strOk (x ++ y) = (PyData.strOk x && PyData.strOk y) := by
  show (x.cps ++ y.cps).all _ = _
  rw [Array.all_append]
  rfl
theorem sOk_from : ∀ (ts : List Str) (k : Nat) (acc : Str), PyData.strOk acc = true → (∀ t ∈ ts, PyData.strOk t = true) → PyData.strOk (textFrom k acc ts) = true
  | [], k, acc, h, _ => h
  | t :: r, k, acc, h, ht => by
    unfold textFrom
    refine sOk_from r _ _ ?_ fun u hu => ht u (List.mem_cons_of_mem _ hu)
    rw [sOk_app, sOk_app, h, ht t List.mem_cons_self]
    by_cases hk : k > 0
    · rw [if_pos hk, strOk_of]
      rfl
    · rw [if_neg hk, strOk_of]
      rfl
theorem sOk_list (ts : List Str) (h : ∀ t ∈ ts, PyData.strOk t = true) : PyData.strOk (listText ts) = true := by
  unfold listText
  rw [sOk_app, sOk_from ts 0 _ (strOk_of _) h, strOk_of]
  rfl
theorem sOk_join (z : Str) (hz : PyData.strOk z = true) : ∀ ts : List Str, (∀ t ∈ ts, PyData.strOk t = true) → PyData.strOk (Str.join z ts) = true
  | [], _ => strOk_of ""
  | [x], h => h x List.mem_cons_self
  | x :: y :: r, h => by
    show PyData.strOk (x ++ z ++ Str.join z (y :: r)) = true
    rw [sOk_app, sOk_app, h x List.mem_cons_self, hz, sOk_join z hz (y :: r) fun t ht => h t (List.mem_cons_of_mem _ ht)]
    rfl
theorem sOk_tup (ts : List Str) (h : ∀ t ∈ ts, PyData.strOk t = true) : PyData.strOk (tupleText ts) = true := by
  unfold tupleText
  rw [sOk_app, sOk_app, sOk_join _ (strOk_of _) ts h, strOk_of, strOk_of]
  rfl
mutual
/-- bools, numbers, and tuples and lists of such -/
def nums : PyData → Bool
  | .none => true
  | .bool _ => true
  | .int i => decide (-1000000 ≤ i) && decide (i ≤ 1000000)
  | .str _ => false
  | .list xs => numsAll xs
  | .tuple xs => numsAll xs
  | .dict _ => false
def numsAll : List PyData → Bool
  | [] => true
  | x :: xs => nums x && numsAll xs
end
mutual
theorem nums_ok : ∀ p : PyData, nums p = true → PyData.strOk p.shown = true ∧ p.canLay0 = true
  | .none, _ => ⟨strOk_of "None", rfl⟩
  | .bool b, _ => ⟨by cases b <;> exact strOk_of _, rfl⟩
  | .int i, _ => ⟨strOk_of (toString i), rfl⟩
  | .list xs, h => by
    have := numsAll_ok xs (by simpa [nums] using h)
    simp only [PyData.shown, PyData.canLay0]
    exact ⟨sOk_list _ this.1, this.2⟩
  | .tuple xs, h => by
    have := numsAll_ok xs (by simpa [nums] using h)
    simp only [PyData.shown, PyData.canLay0]
    exact ⟨sOk_tup _ this.1, this.2⟩
theorem numsAll_ok : ∀ xs : List PyData, numsAll xs = true → (∀ t ∈ PyData.shownAll xs, PyData.strOk t = true) ∧ PyData.canLayAll0 xs = true
  | [], _ => ⟨fun t ht => by simp [PyData.shownAll] at ht, rfl⟩
  | x :: xs, h => by
    simp only [numsAll, Bool.and_eq_true] at h
    have h1 := nums_ok x h.1
    have h2 := numsAll_ok xs h.2
    simp only [PyData.shownAll, PyData.canLayAll0, List.mem_cons]
    refine ⟨fun t ht => ?_, by rw [h1.2, h2.2]; rfl⟩
    rcases ht with rfl | ht
    · exact h1.1
    · exact h2.1 t ht
end
theorem log_small {n : Nat} (h : n ≤ 1000000) : n.log2 < 20 := by
  by_cases h0 : n = 0
  · subst h0; decide
  · rw [Nat.log2_lt h0]
    have : (2 : Nat) ^ 20 = 1048576 := by decide
    omega
mutual
theorem nums_ok2 : ∀ p : PyData, nums p = true → p.intsShort 13 = true ∧ p.showable = true ∧ p.hasDict = false
  | .none, _ => ⟨rfl, rfl, rfl⟩
  | .bool b, _ => ⟨rfl, rfl, rfl⟩
  | .int i, h => by
    simp only [nums, Bool.and_eq_true, decide_eq_true_eq] at h
    have h1 : i.natAbs ≤ 1000000 := by omega
    refine ⟨?_, ?_, rfl⟩
    · simp only [PyData.intsShort, decide_eq_true_eq, PyData.shown]
      have h2 := int_text_length_le10 (a := i) (k := 7) (by omega) (Nat.lt_of_le_of_lt h1 (by decide))
      have h3 : (Str.ofString (toString i)).length = (toString i).length := ofString_length _
      refine decide_eq_true ?_
      omega
    · simp only [PyData.showable, decide_eq_true_eq]
      have := log_small h1
      omega
  | .list xs, h => by
    have := numsAll_ok2 xs (by simpa [nums] using h)
    simp only [PyData.intsShort, PyData.showable, PyData.hasDict]
    exact this
  | .tuple xs, h => by
    have := numsAll_ok2 xs (by simpa [nums] using h)
    simp only [PyData.intsShort, PyData.showable, PyData.hasDict]
    exact this
theorem numsAll_ok2 : ∀ xs : List PyData, numsAll xs = true → PyData.intsShortAll 13 xs = true ∧ PyData.showableAll xs = true ∧ PyData.hasDictAll xs = false
  | [], _ => ⟨rfl, rfl, rfl⟩
  | x :: xs, h => by
    simp only [numsAll, Bool.and_eq_true] at h
    have h1 := nums_ok2 x h.1
    have h2 := numsAll_ok2 xs h.2
    simp only [PyData.intsShortAll, PyData.showableAll, PyData.hasDictAll, h1.1, h1.2.1, h1.2.2, h2.1, h2.2.1, h2.2.2]
    exact ⟨rfl, rfl, rfl⟩
end
def isRaw : D → Bool
  | .raw _ => true
  | _ => false
theorem repr_of {d : D} {p : PyData} {m : MH} (hr : isRaw d = false) (hd : toP d = some p) (h1 : nums p = true) (h2 : p.depth ≤ 40) (h3 : p.weight ≤ 2 ^ 20) : gRepr [d] m = .ok (.raw (.str p.shown)) m := by
  have k1 := nums_ok p h1
  have k2 := nums_ok2 p h1
  have hl : p.layable0 = true := by
    show (PyData.canLay0 p && decide (PyData.depth p ≤ 64) && decide (PyData.weight p ≤ 2 ^ 20)) = true
    rw [k1.2, decide_eq_true (by omega), decide_eq_true h3]
    rfl
  have hz : p.shown.length ≤ sizeLine := Nat.le_trans (PyData.shown_le_of_layable0 hl k2.1) (by rw [z16]; omega)
  have hp : toPm m d = some p := toPm_of hd
  have e : gRepr [d] m = match toPm m d with
    | some p => if (p.showable && !p.hasDict && decide (p.depth ≤ 40) && decide (p.shown.length ≤ sizeLine)) = true then .ok (.raw (.str p.shown)) m else .no
    | none => .no := by
    cases d with
    | raw v => simp [isRaw] at hr
    | tup _ => rfl
    | lst _ => rfl
    | scr _ => rfl
    | obj _ => rfl
  rw [e, hp]
  simp only [k2.2.1, k2.2.2, decide_eq_true h2, decide_eq_true hz]
  rfl
/-- two texts -/
theorem eq_str {f : Bool → Bool} {x y : Str} {m : MH} (hx : PyData.strOk x = true) (hy : PyData.strOk y = true) : gEqB f (.raw (.str x)) (.raw (.str y)) m = .ok (.raw (.bl (f (decide (x = y))))) m := by
  have e : PyData.eqv (.str x) (.str y) = decide (x = y) := by
    simp only [PyData.eqv]
    rfl
  show (match toPm m (.raw (.str x)), toPm m (.raw (.str y)) with
    | some p, some q => if (SeqAt.shaped p && SeqAt.shaped q) = true then R.ok (D.raw (.bl (f (PyData.eqv p q)))) m else .no
    | _, _ => .no) = _
  have h1 : toPm m (.raw (.str x)) = some (.str x) := rfl
  have h2 : toPm m (.raw (.str y)) = some (.str y) := rfl
  have h3 : SeqAt.shaped (.str x) = true := by
    show (PyData.strOk x && _) = true
    rw [hx]
    rfl
  have h4 : SeqAt.shaped (.str y) = true := by
    show (PyData.strOk y && _) = true
    rw [hy]
    rfl
  rw [h1, h2]
  simp only [h3, h4, e]
  rfl
theorem eq_repr {f : Bool → Bool} {d e : D} {p q : PyData} {m : MH} (hd : isRaw d = false) (he : isRaw e = false) (h1 : toP d = some p) (h2 : toP e = some q) (k1 : nums p = true) (k2 : nums q = true) (l1 : p.depth ≤ 40) (l2 : q.depth ≤ 40) (w1 : p.weight ≤ 2 ^ 20) (w2 : q.weight ≤ 2 ^ 20) :
    ((gRepr [d] m).bnd fun x m1 => (gRepr [e] m1).bnd fun y m2 => gEqB f x y m2) = .ok (.raw (.bl (f (decide (p.shown = q.shown))))) m := by
  rw [repr_of hd h1 k1 l1 w1, bnd_ok, repr_of he h2 k2 l2 w2, bnd_ok, eq_str (nums_ok p k1).1 (nums_ok q k2).1]
end Sm

set_option Elab.async false
set_option linter.all false
set_option maxRecDepth 100000
set_option maxHeartbeats 4000000
/-! Printed by gen.py. -/
namespace Sm
namespace K01
open PySem PySem.Spec L2
abbrev top (i : Nat) : Stmt := PySem.Challenge.pw_owedforever_k01_words_and_what_they_keep.main.body.getD i (.Pass ⟨0, 0, 0, 0⟩)
/-- addresses of the written part -/
structure Gl0 where
  OTHER : Addr
  SIZES : Addr
  f_holds : Addr
  f_holds_at : Addr
  z : Unit
abbrev x_OweError : Nat := 0
abbrev x_NotSpec : Nat := 1
abbrev x_NotWord : Nat := 2
abbrev x_NotMachine : Nat := 3
abbrev x_NotGame : Nat := 4
abbrev x_NotPaper : Nat := 5
abbrev x_BadNumber : Nat := 6
abbrev x_NoAnswer : Nat := 7
abbrev x_TooLarge : Nat := 8
abbrev x_Malformed : Nat := 9
def d_MOST_BITS : D := .raw (.int 4)
def d_MOST_DEEP : D := .raw (.int 12)
def d_MOST_LETTERS : D := .raw (.int 40)
def d_MOST_TUPLES : D := .raw (.int 24)
def d_NO : D := .tup [.raw (.str "not"), .tup [.raw (.str "yes")]]
def t_OTHER : List (Str × Option V) := [("and", some (.str "or")), ("or", some (.str "and")), ("until", some (.str "release")), ("release", some (.str "until"))]
def t_SIZES : List (Str × Option V) := [("yes", some (.int 1)), ("bit", some (.int 2)), ("not", some (.int 2)), ("next", some (.int 2)), ("and", some (.int 3)), ("or", some (.int 3)), ("until", some (.int 3)), ("release", some (.int 3)), ("x", none)]
abbrev kcl : List Nat := [x_NotGame, x_NotMachine, x_NotWord, x_NotSpec, x_NoAnswer, x_BadNumber, x_NotPaper, x_Malformed, x_TooLarge]
abbrev rcl : List Nat := [x_NotSpec, x_NotWord, x_BadNumber]
def kd : Nat → Option Str := fun c => [(x_NotSpec, ("!spec" : Str)), (x_NotWord, ("!word" : Str)), (x_BadNumber, ("!number" : Str))].lookup c
structure Txt (K : PySem.W.Frag) (mg : Str → Option Value) (w : World) (ct : Nat → Addr) (g : Gl0) : Prop where
  b_all : mg "all" = none
  b_bool : mg "bool" = none
  b_int : mg "int" = none
  b_isinstance : mg "isinstance" = none
  b_len : mg "len" = none
  b_min : mg "min" = none
  b_range : mg "range" = none
  b_repr : mg "repr" = none
  b_str : mg "str" = none
  b_tuple : mg "tuple" = none
  b_zip : mg "zip" = none
  v_MOST_BITS : ∃ (v : V) (u : Value), mg "MOST_BITS" = some u ∧ RelV v u ∧ ∀ H w, RD K H w v d_MOST_BITS
  v_MOST_DEEP : ∃ (v : V) (u : Value), mg "MOST_DEEP" = some u ∧ RelV v u ∧ ∀ H w, RD K H w v d_MOST_DEEP
  v_MOST_LETTERS : ∃ (v : V) (u : Value), mg "MOST_LETTERS" = some u ∧ RelV v u ∧ ∀ H w, RD K H w v d_MOST_LETTERS
  v_MOST_TUPLES : ∃ (v : V) (u : Value), mg "MOST_TUPLES" = some u ∧ RelV v u ∧ ∀ H w, RD K H w v d_MOST_TUPLES
  v_NO : ∃ (v : V) (u : Value), mg "NO" = some u ∧ RelV v u ∧ ∀ H w, RD K H w v d_NO
  a_OTHER : mg "OTHER" = some (.ref g.OTHER)
  k_OTHER : KD K w g.OTHER
  t_OTHER : TblOk K g.OTHER t_OTHER
  a_SIZES : mg "SIZES" = some (.ref g.SIZES)
  k_SIZES : KD K w g.SIZES
  t_SIZES : TblOk K g.SIZES t_SIZES
  e_BadNumber : ErrT K mg "BadNumber" (ct x_BadNumber) "ValueError" "ValueError.__new__" [.type "ValueError", .type "Exception", .type "BaseException", .type "object"]
  e_NotSpec : ErrT K mg "NotSpec" (ct x_NotSpec) "ValueError" "ValueError.__new__" [.type "ValueError", .type "Exception", .type "BaseException", .type "object"]
  e_NotWord : ErrT K mg "NotWord" (ct x_NotWord) "ValueError" "ValueError.__new__" [.type "ValueError", .type "Exception", .type "BaseException", .type "object"]
  f_holds : mg "holds" = some (.ref g.f_holds)
  f_holds_at : mg "holds_at" = some (.ref g.f_holds_at)
  g_BadNumber : mg "BadNumber" = some (.ref (ct x_BadNumber))
  g_Malformed : mg "Malformed" = some (.ref (ct x_Malformed))
  g_NoAnswer : mg "NoAnswer" = some (.ref (ct x_NoAnswer))
  g_NotGame : mg "NotGame" = some (.ref (ct x_NotGame))
  g_NotMachine : mg "NotMachine" = some (.ref (ct x_NotMachine))
  g_NotPaper : mg "NotPaper" = some (.ref (ct x_NotPaper))
  g_NotSpec : mg "NotSpec" = some (.ref (ct x_NotSpec))
  g_NotWord : mg "NotWord" = some (.ref (ct x_NotWord))
  g_OweError : mg "OweError" = some (.ref (ct x_OweError))
  g_TooLarge : mg "TooLarge" = some (.ref (ct x_TooLarge))
  ca : ∀ c z, kd c = some z → PySem.W.exmOne K (.ref (ct c)) (.ref (ct x_OweError)) = some true
  eE : ∀ c ∈ rcl, ExcC K (ct c)
  eI : ∀ c ∈ rcl, ∀ j ∈ kcl, PySem.W.kitOne K (.ref (ct c)) (.ref (ct j)) = some (c == j)
  z : True
theorem kd_mem {c : Nat} {z : Str} (h : kd c = some z) : c ∈ rcl := by
  have := lookupN_mem h
  simp only [List.mem_cons, List.not_mem_nil, or_false, Prod.mk.injEq] at this
  simp only [rcl, List.mem_cons, List.not_mem_nil, or_false]
  omega
section
variable {P : Program} {w : World} {K : PySem.W.Frag} {mg : Str → Option Value} {base : Heap} {ct : Nat → Addr}
abbrev s_check_bits : Stmt := top 14
def N_check_bits : List Str := ["bits"]
theorem sc_check_bits : FnScope ["bits"] ["bits"] (defScope s_check_bits) := ⟨rfl, rfl, rfl, by decide +kernel, rfl, by decide +kernel, by decide +kernel⟩
def bd_check_bits (g : Gl0) : SmS :=
  sIf (bNot (bVal (eChain gLe gLe (eC (.raw (.int 1))) (eVar 0) (eC d_MOST_BITS)))) (sRaise x_BadNumber) (sNext)
def mf_check_bits (g : Gl0) : List D → MH → R D := runF 1 1 (bd_check_bits g)
theorem ok_check_bits {g : Gl0} {f : Addr} {fd : FuncData} (T : Txt K mg w ct g) (F : Fun K "check_bits" "check_bits" s_check_bits f fd) (hm : mg "check_bits" = some (.ref f)) (hb : Binds K fd ["bits"] []) :
    FM P w K mg base ct 1 "check_bits" 1 (mf_check_bits g) :=
  FM.mk' (st := s_check_bits) F hm hb sc_check_bits (fun cdv A outer s H E hr tk hp => by
    have nd := sc_check_bits.nd
    exact sss_one (ss_if (st_not (st_chain op_le d_rI0 op_le d_rI0 (se_int) (se_var 0) (se_gl (by rfl) T.v_MOST_BITS))) (sss_one (ss_raise PySem.F.excBase_ValueError T.e_BadNumber (by rfl) tk rfl)) (sss_nil)))
abbrev s_are_letters : Stmt := top 15
def N_are_letters : List Str := ["bits", "letters", "letter"]
theorem sc_are_letters : FnScope ["bits", "letters", "letter"] ["bits", "letters"] (defScope s_are_letters) := ⟨rfl, rfl, rfl, by decide +kernel, rfl, by decide +kernel, by decide +kernel⟩
def lc_are_letters_1 (g : Gl0) : Fr → MH → R (List D) :=
  lcF [2] (iD (eVar 1)) (gN 2) (bTrue) (eChain gLe gLt (eC (.raw (.int 0))) (eVar 2) (e2 gShl (eC (.raw (.int 1))) (eVar 0)))
def bd_are_letters (g : Gl0) : SmS :=
  sRet (eAnd (e2 gLe (eA gLen (aCons (eVar 1) (aNil))) (eC d_MOST_LETTERS)) (eA gAll (aCons (eLc (lc_are_letters_1 g)) (aNil))))
def mf_are_letters (g : Gl0) : List D → MH → R D := runF 3 2 (bd_are_letters g)
theorem ok_are_letters {g : Gl0} {f : Addr} {fd : FuncData} (T : Txt K mg w ct g) (F : Fun K "are_letters" "are_letters" s_are_letters f fd) (hm : mg "are_letters" = some (.ref f)) (hb : Binds K fd ["bits", "letters"] []) :
    FM P w K mg base ct 1 "are_letters" 2 (mf_are_letters g) :=
  FM.mk' (st := s_are_letters) F hm hb sc_are_letters (fun cdv A outer s H E hr tk hp => by
    have nd := sc_are_letters.nd
    exact sss_one (ss_ret (se_and (se_cmp op_le d_rI0 (se_callB call_len d_len (by rfl) T.b_len bt_len (sa_cons (se_var 1) (sa_nil))) (se_gl (by rfl) T.v_MOST_LETTERS) (nomark _)) (se_one (se_callB (cr_all rfl) d_all (by rfl) T.b_all bt_all (sa_cons (se_lc (own := [(("letter" : Str), 2)]) (by rfl) (by exact nd) (si_seq (se_var 1)) (blkOk_by (by rfl)) (by decide) (fun _ _ _ _ _ => sg_name (i := 2) (by exact nd) rfl (by first | exact Or.inl rfl | exact Or.inr rfl)) (fun _ _ _ _ _ => sts_nil) (fun _ _ _ _ _ => se_chain op_le d_rI0 op_lt d_rI0 (se_int) (se_var 2) (se_op op_shl (d_rI cPow_ok) (se_int) (se_var 0)))) (sa_nil)))))))
abbrev s_is_word : Stmt := top 16
def N_is_word : List Str := ["bits", "word", "ahead", "turn"]
theorem sc_is_word : FnScope ["bits", "word", "ahead", "turn"] ["bits", "word"] (defScope s_is_word) := ⟨rfl, rfl, rfl, by decide +kernel, rfl, by decide +kernel, by decide +kernel⟩
def bd_is_word (g : Gl0) : SmS :=
  sSeq (sDo (eCall false (mf_check_bits g) (aCons (eVar 0) (aNil)))) (sSeq (sAsg (eVar 1) (gT 2 (gsCons (gN 2) (gsCons (gN 3) (gsNil))))) (sRet (eAnd (eCall false (mf_are_letters g) (aCons (eVar 0) (aCons (eVar 2) (aNil)))) (eAnd (eCall false (mf_are_letters g) (aCons (eVar 0) (aCons (eVar 3) (aNil)))) (e2 gGt (eA gLen (aCons (eVar 3) (aNil))) (eC (.raw (.int 0))))))))
def mf_is_word (g : Gl0) : List D → MH → R D := runF 4 2 (bd_is_word g)
theorem ok_is_word {g : Gl0} {f : Addr} {fd : FuncData} (T : Txt K mg w ct g) (F : Fun K "is_word" "is_word" s_is_word f fd) (hm : mg "is_word" = some (.ref f)) (hb : Binds K fd ["bits", "word"] []) (G_check_bits : FM P w K mg base ct 1 "check_bits" 1 (mf_check_bits g)) (G_are_letters : FM P w K mg base ct 1 "are_letters" 2 (mf_are_letters g)) :
    FM P w K mg base ct 2 "is_word" 2 (mf_is_word g) :=
  FM.mk' (st := s_is_word) F hm hb sc_is_word (fun cdv A outer s H E hr tk hp => by
    have nd := sc_is_word.nd
    exact sss_cons (ss_do (se_call G_check_bits (hr.mono (by first | decide | omega)) tk (by rfl) (sa_cons (se_var 0) (sa_nil)))) (sss_cons (ss_asg (se_var 1) (sg_tup (by rfl) (sgs_cons (sg_name (i := 2) (by exact nd) rfl (by first | exact Or.inl rfl | exact Or.inr rfl)) (sgs_cons (sg_name (i := 3) (by exact nd) rfl (by first | exact Or.inl rfl | exact Or.inr rfl)) (sgs_nil))))) (sss_one (ss_ret (se_and (se_call G_are_letters (hr.mono (by first | decide | omega)) tk (by rfl) (sa_cons (se_var 0) (sa_cons (se_var 2) (sa_nil)))) (se_and (se_call G_are_letters (hr.mono (by first | decide | omega)) tk (by rfl) (sa_cons (se_var 0) (sa_cons (se_var 3) (sa_nil)))) (se_one (se_cmp op_gt d_rI0 (se_callB call_len d_len (by rfl) T.b_len bt_len (sa_cons (se_var 3) (sa_nil))) (se_int) (nomark _)))))))))
abbrev s_check_word : Stmt := top 17
def N_check_word : List Str := ["bits", "word"]
theorem sc_check_word : FnScope ["bits", "word"] ["bits", "word"] (defScope s_check_word) := ⟨rfl, rfl, rfl, by decide +kernel, rfl, by decide +kernel, by decide +kernel⟩
def bd_check_word (g : Gl0) : SmS :=
  sIf (bNot (bTru (eCall false (mf_is_word g) (aCons (eVar 0) (aCons (eVar 1) (aNil)))))) (sRaise x_NotWord) (sNext)
def mf_check_word (g : Gl0) : List D → MH → R D := runF 2 2 (bd_check_word g)
theorem ok_check_word {g : Gl0} {f : Addr} {fd : FuncData} (T : Txt K mg w ct g) (F : Fun K "check_word" "check_word" s_check_word f fd) (hm : mg "check_word" = some (.ref f)) (hb : Binds K fd ["bits", "word"] []) (G_is_word : FM P w K mg base ct 2 "is_word" 2 (mf_is_word g)) :
    FM P w K mg base ct 3 "check_word" 2 (mf_check_word g) :=
  FM.mk' (st := s_check_word) F hm hb sc_check_word (fun cdv A outer s H E hr tk hp => by
    have nd := sc_check_word.nd
    exact sss_one (ss_if (st_not (st_tru (se_call G_is_word (hr.mono (by first | decide | omega)) tk (by rfl) (sa_cons (se_var 0) (sa_cons (se_var 1) (sa_nil)))))) (sss_one (ss_raise PySem.F.excBase_ValueError T.e_NotWord (by rfl) tk rfl)) (sss_nil)))
abbrev s_letter_at : Stmt := top 18
def N_letter_at : List Str := ["word", "n", "ahead", "turn"]
theorem sc_letter_at : FnScope ["word", "n", "ahead", "turn"] ["word", "n"] (defScope s_letter_at) := ⟨rfl, rfl, rfl, by decide +kernel, rfl, by decide +kernel, by decide +kernel⟩
def bd_letter_at (g : Gl0) : SmS :=
  sSeq (sAsg (eVar 0) (gT 2 (gsCons (gN 2) (gsCons (gN 3) (gsNil))))) (sRet (eIf (bVal (e2 gLt (eVar 1) (eA gLen (aCons (eVar 2) (aNil))))) (e2 gIx (eVar 2) (eVar 1)) (e2 gIx (eVar 3) (e2 gMod (e2 gSub (eVar 1) (eA gLen (aCons (eVar 2) (aNil)))) (eA gLen (aCons (eVar 3) (aNil)))))))
def mf_letter_at (g : Gl0) : List D → MH → R D := runF 4 2 (bd_letter_at g)
theorem ok_letter_at {g : Gl0} {f : Addr} {fd : FuncData} (T : Txt K mg w ct g) (F : Fun K "letter_at" "letter_at" s_letter_at f fd) (hm : mg "letter_at" = some (.ref f)) (hb : Binds K fd ["word", "n"] []) :
    FM P w K mg base ct 1 "letter_at" 2 (mf_letter_at g) :=
  FM.mk' (st := s_letter_at) F hm hb sc_letter_at (fun cdv A outer s H E hr tk hp => by
    have nd := sc_letter_at.nd
    exact sss_cons (ss_asg (se_var 0) (sg_tup (by rfl) (sgs_cons (sg_name (i := 2) (by exact nd) rfl (by first | exact Or.inl rfl | exact Or.inr rfl)) (sgs_cons (sg_name (i := 3) (by exact nd) rfl (by first | exact Or.inl rfl | exact Or.inr rfl)) (sgs_nil))))) (sss_one (ss_ret (se_if (st_cmp op_lt d_rI0 (se_var 1) (se_callB call_len d_len (by rfl) T.b_len bt_len (sa_cons (se_var 2) (sa_nil))) (nomark _)) (se_ix ix_seq d_ix (se_var 2) (se_var 1) (fun _ _ => rfl)) (se_ix ix_seq d_ix (se_var 3) (se_op op_mod (d_rI cPos_ok) (se_op op_sub d_rI0 (se_var 1) (se_callB call_len d_len (by rfl) T.b_len bt_len (sa_cons (se_var 2) (sa_nil)))) (se_callB call_len d_len (by rfl) T.b_len bt_len (sa_cons (se_var 3) (sa_nil)))) (fun _ _ => rfl))))))
abbrev s_shortest_round : Stmt := top 19
def N_shortest_round : List Str := ["turn", "size"]
theorem sc_shortest_round : FnScope ["turn", "size"] ["turn"] (defScope s_shortest_round) := ⟨rfl, rfl, rfl, by decide +kernel, rfl, by decide +kernel, by decide +kernel⟩
def bo_shortest_round_1 (g : Gl0) : SmS :=
  sIf (bAnd (bVal (e2 gEq (e2 gMod (eA gLen (aCons (eVar 0) (aNil))) (eVar 1)) (eC (.raw (.int 0))))) (bVal (e2 gEq (e2 gMulT (eA gTuple (aCons (eSl (eVar 0) none (some (eVar 1))) (aNil))) (e2 gFdiv (eA gLen (aCons (eVar 0) (aNil))) (eVar 1))) (eA gTuple (aCons (eVar 0) (aNil)))))) (sRet (eA gTuple (aCons (eSl (eVar 0) none (some (eVar 1))) (aNil)))) (sNext)
def lp_shortest_round_1 (g : Gl0) : SmS :=
  sFor (iA gR2 (aCons (eC (.raw (.int 1))) (aCons (e2 gAdd (eA gLen (aCons (eVar 0) (aNil))) (eC (.raw (.int 1)))) (aNil)))) (gN 1) (bo_shortest_round_1 g)
def bd_shortest_round (g : Gl0) : SmS :=
  sSeq (lp_shortest_round_1 g) (sRet (eA gTuple (aCons (eVar 0) (aNil))))
def mf_shortest_round (g : Gl0) : List D → MH → R D := runF 2 1 (bd_shortest_round g)
theorem ok_shortest_round {g : Gl0} {f : Addr} {fd : FuncData} (T : Txt K mg w ct g) (F : Fun K "shortest_round" "shortest_round" s_shortest_round f fd) (hm : mg "shortest_round" = some (.ref f)) (hb : Binds K fd ["turn"] []) :
    FM P w K mg base ct 1 "shortest_round" 1 (mf_shortest_round g) :=
  FM.mk' (st := s_shortest_round) F hm hb sc_shortest_round (fun cdv A outer s H E hr tk hp => by
    have nd := sc_shortest_round.nd
    exact sss_cons (ss_for hp (by rfl) (si_range2 (by rfl) T.b_range (sa_cons (se_int) (sa_cons (se_op op_addU d_addU (se_callB call_len d_len (by rfl) T.b_len bt_len (sa_cons (se_var 0) (sa_nil))) (se_int)) (sa_nil)))) (sg_name (i := 1) (by exact nd) rfl (by first | exact Or.inl rfl | exact Or.inr rfl)) (sss_one (ss_if (st_w (sw_and (st_cmp (op_eqD (hu_of64 hr)) d_eq (se_op op_mod (d_rI cPos_ok) (se_callB call_len d_len (by rfl) T.b_len bt_len (sa_cons (se_var 0) (sa_nil))) (se_var 1)) (se_int) (nomark _)) (sw_and1 (st_cmp (op_eqD (hu_of64 hr)) d_eq (se_op op_mulT d_mulT (se_callTy call_tuple_of d_tuple (by rfl) T.b_tuple bt_tuple (sa_cons (se_sl (se_var 0) so_none (so_some (se_var 1))) (sa_nil))) (se_op op_fdiv (d_rI cDiv_ok) (se_callB call_len d_len (by rfl) T.b_len bt_len (sa_cons (se_var 0) (sa_nil))) (se_var 1))) (se_callTy call_tuple_of d_tuple (by rfl) T.b_tuple bt_tuple (sa_cons (se_var 0) (sa_nil))) (nomark _))))) (sss_one (ss_ret (se_callTy call_tuple_of d_tuple (by rfl) T.b_tuple bt_tuple (sa_cons (se_sl (se_var 0) so_none (so_some (se_var 1))) (sa_nil))))) (sss_nil)))) (sss_one (ss_ret (se_callTy call_tuple_of d_tuple (by rfl) T.b_tuple bt_tuple (sa_cons (se_var 0) (sa_nil))))))
abbrev s_plain_word : Stmt := top 20
def N_plain_word : List Str := ["word", "ahead", "turn"]
theorem sc_plain_word : FnScope ["word", "ahead", "turn"] ["word"] (defScope s_plain_word) := ⟨rfl, rfl, rfl, by decide +kernel, rfl, by decide +kernel, by decide +kernel⟩
def bo_plain_word_1 (g : Gl0) : SmS :=
  sPar 1 2 (aCons (eSl (eVar 1) none (some (e1 gNeg (eC (.raw (.int 1)))))) (aCons (eA gTup (aCons (e2 gIx (eVar 2) (e1 gNeg (eC (.raw (.int 1))))) (aStar (eSl (eVar 2) none (some (e1 gNeg (eC (.raw (.int 1)))))) (aNil)))) (aNil)))
def lp_plain_word_1 (g : Gl0) : SmS :=
  whl (bAnd (bTru (eVar 1)) (bVal (e2 gEq (e2 gIx (eVar 1) (e1 gNeg (eC (.raw (.int 1))))) (e2 gIx (eVar 2) (e1 gNeg (eC (.raw (.int 1)))))))) (bo_plain_word_1 g) 1000
def bd_plain_word (g : Gl0) : SmS :=
  sSeq (sPar 1 2 (aCons (eA gTuple (aCons (e2 gIx (eVar 0) (eC (.raw (.int 0)))) (aNil))) (aCons (eCall false (mf_shortest_round g) (aCons (e2 gIx (eVar 0) (eC (.raw (.int 1)))) (aNil))) (aNil)))) (sSeq (lp_plain_word_1 g) (sRet (eA gTup (aCons (eVar 1) (aCons (eVar 2) (aNil))))))
def mf_plain_word (g : Gl0) : List D → MH → R D := runF 3 1 (bd_plain_word g)
theorem ok_plain_word {g : Gl0} {f : Addr} {fd : FuncData} (T : Txt K mg w ct g) (F : Fun K "plain_word" "plain_word" s_plain_word f fd) (hm : mg "plain_word" = some (.ref f)) (hb : Binds K fd ["word"] []) (G_shortest_round : FM P w K mg base ct 1 "shortest_round" 1 (mf_shortest_round g)) :
    FM P w K mg base ct 2 "plain_word" 1 (mf_plain_word g) :=
  FM.mk' (st := s_plain_word) F hm hb sc_plain_word (fun cdv A outer s H E hr tk hp => by
    have nd := sc_plain_word.nd
    exact sss_cons (ss_par (i := 1) (j := 2) (by rfl) (by exact nd) rfl rfl (by decide) rfl rfl (sa_cons (se_callTy call_tuple_of d_tuple (by rfl) T.b_tuple bt_tuple (sa_cons (se_ix ix_seq d_ix (se_var 0) (se_int) (fun _ _ => rfl)) (sa_nil))) (sa_cons (se_call G_shortest_round (hr.mono (by first | decide | omega)) tk (by rfl) (sa_cons (se_ix ix_seq d_ix (se_var 0) (se_int) (fun _ _ => rfl)) (sa_nil))) (sa_nil))) (by rfl)) (sss_cons (ss_while 1000 hp (st_w (sw_and (st_tru (se_var 1)) (sw_and1 (st_cmp (op_eqD (hu_of64 hr)) d_eq (se_ix ix_seq d_ix (se_var 1) (se_un un_neg d_neg (se_int)) (fun _ _ => rfl)) (se_ix ix_seq d_ix (se_var 2) (se_un un_neg d_neg (se_int)) (fun _ _ => rfl)) (nomark _))))) (sss_one (ss_par (i := 1) (j := 2) (by rfl) (by exact nd) rfl rfl (by decide) rfl rfl (sa_cons (se_sl (se_var 1) so_none (so_some (se_un un_neg d_neg (se_int)))) (sa_cons (se_tup (sa_cons (se_ix ix_seq d_ix (se_var 2) (se_un un_neg d_neg (se_int)) (fun _ _ => rfl)) (sa_star (se_sl (se_var 2) so_none (so_some (se_un un_neg d_neg (se_int)))) (sa_nil)))) (sa_nil))) (by rfl)))) (sss_one (ss_ret (se_tup (sa_cons (se_var 1) (sa_cons (se_var 2) (sa_nil))))))))
abbrev s_same_words : Stmt := top 21
def N_same_words : List Str := ["one", "other"]
theorem sc_same_words : FnScope ["one", "other"] ["one", "other"] (defScope s_same_words) := ⟨rfl, rfl, rfl, by decide +kernel, rfl, by decide +kernel, by decide +kernel⟩
def bd_same_words (g : Gl0) : SmS :=
  sRet (e2 gEq (eCall false (mf_plain_word g) (aCons (eVar 0) (aNil))) (eCall false (mf_plain_word g) (aCons (eVar 1) (aNil))))
def mf_same_words (g : Gl0) : List D → MH → R D := runF 2 2 (bd_same_words g)
theorem ok_same_words {g : Gl0} {f : Addr} {fd : FuncData} (T : Txt K mg w ct g) (F : Fun K "same_words" "same_words" s_same_words f fd) (hm : mg "same_words" = some (.ref f)) (hb : Binds K fd ["one", "other"] []) (G_plain_word : FM P w K mg base ct 2 "plain_word" 1 (mf_plain_word g)) :
    FM P w K mg base ct 3 "same_words" 2 (mf_same_words g) :=
  FM.mk' (st := s_same_words) F hm hb sc_same_words (fun cdv A outer s H E hr tk hp => by
    have nd := sc_same_words.nd
    exact sss_one (ss_ret (se_cmp (op_eqD (hu_of64 hr)) d_eq (se_call G_plain_word (hr.mono (by first | decide | omega)) tk (by rfl) (sa_cons (se_var 0) (sa_nil))) (se_call G_plain_word (hr.mono (by first | decide | omega)) tk (by rfl) (sa_cons (se_var 1) (sa_nil))) (nomark _))))
abbrev s_turned_on : Stmt := top 22
def N_turned_on : List Str := ["word", "n", "ahead", "turn", "spot"]
theorem sc_turned_on : FnScope ["word", "n", "ahead", "turn", "spot"] ["word", "n"] (defScope s_turned_on) := ⟨rfl, rfl, rfl, by decide +kernel, rfl, by decide +kernel, by decide +kernel⟩
def bd_turned_on (g : Gl0) : SmS :=
  sSeq (sAsg (eVar 0) (gT 2 (gsCons (gN 2) (gsCons (gN 3) (gsNil))))) (sSeq (sIf (bVal (e2 gLe (eVar 1) (eA gLen (aCons (eVar 2) (aNil))))) (sRet (eCall false (mf_plain_word g) (aCons (eA gTup (aCons (eA gTuple (aCons (eSl (eVar 2) (some (eVar 1)) none) (aNil))) (aCons (eVar 3) (aNil)))) (aNil)))) (sNext)) (sSeq (sAsg (e2 gMod (e2 gSub (eVar 1) (eA gLen (aCons (eVar 2) (aNil)))) (eA gLen (aCons (eVar 3) (aNil)))) (gN 4)) (sRet (eCall false (mf_plain_word g) (aCons (eA gTup (aCons (eA gTup (aNil)) (aCons (eA gTup (aStar (eSl (eVar 3) (some (eVar 4)) none) (aStar (eSl (eVar 3) none (some (eVar 4))) (aNil)))) (aNil)))) (aNil))))))
def mf_turned_on (g : Gl0) : List D → MH → R D := runF 5 2 (bd_turned_on g)
theorem ok_turned_on {g : Gl0} {f : Addr} {fd : FuncData} (T : Txt K mg w ct g) (F : Fun K "turned_on" "turned_on" s_turned_on f fd) (hm : mg "turned_on" = some (.ref f)) (hb : Binds K fd ["word", "n"] []) (G_plain_word : FM P w K mg base ct 2 "plain_word" 1 (mf_plain_word g)) :
    FM P w K mg base ct 3 "turned_on" 2 (mf_turned_on g) :=
  FM.mk' (st := s_turned_on) F hm hb sc_turned_on (fun cdv A outer s H E hr tk hp => by
    have nd := sc_turned_on.nd
    exact sss_cons (ss_asg (se_var 0) (sg_tup (by rfl) (sgs_cons (sg_name (i := 2) (by exact nd) rfl (by first | exact Or.inl rfl | exact Or.inr rfl)) (sgs_cons (sg_name (i := 3) (by exact nd) rfl (by first | exact Or.inl rfl | exact Or.inr rfl)) (sgs_nil))))) (sss_cons (ss_if (st_cmp op_le d_rI0 (se_var 1) (se_callB call_len d_len (by rfl) T.b_len bt_len (sa_cons (se_var 2) (sa_nil))) (nomark _)) (sss_one (ss_ret (se_call G_plain_word (hr.mono (by first | decide | omega)) tk (by rfl) (sa_cons (se_tup (sa_cons (se_callTy call_tuple_of d_tuple (by rfl) T.b_tuple bt_tuple (sa_cons (se_sl (se_var 2) (so_some (se_var 1)) so_none) (sa_nil))) (sa_cons (se_var 3) (sa_nil)))) (sa_nil))))) (sss_nil)) (sss_cons (ss_set (i := 4) (by exact nd) rfl (by first | exact Or.inl rfl | exact Or.inr rfl) (se_op op_mod (d_rI cPos_ok) (se_op op_sub d_rI0 (se_var 1) (se_callB call_len d_len (by rfl) T.b_len bt_len (sa_cons (se_var 2) (sa_nil)))) (se_callB call_len d_len (by rfl) T.b_len bt_len (sa_cons (se_var 3) (sa_nil))))) (sss_one (ss_ret (se_call G_plain_word (hr.mono (by first | decide | omega)) tk (by rfl) (sa_cons (se_tup (sa_cons (se_tup (sa_nil)) (sa_cons (se_tup (sa_star (se_sl (se_var 3) (so_some (se_var 4)) so_none) (sa_star (se_sl (se_var 3) so_none (so_some (se_var 4))) (sa_nil)))) (sa_nil)))) (sa_nil))))))))
abbrev s_sides_of : Stmt := top 28
def N_sides_of : List Str := ["sentence"]
theorem sc_sides_of : FnScope ["sentence"] ["sentence"] (defScope s_sides_of) := ⟨rfl, rfl, rfl, by decide +kernel, rfl, by decide +kernel, by decide +kernel⟩
def bd_sides_of (g : Gl0) : SmS :=
  sRet (eIf (bVal (e2 (gIn false) (e2 gIx (eVar 0) (eC (.raw (.int 0)))) (eA gTup (aCons (eC (.raw (.str "yes"))) (aCons (eC (.raw (.str "bit"))) (aNil)))))) (eA gTup (aNil)) (eSl (eVar 0) (some (eC (.raw (.int 1)))) none))
def mf_sides_of (g : Gl0) : List D → MH → R D := runF 1 1 (bd_sides_of g)
theorem ok_sides_of {g : Gl0} {f : Addr} {fd : FuncData} (T : Txt K mg w ct g) (F : Fun K "sides_of" "sides_of" s_sides_of f fd) (hm : mg "sides_of" = some (.ref f)) (hb : Binds K fd ["sentence"] []) :
    FM P w K mg base ct 1 "sides_of" 1 (mf_sides_of g) :=
  FM.mk' (st := s_sides_of) F hm hb sc_sides_of (fun cdv A outer s H E hr tk hp => by
    have nd := sc_sides_of.nd
    exact sss_one (ss_ret (se_if (st_cmp op_in_seq d_in (se_ix ix_seq d_ix (se_var 0) (se_int) (fun _ _ => rfl)) (se_tup (sa_cons (se_str) (sa_cons (se_str) (sa_nil)))) (by with_unfolding_all rfl)) (se_tup (sa_nil)) (se_sl (se_var 0) (so_some (se_int)) so_none))))
abbrev s_is_told : Stmt := top 29
def N_is_told : List Str := ["many", "sentence"]
theorem sc_is_told : FnScope ["many", "sentence"] ["many", "sentence"] (defScope s_is_told) := ⟨rfl, rfl, rfl, by decide +kernel, rfl, by decide +kernel, by decide +kernel⟩
def bd_is_told (g : Gl0) : SmS :=
  sSeq (sIf (bOr (bNot (bTru (eA gIsi (aCons (eVar 1) (aCons (eC (.raw (.ty "tuple"))) (aNil)))))) (bOr (bNot (bTru (eVar 1))) (bNot (bTru (eA gIsi (aCons (e2 gIx (eVar 1) (eC (.raw (.int 0)))) (aCons (eC (.raw (.ty "str"))) (aNil)))))))) (sRet (eC (.raw (.bl false)))) (sNext)) (sSeq (sIf (bOr (bVal (e2 (gInK g.SIZES t_SIZES true) (e2 gIx (eVar 1) (eC (.raw (.int 0)))) (eC (.raw (.ref g.SIZES))))) (bVal (e2 gNe (eA gLen (aCons (eVar 1) (aNil))) (e2 (gIxK g.SIZES t_SIZES) (eC (.raw (.ref g.SIZES))) (e2 gIx (eVar 1) (eC (.raw (.int 0)))))))) (sRet (eC (.raw (.bl false)))) (sNext)) (sSeq (sIf (bVal (e2 gNe (e2 gIx (eVar 1) (eC (.raw (.int 0)))) (eC (.raw (.str "bit"))))) (sRet (eC (.raw (.bl true)))) (sNext)) (sRet (eAnd (eA gIsi (aCons (e2 gIx (eVar 1) (eC (.raw (.int 1)))) (aCons (eC (.raw (.ty "int"))) (aNil)))) (eAnd (eNot (eA gIsi (aCons (e2 gIx (eVar 1) (eC (.raw (.int 1)))) (aCons (eC (.raw (.ty "bool"))) (aNil))))) (eChain gLe gLt (eC (.raw (.int 0))) (e2 gIx (eVar 1) (eC (.raw (.int 1)))) (eVar 0)))))))
def mf_is_told (g : Gl0) : List D → MH → R D := runF 2 2 (bd_is_told g)
theorem ok_is_told {g : Gl0} {f : Addr} {fd : FuncData} (T : Txt K mg w ct g) (F : Fun K "is_told" "is_told" s_is_told f fd) (hm : mg "is_told" = some (.ref f)) (hb : Binds K fd ["many", "sentence"] []) :
    FM P w K mg base ct 1 "is_told" 2 (mf_is_told g) :=
  FM.mk' (st := s_is_told) F hm hb sc_is_told (fun cdv A outer s H E hr tk hp => by
    have nd := sc_is_told.nd
    exact sss_cons (ss_if (st_w (sw_or (st_not (st_tru (se_callB call_isi d_isi (by rfl) T.b_isinstance bt_isinstance (sa_cons (se_var 1) (sa_cons (se_tyN (by rfl) T.b_tuple bt_tuple) (sa_nil)))))) (sw_or (st_not (st_tru (se_var 1))) (sw_or1 (st_not (st_tru (se_callB call_isi d_isi (by rfl) T.b_isinstance bt_isinstance (sa_cons (se_ix ix_seq d_ix (se_var 1) (se_int) (fun _ _ => rfl)) (sa_cons (se_tyN (by rfl) T.b_str bt_str) (sa_nil)))))))))) (sss_one (ss_ret (se_bl))) (sss_nil)) (sss_cons (ss_if (st_w (sw_or (st_cmp (op_notInKD T.k_SIZES) (d_inK rfl T.t_SIZES) (se_ix ix_seq d_ix (se_var 1) (se_int) (fun _ _ => rfl)) (se_gref (by rfl) T.a_SIZES) (by with_unfolding_all rfl)) (sw_or1 (st_cmp (op_neD (hu_of64 hr)) d_ne (se_callB call_len d_len (by rfl) T.b_len bt_len (sa_cons (se_var 1) (sa_nil))) (se_ix ix_kdict (d_ixKD T.k_SIZES T.t_SIZES) (se_gref (by rfl) T.a_SIZES) (se_ix ix_seq d_ix (se_var 1) (se_int) (fun _ _ => rfl)) (fun _ _ => rfl)) (nomark _))))) (sss_one (ss_ret (se_bl))) (sss_nil)) (sss_cons (ss_if (st_cmp (op_neD (hu_of64 hr)) d_ne (se_ix ix_seq d_ix (se_var 1) (se_int) (fun _ _ => rfl)) (se_str) (nomark _)) (sss_one (ss_ret (se_bl))) (sss_nil)) (sss_one (ss_ret (se_and (se_callB call_isi d_isi (by rfl) T.b_isinstance bt_isinstance (sa_cons (se_ix ix_seq d_ix (se_var 1) (se_int) (fun _ _ => rfl)) (sa_cons (se_tyN (by rfl) T.b_int bt_int) (sa_nil)))) (se_and (se_not (se_callB call_isi d_isi (by rfl) T.b_isinstance bt_isinstance (sa_cons (se_ix ix_seq d_ix (se_var 1) (se_int) (fun _ _ => rfl)) (sa_cons (se_tyN (by rfl) T.b_bool bt_bool) (sa_nil))))) (se_one (se_chain op_le d_rI0 op_lt d_rI0 (se_int) (se_ix ix_seq d_ix (se_var 1) (se_int) (fun _ _ => rfl)) (se_var 0))))))))))
abbrev s_is_sentence : Stmt := top 30
def N_is_sentence : List Str := ["many", "sentence", "found", "waiting", "here", "deep", "side"]
theorem sc_is_sentence : FnScope ["many", "sentence", "found", "waiting", "here", "deep", "side"] ["many", "sentence"] (defScope s_is_sentence) := ⟨rfl, rfl, rfl, by decide +kernel, rfl, by decide +kernel, by decide +kernel⟩
def lc_is_sentence_1 (g : Gl0) : Fr → MH → R (List D) :=
  lcF [6] (iD (eCall false (mf_sides_of g) (aCons (eVar 4) (aNil)))) (gN 6) (bTrue) (eA gTup (aCons (eVar 6) (aCons (e2 gAdd (eVar 5) (eC (.raw (.int 1)))) (aNil))))
def bo_is_sentence_1 (g : Gl0) : SmS :=
  sSeq (sAsg (eM0 isLst gPop (eVar 3)) (gT 2 (gsCons (gN 4) (gsCons (gN 5) (gsNil))))) (sSeq (sAug 2 (eC (.raw (.int 1))) (gI cT fun i j => .int (i + j))) (sSeq (sIf (bOr (bVal (e2 gGt (eVar 2) (eC d_MOST_TUPLES))) (bOr (bVal (e2 gGt (eVar 5) (eC d_MOST_DEEP))) (bNot (bTru (eCall false (mf_is_told g) (aCons (eVar 0) (aCons (eVar 4) (aNil)))))))) (sRet (eC (.raw (.bl false)))) (sNext)) (sDo (eM isLst gExtend (eVar 3) (aCons (eLc (lc_is_sentence_1 g)) (aNil))))))
def lp_is_sentence_1 (g : Gl0) : SmS :=
  whl (bTru (eVar 3)) (bo_is_sentence_1 g) 1000
def bd_is_sentence (g : Gl0) : SmS :=
  sSeq (sPar 2 3 (aCons (eC (.raw (.int 0))) (aCons (eA gNew (aCons (eA gTup (aCons (eVar 1) (aCons (eC (.raw (.int 1))) (aNil)))) (aNil))) (aNil)))) (sSeq (lp_is_sentence_1 g) (sRet (eC (.raw (.bl true)))))
def mf_is_sentence (g : Gl0) : List D → MH → R D := runF 7 2 (bd_is_sentence g)
theorem ok_is_sentence {g : Gl0} {f : Addr} {fd : FuncData} (T : Txt K mg w ct g) (F : Fun K "is_sentence" "is_sentence" s_is_sentence f fd) (hm : mg "is_sentence" = some (.ref f)) (hb : Binds K fd ["many", "sentence"] []) (G_sides_of : FM P w K mg base ct 1 "sides_of" 1 (mf_sides_of g)) (G_is_told : FM P w K mg base ct 1 "is_told" 2 (mf_is_told g)) :
    FM P w K mg base ct 2 "is_sentence" 2 (mf_is_sentence g) :=
  FM.mk' (st := s_is_sentence) F hm hb sc_is_sentence (fun cdv A outer s H E hr tk hp => by
    have nd := sc_is_sentence.nd
    exact sss_cons (ss_par (i := 2) (j := 3) (by rfl) (by exact nd) rfl rfl (by decide) rfl rfl (sa_cons (se_int) (sa_cons (se_new (sa_cons (se_tup (sa_cons (se_var 1) (sa_cons (se_int) (sa_nil)))) (sa_nil))) (sa_nil))) (by rfl)) (sss_cons (ss_while 1000 hp (st_tru (se_var 3)) (sss_cons (ss_asg (se_bm0 PySem.F.plainAttrs_list PySem.F.slot_list_pop PySem.F.type_list_pop mt_pop ty_lst d_pop (se_var 3)) (sg_tup (by rfl) (sgs_cons (sg_name (i := 4) (by exact nd) rfl (by first | exact Or.inl rfl | exact Or.inr rfl)) (sgs_cons (sg_name (i := 5) (by exact nd) rfl (by first | exact Or.inl rfl | exact Or.inr rfl)) (sgs_nil))))) (sss_cons (ss_aug (i := 2) ip_add ip_I (by exact nd) rfl (by first | exact Or.inl rfl | exact Or.inr rfl) (se_int)) (sss_cons (ss_if (st_w (sw_or (st_cmp op_gt d_rI0 (se_var 2) (se_gl (by rfl) T.v_MOST_TUPLES) (nomark _)) (sw_or (st_cmp op_gt d_rI0 (se_var 5) (se_gl (by rfl) T.v_MOST_DEEP) (nomark _)) (sw_or1 (st_not (st_tru (se_call G_is_told (hr.mono (by first | decide | omega)) tk (by rfl) (sa_cons (se_var 0) (sa_cons (se_var 4) (sa_nil)))))))))) (sss_one (ss_ret (se_bl))) (sss_nil)) (sss_one (ss_do (se_bm PySem.F.plainAttrs_list PySem.F.slot_list_extend PySem.F.type_list_extend mt_extend ty_lst d_extend (se_var 3) (sa_cons (se_lc (own := [(("side" : Str), 6)]) (by rfl) (by exact nd) (si_seq (se_call G_sides_of (hr.mono (by first | decide | omega)) tk (by rfl) (sa_cons (se_var 4) (sa_nil)))) (blkOk_by (by rfl)) (by decide) (fun _ _ _ _ _ => sg_name (i := 6) (by exact nd) rfl (by first | exact Or.inl rfl | exact Or.inr rfl)) (fun _ _ _ _ _ => sts_nil) (fun _ _ _ _ _ => se_tup (sa_cons (se_var 6) (sa_cons (se_op op_addU d_addU (se_var 5) (se_int)) (sa_nil))))) (sa_nil))))))))) (sss_one (ss_ret (se_bl)))))
abbrev s_opposite : Stmt := top 33
def N_opposite : List Str := ["sentence", "kind"]
theorem sc_opposite : FnScope ["sentence", "kind"] ["sentence"] (defScope s_opposite) := ⟨rfl, rfl, rfl, by decide +kernel, rfl, by decide +kernel, by decide +kernel⟩
def bd_opposite (g : Gl0) (r_opposite : List D → MH → R D) (r_inward : List D → MH → R D) : SmS :=
  sSeq (sAsg (e2 gIx (eVar 0) (eC (.raw (.int 0)))) (gN 1)) (sSeq (sIf (bVal (e2 gEq (eVar 1) (eC (.raw (.str "yes"))))) (sRet (eC d_NO)) (sNext)) (sSeq (sIf (bVal (e2 gEq (eVar 1) (eC (.raw (.str "bit"))))) (sRet (eA gTup (aCons (eC (.raw (.str "not"))) (aCons (eVar 0) (aNil))))) (sNext)) (sSeq (sIf (bVal (e2 gEq (eVar 1) (eC (.raw (.str "not"))))) (sRet (eCall false (r_inward) (aCons (e2 gIx (eVar 0) (eC (.raw (.int 1)))) (aNil)))) (sNext)) (sSeq (sIf (bVal (e2 gEq (eVar 1) (eC (.raw (.str "next"))))) (sRet (eA gTup (aCons (eVar 1) (aCons (eCall false (r_opposite) (aCons (e2 gIx (eVar 0) (eC (.raw (.int 1)))) (aNil))) (aNil))))) (sNext)) (sRet (eA gTup (aCons (e2 (gIxK g.OTHER t_OTHER) (eC (.raw (.ref g.OTHER))) (eVar 1)) (aCons (eCall false (r_opposite) (aCons (e2 gIx (eVar 0) (eC (.raw (.int 1)))) (aNil))) (aCons (eCall false (r_opposite) (aCons (e2 gIx (eVar 0) (eC (.raw (.int 2)))) (aNil))) (aNil))))))))))
abbrev s_inward : Stmt := top 34
def N_inward : List Str := ["sentence", "kind", "side"]
theorem sc_inward : FnScope ["sentence", "kind", "side"] ["sentence"] (defScope s_inward) := ⟨rfl, rfl, rfl, by decide +kernel, rfl, by decide +kernel, by decide +kernel⟩
def lc_inward_1 (g : Gl0) (r_opposite : List D → MH → R D) (r_inward : List D → MH → R D) : Fr → MH → R (List D) :=
  lcF [2] (iD (eSl (eVar 0) (some (eC (.raw (.int 1)))) none)) (gN 2) (bTrue) (eCall false (r_inward) (aCons (eVar 2) (aNil)))
def bd_inward (g : Gl0) (r_opposite : List D → MH → R D) (r_inward : List D → MH → R D) : SmS :=
  sSeq (sAsg (e2 gIx (eVar 0) (eC (.raw (.int 0)))) (gN 1)) (sSeq (sIf (bVal (e2 (gIn false) (eVar 1) (eA gTup (aCons (eC (.raw (.str "yes"))) (aCons (eC (.raw (.str "bit"))) (aNil)))))) (sRet (eVar 0)) (sNext)) (sSeq (sIf (bVal (e2 gEq (eVar 1) (eC (.raw (.str "not"))))) (sRet (eCall false (r_opposite) (aCons (e2 gIx (eVar 0) (eC (.raw (.int 1)))) (aNil)))) (sNext)) (sRet (eA gTup (aCons (eVar 1) (aStar (eLc (lc_inward_1 g r_opposite r_inward)) (aNil)))))))
abbrev n_opposite : Nat := 40
abbrev n_inward : Nat := 40
mutual
def mf_opposite (g : Gl0) : Nat → List D → MH → R D
  | 0 => fun _ _ => .no
  | n + 1 => runF 2 1 (bd_opposite g (mf_opposite g n) (mf_inward g n))
def mf_inward (g : Gl0) : Nat → List D → MH → R D
  | 0 => fun _ _ => .no
  | n + 1 => runF 3 1 (bd_inward g (mf_opposite g n) (mf_inward g n))
end
theorem ok_opposite_inward {g : Gl0} (T : Txt K mg w ct g) {f_opposite : Addr} {fd_opposite : FuncData} (F_opposite : Fun K "opposite" "opposite" s_opposite f_opposite fd_opposite) (hm_opposite : mg "opposite" = some (.ref f_opposite)) (hb_opposite : Binds K fd_opposite ["sentence"] []) {f_inward : Addr} {fd_inward : FuncData} (F_inward : Fun K "inward" "inward" s_inward f_inward fd_inward) (hm_inward : mg "inward" = some (.ref f_inward)) (hb_inward : Binds K fd_inward ["sentence"] []) : ∀ n, FM P w K mg base ct (0 + n) "opposite" 1 (mf_opposite g n) ∧ FM P w K mg base ct (0 + n) "inward" 1 (mf_inward g n)
  | 0 => ⟨FM.zero F_opposite hm_opposite hb_opposite rfl, FM.zero F_inward hm_inward hb_inward rfl⟩
  | n + 1 => by
    have ih := ok_opposite_inward T F_opposite hm_opposite hb_opposite F_inward hm_inward hb_inward n
    obtain ⟨R_opposite, R_inward⟩ := ih
    have Z_opposite : FM P w K mg base ct (0 + (n + 1)) "opposite" 1 (mf_opposite g (n + 1)) := FM.mk' (k := 0 + n) (st := s_opposite) F_opposite hm_opposite hb_opposite sc_opposite (fun cdv A outer s H E hr tk hp => by
      have nd := sc_opposite.nd
      exact sss_cons (ss_set (i := 1) (by exact nd) rfl (by first | exact Or.inl rfl | exact Or.inr rfl) (se_ix ix_seq d_ix (se_var 0) (se_int) (fun _ _ => rfl))) (sss_cons (ss_if (st_cmp (op_eqD (hu_of64 hr)) d_eq (se_var 1) (se_str) (nomark _)) (sss_one (ss_ret (se_gl (by rfl) T.v_NO))) (sss_nil)) (sss_cons (ss_if (st_cmp (op_eqD (hu_of64 hr)) d_eq (se_var 1) (se_str) (nomark _)) (sss_one (ss_ret (se_tup (sa_cons (se_str) (sa_cons (se_var 0) (sa_nil)))))) (sss_nil)) (sss_cons (ss_if (st_cmp (op_eqD (hu_of64 hr)) d_eq (se_var 1) (se_str) (nomark _)) (sss_one (ss_ret (se_call R_inward hr tk (by rfl) (sa_cons (se_ix ix_seq d_ix (se_var 0) (se_int) (fun _ _ => rfl)) (sa_nil))))) (sss_nil)) (sss_cons (ss_if (st_cmp (op_eqD (hu_of64 hr)) d_eq (se_var 1) (se_str) (nomark _)) (sss_one (ss_ret (se_tup (sa_cons (se_var 1) (sa_cons (se_call R_opposite hr tk (by rfl) (sa_cons (se_ix ix_seq d_ix (se_var 0) (se_int) (fun _ _ => rfl)) (sa_nil))) (sa_nil)))))) (sss_nil)) (sss_one (ss_ret (se_tup (sa_cons (se_ix ix_kdict (d_ixKD T.k_OTHER T.t_OTHER) (se_gref (by rfl) T.a_OTHER) (se_var 1) (fun _ _ => rfl)) (sa_cons (se_call R_opposite hr tk (by rfl) (sa_cons (se_ix ix_seq d_ix (se_var 0) (se_int) (fun _ _ => rfl)) (sa_nil))) (sa_cons (se_call R_opposite hr tk (by rfl) (sa_cons (se_ix ix_seq d_ix (se_var 0) (se_int) (fun _ _ => rfl)) (sa_nil))) (sa_nil))))))))))))
    have Z_inward : FM P w K mg base ct (0 + (n + 1)) "inward" 1 (mf_inward g (n + 1)) := FM.mk' (k := 0 + n) (st := s_inward) F_inward hm_inward hb_inward sc_inward (fun cdv A outer s H E hr tk hp => by
      have nd := sc_inward.nd
      exact sss_cons (ss_set (i := 1) (by exact nd) rfl (by first | exact Or.inl rfl | exact Or.inr rfl) (se_ix ix_seq d_ix (se_var 0) (se_int) (fun _ _ => rfl))) (sss_cons (ss_if (st_cmp op_in_seq d_in (se_var 1) (se_tup (sa_cons (se_str) (sa_cons (se_str) (sa_nil)))) (by with_unfolding_all rfl)) (sss_one (ss_ret (se_var 0))) (sss_nil)) (sss_cons (ss_if (st_cmp (op_eqD (hu_of64 hr)) d_eq (se_var 1) (se_str) (nomark _)) (sss_one (ss_ret (se_call R_opposite hr tk (by rfl) (sa_cons (se_ix ix_seq d_ix (se_var 0) (se_int) (fun _ _ => rfl)) (sa_nil))))) (sss_nil)) (sss_one (ss_ret (se_tup (sa_cons (se_var 1) (sa_star (se_lc (own := [(("side" : Str), 2)]) (by rfl) (by exact nd) (si_seq (se_sl (se_var 0) (so_some (se_int)) so_none)) (blkOk_by (by rfl)) (by decide) (fun _ _ _ _ _ => sg_name (i := 2) (by exact nd) rfl (by first | exact Or.inl rfl | exact Or.inr rfl)) (fun _ _ _ _ _ => sts_nil) (fun _ _ _ _ _ => se_call R_inward hr takes0N (by rfl) (sa_cons (se_var 2) (sa_nil)))) (sa_nil)))))))))
    exact ⟨Z_opposite, Z_inward⟩
abbrev s_later_of : Stmt := top 35
def N_later_of : List Str := ["word", "ahead", "turn", "size", "at"]
theorem sc_later_of : FnScope ["word", "ahead", "turn", "size", "at"] ["word"] (defScope s_later_of) := ⟨rfl, rfl, rfl, by decide +kernel, rfl, by decide +kernel, by decide +kernel⟩
def lc_later_of_1 (g : Gl0) : Fr → MH → R (List D) :=
  lcF [4] (iA gR1 (aCons (e2 gSub (eVar 3) (eC (.raw (.int 1)))) (aNil))) (gN 4) (bTrue) (e2 gAdd (eVar 4) (eC (.raw (.int 1))))
def bd_later_of (g : Gl0) : SmS :=
  sSeq (sAsg (eVar 0) (gT 2 (gsCons (gN 1) (gsCons (gN 2) (gsNil))))) (sSeq (sAsg (e2 gAdd (eA gLen (aCons (eVar 1) (aNil))) (eA gLen (aCons (eVar 2) (aNil)))) (gN 3)) (sRet (eA gLst (aStar (eLc (lc_later_of_1 g)) (aCons (eA gLen (aCons (eVar 1) (aNil))) (aNil))))))
def mf_later_of (g : Gl0) : List D → MH → R D := runF 5 1 (bd_later_of g)
theorem ok_later_of {g : Gl0} {f : Addr} {fd : FuncData} (T : Txt K mg w ct g) (F : Fun K "later_of" "later_of" s_later_of f fd) (hm : mg "later_of" = some (.ref f)) (hb : Binds K fd ["word"] []) :
    FM P w K mg base ct 1 "later_of" 1 (mf_later_of g) :=
  FM.mk' (st := s_later_of) F hm hb sc_later_of (fun cdv A outer s H E hr tk hp => by
    have nd := sc_later_of.nd
    exact sss_cons (ss_asg (se_var 0) (sg_tup (by rfl) (sgs_cons (sg_name (i := 1) (by exact nd) rfl (by first | exact Or.inl rfl | exact Or.inr rfl)) (sgs_cons (sg_name (i := 2) (by exact nd) rfl (by first | exact Or.inl rfl | exact Or.inr rfl)) (sgs_nil))))) (sss_cons (ss_set (i := 3) (by exact nd) rfl (by first | exact Or.inl rfl | exact Or.inr rfl) (se_op op_addU d_addU (se_callB call_len d_len (by rfl) T.b_len bt_len (sa_cons (se_var 1) (sa_nil))) (se_callB call_len d_len (by rfl) T.b_len bt_len (sa_cons (se_var 2) (sa_nil))))) (sss_one (ss_ret (se_lst (sa_star (se_lc (own := [(("at" : Str), 4)]) (by rfl) (by exact nd) (si_range1 (by rfl) T.b_range (sa_cons (se_op op_sub d_rI0 (se_var 3) (se_int)) (sa_nil))) (blkOk_by (by rfl)) (by decide) (fun _ _ _ _ _ => sg_name (i := 4) (by exact nd) rfl (by first | exact Or.inl rfl | exact Or.inr rfl)) (fun _ _ _ _ _ => sts_nil) (fun _ _ _ _ _ => se_op op_addU d_addU (se_var 4) (se_int))) (sa_cons (se_callB call_len d_len (by rfl) T.b_len bt_len (sa_cons (se_var 1) (sa_nil))) (sa_nil))))))))
abbrev s_lasting : Stmt := top 36
def N_lasting : List Str := ["first", "second", "later", "start", "found", "_", "at"]
theorem sc_lasting : FnScope ["first", "second", "later", "start", "found", "_", "at"] ["first", "second", "later", "start"] (defScope s_lasting) := ⟨rfl, rfl, rfl, by decide +kernel, rfl, by decide +kernel, by decide +kernel⟩
def bo_lasting_1 (g : Gl0) : SmS :=
  sIf (bTru (eVar 3)) (sAsg (eAnd (e2 gIx (eVar 1) (eVar 6)) (eOr (e2 gIx (eVar 0) (eVar 6)) (e2 gIx (eVar 4) (e2 gIx (eVar 2) (eVar 6))))) (gSubT (eVar 4) (eVar 6))) (sAsg (eOr (e2 gIx (eVar 1) (eVar 6)) (eAnd (e2 gIx (eVar 0) (eVar 6)) (e2 gIx (eVar 4) (e2 gIx (eVar 2) (eVar 6))))) (gSubT (eVar 4) (eVar 6)))
def lp_lasting_1 (g : Gl0) : SmS :=
  sFor (iA gR3 (aCons (e2 gSub (eA gLen (aCons (eVar 2) (aNil))) (eC (.raw (.int 1)))) (aCons (e1 gNeg (eC (.raw (.int 1)))) (aCons (e1 gNeg (eC (.raw (.int 1)))) (aNil))))) (gN 6) (bo_lasting_1 g)
def bo_lasting_2 (g : Gl0) : SmS :=
  lp_lasting_1 g
def lp_lasting_2 (g : Gl0) : SmS :=
  sFor (iA gR1 (aCons (e2 gAdd (eA gLen (aCons (eVar 2) (aNil))) (eC (.raw (.int 1)))) (aNil))) (gN 5) (bo_lasting_2 g)
def bd_lasting (g : Gl0) : SmS :=
  sSeq (sAsg (e2 gMulNew (eA gLst (aCons (eVar 3) (aNil))) (eA gLen (aCons (eVar 2) (aNil)))) (gN 4)) (sSeq (lp_lasting_2 g) (sRet (eVar 4)))
def mf_lasting (g : Gl0) : List D → MH → R D := runF 7 4 (bd_lasting g)
theorem ok_lasting {g : Gl0} {f : Addr} {fd : FuncData} (T : Txt K mg w ct g) (F : Fun K "lasting" "lasting" s_lasting f fd) (hm : mg "lasting" = some (.ref f)) (hb : Binds K fd ["first", "second", "later", "start"] []) :
    FM P w K mg base ct 1 "lasting" 4 (mf_lasting g) :=
  FM.mk' (st := s_lasting) F hm hb sc_lasting (fun cdv A outer s H E hr tk hp => by
    have nd := sc_lasting.nd
    exact sss_cons (ss_set (i := 4) (by exact nd) rfl (by first | exact Or.inl rfl | exact Or.inr rfl) (se_op op_rep d_repNew (se_lst (sa_cons (se_var 3) (sa_nil))) (se_callB call_len d_len (by rfl) T.b_len bt_len (sa_cons (se_var 2) (sa_nil))))) (sss_cons (ss_for hp (by rfl) (si_range1 (by rfl) T.b_range (sa_cons (se_op op_addU d_addU (se_callB call_len d_len (by rfl) T.b_len bt_len (sa_cons (se_var 2) (sa_nil))) (se_int)) (sa_nil))) (sg_name (i := 5) (by exact nd) rfl (by first | exact Or.inl rfl | exact Or.inr rfl)) (sss_one (ss_for hp (by rfl) (si_range3 (by rfl) T.b_range (sa_cons (se_op op_sub d_rI0 (se_callB call_len d_len (by rfl) T.b_len bt_len (sa_cons (se_var 2) (sa_nil))) (se_int)) (sa_cons (se_un un_neg d_neg (se_int)) (sa_cons (se_un un_neg d_neg (se_int)) (sa_nil))))) (sg_name (i := 6) (by exact nd) rfl (by first | exact Or.inl rfl | exact Or.inr rfl)) (sss_one (ss_if (st_tru (se_var 3)) (sss_one (ss_asg (se_and (se_ix ix_seq d_ix (se_var 1) (se_var 6) (fun _ _ => rfl)) (se_one (se_or (se_ix ix_seq d_ix (se_var 0) (se_var 6) (fun _ _ => rfl)) (se_one (se_ix ix_seq d_ix (se_var 4) (se_ix ix_seq d_ix (se_var 2) (se_var 6) (fun _ _ => rfl)) (fun _ _ => rfl)))))) (sg_sub (W := WF) (se_var 4) (se_var 6)))) (sss_one (ss_asg (se_or (se_ix ix_seq d_ix (se_var 1) (se_var 6) (fun _ _ => rfl)) (se_one (se_and (se_ix ix_seq d_ix (se_var 0) (se_var 6) (fun _ _ => rfl)) (se_one (se_ix ix_seq d_ix (se_var 4) (se_ix ix_seq d_ix (se_var 2) (se_var 6) (fun _ _ => rfl)) (fun _ _ => rfl)))))) (sg_sub (W := WF) (se_var 4) (se_var 6))))))))) (sss_one (ss_ret (se_var 4)))))
abbrev s_values_of : Stmt := top 37
def N_values_of : List Str := ["sentence", "word", "later", "kind", "first", "second", "at", "value", "one", "other"]
theorem sc_values_of : FnScope ["sentence", "word", "later", "kind", "first", "second", "at", "value", "one", "other"] ["sentence", "word", "later"] (defScope s_values_of) := ⟨rfl, rfl, rfl, by decide +kernel, rfl, by decide +kernel, by decide +kernel⟩
def lc_values_of_1 (g : Gl0) (r_values_of : List D → MH → R D) : Fr → MH → R (List D) :=
  lcF [6] (iA gR1 (aCons (eA gLen (aCons (eVar 2) (aNil))) (aNil))) (gN 6) (bTrue) (e2 gEq (e2 gBand (e2 gShr (eCall false (mf_letter_at g) (aCons (eVar 1) (aCons (eVar 6) (aNil)))) (e2 gIx (eVar 0) (eC (.raw (.int 1))))) (eC (.raw (.int 1)))) (eC (.raw (.int 1))))
def lc_values_of_2 (g : Gl0) (r_values_of : List D → MH → R D) : Fr → MH → R (List D) :=
  lcF [7] (iD (eVar 4)) (gN 7) (bTrue) (eNot (eVar 7))
def lc_values_of_3 (g : Gl0) (r_values_of : List D → MH → R D) : Fr → MH → R (List D) :=
  lcF [6] (iD (eVar 2)) (gN 6) (bTrue) (e2 gIx (eVar 4) (eVar 6))
def lc_values_of_4 (g : Gl0) (r_values_of : List D → MH → R D) : Fr → MH → R (List D) :=
  lcF [8, 9] (iA gZip (aCons (eVar 4) (aCons (eVar 5) (aNil)))) (gT 2 (gsCons (gN 8) (gsCons (gN 9) (gsNil)))) (bTrue) (eAnd (eVar 8) (eVar 9))
def lc_values_of_5 (g : Gl0) (r_values_of : List D → MH → R D) : Fr → MH → R (List D) :=
  lcF [8, 9] (iA gZip (aCons (eVar 4) (aCons (eVar 5) (aNil)))) (gT 2 (gsCons (gN 8) (gsCons (gN 9) (gsNil)))) (bTrue) (eOr (eVar 8) (eVar 9))
def bd_values_of (g : Gl0) (r_values_of : List D → MH → R D) : SmS :=
  sSeq (sAsg (e2 gIx (eVar 0) (eC (.raw (.int 0)))) (gN 3)) (sSeq (sIf (bVal (e2 gEq (eVar 3) (eC (.raw (.str "yes"))))) (sRet (e2 gMulT (eA gLst (aCons (eC (.raw (.bl true))) (aNil))) (eA gLen (aCons (eVar 2) (aNil))))) (sNext)) (sSeq (sIf (bVal (e2 gEq (eVar 3) (eC (.raw (.str "bit"))))) (sRet (eLc (lc_values_of_1 g r_values_of))) (sNext)) (sSeq (sAsg (eCall false (r_values_of) (aCons (e2 gIx (eVar 0) (eC (.raw (.int 1)))) (aCons (eVar 1) (aCons (eVar 2) (aNil))))) (gN 4)) (sSeq (sIf (bVal (e2 gEq (eVar 3) (eC (.raw (.str "not"))))) (sRet (eLc (lc_values_of_2 g r_values_of))) (sNext)) (sSeq (sIf (bVal (e2 gEq (eVar 3) (eC (.raw (.str "next"))))) (sRet (eLc (lc_values_of_3 g r_values_of))) (sNext)) (sSeq (sAsg (eCall false (r_values_of) (aCons (e2 gIx (eVar 0) (eC (.raw (.int 2)))) (aCons (eVar 1) (aCons (eVar 2) (aNil))))) (gN 5)) (sSeq (sIf (bVal (e2 (gIn false) (eVar 3) (eA gTup (aCons (eC (.raw (.str "and"))) (aCons (eC (.raw (.str "or"))) (aNil)))))) (sSeq (sIf (bVal (e2 gEq (eVar 3) (eC (.raw (.str "and"))))) (sRet (eLc (lc_values_of_4 g r_values_of))) (sNext)) (sRet (eLc (lc_values_of_5 g r_values_of)))) (sNext)) (sRet (eCall false (mf_lasting g) (aCons (eVar 4) (aCons (eVar 5) (aCons (eVar 2) (aCons (e2 gEq (eVar 3) (eC (.raw (.str "release")))) (aNil))))))))))))))
abbrev n_values_of : Nat := 40
def mf_values_of (g : Gl0) : Nat → List D → MH → R D
  | 0 => fun _ _ => .no
  | n + 1 => runF 10 3 (bd_values_of g (mf_values_of g n))
theorem ok_values_of {g : Gl0} (T : Txt K mg w ct g) {f_values_of : Addr} {fd_values_of : FuncData} (F_values_of : Fun K "values_of" "values_of" s_values_of f_values_of fd_values_of) (hm_values_of : mg "values_of" = some (.ref f_values_of)) (hb_values_of : Binds K fd_values_of ["sentence", "word", "later"] []) (G_letter_at : FM P w K mg base ct 1 "letter_at" 2 (mf_letter_at g)) (G_lasting : FM P w K mg base ct 1 "lasting" 4 (mf_lasting g)) : ∀ n, FM P w K mg base ct (1 + n) "values_of" 3 (mf_values_of g n)
  | 0 => FM.zero F_values_of hm_values_of hb_values_of rfl
  | n + 1 => by
    have ih := ok_values_of T F_values_of hm_values_of hb_values_of G_letter_at G_lasting n
    have R_values_of := ih
    have Z_values_of : FM P w K mg base ct (1 + (n + 1)) "values_of" 3 (mf_values_of g (n + 1)) := FM.mk' (k := 1 + n) (st := s_values_of) F_values_of hm_values_of hb_values_of sc_values_of (fun cdv A outer s H E hr tk hp => by
      have nd := sc_values_of.nd
      exact sss_cons (ss_set (i := 3) (by exact nd) rfl (by first | exact Or.inl rfl | exact Or.inr rfl) (se_ix ix_seq d_ix (se_var 0) (se_int) (fun _ _ => rfl))) (sss_cons (ss_if (st_cmp (op_eqD (hu_of64 hr)) d_eq (se_var 3) (se_str) (nomark _)) (sss_one (ss_ret (se_op op_mulT d_mulT (se_lst (sa_cons (se_bl) (sa_nil))) (se_callB call_len d_len (by rfl) T.b_len bt_len (sa_cons (se_var 2) (sa_nil)))))) (sss_nil)) (sss_cons (ss_if (st_cmp (op_eqD (hu_of64 hr)) d_eq (se_var 3) (se_str) (nomark _)) (sss_one (ss_ret (se_lc (own := [(("at" : Str), 6)]) (by rfl) (by exact nd) (si_range1 (by rfl) T.b_range (sa_cons (se_callB call_len d_len (by rfl) T.b_len bt_len (sa_cons (se_var 2) (sa_nil))) (sa_nil))) (blkOk_by (by rfl)) (by decide) (fun _ _ _ _ _ => sg_name (i := 6) (by exact nd) rfl (by first | exact Or.inl rfl | exact Or.inr rfl)) (fun _ _ _ _ _ => sts_nil) (fun _ _ _ _ _ => se_cmp (op_eqD (hu_of64 hr)) d_eq (se_op op_and d_rI0 (se_op op_shr (d_rI cNN_ok) (se_call G_letter_at (hr.mono (by first | decide | omega)) takes0N (by rfl) (sa_cons (se_var 1) (sa_cons (se_var 6) (sa_nil)))) (se_ix ix_seq d_ix (se_var 0) (se_int) (fun _ _ => rfl))) (se_int)) (se_int) (nomark _))))) (sss_nil)) (sss_cons (ss_set (i := 4) (by exact nd) rfl (by first | exact Or.inl rfl | exact Or.inr rfl) (se_call R_values_of hr tk (by rfl) (sa_cons (se_ix ix_seq d_ix (se_var 0) (se_int) (fun _ _ => rfl)) (sa_cons (se_var 1) (sa_cons (se_var 2) (sa_nil)))))) (sss_cons (ss_if (st_cmp (op_eqD (hu_of64 hr)) d_eq (se_var 3) (se_str) (nomark _)) (sss_one (ss_ret (se_lc (own := [(("value" : Str), 7)]) (by rfl) (by exact nd) (si_seq (se_var 4)) (blkOk_by (by rfl)) (by decide) (fun _ _ _ _ _ => sg_name (i := 7) (by exact nd) rfl (by first | exact Or.inl rfl | exact Or.inr rfl)) (fun _ _ _ _ _ => sts_nil) (fun _ _ _ _ _ => se_not (se_var 7))))) (sss_nil)) (sss_cons (ss_if (st_cmp (op_eqD (hu_of64 hr)) d_eq (se_var 3) (se_str) (nomark _)) (sss_one (ss_ret (se_lc (own := [(("at" : Str), 6)]) (by rfl) (by exact nd) (si_seq (se_var 2)) (blkOk_by (by rfl)) (by decide) (fun _ _ _ _ _ => sg_name (i := 6) (by exact nd) rfl (by first | exact Or.inl rfl | exact Or.inr rfl)) (fun _ _ _ _ _ => sts_nil) (fun _ _ _ _ _ => se_ix ix_seq d_ix (se_var 4) (se_var 6) (fun _ _ => rfl))))) (sss_nil)) (sss_cons (ss_set (i := 5) (by exact nd) rfl (by first | exact Or.inl rfl | exact Or.inr rfl) (se_call R_values_of hr tk (by rfl) (sa_cons (se_ix ix_seq d_ix (se_var 0) (se_int) (fun _ _ => rfl)) (sa_cons (se_var 1) (sa_cons (se_var 2) (sa_nil)))))) (sss_cons (ss_if (st_cmp op_in_seq d_in (se_var 3) (se_tup (sa_cons (se_str) (sa_cons (se_str) (sa_nil)))) (by with_unfolding_all rfl)) (sss_cons (ss_if (st_cmp (op_eqD (hu_of64 hr)) d_eq (se_var 3) (se_str) (nomark _)) (sss_one (ss_ret (se_lc (own := [(("one" : Str), 8), (("other" : Str), 9)]) (by rfl) (by exact nd) (si_zip (by rfl) T.b_zip (sa_cons (se_var 4) (sa_cons (se_var 5) (sa_nil)))) (blkOk_by (by rfl)) (by decide) (fun _ _ _ _ _ => sg_tup (by rfl) (sgs_cons (sg_name (i := 8) (by exact nd) rfl (by first | exact Or.inl rfl | exact Or.inr rfl)) (sgs_cons (sg_name (i := 9) (by exact nd) rfl (by first | exact Or.inl rfl | exact Or.inr rfl)) (sgs_nil)))) (fun _ _ _ _ _ => sts_nil) (fun _ _ _ _ _ => se_and (se_var 8) (se_one (se_var 9)))))) (sss_nil)) (sss_one (ss_ret (se_lc (own := [(("one" : Str), 8), (("other" : Str), 9)]) (by rfl) (by exact nd) (si_zip (by rfl) T.b_zip (sa_cons (se_var 4) (sa_cons (se_var 5) (sa_nil)))) (blkOk_by (by rfl)) (by decide) (fun _ _ _ _ _ => sg_tup (by rfl) (sgs_cons (sg_name (i := 8) (by exact nd) rfl (by first | exact Or.inl rfl | exact Or.inr rfl)) (sgs_cons (sg_name (i := 9) (by exact nd) rfl (by first | exact Or.inl rfl | exact Or.inr rfl)) (sgs_nil)))) (fun _ _ _ _ _ => sts_nil) (fun _ _ _ _ _ => se_or (se_var 8) (se_one (se_var 9))))))) (sss_nil)) (sss_one (ss_ret (se_call G_lasting (hr.mono (by first | decide | omega)) tk (by rfl) (sa_cons (se_var 4) (sa_cons (se_var 5) (sa_cons (se_var 2) (sa_cons (se_cmp (op_eqD (hu_of64 hr)) d_eq (se_var 3) (se_str) (nomark _)) (sa_nil))))))))))))))))
    exact Z_values_of
abbrev s_holds_told : Stmt := top 38
def N_holds_told : List Str := ["sentence", "word"]
theorem sc_holds_told : FnScope ["sentence", "word"] ["sentence", "word"] (defScope s_holds_told) := ⟨rfl, rfl, rfl, by decide +kernel, rfl, by decide +kernel, by decide +kernel⟩
def bd_holds_told (g : Gl0) : SmS :=
  sRet (e2 gIx (eCall false (mf_values_of g n_values_of) (aCons (eVar 0) (aCons (eVar 1) (aCons (eCall false (mf_later_of g) (aCons (eVar 1) (aNil))) (aNil))))) (eC (.raw (.int 0))))
def mf_holds_told (g : Gl0) : List D → MH → R D := runF 2 2 (bd_holds_told g)
theorem ok_holds_told {g : Gl0} {f : Addr} {fd : FuncData} (T : Txt K mg w ct g) (F : Fun K "holds_told" "holds_told" s_holds_told f fd) (hm : mg "holds_told" = some (.ref f)) (hb : Binds K fd ["sentence", "word"] []) (G_later_of : FM P w K mg base ct 1 "later_of" 1 (mf_later_of g)) (G_values_of : FM P w K mg base ct 41 "values_of" 3 (mf_values_of g n_values_of)) :
    FM P w K mg base ct 42 "holds_told" 2 (mf_holds_told g) :=
  FM.mk' (st := s_holds_told) F hm hb sc_holds_told (fun cdv A outer s H E hr tk hp => by
    have nd := sc_holds_told.nd
    exact sss_one (ss_ret (se_ix ix_seq d_ix (se_call G_values_of (hr.mono (by first | decide | omega)) tk (by rfl) (sa_cons (se_var 0) (sa_cons (se_var 1) (sa_cons (se_call G_later_of (hr.mono (by first | decide | omega)) tk (by rfl) (sa_cons (se_var 1) (sa_nil))) (sa_nil))))) (se_int) (fun _ _ => rfl))))
abbrev s_check_both : Stmt := top 39
def N_check_both : List Str := ["bits", "sentence", "word"]
theorem sc_check_both : FnScope ["bits", "sentence", "word"] ["bits", "sentence", "word"] (defScope s_check_both) := ⟨rfl, rfl, rfl, by decide +kernel, rfl, by decide +kernel, by decide +kernel⟩
def bd_check_both (g : Gl0) : SmS :=
  sSeq (sDo (eCall false (mf_check_bits g) (aCons (eVar 0) (aNil)))) (sSeq (sIf (bNot (bTru (eCall false (mf_is_sentence g) (aCons (eVar 0) (aCons (eVar 1) (aNil)))))) (sRaise x_NotSpec) (sNext)) (sDo (eCall false (mf_check_word g) (aCons (eVar 0) (aCons (eVar 2) (aNil))))))
def mf_check_both (g : Gl0) : List D → MH → R D := runF 3 3 (bd_check_both g)
theorem ok_check_both {g : Gl0} {f : Addr} {fd : FuncData} (T : Txt K mg w ct g) (F : Fun K "check_both" "check_both" s_check_both f fd) (hm : mg "check_both" = some (.ref f)) (hb : Binds K fd ["bits", "sentence", "word"] []) (G_check_bits : FM P w K mg base ct 1 "check_bits" 1 (mf_check_bits g)) (G_check_word : FM P w K mg base ct 3 "check_word" 2 (mf_check_word g)) (G_is_sentence : FM P w K mg base ct 2 "is_sentence" 2 (mf_is_sentence g)) :
    FM P w K mg base ct 4 "check_both" 3 (mf_check_both g) :=
  FM.mk' (st := s_check_both) F hm hb sc_check_both (fun cdv A outer s H E hr tk hp => by
    have nd := sc_check_both.nd
    exact sss_cons (ss_do (se_call G_check_bits (hr.mono (by first | decide | omega)) tk (by rfl) (sa_cons (se_var 0) (sa_nil)))) (sss_cons (ss_if (st_not (st_tru (se_call G_is_sentence (hr.mono (by first | decide | omega)) tk (by rfl) (sa_cons (se_var 0) (sa_cons (se_var 1) (sa_nil)))))) (sss_one (ss_raise PySem.F.excBase_ValueError T.e_NotSpec (by rfl) tk rfl)) (sss_nil)) (sss_one (ss_do (se_call G_check_word (hr.mono (by first | decide | omega)) tk (by rfl) (sa_cons (se_var 0) (sa_cons (se_var 2) (sa_nil))))))))
abbrev s_holds : Stmt := top 40
def N_holds : List Str := ["bits", "sentence", "word"]
theorem sc_holds : FnScope ["bits", "sentence", "word"] ["bits", "sentence", "word"] (defScope s_holds) := ⟨rfl, rfl, rfl, by decide +kernel, rfl, by decide +kernel, by decide +kernel⟩
def bd_holds (g : Gl0) : SmS :=
  sSeq (sDo (eCall false (mf_check_both g) (aCons (eVar 0) (aCons (eVar 1) (aCons (eVar 2) (aNil)))))) (sRet (eCall false (mf_holds_told g) (aCons (eVar 1) (aCons (eVar 2) (aNil)))))
def mf_holds (g : Gl0) : List D → MH → R D := runF 3 3 (bd_holds g)
theorem ok_holds {g : Gl0} {f : Addr} {fd : FuncData} (T : Txt K mg w ct g) (F : Fun K "holds" "holds" s_holds f fd) (hm : mg "holds" = some (.ref f)) (hb : Binds K fd ["bits", "sentence", "word"] []) (G_holds_told : FM P w K mg base ct 42 "holds_told" 2 (mf_holds_told g)) (G_check_both : FM P w K mg base ct 4 "check_both" 3 (mf_check_both g)) :
    FM P w K mg base ct 43 "holds" 3 (mf_holds g) :=
  FM.mk' (st := s_holds) F hm hb sc_holds (fun cdv A outer s H E hr tk hp => by
    have nd := sc_holds.nd
    exact sss_cons (ss_do (se_call G_check_both (hr.mono (by first | decide | omega)) tk (by rfl) (sa_cons (se_var 0) (sa_cons (se_var 1) (sa_cons (se_var 2) (sa_nil)))))) (sss_one (ss_ret (se_call G_holds_told (hr.mono (by first | decide | omega)) tk (by rfl) (sa_cons (se_var 1) (sa_cons (se_var 2) (sa_nil)))))))
abbrev s_holds_at : Stmt := top 41
def N_holds_at : List Str := ["bits", "sentence", "word"]
theorem sc_holds_at : FnScope ["bits", "sentence", "word"] ["bits", "sentence", "word"] (defScope s_holds_at) := ⟨rfl, rfl, rfl, by decide +kernel, rfl, by decide +kernel, by decide +kernel⟩
def bd_holds_at (g : Gl0) : SmS :=
  sSeq (sDo (eCall false (mf_check_both g) (aCons (eVar 0) (aCons (eVar 1) (aCons (eVar 2) (aNil)))))) (sRet (eA gTuple (aCons (eCall false (mf_values_of g n_values_of) (aCons (eVar 1) (aCons (eVar 2) (aCons (eCall false (mf_later_of g) (aCons (eVar 2) (aNil))) (aNil))))) (aNil))))
def mf_holds_at (g : Gl0) : List D → MH → R D := runF 3 3 (bd_holds_at g)
theorem ok_holds_at {g : Gl0} {f : Addr} {fd : FuncData} (T : Txt K mg w ct g) (F : Fun K "holds_at" "holds_at" s_holds_at f fd) (hm : mg "holds_at" = some (.ref f)) (hb : Binds K fd ["bits", "sentence", "word"] []) (G_later_of : FM P w K mg base ct 1 "later_of" 1 (mf_later_of g)) (G_values_of : FM P w K mg base ct 41 "values_of" 3 (mf_values_of g n_values_of)) (G_check_both : FM P w K mg base ct 4 "check_both" 3 (mf_check_both g)) :
    FM P w K mg base ct 42 "holds_at" 3 (mf_holds_at g) :=
  FM.mk' (st := s_holds_at) F hm hb sc_holds_at (fun cdv A outer s H E hr tk hp => by
    have nd := sc_holds_at.nd
    exact sss_cons (ss_do (se_call G_check_both (hr.mono (by first | decide | omega)) tk (by rfl) (sa_cons (se_var 0) (sa_cons (se_var 1) (sa_cons (se_var 2) (sa_nil)))))) (sss_one (ss_ret (se_callTy call_tuple_of d_tuple (by rfl) T.b_tuple bt_tuple (sa_cons (se_call G_values_of (hr.mono (by first | decide | omega)) tk (by rfl) (sa_cons (se_var 1) (sa_cons (se_var 2) (sa_cons (se_call G_later_of (hr.mono (by first | decide | omega)) tk (by rfl) (sa_cons (se_var 2) (sa_nil))) (sa_nil))))) (sa_nil))))))
abbrev s__law_number : Stmt := top 43
def N__law_number : List Str := ["cell"]
theorem sc__law_number : FnScope ["cell"] ["cell"] (defScope s__law_number) := ⟨rfl, rfl, rfl, by decide +kernel, rfl, by decide +kernel, by decide +kernel⟩
def bd__law_number (g : Gl0) : SmS :=
  sSeq (sIf (bVal (e2 gLt (eVar 0) (eC (.raw (.int 0))))) (sRet (e2 gSub (eC (.raw (.int 0))) (eVar 0))) (sNext)) (sRet (eVar 0))
def mf__law_number (g : Gl0) : List D → MH → R D := runF 1 1 (bd__law_number g)
theorem ok__law_number {g : Gl0} {f : Addr} {fd : FuncData} (T : Txt K mg w ct g) (F : Fun K "_law_number" "_law_number" s__law_number f fd) (hm : mg "_law_number" = some (.ref f)) (hb : Binds K fd ["cell"] []) :
    FM P w K mg base ct 1 "_law_number" 1 (mf__law_number g) :=
  FM.mk' (st := s__law_number) F hm hb sc__law_number (fun cdv A outer s H E hr tk hp => by
    have nd := sc__law_number.nd
    exact sss_cons (ss_if (st_cmp op_lt d_rI0 (se_var 0) (se_int) (nomark _)) (sss_one (ss_ret (se_op op_sub d_rI0 (se_int) (se_var 0)))) (sss_nil)) (sss_one (ss_ret (se_var 0))))
abbrev s__law_draws : Stmt := top 44
def N__law_draws : List Str := ["script", "draws", "cell", "rest", "k", "once", "twice"]
theorem sc__law_draws : FnScope ["script", "draws", "cell", "rest", "k", "once", "twice"] ["script"] (defScope s__law_draws) := ⟨rfl, rfl, rfl, by decide +kernel, rfl, by decide +kernel, by decide +kernel⟩
def bo__law_draws_1 (g : Gl0) : SmS :=
  sSeq (sIf (bVal (e2 gEq (eVar 3) (eC (.raw (.int 0))))) (sBrk) (sNext)) (sSeq (sDo (eM isLst gAppend (eVar 1) (aCons (e2 gMod (eA gInt (aCons (eVar 3) (aNil))) (eC (.raw (.int 1000)))) (aNil)))) (sAsg (e2 gFdiv (eVar 3) (eC (.raw (.int 1000)))) (gN 3)))
def lp__law_draws_1 (g : Gl0) : SmS :=
  sFor (iA gR1 (aCons (eC (.raw (.int 60))) (aNil))) (gN 4) (bo__law_draws_1 g)
def bo__law_draws_2 (g : Gl0) : SmS :=
  sSeq (sAsg (eCall false (mf__law_number g) (aCons (eVar 2) (aNil))) (gN 3)) (sIf (bVal (e2 gGe (eVar 3) (eC (.raw (.int 1000000000000000000))))) (lp__law_draws_1 g) (sSeq (sAsg (e2 gMod (eA gInt (aCons (e2 gAdd (e2 gMulT (eVar 3) (eC (.raw (.int 48271)))) (eC (.raw (.int 11)))) (aNil))) (eC (.raw (.int 2147483647)))) (gN 5)) (sSeq (sAsg (e2 gMod (eA gInt (aCons (e2 gAdd (e2 gMulT (eVar 5) (eC (.raw (.int 69621)))) (eVar 3)) (aNil))) (eC (.raw (.int 2147483629)))) (gN 6)) (sDo (eM isLst gExtend (eVar 1) (aCons (eA gLst (aCons (e2 gMod (eA gInt (aCons (eVar 3) (aNil))) (eC (.raw (.int 1000)))) (aCons (e2 gMod (eA gInt (aCons (eVar 5) (aNil))) (eC (.raw (.int 1000)))) (aCons (e2 gMod (eA gInt (aCons (eVar 6) (aNil))) (eC (.raw (.int 1000)))) (aNil))))) (aNil)))))))
def lp__law_draws_2 (g : Gl0) : SmS :=
  sFor (iD (eVar 0)) (gN 2) (bo__law_draws_2 g)
def bd__law_draws (g : Gl0) : SmS :=
  sSeq (sAsg (eA gNew (aNil)) (gN 1)) (sSeq (lp__law_draws_2 g) (sSeq (sDo (eM0 isLst gReverse (eVar 1))) (sRet (eVar 1))))
def mf__law_draws (g : Gl0) : List D → MH → R D := runF 7 1 (bd__law_draws g)
theorem ok__law_draws {g : Gl0} {f : Addr} {fd : FuncData} (T : Txt K mg w ct g) (F : Fun K "_law_draws" "_law_draws" s__law_draws f fd) (hm : mg "_law_draws" = some (.ref f)) (hb : Binds K fd ["script"] []) (G__law_number : FM P w K mg base ct 1 "_law_number" 1 (mf__law_number g)) :
    FM P w K mg base ct 2 "_law_draws" 1 (mf__law_draws g) :=
  FM.mk' (st := s__law_draws) F hm hb sc__law_draws (fun cdv A outer s H E hr tk hp => by
    have nd := sc__law_draws.nd
    exact sss_cons (ss_set (i := 1) (by exact nd) rfl (by first | exact Or.inl rfl | exact Or.inr rfl) (se_new (sa_nil))) (sss_cons (ss_for hp (by rfl) (si_seq (se_var 0)) (sg_name (i := 2) (by exact nd) rfl (by first | exact Or.inl rfl | exact Or.inr rfl)) (sss_cons (ss_set (i := 3) (by exact nd) rfl (by first | exact Or.inl rfl | exact Or.inr rfl) (se_call G__law_number (hr.mono (by first | decide | omega)) tk (by rfl) (sa_cons (se_var 2) (sa_nil)))) (sss_one (ss_if (st_cmp op_ge d_rI0 (se_var 3) (se_int) (nomark _)) (sss_one (ss_for hp (by rfl) (si_range1 (by rfl) T.b_range (sa_cons (se_int) (sa_nil))) (sg_name (i := 4) (by exact nd) rfl (by first | exact Or.inl rfl | exact Or.inr rfl)) (sss_cons (ss_if (st_cmp (op_eqD (hu_of64 hr)) d_eq (se_var 3) (se_int) (nomark _)) (sss_one (ss_brk)) (sss_nil)) (sss_cons (ss_do (se_bm PySem.F.plainAttrs_list PySem.F.slot_list_append PySem.F.type_list_append mt_append ty_lst d_append (se_var 1) (sa_cons (se_op op_mod (d_rI cPos_ok) (se_callTy call_int1 d_int (by rfl) T.b_int bt_int (sa_cons (se_var 3) (sa_nil))) (se_int)) (sa_nil)))) (sss_one (ss_set (i := 3) (by exact nd) rfl (by first | exact Or.inl rfl | exact Or.inr rfl) (se_op op_fdiv (d_rI cDiv_ok) (se_var 3) (se_int)))))))) (sss_cons (ss_set (i := 5) (by exact nd) rfl (by first | exact Or.inl rfl | exact Or.inr rfl) (se_op op_mod (d_rI cPos_ok) (se_callTy call_int1 d_int (by rfl) T.b_int bt_int (sa_cons (se_op op_addU d_addU (se_op op_mulT d_mulT (se_var 3) (se_int)) (se_int)) (sa_nil))) (se_int))) (sss_cons (ss_set (i := 6) (by exact nd) rfl (by first | exact Or.inl rfl | exact Or.inr rfl) (se_op op_mod (d_rI cPos_ok) (se_callTy call_int1 d_int (by rfl) T.b_int bt_int (sa_cons (se_op op_addU d_addU (se_op op_mulT d_mulT (se_var 5) (se_int)) (se_var 3)) (sa_nil))) (se_int))) (sss_one (ss_do (se_bm PySem.F.plainAttrs_list PySem.F.slot_list_extend PySem.F.type_list_extend mt_extend ty_lst d_extend (se_var 1) (sa_cons (se_lst (sa_cons (se_op op_mod (d_rI cPos_ok) (se_callTy call_int1 d_int (by rfl) T.b_int bt_int (sa_cons (se_var 3) (sa_nil))) (se_int)) (sa_cons (se_op op_mod (d_rI cPos_ok) (se_callTy call_int1 d_int (by rfl) T.b_int bt_int (sa_cons (se_var 5) (sa_nil))) (se_int)) (sa_cons (se_op op_mod (d_rI cPos_ok) (se_callTy call_int1 d_int (by rfl) T.b_int bt_int (sa_cons (se_var 6) (sa_nil))) (se_int)) (sa_nil))))) (sa_nil))))))))))) (sss_cons (ss_do (se_bm0 PySem.F.plainAttrs_list PySem.F.slot_list_reverse PySem.F.type_list_reverse mt_reverse ty_lst d_reverse (se_var 1))) (sss_one (ss_ret (se_var 1))))))
abbrev s__law_flat : Stmt := top 45
def N__law_flat : List Str := ["rows", "found", "row"]
theorem sc__law_flat : FnScope ["rows", "found", "row"] ["rows"] (defScope s__law_flat) := ⟨rfl, rfl, rfl, by decide +kernel, rfl, by decide +kernel, by decide +kernel⟩
def bo__law_flat_1 (g : Gl0) : SmS :=
  sDo (eM isLst gExtend (eVar 1) (aCons (eVar 2) (aNil)))
def lp__law_flat_1 (g : Gl0) : SmS :=
  sFor (iD (eVar 0)) (gN 2) (bo__law_flat_1 g)
def bd__law_flat (g : Gl0) : SmS :=
  sSeq (sAsg (eA gNew (aNil)) (gN 1)) (sSeq (lp__law_flat_1 g) (sRet (eVar 1)))
def mf__law_flat (g : Gl0) : List D → MH → R D := runF 3 1 (bd__law_flat g)
theorem ok__law_flat {g : Gl0} {f : Addr} {fd : FuncData} (T : Txt K mg w ct g) (F : Fun K "_law_flat" "_law_flat" s__law_flat f fd) (hm : mg "_law_flat" = some (.ref f)) (hb : Binds K fd ["rows"] []) :
    FM P w K mg base ct 1 "_law_flat" 1 (mf__law_flat g) :=
  FM.mk' (st := s__law_flat) F hm hb sc__law_flat (fun cdv A outer s H E hr tk hp => by
    have nd := sc__law_flat.nd
    exact sss_cons (ss_set (i := 1) (by exact nd) rfl (by first | exact Or.inl rfl | exact Or.inr rfl) (se_new (sa_nil))) (sss_cons (ss_for hp (by rfl) (si_seq (se_var 0)) (sg_name (i := 2) (by exact nd) rfl (by first | exact Or.inl rfl | exact Or.inr rfl)) (sss_one (ss_do (se_bm PySem.F.plainAttrs_list PySem.F.slot_list_extend PySem.F.type_list_extend mt_extend ty_lst d_extend (se_var 1) (sa_cons (se_var 2) (sa_nil)))))) (sss_one (ss_ret (se_var 1)))))
abbrev s__law_next : Stmt := top 46
def N__law_next : List Str := ["draws"]
theorem sc__law_next : FnScope ["draws"] ["draws"] (defScope s__law_next) := ⟨rfl, rfl, rfl, by decide +kernel, rfl, by decide +kernel, by decide +kernel⟩
def bd__law_next (g : Gl0) : SmS :=
  sSeq (sIf (bTru (eVar 0)) (sRet (eM0 isLst gPop (eVar 0))) (sNext)) (sRet (eC (.raw (.int 0))))
def mf__law_next (g : Gl0) : List D → MH → R D := runF 1 1 (bd__law_next g)
theorem ok__law_next {g : Gl0} {f : Addr} {fd : FuncData} (T : Txt K mg w ct g) (F : Fun K "_law_next" "_law_next" s__law_next f fd) (hm : mg "_law_next" = some (.ref f)) (hb : Binds K fd ["draws"] []) :
    FM P w K mg base ct 1 "_law_next" 1 (mf__law_next g) :=
  FM.mk' (st := s__law_next) F hm hb sc__law_next (fun cdv A outer s H E hr tk hp => by
    have nd := sc__law_next.nd
    exact sss_cons (ss_if (st_tru (se_var 0)) (sss_one (ss_ret (se_bm0 PySem.F.plainAttrs_list PySem.F.slot_list_pop PySem.F.type_list_pop mt_pop ty_lst d_pop (se_var 0)))) (sss_nil)) (sss_one (ss_ret (se_int))))
abbrev s__law_more : Stmt := top 47
def N__law_more : List Str := ["draws", "many", "seed", "more", "k"]
theorem sc__law_more : FnScope ["draws", "many", "seed", "more", "k"] ["draws", "many"] (defScope s__law_more) := ⟨rfl, rfl, rfl, by decide +kernel, rfl, by decide +kernel, by decide +kernel⟩
def bo__law_more_1 (g : Gl0) : SmS :=
  sSeq (sAsg (e2 gMod (eA gInt (aCons (e2 gAdd (e2 gMulT (eVar 2) (eC (.raw (.int 48271)))) (eC (.raw (.int 12345)))) (aNil))) (eC (.raw (.int 2147483647)))) (gN 2)) (sDo (eM isLst gAppend (eVar 3) (aCons (e2 gMod (eA gInt (aCons (e2 gFdiv (eVar 2) (eC (.raw (.int 7)))) (aNil))) (eC (.raw (.int 1000)))) (aNil))))
def lp__law_more_1 (g : Gl0) : SmS :=
  sFor (iA gR1 (aCons (eVar 1) (aNil))) (gN 4) (bo__law_more_1 g)
def bd__law_more (g : Gl0) : SmS :=
  sSeq (sAsg (e2 gAdd (e2 gAdd (e2 gMulT (eC (.raw (.int 1000))) (eCall false (mf__law_next g) (aCons (eVar 0) (aNil)))) (eCall false (mf__law_next g) (aCons (eVar 0) (aNil)))) (eC (.raw (.int 1)))) (gN 2)) (sSeq (sAsg (eA gNew (aNil)) (gN 3)) (sSeq (lp__law_more_1 g) (sRet (e2 gAddNew (eVar 3) (eVar 0)))))
def mf__law_more (g : Gl0) : List D → MH → R D := runF 5 2 (bd__law_more g)
theorem ok__law_more {g : Gl0} {f : Addr} {fd : FuncData} (T : Txt K mg w ct g) (F : Fun K "_law_more" "_law_more" s__law_more f fd) (hm : mg "_law_more" = some (.ref f)) (hb : Binds K fd ["draws", "many"] []) (G__law_next : FM P w K mg base ct 1 "_law_next" 1 (mf__law_next g)) :
    FM P w K mg base ct 2 "_law_more" 2 (mf__law_more g) :=
  FM.mk' (st := s__law_more) F hm hb sc__law_more (fun cdv A outer s H E hr tk hp => by
    have nd := sc__law_more.nd
    exact sss_cons (ss_set (i := 2) (by exact nd) rfl (by first | exact Or.inl rfl | exact Or.inr rfl) (se_op op_addU d_addU (se_op op_addU d_addU (se_op op_mulT d_mulT (se_int) (se_call G__law_next (hr.mono (by first | decide | omega)) tk (by rfl) (sa_cons (se_var 0) (sa_nil)))) (se_call G__law_next (hr.mono (by first | decide | omega)) tk (by rfl) (sa_cons (se_var 0) (sa_nil)))) (se_int))) (sss_cons (ss_set (i := 3) (by exact nd) rfl (by first | exact Or.inl rfl | exact Or.inr rfl) (se_new (sa_nil))) (sss_cons (ss_for hp (by rfl) (si_range1 (by rfl) T.b_range (sa_cons (se_var 1) (sa_nil))) (sg_name (i := 4) (by exact nd) rfl (by first | exact Or.inl rfl | exact Or.inr rfl)) (sss_cons (ss_set (i := 2) (by exact nd) rfl (by first | exact Or.inl rfl | exact Or.inr rfl) (se_op op_mod (d_rI cPos_ok) (se_callTy call_int1 d_int (by rfl) T.b_int bt_int (sa_cons (se_op op_addU d_addU (se_op op_mulT d_mulT (se_var 2) (se_int)) (se_int)) (sa_nil))) (se_int))) (sss_one (ss_do (se_bm PySem.F.plainAttrs_list PySem.F.slot_list_append PySem.F.type_list_append mt_append ty_lst d_append (se_var 3) (sa_cons (se_op op_mod (d_rI cPos_ok) (se_callTy call_int1 d_int (by rfl) T.b_int bt_int (sa_cons (se_op op_fdiv (d_rI cDiv_ok) (se_var 2) (se_int)) (sa_nil))) (se_int)) (sa_nil))))))) (sss_one (ss_ret (se_op op_cat d_catNew (se_var 3) (se_var 0)))))))
abbrev s__law_kind : Stmt := top 49
theorem sc__law_kind : FnScope ["error", "names", "found"] ["error"] (defScope s__law_kind) := ⟨rfl, rfl, rfl, by decide +kernel, rfl, by decide +kernel, by decide +kernel⟩
def bd__law_kind (a : Addr) (ct : Nat → Addr) (c : Nat) : SmS :=
  sSeq (sAsg (eA gLst (aCons (eC (.raw (.str "spec"))) (aCons (eC (.raw (.str "word"))) (aCons (eC (.raw (.str "machine"))) (aCons (eC (.raw (.str "game"))) (aCons (eC (.raw (.str "paper"))) (aCons (eC (.raw (.str "number"))) (aCons (eC (.raw (.str "none"))) (aCons (eC (.raw (.str "large"))) (aCons (eC (.raw (.str "malformed"))) (aNil))))))))))) (gN 1)) (sSeq (sAsg (eA gLst (aCons (eA (gIsP a (fun y => if y = ct x_NotSpec then some (c == x_NotSpec) else none)) (aCons (eVar 0) (aCons (eC (.raw (.ref (ct x_NotSpec)))) aNil))) (aCons (eA (gIsP a (fun y => if y = ct x_NotWord then some (c == x_NotWord) else none)) (aCons (eVar 0) (aCons (eC (.raw (.ref (ct x_NotWord)))) aNil))) (aCons (eA (gIsP a (fun y => if y = ct x_NotMachine then some (c == x_NotMachine) else none)) (aCons (eVar 0) (aCons (eC (.raw (.ref (ct x_NotMachine)))) aNil))) (aCons (eA (gIsP a (fun y => if y = ct x_NotGame then some (c == x_NotGame) else none)) (aCons (eVar 0) (aCons (eC (.raw (.ref (ct x_NotGame)))) aNil))) (aNil)))))) (gN 2)) (sSeq (sAsg (e2 gAdd (eVar 2) (eA gLst (aCons (eA (gIsP a (fun y => if y = ct x_NotPaper then some (c == x_NotPaper) else none)) (aCons (eVar 0) (aCons (eC (.raw (.ref (ct x_NotPaper)))) aNil))) (aCons (eA (gIsP a (fun y => if y = ct x_BadNumber then some (c == x_BadNumber) else none)) (aCons (eVar 0) (aCons (eC (.raw (.ref (ct x_BadNumber)))) aNil))) (aCons (eA (gIsP a (fun y => if y = ct x_NoAnswer then some (c == x_NoAnswer) else none)) (aCons (eVar 0) (aCons (eC (.raw (.ref (ct x_NoAnswer)))) aNil))) (aNil)))))) (gN 2)) (sSeq (sAsg (e2 gAdd (eVar 2) (eA gLst (aCons (eA (gIsP a (fun y => if y = ct x_TooLarge then some (c == x_TooLarge) else none)) (aCons (eVar 0) (aCons (eC (.raw (.ref (ct x_TooLarge)))) aNil))) (aCons (eA (gIsP a (fun y => if y = ct x_Malformed then some (c == x_Malformed) else none)) (aCons (eVar 0) (aCons (eC (.raw (.ref (ct x_Malformed)))) aNil))) (aNil))))) (gN 2)) (sRet (eIf (bVal (e2 gEq (eM isLst gCount (eVar 2) (aCons (eC (.raw (.bl true))) (aNil))) (eC (.raw (.int 1))))) (e2 gAdd (eC (.raw (.str "!"))) (e2 gIx (eVar 1) (eM isLst gIndex (eVar 2) (aCons (eC (.raw (.bl true))) (aNil))))) (eC (.raw (.str "!other"))))))))
theorem ev__law_kind {a : Addr} {ct : Nat → Addr} {c : Nat} {z : Str} (h : kd c = some z) (m : MH) : bd__law_kind a ct c (some (.raw (.ref a)) :: List.replicate 2 none) m = .ok (.rt (.raw (.str z))) m := by
  have hc : c ∈ rcl := kd_mem h
  simp only [rcl, List.mem_cons, List.not_mem_nil, or_false] at hc
  rcases hc with rfl | rfl | rfl <;> (cases h; simp [bd__law_kind, sSeq, sAsg, R.bnd, gAnd, gN, eA, aCons, aNil, gLst, eC, e2, gIsP, eVar, gAdd, lstOf, sizeLine_eq, sRet, eIf, bVal, toB, gEqB, toPm, toP, eM, isLst, gCount, flats, flatV, eqV, gIx, seqOf, gIndex, firstV, atI, ixN]; kernel_rfl)
theorem ok__law_kind {g : Gl0} {f : Addr} {fd : FuncData} (T : Txt K mg w ct g) (F : Fun K "_law_kind" "_law_kind" s__law_kind f fd) (hm : mg "_law_kind" = some (.ref f)) (hb : Binds K fd ["error"] []) : FK P w K mg base ct 1 "_law_kind" kd :=
  FK.mk' (st := s__law_kind) F hm hb sc__law_kind (bd := bd__law_kind) (fun h m => ev__law_kind h m) fun cdv A outer s H E p c z hu hcl hdi hfi h => by
    have nd := sc__law_kind.nd
    have hE := T.eE c (kd_mem h)
    have hI := T.eI c (kd_mem h)
    have hpin : p ∈ [p] := List.mem_cons_self
    exact sss_cons (ss_set (i := 1) (by exact nd) rfl (by first | exact Or.inl rfl | exact Or.inr rfl) (se_lst (sa_cons (se_str) (sa_cons (se_str) (sa_cons (se_str) (sa_cons (se_str) (sa_cons (se_str) (sa_cons (se_str) (sa_cons (se_str) (sa_cons (se_str) (sa_cons (se_str) (sa_nil)))))))))))) (sss_cons (ss_set (i := 2) (by exact nd) rfl (by first | exact Or.inl rfl | exact Or.inr rfl) (se_lst (sa_cons (se_callB (call_isP hpin hE hcl hdi hfi) (d_isP (isP1 (hI x_NotSpec (by decide)))) (by rfl) T.b_isinstance bt_isinstance (sa_cons (se_var 0) (sa_cons (se_gref (by rfl) T.g_NotSpec) sa_nil))) (sa_cons (se_callB (call_isP hpin hE hcl hdi hfi) (d_isP (isP1 (hI x_NotWord (by decide)))) (by rfl) T.b_isinstance bt_isinstance (sa_cons (se_var 0) (sa_cons (se_gref (by rfl) T.g_NotWord) sa_nil))) (sa_cons (se_callB (call_isP hpin hE hcl hdi hfi) (d_isP (isP1 (hI x_NotMachine (by decide)))) (by rfl) T.b_isinstance bt_isinstance (sa_cons (se_var 0) (sa_cons (se_gref (by rfl) T.g_NotMachine) sa_nil))) (sa_cons (se_callB (call_isP hpin hE hcl hdi hfi) (d_isP (isP1 (hI x_NotGame (by decide)))) (by rfl) T.b_isinstance bt_isinstance (sa_cons (se_var 0) (sa_cons (se_gref (by rfl) T.g_NotGame) sa_nil))) (sa_nil))))))) (sss_cons (ss_set (i := 2) (by exact nd) rfl (by first | exact Or.inl rfl | exact Or.inr rfl) (se_op op_addU d_addU (se_var 2) (se_lst (sa_cons (se_callB (call_isP hpin hE hcl hdi hfi) (d_isP (isP1 (hI x_NotPaper (by decide)))) (by rfl) T.b_isinstance bt_isinstance (sa_cons (se_var 0) (sa_cons (se_gref (by rfl) T.g_NotPaper) sa_nil))) (sa_cons (se_callB (call_isP hpin hE hcl hdi hfi) (d_isP (isP1 (hI x_BadNumber (by decide)))) (by rfl) T.b_isinstance bt_isinstance (sa_cons (se_var 0) (sa_cons (se_gref (by rfl) T.g_BadNumber) sa_nil))) (sa_cons (se_callB (call_isP hpin hE hcl hdi hfi) (d_isP (isP1 (hI x_NoAnswer (by decide)))) (by rfl) T.b_isinstance bt_isinstance (sa_cons (se_var 0) (sa_cons (se_gref (by rfl) T.g_NoAnswer) sa_nil))) (sa_nil))))))) (sss_cons (ss_set (i := 2) (by exact nd) rfl (by first | exact Or.inl rfl | exact Or.inr rfl) (se_op op_addU d_addU (se_var 2) (se_lst (sa_cons (se_callB (call_isP hpin hE hcl hdi hfi) (d_isP (isP1 (hI x_TooLarge (by decide)))) (by rfl) T.b_isinstance bt_isinstance (sa_cons (se_var 0) (sa_cons (se_gref (by rfl) T.g_TooLarge) sa_nil))) (sa_cons (se_callB (call_isP hpin hE hcl hdi hfi) (d_isP (isP1 (hI x_Malformed (by decide)))) (by rfl) T.b_isinstance bt_isinstance (sa_cons (se_var 0) (sa_cons (se_gref (by rfl) T.g_Malformed) sa_nil))) (sa_nil)))))) (sss_one (ss_ret (se_if (st_cmp (op_eqD hu) d_eq (se_bm PySem.F.plainAttrs_list PySem.F.slot_list_count PySem.F.type_list_count mt_countV ty_lst d_count (se_var 2) (sa_cons (se_bl) (sa_nil))) (se_int) (nomark _)) (se_op op_addU d_addU (se_str) (se_ix ix_seq d_ix (se_var 1) (se_bm PySem.F.plainAttrs_list PySem.F.slot_list_index PySem.F.type_list_index mt_index ty_lst d_index (se_var 2) (sa_cons (se_bl) (sa_nil))) (fun _ _ => rfl))) (se_str)))))))
abbrev s__law_sentence : Stmt := top 50
def N__law_sentence : List Str := ["draws", "bits", "deep", "kind", "word"]
theorem sc__law_sentence : FnScope ["draws", "bits", "deep", "kind", "word"] ["draws", "bits", "deep"] (defScope s__law_sentence) := ⟨rfl, rfl, rfl, by decide +kernel, rfl, by decide +kernel, by decide +kernel⟩
def bd__law_sentence (g : Gl0) (r__law_sentence : List D → MH → R D) : SmS :=
  sSeq (sAsg (e2 gMod (eA gInt (aCons (eCall false (mf__law_next g) (aCons (eVar 0) (aNil))) (aNil))) (eC (.raw (.int 11)))) (gN 3)) (sSeq (sIf (bOr (bVal (e2 gEq (eVar 2) (eC (.raw (.int 0))))) (bVal (e2 gLt (eVar 3) (eC (.raw (.int 2)))))) (sRet (eIf (bVal (e2 gGt (e2 gMod (eA gInt (aCons (eCall false (mf__law_next g) (aCons (eVar 0) (aNil))) (aNil))) (eC (.raw (.int 8)))) (eC (.raw (.int 0))))) (eA gTup (aCons (eC (.raw (.str "bit"))) (aCons (e2 gMod (eA gInt (aCons (eCall false (mf__law_next g) (aCons (eVar 0) (aNil))) (aNil))) (eVar 1)) (aNil)))) (eA gTup (aCons (eC (.raw (.str "yes"))) (aNil))))) (sNext)) (sSeq (sIf (bVal (e2 gLt (eVar 3) (eC (.raw (.int 4))))) (sRet (eA gTup (aCons (e2 gIx (eA gLst (aCons (eC (.raw (.str "not"))) (aCons (eC (.raw (.str "next"))) (aNil)))) (e2 gSub (eVar 3) (eC (.raw (.int 2))))) (aCons (eCall false (r__law_sentence) (aCons (eVar 0) (aCons (eVar 1) (aCons (e2 gSub (eVar 2) (eC (.raw (.int 1)))) (aNil))))) (aNil))))) (sNext)) (sSeq (sIf (bVal (e2 gEq (eVar 3) (eC (.raw (.int 4))))) (sRet (eA gTup (aCons (eC (.raw (.str "release"))) (aCons (eA gTup (aCons (eC (.raw (.str "not"))) (aCons (eA gTup (aCons (eC (.raw (.str "yes"))) (aNil))) (aNil)))) (aCons (eCall false (r__law_sentence) (aCons (eVar 0) (aCons (eVar 1) (aCons (e2 gSub (eVar 2) (eC (.raw (.int 1)))) (aNil))))) (aNil)))))) (sNext)) (sSeq (sIf (bVal (e2 gEq (eVar 3) (eC (.raw (.int 5))))) (sRet (eA gTup (aCons (eC (.raw (.str "until"))) (aCons (eA gTup (aCons (eC (.raw (.str "yes"))) (aNil))) (aCons (eCall false (r__law_sentence) (aCons (eVar 0) (aCons (eVar 1) (aCons (e2 gSub (eVar 2) (eC (.raw (.int 1)))) (aNil))))) (aNil)))))) (sNext)) (sSeq (sAsg (e2 gIx (eA gLst (aCons (eC (.raw (.str "and"))) (aCons (eC (.raw (.str "or"))) (aCons (eC (.raw (.str "until"))) (aCons (eC (.raw (.str "release"))) (aCons (eC (.raw (.str "or"))) (aNil))))))) (e2 gSub (eVar 3) (eC (.raw (.int 6))))) (gN 4)) (sRet (eA gTup (aCons (eVar 4) (aCons (eCall false (r__law_sentence) (aCons (eVar 0) (aCons (eVar 1) (aCons (e2 gSub (eVar 2) (eC (.raw (.int 1)))) (aNil))))) (aCons (eCall false (r__law_sentence) (aCons (eVar 0) (aCons (eVar 1) (aCons (e2 gSub (eVar 2) (eC (.raw (.int 1)))) (aNil))))) (aNil)))))))))))
abbrev n__law_sentence : Nat := 40
def mf__law_sentence (g : Gl0) : Nat → List D → MH → R D
  | 0 => fun _ _ => .no
  | n + 1 => runF 5 3 (bd__law_sentence g (mf__law_sentence g n))
theorem ok__law_sentence {g : Gl0} (T : Txt K mg w ct g) {f__law_sentence : Addr} {fd__law_sentence : FuncData} (F__law_sentence : Fun K "_law_sentence" "_law_sentence" s__law_sentence f__law_sentence fd__law_sentence) (hm__law_sentence : mg "_law_sentence" = some (.ref f__law_sentence)) (hb__law_sentence : Binds K fd__law_sentence ["draws", "bits", "deep"] []) (G__law_next : FM P w K mg base ct 1 "_law_next" 1 (mf__law_next g)) : ∀ n, FM P w K mg base ct (1 + n) "_law_sentence" 3 (mf__law_sentence g n)
  | 0 => FM.zero F__law_sentence hm__law_sentence hb__law_sentence rfl
  | n + 1 => by
    have ih := ok__law_sentence T F__law_sentence hm__law_sentence hb__law_sentence G__law_next n
    have R__law_sentence := ih
    have Z__law_sentence : FM P w K mg base ct (1 + (n + 1)) "_law_sentence" 3 (mf__law_sentence g (n + 1)) := FM.mk' (k := 1 + n) (st := s__law_sentence) F__law_sentence hm__law_sentence hb__law_sentence sc__law_sentence (fun cdv A outer s H E hr tk hp => by
      have nd := sc__law_sentence.nd
      exact sss_cons (ss_set (i := 3) (by exact nd) rfl (by first | exact Or.inl rfl | exact Or.inr rfl) (se_op op_mod (d_rI cPos_ok) (se_callTy call_int1 d_int (by rfl) T.b_int bt_int (sa_cons (se_call G__law_next (hr.mono (by first | decide | omega)) tk (by rfl) (sa_cons (se_var 0) (sa_nil))) (sa_nil))) (se_int))) (sss_cons (ss_if (st_w (sw_or (st_cmp (op_eqD (hu_of64 hr)) d_eq (se_var 2) (se_int) (nomark _)) (sw_or1 (st_cmp op_lt d_rI0 (se_var 3) (se_int) (nomark _))))) (sss_one (ss_ret (se_if (st_cmp op_gt d_rI0 (se_op op_mod (d_rI cPos_ok) (se_callTy call_int1 d_int (by rfl) T.b_int bt_int (sa_cons (se_call G__law_next (hr.mono (by first | decide | omega)) tk (by rfl) (sa_cons (se_var 0) (sa_nil))) (sa_nil))) (se_int)) (se_int) (nomark _)) (se_tup (sa_cons (se_str) (sa_cons (se_op op_mod (d_rI cPos_ok) (se_callTy call_int1 d_int (by rfl) T.b_int bt_int (sa_cons (se_call G__law_next (hr.mono (by first | decide | omega)) tk (by rfl) (sa_cons (se_var 0) (sa_nil))) (sa_nil))) (se_var 1)) (sa_nil)))) (se_tup (sa_cons (se_str) (sa_nil)))))) (sss_nil)) (sss_cons (ss_if (st_cmp op_lt d_rI0 (se_var 3) (se_int) (nomark _)) (sss_one (ss_ret (se_tup (sa_cons (se_ix ix_seq d_ix (se_lst (sa_cons (se_str) (sa_cons (se_str) (sa_nil)))) (se_op op_sub d_rI0 (se_var 3) (se_int)) (fun _ _ => rfl)) (sa_cons (se_call R__law_sentence hr tk (by rfl) (sa_cons (se_var 0) (sa_cons (se_var 1) (sa_cons (se_op op_sub d_rI0 (se_var 2) (se_int)) (sa_nil))))) (sa_nil)))))) (sss_nil)) (sss_cons (ss_if (st_cmp (op_eqD (hu_of64 hr)) d_eq (se_var 3) (se_int) (nomark _)) (sss_one (ss_ret (se_tup (sa_cons (se_str) (sa_cons (se_tup (sa_cons (se_str) (sa_cons (se_tup (sa_cons (se_str) (sa_nil))) (sa_nil)))) (sa_cons (se_call R__law_sentence hr tk (by rfl) (sa_cons (se_var 0) (sa_cons (se_var 1) (sa_cons (se_op op_sub d_rI0 (se_var 2) (se_int)) (sa_nil))))) (sa_nil))))))) (sss_nil)) (sss_cons (ss_if (st_cmp (op_eqD (hu_of64 hr)) d_eq (se_var 3) (se_int) (nomark _)) (sss_one (ss_ret (se_tup (sa_cons (se_str) (sa_cons (se_tup (sa_cons (se_str) (sa_nil))) (sa_cons (se_call R__law_sentence hr tk (by rfl) (sa_cons (se_var 0) (sa_cons (se_var 1) (sa_cons (se_op op_sub d_rI0 (se_var 2) (se_int)) (sa_nil))))) (sa_nil))))))) (sss_nil)) (sss_cons (ss_set (i := 4) (by exact nd) rfl (by first | exact Or.inl rfl | exact Or.inr rfl) (se_ix ix_seq d_ix (se_lst (sa_cons (se_str) (sa_cons (se_str) (sa_cons (se_str) (sa_cons (se_str) (sa_cons (se_str) (sa_nil))))))) (se_op op_sub d_rI0 (se_var 3) (se_int)) (fun _ _ => rfl))) (sss_one (ss_ret (se_tup (sa_cons (se_var 4) (sa_cons (se_call R__law_sentence hr tk (by rfl) (sa_cons (se_var 0) (sa_cons (se_var 1) (sa_cons (se_op op_sub d_rI0 (se_var 2) (se_int)) (sa_nil))))) (sa_cons (se_call R__law_sentence hr tk (by rfl) (sa_cons (se_var 0) (sa_cons (se_var 1) (sa_cons (se_op op_sub d_rI0 (se_var 2) (se_int)) (sa_nil))))) (sa_nil)))))))))))))
    exact Z__law_sentence
abbrev s__law_word : Stmt := top 53
def N__law_word : List Str := ["draws", "letters", "ahead", "turn"]
theorem sc__law_word : FnScope ["draws", "letters", "ahead", "turn"] ["draws", "letters"] (defScope s__law_word) := ⟨rfl, rfl, rfl, by decide +kernel, rfl, by decide +kernel, by decide +kernel⟩
def lc__law_word_1 (g : Gl0) : Fr → MH → R (List D) :=
  lcF [3] (iA gR1 (aCons (e2 gMod (eA gInt (aCons (eCall false (mf__law_next g) (aCons (eVar 0) (aNil))) (aNil))) (eC (.raw (.int 4)))) (aNil))) (gN 3) (bTrue) (e2 gMod (eA gInt (aCons (eCall false (mf__law_next g) (aCons (eVar 0) (aNil))) (aNil))) (eVar 1))
def lc__law_word_2 (g : Gl0) : Fr → MH → R (List D) :=
  lcF [3] (iA gR1 (aCons (e2 gAdd (eC (.raw (.int 1))) (e2 gMod (eA gInt (aCons (eCall false (mf__law_next g) (aCons (eVar 0) (aNil))) (aNil))) (eC (.raw (.int 4))))) (aNil))) (gN 3) (bTrue) (e2 gMod (eA gInt (aCons (eCall false (mf__law_next g) (aCons (eVar 0) (aNil))) (aNil))) (eVar 1))
def bd__law_word (g : Gl0) : SmS :=
  sSeq (sAsg (eA gTuple (aCons (eLc (lc__law_word_1 g)) (aNil))) (gN 2)) (sRet (eA gTup (aCons (eVar 2) (aCons (eA gTuple (aCons (eLc (lc__law_word_2 g)) (aNil))) (aNil)))))
def mf__law_word (g : Gl0) : List D → MH → R D := runF 4 2 (bd__law_word g)
theorem ok__law_word {g : Gl0} {f : Addr} {fd : FuncData} (T : Txt K mg w ct g) (F : Fun K "_law_word" "_law_word" s__law_word f fd) (hm : mg "_law_word" = some (.ref f)) (hb : Binds K fd ["draws", "letters"] []) (G__law_next : FM P w K mg base ct 1 "_law_next" 1 (mf__law_next g)) :
    FM P w K mg base ct 2 "_law_word" 2 (mf__law_word g) :=
  FM.mk' (st := s__law_word) F hm hb sc__law_word (fun cdv A outer s H E hr tk hp => by
    have nd := sc__law_word.nd
    exact sss_cons (ss_set (i := 2) (by exact nd) rfl (by first | exact Or.inl rfl | exact Or.inr rfl) (se_callTy call_tuple_of d_tuple (by rfl) T.b_tuple bt_tuple (sa_cons (se_lc (own := [(("turn" : Str), 3)]) (by rfl) (by exact nd) (si_range1 (by rfl) T.b_range (sa_cons (se_op op_mod (d_rI cPos_ok) (se_callTy call_int1 d_int (by rfl) T.b_int bt_int (sa_cons (se_call G__law_next (hr.mono (by first | decide | omega)) tk (by rfl) (sa_cons (se_var 0) (sa_nil))) (sa_nil))) (se_int)) (sa_nil))) (blkOk_by (by rfl)) (by decide) (fun _ _ _ _ _ => sg_name (i := 3) (by exact nd) rfl (by first | exact Or.inl rfl | exact Or.inr rfl)) (fun _ _ _ _ _ => sts_nil) (fun _ _ _ _ _ => se_op op_mod (d_rI cPos_ok) (se_callTy call_int1 d_int (by rfl) T.b_int bt_int (sa_cons (se_call G__law_next (hr.mono (by first | decide | omega)) takes0N (by rfl) (sa_cons (se_var 0) (sa_nil))) (sa_nil))) (se_var 1))) (sa_nil)))) (sss_one (ss_ret (se_tup (sa_cons (se_var 2) (sa_cons (se_callTy call_tuple_of d_tuple (by rfl) T.b_tuple bt_tuple (sa_cons (se_lc (own := [(("turn" : Str), 3)]) (by rfl) (by exact nd) (si_range1 (by rfl) T.b_range (sa_cons (se_op op_addU d_addU (se_int) (se_op op_mod (d_rI cPos_ok) (se_callTy call_int1 d_int (by rfl) T.b_int bt_int (sa_cons (se_call G__law_next (hr.mono (by first | decide | omega)) tk (by rfl) (sa_cons (se_var 0) (sa_nil))) (sa_nil))) (se_int))) (sa_nil))) (blkOk_by (by rfl)) (by decide) (fun _ _ _ _ _ => sg_name (i := 3) (by exact nd) rfl (by first | exact Or.inl rfl | exact Or.inr rfl)) (fun _ _ _ _ _ => sts_nil) (fun _ _ _ _ _ => se_op op_mod (d_rI cPos_ok) (se_callTy call_int1 d_int (by rfl) T.b_int bt_int (sa_cons (se_call G__law_next (hr.mono (by first | decide | omega)) takes0N (by rfl) (sa_cons (se_var 0) (sa_nil))) (sa_nil))) (se_var 1))) (sa_nil))) (sa_nil)))))))
abbrev s__law_letter : Stmt := top 54
def N__law_letter : List Str := ["word", "n"]
theorem sc__law_letter : FnScope ["word", "n"] ["word", "n"] (defScope s__law_letter) := ⟨rfl, rfl, rfl, by decide +kernel, rfl, by decide +kernel, by decide +kernel⟩
def bd__law_letter (g : Gl0) : SmS :=
  sRet (eIf (bVal (e2 gLt (eVar 1) (eA gLen (aCons (e2 gIx (eVar 0) (eC (.raw (.int 0)))) (aNil))))) (e2 gIx (e2 gIx (eVar 0) (eC (.raw (.int 0)))) (eVar 1)) (e2 gIx (e2 gIx (eVar 0) (eC (.raw (.int 1)))) (eA gInt (aCons (e2 gMod (e2 gSub (eVar 1) (eA gLen (aCons (e2 gIx (eVar 0) (eC (.raw (.int 0)))) (aNil)))) (eA gLen (aCons (e2 gIx (eVar 0) (eC (.raw (.int 1)))) (aNil)))) (aNil)))))
def mf__law_letter (g : Gl0) : List D → MH → R D := runF 2 2 (bd__law_letter g)
theorem ok__law_letter {g : Gl0} {f : Addr} {fd : FuncData} (T : Txt K mg w ct g) (F : Fun K "_law_letter" "_law_letter" s__law_letter f fd) (hm : mg "_law_letter" = some (.ref f)) (hb : Binds K fd ["word", "n"] []) :
    FM P w K mg base ct 1 "_law_letter" 2 (mf__law_letter g) :=
  FM.mk' (st := s__law_letter) F hm hb sc__law_letter (fun cdv A outer s H E hr tk hp => by
    have nd := sc__law_letter.nd
    exact sss_one (ss_ret (se_if (st_cmp op_lt d_rI0 (se_var 1) (se_callB call_len d_len (by rfl) T.b_len bt_len (sa_cons (se_ix ix_seq d_ix (se_var 0) (se_int) (fun _ _ => rfl)) (sa_nil))) (nomark _)) (se_ix ix_seq d_ix (se_ix ix_seq d_ix (se_var 0) (se_int) (fun _ _ => rfl)) (se_var 1) (fun _ _ => rfl)) (se_ix ix_seq d_ix (se_ix ix_seq d_ix (se_var 0) (se_int) (fun _ _ => rfl)) (se_callTy call_int1 d_int (by rfl) T.b_int bt_int (sa_cons (se_op op_mod (d_rI cPos_ok) (se_op op_sub d_rI0 (se_var 1) (se_callB call_len d_len (by rfl) T.b_len bt_len (sa_cons (se_ix ix_seq d_ix (se_var 0) (se_int) (fun _ _ => rfl)) (sa_nil)))) (se_callB call_len d_len (by rfl) T.b_len bt_len (sa_cons (se_ix ix_seq d_ix (se_var 0) (se_int) (fun _ _ => rfl)) (sa_nil)))) (sa_nil))) (fun _ _ => rfl)))))
abbrev s__law_bit : Stmt := top 55
def N__law_bit : List Str := ["letter", "i", "power", "turn"]
theorem sc__law_bit : FnScope ["letter", "i", "power", "turn"] ["letter", "i"] (defScope s__law_bit) := ⟨rfl, rfl, rfl, by decide +kernel, rfl, by decide +kernel, by decide +kernel⟩
def bo__law_bit_1 (g : Gl0) : SmS :=
  sAsg (e2 gMulT (eC (.raw (.int 2))) (eVar 2)) (gN 2)
def lp__law_bit_1 (g : Gl0) : SmS :=
  sFor (iA gR1 (aCons (eVar 1) (aNil))) (gN 3) (bo__law_bit_1 g)
def bd__law_bit (g : Gl0) : SmS :=
  sSeq (sAsg (eC (.raw (.int 1))) (gN 2)) (sSeq (lp__law_bit_1 g) (sRet (eA gInt (aCons (e2 gMod (eA gInt (aCons (e2 gFdiv (eVar 0) (eVar 2)) (aNil))) (eC (.raw (.int 2)))) (aNil)))))
def mf__law_bit (g : Gl0) : List D → MH → R D := runF 4 2 (bd__law_bit g)
theorem ok__law_bit {g : Gl0} {f : Addr} {fd : FuncData} (T : Txt K mg w ct g) (F : Fun K "_law_bit" "_law_bit" s__law_bit f fd) (hm : mg "_law_bit" = some (.ref f)) (hb : Binds K fd ["letter", "i"] []) :
    FM P w K mg base ct 1 "_law_bit" 2 (mf__law_bit g) :=
  FM.mk' (st := s__law_bit) F hm hb sc__law_bit (fun cdv A outer s H E hr tk hp => by
    have nd := sc__law_bit.nd
    exact sss_cons (ss_set (i := 2) (by exact nd) rfl (by first | exact Or.inl rfl | exact Or.inr rfl) (se_int)) (sss_cons (ss_for hp (by rfl) (si_range1 (by rfl) T.b_range (sa_cons (se_var 1) (sa_nil))) (sg_name (i := 3) (by exact nd) rfl (by first | exact Or.inl rfl | exact Or.inr rfl)) (sss_one (ss_set (i := 2) (by exact nd) rfl (by first | exact Or.inl rfl | exact Or.inr rfl) (se_op op_mulT d_mulT (se_int) (se_var 2))))) (sss_one (ss_ret (se_callTy call_int1 d_int (by rfl) T.b_int bt_int (sa_cons (se_op op_mod (d_rI cPos_ok) (se_callTy call_int1 d_int (by rfl) T.b_int bt_int (sa_cons (se_op op_fdiv (d_rI cDiv_ok) (se_var 0) (se_var 2)) (sa_nil))) (se_int)) (sa_nil)))))))
abbrev s__law_values : Stmt := top 56
def N__law_values : List Str := ["sentence", "word", "ahead", "size", "kind", "later", "first", "second", "found", "at", "value", "here", "turn"]
theorem sc__law_values : FnScope ["sentence", "word", "ahead", "size", "kind", "later", "first", "second", "found", "at", "value", "here", "turn"] ["sentence", "word"] (defScope s__law_values) := ⟨rfl, rfl, rfl, by decide +kernel, rfl, by decide +kernel, by decide +kernel⟩
def lc__law_values_1 (g : Gl0) (r__law_values : List D → MH → R D) : Fr → MH → R (List D) :=
  lcF [9] (iA gR1 (aCons (eVar 3) (aNil))) (gN 9) (bTrue) (eIf (bVal (e2 gLt (e2 gAdd (eVar 9) (eC (.raw (.int 1)))) (eVar 3))) (e2 gAdd (eVar 9) (eC (.raw (.int 1)))) (eVar 2))
def lc__law_values_2 (g : Gl0) (r__law_values : List D → MH → R D) : Fr → MH → R (List D) :=
  lcF [9] (iA gR1 (aCons (eVar 3) (aNil))) (gN 9) (bTrue) (e2 gEq (eCall false (mf__law_bit g) (aCons (eCall false (mf__law_letter g) (aCons (eVar 1) (aCons (eVar 9) (aNil)))) (aCons (e2 gIx (eVar 0) (eC (.raw (.int 1)))) (aNil)))) (eC (.raw (.int 1))))
def lc__law_values_3 (g : Gl0) (r__law_values : List D → MH → R D) : Fr → MH → R (List D) :=
  lcF [10] (iD (eVar 6)) (gN 10) (bTrue) (eNot (eVar 10))
def lc__law_values_4 (g : Gl0) (r__law_values : List D → MH → R D) : Fr → MH → R (List D) :=
  lcF [9] (iD (eVar 5)) (gN 9) (bTrue) (e2 gIx (eVar 6) (eVar 9))
def lc__law_values_5 (g : Gl0) (r__law_values : List D → MH → R D) : Fr → MH → R (List D) :=
  lcF [9] (iA gR1 (aCons (eVar 3) (aNil))) (gN 9) (bTrue) (eIf (bVal (e2 gEq (eVar 4) (eC (.raw (.str "and"))))) (eAnd (e2 gIx (eVar 6) (eVar 9)) (e2 gIx (eVar 7) (eVar 9))) (eOr (e2 gIx (eVar 6) (eVar 9)) (e2 gIx (eVar 7) (eVar 9))))
def bo__law_values_1 (g : Gl0) (r__law_values : List D → MH → R D) : SmS :=
  sSeq (sIf (bAnd (bVal (e2 gEq (eVar 4) (eC (.raw (.str "until"))))) (bOr (bTru (e2 gIx (eVar 7) (eVar 11))) (bNot (bTru (e2 gIx (eVar 6) (eVar 11)))))) (sSeq (sAsg (e2 gIx (eVar 7) (eVar 11)) (gN 10)) (sBrk)) (sNext)) (sSeq (sIf (bAnd (bVal (e2 gEq (eVar 4) (eC (.raw (.str "release"))))) (bOr (bTru (e2 gIx (eVar 6) (eVar 11))) (bNot (bTru (e2 gIx (eVar 7) (eVar 11)))))) (sSeq (sAsg (e2 gIx (eVar 7) (eVar 11)) (gN 10)) (sBrk)) (sNext)) (sAsg (e2 gIx (eVar 5) (eVar 11)) (gN 11)))
def lp__law_values_1 (g : Gl0) (r__law_values : List D → MH → R D) : SmS :=
  sFor (iA gR1 (aCons (e2 gMulT (eC (.raw (.int 2))) (eVar 3)) (aNil))) (gN 12) (bo__law_values_1 g r__law_values)
def bo__law_values_2 (g : Gl0) (r__law_values : List D → MH → R D) : SmS :=
  sSeq (sPar 10 11 (aCons (e2 gEq (eVar 4) (eC (.raw (.str "release")))) (aCons (eVar 9) (aNil)))) (sSeq (lp__law_values_1 g r__law_values) (sDo (eM isLst gAppend (eVar 8) (aCons (eVar 10) (aNil)))))
def lp__law_values_2 (g : Gl0) (r__law_values : List D → MH → R D) : SmS :=
  sFor (iA gR1 (aCons (eVar 3) (aNil))) (gN 9) (bo__law_values_2 g r__law_values)
def bd__law_values (g : Gl0) (r__law_values : List D → MH → R D) : SmS :=
  sSeq (sAsg (eA gTup (aCons (eA gLen (aCons (e2 gIx (eVar 1) (eC (.raw (.int 0)))) (aNil))) (aCons (e2 gAdd (eA gLen (aCons (e2 gIx (eVar 1) (eC (.raw (.int 0)))) (aNil))) (eA gLen (aCons (e2 gIx (eVar 1) (eC (.raw (.int 1)))) (aNil)))) (aCons (e2 gIx (eVar 0) (eC (.raw (.int 0)))) (aNil))))) (gT 3 (gsCons (gN 2) (gsCons (gN 3) (gsCons (gN 4) (gsNil)))))) (sSeq (sAsg (eLc (lc__law_values_1 g r__law_values)) (gN 5)) (sSeq (sIf (bVal (e2 gEq (eVar 4) (eC (.raw (.str "yes"))))) (sRet (e2 gMulT (eA gLst (aCons (eC (.raw (.bl true))) (aNil))) (eVar 3))) (sNext)) (sSeq (sIf (bVal (e2 gEq (eVar 4) (eC (.raw (.str "bit"))))) (sRet (eLc (lc__law_values_2 g r__law_values))) (sNext)) (sSeq (sAsg (eCall false (r__law_values) (aCons (e2 gIx (eVar 0) (eC (.raw (.int 1)))) (aCons (eVar 1) (aNil)))) (gN 6)) (sSeq (sIf (bVal (e2 (gIn false) (eVar 4) (eA gLst (aCons (eC (.raw (.str "not"))) (aCons (eC (.raw (.str "next"))) (aNil)))))) (sRet (eIf (bVal (e2 gEq (eVar 4) (eC (.raw (.str "not"))))) (eLc (lc__law_values_3 g r__law_values)) (eLc (lc__law_values_4 g r__law_values)))) (sNext)) (sSeq (sAsg (eCall false (r__law_values) (aCons (e2 gIx (eVar 0) (eC (.raw (.int 2)))) (aCons (eVar 1) (aNil)))) (gN 7)) (sSeq (sIf (bVal (e2 (gIn false) (eVar 4) (eA gLst (aCons (eC (.raw (.str "and"))) (aCons (eC (.raw (.str "or"))) (aNil)))))) (sRet (eLc (lc__law_values_5 g r__law_values))) (sNext)) (sSeq (sAsg (eA gNew (aNil)) (gN 8)) (sSeq (lp__law_values_2 g r__law_values) (sRet (eVar 8)))))))))))
abbrev n__law_values : Nat := 40
def mf__law_values (g : Gl0) : Nat → List D → MH → R D
  | 0 => fun _ _ => .no
  | n + 1 => runF 13 2 (bd__law_values g (mf__law_values g n))
theorem ok__law_values {g : Gl0} (T : Txt K mg w ct g) {f__law_values : Addr} {fd__law_values : FuncData} (F__law_values : Fun K "_law_values" "_law_values" s__law_values f__law_values fd__law_values) (hm__law_values : mg "_law_values" = some (.ref f__law_values)) (hb__law_values : Binds K fd__law_values ["sentence", "word"] []) (G__law_letter : FM P w K mg base ct 1 "_law_letter" 2 (mf__law_letter g)) (G__law_bit : FM P w K mg base ct 1 "_law_bit" 2 (mf__law_bit g)) : ∀ n, FM P w K mg base ct (1 + n) "_law_values" 2 (mf__law_values g n)
  | 0 => FM.zero F__law_values hm__law_values hb__law_values rfl
  | n + 1 => by
    have ih := ok__law_values T F__law_values hm__law_values hb__law_values G__law_letter G__law_bit n
    have R__law_values := ih
    have Z__law_values : FM P w K mg base ct (1 + (n + 1)) "_law_values" 2 (mf__law_values g (n + 1)) := FM.mk' (k := 1 + n) (st := s__law_values) F__law_values hm__law_values hb__law_values sc__law_values (fun cdv A outer s H E hr tk hp => by
      have nd := sc__law_values.nd
      exact sss_cons (ss_asg (se_tup (sa_cons (se_callB call_len d_len (by rfl) T.b_len bt_len (sa_cons (se_ix ix_seq d_ix (se_var 1) (se_int) (fun _ _ => rfl)) (sa_nil))) (sa_cons (se_op op_addU d_addU (se_callB call_len d_len (by rfl) T.b_len bt_len (sa_cons (se_ix ix_seq d_ix (se_var 1) (se_int) (fun _ _ => rfl)) (sa_nil))) (se_callB call_len d_len (by rfl) T.b_len bt_len (sa_cons (se_ix ix_seq d_ix (se_var 1) (se_int) (fun _ _ => rfl)) (sa_nil)))) (sa_cons (se_ix ix_seq d_ix (se_var 0) (se_int) (fun _ _ => rfl)) (sa_nil))))) (sg_tup (by rfl) (sgs_cons (sg_name (i := 2) (by exact nd) rfl (by first | exact Or.inl rfl | exact Or.inr rfl)) (sgs_cons (sg_name (i := 3) (by exact nd) rfl (by first | exact Or.inl rfl | exact Or.inr rfl)) (sgs_cons (sg_name (i := 4) (by exact nd) rfl (by first | exact Or.inl rfl | exact Or.inr rfl)) (sgs_nil)))))) (sss_cons (ss_setLc (i := 5) (own := [(("at" : Str), 9)]) (by rfl) (by exact nd) (si_range1 (by rfl) T.b_range (sa_cons (se_var 3) (sa_nil))) (blkOk_by (by rfl)) (by decide) (fun _ _ _ _ _ => sg_name (i := 9) (by exact nd) rfl (by first | exact Or.inl rfl | exact Or.inr rfl)) (fun _ _ _ _ _ => sts_nil) (fun _ _ _ _ _ => se_if (st_cmp op_lt d_rI0 (se_op op_addU d_addU (se_var 9) (se_int)) (se_var 3) (nomark _)) (se_op op_addU d_addU (se_var 9) (se_int)) (se_var 2)) rfl rfl (sw_true rfl rfl rfl (by decide +kernel))) (sss_cons (ss_if (st_cmp (op_eqD (hu_of64 hr)) d_eq (se_var 4) (se_str) (nomark _)) (sss_one (ss_ret (se_op op_mulT d_mulT (se_lst (sa_cons (se_bl) (sa_nil))) (se_var 3)))) (sss_nil)) (sss_cons (ss_if (st_cmp (op_eqD (hu_of64 hr)) d_eq (se_var 4) (se_str) (nomark _)) (sss_one (ss_ret (se_lc (own := [(("at" : Str), 9)]) (by rfl) (by exact nd) (si_range1 (by rfl) T.b_range (sa_cons (se_var 3) (sa_nil))) (blkOk_by (by rfl)) (by decide) (fun _ _ _ _ _ => sg_name (i := 9) (by exact nd) rfl (by first | exact Or.inl rfl | exact Or.inr rfl)) (fun _ _ _ _ _ => sts_nil) (fun _ _ _ _ _ => se_cmp (op_eqD (hu_of64 hr)) d_eq (se_call G__law_bit (hr.mono (by first | decide | omega)) takes0N (by rfl) (sa_cons (se_call G__law_letter (hr.mono (by first | decide | omega)) takes0N (by rfl) (sa_cons (se_var 1) (sa_cons (se_var 9) (sa_nil)))) (sa_cons (se_ix ix_seq d_ix (se_var 0) (se_int) (fun _ _ => rfl)) (sa_nil)))) (se_int) (nomark _))))) (sss_nil)) (sss_cons (ss_set (i := 6) (by exact nd) rfl (by first | exact Or.inl rfl | exact Or.inr rfl) (se_call R__law_values hr tk (by rfl) (sa_cons (se_ix ix_seq d_ix (se_var 0) (se_int) (fun _ _ => rfl)) (sa_cons (se_var 1) (sa_nil))))) (sss_cons (ss_if (st_cmp op_in_seq d_in (se_var 4) (se_lst (sa_cons (se_str) (sa_cons (se_str) (sa_nil)))) (by with_unfolding_all rfl)) (sss_one (ss_ret (se_if (st_cmp (op_eqD (hu_of64 hr)) d_eq (se_var 4) (se_str) (nomark _)) (se_lc (own := [(("value" : Str), 10)]) (by rfl) (by exact nd) (si_seq (se_var 6)) (blkOk_by (by rfl)) (by decide) (fun _ _ _ _ _ => sg_name (i := 10) (by exact nd) rfl (by first | exact Or.inl rfl | exact Or.inr rfl)) (fun _ _ _ _ _ => sts_nil) (fun _ _ _ _ _ => se_not (se_var 10))) (se_lc (own := [(("at" : Str), 9)]) (by rfl) (by exact nd) (si_seq (se_var 5)) (blkOk_by (by rfl)) (by decide) (fun _ _ _ _ _ => sg_name (i := 9) (by exact nd) rfl (by first | exact Or.inl rfl | exact Or.inr rfl)) (fun _ _ _ _ _ => sts_nil) (fun _ _ _ _ _ => se_ix ix_seq d_ix (se_var 6) (se_var 9) (fun _ _ => rfl)))))) (sss_nil)) (sss_cons (ss_set (i := 7) (by exact nd) rfl (by first | exact Or.inl rfl | exact Or.inr rfl) (se_call R__law_values hr tk (by rfl) (sa_cons (se_ix ix_seq d_ix (se_var 0) (se_int) (fun _ _ => rfl)) (sa_cons (se_var 1) (sa_nil))))) (sss_cons (ss_if (st_cmp op_in_seq d_in (se_var 4) (se_lst (sa_cons (se_str) (sa_cons (se_str) (sa_nil)))) (by with_unfolding_all rfl)) (sss_one (ss_ret (se_lc (own := [(("at" : Str), 9)]) (by rfl) (by exact nd) (si_range1 (by rfl) T.b_range (sa_cons (se_var 3) (sa_nil))) (blkOk_by (by rfl)) (by decide) (fun _ _ _ _ _ => sg_name (i := 9) (by exact nd) rfl (by first | exact Or.inl rfl | exact Or.inr rfl)) (fun _ _ _ _ _ => sts_nil) (fun _ _ _ _ _ => se_if (st_cmp (op_eqD (hu_of64 hr)) d_eq (se_var 4) (se_str) (nomark _)) (se_and (se_ix ix_seq d_ix (se_var 6) (se_var 9) (fun _ _ => rfl)) (se_one (se_ix ix_seq d_ix (se_var 7) (se_var 9) (fun _ _ => rfl)))) (se_or (se_ix ix_seq d_ix (se_var 6) (se_var 9) (fun _ _ => rfl)) (se_one (se_ix ix_seq d_ix (se_var 7) (se_var 9) (fun _ _ => rfl)))))))) (sss_nil)) (sss_cons (ss_set (i := 8) (by exact nd) rfl (by first | exact Or.inl rfl | exact Or.inr rfl) (se_new (sa_nil))) (sss_cons (ss_for hp (by rfl) (si_range1 (by rfl) T.b_range (sa_cons (se_var 3) (sa_nil))) (sg_name (i := 9) (by exact nd) rfl (by first | exact Or.inl rfl | exact Or.inr rfl)) (sss_cons (ss_par (i := 10) (j := 11) (by rfl) (by exact nd) rfl rfl (by decide) rfl rfl (sa_cons (se_cmp (op_eqD (hu_of64 hr)) d_eq (se_var 4) (se_str) (nomark _)) (sa_cons (se_var 9) (sa_nil))) (by rfl)) (sss_cons (ss_for hp (by rfl) (si_range1 (by rfl) T.b_range (sa_cons (se_op op_mulT d_mulT (se_int) (se_var 3)) (sa_nil))) (sg_name (i := 12) (by exact nd) rfl (by first | exact Or.inl rfl | exact Or.inr rfl)) (sss_cons (ss_if (st_w (sw_and (st_cmp (op_eqD (hu_of64 hr)) d_eq (se_var 4) (se_str) (nomark _)) (sw_and1 (st_w (sw_or (st_tru (se_ix ix_seq d_ix (se_var 7) (se_var 11) (fun _ _ => rfl))) (sw_or1 (st_not (st_tru (se_ix ix_seq d_ix (se_var 6) (se_var 11) (fun _ _ => rfl)))))))))) (sss_cons (ss_set (i := 10) (by exact nd) rfl (by first | exact Or.inl rfl | exact Or.inr rfl) (se_ix ix_seq d_ix (se_var 7) (se_var 11) (fun _ _ => rfl))) (sss_one (ss_brk))) (sss_nil)) (sss_cons (ss_if (st_w (sw_and (st_cmp (op_eqD (hu_of64 hr)) d_eq (se_var 4) (se_str) (nomark _)) (sw_and1 (st_w (sw_or (st_tru (se_ix ix_seq d_ix (se_var 6) (se_var 11) (fun _ _ => rfl))) (sw_or1 (st_not (st_tru (se_ix ix_seq d_ix (se_var 7) (se_var 11) (fun _ _ => rfl)))))))))) (sss_cons (ss_set (i := 10) (by exact nd) rfl (by first | exact Or.inl rfl | exact Or.inr rfl) (se_ix ix_seq d_ix (se_var 7) (se_var 11) (fun _ _ => rfl))) (sss_one (ss_brk))) (sss_nil)) (sss_one (ss_set (i := 11) (by exact nd) rfl (by first | exact Or.inl rfl | exact Or.inr rfl) (se_ix ix_seq d_ix (se_var 5) (se_var 11) (fun _ _ => rfl))))))) (sss_one (ss_do (se_bm PySem.F.plainAttrs_list PySem.F.slot_list_append PySem.F.type_list_append mt_append ty_lst d_append (se_var 8) (sa_cons (se_var 10) (sa_nil)))))))) (sss_one (ss_ret (se_var 8)))))))))))))
    exact Z__law_values
abbrev s__law_holds : Stmt := top 57
def N__law_holds : List Str := ["sentence", "word"]
theorem sc__law_holds : FnScope ["sentence", "word"] ["sentence", "word"] (defScope s__law_holds) := ⟨rfl, rfl, rfl, by decide +kernel, rfl, by decide +kernel, by decide +kernel⟩
def bd__law_holds (g : Gl0) : SmS :=
  sRet (e2 gIx (eCall false (mf__law_values g n__law_values) (aCons (eVar 0) (aCons (eVar 1) (aNil)))) (eC (.raw (.int 0))))
def mf__law_holds (g : Gl0) : List D → MH → R D := runF 2 2 (bd__law_holds g)
theorem ok__law_holds {g : Gl0} {f : Addr} {fd : FuncData} (T : Txt K mg w ct g) (F : Fun K "_law_holds" "_law_holds" s__law_holds f fd) (hm : mg "_law_holds" = some (.ref f)) (hb : Binds K fd ["sentence", "word"] []) (G__law_values : FM P w K mg base ct 41 "_law_values" 2 (mf__law_values g n__law_values)) :
    FM P w K mg base ct 42 "_law_holds" 2 (mf__law_holds g) :=
  FM.mk' (st := s__law_holds) F hm hb sc__law_holds (fun cdv A outer s H E hr tk hp => by
    have nd := sc__law_holds.nd
    exact sss_one (ss_ret (se_ix ix_seq d_ix (se_call G__law_values (hr.mono (by first | decide | omega)) tk (by rfl) (sa_cons (se_var 0) (sa_cons (se_var 1) (sa_nil)))) (se_int) (fun _ _ => rfl))))
abbrev s__law_same_words : Stmt := top 58
def N__law_same_words : List Str := ["one", "other", "n"]
theorem sc__law_same_words : FnScope ["one", "other", "n"] ["one", "other"] (defScope s__law_same_words) := ⟨rfl, rfl, rfl, by decide +kernel, rfl, by decide +kernel, by decide +kernel⟩
def lc__law_same_words_1 (g : Gl0) : Fr → MH → R (List D) :=
  lcF [2] (iA gR1 (aCons (eC (.raw (.int 200))) (aNil))) (gN 2) (bTrue) (e2 gEq (eCall false (mf__law_letter g) (aCons (eVar 0) (aCons (eVar 2) (aNil)))) (eCall false (mf__law_letter g) (aCons (eVar 1) (aCons (eVar 2) (aNil)))))
def bd__law_same_words (g : Gl0) : SmS :=
  sRet (eA gAll (aCons (eLc (lc__law_same_words_1 g)) (aNil)))
def mf__law_same_words (g : Gl0) : List D → MH → R D := runF 3 2 (bd__law_same_words g)
theorem ok__law_same_words {g : Gl0} {f : Addr} {fd : FuncData} (T : Txt K mg w ct g) (F : Fun K "_law_same_words" "_law_same_words" s__law_same_words f fd) (hm : mg "_law_same_words" = some (.ref f)) (hb : Binds K fd ["one", "other"] []) (G__law_letter : FM P w K mg base ct 1 "_law_letter" 2 (mf__law_letter g)) :
    FM P w K mg base ct 2 "_law_same_words" 2 (mf__law_same_words g) :=
  FM.mk' (st := s__law_same_words) F hm hb sc__law_same_words (fun cdv A outer s H E hr tk hp => by
    have nd := sc__law_same_words.nd
    exact sss_one (ss_ret (se_callB (cr_all rfl) d_all (by rfl) T.b_all bt_all (sa_cons (se_lc (own := [(("n" : Str), 2)]) (by rfl) (by exact nd) (si_range1 (by rfl) T.b_range (sa_cons (se_int) (sa_nil))) (blkOk_by (by rfl)) (by decide) (fun _ _ _ _ _ => sg_name (i := 2) (by exact nd) rfl (by first | exact Or.inl rfl | exact Or.inr rfl)) (fun _ _ _ _ _ => sts_nil) (fun _ _ _ _ _ => se_cmp (op_eqD (hu_of64 hr)) d_eq (se_call G__law_letter (hr.mono (by first | decide | omega)) takes0N (by rfl) (sa_cons (se_var 0) (sa_cons (se_var 2) (sa_nil)))) (se_call G__law_letter (hr.mono (by first | decide | omega)) takes0N (by rfl) (sa_cons (se_var 1) (sa_cons (se_var 2) (sa_nil)))) (nomark _))) (sa_nil)))))
abbrev s__law_is_inward : Stmt := top 59
def N__law_is_inward : List Str := ["sentence", "side"]
theorem sc__law_is_inward : FnScope ["sentence", "side"] ["sentence"] (defScope s__law_is_inward) := ⟨rfl, rfl, rfl, by decide +kernel, rfl, by decide +kernel, by decide +kernel⟩
def lc__law_is_inward_1 (g : Gl0) (r__law_is_inward : List D → MH → R D) : Fr → MH → R (List D) :=
  lcF [1] (iD (eSl (eVar 0) (some (eC (.raw (.int 1)))) none)) (gN 1) (bTru (eA gIsi (aCons (eVar 1) (aCons (eC (.raw (.ty "tuple"))) (aNil))))) (eCall false (r__law_is_inward) (aCons (eVar 1) (aNil)))
def bd__law_is_inward (g : Gl0) (r__law_is_inward : List D → MH → R D) : SmS :=
  sSeq (sIf (bVal (e2 gEq (e2 gIx (eVar 0) (eC (.raw (.int 0)))) (eC (.raw (.str "not"))))) (sRet (e2 (gIn false) (e2 gIx (e2 gIx (eVar 0) (eC (.raw (.int 1)))) (eC (.raw (.int 0)))) (eA gLst (aCons (eC (.raw (.str "bit"))) (aCons (eC (.raw (.str "yes"))) (aNil)))))) (sNext)) (sRet (eA gAll (aCons (eLc (lc__law_is_inward_1 g r__law_is_inward)) (aNil))))
abbrev n__law_is_inward : Nat := 40
def mf__law_is_inward (g : Gl0) : Nat → List D → MH → R D
  | 0 => fun _ _ => .no
  | n + 1 => runF 2 1 (bd__law_is_inward g (mf__law_is_inward g n))
theorem ok__law_is_inward {g : Gl0} (T : Txt K mg w ct g) {f__law_is_inward : Addr} {fd__law_is_inward : FuncData} (F__law_is_inward : Fun K "_law_is_inward" "_law_is_inward" s__law_is_inward f__law_is_inward fd__law_is_inward) (hm__law_is_inward : mg "_law_is_inward" = some (.ref f__law_is_inward)) (hb__law_is_inward : Binds K fd__law_is_inward ["sentence"] []) : ∀ n, FM P w K mg base ct (0 + n) "_law_is_inward" 1 (mf__law_is_inward g n)
  | 0 => FM.zero F__law_is_inward hm__law_is_inward hb__law_is_inward rfl
  | n + 1 => by
    have ih := ok__law_is_inward T F__law_is_inward hm__law_is_inward hb__law_is_inward n
    have R__law_is_inward := ih
    have Z__law_is_inward : FM P w K mg base ct (0 + (n + 1)) "_law_is_inward" 1 (mf__law_is_inward g (n + 1)) := FM.mk' (k := 0 + n) (st := s__law_is_inward) F__law_is_inward hm__law_is_inward hb__law_is_inward sc__law_is_inward (fun cdv A outer s H E hr tk hp => by
      have nd := sc__law_is_inward.nd
      exact sss_cons (ss_if (st_cmp (op_eqD (hu_of64 hr)) d_eq (se_ix ix_seq d_ix (se_var 0) (se_int) (fun _ _ => rfl)) (se_str) (nomark _)) (sss_one (ss_ret (se_cmp op_in_seq d_in (se_ix ix_seq d_ix (se_ix ix_seq d_ix (se_var 0) (se_int) (fun _ _ => rfl)) (se_int) (fun _ _ => rfl)) (se_lst (sa_cons (se_str) (sa_cons (se_str) (sa_nil)))) (by with_unfolding_all rfl)))) (sss_nil)) (sss_one (ss_ret (se_callB (cr_all rfl) d_all (by rfl) T.b_all bt_all (sa_cons (se_lc (own := [(("side" : Str), 1)]) (by rfl) (by exact nd) (si_seq (se_sl (se_var 0) (so_some (se_int)) so_none)) (blkOk_by (by rfl)) (by decide) (fun _ _ _ _ _ => sg_name (i := 1) (by exact nd) rfl (by first | exact Or.inl rfl | exact Or.inr rfl)) (fun _ _ _ _ _ => sts_one (st_tru (se_callB call_isi d_isi (by rfl) T.b_isinstance bt_isinstance (sa_cons (se_var 1) (sa_cons (se_tyN (by rfl) T.b_tuple bt_tuple) (sa_nil)))))) (fun _ _ _ _ _ => se_call R__law_is_inward hr takes0N (by rfl) (sa_cons (se_var 1) (sa_nil)))) (sa_nil))))))
    exact Z__law_is_inward
abbrev s__law_asked : Stmt := top 60
def N__law_asked : List Str := ["way", "bits", "sentence", "word", "error"]
theorem sc__law_asked : FnScope ["way", "bits", "sentence", "word", "error"] ["way", "bits", "sentence", "word"] (defScope s__law_asked) := ⟨rfl, rfl, rfl, by decide +kernel, rfl, by decide +kernel, by decide +kernel⟩
def bd__law_asked (g : Gl0) : SmS :=
  sTryK 4 kd (sRet (eIf (bVal (e2 gLt (eVar 0) (eC (.raw (.int 2))))) (eCallF false [(g.f_holds, 3, mf_holds g), (g.f_holds_at, 3, mf_holds_at g)] (e2 gIx (eA gLst (aCons (eC (.raw (.ref g.f_holds))) (aCons (eC (.raw (.ref g.f_holds_at))) (aNil)))) (eVar 0)) (aCons (eVar 1) (aCons (eVar 2) (aCons (eVar 3) (aNil))))) (eCall false (mf_is_word g) (aCons (eVar 1) (aCons (eVar 3) (aNil))))))
def mf__law_asked (g : Gl0) : List D → MH → R D := runF 5 4 (bd__law_asked g)
theorem ok__law_asked {g : Gl0} {f : Addr} {fd : FuncData} (T : Txt K mg w ct g) (F : Fun K "_law_asked" "_law_asked" s__law_asked f fd) (hm : mg "_law_asked" = some (.ref f)) (hb : Binds K fd ["way", "bits", "sentence", "word"] []) (G_is_word : FM P w K mg base ct 2 "is_word" 2 (mf_is_word g)) (G_holds : FM P w K mg base ct 43 "holds" 3 (mf_holds g)) (G_holds_at : FM P w K mg base ct 42 "holds_at" 3 (mf_holds_at g)) (FKK : FK P w K mg base ct 1 "_law_kind" kd) :
    FM P w K mg base ct 44 "_law_asked" 4 (mf__law_asked g) :=
  FM.mk' (st := s__law_asked) F hm hb sc__law_asked (fun cdv A outer s H E hr tk hp => by
    have nd := sc__law_asked.nd
    exact sss_one (ss_tryK (i := 4) (c0 := .ref (ct x_OweError)) (by rfl) (by rfl) (by exact nd) rfl rfl ⟨by rfl, by decide, Or.inl T.g_OweError⟩ tk FKK (hr.mono (by first | decide | omega)) T.ca (by rfl) (fun W pn xe tk hp => sss_one (ss_ret (se_if (st_cmp op_lt d_rI0 (se_var 0) (se_int) (nomark _)) (se_callF (k := 43) (tbl := [(g.f_holds, 3, mf_holds g), (g.f_holds_at, 3, mf_holds_at g)]) (hr.mono (by decide)) tk (fun q hq => by
      simp only [List.mem_cons, List.not_mem_nil, or_false] at hq
      rcases hq with rfl | rfl
      · exact ((G_holds.mono (by decide)).fa T.f_holds)
      · exact ((G_holds_at.mono (by decide)).fa T.f_holds_at)) (se_ix ix_seq d_ix (se_lst (sa_cons (se_gref (by rfl) T.f_holds) (sa_cons (se_gref (by rfl) T.f_holds_at) (sa_nil)))) (se_var 0) (fun _ _ => rfl)) (sa_cons (se_var 1) (sa_cons (se_var 2) (sa_cons (se_var 3) (sa_nil))))) (se_call G_is_word (hr.mono (by first | decide | omega)) tk (by rfl) (sa_cons (se_var 1) (sa_cons (se_var 3) (sa_nil)))))))))
abbrev s__law_is_plain : Stmt := top 61
def N__law_is_plain : List Str := ["word", "ahead", "turn", "size"]
theorem sc__law_is_plain : FnScope ["word", "ahead", "turn", "size"] ["word"] (defScope s__law_is_plain) := ⟨rfl, rfl, rfl, by decide +kernel, rfl, by decide +kernel, by decide +kernel⟩
def bo__law_is_plain_1 (g : Gl0) : SmS :=
  sIf (bTru (eCall false (mf__law_same_words g) (aCons (eA gTup (aCons (eA gTup (aNil)) (aCons (eVar 2) (aNil)))) (aCons (eA gTup (aCons (eA gTup (aNil)) (aCons (eSl (eVar 2) none (some (eVar 3))) (aNil)))) (aNil))))) (sRet (eC (.raw (.bl false)))) (sNext)
def lp__law_is_plain_1 (g : Gl0) : SmS :=
  sFor (iA gR2 (aCons (eC (.raw (.int 1))) (aCons (eA gLen (aCons (eVar 2) (aNil))) (aNil)))) (gN 3) (bo__law_is_plain_1 g)
def bd__law_is_plain (g : Gl0) : SmS :=
  sSeq (sAsg (eVar 0) (gT 2 (gsCons (gN 1) (gsCons (gN 2) (gsNil))))) (sSeq (lp__law_is_plain_1 g) (sRet (eOr (e2 gEq (eVar 1) (eA gTup (aNil))) (e2 gNe (e2 gIx (eVar 1) (e1 gNeg (eC (.raw (.int 1))))) (e2 gIx (eVar 2) (e1 gNeg (eC (.raw (.int 1)))))))))
def mf__law_is_plain (g : Gl0) : List D → MH → R D := runF 4 1 (bd__law_is_plain g)
theorem ok__law_is_plain {g : Gl0} {f : Addr} {fd : FuncData} (T : Txt K mg w ct g) (F : Fun K "_law_is_plain" "_law_is_plain" s__law_is_plain f fd) (hm : mg "_law_is_plain" = some (.ref f)) (hb : Binds K fd ["word"] []) (G__law_same_words : FM P w K mg base ct 2 "_law_same_words" 2 (mf__law_same_words g)) :
    FM P w K mg base ct 3 "_law_is_plain" 1 (mf__law_is_plain g) :=
  FM.mk' (st := s__law_is_plain) F hm hb sc__law_is_plain (fun cdv A outer s H E hr tk hp => by
    have nd := sc__law_is_plain.nd
    exact sss_cons (ss_asg (se_var 0) (sg_tup (by rfl) (sgs_cons (sg_name (i := 1) (by exact nd) rfl (by first | exact Or.inl rfl | exact Or.inr rfl)) (sgs_cons (sg_name (i := 2) (by exact nd) rfl (by first | exact Or.inl rfl | exact Or.inr rfl)) (sgs_nil))))) (sss_cons (ss_for hp (by rfl) (si_range2 (by rfl) T.b_range (sa_cons (se_int) (sa_cons (se_callB call_len d_len (by rfl) T.b_len bt_len (sa_cons (se_var 2) (sa_nil))) (sa_nil)))) (sg_name (i := 3) (by exact nd) rfl (by first | exact Or.inl rfl | exact Or.inr rfl)) (sss_one (ss_if (st_tru (se_call G__law_same_words (hr.mono (by first | decide | omega)) tk (by rfl) (sa_cons (se_tup (sa_cons (se_tup (sa_nil)) (sa_cons (se_var 2) (sa_nil)))) (sa_cons (se_tup (sa_cons (se_tup (sa_nil)) (sa_cons (se_sl (se_var 2) so_none (so_some (se_var 3))) (sa_nil)))) (sa_nil))))) (sss_one (ss_ret (se_bl))) (sss_nil)))) (sss_one (ss_ret (se_or (se_cmp (op_eqD (hu_of64 hr)) d_eq (se_var 1) (se_tup (sa_nil)) (nomark _)) (se_one (se_cmp (op_neD (hu_of64 hr)) d_ne (se_ix ix_seq d_ix (se_var 1) (se_un un_neg d_neg (se_int)) (fun _ _ => rfl)) (se_ix ix_seq d_ix (se_var 2) (se_un un_neg d_neg (se_int)) (fun _ _ => rfl)) (nomark _))))))))
abbrev s__law_long_holds : Stmt := top 62
def N__law_long_holds : List Str := ["bit", "late", "says", "plains", "say", "some", "due", "n"]
theorem sc__law_long_holds : FnScope ["bit", "late", "says", "plains", "say", "some", "due", "n"] [] (defScope s__law_long_holds) := ⟨rfl, rfl, rfl, by decide +kernel, rfl, by decide +kernel, by decide +kernel⟩
def lc__law_long_holds_1 (g : Gl0) : Fr → MH → R (List D) :=
  lcF [4] (iD (eVar 2)) (gN 4) (bTrue) (e2 gEq (eA gRepr (aCons (eA gLst (aCons (eCall false (mf__law_asked g) (aCons (eC (.raw (.int 0))) (aCons (eC (.raw (.int 1))) (aCons (eVar 4) (aCons (eVar 1) (aNil)))))) (aCons (eCall false (mf__law_asked g) (aCons (eC (.raw (.int 1))) (aCons (eC (.raw (.int 1))) (aCons (eVar 4) (aCons (eVar 1) (aNil)))))) (aNil)))) (aNil))) (eA gRepr (aCons (eA gLst (aCons (e2 gIx (eCall false (mf__law_values g n__law_values) (aCons (eVar 4) (aCons (eVar 1) (aNil)))) (eC (.raw (.int 0)))) (aCons (eA gTuple (aCons (eCall false (mf__law_values g n__law_values) (aCons (eVar 4) (aCons (eVar 1) (aNil)))) (aNil))) (aNil)))) (aNil))))
def lc__law_long_holds_2 (g : Gl0) : Fr → MH → R (List D) :=
  lcF [5, 6] (iD (eVar 3)) (gT 2 (gsCons (gN 5) (gsCons (gN 6) (gsNil)))) (bTrue) (eA gRepr (aCons (eCall false (mf_plain_word g) (aCons (eVar 5) (aNil))) (aNil)))
def lc__law_long_holds_3 (g : Gl0) : Fr → MH → R (List D) :=
  lcF [5, 6] (iD (eVar 3)) (gT 2 (gsCons (gN 5) (gsCons (gN 6) (gsNil)))) (bTrue) (eA gRepr (aCons (eVar 6) (aNil)))
def lc__law_long_holds_4 (g : Gl0) : Fr → MH → R (List D) :=
  lcF [7] (iD (eA gLst (aCons (eC (.raw (.int 1000))) (aCons (eC (.raw (.int 1001))) (aNil))))) (gN 7) (bTrue) (eA gRepr (aCons (eCall false (mf_turned_on g) (aCons (eVar 1) (aCons (eVar 7) (aNil)))) (aNil)))
def lc__law_long_holds_5 (g : Gl0) : Fr → MH → R (List D) :=
  lcF [7] (iD (eA gLst (aCons (eC (.raw (.int 279))) (aCons (eC (.raw (.int 280))) (aNil))))) (gN 7) (bTrue) (eCall false (mf_letter_at g) (aCons (eVar 1) (aCons (eVar 7) (aNil))))
def bd__law_long_holds (g : Gl0) : SmS :=
  sSeq (sAsg (eA gTup (aCons (eA gTup (aCons (eC (.raw (.str "bit"))) (aCons (eC (.raw (.int 0))) (aNil)))) (aCons (eA gTup (aCons (e2 gMulT (eA gTup (aCons (eC (.raw (.int 0))) (aNil))) (eC (.raw (.int 40)))) (aCons (e2 gAdd (e2 gMulT (eA gTup (aCons (eC (.raw (.int 0))) (aNil))) (eC (.raw (.int 39)))) (eA gTup (aCons (eC (.raw (.int 1))) (aNil)))) (aNil)))) (aNil)))) (gT 2 (gsCons (gN 0) (gsCons (gN 1) (gsNil))))) (sSeq (sAsg (eA gLst (aCons (eA gTup (aCons (eC (.raw (.str "until"))) (aCons (eA gTup (aCons (eC (.raw (.str "not"))) (aCons (eVar 0) (aNil)))) (aCons (eVar 0) (aNil))))) (aCons (eA gTup (aCons (eC (.raw (.str "until"))) (aCons (eA gTup (aCons (eC (.raw (.str "yes"))) (aNil))) (aCons (eA gTup (aCons (eC (.raw (.str "and"))) (aCons (eVar 0) (aCons (eA gTup (aCons (eC (.raw (.str "next"))) (aCons (eVar 0) (aNil)))) (aNil))))) (aNil))))) (aCons (eA gTup (aCons (eC (.raw (.str "release"))) (aCons (eA gTup (aCons (eC (.raw (.str "not"))) (aCons (eA gTup (aCons (eC (.raw (.str "yes"))) (aNil))) (aNil)))) (aCons (eA gTup (aCons (eC (.raw (.str "until"))) (aCons (eA gTup (aCons (eC (.raw (.str "yes"))) (aNil))) (aCons (eVar 0) (aNil))))) (aNil))))) (aCons (eA gTup (aCons (eC (.raw (.str "next"))) (aCons (eVar 0) (aNil)))) (aCons (eA gTup (aCons (eC (.raw (.str "release"))) (aCons (eVar 0) (aCons (eA gTup (aCons (eC (.raw (.str "not"))) (aCons (eVar 0) (aNil)))) (aNil))))) (aNil))))))) (gN 2)) (sSeq (sIf (bOr (bVal (e2 (gIsB not) (eCall false (mf_is_word g) (aCons (eC (.raw (.int 1))) (aCons (eVar 1) (aNil)))) (eC (.raw (.bl true))))) (bNot (bTru (eA gAll (aCons (eLc (lc__law_long_holds_1 g)) (aNil)))))) (sRet (eC (.raw (.bl false)))) (sNext)) (sSeq (sAsg (eA gLst (aCons (eA gTup (aCons (eVar 1) (aCons (eVar 1) (aNil)))) (aCons (eA gTup (aCons (eA gTup (aCons (e2 gMulT (eA gTup (aCons (eC (.raw (.int 0))) (aNil))) (eC (.raw (.int 40)))) (aCons (e2 gMulT (eA gTup (aCons (eC (.raw (.int 0))) (aNil))) (eC (.raw (.int 40)))) (aNil)))) (aCons (eA gTup (aCons (eA gTup (aNil)) (aCons (eA gTup (aCons (eC (.raw (.int 0))) (aNil))) (aNil)))) (aNil)))) (aCons (eA gTup (aCons (eA gTup (aCons (e2 gIx (eVar 1) (eC (.raw (.int 1)))) (aCons (e2 gIx (eVar 1) (eC (.raw (.int 1)))) (aNil)))) (aCons (eA gTup (aCons (eA gTup (aNil)) (aCons (e2 gIx (eVar 1) (eC (.raw (.int 1)))) (aNil)))) (aNil)))) (aCons (eA gTup (aCons (eA gTup (aCons (e2 gAdd (eA gTup (aCons (eC (.raw (.int 1))) (aNil))) (e2 gMulT (eA gTup (aCons (eC (.raw (.int 0))) (aNil))) (eC (.raw (.int 39))))) (aCons (e2 gMulT (eA gTup (aCons (eC (.raw (.int 0))) (aCons (eC (.raw (.int 0))) (aCons (eC (.raw (.int 1))) (aNil))))) (eC (.raw (.int 13)))) (aNil)))) (aCons (eA gTup (aCons (e2 gAdd (eA gTup (aCons (eC (.raw (.int 1))) (aNil))) (e2 gMulT (eA gTup (aCons (eC (.raw (.int 0))) (aNil))) (eC (.raw (.int 39))))) (aCons (eA gTup (aCons (eC (.raw (.int 0))) (aCons (eC (.raw (.int 0))) (aCons (eC (.raw (.int 1))) (aNil))))) (aNil)))) (aNil)))) (aNil)))))) (gN 3)) (sSeq (sIf (bVal (e2 gNe (eLc (lc__law_long_holds_2 g)) (eLc (lc__law_long_holds_3 g)))) (sRet (eC (.raw (.bl false)))) (sNext)) (sSeq (sIf (bOr (bVal (e2 gNe (eLc (lc__law_long_holds_4 g)) (eA gLst (aCons (eA gRepr (aCons (eA gTup (aCons (eA gTup (aNil)) (aCons (e2 gIx (eVar 1) (eC (.raw (.int 1)))) (aNil)))) (aNil))) (aCons (eA gRepr (aCons (eA gTup (aCons (eA gTup (aNil)) (aCons (e2 gAdd (e2 gMulT (eA gTup (aCons (eC (.raw (.int 0))) (aNil))) (eC (.raw (.int 38)))) (eA gTup (aCons (eC (.raw (.int 1))) (aCons (eC (.raw (.int 0))) (aNil))))) (aNil)))) (aNil))) (aNil)))))) (bVal (e2 gNe (eLc (lc__law_long_holds_5 g)) (eA gLst (aCons (eC (.raw (.int 1))) (aCons (eC (.raw (.int 0))) (aNil))))))) (sRet (eC (.raw (.bl false)))) (sNext)) (sRet (e2 gEq (eA gLst (aCons (eCall false (mf_same_words g) (aCons (eVar 1) (aCons (eA gTup (aCons (eSl (e2 gIx (eVar 1) (eC (.raw (.int 0)))) (some (eC (.raw (.int 1)))) none) (aCons (e2 gIx (eVar 1) (eC (.raw (.int 1)))) (aNil)))) (aNil)))) (aCons (eCall false (mf_same_words g) (aCons (eVar 1) (aCons (eA gTup (aCons (e2 gIx (eVar 1) (eC (.raw (.int 0)))) (aCons (e2 gMulT (eA gTup (aCons (eC (.raw (.int 0))) (aNil))) (eC (.raw (.int 40)))) (aNil)))) (aNil)))) (aCons (eCall false (mf_same_words g) (aCons (eA gTup (aCons (eA gTup (aNil)) (aCons (eA gTup (aCons (eC (.raw (.int 1))) (aCons (eC (.raw (.int 0))) (aNil)))) (aNil)))) (aCons (eA gTup (aCons (eA gTup (aCons (eC (.raw (.int 1))) (aNil))) (aCons (eA gTup (aCons (eC (.raw (.int 0))) (aCons (eC (.raw (.int 1))) (aNil)))) (aNil)))) (aNil)))) (aNil))))) (eA gLst (aCons (eC (.raw (.bl false))) (aCons (eC (.raw (.bl false))) (aCons (eC (.raw (.bl true))) (aNil))))))))))))
def mf__law_long_holds (g : Gl0) : List D → MH → R D := runF 8 0 (bd__law_long_holds g)
theorem ok__law_long_holds {g : Gl0} {f : Addr} {fd : FuncData} (T : Txt K mg w ct g) (F : Fun K "_law_long_holds" "_law_long_holds" s__law_long_holds f fd) (hm : mg "_law_long_holds" = some (.ref f)) (hb : Binds K fd [] []) (G_is_word : FM P w K mg base ct 2 "is_word" 2 (mf_is_word g)) (G_letter_at : FM P w K mg base ct 1 "letter_at" 2 (mf_letter_at g)) (G_plain_word : FM P w K mg base ct 2 "plain_word" 1 (mf_plain_word g)) (G_same_words : FM P w K mg base ct 3 "same_words" 2 (mf_same_words g)) (G_turned_on : FM P w K mg base ct 3 "turned_on" 2 (mf_turned_on g)) (G__law_values : FM P w K mg base ct 41 "_law_values" 2 (mf__law_values g n__law_values)) (G__law_asked : FM P w K mg base ct 44 "_law_asked" 4 (mf__law_asked g)) :
    FM P w K mg base ct 45 "_law_long_holds" 0 (mf__law_long_holds g) :=
  FM.mk' (st := s__law_long_holds) F hm hb sc__law_long_holds (fun cdv A outer s H E hr tk hp => by
    have nd := sc__law_long_holds.nd
    exact sss_cons (ss_asg (se_tup (sa_cons (se_tup (sa_cons (se_str) (sa_cons (se_int) (sa_nil)))) (sa_cons (se_tup (sa_cons (se_op op_mulT d_mulT (se_tup (sa_cons (se_int) (sa_nil))) (se_int)) (sa_cons (se_op op_addU d_addU (se_op op_mulT d_mulT (se_tup (sa_cons (se_int) (sa_nil))) (se_int)) (se_tup (sa_cons (se_int) (sa_nil)))) (sa_nil)))) (sa_nil)))) (sg_tup (by rfl) (sgs_cons (sg_name (i := 0) (by exact nd) rfl (by first | exact Or.inl rfl | exact Or.inr rfl)) (sgs_cons (sg_name (i := 1) (by exact nd) rfl (by first | exact Or.inl rfl | exact Or.inr rfl)) (sgs_nil))))) (sss_cons (ss_set (i := 2) (by exact nd) rfl (by first | exact Or.inl rfl | exact Or.inr rfl) (se_lst (sa_cons (se_tup (sa_cons (se_str) (sa_cons (se_tup (sa_cons (se_str) (sa_cons (se_var 0) (sa_nil)))) (sa_cons (se_var 0) (sa_nil))))) (sa_cons (se_tup (sa_cons (se_str) (sa_cons (se_tup (sa_cons (se_str) (sa_nil))) (sa_cons (se_tup (sa_cons (se_str) (sa_cons (se_var 0) (sa_cons (se_tup (sa_cons (se_str) (sa_cons (se_var 0) (sa_nil)))) (sa_nil))))) (sa_nil))))) (sa_cons (se_tup (sa_cons (se_str) (sa_cons (se_tup (sa_cons (se_str) (sa_cons (se_tup (sa_cons (se_str) (sa_nil))) (sa_nil)))) (sa_cons (se_tup (sa_cons (se_str) (sa_cons (se_tup (sa_cons (se_str) (sa_nil))) (sa_cons (se_var 0) (sa_nil))))) (sa_nil))))) (sa_cons (se_tup (sa_cons (se_str) (sa_cons (se_var 0) (sa_nil)))) (sa_cons (se_tup (sa_cons (se_str) (sa_cons (se_var 0) (sa_cons (se_tup (sa_cons (se_str) (sa_cons (se_var 0) (sa_nil)))) (sa_nil))))) (sa_nil)))))))) (sss_cons (ss_if (st_w (sw_or (st_cmp L2.op_isnot_bl d_isnotB (se_call G_is_word (hr.mono (by first | decide | omega)) tk (by rfl) (sa_cons (se_int) (sa_cons (se_var 1) (sa_nil)))) (se_bl) (nomark _)) (sw_or1 (st_not (st_tru (se_callB (cr_all rfl) d_all (by rfl) T.b_all bt_all (sa_cons (se_lc (own := [(("say" : Str), 4)]) (by rfl) (by exact nd) (si_seq (se_var 2)) (blkOk_by (by rfl)) (by decide) (fun _ _ _ _ _ => sg_name (i := 4) (by exact nd) rfl (by first | exact Or.inl rfl | exact Or.inr rfl)) (fun _ _ _ _ _ => sts_nil) (fun _ _ _ _ _ => se_cmp (op_eqD (hu_of64 hr)) d_eq (se_callB (cr_repr hr) d_repr (by rfl) T.b_repr bt_repr (sa_cons (se_lst (sa_cons (se_call G__law_asked (hr.mono (by first | decide | omega)) takes0N (by rfl) (sa_cons (se_int) (sa_cons (se_int) (sa_cons (se_var 4) (sa_cons (se_var 1) (sa_nil)))))) (sa_cons (se_call G__law_asked (hr.mono (by first | decide | omega)) takes0N (by rfl) (sa_cons (se_int) (sa_cons (se_int) (sa_cons (se_var 4) (sa_cons (se_var 1) (sa_nil)))))) (sa_nil)))) (sa_nil))) (se_callB (cr_repr hr) d_repr (by rfl) T.b_repr bt_repr (sa_cons (se_lst (sa_cons (se_ix ix_seq d_ix (se_call G__law_values (hr.mono (by first | decide | omega)) takes0N (by rfl) (sa_cons (se_var 4) (sa_cons (se_var 1) (sa_nil)))) (se_int) (fun _ _ => rfl)) (sa_cons (se_callTy call_tuple_of d_tuple (by rfl) T.b_tuple bt_tuple (sa_cons (se_call G__law_values (hr.mono (by first | decide | omega)) takes0N (by rfl) (sa_cons (se_var 4) (sa_cons (se_var 1) (sa_nil)))) (sa_nil))) (sa_nil)))) (sa_nil))) (nomark _))) (sa_nil)))))))) (sss_one (ss_ret (se_bl))) (sss_nil)) (sss_cons (ss_set (i := 3) (by exact nd) rfl (by first | exact Or.inl rfl | exact Or.inr rfl) (se_lst (sa_cons (se_tup (sa_cons (se_var 1) (sa_cons (se_var 1) (sa_nil)))) (sa_cons (se_tup (sa_cons (se_tup (sa_cons (se_op op_mulT d_mulT (se_tup (sa_cons (se_int) (sa_nil))) (se_int)) (sa_cons (se_op op_mulT d_mulT (se_tup (sa_cons (se_int) (sa_nil))) (se_int)) (sa_nil)))) (sa_cons (se_tup (sa_cons (se_tup (sa_nil)) (sa_cons (se_tup (sa_cons (se_int) (sa_nil))) (sa_nil)))) (sa_nil)))) (sa_cons (se_tup (sa_cons (se_tup (sa_cons (se_ix ix_seq d_ix (se_var 1) (se_int) (fun _ _ => rfl)) (sa_cons (se_ix ix_seq d_ix (se_var 1) (se_int) (fun _ _ => rfl)) (sa_nil)))) (sa_cons (se_tup (sa_cons (se_tup (sa_nil)) (sa_cons (se_ix ix_seq d_ix (se_var 1) (se_int) (fun _ _ => rfl)) (sa_nil)))) (sa_nil)))) (sa_cons (se_tup (sa_cons (se_tup (sa_cons (se_op op_addU d_addU (se_tup (sa_cons (se_int) (sa_nil))) (se_op op_mulT d_mulT (se_tup (sa_cons (se_int) (sa_nil))) (se_int))) (sa_cons (se_op op_mulT d_mulT (se_tup (sa_cons (se_int) (sa_cons (se_int) (sa_cons (se_int) (sa_nil))))) (se_int)) (sa_nil)))) (sa_cons (se_tup (sa_cons (se_op op_addU d_addU (se_tup (sa_cons (se_int) (sa_nil))) (se_op op_mulT d_mulT (se_tup (sa_cons (se_int) (sa_nil))) (se_int))) (sa_cons (se_tup (sa_cons (se_int) (sa_cons (se_int) (sa_cons (se_int) (sa_nil))))) (sa_nil)))) (sa_nil)))) (sa_nil))))))) (sss_cons (ss_if (st_cmp (op_neD (hu_of64 hr)) d_ne (se_lc (own := [(("some" : Str), 5), (("due" : Str), 6)]) (by rfl) (by exact nd) (si_seq (se_var 3)) (blkOk_by (by rfl)) (by decide) (fun _ _ _ _ _ => sg_tup (by rfl) (sgs_cons (sg_name (i := 5) (by exact nd) rfl (by first | exact Or.inl rfl | exact Or.inr rfl)) (sgs_cons (sg_name (i := 6) (by exact nd) rfl (by first | exact Or.inl rfl | exact Or.inr rfl)) (sgs_nil)))) (fun _ _ _ _ _ => sts_nil) (fun _ _ _ _ _ => se_callB (cr_repr hr) d_repr (by rfl) T.b_repr bt_repr (sa_cons (se_call G_plain_word (hr.mono (by first | decide | omega)) takes0N (by rfl) (sa_cons (se_var 5) (sa_nil))) (sa_nil)))) (se_lc (own := [(("some" : Str), 5), (("due" : Str), 6)]) (by rfl) (by exact nd) (si_seq (se_var 3)) (blkOk_by (by rfl)) (by decide) (fun _ _ _ _ _ => sg_tup (by rfl) (sgs_cons (sg_name (i := 5) (by exact nd) rfl (by first | exact Or.inl rfl | exact Or.inr rfl)) (sgs_cons (sg_name (i := 6) (by exact nd) rfl (by first | exact Or.inl rfl | exact Or.inr rfl)) (sgs_nil)))) (fun _ _ _ _ _ => sts_nil) (fun _ _ _ _ _ => se_callB (cr_repr hr) d_repr (by rfl) T.b_repr bt_repr (sa_cons (se_var 6) (sa_nil)))) (nomark _)) (sss_one (ss_ret (se_bl))) (sss_nil)) (sss_cons (ss_if (st_w (sw_or (st_cmp (op_neD (hu_of64 hr)) d_ne (se_lc (own := [(("n" : Str), 7)]) (by rfl) (by exact nd) (si_seq (se_lst (sa_cons (se_int) (sa_cons (se_int) (sa_nil))))) (blkOk_by (by rfl)) (by decide) (fun _ _ _ _ _ => sg_name (i := 7) (by exact nd) rfl (by first | exact Or.inl rfl | exact Or.inr rfl)) (fun _ _ _ _ _ => sts_nil) (fun _ _ _ _ _ => se_callB (cr_repr hr) d_repr (by rfl) T.b_repr bt_repr (sa_cons (se_call G_turned_on (hr.mono (by first | decide | omega)) takes0N (by rfl) (sa_cons (se_var 1) (sa_cons (se_var 7) (sa_nil)))) (sa_nil)))) (se_lst (sa_cons (se_callB (cr_repr hr) d_repr (by rfl) T.b_repr bt_repr (sa_cons (se_tup (sa_cons (se_tup (sa_nil)) (sa_cons (se_ix ix_seq d_ix (se_var 1) (se_int) (fun _ _ => rfl)) (sa_nil)))) (sa_nil))) (sa_cons (se_callB (cr_repr hr) d_repr (by rfl) T.b_repr bt_repr (sa_cons (se_tup (sa_cons (se_tup (sa_nil)) (sa_cons (se_op op_addU d_addU (se_op op_mulT d_mulT (se_tup (sa_cons (se_int) (sa_nil))) (se_int)) (se_tup (sa_cons (se_int) (sa_cons (se_int) (sa_nil))))) (sa_nil)))) (sa_nil))) (sa_nil)))) (nomark _)) (sw_or1 (st_cmp (op_neD (hu_of64 hr)) d_ne (se_lc (own := [(("n" : Str), 7)]) (by rfl) (by exact nd) (si_seq (se_lst (sa_cons (se_int) (sa_cons (se_int) (sa_nil))))) (blkOk_by (by rfl)) (by decide) (fun _ _ _ _ _ => sg_name (i := 7) (by exact nd) rfl (by first | exact Or.inl rfl | exact Or.inr rfl)) (fun _ _ _ _ _ => sts_nil) (fun _ _ _ _ _ => se_call G_letter_at (hr.mono (by first | decide | omega)) takes0N (by rfl) (sa_cons (se_var 1) (sa_cons (se_var 7) (sa_nil))))) (se_lst (sa_cons (se_int) (sa_cons (se_int) (sa_nil)))) (nomark _))))) (sss_one (ss_ret (se_bl))) (sss_nil)) (sss_one (ss_ret (se_cmp (op_eqD (hu_of64 hr)) d_eq (se_lst (sa_cons (se_call G_same_words (hr.mono (by first | decide | omega)) tk (by rfl) (sa_cons (se_var 1) (sa_cons (se_tup (sa_cons (se_sl (se_ix ix_seq d_ix (se_var 1) (se_int) (fun _ _ => rfl)) (so_some (se_int)) so_none) (sa_cons (se_ix ix_seq d_ix (se_var 1) (se_int) (fun _ _ => rfl)) (sa_nil)))) (sa_nil)))) (sa_cons (se_call G_same_words (hr.mono (by first | decide | omega)) tk (by rfl) (sa_cons (se_var 1) (sa_cons (se_tup (sa_cons (se_ix ix_seq d_ix (se_var 1) (se_int) (fun _ _ => rfl)) (sa_cons (se_op op_mulT d_mulT (se_tup (sa_cons (se_int) (sa_nil))) (se_int)) (sa_nil)))) (sa_nil)))) (sa_cons (se_call G_same_words (hr.mono (by first | decide | omega)) tk (by rfl) (sa_cons (se_tup (sa_cons (se_tup (sa_nil)) (sa_cons (se_tup (sa_cons (se_int) (sa_cons (se_int) (sa_nil)))) (sa_nil)))) (sa_cons (se_tup (sa_cons (se_tup (sa_cons (se_int) (sa_nil))) (sa_cons (se_tup (sa_cons (se_int) (sa_cons (se_int) (sa_nil)))) (sa_nil)))) (sa_nil)))) (sa_nil))))) (se_lst (sa_cons (se_bl) (sa_cons (se_bl) (sa_cons (se_bl) (sa_nil))))) (nomark _))))))))))
abbrev s_law : Stmt := top 63
def N_law : List Str := ["script", "draws", "bits", "letters", "word", "other", "some", "plain", "n", "later", "doubled", "turn", "sentence", "due", "against", "wrong", "bad", "told", "specs", "words", "k", "value", "way"]
theorem sc_law : FnScope ["script", "draws", "bits", "letters", "word", "other", "some", "plain", "n", "later", "doubled", "turn", "sentence", "due", "against", "wrong", "bad", "told", "specs", "words", "k", "value", "way"] ["script"] (defScope s_law) := ⟨rfl, rfl, rfl, by decide +kernel, rfl, by decide +kernel, by decide +kernel⟩
def lc_law_1 (g : Gl0) : Fr → MH → R (List D) :=
  lcF [20] (iA gR1 (aCons (eC (.raw (.int 60))) (aNil))) (gN 20) (bTrue) (e2 gEq (eCall false (mf__law_letter g) (aCons (eVar 9) (aCons (eVar 20) (aNil)))) (eCall false (mf__law_letter g) (aCons (eVar 6) (aCons (e2 gAdd (eVar 8) (eVar 20)) (aNil)))))
def bo_law_1 (g : Gl0) : SmS :=
  sSeq (sAsg (eCall false (mf_plain_word g) (aCons (eVar 6) (aNil))) (gN 7)) (sSeq (sIf (bOr (bNot (bTru (eCall false (mf__law_same_words g) (aCons (eVar 7) (aCons (eVar 6) (aNil)))))) (bOr (bNot (bTru (eCall false (mf__law_is_plain g) (aCons (eVar 7) (aNil))))) (bVal (e2 (gIsB not) (eCall false (mf_is_word g) (aCons (eVar 2) (aCons (eVar 6) (aNil)))) (eC (.raw (.bl true))))))) (sRet (eC (.raw (.bl false)))) (sNext)) (sSeq (sAsg (e2 gMod (eA gInt (aCons (eCall false (mf__law_next g) (aCons (eVar 1) (aNil))) (aNil))) (eC (.raw (.int 12)))) (gN 8)) (sSeq (sAsg (eCall false (mf_turned_on g) (aCons (eVar 6) (aCons (eVar 8) (aNil)))) (gN 9)) (sIf (bOr (bNot (bTru (eA gAll (aCons (eLc (lc_law_1 g)) (aNil))))) (bOr (bNot (bTru (eCall false (mf__law_is_plain g) (aCons (eVar 9) (aNil))))) (bVal (e2 gNe (eCall false (mf_letter_at g) (aCons (eVar 6) (aCons (eVar 8) (aNil)))) (eCall false (mf__law_letter g) (aCons (eVar 6) (aCons (eVar 8) (aNil)))))))) (sRet (eC (.raw (.bl false)))) (sNext)))))
def lp_law_1 (g : Gl0) : SmS :=
  sFor (iD (eA gLst (aCons (eVar 4) (aCons (eVar 5) (aNil))))) (gN 6) (bo_law_1 g)
def lc_law_2 (g : Gl0) : Fr → MH → R (List D) :=
  lcF [21] (iD (eVar 13)) (gN 21) (bTrue) (eNot (eVar 21))
def bo_law_2 (g : Gl0) : SmS :=
  sSeq (sAsg (eCall false (mf__law_sentence g n__law_sentence) (aCons (eVar 1) (aCons (eVar 2) (aCons (eC (.raw (.int 3))) (aNil))))) (gN 12)) (sSeq (sPar 13 14 (aCons (eCall false (mf__law_values g n__law_values) (aCons (eVar 12) (aCons (eVar 4) (aNil)))) (aCons (eCall false (mf_opposite g n_opposite) (aCons (eVar 12) (aNil))) (aNil)))) (sSeq (sIf (bVal (e2 gNe (eA gRepr (aCons (eA gLst (aCons (eCall false (mf__law_asked g) (aCons (eC (.raw (.int 0))) (aCons (eVar 2) (aCons (eVar 12) (aCons (eVar 4) (aNil)))))) (aCons (eCall false (mf__law_asked g) (aCons (eC (.raw (.int 1))) (aCons (eVar 2) (aCons (eVar 12) (aCons (eVar 4) (aNil)))))) (aNil)))) (aNil))) (eA gRepr (aCons (eA gLst (aCons (e2 gIx (eVar 13) (eC (.raw (.int 0)))) (aCons (eA gTuple (aCons (eVar 13) (aNil))) (aNil)))) (aNil))))) (sRet (eC (.raw (.bl false)))) (sNext)) (sSeq (sIf (bOr (bNot (bTru (eCall false (mf__law_is_inward g n__law_is_inward) (aCons (eVar 14) (aNil))))) (bNot (bTru (eCall false (mf__law_is_inward g n__law_is_inward) (aCons (eCall false (mf_inward g n_inward) (aCons (eVar 12) (aNil))) (aNil)))))) (sRet (eC (.raw (.bl false)))) (sNext)) (sSeq (sIf (bOr (bVal (e2 gNe (eCall false (mf__law_values g n__law_values) (aCons (eVar 14) (aCons (eVar 4) (aNil)))) (eLc (lc_law_2 g)))) (bOr (bVal (e2 gNe (eCall false (mf__law_values g n__law_values) (aCons (eCall false (mf_inward g n_inward) (aCons (eVar 12) (aNil))) (aCons (eVar 4) (aNil)))) (eVar 13))) (bVal (e2 gNe (eCall false (mf_opposite g n_opposite) (aCons (eVar 14) (aNil))) (eCall false (mf_inward g n_inward) (aCons (eVar 12) (aNil))))))) (sRet (eC (.raw (.bl false)))) (sNext)) (sIf (bOr (bVal (e2 gNe (eCall false (mf__law_holds g) (aCons (eVar 12) (aCons (eVar 10) (aNil)))) (e2 gIx (eVar 13) (eC (.raw (.int 0)))))) (bVal (e2 gNe (eCall false (mf_holds g) (aCons (eVar 2) (aCons (eA gTup (aCons (eC (.raw (.str "next"))) (aCons (eVar 12) (aNil)))) (aCons (eVar 4) (aNil))))) (eCall false (mf__law_holds g) (aCons (eVar 12) (aCons (eCall false (mf_turned_on g) (aCons (eVar 4) (aCons (eC (.raw (.int 1))) (aNil)))) (aNil))))))) (sRet (eC (.raw (.bl false)))) (sNext))))))
def lp_law_2 (g : Gl0) : SmS :=
  sFor (iA gR1 (aCons (eC (.raw (.int 3))) (aNil))) (gN 11) (bo_law_2 g)
def lc_law_3 (g : Gl0) : Fr → MH → R (List D) :=
  lcF [6] (iD (eA gLst (aCons (eC (.raw (.int 0))) (aCons (eC (.raw (.int 5))) (aNil))))) (gN 6) (bTrue) (eCall false (mf__law_asked g) (aCons (eVar 22) (aCons (eVar 6) (aCons (eA gTup (aCons (eC (.raw (.str "x"))) (aNil))) (aCons (eA gTup (aCons (eA gTup (aNil)) (aCons (eA gTup (aNil)) (aNil)))) (aNil))))))
def lc_law_4 (g : Gl0) : Fr → MH → R (List D) :=
  lcF [22] (iA gR1 (aCons (eC (.raw (.int 2))) (aNil))) (gN 22) (bTrue) (eLc (lc_law_3 g))
def lc_law_5 (g : Gl0) : Fr → MH → R (List D) :=
  lcF [6] (iD (eA gLst (aCons (eC (.raw (.int 0))) (aCons (eC (.raw (.int 5))) (aNil))))) (gN 6) (bTrue) (eCall false (mf__law_asked g) (aCons (eC (.raw (.int 2))) (aCons (eVar 6) (aCons (eC (.raw .non)) (aCons (eA gTup (aCons (eA gTup (aNil)) (aCons (eA gTup (aCons (eC (.raw (.int 0))) (aNil))) (aNil)))) (aNil))))))
def lc_law_6 (g : Gl0) : Fr → MH → R (List D) :=
  lcF [6] (iD (eVar 16)) (gN 6) (bTrue) (eCall false (mf__law_asked g) (aCons (eVar 22) (aCons (eVar 2) (aCons (eVar 6) (aCons (eA gTup (aCons (eA gTup (aNil)) (aCons (eA gTup (aNil)) (aNil)))) (aNil))))))
def lc_law_7 (g : Gl0) : Fr → MH → R (List D) :=
  lcF [22] (iA gR1 (aCons (eC (.raw (.int 2))) (aNil))) (gN 22) (bTrue) (eLc (lc_law_6 g))
def lc_law_8 (g : Gl0) : Fr → MH → R (List D) :=
  lcF [6] (iD (eVar 15)) (gN 6) (bTrue) (eCall false (mf__law_asked g) (aCons (eVar 22) (aCons (eVar 2) (aCons (eA gTup (aCons (eC (.raw (.str "yes"))) (aNil))) (aCons (eVar 6) (aNil))))))
def lc_law_9 (g : Gl0) : Fr → MH → R (List D) :=
  lcF [22] (iA gR1 (aCons (eC (.raw (.int 2))) (aNil))) (gN 22) (bTrue) (eLc (lc_law_8 g))
def lc_law_10 (g : Gl0) : Fr → MH → R (List D) :=
  lcF [6] (iD (eVar 15)) (gN 6) (bTrue) (eCall false (mf__law_asked g) (aCons (eC (.raw (.int 2))) (aCons (eVar 2) (aCons (eC (.raw .non)) (aCons (eVar 6) (aNil))))))
def bd_law (g : Gl0) : SmS :=
  sSeq (sAsg (eCall true (mf__law_draws g) (aCons (eVar 0) (aNil))) (gN 1)) (sSeq (sAsg (eCall true (mf__law_more g) (aCons (eVar 1) (aCons (eC (.raw (.int 300))) (aNil)))) (gN 1)) (sSeq (sAsg (e2 gAdd (eC (.raw (.int 1))) (e2 gMod (eA gInt (aCons (eCall false (mf__law_next g) (aCons (eVar 1) (aNil))) (aNil))) (eC (.raw (.int 4))))) (gN 2)) (sSeq (sAsg (e2 gIx (eA gLst (aCons (eC (.raw (.int 2))) (aCons (eC (.raw (.int 4))) (aCons (eC (.raw (.int 8))) (aCons (eC (.raw (.int 16))) (aNil)))))) (e2 gSub (eVar 2) (eC (.raw (.int 1))))) (gN 3)) (sSeq (sPar 4 5 (aCons (eCall false (mf__law_word g) (aCons (eVar 1) (aCons (eVar 3) (aNil)))) (aCons (eCall false (mf__law_word g) (aCons (eVar 1) (aCons (eA gMin2 (aCons (eVar 3) (aCons (eC (.raw (.int 2))) (aNil)))) (aNil)))) (aNil)))) (sSeq (sIf (bVal (e2 (gIsB not) (eCall false (mf_holds g) (aCons (eC (.raw (.int 2))) (aCons (eA gTup (aCons (eC (.raw (.str "release"))) (aCons (eA gTup (aCons (eC (.raw (.str "not"))) (aCons (eA gTup (aCons (eC (.raw (.str "yes"))) (aNil))) (aNil)))) (aCons (eA gTup (aCons (eC (.raw (.str "or"))) (aCons (eA gTup (aCons (eC (.raw (.str "not"))) (aCons (eA gTup (aCons (eC (.raw (.str "bit"))) (aCons (eC (.raw (.int 0))) (aNil)))) (aNil)))) (aCons (eA gTup (aCons (eC (.raw (.str "next"))) (aCons (eA gTup (aCons (eC (.raw (.str "bit"))) (aCons (eC (.raw (.int 1))) (aNil)))) (aNil)))) (aNil))))) (aNil))))) (aCons (eA gTup (aCons (eA gTup (aNil)) (aCons (eA gTup (aCons (eC (.raw (.int 1))) (aCons (eC (.raw (.int 2))) (aNil)))) (aNil)))) (aNil))))) (eC (.raw (.bl true))))) (sRet (eC (.raw (.bl false)))) (sNext)) (sSeq (lp_law_1 g) (sSeq (sAsg (eA gTup (aCons (e2 gAdd (e2 gIx (eVar 4) (eC (.raw (.int 0)))) (e2 gIx (eVar 4) (eC (.raw (.int 1))))) (aCons (e2 gMulT (e2 gIx (eVar 4) (eC (.raw (.int 1)))) (eC (.raw (.int 2)))) (aNil)))) (gN 10)) (sSeq (sIf (bOr (bVal (e2 (gIsB not) (eCall false (mf_same_words g) (aCons (eVar 4) (aCons (eVar 10) (aNil)))) (eC (.raw (.bl true))))) (bVal (e2 gNe (eCall false (mf_same_words g) (aCons (eVar 4) (aCons (eVar 5) (aNil)))) (eCall false (mf__law_same_words g) (aCons (eVar 4) (aCons (eVar 5) (aNil))))))) (sRet (eC (.raw (.bl false)))) (sNext)) (sSeq (lp_law_2 g) (sSeq (sAsg (eA gLst (aCons (eA gTup (aCons (eA gTup (aNil)) (aCons (eA gTup (aNil)) (aNil)))) (aCons (eA gTup (aCons (eA gTup (aCons (eVar 3) (aNil))) (aCons (eA gTup (aCons (eC (.raw (.int 0))) (aNil))) (aNil)))) (aCons (eA gTup (aCons (eA gTup (aNil)) (aCons (eA gTup (aCons (e1 gNeg (eC (.raw (.int 1)))) (aNil))) (aNil)))) (aCons (eA gTup (aCons (e2 gMulT (eA gTup (aCons (eC (.raw (.int 0))) (aNil))) (eC (.raw (.int 41)))) (aCons (eA gTup (aCons (eC (.raw (.int 0))) (aNil))) (aNil)))) (aCons (eA gTup (aCons (eA gTup (aNil)) (aCons (e2 gMulT (eA gTup (aCons (eC (.raw (.int 0))) (aNil))) (eC (.raw (.int 41)))) (aNil)))) (aNil))))))) (gN 15)) (sSeq (sAsg (eA gLst (aCons (eA gTup (aCons (eC (.raw (.str "bit"))) (aCons (eVar 2) (aNil)))) (aCons (eA gTup (aCons (eC (.raw (.str "x"))) (aNil))) (aCons (eA gTup (aNil)) (aCons (eA gTup (aCons (eC (.raw (.str "and"))) (aCons (eA gTup (aCons (eC (.raw (.str "yes"))) (aNil))) (aNil)))) (aNil)))))) (gN 16)) (sSeq (sAsg (e2 gAdd (eCall false (mf__law_flat g) (aCons (eLc (lc_law_4 g)) (aNil))) (eLc (lc_law_5 g))) (gN 17)) (sSeq (sAsg (eCall false (mf__law_flat g) (aCons (eLc (lc_law_7 g)) (aNil))) (gN 18)) (sSeq (sAsg (eCall false (mf__law_flat g) (aCons (eLc (lc_law_9 g)) (aNil))) (gN 19)) (sSeq (sIf (bVal (e2 gNe (eLc (lc_law_10 g)) (e2 gMulT (eA gLst (aCons (eC (.raw (.bl false))) (aNil))) (eC (.raw (.int 5)))))) (sRet (eC (.raw (.bl false)))) (sNext)) (sRet (eAnd (eCall false (mf__law_long_holds g) aNil) (eAnd (e2 gEq (eVar 17) (e2 gMulT (eA gLst (aCons (eC (.raw (.str "!number"))) (aNil))) (eC (.raw (.int 6))))) (eAnd (e2 gEq (eVar 18) (e2 gMulT (eA gLst (aCons (eC (.raw (.str "!spec"))) (aNil))) (eC (.raw (.int 8))))) (e2 gEq (eVar 19) (e2 gMulT (eA gLst (aCons (eC (.raw (.str "!word"))) (aNil))) (eC (.raw (.int 10))))))))))))))))))))))))
def mf_law (g : Gl0) : List D → MH → R D := runF 23 1 (bd_law g)
theorem ok_law {g : Gl0} {f : Addr} {fd : FuncData} (T : Txt K mg w ct g) (F : Fun K "law" "law" s_law f fd) (G_is_word : FM P w K mg base ct 2 "is_word" 2 (mf_is_word g)) (G_letter_at : FM P w K mg base ct 1 "letter_at" 2 (mf_letter_at g)) (G_plain_word : FM P w K mg base ct 2 "plain_word" 1 (mf_plain_word g)) (G_same_words : FM P w K mg base ct 3 "same_words" 2 (mf_same_words g)) (G_turned_on : FM P w K mg base ct 3 "turned_on" 2 (mf_turned_on g)) (G_opposite : FM P w K mg base ct 40 "opposite" 1 (mf_opposite g n_opposite)) (G_inward : FM P w K mg base ct 40 "inward" 1 (mf_inward g n_inward)) (G_holds : FM P w K mg base ct 43 "holds" 3 (mf_holds g)) (G__law_draws : FM P w K mg base ct 2 "_law_draws" 1 (mf__law_draws g)) (G__law_flat : FM P w K mg base ct 1 "_law_flat" 1 (mf__law_flat g)) (G__law_next : FM P w K mg base ct 1 "_law_next" 1 (mf__law_next g)) (G__law_more : FM P w K mg base ct 2 "_law_more" 2 (mf__law_more g)) (G__law_sentence : FM P w K mg base ct 41 "_law_sentence" 3 (mf__law_sentence g n__law_sentence)) (G__law_word : FM P w K mg base ct 2 "_law_word" 2 (mf__law_word g)) (G__law_letter : FM P w K mg base ct 1 "_law_letter" 2 (mf__law_letter g)) (G__law_values : FM P w K mg base ct 41 "_law_values" 2 (mf__law_values g n__law_values)) (G__law_holds : FM P w K mg base ct 42 "_law_holds" 2 (mf__law_holds g)) (G__law_same_words : FM P w K mg base ct 2 "_law_same_words" 2 (mf__law_same_words g)) (G__law_is_inward : FM P w K mg base ct 40 "_law_is_inward" 1 (mf__law_is_inward g n__law_is_inward)) (G__law_asked : FM P w K mg base ct 44 "_law_asked" 4 (mf__law_asked g)) (G__law_is_plain : FM P w K mg base ct 3 "_law_is_plain" 1 (mf__law_is_plain g)) (G__law_long_holds : FM P w K mg base ct 45 "_law_long_holds" 0 (mf__law_long_holds g)) :
    FnG P w K mg base 46 f fd ["script"] (spM ⟨K, ct⟩ 1 (mf_law g)) :=
  FnG.mk' (st := s_law) F sc_law (fun cdv A outer s H E hr tk hp => by
    have nd := sc_law.nd
    exact sss_cons (ss_set (i := 1) (by exact nd) rfl (by first | exact Or.inl rfl | exact Or.inr rfl) (se_call G__law_draws (hr.mono (by first | decide | omega)) tk (by rfl) (sa_cons (se_var 0) (sa_nil)))) (sss_cons (ss_set (i := 1) (by exact nd) rfl (by first | exact Or.inl rfl | exact Or.inr rfl) (se_call G__law_more (hr.mono (by first | decide | omega)) tk (by rfl) (sa_cons (se_var 1) (sa_cons (se_int) (sa_nil))))) (sss_cons (ss_set (i := 2) (by exact nd) rfl (by first | exact Or.inl rfl | exact Or.inr rfl) (se_op op_addU d_addU (se_int) (se_op op_mod (d_rI cPos_ok) (se_callTy call_int1 d_int (by rfl) T.b_int bt_int (sa_cons (se_call G__law_next (hr.mono (by first | decide | omega)) tk (by rfl) (sa_cons (se_var 1) (sa_nil))) (sa_nil))) (se_int)))) (sss_cons (ss_set (i := 3) (by exact nd) rfl (by first | exact Or.inl rfl | exact Or.inr rfl) (se_ix ix_seq d_ix (se_lst (sa_cons (se_int) (sa_cons (se_int) (sa_cons (se_int) (sa_cons (se_int) (sa_nil)))))) (se_op op_sub d_rI0 (se_var 2) (se_int)) (fun _ _ => rfl))) (sss_cons (ss_par (i := 4) (j := 5) (by rfl) (by exact nd) rfl rfl (by decide) rfl rfl (sa_cons (se_call G__law_word (hr.mono (by first | decide | omega)) tk (by rfl) (sa_cons (se_var 1) (sa_cons (se_var 3) (sa_nil)))) (sa_cons (se_call G__law_word (hr.mono (by first | decide | omega)) tk (by rfl) (sa_cons (se_var 1) (sa_cons (se_callB (call_min2 rfl) d_min2 (by rfl) T.b_min bt_min (sa_cons (se_var 3) (sa_cons (se_int) (sa_nil)))) (sa_nil)))) (sa_nil))) (by rfl)) (sss_cons (ss_if (st_cmp L2.op_isnot_bl d_isnotB (se_call G_holds (hr.mono (by first | decide | omega)) tk (by rfl) (sa_cons (se_int) (sa_cons (se_tup (sa_cons (se_str) (sa_cons (se_tup (sa_cons (se_str) (sa_cons (se_tup (sa_cons (se_str) (sa_nil))) (sa_nil)))) (sa_cons (se_tup (sa_cons (se_str) (sa_cons (se_tup (sa_cons (se_str) (sa_cons (se_tup (sa_cons (se_str) (sa_cons (se_int) (sa_nil)))) (sa_nil)))) (sa_cons (se_tup (sa_cons (se_str) (sa_cons (se_tup (sa_cons (se_str) (sa_cons (se_int) (sa_nil)))) (sa_nil)))) (sa_nil))))) (sa_nil))))) (sa_cons (se_tup (sa_cons (se_tup (sa_nil)) (sa_cons (se_tup (sa_cons (se_int) (sa_cons (se_int) (sa_nil)))) (sa_nil)))) (sa_nil))))) (se_bl) (nomark _)) (sss_one (ss_ret (se_bl))) (sss_nil)) (sss_cons (ss_for hp (by rfl) (si_seq (se_lst (sa_cons (se_var 4) (sa_cons (se_var 5) (sa_nil))))) (sg_name (i := 6) (by exact nd) rfl (by first | exact Or.inl rfl | exact Or.inr rfl)) (sss_cons (ss_set (i := 7) (by exact nd) rfl (by first | exact Or.inl rfl | exact Or.inr rfl) (se_call G_plain_word (hr.mono (by first | decide | omega)) tk (by rfl) (sa_cons (se_var 6) (sa_nil)))) (sss_cons (ss_if (st_w (sw_or (st_not (st_tru (se_call G__law_same_words (hr.mono (by first | decide | omega)) tk (by rfl) (sa_cons (se_var 7) (sa_cons (se_var 6) (sa_nil)))))) (sw_or (st_not (st_tru (se_call G__law_is_plain (hr.mono (by first | decide | omega)) tk (by rfl) (sa_cons (se_var 7) (sa_nil))))) (sw_or1 (st_cmp L2.op_isnot_bl d_isnotB (se_call G_is_word (hr.mono (by first | decide | omega)) tk (by rfl) (sa_cons (se_var 2) (sa_cons (se_var 6) (sa_nil)))) (se_bl) (nomark _)))))) (sss_one (ss_ret (se_bl))) (sss_nil)) (sss_cons (ss_set (i := 8) (by exact nd) rfl (by first | exact Or.inl rfl | exact Or.inr rfl) (se_op op_mod (d_rI cPos_ok) (se_callTy call_int1 d_int (by rfl) T.b_int bt_int (sa_cons (se_call G__law_next (hr.mono (by first | decide | omega)) tk (by rfl) (sa_cons (se_var 1) (sa_nil))) (sa_nil))) (se_int))) (sss_cons (ss_set (i := 9) (by exact nd) rfl (by first | exact Or.inl rfl | exact Or.inr rfl) (se_call G_turned_on (hr.mono (by first | decide | omega)) tk (by rfl) (sa_cons (se_var 6) (sa_cons (se_var 8) (sa_nil))))) (sss_one (ss_if (st_w (sw_or (st_not (st_tru (se_callB (cr_all rfl) d_all (by rfl) T.b_all bt_all (sa_cons (se_lc (own := [(("k" : Str), 20)]) (by rfl) (by exact nd) (si_range1 (by rfl) T.b_range (sa_cons (se_int) (sa_nil))) (blkOk_by (by rfl)) (by decide) (fun _ _ _ _ _ => sg_name (i := 20) (by exact nd) rfl (by first | exact Or.inl rfl | exact Or.inr rfl)) (fun _ _ _ _ _ => sts_nil) (fun _ _ _ _ _ => se_cmp (op_eqD (hu_of64 hr)) d_eq (se_call G__law_letter (hr.mono (by first | decide | omega)) takes0N (by rfl) (sa_cons (se_var 9) (sa_cons (se_var 20) (sa_nil)))) (se_call G__law_letter (hr.mono (by first | decide | omega)) takes0N (by rfl) (sa_cons (se_var 6) (sa_cons (se_op op_addU d_addU (se_var 8) (se_var 20)) (sa_nil)))) (nomark _))) (sa_nil))))) (sw_or (st_not (st_tru (se_call G__law_is_plain (hr.mono (by first | decide | omega)) tk (by rfl) (sa_cons (se_var 9) (sa_nil))))) (sw_or1 (st_cmp (op_neD (hu_of64 hr)) d_ne (se_call G_letter_at (hr.mono (by first | decide | omega)) tk (by rfl) (sa_cons (se_var 6) (sa_cons (se_var 8) (sa_nil)))) (se_call G__law_letter (hr.mono (by first | decide | omega)) tk (by rfl) (sa_cons (se_var 6) (sa_cons (se_var 8) (sa_nil)))) (nomark _)))))) (sss_one (ss_ret (se_bl))) (sss_nil)))))))) (sss_cons (ss_set (i := 10) (by exact nd) rfl (by first | exact Or.inl rfl | exact Or.inr rfl) (se_tup (sa_cons (se_op op_addU d_addU (se_ix ix_seq d_ix (se_var 4) (se_int) (fun _ _ => rfl)) (se_ix ix_seq d_ix (se_var 4) (se_int) (fun _ _ => rfl))) (sa_cons (se_op op_mulT d_mulT (se_ix ix_seq d_ix (se_var 4) (se_int) (fun _ _ => rfl)) (se_int)) (sa_nil))))) (sss_cons (ss_if (st_w (sw_or (st_cmp L2.op_isnot_bl d_isnotB (se_call G_same_words (hr.mono (by first | decide | omega)) tk (by rfl) (sa_cons (se_var 4) (sa_cons (se_var 10) (sa_nil)))) (se_bl) (nomark _)) (sw_or1 (st_cmp (op_neD (hu_of64 hr)) d_ne (se_call G_same_words (hr.mono (by first | decide | omega)) tk (by rfl) (sa_cons (se_var 4) (sa_cons (se_var 5) (sa_nil)))) (se_call G__law_same_words (hr.mono (by first | decide | omega)) tk (by rfl) (sa_cons (se_var 4) (sa_cons (se_var 5) (sa_nil)))) (nomark _))))) (sss_one (ss_ret (se_bl))) (sss_nil)) (sss_cons (ss_for hp (by rfl) (si_range1 (by rfl) T.b_range (sa_cons (se_int) (sa_nil))) (sg_name (i := 11) (by exact nd) rfl (by first | exact Or.inl rfl | exact Or.inr rfl)) (sss_cons (ss_set (i := 12) (by exact nd) rfl (by first | exact Or.inl rfl | exact Or.inr rfl) (se_call G__law_sentence (hr.mono (by first | decide | omega)) tk (by rfl) (sa_cons (se_var 1) (sa_cons (se_var 2) (sa_cons (se_int) (sa_nil)))))) (sss_cons (ss_par (i := 13) (j := 14) (by rfl) (by exact nd) rfl rfl (by decide) rfl rfl (sa_cons (se_call G__law_values (hr.mono (by first | decide | omega)) tk (by rfl) (sa_cons (se_var 12) (sa_cons (se_var 4) (sa_nil)))) (sa_cons (se_call G_opposite (hr.mono (by first | decide | omega)) tk (by rfl) (sa_cons (se_var 12) (sa_nil))) (sa_nil))) (by rfl)) (sss_cons (ss_if (st_cmp (op_neD (hu_of64 hr)) d_ne (se_callB (cr_repr hr) d_repr (by rfl) T.b_repr bt_repr (sa_cons (se_lst (sa_cons (se_call G__law_asked (hr.mono (by first | decide | omega)) tk (by rfl) (sa_cons (se_int) (sa_cons (se_var 2) (sa_cons (se_var 12) (sa_cons (se_var 4) (sa_nil)))))) (sa_cons (se_call G__law_asked (hr.mono (by first | decide | omega)) tk (by rfl) (sa_cons (se_int) (sa_cons (se_var 2) (sa_cons (se_var 12) (sa_cons (se_var 4) (sa_nil)))))) (sa_nil)))) (sa_nil))) (se_callB (cr_repr hr) d_repr (by rfl) T.b_repr bt_repr (sa_cons (se_lst (sa_cons (se_ix ix_seq d_ix (se_var 13) (se_int) (fun _ _ => rfl)) (sa_cons (se_callTy call_tuple_of d_tuple (by rfl) T.b_tuple bt_tuple (sa_cons (se_var 13) (sa_nil))) (sa_nil)))) (sa_nil))) (nomark _)) (sss_one (ss_ret (se_bl))) (sss_nil)) (sss_cons (ss_if (st_w (sw_or (st_not (st_tru (se_call G__law_is_inward (hr.mono (by first | decide | omega)) tk (by rfl) (sa_cons (se_var 14) (sa_nil))))) (sw_or1 (st_not (st_tru (se_call G__law_is_inward (hr.mono (by first | decide | omega)) tk (by rfl) (sa_cons (se_call G_inward (hr.mono (by first | decide | omega)) tk (by rfl) (sa_cons (se_var 12) (sa_nil))) (sa_nil)))))))) (sss_one (ss_ret (se_bl))) (sss_nil)) (sss_cons (ss_if (st_w (sw_or (st_cmp (op_neD (hu_of64 hr)) d_ne (se_call G__law_values (hr.mono (by first | decide | omega)) tk (by rfl) (sa_cons (se_var 14) (sa_cons (se_var 4) (sa_nil)))) (se_lc (own := [(("value" : Str), 21)]) (by rfl) (by exact nd) (si_seq (se_var 13)) (blkOk_by (by rfl)) (by decide) (fun _ _ _ _ _ => sg_name (i := 21) (by exact nd) rfl (by first | exact Or.inl rfl | exact Or.inr rfl)) (fun _ _ _ _ _ => sts_nil) (fun _ _ _ _ _ => se_not (se_var 21))) (nomark _)) (sw_or (st_cmp (op_neD (hu_of64 hr)) d_ne (se_call G__law_values (hr.mono (by first | decide | omega)) tk (by rfl) (sa_cons (se_call G_inward (hr.mono (by first | decide | omega)) tk (by rfl) (sa_cons (se_var 12) (sa_nil))) (sa_cons (se_var 4) (sa_nil)))) (se_var 13) (nomark _)) (sw_or1 (st_cmp (op_neD (hu_of64 hr)) d_ne (se_call G_opposite (hr.mono (by first | decide | omega)) tk (by rfl) (sa_cons (se_var 14) (sa_nil))) (se_call G_inward (hr.mono (by first | decide | omega)) tk (by rfl) (sa_cons (se_var 12) (sa_nil))) (nomark _)))))) (sss_one (ss_ret (se_bl))) (sss_nil)) (sss_one (ss_if (st_w (sw_or (st_cmp (op_neD (hu_of64 hr)) d_ne (se_call G__law_holds (hr.mono (by first | decide | omega)) tk (by rfl) (sa_cons (se_var 12) (sa_cons (se_var 10) (sa_nil)))) (se_ix ix_seq d_ix (se_var 13) (se_int) (fun _ _ => rfl)) (nomark _)) (sw_or1 (st_cmp (op_neD (hu_of64 hr)) d_ne (se_call G_holds (hr.mono (by first | decide | omega)) tk (by rfl) (sa_cons (se_var 2) (sa_cons (se_tup (sa_cons (se_str) (sa_cons (se_var 12) (sa_nil)))) (sa_cons (se_var 4) (sa_nil))))) (se_call G__law_holds (hr.mono (by first | decide | omega)) tk (by rfl) (sa_cons (se_var 12) (sa_cons (se_call G_turned_on (hr.mono (by first | decide | omega)) tk (by rfl) (sa_cons (se_var 4) (sa_cons (se_int) (sa_nil)))) (sa_nil)))) (nomark _))))) (sss_one (ss_ret (se_bl))) (sss_nil))))))))) (sss_cons (ss_set (i := 15) (by exact nd) rfl (by first | exact Or.inl rfl | exact Or.inr rfl) (se_lst (sa_cons (se_tup (sa_cons (se_tup (sa_nil)) (sa_cons (se_tup (sa_nil)) (sa_nil)))) (sa_cons (se_tup (sa_cons (se_tup (sa_cons (se_var 3) (sa_nil))) (sa_cons (se_tup (sa_cons (se_int) (sa_nil))) (sa_nil)))) (sa_cons (se_tup (sa_cons (se_tup (sa_nil)) (sa_cons (se_tup (sa_cons (se_un un_neg d_neg (se_int)) (sa_nil))) (sa_nil)))) (sa_cons (se_tup (sa_cons (se_op op_mulT d_mulT (se_tup (sa_cons (se_int) (sa_nil))) (se_int)) (sa_cons (se_tup (sa_cons (se_int) (sa_nil))) (sa_nil)))) (sa_cons (se_tup (sa_cons (se_tup (sa_nil)) (sa_cons (se_op op_mulT d_mulT (se_tup (sa_cons (se_int) (sa_nil))) (se_int)) (sa_nil)))) (sa_nil)))))))) (sss_cons (ss_set (i := 16) (by exact nd) rfl (by first | exact Or.inl rfl | exact Or.inr rfl) (se_lst (sa_cons (se_tup (sa_cons (se_str) (sa_cons (se_var 2) (sa_nil)))) (sa_cons (se_tup (sa_cons (se_str) (sa_nil))) (sa_cons (se_tup (sa_nil)) (sa_cons (se_tup (sa_cons (se_str) (sa_cons (se_tup (sa_cons (se_str) (sa_nil))) (sa_nil)))) (sa_nil))))))) (sss_cons (ss_set (i := 17) (by exact nd) rfl (by first | exact Or.inl rfl | exact Or.inr rfl) (se_op op_addU d_addU (se_call G__law_flat (hr.mono (by first | decide | omega)) tk (by rfl) (sa_cons (se_lc (own := [(("way" : Str), 22)]) (by rfl) (by exact nd) (si_range1 (by rfl) T.b_range (sa_cons (se_int) (sa_nil))) (blkOk_by (by rfl)) (by decide) (fun _ _ _ _ _ => sg_name (i := 22) (by exact nd) rfl (by first | exact Or.inl rfl | exact Or.inr rfl)) (fun _ _ _ _ _ => sts_nil) (fun _ _ _ _ _ => se_lc (own := [(("some" : Str), 6)]) (by rfl) (by exact nd) (si_seq (se_lst (sa_cons (se_int) (sa_cons (se_int) (sa_nil))))) (blkOk_by (by rfl)) (by decide) (fun _ _ _ _ _ => sg_name (i := 6) (by exact nd) rfl (by first | exact Or.inl rfl | exact Or.inr rfl)) (fun _ _ _ _ _ => sts_nil) (fun _ _ _ _ _ => se_call G__law_asked (hr.mono (by first | decide | omega)) takes0N (by rfl) (sa_cons (se_var 22) (sa_cons (se_var 6) (sa_cons (se_tup (sa_cons (se_str) (sa_nil))) (sa_cons (se_tup (sa_cons (se_tup (sa_nil)) (sa_cons (se_tup (sa_nil)) (sa_nil)))) (sa_nil)))))))) (sa_nil))) (se_lc (own := [(("some" : Str), 6)]) (by rfl) (by exact nd) (si_seq (se_lst (sa_cons (se_int) (sa_cons (se_int) (sa_nil))))) (blkOk_by (by rfl)) (by decide) (fun _ _ _ _ _ => sg_name (i := 6) (by exact nd) rfl (by first | exact Or.inl rfl | exact Or.inr rfl)) (fun _ _ _ _ _ => sts_nil) (fun _ _ _ _ _ => se_call G__law_asked (hr.mono (by first | decide | omega)) takes0N (by rfl) (sa_cons (se_int) (sa_cons (se_var 6) (sa_cons (se_non) (sa_cons (se_tup (sa_cons (se_tup (sa_nil)) (sa_cons (se_tup (sa_cons (se_int) (sa_nil))) (sa_nil)))) (sa_nil))))))))) (sss_cons (ss_set (i := 18) (by exact nd) rfl (by first | exact Or.inl rfl | exact Or.inr rfl) (se_call G__law_flat (hr.mono (by first | decide | omega)) tk (by rfl) (sa_cons (se_lc (own := [(("way" : Str), 22)]) (by rfl) (by exact nd) (si_range1 (by rfl) T.b_range (sa_cons (se_int) (sa_nil))) (blkOk_by (by rfl)) (by decide) (fun _ _ _ _ _ => sg_name (i := 22) (by exact nd) rfl (by first | exact Or.inl rfl | exact Or.inr rfl)) (fun _ _ _ _ _ => sts_nil) (fun _ _ _ _ _ => se_lc (own := [(("some" : Str), 6)]) (by rfl) (by exact nd) (si_seq (se_var 16)) (blkOk_by (by rfl)) (by decide) (fun _ _ _ _ _ => sg_name (i := 6) (by exact nd) rfl (by first | exact Or.inl rfl | exact Or.inr rfl)) (fun _ _ _ _ _ => sts_nil) (fun _ _ _ _ _ => se_call G__law_asked (hr.mono (by first | decide | omega)) takes0N (by rfl) (sa_cons (se_var 22) (sa_cons (se_var 2) (sa_cons (se_var 6) (sa_cons (se_tup (sa_cons (se_tup (sa_nil)) (sa_cons (se_tup (sa_nil)) (sa_nil)))) (sa_nil)))))))) (sa_nil)))) (sss_cons (ss_set (i := 19) (by exact nd) rfl (by first | exact Or.inl rfl | exact Or.inr rfl) (se_call G__law_flat (hr.mono (by first | decide | omega)) tk (by rfl) (sa_cons (se_lc (own := [(("way" : Str), 22)]) (by rfl) (by exact nd) (si_range1 (by rfl) T.b_range (sa_cons (se_int) (sa_nil))) (blkOk_by (by rfl)) (by decide) (fun _ _ _ _ _ => sg_name (i := 22) (by exact nd) rfl (by first | exact Or.inl rfl | exact Or.inr rfl)) (fun _ _ _ _ _ => sts_nil) (fun _ _ _ _ _ => se_lc (own := [(("some" : Str), 6)]) (by rfl) (by exact nd) (si_seq (se_var 15)) (blkOk_by (by rfl)) (by decide) (fun _ _ _ _ _ => sg_name (i := 6) (by exact nd) rfl (by first | exact Or.inl rfl | exact Or.inr rfl)) (fun _ _ _ _ _ => sts_nil) (fun _ _ _ _ _ => se_call G__law_asked (hr.mono (by first | decide | omega)) takes0N (by rfl) (sa_cons (se_var 22) (sa_cons (se_var 2) (sa_cons (se_tup (sa_cons (se_str) (sa_nil))) (sa_cons (se_var 6) (sa_nil)))))))) (sa_nil)))) (sss_cons (ss_if (st_cmp (op_neD (hu_of64 hr)) d_ne (se_lc (own := [(("some" : Str), 6)]) (by rfl) (by exact nd) (si_seq (se_var 15)) (blkOk_by (by rfl)) (by decide) (fun _ _ _ _ _ => sg_name (i := 6) (by exact nd) rfl (by first | exact Or.inl rfl | exact Or.inr rfl)) (fun _ _ _ _ _ => sts_nil) (fun _ _ _ _ _ => se_call G__law_asked (hr.mono (by first | decide | omega)) takes0N (by rfl) (sa_cons (se_int) (sa_cons (se_var 2) (sa_cons (se_non) (sa_cons (se_var 6) (sa_nil))))))) (se_op op_mulT d_mulT (se_lst (sa_cons (se_bl) (sa_nil))) (se_int)) (nomark _)) (sss_one (ss_ret (se_bl))) (sss_nil)) (sss_one (ss_ret (se_and (se_call0 G__law_long_holds (hr.mono (by first | decide | omega)) tk (by rfl)) (se_and (se_cmp (op_eqD (hu_of64 hr)) d_eq (se_var 17) (se_op op_mulT d_mulT (se_lst (sa_cons (se_str) (sa_nil))) (se_int)) (nomark _)) (se_and (se_cmp (op_eqD (hu_of64 hr)) d_eq (se_var 18) (se_op op_mulT d_mulT (se_lst (sa_cons (se_str) (sa_nil))) (se_int)) (nomark _)) (se_one (se_cmp (op_eqD (hu_of64 hr)) d_eq (se_var 19) (se_op op_mulT d_mulT (se_lst (sa_cons (se_str) (sa_nil))) (se_int)) (nomark _))))))))))))))))))))))))
end
end K01
end Sm

set_option Elab.async false
set_option linter.all false
set_option maxRecDepth 100000
set_option maxHeartbeats 4000000
/-! k01: the plain reading, words. -/
namespace Sm
namespace K01
open PySem PySem.Spec L2
abbrev dI (i : Int) : D := .raw (.int i)
abbrev dB (b : Bool) : D := .raw (.bl b)
abbrev tI (xs : List Int) : D := .tup (xs.map dI)
abbrev lB (bs : List Bool) : D := .lst (bs.map dB)
abbrev wD (a t : List Int) : D := .tup [tI a, tI t]
@[simp] theorem cloL_ints : ∀ xs : List Int, cloL (xs.map dI) = true
  | [] => rfl
  | _ :: xs => by simp [cloL, clo, cloL_ints xs]
@[simp] theorem cloL_bools : ∀ xs : List Bool, cloL (xs.map dB) = true
  | [] => rfl
  | _ :: xs => by simp [cloL, clo, cloL_bools xs]
@[simp] theorem clo_tI (xs : List Int) : clo (tI xs) = true := by simp [clo]
@[simp] theorem clo_lB (xs : List Bool) : clo (lB xs) = true := by simp [clo]
@[simp] theorem clo_wD (a t : List Int) : clo (wD a t) = true := by simp [clo, cloL]
@[simp] theorem clo_raw (v : V) : clo (.raw v) = true := rfl
@[simp] theorem cloL_nil : cloL [] = true := rfl
@[simp] theorem cloL_cons' (d : D) (ds : List D) : cloL (d :: ds) = (clo d && cloL ds) := rfl
variable (g : Gl0)
theorem v_check_bits (b : Int) : mf_check_bits g [dI b] [] = if 1 ≤ b ∧ b ≤ 4 then .ok (.raw .non) [] else .ex x_BadNumber [] [] := by
  by_cases h1 : 1 ≤ b <;> by_cases h2 : b ≤ 4 <;> simp [mf_check_bits, runF, bd_check_bits, d_MOST_BITS, h1, h2]
theorem int_range {α : Type} (n : Nat) (f : Nat → α) : (List.range n).map f = (List.range n).map f := rfl
def okL (b : Int) (xs : List Int) : Bool := decide (xs.length ≤ 40) && xs.all fun x => decide (0 ≤ x) && decide (x < 2 ^ b.toNat)
theorem v_are_letters (b : Int) (xs : List Int) (h1 : 1 ≤ b) (h2 : b ≤ 4) (hl : xs.length ≤ 100) : mf_are_letters g [dI b, tI xs] [] = .ok (dB (okL b xs)) [] := by
  have hz : xs.length ≤ sizeLine := by rw [z16]; omega
  refine runF_ok rfl ?_
  have e : lc_are_letters_1 g [some (dI b), some (tI xs), none] [] = .ok (xs.map fun x => dB (decide (0 ≤ x) && decide (x < 2 ^ b.toNat))) [] := by
    refine lcF_of dI _ xs (by simp) hz fun x _ => ⟨_, rfl, rfl, ?_⟩
    have hp : cPow 1 b = true := by simp [cPow]; omega
    by_cases h0 : 0 ≤ x <;> simp [wipeF, h0, hp]
  by_cases h40 : (xs.length : Int) ≤ 40
  · have h40' : xs.length ≤ 40 := by omega
    simp [bd_are_letters, d_MOST_LETTERS, e, h40, okL, h40', all_of]
  · have h40' : ¬ xs.length ≤ 40 := by omega
    simp [bd_are_letters, d_MOST_LETTERS, h40, okL, h40']
def okW (b : Int) (a t : List Int) : Bool := okL b a && (okL b t && decide (0 < t.length))
theorem v_is_word (b : Int) (a t : List Int) (ha : a.length ≤ 100) (ht : t.length ≤ 100) : mf_is_word g [dI b, wD a t] [] = if 1 ≤ b ∧ b ≤ 4 then .ok (dB (okW b a t)) [] else .ex x_BadNumber [] [] := by
  by_cases hb : 1 ≤ b ∧ b ≤ 4
  · rw [if_pos hb]
    refine runF_ok rfl ?_
    have e1 := call_okc (mf := mf_check_bits g) (m := []) (ds := [dI b]) (by simp) (by rw [v_check_bits, if_pos hb]) (clo_raw _)
    have e2 := call_okc (m := []) (ds := [dI b, tI a]) (by simp [clo]) (v_are_letters g b a hb.1 hb.2 ha) (clo_raw _)
    have e3 := call_okc (m := []) (ds := [dI b, tI t]) (by simp [clo]) (v_are_letters g b t hb.1 hb.2 ht) (clo_raw _)
    cases q1 : okL b a <;> cases q2 : okL b t <;> simp [bd_is_word, e1, e2, e3, okW, q1, q2]
  · rw [if_neg hb]
    have e1 := call_ex (mf := mf_check_bits g) (nw := false) (m := []) (ds := [dI b]) (by simp) (by rw [v_check_bits, if_neg hb])
    simp [mf_is_word, runF, bd_is_word, e1]
theorem v_check_word (b : Int) (a t : List Int) (ha : a.length ≤ 100) (ht : t.length ≤ 100) (hb : 1 ≤ b ∧ b ≤ 4) : mf_check_word g [dI b, wD a t] [] = if okW b a t = true then .ok (.raw .non) [] else .ex x_NotWord [] [] := by
  have e1 := call_okc (mf := mf_is_word g) (m := []) (ds := [dI b, wD a t]) (by simp [clo]) (by rw [v_is_word g b a t ha ht, if_pos hb]) (clo_raw _)
  cases q : okW b a t <;> simp [mf_check_word, runF, bd_check_word, e1, q]
/-- the letter at a place -/
def lt (a t : List Int) (n : Nat) : Int := if n < a.length then a.getD n 0 else t.getD ((n - a.length) % t.length) 0
theorem ix_round {t : List Int} (ht : t ≠ []) (k : Nat) : atI (t.map dI) ((k : Int) % (t.length : Int)) = some (dI (t.getD (k % t.length) 0)) := by
  rw [← Int.natCast_emod]
  have h : k % t.length < t.length := Nat.mod_lt _ (List.length_pos_iff.mpr ht)
  rw [atI_mapN h]
  simp [List.getD_eq_getElem?_getD, h]
theorem v_letter_at (a t : List Int) (ht : t ≠ []) (n : Nat) : mf_letter_at g [wD a t, dI n] [] = .ok (dI (lt a t n)) [] := by
  refine runF_ok rfl ?_
  have hl : 0 < t.length := List.length_pos_iff.mpr ht
  by_cases h : n < a.length
  · simp [bd_letter_at, h, atI_mapN h, lt]
  · have e : ((n : Int) - (a.length : Int)) % (t.length : Int) = (((n - a.length : Nat)) : Int) % (t.length : Int) := by
      rw [Int.ofNat_sub (by omega)]
    have hp : cPos ((n : Int) - (a.length : Int)) (t.length : Int) = true := by simp [cPos, hl]
    simp [bd_letter_at, h, hp, e, ix_round ht, lt]
theorem mulT_tup (ds : List D) (k : Nat) (h1 : 1 ≤ k) (h2 : k ≤ 1000) (hd : 0 < ds.length) (hl : ds.length ≤ 1000) (m : MH) : gMulT (.tup ds) (dI k) m = .ok (.tup (List.replicate k ds).flatten) m := by
  show (if (k : Int) = 1 then R.ok (D.tup ds) m else gMul (.tup ds) (.raw (.int k)) m) = _
  by_cases e : k = 1
  · subst e
    simp
  · rw [if_neg (by omega)]
    have he : ds.isEmpty = false := by cases ds with
      | nil => simp at hd
      | cons a b => rfl
    simp only [gMul]
    rw [if_pos (by simp [he]; omega)]
    simp
theorem rep_map (k : Nat) (xs : List Int) : (List.replicate k (xs.map dI)).flatten = ((List.replicate k xs).flatten).map dI := by
  rw [List.map_flatten, List.map_replicate]
@[simp] theorem eq_tI {f : Bool → Bool} (xs ys : List Int) (m : MH) : gEqB f (tI xs) (tI ys) m = .ok (dB (f (decide (xs = ys)))) m := (EqEnc.tup enc_int).eq (by decide) f xs ys m
/-- p is a round of t -/
def isR (t : List Int) (p : Nat) : Bool := decide (t.length % p = 0) && decide ((List.replicate (t.length / p) (t.take p)).flatten = t)
def sr (t : List Int) : List Int := match ((List.range t.length).map (1 + ·)).find? (isR t) with
  | some p => t.take p
  | none => t
theorem s_bo_sr (t : List Int) (ht : t.length ≤ 100) (x : Nat) (h1 : 1 ≤ x) (h2 : x ≤ t.length) :
    bo_shortest_round_1 g [some (tI t), some (dI x)] [] = if isR t x = true then .ok (.rt (tI (t.take x))) [] else .ok (.nx [some (tI t), some (dI x)]) [] := by
  have hp : cPos (t.length : Int) (x : Int) = true := by simp [cPos]; omega
  have hd : cDiv (t.length : Int) (x : Int) = true := by simp [cDiv]; omega
  have hz : ((t.length : Int) % (x : Int) = 0) ↔ t.length % x = 0 := by omega
  have hc : cutD (t.map dI) none (some (x : Int)) = (t.take x).map dI := by rw [cut_to (by simpa using h2), List.map_take]
  by_cases h0 : t.length % x = 0
  · have hk : 1 ≤ t.length / x := by
      have := Nat.div_le_div_right (c := x) h2
      rwa [Nat.div_self (by omega)] at this
    have hk2 : t.length / x ≤ 1000 := Nat.le_trans (Nat.div_le_self _ _) (by omega)
    have hm := mulT_tup ((t.take x).map dI) (t.length / x) hk hk2 (by rw [List.length_map, List.length_take]; omega) (by rw [List.length_map, List.length_take]; omega) []
    rw [rep_map] at hm
    rw [Int.natCast_ediv] at hm
    have hi : isR t x = decide ((List.replicate (t.length / x) (t.take x)).flatten = t) := by simp [isR, h0]
    rw [hi]
    generalize (List.replicate (t.length / x) (t.take x)).flatten = fl at hm
    by_cases hq : fl = t <;> simp [-List.map_take, bo_shortest_round_1, hp, hd, hz, h0, hc, hm, hq]
  · simp [bo_shortest_round_1, hp, hz, h0, isR]
theorem s_lp_sr (t : List Int) (ht : t.length ≤ 100) : ∃ o, lp_shortest_round_1 g [some (tI t), none] [] = (((List.range t.length).map (1 + ·)).find? (isR t)).elim (.ok (.nx [some (tI t), o]) []) fun x => .ok (.rt (tI (t.take x))) [] := by
  have hf := forL_find (G := gN 1) (i := 1) (δ := [some (tI t), none]) (m := []) (B := bo_shortest_round_1 g)
    (fun i : Nat => dI i) (isR t) (fun p => tI (t.take p)) (fun _ _ => rfl) ((List.range t.length).map (1 + ·)) (fun x hx o => by
      obtain ⟨y, hy, rfl⟩ := List.mem_map.mp hx
      have hy := List.mem_range.mp hy
      exact s_bo_sr g t ht (1 + y) (by omega) (by omega)) none
  simp only [List.set_cons_succ, List.set_cons_zero] at hf
  refine ⟨_, Eq.trans ?_ hf⟩
  have e1 : aCons (eC (.raw (.int 1))) (aCons (e2 gAdd (eA gLen (aCons (eVar 0) (aNil))) (eC (.raw (.int 1)))) (aNil)) [some (tI t), none] [] = .ok [dI (1 : Nat), dI (t.length + 1 : Nat)] [] := by simp
  unfold lp_shortest_round_1
  rw [q_for, q_iA, e1, bnd_ok, r2_nat (by omega) (by omega), bnd_ok]
  rfl
theorem v_shortest_round (t : List Int) (ht : t.length ≤ 100) : mf_shortest_round g [tI t] [] = .ok (tI (sr t)) [] := by
  refine runF_ok rfl ?_
  obtain ⟨o, e⟩ := s_lp_sr g t ht
  cases q : ((List.range t.length).map (1 + ·)).find? (isR t) with
  | some p =>
    rw [q] at e
    have e1 : sr t = t.take p := by unfold sr; rw [q]
    simp [-List.map_take, bd_shortest_round, e, e1]
  | none =>
    rw [q] at e
    have e1 : sr t = t := by unfold sr; rw [q]
    simp [bd_shortest_round, e, e1]
/-! plain words -/
def rot (t : List Int) : List Int := match t.getLast? with
  | some y => y :: t.dropLast
  | none => []
def pwGo : Nat → List Int → List Int → List Int × List Int
  | 0, a, t => (a, t)
  | n + 1, a, t => if a ≠ [] ∧ a.getLast? = t.getLast? then pwGo n a.dropLast (rot t) else (a, t)
def pw (a t : List Int) : List Int × List Int := pwGo a.length a (sr t)
theorem atI_lastI {a : List Int} (h : a ≠ []) : atI (a.map dI) (-1) = some (dI (a.getLast h)) := by
  rw [atI_last (by simpa using h), List.getLast_map]
theorem cut_butI (a : List Int) : cutD (a.map dI) none (some (-1)) = a.dropLast.map dI := by rw [cut_butlast, List.map_dropLast]
theorem rot_eq {t : List Int} (h : t ≠ []) : rot t = t.getLast h :: t.dropLast := by
  unfold rot
  rw [List.getLast?_eq_some_getLast h]
theorem rot_len {t : List Int} (h : t ≠ []) : (rot t).length = t.length := by
  rw [rot_eq h]
  have := List.length_pos_iff.mpr h
  simp
  omega
theorem s_bo_pw (o : Option D) (a t : List Int) (ha : a ≠ []) (ht : t ≠ []) (hl : t.length ≤ 100) : bo_plain_word_1 g [o, some (tI a), some (tI t)] [] = .ok (.nx [o, some (tI a.dropLast), some (tI (rot t))]) [] := by
  have hz : t.length - 1 + 1 ≤ sizeLine := by rw [z16]; omega
  rw [rot_eq ht]
  simp [-List.map_dropLast, bo_plain_word_1, atI_lastI ht, cut_butI, seqOf, hz]
theorem s_t_pw (o : Option D) (a t : List Int) (ht : t ≠ []) : (bAnd (bTru (eVar 1)) (bVal (e2 gEq (e2 gIx (eVar 1) (e1 gNeg (eC (.raw (.int 1))))) (e2 gIx (eVar 2) (e1 gNeg (eC (.raw (.int 1)))))))) [o, some (tI a), some (tI t)] [] = .ok (decide (a ≠ [] ∧ a.getLast? = t.getLast?)) [] := by
  by_cases ha : a = []
  · subst ha
    simp
  · have e : (a.getLast? = t.getLast?) ↔ a.getLast ha = t.getLast ht := by
      rw [List.getLast?_eq_some_getLast ha, List.getLast?_eq_some_getLast ht]
      simp
    simp [atI_lastI ha, atI_lastI ht, e, ha]
theorem s_lp_pw (o : Option D) : ∀ (n fuel : Nat) (a t : List Int), a.length ≤ n → n < fuel → t ≠ [] → t.length ≤ 100 →
    whl (bAnd (bTru (eVar 1)) (bVal (e2 gEq (e2 gIx (eVar 1) (e1 gNeg (eC (.raw (.int 1))))) (e2 gIx (eVar 2) (e1 gNeg (eC (.raw (.int 1)))))))) (bo_plain_word_1 g) fuel [o, some (tI a), some (tI t)] [] =
      .ok (.nx [o, some (tI (pwGo n a t).1), some (tI (pwGo n a t).2)]) []
  | n, 0, a, t, _, h, _, _ => absurd h (Nat.not_lt_zero n)
  | 0, fuel + 1, a, t, h, _, ht, _ => by
    have ha : a = [] := List.eq_nil_of_length_eq_zero (by omega)
    unfold whl
    rw [s_t_pw o a t ht, bnd_ok]
    subst ha
    simp [pwGo]
  | n + 1, fuel + 1, a, t, h, hf, ht, hl => by
    unfold whl
    rw [s_t_pw o a t ht, bnd_ok]
    unfold pwGo
    by_cases hc : a ≠ [] ∧ a.getLast? = t.getLast?
    · rw [decide_eq_true hc, if_pos rfl, if_pos hc, s_bo_pw g o a t hc.1 ht hl, bnd_ok]
      show whl _ _ fuel _ [] = _
      have hr : rot t ≠ [] := by
        rw [rot_eq ht]
        simp
      exact s_lp_pw o n fuel a.dropLast (rot t) (by rw [List.length_dropLast]; omega) (by omega) hr (by rw [rot_len ht]; exact hl)
    · rw [decide_eq_false hc, if_neg (by simp), if_neg hc]
theorem sr_ne {t : List Int} (ht : t ≠ []) : sr t ≠ [] ∧ (sr t).length ≤ t.length := by
  unfold sr
  cases q : ((List.range t.length).map (1 + ·)).find? (isR t) with
  | none => exact ⟨ht, Nat.le_refl _⟩
  | some p =>
    obtain ⟨y, hy, rfl⟩ := List.mem_map.mp (List.mem_of_find?_eq_some q)
    have := List.length_pos_iff.mpr ht
    refine ⟨fun e => ?_, by simp [List.length_take]; omega⟩
    have h1 := congrArg List.length e
    rw [List.length_take, List.length_nil] at h1
    omega
theorem v_plain_word (a t : List Int) (ha : a.length ≤ 100) (ht : t ≠ []) (hl : t.length ≤ 100) : mf_plain_word g [wD a t] [] = .ok (wD (pw a t).1 (pw a t).2) [] := by
  refine runF_ok rfl ?_
  have e1 := call_okc (m := []) (ds := [tI t]) (by simp) (v_shortest_round g t hl) (clo_tI _)
  have h2 := sr_ne ht
  have e2 := s_lp_pw g (some (wD a t)) a.length 1000 a (sr t) (Nat.le_refl _) (by omega) h2.1 (Nat.le_trans h2.2 hl)
  have e3 : lp_plain_word_1 g [some (wD a t), some (tI a), some (tI (sr t))] [] = .ok (.nx [some (wD a t), some (tI (pw a t).1), some (tI (pw a t).2)]) [] := e2
  have hz : 2 ≤ sizeLine := by rw [z16]; omega
  have i0 : atI [tI a, tI t] 0 = some (tI a) := rfl
  have i1 : atI [tI a, tI t] 1 = some (tI t) := rfl
  simp [bd_plain_word, i0, i1, e1, e3, hz]
theorem enc_word : EqEnc (fun q : List Int × List Int => wD q.1 q.2) 2 := EqEnc.pair (EqEnc.tup enc_int) (EqEnc.tup enc_int)
@[simp] theorem eq_wD {f : Bool → Bool} (a t b u : List Int) (m : MH) : gEqB f (wD a t) (wD b u) m = .ok (dB (f (decide ((a, t) = (b, u))))) m := enc_word.eq (by decide) f (a, t) (b, u) m
theorem v_same_words (a t b u : List Int) (ha : a.length ≤ 100) (ht : t ≠ []) (hl : t.length ≤ 100) (hb : b.length ≤ 100) (hu : u ≠ []) (hm : u.length ≤ 100) : mf_same_words g [wD a t, wD b u] [] = .ok (dB (decide (pw a t = pw b u))) [] := by
  refine runF_ok rfl ?_
  have e1 := call_okc (m := []) (ds := [wD a t]) (by simp) (v_plain_word g a t ha ht hl) (clo_wD _ _)
  have e2 := call_okc (m := []) (ds := [wD b u]) (by simp) (v_plain_word g b u hb hu hm) (clo_wD _ _)
  have e3 := eq_wD (f := id) (pw a t).1 (pw a t).2 (pw b u).1 (pw b u).2 []
  simp only [bd_same_words, q_ret, q_2, q_call, q_cons, q_var, q_nil, List.map_cons, List.map_nil, List.cons_append, List.nil_append, List.length_cons, List.length_nil, List.getElem?_cons_zero, List.getElem?_cons_succ, bnd_ok, e1, e2, e3, id]
/-- the word behind n letters -/
def tu (a t : List Int) (n : Nat) : List Int × List Int := if n ≤ a.length then pw (a.drop n) t else pw [] (t.drop ((n - a.length) % t.length) ++ t.take ((n - a.length) % t.length))
theorem v_turned_on (a t : List Int) (n : Nat) (ha : a.length ≤ 100) (ht : t ≠ []) (hl : t.length ≤ 100) : mf_turned_on g [wD a t, dI n] [] = .ok (wD (tu a t n).1 (tu a t n).2) [] := by
  refine runF_ok rfl ?_
  have hz : 2 ≤ sizeLine := by rw [z16]; omega
  have hz0 : 0 ≤ sizeLine := Nat.zero_le _
  by_cases h : n ≤ a.length
  · have e1 := call_okc (m := []) (ds := [wD (a.drop n) t]) (by simp) (v_plain_word g (a.drop n) t (by rw [List.length_drop]; omega) ht hl) (clo_wD _ _)
    have hc : cutD (a.map dI) (some (n : Int)) none = (a.drop n).map dI := by rw [cut_from (by simpa using h), List.map_drop]
    have e2 : tu a t n = pw (a.drop n) t := if_pos h
    rw [e2]
    simp [-List.map_drop, bd_turned_on, h, hc, e1, hz]
  · have hl0 : 0 < t.length := List.length_pos_iff.mpr ht
    generalize hs : (n - a.length) % t.length = sp
    have hsp : sp < t.length := by rw [← hs]; exact Nat.mod_lt _ hl0
    have e : ((n : Int) - (a.length : Int)) % (t.length : Int) = (sp : Int) := by
      rw [← hs, Int.natCast_emod, Int.ofNat_sub (by omega)]
    have hp : cPos ((n : Int) - (a.length : Int)) (t.length : Int) = true := by simp [cPos, hl0]
    have hn : t.drop sp ++ t.take sp ≠ [] := fun z => by
      have := congrArg List.length z
      simp at this
      omega
    have hlen : (t.drop sp ++ t.take sp).length = t.length := by simp; omega
    have e1 := call_okc (m := []) (ds := [wD [] (t.drop sp ++ t.take sp)]) (by simp) (v_plain_word g [] (t.drop sp ++ t.take sp) (by simp) hn (by rw [hlen]; exact hl)) (clo_wD _ _)
    have c1 : cutD (t.map dI) (some (sp : Int)) none = (t.drop sp).map dI := by rw [cut_from (by simp; omega), List.map_drop]
    have c2 : cutD (t.map dI) none (some (sp : Int)) = (t.take sp).map dI := by rw [cut_to (by simp; omega), List.map_take]
    have e2 : tu a t n = pw [] (t.drop sp ++ t.take sp) := by rw [← hs]; exact if_neg h
    have hz3 : (t.drop sp).length + (t.take sp).length ≤ sizeLine := by rw [z16]; simp; omega
    have e3 : ((t.drop sp).map dI ++ (t.take sp).map dI) = (t.drop sp ++ t.take sp).map dI := by rw [List.map_append]
    have e1' : callM false (mf_plain_word g) [.tup [.tup [], .tup ((t.drop sp).map dI ++ (t.take sp).map dI)]] [] = .ok (wD (pw [] (t.drop sp ++ t.take sp)).1 (pw [] (t.drop sp ++ t.take sp)).2) [] := by rw [e3]; exact e1
    rw [e2]
    simp [-List.map_drop, -List.map_take, -List.length_drop, -List.length_take, bd_turned_on, h, hp, e, c1, c2, seqOf, hz, hz3, e1']
end K01
end Sm

set_option Elab.async false
set_option linter.all false
set_option maxRecDepth 100000
set_option maxHeartbeats 4000000
/-! k01: the plain reading, sentences. -/
namespace Sm
namespace K01
open PySem PySem.Spec L2
abbrev dS (x : String) : D := .raw (.str (Str.ofString x))
inductive Bi where
  | and | or | until | release
  deriving DecidableEq
def Bi.nm : Bi → String
  | .and => "and"
  | .or => "or"
  | .until => "until"
  | .release => "release"
def Bi.dual : Bi → Bi
  | .and => .or
  | .or => .and
  | .until => .release
  | .release => .until
inductive S where
  | yes
  | bit (n : Int)
  | not (s : S)
  | next (s : S)
  | bi (k : Bi) (s u : S)
  deriving DecidableEq
def sD : S → D
  | .yes => .tup [dS "yes"]
  | .bit n => .tup [dS "bit", dI n]
  | .not s => .tup [dS "not", sD s]
  | .next s => .tup [dS "next", sD s]
  | .bi k s u => .tup [dS k.nm, sD s, sD u]
@[simp] theorem clo_sD : ∀ s : S, clo (sD s) = true
  | .yes => rfl
  | .bit _ => rfl
  | .not s => by simp [sD, clo, clo_sD s]
  | .next s => by simp [sD, clo, clo_sD s]
  | .bi _ s u => by simp [sD, clo, clo_sD s, clo_sD u]
def ht : S → Nat
  | .yes => 0
  | .bit _ => 0
  | .not s => ht s + 1
  | .next s => ht s + 1
  | .bi _ s u => max (ht s) (ht u) + 1
mutual
def opp : S → S
  | .yes => .not .yes
  | .bit n => .not (.bit n)
  | .not s => inw s
  | .next s => .next (opp s)
  | .bi k s u => .bi k.dual (opp s) (opp u)
def inw : S → S
  | .yes => .yes
  | .bit n => .bit n
  | .not s => opp s
  | .next s => .next (inw s)
  | .bi k s u => .bi k (inw s) (inw u)
end
variable (g : Gl0)
theorem z2 : 2 ≤ sizeLine := by rw [z16]; omega
theorem z3 : 3 ≤ sizeLine := by rw [z16]; omega
theorem z1 : 1 ≤ sizeLine := by rw [z16]; omega
theorem v_opin : ∀ (n : Nat) (s : S), ht s < n → mf_opposite g n [sD s] [] = .ok (sD (opp s)) [] ∧ mf_inward g n [sD s] [] = .ok (sD (inw s)) []
  | 0, s, h => absurd h (Nat.not_lt_zero _)
  | n + 1, s, h => by
    have ih := v_opin n
    have co : ∀ s, ht s < n → ∀ m, callM false (mf_opposite g n) [sD s] m = .ok (sD (opp s)) m := fun s h m => call_okc (by simp) (ih s h).1 (clo_sD _)
    have ci : ∀ s, ht s < n → ∀ m, callM false (mf_inward g n) [sD s] m = .ok (sD (inw s)) m := fun s h m => call_okc (by simp) (ih s h).2 (clo_sD _)
    have i0 : ∀ (a : D) (l : List D), atI (a :: l) 0 = some a := fun a l => by
      have := atI_nat (xs := a :: l) (n := 0) (by simp)
      simpa using this
    have i1 : ∀ (a b : D) (l : List D), atI (a :: b :: l) 1 = some b := fun a b l => by
      have := atI_nat (xs := a :: b :: l) (n := 1) (by simp)
      simpa using this
    have i2 : ∀ (a b c : D) (l : List D), atI (a :: b :: c :: l) 2 = some c := fun a b c l => by
      have := atI_nat (xs := a :: b :: c :: l) (n := 2) (by simp)
      simpa using this
    constructor
    · refine runF_ok rfl ?_
      cases s with
      | yes => simp [bd_opposite, sD, i0, opp, d_NO]
      | bit k => simp [bd_opposite, sD, i0, opp, z2]
      | not s => simp [bd_opposite, sD, i0, i1, opp, ci s (by simp [ht] at h; omega)]
      | next s => simp [bd_opposite, sD, i0, i1, opp, co s (by simp [ht] at h; omega), z2]
      | bi k s u =>
        have h1 := co s (by simp [ht] at h; omega)
        have h2 := co u (by simp [ht] at h; omega)
        cases k <;> simp [bd_opposite, sD, i0, i1, i2, opp, h1, h2, z3, Bi.nm, Bi.dual, gIxK, t_OTHER, List.lookup]
    · refine runF_ok rfl ?_
      have yb : ∀ x : String, ∀ m : MH, gIn false (dS x) (.tup [dS "yes", dS "bit"]) m = .ok (dB (decide (x = "yes" ∨ x = "bit"))) m := fun x m => by
        have := in_strs (neg := false) (x := x) (xs := ["yes", "bit"]) (e := .tup [dS "yes", dS "bit"]) (m := m) rfl
        simpa using this
      have lc : ∀ (k : D) (ss : List S), (∀ s ∈ ss, ht s < n) → ss.length ≤ 2 → lc_inward_1 g (mf_opposite g n) (mf_inward g n) [some (.tup (k :: ss.map sD)), some k, none] [] = .ok (ss.map fun s => sD (inw s)) [] := fun k ss hs hl => by
        have hc : cutD (k :: ss.map sD) (some 1) none = ss.map sD := by
          have := cut_from (ds := k :: ss.map sD) (n := 1) (by simp)
          simpa using this
        refine lcF_of sD _ ss (by simp [hc]) (by rw [z16]; omega) fun s hs' => ⟨_, rfl, rfl, ?_⟩
        simp [wipeF, ci s (hs s hs')]
      cases s with
      | yes => simp [bd_inward, sD, i0, inw, yb, z2]
      | bit k => simp [bd_inward, sD, i0, inw, yb, z2]
      | not s => simp [bd_inward, sD, i0, i1, inw, yb, z2, co s (by simp [ht] at h; omega)]
      | next s =>
        have l1 := lc (dS "next") [s] (by simp [ht] at h; simpa using h) (by simp)
        simp only [List.map_cons, List.map_nil] at l1
        simp [bd_inward, sD, i0, i1, inw, yb, z2, l1, seqOf, lstOf]
      | bi k s u =>
        have l1 := lc (dS k.nm) [s, u] (by simp [ht] at h; simp; omega) (by simp)
        simp only [List.map_cons, List.map_nil] at l1
        have hk : ¬ (k.nm = "yes" ∨ k.nm = "bit") := by cases k <;> decide
        have hn : ¬ k.nm = "not" := by cases k <;> decide
        simp [bd_inward, sD, i0, i1, inw, yb, hk, hn, z2, z3, l1, seqOf, lstOf]
end K01
end Sm

set_option Elab.async false
set_option linter.all false
set_option maxRecDepth 100000
set_option maxHeartbeats 4000000
/-! k01: the plain reading, what holds. -/
namespace Sm
namespace K01
open PySem PySem.Spec L2
abbrev lN (xs : List Nat) : D := .lst (xs.map fun i => dI (i : Nat))
@[simp] theorem cloL_nats : ∀ xs : List Nat, cloL (xs.map fun i => dI (i : Nat)) = true
  | [] => rfl
  | _ :: xs => by simp [cloL, clo, cloL_nats xs]
@[simp] theorem clo_lN (xs : List Nat) : clo (lN xs) = true := by simp [clo]
/-- the place behind -/
def nxt (a t : List Int) (p : Nat) : Nat := if p + 1 < a.length + t.length then p + 1 else a.length
def later (a t : List Int) : List Nat := (List.range (a.length + t.length - 1)).map (· + 1) ++ [a.length]
variable (g : Gl0)
theorem v_later_of (a t : List Int) (ha : a.length ≤ 100) (hl : t.length ≤ 100) (ht : t ≠ []) : mf_later_of g [wD a t] [] = .ok (lN (later a t)) [] := by
  refine runF_ok rfl ?_
  have h0 : 0 < t.length := List.length_pos_iff.mpr ht
  have e : ((a.length : Int) + (t.length : Int) - 1) = ((a.length + t.length - 1 : Nat) : Int) := by omega
  have l1 : lc_later_of_1 g [some (wD a t), some (tI a), some (tI t), some (.raw (.int ((a.length : Int) + (t.length : Int)))), none] [] = .ok ((List.range (a.length + t.length - 1)).map fun i => dI (i + 1 : Nat)) [] := by
    refine lcF_of (fun i : Nat => dI (i : Nat)) _ (List.range (a.length + t.length - 1)) ?_ (by rw [z16, List.length_range]; omega) fun x _ => ⟨_, rfl, rfl, ?_⟩
    · rw [q_iA]
      simp only [q_cons, q_2, q_var, q_C, q_nil, bnd_ok, List.getElem?_cons_zero, List.getElem?_cons_succ, q_gI, q_cT, if_true]
      rw [e, r1_nat (by omega)]
    · simp [wipeF]
  have hz : a.length + t.length - 1 + 1 ≤ sizeLine := by rw [z16]; omega
  have e2 : (later a t).map (fun i => dI (i : Nat)) = ((List.range (a.length + t.length - 1)).map fun i => dI (i + 1 : Nat)) ++ [dI a.length] := by
    unfold later
    rw [List.map_append, List.map_map]
    rfl
  have hl2 : (((List.range (a.length + t.length - 1)).map fun i => dI (i + 1 : Nat)) ++ [dI a.length]).length ≤ sizeLine := by simpa using hz
  rw [lN, e2]
  generalize ((List.range (a.length + t.length - 1)).map fun i => dI (i + 1 : Nat)) = L at l1 hl2
  simp only [List.length_append, List.length_cons, List.length_nil] at hl2
  simp [bd_later_of, l1, seqOf, lstOf, hl2]
/-! lasting -/
theorem seq_nx {F G : SmS} {δ δ1 : Fr} {m m1 : MH} (h : F δ m = .ok (.nx δ1) m1) : sSeq F G δ m = G δ1 m1 := by rw [q_seq, h, bnd_ok]
def stp (st : Bool) (f1 f2 : List Bool) (la : List Nat) (fs : List Bool) (p : Nat) : List Bool :=
  fs.set p (if st = true then f2.getD p false && (f1.getD p false || fs.getD (la.getD p 0) false) else f2.getD p false || (f1.getD p false && fs.getD (la.getD p 0) false))
def swp (n : Nat) (st : Bool) (f1 f2 : List Bool) (la : List Nat) (fs : List Bool) : List Bool := ((List.range n).map (n - 1 - ·)).foldl (stp st f1 f2 la) fs
def lsts (n : Nat) (st : Bool) (f1 f2 : List Bool) (la : List Nat) : List Bool := (List.range (n + 1)).foldl (fun fs _ => swp n st f1 f2 la fs) (List.replicate n st)
theorem stp_len {st : Bool} {f1 f2 : List Bool} {la : List Nat} {fs : List Bool} {p : Nat} : (stp st f1 f2 la fs p).length = fs.length := by simp [stp]
theorem atI_B {xs : List Bool} {p : Nat} (h : p < xs.length) : atI (xs.map dB) (p : Int) = some (dB (xs.getD p false)) := by
  rw [atI_mapN h]
  simp [List.getD_eq_getElem?_getD, h]
theorem atI_N {xs : List Nat} {p : Nat} (h : p < xs.length) : atI (xs.map fun i => dI (i : Nat)) (p : Int) = some (dI (xs.getD p 0 : Nat)) := by
  rw [atI_mapN (f := fun i : Nat => dI i) h]
  simp [List.getD_eq_getElem?_getD, h]
theorem ix_obj {m : MH} {n : Nat} {ds : List D} {x : Int} {d : D} (h : m[n]? = some (.lst ds)) (e : atI ds x = some d) : gIx (.obj n) (.raw (.int x)) m = .ok d m := by
  have hs : seqOf m (.obj n) = some ds := by simp [seqOf, lstOf, h]
  show (match seqOf m (.obj n) with
    | some ds => match atI ds x with
      | some x => R.ok x m
      | none => .no
    | none => .no) = _
  rw [hs]
  simp only [e]
theorem ixN_nat {n p : Nat} (h : p < n) : ixN n (p : Int) = some p := by
  unfold ixN
  rw [if_pos (by omega), if_pos (by omega)]
  simp
theorem s_bo_la (n : Nat) (st : Bool) (f1 f2 fs : List Bool) (la : List Nat) (o : Option D) (p : Nat) (hp : p < n) (h1 : f1.length = n) (h2 : f2.length = n) (h3 : fs.length = n) (h4 : la.length = n) (h5 : la.getD p 0 < n) :
    bo_lasting_1 g [some (lB f1), some (lB f2), some (lN la), some (dB st), some (.obj 0), o, some (dI p)] [.lst (fs.map dB)] = .ok (.nx [some (lB f1), some (lB f2), some (lN la), some (dB st), some (.obj 0), o, some (dI p)]) [.lst ((stp st f1 f2 la fs p).map dB)] := by
  have e1 := atI_B (xs := f1) (p := p) (by omega)
  have e2 := atI_B (xs := f2) (p := p) (by omega)
  have e3 := atI_B (xs := fs) (p := la.getD p 0) (by omega)
  have e4 := atI_N (xs := la) (p := p) (by omega)
  have e5 : gIx (.obj 0) (.raw (.int (la.getD p 0 : Nat))) [.lst (fs.map dB)] = .ok (dB (fs.getD (la.getD p 0) false)) [.lst (fs.map dB)] := ix_obj rfl e3
  have e6 : ixN fs.length (p : Int) = some p := ixN_nat (by omega)
  unfold stp
  generalize f1.getD p false = x1 at *
  generalize f2.getD p false = x2 at *
  generalize fs.getD (la.getD p 0) false = x3 at *
  generalize la.getD p 0 = k at *
  cases st <;> cases x1 <;> cases x2 <;> simp [bo_lasting_1, e1, e2, e4, e5, e6, gSubT, gSetL, List.map_set]
theorem s_lp_la1 (n : Nat) (st : Bool) (f1 f2 fs : List Bool) (la : List Nat) (o o' : Option D) (hn : n ≤ 1000) (h1 : f1.length = n) (h2 : f2.length = n) (h3 : fs.length = n) (h4 : la.length = n) (h5 : ∀ p, p < n → la.getD p 0 < n) :
    ∃ o'', lp_lasting_1 g [some (lB f1), some (lB f2), some (lN la), some (dB st), some (.obj 0), o, o'] [.lst (fs.map dB)] = .ok (.nx [some (lB f1), some (lB f2), some (lN la), some (dB st), some (.obj 0), o, o'']) [.lst ((swp n st f1 f2 la fs).map dB)] := by
  have hs : iA gR3 (aCons (e2 gSub (eA gLen (aCons (eVar 2) (aNil))) (eC (.raw (.int 1)))) (aCons (e1 gNeg (eC (.raw (.int 1)))) (aCons (e1 gNeg (eC (.raw (.int 1)))) (aNil)))) [some (lB f1), some (lB f2), some (lN la), some (dB st), some (.obj 0), o, o'] [.lst (fs.map dB)] =
      .ok (((List.range n).map (n - 1 - ·)).map fun i => dI (i : Nat)) [.lst (fs.map dB)] := by
    rw [q_iA]
    simp only [q_cons, q_2, q_1, q_A, q_var, q_C, q_nil, q_neg, bnd_ok, List.getElem?_cons_zero, List.getElem?_cons_succ, q_lenL, List.length_map, q_gI, q_cT, if_true, h4]
    rw [r3_down (by omega)]
  have hf := forL_fold (G := gN 6) (B := bo_lasting_1 g) (fun i : Nat => dI i) (fun s : List Bool × Option D => [some (lB f1), some (lB f2), some (lN la), some (dB st), some (.obj 0), o, s.2]) (fun s => [.lst (s.1.map dB)])
    (fun s p => (stp st f1 f2 la s.1 p, some (dI p))) (fun s => s.1.length = n) ((List.range n).map (n - 1 - ·)) (fs, o') h3 (fun s hs p hp => by
      obtain ⟨y, hy, rfl⟩ := List.mem_map.mp hp
      have hy := List.mem_range.mp hy
      exact ⟨_, _, rfl, s_bo_la g n st f1 f2 s.1 la o (n - 1 - y) (by omega) h1 h2 hs h4 (h5 _ (by omega)), stp_len.trans hs⟩)
  have hp : ∀ (xs : List Nat) (s : List Bool × Option D), (xs.foldl (fun s p => (stp st f1 f2 la s.1 p, some (dI (p : Nat)))) s).1 = xs.foldl (stp st f1 f2 la) s.1 := fun xs => by
    induction xs with
    | nil => intro s; rfl
    | cons x xs ih => intro s; exact ih _
  unfold lp_lasting_1
  rw [q_for, hs, bnd_ok]
  rw [hp] at hf
  exact ⟨_, hf⟩
theorem swp_len {n : Nat} {st : Bool} {f1 f2 : List Bool} {la : List Nat} {fs : List Bool} : (swp n st f1 f2 la fs).length = fs.length := by
  unfold swp
  generalize (List.range n).map (n - 1 - ·) = xs
  induction xs generalizing fs with
  | nil => rfl
  | cons x xs ih => rw [List.foldl_cons, ih, stp_len]
theorem las_hm (n : Nat) (st : Bool) (f1 f2 : List Bool) (la : List Nat) (hn : n ≤ 1000) (h1 : f1.length = n) (h2 : f2.length = n) (h4 : la.length = n) (h5 : ∀ p, p < n → la.getD p 0 < n) : gMulNew (.lst [dB st]) (dI n) [] = .ok (.obj 0) [.lst ((List.replicate n st).map dB)] := by
  have hz : n ≤ sizeLine := by rw [z16]; omega
  rw [mulNew_nat (by omega) (by simpa using hz), rep_one, List.map_replicate]
  rfl

theorem las_hs (n : Nat) (st : Bool) (f1 f2 : List Bool) (la : List Nat) (hn : n ≤ 1000) (h1 : f1.length = n) (h2 : f2.length = n) (h4 : la.length = n) (h5 : ∀ p, p < n → la.getD p 0 < n) : iA gR1 (aCons (e2 gAdd (eA gLen (aCons (eVar 2) (aNil))) (eC (.raw (.int 1)))) (aNil)) [some (lB f1), some (lB f2), some (lN la), some (dB st), some (.obj 0), none, none] [.lst ((List.replicate n st).map dB)] =
      .ok ((List.range (n + 1)).map fun i => dI (i : Nat)) [.lst ((List.replicate n st).map dB)] := by
  have e1 : aCons (e2 gAdd (eA gLen (aCons (eVar 2) (aNil))) (eC (.raw (.int 1)))) (aNil) [some (lB f1), some (lB f2), some (lN la), some (dB st), some (.obj 0), none, none] [.lst ((List.replicate n st).map dB)] = .ok [dI (n + 1 : Nat)] [.lst ((List.replicate n st).map dB)] := by
    simp [h4]
  rw [q_iA, e1, bnd_ok, r1_nat (by omega)]
theorem las_hf (n : Nat) (st : Bool) (f1 f2 : List Bool) (la : List Nat) (hn : n ≤ 1000) (h1 : f1.length = n) (h2 : f2.length = n) (h4 : la.length = n) (h5 : ∀ p, p < n → la.getD p 0 < n) : ∀ (xs : List Nat) (fs : List Bool) (o o' : Option D), fs.length = n → ∃ o1 o2, forL (gN 5) (bo_lasting_2 g) (xs.map fun i => dI (i : Nat)) [some (lB f1), some (lB f2), some (lN la), some (dB st), some (.obj 0), o, o'] [.lst (fs.map dB)] =
      .ok (.nx [some (lB f1), some (lB f2), some (lN la), some (dB st), some (.obj 0), o1, o2]) [.lst ((xs.foldl (fun fs _ => swp n st f1 f2 la fs) fs).map dB)] := fun xs => by
  induction xs with
  | nil => intro fs o o' _; exact ⟨o, o', rfl⟩
  | cons x xs ih =>
    intro fs o o' hl
    obtain ⟨o2, e⟩ := s_lp_la1 g n st f1 f2 fs la (some (dI (x : Nat))) o' hn h1 h2 hl h4 h5
    obtain ⟨o3, o4, e'⟩ := ih (swp n st f1 f2 la fs) (some (dI (x : Nat))) o2 (swp_len.trans hl)
    refine ⟨o3, o4, ?_⟩
    rw [List.map_cons, List.foldl_cons, ← e']
    have e0 : bo_lasting_2 g [some (lB f1), some (lB f2), some (lN la), some (dB st), some (.obj 0), some (dI (x : Nat)), o'] [.lst (fs.map dB)] = .ok (.nx [some (lB f1), some (lB f2), some (lN la), some (dB st), some (.obj 0), some (dI (x : Nat)), o2]) [.lst ((swp n st f1 f2 la fs).map dB)] := e
    rw [forL_cons, q_gN, gAnd_ok']
    simp only [List.set_cons_succ, List.set_cons_zero]
    rw [e0, bnd_ok, aft_nx]

theorem las_lp (n : Nat) (st : Bool) (f1 f2 : List Bool) (la : List Nat) (hn : n ≤ 1000) (h1 : f1.length = n) (h2 : f2.length = n) (h4 : la.length = n) (h5 : ∀ p, p < n → la.getD p 0 < n) : ∃ o1 o2, lp_lasting_2 g [some (lB f1), some (lB f2), some (lN la), some (dB st), some (.obj 0), none, none] [.lst ((List.replicate n st).map dB)] = .ok (.nx [some (lB f1), some (lB f2), some (lN la), some (dB st), some (.obj 0), o1, o2]) [.lst ((lsts n st f1 f2 la).map dB)] := by
  have hs := las_hs n st f1 f2 la hn h1 h2 h4 h5
  obtain ⟨o1, o2, e⟩ := las_hf g n st f1 f2 la hn h1 h2 h4 h5 (List.range (n + 1)) (List.replicate n st) none none (by simp)
  refine ⟨o1, o2, ?_⟩
  unfold lp_lasting_2
  rw [q_for, hs, bnd_ok, e, lsts]
theorem las_a (n : Nat) (st : Bool) (f1 f2 : List Bool) (la : List Nat) (hn : n ≤ 1000) (h1 : f1.length = n) (h2 : f2.length = n) (h4 : la.length = n) (h5 : ∀ p, p < n → la.getD p 0 < n) : eA gLst (aCons (eVar 3) aNil) [some (lB f1), some (lB f2), some (lN la), some (dB st), none, none, none] [] = .ok (.lst [dB st]) [] := by
  have h1 : [dB st].length ≤ sizeLine := z1
  simp only [q_A, q_cons, q_var, q_nil, List.getElem?_cons_zero, List.getElem?_cons_succ, bnd_ok, q_gLst, if_pos h1]
theorem las_b (n : Nat) (st : Bool) (f1 f2 : List Bool) (la : List Nat) (hn : n ≤ 1000) (h1 : f1.length = n) (h2 : f2.length = n) (h4 : la.length = n) (h5 : ∀ p, p < n → la.getD p 0 < n) : eA gLen (aCons (eVar 2) aNil) [some (lB f1), some (lB f2), some (lN la), some (dB st), none, none, none] [] = .ok (dI n) [] := by
  simp only [q_A, q_cons, q_var, q_nil, List.getElem?_cons_zero, List.getElem?_cons_succ, bnd_ok, q_lenL, List.length_map, h4]
theorem las_c (n : Nat) (st : Bool) (f1 f2 : List Bool) (la : List Nat) (hn : n ≤ 1000) (h1 : f1.length = n) (h2 : f2.length = n) (h4 : la.length = n) (h5 : ∀ p, p < n → la.getD p 0 < n) : sAsg (e2 gMulNew (eA gLst (aCons (eVar 3) (aNil))) (eA gLen (aCons (eVar 2) (aNil)))) (gN 4) [some (lB f1), some (lB f2), some (lN la), some (dB st), none, none, none] [] = .ok (.nx [some (lB f1), some (lB f2), some (lN la), some (dB st), some (.obj 0), none, none]) [.lst ((List.replicate n st).map dB)] := by
  rw [q_asg, q_2, las_a n st f1 f2 la hn h1 h2 h4 h5, bnd_ok, las_b n st f1 f2 la hn h1 h2 h4 h5, bnd_ok, las_hm n st f1 f2 la hn h1 h2 h4 h5, bnd_ok, q_gN, gAnd_ok']
  rfl
theorem v_lasting (n : Nat) (st : Bool) (f1 f2 : List Bool) (la : List Nat) (hn : n ≤ 1000) (h1 : f1.length = n) (h2 : f2.length = n) (h4 : la.length = n) (h5 : ∀ p, p < n → la.getD p 0 < n) :
    mf_lasting g [lB f1, lB f2, lN la, dB st] [] = .ok (.obj 0) [.lst ((lsts n st f1 f2 la).map dB)] := by
  refine runF_ok rfl ?_
  obtain ⟨o1, o2, e2⟩ := las_lp g n st f1 f2 la hn h1 h2 h4 h5
  have e3 : bd_lasting g [some (lB f1), some (lB f2), some (lN la), some (dB st), none, none, none] [] = .ok (.rt (.obj 0)) [.lst ((lsts n st f1 f2 la).map dB)] := by
    unfold bd_lasting
    rw [seq_nx (las_c n st f1 f2 la hn h1 h2 h4 h5), seq_nx e2]
    simp only [q_ret, q_var, List.getElem?_cons_zero, List.getElem?_cons_succ, bnd_ok]
  exact e3
end K01
end Sm

set_option Elab.async false
set_option linter.all false
set_option maxRecDepth 100000
set_option maxHeartbeats 4000000
/-! k01: the plain reading, values at all places. -/
namespace Sm
namespace K01
open PySem PySem.Spec L2
/-- is the bit set -/
def bitOf (l : Int) (k : Int) : Bool := decide (Builtin.bitAnd (l / 2 ^ k.toNat) 1 = 1)
def vals (a t : List Int) : S → List Bool
  | .yes => List.replicate (a.length + t.length) true
  | .bit k => (List.range (a.length + t.length)).map fun p => bitOf (lt a t p) k
  | .not s => (vals a t s).map fun b => !b
  | .next s => (later a t).map fun p => (vals a t s).getD p false
  | .bi .and s u => ((vals a t s).zip (vals a t u)).map fun q => q.1 && q.2
  | .bi .or s u => ((vals a t s).zip (vals a t u)).map fun q => q.1 || q.2
  | .bi .until s u => lsts (a.length + t.length) false (vals a t s) (vals a t u) (later a t)
  | .bi .release s u => lsts (a.length + t.length) true (vals a t s) (vals a t u) (later a t)
theorem later_len {a t : List Int} (ht : t ≠ []) : (later a t).length = a.length + t.length := by
  have := List.length_pos_iff.mpr ht
  simp [later]
  omega
theorem lsts_len {n : Nat} {st : Bool} {f1 f2 : List Bool} {la : List Nat} : (lsts n st f1 f2 la).length = n := by
  unfold lsts
  have : ∀ (xs : List Nat) (fs : List Bool), (xs.foldl (fun fs _ => swp n st f1 f2 la fs) fs).length = fs.length := fun xs => by
    induction xs with
    | nil => intro fs; rfl
    | cons x xs ih => intro fs; rw [List.foldl_cons, ih, swp_len]
  rw [this, List.length_replicate]
theorem vals_len {a t : List Int} (ht : t ≠ []) : ∀ s : S, (vals a t s).length = a.length + t.length
  | .yes => by simp [vals]
  | .bit k => by simp [vals]
  | .not s => by simp [vals, vals_len ht s]
  | .next s => by simp [vals, later_len ht]
  | .bi .and s u => by simp [vals, vals_len ht s, vals_len ht u]
  | .bi .or s u => by simp [vals, vals_len ht s, vals_len ht u]
  | .bi .until s u => by simp [vals, lsts_len]
  | .bi .release s u => by simp [vals, lsts_len]
def okS (b : Int) : S → Bool
  | .yes => true
  | .bit k => decide (0 ≤ k) && decide (k < b)
  | .not s => okS b s
  | .next s => okS b s
  | .bi _ s u => okS b s && okS b u
theorem seq_rt {F G : SmS} {δ : Fr} {d : D} {m m1 : MH} (h : F δ m = .ok (.rt d) m1) : sSeq F G δ m = .ok (.rt d) m1 := by rw [q_seq, h, bnd_ok]
theorem zipD_map (xs ys : List Bool) : zipD (xs.map dB) (ys.map dB) = (xs.zip ys).map fun q => D.tup [dB q.1, dB q.2] := by
  induction xs generalizing ys with
  | nil => simp [zipD]
  | cons x xs ih => cases ys with
    | nil => simp [zipD]
    | cons y ys => simp [zipD, ih]
variable (g : Gl0)
section
variable (r : List D → MH → R D) (a t : List Int) (f1 f2 : List Bool) (d0 d1 : D) (o : Option D)
theorem lc_v1 (ha : a.length ≤ 100) (hl : t.length ≤ 100) (ht : t ≠ []) (k : Int) (hk : 0 ≤ k) : lc_values_of_1 g r [some (sD (.bit k)), some (wD a t), some (lN (later a t)), o, none, none, none, none, none, none] [] = .ok ((List.range (a.length + t.length)).map fun p => dB (bitOf (lt a t p) k)) [] := by
  have hll := later_len ht (a := a)
  have i1 : atI [dS "bit", dI k] 1 = some (dI k) := by
    have := atI_nat (xs := [dS "bit", dI k]) (n := 1) (by simp)
    simpa using this
  refine lcF_of (fun i : Nat => dI (i : Nat)) _ (List.range (a.length + t.length)) ?_ (by rw [z16, List.length_range]; omega) fun x _ => ⟨_, rfl, rfl, ?_⟩
  · have e1 : aCons (eA gLen (aCons (eVar 2) (aNil))) (aNil) [some (sD (.bit k)), some (wD a t), some (lN (later a t)), o, none, none, none, none, none, none] [] = .ok [dI (a.length + t.length : Nat)] [] := by
      simp [hll]
    rw [q_iA, e1, bnd_ok, r1_nat (by omega)]
  · have e2 := call_okc (m := []) (ds := [wD a t, dI (x : Nat)]) (by simp) (v_letter_at g a t ht x) (clo_raw _)
    have hc : cNN (lt a t x) k = true := by simp [cNN, hk]
    simp [wipeF, e2, sD, i1, hc, bitOf]
theorem lc_v2 (hz : f1.length ≤ 1000) : lc_values_of_2 g r [some d0, some d1, some (lN (later a t)), o, some (lB f1), none, none, none, none, none] [] = .ok (f1.map fun b => dB (!b)) [] := by
  refine lcF_of dB _ f1 (by simp) (by rw [z16]; omega) fun x _ => ⟨_, rfl, rfl, ?_⟩
  simp [wipeF]
theorem lc_v3 (ht : t ≠ []) (ha : a.length ≤ 100) (hl : t.length ≤ 100) (h1 : f1.length = a.length + t.length) (hb : ∀ p ∈ later a t, p < a.length + t.length) : lc_values_of_3 g r [some d0, some d1, some (lN (later a t)), o, some (lB f1), none, none, none, none, none] [] = .ok ((later a t).map fun p => dB (f1.getD p false)) [] := by
  have hll := later_len ht (a := a)
  refine lcF_of (fun i : Nat => dI (i : Nat)) _ (later a t) (by simp) (by rw [z16]; omega) fun x hx => ⟨_, rfl, rfl, ?_⟩
  simp only [wipeF, q_2, q_var, List.set_cons_succ, List.set_cons_zero, List.getElem?_cons_zero, List.getElem?_cons_succ, bnd_ok, q_ixL]
  rw [atI_B (by rw [h1]; exact hb x hx)]
theorem lc_v4 (hz : f1.length ≤ 1000) : lc_values_of_4 g r [some d0, some d1, some (lN (later a t)), o, some (lB f1), some (lB f2), none, none, none, none] [] = .ok ((f1.zip f2).map fun q => dB (q.1 && q.2)) [] := by
  refine lcF_of (fun q : Bool × Bool => D.tup [dB q.1, dB q.2]) _ (f1.zip f2) ?_ (by rw [z16, List.length_zip]; omega) fun x _ => ⟨_, rfl, rfl, ?_⟩
  · have e1 : aCons (eVar 4) (aCons (eVar 5) aNil) [some d0, some d1, some (lN (later a t)), o, some (lB f1), some (lB f2), none, none, none, none] [] = .ok [lB f1, lB f2] [] := by simp
    rw [q_iA, e1, bnd_ok]
    show R.ok (zipD (f1.map dB) (f2.map dB)) [] = _
    rw [zipD_map]
  · obtain ⟨x, y⟩ := x
    cases x <;> simp [wipeF]
theorem lc_v5 (hz : f1.length ≤ 1000) : lc_values_of_5 g r [some d0, some d1, some (lN (later a t)), o, some (lB f1), some (lB f2), none, none, none, none] [] = .ok ((f1.zip f2).map fun q => dB (q.1 || q.2)) [] := by
  refine lcF_of (fun q : Bool × Bool => D.tup [dB q.1, dB q.2]) _ (f1.zip f2) ?_ (by rw [z16, List.length_zip]; omega) fun x _ => ⟨_, rfl, rfl, ?_⟩
  · have e1 : aCons (eVar 4) (aCons (eVar 5) aNil) [some d0, some d1, some (lN (later a t)), o, some (lB f1), some (lB f2), none, none, none, none] [] = .ok [lB f1, lB f2] [] := by simp
    rw [q_iA, e1, bnd_ok]
    show R.ok (zipD (f1.map dB) (f2.map dB)) [] = _
    rw [zipD_map]
  · obtain ⟨x, y⟩ := x
    cases x <;> simp [wipeF]
end
theorem later_lt {a t : List Int} (ht : t ≠ []) : ∀ p ∈ later a t, p < a.length + t.length := fun p hp => by
  have := List.length_pos_iff.mpr ht
  unfold later at hp
  rcases List.mem_append.mp hp with h | h
  · obtain ⟨q, hq, rfl⟩ := List.mem_map.mp h
    have := List.mem_range.mp hq
    omega
  · simp at h
    omega
theorem later_get {a t : List Int} (ht : t ≠ []) (p : Nat) (hp : p < a.length + t.length) : (later a t).getD p 0 < a.length + t.length := by
  have hl := later_len ht (a := a)
  rw [List.getD_eq_getElem?_getD, List.getElem?_eq_getElem (by omega), Option.getD_some]
  exact later_lt ht _ (List.getElem_mem _)
end K01
end Sm

set_option Elab.async false
set_option linter.all false
set_option maxRecDepth 100000
set_option maxHeartbeats 4000000
/-! k01: plain laws of words. -/
namespace Sm
namespace K01
open PySem PySem.Spec L2
theorem gd {xs : List Int} {n : Nat} (h : n < xs.length) : xs.getD n 0 = xs[n] := by simp [List.getD_eq_getElem?_getD, h]
theorem gd_app {xs ys : List Int} {n : Nat} (h : n < xs.length) : (xs ++ ys).getD n 0 = xs.getD n 0 := by
  rw [List.getD_eq_getElem?_getD, List.getD_eq_getElem?_getD, List.getElem?_append_left h]
theorem gd_app2 {xs ys : List Int} {n : Nat} (h : xs.length ≤ n) : (xs ++ ys).getD n 0 = ys.getD (n - xs.length) 0 := by
  rw [List.getD_eq_getElem?_getD, List.getD_eq_getElem?_getD, List.getElem?_append_right h]
def Per (c : Nat → Int) (d : Nat) : Prop := ∀ n, c (n + d) = c n
theorem Per.mul {c : Nat → Int} {d : Nat} (h : Per c d) : ∀ k, Per c (d * k)
  | 0 => fun n => by simp
  | k + 1 => fun n => by
    have h1 := h (n + d * k)
    have h2 := Per.mul h k n
    rw [Nat.mul_succ, ← Nat.add_assoc, h1, h2]
theorem Per.gcd {c : Nat → Int} (x y : Nat) : Per c x → Per c y → Per c (Nat.gcd x y) := by
  induction x, y using Nat.gcd.induction with
  | H0 y => intro _ h; simpa using h
  | H1 x y hx ih =>
    intro h1 h2
    rw [Nat.gcd_rec]
    refine ih ?_ h1
    intro n
    have e : y % x + x * (y / x) = y := Nat.mod_add_div y x
    have e1 := h1.mul (y / x) (n + y % x)
    rw [Nat.add_assoc, e] at e1
    rw [← e1, h2]
def cy (t : List Int) (n : Nat) : Int := t.getD (n % t.length) 0
theorem cy_per (t : List Int) : Per (cy t) t.length := fun n => by simp [cy]
theorem cy_lt {t : List Int} {n : Nat} (h : n < t.length) : cy t n = t.getD n 0 := by simp [cy, Nat.mod_eq_of_lt h]
theorem cy_mod (t : List Int) (n : Nat) : cy t (n % t.length) = cy t n := by simp [cy]
theorem lt_ge {a t : List Int} {n : Nat} (h : a.length ≤ n) : lt a t n = cy t (n - a.length) := by
  unfold lt
  rw [if_neg (by omega)]
  rfl
theorem lt_lt {a t : List Int} {n : Nat} (h : n < a.length) : lt a t n = a.getD n 0 := if_pos h
theorem lt_add {a t : List Int} (n : Nat) : lt a t (a.length + n) = cy t n := by
  rw [lt_ge (by omega), Nat.add_sub_cancel_left]
theorem lt_per {a t : List Int} {n : Nat} (h : a.length ≤ n) (k : Nat) : lt a t (n + t.length * k) = lt a t n := by
  rw [lt_ge h, lt_ge (by omega), show n + t.length * k - a.length = (n - a.length) + t.length * k by omega]
  exact (cy_per t).mul k _
theorem flat_get (u : List Int) : ∀ (k n : Nat), n < k * u.length → (List.replicate k u).flatten.getD n 0 = cy u n
  | 0, n, h => by simp at h
  | k + 1, n, h => by
    rw [List.replicate_succ, List.flatten_cons]
    by_cases hn : n < u.length
    · rw [gd_app hn, cy_lt hn]
    · rw [gd_app2 (by omega), flat_get u k (n - u.length) (by rw [Nat.succ_mul] at h; omega)]
      have := cy_per u (n - u.length)
      rw [Nat.sub_add_cancel (by omega)] at this
      exact this.symm
theorem flat_len (u : List Int) (k : Nat) : (List.replicate k u).flatten.length = k * u.length := by simp
theorem ext_getD {xs ys : List Int} (hl : xs.length = ys.length) (h : ∀ n, n < xs.length → xs.getD n 0 = ys.getD n 0) : xs = ys := by
  refine List.ext_getElem hl fun n h1 h2 => ?_
  have := h n h1
  simpa [List.getD_eq_getElem?_getD, h1, h2] using this
theorem take_getD {t : List Int} {p n : Nat} (h : n < p) : (t.take p).getD n 0 = t.getD n 0 := by
  simp [List.getD_eq_getElem?_getD, List.getElem?_take, h]
theorem isR_iff {t : List Int} {p : Nat} (h0 : 0 < p) (hp : p ≤ t.length) : isR t p = true ↔ p ∣ t.length ∧ Per (cy t) p := by
  have hl : (t.take p).length = p := by rw [List.length_take]; omega
  constructor
  · intro h
    simp only [isR, Bool.and_eq_true, decide_eq_true_eq] at h
    obtain ⟨h1, h2⟩ := h
    have hd := Nat.dvd_of_mod_eq_zero h1
    refine ⟨hd, ?_⟩
    have e : ∀ n, cy t n = t.getD (n % p) 0 := fun n => by
      have hn : n % t.length < t.length := Nat.mod_lt _ (by omega)
      have := flat_get (t.take p) (t.length / p) (n % t.length) (by rw [hl, Nat.div_mul_cancel hd]; exact hn)
      rw [h2] at this
      have e2 : cy t n = t.getD (n % t.length) 0 := rfl
      rw [e2, this, cy, hl, Nat.mod_mod_of_dvd _ hd, take_getD (Nat.mod_lt _ h0)]
    intro n
    rw [e, e, Nat.add_mod_right]
  · rintro ⟨hd, hp'⟩
    simp only [isR, Bool.and_eq_true, decide_eq_true_eq]
    refine ⟨Nat.mod_eq_zero_of_dvd hd, ext_getD (by rw [flat_len, hl, Nat.div_mul_cancel hd]) fun n hn => ?_⟩
    rw [flat_len, hl, Nat.div_mul_cancel hd] at hn
    rw [flat_get _ _ _ (by rw [hl, Nat.div_mul_cancel hd]; exact hn), cy, hl, take_getD (Nat.mod_lt _ h0), ← cy_lt hn]
    have h3 := hp'.mul (n / p) (n % p)
    rw [Nat.mod_add_div] at h3
    rw [h3, cy_lt]
    exact Nat.lt_of_lt_of_le (Nat.mod_lt _ h0) hp
def Prim (t : List Int) : Prop := t ≠ [] ∧ ∀ d, 0 < d → Per (cy t) d → t.length ≤ d
theorem sr_spec {t : List Int} (ht : t ≠ []) : cy (sr t) = cy t ∧ Prim (sr t) ∧ (sr t).length ≤ t.length := by
  have hl := List.length_pos_iff.mpr ht
  have hL : isR t t.length = true := (isR_iff hl (Nat.le_refl _)).mpr ⟨Nat.dvd_refl _, cy_per t⟩
  cases q : ((List.range t.length).map (1 + ·)).find? (isR t) with
  | none =>
    have := List.find?_eq_none.mp q t.length (List.mem_map.mpr ⟨t.length - 1, List.mem_range.mpr (by omega), by omega⟩)
    exact absurd hL this
  | some p =>
    have e : sr t = t.take p := by unfold sr; rw [q]
    obtain ⟨h1, i, hi, h2, h3⟩ := List.find?_eq_some_iff_getElem.mp q
    simp only [List.length_map, List.length_range] at hi
    simp only [List.getElem_map, List.getElem_range] at h2
    have hp0 : 0 < p := by omega
    have hpl : p ≤ t.length := by omega
    obtain ⟨hd, hper⟩ := (isR_iff hp0 hpl).mp h1
    have hlp : (t.take p).length = p := by rw [List.length_take]; omega
    have hcy : cy (t.take p) = cy t := by
      funext n
      rw [cy, hlp, take_getD (Nat.mod_lt _ hp0), ← cy_lt (Nat.lt_of_lt_of_le (Nat.mod_lt _ hp0) hpl)]
      have h3 := hper.mul (n / p) (n % p)
      rw [Nat.mod_add_div] at h3
      exact h3.symm
    rw [e]
    refine ⟨hcy, ⟨fun z => ?_, fun d hd0 hdp => ?_⟩, by rw [hlp]; exact hpl⟩
    · rw [z] at hlp
      simp at hlp
      omega
    · rw [hlp]
      rw [hcy] at hdp
      refine Decidable.byContradiction fun hlt => ?_
      have hg := Per.gcd d t.length hdp (cy_per t)
      have hg0 : 0 < Nat.gcd d t.length := Nat.gcd_pos_of_pos_left _ hd0
      have hgl : Nat.gcd d t.length ≤ d := Nat.gcd_le_left _ hd0
      have hgt : Nat.gcd d t.length ≤ t.length := Nat.gcd_le_right _ hl
      have hR := (isR_iff hg0 hgt).mpr ⟨Nat.gcd_dvd_right _ _, hg⟩
      have h4 := h3 (Nat.gcd d t.length - 1) (by omega)
      simp only [List.getElem_map, List.getElem_range] at h4
      rw [show 1 + (Nat.gcd d t.length - 1) = Nat.gcd d t.length by omega, hR] at h4
      simp at h4
theorem cy_rot0 {t : List Int} (ht : t ≠ []) : cy (rot t) 0 = t.getLast ht := by
  rw [rot_eq ht]
  simp [cy]
theorem cy_last {t : List Int} (ht : t ≠ []) : cy t (t.length - 1) = t.getLast ht := by
  have := List.length_pos_iff.mpr ht
  rw [cy_lt (by omega), List.getLast_eq_getElem, gd]
theorem cy_rot {t : List Int} (ht : t ≠ []) (m : Nat) : cy (rot t) (m + 1) = cy t m := by
  have hl := List.length_pos_iff.mpr ht
  have hr := Nat.mod_lt m hl
  unfold cy
  rw [rot_len ht, rot_eq ht, Nat.add_mod]
  by_cases h1 : t.length = 1
  · obtain ⟨x, rfl⟩ := List.length_eq_one_iff.mp h1
    simp
  rw [Nat.mod_eq_of_lt (a := 1) (by omega)]
  by_cases h : m % t.length + 1 < t.length
  · rw [Nat.mod_eq_of_lt h, List.getD_cons_succ]
    rw [gd (by rw [List.length_dropLast]; omega), gd hr, List.getElem_dropLast]
  · have e : m % t.length + 1 = t.length := by omega
    rw [e, Nat.mod_self, List.getD_cons_zero, List.getLast_eq_getElem]
    have e2 : m % t.length = t.length - 1 := by omega
    rw [gd hr]
    congr 1
    exact e2.symm
theorem prim_rot {t : List Int} (h : Prim t) : Prim (rot t) := by
  refine ⟨fun z => ?_, fun d h0 hp => ?_⟩
  · rw [rot_eq h.1] at z
    simp at z
  · rw [rot_len h.1]
    refine h.2 d h0 fun n => ?_
    rw [← cy_rot h.1, ← cy_rot h.1, Nat.add_right_comm]
    exact hp (n + 1)
theorem lt_rot {a t : List Int} (ha : a ≠ []) (ht : t ≠ []) (h : a.getLast? = t.getLast?) : lt a.dropLast (rot t) = lt a t := by
  have hl := List.length_pos_iff.mpr ha
  rw [List.getLast?_eq_some_getLast ha, List.getLast?_eq_some_getLast ht, Option.some_inj] at h
  funext n
  by_cases h1 : n < a.length - 1
  · rw [lt_lt (by rw [List.length_dropLast]; exact h1), lt_lt (by omega)]
    rw [gd (by rw [List.length_dropLast]; exact h1), gd (by omega), List.getElem_dropLast]
  · rw [lt_ge (by rw [List.length_dropLast]; omega), List.length_dropLast]
    by_cases h2 : n = a.length - 1
    · subst h2
      rw [Nat.sub_self, cy_rot0 ht, ← h, lt_lt (by omega), List.getLast_eq_getElem, gd]
    · rw [show n - (a.length - 1) = (n - a.length) + 1 by omega, cy_rot ht, lt_ge (by omega)]
def Pl (a t : List Int) : Prop := Prim t ∧ (a = [] ∨ a.getLast? ≠ t.getLast?)
theorem pwGo_spec : ∀ (n : Nat) (a t : List Int), a.length ≤ n → Prim t → lt (pwGo n a t).1 (pwGo n a t).2 = lt a t ∧ Pl (pwGo n a t).1 (pwGo n a t).2 ∧ (pwGo n a t).1.length ≤ a.length ∧ (pwGo n a t).2.length = t.length
  | 0, a, t, h, hp => by
    have : a = [] := List.eq_nil_of_length_eq_zero (by omega)
    exact ⟨rfl, ⟨hp, .inl this⟩, Nat.le_refl _, rfl⟩
  | n + 1, a, t, h, hp => by
    unfold pwGo
    by_cases hc : a ≠ [] ∧ a.getLast? = t.getLast?
    · rw [if_pos hc]
      have ih := pwGo_spec n a.dropLast (rot t) (by rw [List.length_dropLast]; omega) (prim_rot hp)
      rw [lt_rot hc.1 hp.1 hc.2, List.length_dropLast, rot_len hp.1] at ih
      exact ⟨ih.1, ih.2.1, by omega, ih.2.2.2⟩
    · rw [if_neg hc]
      refine ⟨rfl, ⟨hp, ?_⟩, Nat.le_refl _, rfl⟩
      by_cases ha : a = []
      · exact .inl ha
      · exact .inr fun e => hc ⟨ha, e⟩
theorem lt_cy {a t u : List Int} (h : cy t = cy u) : lt a t = lt a u := by
  funext n
  by_cases hn : n < a.length
  · rw [lt_lt hn, lt_lt hn]
  · rw [lt_ge (by omega), lt_ge (by omega), h]
theorem pw_spec (a : List Int) {t : List Int} (ht : t ≠ []) : lt (pw a t).1 (pw a t).2 = lt a t ∧ Pl (pw a t).1 (pw a t).2 ∧ (pw a t).1.length ≤ a.length ∧ (pw a t).2.length ≤ t.length := by
  have hs := sr_spec ht
  have h := pwGo_spec a.length a (sr t) (Nat.le_refl _) hs.2.1
  unfold pw
  exact ⟨h.1.trans (lt_cy hs.1), h.2.1, h.2.2.1, by rw [h.2.2.2]; exact hs.2.2⟩
theorem uniq_len {a t b u : List Int} (h1 : Pl a t) (h2 : Pl b u) (e : lt a t = lt b u) : b.length ≤ a.length := by
  refine Decidable.byContradiction fun hlt => ?_
  have hb : b ≠ [] := fun z => by subst z; simp at hlt
  have hbl := List.length_pos_iff.mpr hb
  have hu := h2.1.1
  have hul := List.length_pos_iff.mpr hu
  have htl := List.length_pos_iff.mpr h1.1.1
  have hne : b.getLast hb ≠ u.getLast hu := fun z => by
    rcases h2.2 with h | h
    · exact hb h
    · exact h (by rw [List.getLast?_eq_some_getLast hb, List.getLast?_eq_some_getLast hu, z])
  have e1 : lt b u (b.length - 1) = b.getLast hb := by
    rw [lt_lt (by omega), List.getLast_eq_getElem, gd]
  have e2 : lt b u (b.length - 1 + u.length) = u.getLast hu := by
    rw [show b.length - 1 + u.length = b.length + (u.length - 1) by omega, lt_add, cy_last hu]
  have p1 : lt a t (b.length - 1 + t.length * u.length) = lt a t (b.length - 1) := lt_per (by omega) _
  have p2 : lt b u (b.length - 1 + u.length + u.length * (t.length - 1)) = lt b u (b.length - 1 + u.length) := lt_per (by omega) _
  have e3 : b.length - 1 + u.length + u.length * (t.length - 1) = b.length - 1 + t.length * u.length := by
    have : u.length * (t.length - 1) + u.length = u.length * t.length := by
      rw [← Nat.mul_succ]
      congr 1
      omega
    rw [Nat.mul_comm t.length]
    omega
  rw [e3, ← e, p1, e, e1, e2] at p2
  exact hne p2
theorem uniq {a t b u : List Int} (h1 : Pl a t) (h2 : Pl b u) (e : lt a t = lt b u) : a = b ∧ t = u := by
  have hl : a.length = b.length := Nat.le_antisymm (uniq_len h2 h1 e.symm) (uniq_len h1 h2 e)
  have hc : cy t = cy u := by
    funext n
    have := congrFun e (a.length + n)
    rw [lt_add, hl, lt_add] at this
    exact this
  refine ⟨ext_getD hl fun n hn => ?_, ?_⟩
  · rw [← lt_lt (t := t) hn, e, lt_lt (by omega)]
  · have l1 := h1.1.2 u.length (List.length_pos_iff.mpr h2.1.1) (hc ▸ cy_per u)
    have l2 := h2.1.2 t.length (List.length_pos_iff.mpr h1.1.1) (hc ▸ cy_per t)
    have l3 := Nat.le_antisymm l1 l2
    refine ext_getD l3 fun n hn => ?_
    rw [← cy_lt hn, hc, cy_lt (by omega)]
theorem pw_eq_iff {a t b u : List Int} (ht : t ≠ []) (hu : u ≠ []) : pw a t = pw b u ↔ lt a t = lt b u := by
  have h1 := pw_spec a ht
  have h2 := pw_spec b hu
  constructor
  · intro h
    rw [← h1.1, ← h2.1, h]
  · intro h
    have := uniq h1.2.1 h2.2.1 (by rw [h1.1, h2.1, h])
    exact Prod.ext this.1 this.2
/-- the law's own look -/
def lsw (a t b u : List Int) : Bool := (List.range 200).all fun n => decide (lt a t n = lt b u n)
theorem lsw_iff {a t b u : List Int} (ht : t ≠ []) (hu : u ≠ []) (h1 : a.length + t.length * u.length ≤ 200) (h2 : b.length + t.length * u.length ≤ 200) : lsw a t b u = true ↔ lt a t = lt b u := by
  have htl := List.length_pos_iff.mpr ht
  have hul := List.length_pos_iff.mpr hu
  constructor
  · intro h
    simp only [lsw, List.all_eq_true, List.mem_range, decide_eq_true_eq] at h
    funext n
    induction n using Nat.strongRecOn with
    | ind n ih =>
      by_cases hn : n < 200
      · exact h n hn
      · have hm : 0 < t.length * u.length := Nat.mul_pos htl hul
        have := ih (n - t.length * u.length) (by omega)
        rw [← lt_per (a := a) (t := t) (n := n - t.length * u.length) (by omega) u.length, ← lt_per (a := b) (t := u) (n := n - t.length * u.length) (by omega) t.length, Nat.mul_comm u.length, Nat.sub_add_cancel (by omega)] at this
        exact this
  · intro h
    simp [lsw, h]
theorem lsw_prim {t : List Int} (h : Prim t) (hl : t.length ≤ 90) {p : Nat} (h0 : 1 ≤ p) (hp : p < t.length) : lsw [] t [] (t.take p) = false := by
  refine Bool.eq_false_iff.mpr fun z => ?_
  simp only [lsw, List.all_eq_true, List.mem_range, decide_eq_true_eq] at z
  have hlp : (t.take p).length = p := by rw [List.length_take]; omega
  have e : ∀ n, n < 200 → cy t n = cy (t.take p) n := fun n hn => by
    have := z n hn
    rw [lt_ge (by simp), lt_ge (by simp)] at this
    simpa using this
  have : Per (cy t) p := fun n => by
    have hn : n % t.length < t.length := Nat.mod_lt _ (by omega)
    have e1 : cy t (n + p) = cy t (n % t.length + p) := by
      rw [← cy_mod t (n + p), ← Nat.mod_add_mod, cy_mod]
    have e3 := cy_per (t.take p) (n % t.length)
    rw [hlp] at e3
    rw [e1, e _ (by omega), e3, ← e _ (by omega), cy_mod]
  have := h.2 p (by omega) this
  omega
theorem cy_turn (t : List Int) (sp : Nat) (hs : sp < t.length) (k : Nat) : cy (t.drop sp ++ t.take sp) k = cy t (sp + k) := by
  have hl : (t.drop sp ++ t.take sp).length = t.length := by simp; omega
  have hk : k % t.length < t.length := Nat.mod_lt _ (by omega)
  rw [cy, hl, ← cy_mod t (sp + k), ← Nat.add_mod_mod, cy_mod]
  generalize k % t.length = r at *
  by_cases h : r < t.length - sp
  · rw [gd_app (by rw [List.length_drop]; omega), cy_lt (by omega)]
    simp [List.getD_eq_getElem?_getD, List.getElem?_drop]
  · rw [gd_app2 (by rw [List.length_drop]; omega), List.length_drop, take_getD (by omega)]
    have := cy_per t (sp + r - t.length)
    rw [Nat.sub_add_cancel (by omega)] at this
    rw [this, cy_lt (by omega)]
    congr 1
    omega
theorem tu_spec (a : List Int) {t : List Int} (ht : t ≠ []) (n : Nat) : (∀ k, lt (tu a t n).1 (tu a t n).2 k = lt a t (n + k)) ∧ Pl (tu a t n).1 (tu a t n).2 ∧ (tu a t n).1.length ≤ a.length ∧ (tu a t n).2.length ≤ t.length := by
  have hl := List.length_pos_iff.mpr ht
  unfold tu
  by_cases h : n ≤ a.length
  · rw [if_pos h]
    have hs := pw_spec (a.drop n) ht
    refine ⟨fun k => ?_, hs.2.1, Nat.le_trans hs.2.2.1 (by rw [List.length_drop]; omega), hs.2.2.2⟩
    rw [hs.1]
    by_cases hk : k < (a.drop n).length
    · rw [lt_lt hk, lt_lt (by rw [List.length_drop] at hk; omega)]
      simp [List.getD_eq_getElem?_getD, List.getElem?_drop]
    · rw [List.length_drop] at hk
      rw [lt_ge (by rw [List.length_drop]; omega), lt_ge (by omega), List.length_drop]
      congr 1
      omega
  · rw [if_neg h]
    have hsp := Nat.mod_lt (n - a.length) hl
    have hn : t.drop ((n - a.length) % t.length) ++ t.take ((n - a.length) % t.length) ≠ [] := fun z => by
      have := congrArg List.length z
      simp at this
      omega
    have hs := pw_spec [] hn
    refine ⟨fun k => ?_, hs.2.1, Nat.le_trans hs.2.2.1 (by simp), Nat.le_trans hs.2.2.2 (by simp; omega)⟩
    rw [hs.1, lt_ge (by simp), lt_ge (by omega), List.length_nil, Nat.sub_zero, cy_turn t _ hsp, ← cy_mod t ((n - a.length) % t.length + k), Nat.mod_add_mod, cy_mod]
    congr 1
    omega
end K01
end Sm

set_option Elab.async false
set_option linter.all false
set_option maxRecDepth 100000
set_option maxHeartbeats 4000000
/-! k01: what sentences say of endless words. -/
namespace Sm
namespace K01
open PySem PySem.Spec L2
def sat (w : Nat → Int) : S → Nat → Prop
  | .yes, _ => True
  | .bit k, n => bitOf (w n) k = true
  | .not s, n => ¬ sat w s n
  | .next s, n => sat w s (n + 1)
  | .bi .and s u, n => sat w s n ∧ sat w u n
  | .bi .or s u, n => sat w s n ∨ sat w u n
  | .bi .until s u, n => ∃ i, sat w u (n + i) ∧ ∀ j, j < i → sat w s (n + j)
  | .bi .release s u, n => ¬ ∃ i, ¬ sat w u (n + i) ∧ ∀ j, j < i → ¬ sat w s (n + j)
theorem sat_shift {w v : Nat → Int} {x y : Nat} (h : ∀ n, w (x + n) = v (y + n)) : ∀ (s : S) (n : Nat), sat w s (x + n) ↔ sat v s (y + n)
  | .yes, n => Iff.rfl
  | .bit k, n => by simp only [sat, h]
  | .not s, n => not_congr (sat_shift h s n)
  | .next s, n => sat_shift h s (n + 1)
  | .bi .and s u, n => and_congr (sat_shift h s n) (sat_shift h u n)
  | .bi .or s u, n => or_congr (sat_shift h s n) (sat_shift h u n)
  | .bi .until s u, n => by
    simp only [sat, Nat.add_assoc]
    exact exists_congr fun i => and_congr (sat_shift h u (n + i)) (forall_congr' fun j => imp_congr_right fun _ => sat_shift h s (n + j))
  | .bi .release s u, n => by
    simp only [sat, Nat.add_assoc]
    exact not_congr (exists_congr fun i => and_congr (not_congr (sat_shift h u (n + i))) (forall_congr' fun j => imp_congr_right fun _ => not_congr (sat_shift h s (n + j))))
theorem sat_oi {w : Nat → Int} : ∀ (s : S) (n : Nat), (sat w (opp s) n ↔ ¬ sat w s n) ∧ (sat w (inw s) n ↔ sat w s n)
  | .yes, n => by simp [opp, inw, sat]
  | .bit k, n => by simp [opp, inw, sat]
  | .not s, n => by
    have ih := sat_oi (w := w) s n
    simp only [opp, inw, sat]
    exact ⟨by rw [ih.2]; exact Classical.not_not.symm, ih.1⟩
  | .next s, n => sat_oi (w := w) s (n + 1)
  | .bi k s u, n => by
    have h1 := fun n => (sat_oi (w := w) s n).1
    have h2 := fun n => (sat_oi (w := w) s n).2
    have h3 := fun n => (sat_oi (w := w) u n).1
    have h4 := fun n => (sat_oi (w := w) u n).2
    cases k <;> simp only [opp, inw, Bi.dual, sat, h1, h2, h3, h4, Classical.not_not, Classical.not_and_iff_not_or_not, not_or, and_self]
theorem oi_oi : ∀ s : S, opp (opp s) = inw s ∧ opp (inw s) = opp s ∧ inw (opp s) = opp s ∧ inw (inw s) = inw s
  | .yes => by simp [opp, inw]
  | .bit k => by simp [opp, inw]
  | .not s => by
    have ih := oi_oi s
    simp only [opp, inw]
    exact ⟨ih.2.1, ih.1, ih.2.2.2, ih.2.2.1⟩
  | .next s => by
    have ih := oi_oi s
    simp [opp, inw, ih]
  | .bi k s u => by
    have i1 := oi_oi s
    have i2 := oi_oi u
    cases k <;> simp [opp, inw, Bi.dual, i1, i2]
theorem okS_oi (b : Int) : ∀ s : S, okS b (opp s) = okS b s ∧ okS b (inw s) = okS b s
  | .yes => by simp [opp, inw, okS]
  | .bit k => by simp [opp, inw, okS]
  | .not s => by
    have ih := okS_oi b s
    simp only [opp, inw, okS]
    exact ⟨ih.2, ih.1⟩
  | .next s => by
    have ih := okS_oi b s
    simp [opp, inw, okS, ih]
  | .bi k s u => by
    have i1 := okS_oi b s
    have i2 := okS_oi b u
    simp [opp, inw, okS, i1, i2]
theorem ht_oi : ∀ s : S, ht (opp s) ≤ ht s + 1 ∧ ht (inw s) ≤ ht s
  | .yes => by simp [opp, inw, ht]
  | .bit k => by simp [opp, inw, ht]
  | .not s => by
    have ih := ht_oi s
    simp only [opp, inw, ht]
    omega
  | .next s => by
    have ih := ht_oi s
    simp only [opp, inw, ht]
    omega
  | .bi k s u => by
    have i1 := ht_oi s
    have i2 := ht_oi u
    simp only [opp, inw, ht]
    omega
def isIn : S → Bool
  | .yes => true
  | .bit _ => true
  | .not .yes => true
  | .not (.bit _) => true
  | .not _ => false
  | .next s => isIn s
  | .bi _ s u => isIn s && isIn u
theorem isIn_oi : ∀ s : S, isIn (opp s) = true ∧ isIn (inw s) = true
  | .yes => by simp [opp, inw, isIn]
  | .bit k => by simp [opp, inw, isIn]
  | .not s => by
    have ih := isIn_oi s
    simp only [opp, inw]
    exact ⟨ih.2, ih.1⟩
  | .next s => by
    have ih := isIn_oi s
    simp [opp, inw, isIn, ih]
  | .bi k s u => by
    have i1 := isIn_oi s
    have i2 := isIn_oi u
    simp [opp, inw, isIn, i1, i2]
/-! places -/
section
variable (a t : List Int)
def pl (n : Nat) : Nat := if n < a.length then n else a.length + (n - a.length) % t.length
end
section
variable {a t : List Int}
theorem pl_lt (ht : t ≠ []) (n : Nat) : pl a t n < a.length + t.length := by
  have := Nat.mod_lt (n - a.length) (List.length_pos_iff.mpr ht)
  unfold pl
  split <;> omega
theorem pl_id {n : Nat} (h : n < a.length + t.length) : pl a t n = n := by
  unfold pl
  split
  · rfl
  · rw [Nat.mod_eq_of_lt (by omega)]
    omega
theorem pl_back {n : Nat} (h : a.length + t.length ≤ n) : pl a t n = pl a t (n - t.length) := by
  unfold pl
  rw [if_neg (by omega), if_neg (by omega)]
  rw [show n - a.length = (n - t.length - a.length) + t.length by omega, Nat.add_mod_right]
theorem pl_nxt (ht : t ≠ []) (n : Nat) : pl a t (n + 1) = nxt a t (pl a t n) := by
  have hl := List.length_pos_iff.mpr ht
  have hm := Nat.mod_lt (n - a.length) hl
  unfold pl nxt
  by_cases h : n < a.length
  · rw [if_pos h]
    by_cases h2 : n + 1 < a.length
    · rw [if_pos h2, if_pos (by omega)]
    · rw [if_neg h2, show n + 1 - a.length = 0 by omega, Nat.zero_mod]
      split <;> omega
  · rw [if_neg h, if_neg (by omega), show n + 1 - a.length = n - a.length + 1 by omega]
    by_cases h1 : t.length = 1
    · rw [h1, Nat.mod_one, Nat.mod_one, if_neg (by omega)]
      rfl
    rw [Nat.add_mod, Nat.mod_eq_of_lt (a := 1) (by omega)]
    by_cases h2 : (n - a.length) % t.length + 1 < t.length
    · rw [Nat.mod_eq_of_lt h2, if_pos (by omega)]
      omega
    · rw [show (n - a.length) % t.length + 1 = t.length by omega, Nat.mod_self, if_neg (by omega)]
      rfl
theorem lt_pl (ht : t ≠ []) (n i : Nat) : lt a t (pl a t n + i) = lt a t (n + i) := by
  unfold pl
  split
  · rfl
  · rw [Nat.add_assoc, lt_add, lt_ge (by omega), ← cy_mod t ((n - a.length) % t.length + i), Nat.mod_add_mod, cy_mod]
    congr 1
    omega
theorem sat_pl (ht : t ≠ []) (s : S) (n : Nat) : sat (lt a t) s (pl a t n) ↔ sat (lt a t) s n := by
  have := sat_shift (w := lt a t) (v := lt a t) (x := pl a t n) (y := n) (lt_pl ht n) s 0
  simpa using this
theorem later_nxt (ht : t ≠ []) {p : Nat} (hp : p < a.length + t.length) : (later a t).getD p 0 = nxt a t p := by
  have hl := List.length_pos_iff.mpr ht
  unfold later nxt
  rw [List.getD_eq_getElem?_getD]
  by_cases h : p + 1 < a.length + t.length
  · rw [if_pos h, List.getElem?_append_left (by simp; omega)]
    simp [show p < a.length + t.length - 1 by omega]
  · rw [if_neg h, List.getElem?_append_right (by simp; omega)]
    simp [show p - (a.length + t.length - 1) = 0 by omega]
end
/-! sweeps -/
section
variable (st : Bool) (f1 f2 : List Bool) (la : List Nat)
def T (p : Nat) (v : Bool) : Bool := if st = true then f2.getD p false && (f1.getD p false || v) else f2.getD p false || (f1.getD p false && v)
def W : Nat → Nat → Bool
  | 0, _ => st
  | r + 1, p => T st f1 f2 p (W r (la.getD p 0))
end
section
variable {st : Bool} {f1 f2 : List Bool} {la : List Nat} {n : Nat}
theorem T_iff (p : Nat) (v : Bool) : T st f1 f2 p v = (!st) ↔ f2.getD p false = (!st) ∨ (f1.getD p false = (!st) ∧ v = (!st)) := by
  unfold T
  cases st <;> cases f2.getD p false <;> cases f1.getD p false <;> cases v <;> simp
theorem W_mono : ∀ (r p : Nat), W st f1 f2 la r p = (!st) → W st f1 f2 la (r + 1) p = (!st)
  | 0, p, h => by cases st <;> simp [W] at h
  | r + 1, p, h => by
    unfold W at h ⊢
    rw [T_iff] at h ⊢
    exact h.imp id fun q => ⟨q.1, W_mono r _ q.2⟩
theorem W_le {r r' p : Nat} (h : r ≤ r') (e : W st f1 f2 la r p = (!st)) : W st f1 f2 la r' p = (!st) := by
  induction h with
  | refl => exact e
  | step _ ih => exact W_mono _ _ ih
def Inv (st : Bool) (f1 f2 : List Bool) (la : List Nat) (n r : Nat) (fs : List Bool) : Prop :=
  fs.length = n ∧ ∀ q, q < n → (W st f1 f2 la r q = (!st) → fs.getD q false = (!st)) ∧ (fs.getD q false = (!st) → ∃ r', W st f1 f2 la r' q = (!st))
theorem set_get {fs : List Bool} {p q : Nat} {v : Bool} (h : p < fs.length) : (fs.set p v).getD q false = if p = q then v else fs.getD q false := by
  rw [List.getD_eq_getElem?_getD, List.getD_eq_getElem?_getD, List.getElem?_set]
  by_cases e : p = q
  · subst e
    simp [h]
  · simp [e]
theorem stp_eq {fs : List Bool} {p : Nat} : stp st f1 f2 la fs p = fs.set p (T st f1 f2 p (fs.getD (la.getD p 0) false)) := rfl
theorem stp_inv {r p : Nat} {fs : List Bool} (hp : p < n) (hla : ∀ q, q < n → la.getD q 0 < n) (I : Inv st f1 f2 la n r fs) :
    Inv st f1 f2 la n r (stp st f1 f2 la fs p) ∧ (W st f1 f2 la (r + 1) p = (!st) → (stp st f1 f2 la fs p).getD p false = (!st)) ∧ ∀ q, q ≠ p → (stp st f1 f2 la fs p).getD q false = fs.getD q false := by
  obtain ⟨hl, h⟩ := I
  have hpl : p < fs.length := by omega
  have up : W st f1 f2 la (r + 1) p = (!st) → (stp st f1 f2 la fs p).getD p false = (!st) := fun e => by
    rw [stp_eq, set_get hpl, if_pos rfl, T_iff]
    unfold W at e
    rw [T_iff] at e
    exact e.imp id fun q => ⟨q.1, (h _ (hla p hp)).1 q.2⟩
  have ne : ∀ q, q ≠ p → (stp st f1 f2 la fs p).getD q false = fs.getD q false := fun q e => by
    rw [stp_eq, set_get hpl, if_neg (Ne.symm e)]
  refine ⟨⟨stp_len.trans hl, fun q hq => ?_⟩, up, ne⟩
  by_cases e : q = p
  · subst e
    refine ⟨fun hw => up (W_mono _ _ hw), fun hs => ?_⟩
    rw [stp_eq, set_get hpl, if_pos rfl, T_iff] at hs
    rcases hs with hs | ⟨h1, h2⟩
    · refine ⟨1, ?_⟩
      unfold W
      rw [T_iff]
      exact .inl hs
    · obtain ⟨r', hr⟩ := (h _ (hla q hp)).2 h2
      refine ⟨r' + 1, ?_⟩
      unfold W
      rw [T_iff]
      exact .inr ⟨h1, hr⟩
  · rw [ne q e]
    exact h q hq
theorem swp_inv {r : Nat} (hla : ∀ q, q < n → la.getD q 0 < n) : ∀ (xs : List Nat) (done : Nat → Prop) (fs : List Bool), (∀ x ∈ xs, x < n) → Inv st f1 f2 la n r fs → (∀ q, q < n → done q → W st f1 f2 la (r + 1) q = (!st) → fs.getD q false = (!st)) →
    Inv st f1 f2 la n r (xs.foldl (stp st f1 f2 la) fs) ∧ ∀ q, q < n → (done q ∨ q ∈ xs) → W st f1 f2 la (r + 1) q = (!st) → (xs.foldl (stp st f1 f2 la) fs).getD q false = (!st)
  | [], done, fs, _, I, hd => ⟨I, fun q hq h => hd q hq (h.resolve_right (by simp))⟩
  | x :: xs, done, fs, hx, I, hd => by
    have hs := stp_inv (hx x (List.mem_cons_self ..)) hla I
    have ih := swp_inv (r := r) hla xs (fun q => done q ∨ q = x) (stp st f1 f2 la fs x) (fun y hy => hx y (List.mem_cons_of_mem _ hy)) hs.1 fun q hq hdq hw => by
      by_cases e : q = x
      · subst e
        exact hs.2.1 hw
      · rw [hs.2.2 q e]
        exact hd q hq (hdq.resolve_right e) hw
    refine ⟨ih.1, fun q hq h hw => ih.2 q hq ?_ hw⟩
    rcases h with h | h
    · exact .inl (.inl h)
    · rcases List.mem_cons.mp h with h | h
      · exact .inl (.inr h)
      · exact .inr h
theorem swp_next {r : Nat} {fs : List Bool} (hla : ∀ q, q < n → la.getD q 0 < n) (I : Inv st f1 f2 la n r fs) : Inv st f1 f2 la n (r + 1) (swp n st f1 f2 la fs) := by
  have h := swp_inv (r := r) hla ((List.range n).map (n - 1 - ·)) (fun _ => False) fs (fun x hx => by
    obtain ⟨y, hy, rfl⟩ := List.mem_map.mp hx
    have := List.mem_range.mp hy
    omega) I (fun _ _ h => h.elim)
  refine ⟨h.1.1, fun q hq => ⟨h.2 q hq (.inr ?_), (h.1.2 q hq).2⟩⟩
  exact List.mem_map.mpr ⟨n - 1 - q, List.mem_range.mpr (by omega), by omega⟩
theorem lsts_inv (hla : ∀ q, q < n → la.getD q 0 < n) : Inv st f1 f2 la n (n + 1) (lsts n st f1 f2 la) := by
  have h : ∀ (xs : List Nat) (r : Nat) (fs : List Bool), Inv st f1 f2 la n r fs → Inv st f1 f2 la n (r + xs.length) (xs.foldl (fun fs _ => swp n st f1 f2 la fs) fs) := fun xs => by
    induction xs with
    | nil => intro r fs I; exact I
    | cons x xs ih =>
      intro r fs I
      have := ih (r + 1) _ (swp_next hla I)
      rw [show r + 1 + xs.length = r + (x :: xs).length by simp; omega] at this
      exact this
  have h0 : Inv st f1 f2 la n 0 (List.replicate n st) := ⟨by simp, fun q hq => ⟨fun e => by cases st <;> simp [W] at e, fun e => by
    rw [List.getD_eq_getElem?_getD, List.getElem?_replicate, if_pos hq] at e
    cases st <;> simp at e⟩⟩
  have := h (List.range (n + 1)) 0 _ h0
  rwa [List.length_range, Nat.zero_add] at this
end
section
variable {a t : List Int} {st : Bool} {f1 f2 : List Bool}
theorem W_iff (ht : t ≠ []) : ∀ (r n : Nat), W st f1 f2 (later a t) r (pl a t n) = (!st) ↔ ∃ i, i < r ∧ f2.getD (pl a t (n + i)) false = (!st) ∧ ∀ j, j < i → f1.getD (pl a t (n + j)) false = (!st)
  | 0, n => by
    constructor
    · intro h; cases st <;> simp [W] at h
    · rintro ⟨i, hi, _⟩; omega
  | r + 1, n => by
    unfold W
    rw [later_nxt ht (pl_lt ht n), ← pl_nxt ht, T_iff, W_iff ht r (n + 1)]
    constructor
    · rintro (h | ⟨h1, i, hi, h2, h3⟩)
      · exact ⟨0, by omega, h, fun j hj => by omega⟩
      · refine ⟨i + 1, by omega, by rw [Nat.add_right_comm, Nat.add_assoc] at h2; rw [← Nat.add_assoc, Nat.add_right_comm]; rwa [Nat.add_right_comm], fun j hj => ?_⟩
        cases j with
        | zero => exact h1
        | succ j =>
          have := h3 j (by omega)
          rwa [Nat.add_right_comm] at this
    · rintro ⟨i, hi, h2, h3⟩
      cases i with
      | zero => exact .inl h2
      | succ i =>
        refine .inr ⟨h3 0 (by omega), i, by omega, ?_, fun j hj => ?_⟩
        · rw [Nat.add_right_comm]; exact h2
        · have := h3 (j + 1) (by omega)
          rw [Nat.add_right_comm]; exact this
theorem wit_small (ht : t ≠ []) (n : Nat) : ∀ i, f2.getD (pl a t (n + i)) false = (!st) → (∀ j, j < i → f1.getD (pl a t (n + j)) false = (!st)) →
    ∃ i, i < a.length + t.length ∧ f2.getD (pl a t (n + i)) false = (!st) ∧ ∀ j, j < i → f1.getD (pl a t (n + j)) false = (!st) := fun i => by
  have hl := List.length_pos_iff.mpr ht
  induction i using Nat.strongRecOn with
  | ind i ih =>
    intro h1 h2
    by_cases hi : i < a.length + t.length
    · exact ⟨i, hi, h1, h2⟩
    · refine ih (i - t.length) (by omega) ?_ fun j hj => h2 j (by omega)
      rw [pl_back (by omega)] at h1
      rwa [show n + i - t.length = n + (i - t.length) by omega] at h1
theorem W_big (ht : t ≠ []) {r n : Nat} (hr : a.length + t.length ≤ r) : W st f1 f2 (later a t) r (pl a t n) = (!st) ↔ ∃ i, f2.getD (pl a t (n + i)) false = (!st) ∧ ∀ j, j < i → f1.getD (pl a t (n + j)) false = (!st) := by
  rw [W_iff ht]
  constructor
  · rintro ⟨i, _, h⟩
    exact ⟨i, h⟩
  · rintro ⟨i, h1, h2⟩
    obtain ⟨i, hi, h⟩ := wit_small ht n i h1 h2
    exact ⟨i, by omega, h⟩
theorem bool_ext {x y st : Bool} (h : x = (!st) ↔ y = (!st)) : x = y := by
  cases x <;> cases y <;> cases st <;> simp at h ⊢
theorem lsts_W (ht : t ≠ []) {r p : Nat} (hr : a.length + t.length ≤ r) (hp : p < a.length + t.length) : (lsts (a.length + t.length) st f1 f2 (later a t)).getD p false = W st f1 f2 (later a t) r p := by
  have I := lsts_inv (st := st) (f1 := f1) (f2 := f2) (la := later a t) (later_get ht)
  have h := I.2 p hp
  refine bool_ext (st := st) ⟨fun e => ?_, fun e => h.1 ?_⟩
  · obtain ⟨r', hr'⟩ := h.2 e
    rw [← pl_id hp] at hr' ⊢
    rw [W_big ht hr]
    obtain ⟨i, _, q⟩ := (W_iff ht _ _).mp hr'
    exact ⟨i, q⟩
  · rw [← pl_id hp] at e ⊢
    rw [W_big ht (by omega)]
    exact (W_big ht hr).mp e
end
theorem mapB_get {α : Type} {xs : List α} {f : α → Bool} {p : Nat} (d : α) (h : p < xs.length) : (xs.map f).getD p false = f (xs.getD p d) := by
  rw [List.getD_eq_getElem?_getD, List.getElem?_map, List.getD_eq_getElem?_getD, List.getElem?_eq_getElem h]
  rfl
theorem zipB_get {xs ys : List Bool} {f : Bool × Bool → Bool} {p : Nat} (h1 : p < xs.length) (h2 : p < ys.length) : ((xs.zip ys).map f).getD p false = f (xs.getD p false, ys.getD p false) := by
  rw [mapB_get (false, false) (by rw [List.length_zip]; omega)]
  congr 1
  rw [List.getD_eq_getElem?_getD, List.getD_eq_getElem?_getD, List.getD_eq_getElem?_getD, List.getElem?_eq_getElem h1, List.getElem?_eq_getElem h2, List.getElem?_eq_getElem (by rw [List.length_zip]; omega), List.getElem_zip]
  rfl
theorem range_get {n p : Nat} (h : p < n) : (List.range n).getD p 0 = p := by
  rw [List.getD_eq_getElem?_getD, List.getElem?_range h]
  rfl
theorem vals_sat {a t : List Int} (ht : t ≠ []) : ∀ (s : S) (n : Nat), (vals a t s).getD (pl a t n) false = true ↔ sat (lt a t) s n
  | .yes, n => by
    have := pl_lt (a := a) ht n
    simp [vals, sat, List.getD_eq_getElem?_getD, List.getElem?_replicate, this]
  | .bit k, n => by
    have := pl_lt (a := a) ht n
    rw [vals, mapB_get 0 (by simpa using this), range_get this, sat]
    have := lt_pl (a := a) ht n 0
    simp only [Nat.add_zero] at this
    rw [this]
  | .not s, n => by
    rw [vals, mapB_get false (by rw [vals_len ht]; exact pl_lt ht n), sat, ← vals_sat ht s n]
    cases (vals a t s).getD (pl a t n) false <;> simp
  | .next s, n => by
    rw [vals, mapB_get 0 (by rw [later_len ht]; exact pl_lt ht n), later_nxt ht (pl_lt ht n), ← pl_nxt ht, sat, vals_sat ht s (n + 1)]
  | .bi .and s u, n => by
    rw [vals, zipB_get (by rw [vals_len ht]; exact pl_lt ht n) (by rw [vals_len ht]; exact pl_lt ht n), sat, ← vals_sat ht s n, ← vals_sat ht u n, Bool.and_eq_true]
  | .bi .or s u, n => by
    rw [vals, zipB_get (by rw [vals_len ht]; exact pl_lt ht n) (by rw [vals_len ht]; exact pl_lt ht n), sat, ← vals_sat ht s n, ← vals_sat ht u n, Bool.or_eq_true]
  | .bi .until s u, n => by
    rw [vals, lsts_W ht (Nat.le_refl _) (pl_lt ht n), sat]
    have h := W_big (a := a) (t := t) (st := false) (f1 := vals a t s) (f2 := vals a t u) (n := n) ht (Nat.le_refl _)
    simp only [Bool.not_false] at h
    rw [h]
    exact exists_congr fun i => and_congr (vals_sat ht u _) (forall_congr' fun j => imp_congr_right fun _ => vals_sat ht s _)
  | .bi .release s u, n => by
    rw [vals, lsts_W ht (Nat.le_refl _) (pl_lt ht n), sat]
    have h := W_big (a := a) (t := t) (st := true) (f1 := vals a t s) (f2 := vals a t u) (n := n) ht (Nat.le_refl _)
    simp only [Bool.not_true] at h
    rw [← Bool.not_eq_false, h]
    refine not_congr (exists_congr fun i => and_congr ?_ (forall_congr' fun j => imp_congr_right fun _ => ?_))
    · rw [← vals_sat ht u, Bool.not_eq_true]
    · rw [← vals_sat ht s, Bool.not_eq_true]
theorem bools_ext {xs ys : List Bool} {n : Nat} (h1 : xs.length = n) (h2 : ys.length = n) (h : ∀ p, p < n → (xs.getD p false = true ↔ ys.getD p false = true)) : xs = ys := by
  refine List.ext_getElem (h1.trans h2.symm) fun p q1 q2 => ?_
  have := h p (by omega)
  rw [List.getD_eq_getElem?_getD, List.getD_eq_getElem?_getD, List.getElem?_eq_getElem q1, List.getElem?_eq_getElem q2] at this
  exact Bool.eq_iff_iff.mpr this
theorem vals_opp {a t : List Int} (ht : t ≠ []) (s : S) : vals a t (opp s) = (vals a t s).map fun b => !b := by
  refine bools_ext (vals_len ht _) (by rw [List.length_map, vals_len ht]) fun p hp => ?_
  rw [mapB_get false (by rw [vals_len ht]; exact hp), ← pl_id hp, vals_sat ht, (sat_oi s p).1, ← vals_sat ht]
  cases (vals a t s).getD (pl a t p) false <;> simp
theorem vals_inw {a t : List Int} (ht : t ≠ []) (s : S) : vals a t (inw s) = vals a t s := by
  refine bools_ext (vals_len ht _) (vals_len ht _) fun p hp => ?_
  rw [← pl_id hp, vals_sat ht, (sat_oi s p).2, ← vals_sat ht]
theorem head_sat {a t : List Int} (ht : t ≠ []) (s : S) : (vals a t s).getD 0 false = true ↔ sat (lt a t) s 0 := by
  have hl := List.length_pos_iff.mpr ht
  have := vals_sat (a := a) ht s 0
  rwa [pl_id (by omega)] at this
theorem head_next {a t b u : List Int} (ht : t ≠ []) (hu : u ≠ []) (s : S) (h : ∀ k, lt b u k = lt a t (1 + k)) : (vals a t (.next s)).getD 0 false = (vals b u s).getD 0 false := by
  refine Bool.eq_iff_iff.mpr ?_
  rw [head_sat ht, head_sat hu, sat]
  have := sat_shift (w := lt a t) (v := lt b u) (x := 1) (y := 0) (fun n => by rw [Nat.zero_add, h n]) s 0
  simpa using this
theorem head_same {a t b u : List Int} (ht : t ≠ []) (hu : u ≠ []) (s : S) (h : lt b u = lt a t) : (vals a t s).getD 0 false = (vals b u s).getD 0 false := by
  refine Bool.eq_iff_iff.mpr ?_
  rw [head_sat ht, head_sat hu, h]
/-- the law's own values -/
def lv (a t : List Int) : S → List Bool
  | .yes => List.replicate (a.length + t.length) true
  | .bit k => (List.range (a.length + t.length)).map fun p => bitOf (lt a t p) k
  | .not s => (lv a t s).map fun b => !b
  | .next s => (later a t).map fun p => (lv a t s).getD p false
  | .bi .and s u => (List.range (a.length + t.length)).map fun p => (lv a t s).getD p false && (lv a t u).getD p false
  | .bi .or s u => (List.range (a.length + t.length)).map fun p => (lv a t s).getD p false || (lv a t u).getD p false
  | .bi .until s u => (List.range (a.length + t.length)).map fun p => W false (lv a t s) (lv a t u) (later a t) (2 * (a.length + t.length)) p
  | .bi .release s u => (List.range (a.length + t.length)).map fun p => W true (lv a t s) (lv a t u) (later a t) (2 * (a.length + t.length)) p
theorem lv_vals {a t : List Int} (ht : t ≠ []) : ∀ s : S, lv a t s = vals a t s
  | .yes => rfl
  | .bit k => rfl
  | .not s => by rw [lv, vals, lv_vals ht s]
  | .next s => by rw [lv, vals, lv_vals ht s]
  | .bi .and s u => by
    rw [lv, lv_vals ht s, lv_vals ht u]
    refine bools_ext (n := a.length + t.length) (by simp) (vals_len ht _) fun p hp => ?_
    rw [mapB_get 0 (by simpa using hp), range_get hp, vals, zipB_get (by rw [vals_len ht]; exact hp) (by rw [vals_len ht]; exact hp)]
  | .bi .or s u => by
    rw [lv, lv_vals ht s, lv_vals ht u]
    refine bools_ext (n := a.length + t.length) (by simp) (vals_len ht _) fun p hp => ?_
    rw [mapB_get 0 (by simpa using hp), range_get hp, vals, zipB_get (by rw [vals_len ht]; exact hp) (by rw [vals_len ht]; exact hp)]
  | .bi .until s u => by
    rw [lv, lv_vals ht s, lv_vals ht u]
    refine bools_ext (n := a.length + t.length) (by simp) (vals_len ht _) fun p hp => ?_
    rw [mapB_get 0 (by simpa using hp), range_get hp, vals, lsts_W ht (r := 2 * (a.length + t.length)) (by omega) hp]
  | .bi .release s u => by
    rw [lv, lv_vals ht s, lv_vals ht u]
    refine bools_ext (n := a.length + t.length) (by simp) (vals_len ht _) fun p hp => ?_
    rw [mapB_get 0 (by simpa using hp), range_get hp, vals, lsts_W ht (r := 2 * (a.length + t.length)) (by omega) hp]
end K01
end Sm

set_option Elab.async false
set_option linter.all false
set_option maxRecDepth 100000
set_option maxHeartbeats 4000000
/-! k01: the plain reading, values_of. -/
namespace Sm
namespace K01
open PySem PySem.Spec L2
variable (g : Gl0)
theorem i0 (a : D) (l : List D) : atI (a :: l) 0 = some a := by
  have := atI_nat (xs := a :: l) (n := 0) (by simp)
  simpa using this
theorem i1 (a b : D) (l : List D) : atI (a :: b :: l) 1 = some b := by
  have := atI_nat (xs := a :: b :: l) (n := 1) (by simp)
  simpa using this
theorem i2 (a b c : D) (l : List D) : atI (a :: b :: c :: l) 2 = some c := by
  have := atI_nat (xs := a :: b :: c :: l) (n := 2) (by simp)
  simpa using this
theorem call_las (n : Nat) (st : Bool) (f1 f2 : List Bool) (la : List Nat) (hn : n ≤ 1000) (h1 : f1.length = n) (h2 : f2.length = n) (h4 : la.length = n) (h5 : ∀ p, p < n → la.getD p 0 < n) (m : MH) :
    callM false (mf_lasting g) [lB f1, lB f2, lN la, dB st] m = .ok (lB (lsts n st f1 f2 la)) m := by
  refine call_ok (by simp) (v_lasting g n st f1 f2 la hn h1 h2 h4 h5) ?_
  simp [frz]
section
variable (r : List D → MH → R D) (a t : List Int)
theorem vv_not (s : S) (ha : a.length ≤ 100) (hl : t.length ≤ 100) (ht' : t ≠ []) (hs : callM false r [sD s, wD a t, lN (later a t)] [] = .ok (lB (vals a t s)) []) :
    bd_values_of g r [some (sD (.not s)), some (wD a t), some (lN (later a t)), none, none, none, none, none, none, none] [] = .ok (.rt (lB (vals a t (.not s)))) [] := by
  have vl := vals_len ht' (a := a) s
  have e1 := lc_v2 g r a t (vals a t s) (.tup [dS "not", sD s]) (wD a t) (some (dS "not")) (by rw [vl]; omega)
  simp [bd_values_of, sD, i0, i1, hs, e1, vals]
theorem vv_next (s : S) (ha : a.length ≤ 100) (hl : t.length ≤ 100) (ht' : t ≠ []) (hs : callM false r [sD s, wD a t, lN (later a t)] [] = .ok (lB (vals a t s)) []) :
    bd_values_of g r [some (sD (.next s)), some (wD a t), some (lN (later a t)), none, none, none, none, none, none, none] [] = .ok (.rt (.lst ((later a t).map fun p => dB ((vals a t s).getD p false)))) [] := by
  have vl := vals_len ht' (a := a) s
  have e1 := lc_v3 g r a t (vals a t s) (.tup [dS "next", sD s]) (wD a t) (some (dS "next")) ht' ha hl vl (later_lt ht')
  generalize ((later a t).map fun p => dB ((vals a t s).getD p false)) = L at e1 ⊢
  simp [bd_values_of, sD, i0, i1, hs, e1]
theorem vv_bit (k : Int) (hk : 0 ≤ k) (ha : a.length ≤ 100) (hl : t.length ≤ 100) (ht' : t ≠ []) :
    bd_values_of g r [some (sD (.bit k)), some (wD a t), some (lN (later a t)), none, none, none, none, none, none, none] [] = .ok (.rt (.lst ((List.range (a.length + t.length)).map fun p => dB (bitOf (lt a t p) k)))) [] := by
  have e1 := lc_v1 g r a t (some (dS "bit")) ha hl ht' k hk
  generalize ((List.range (a.length + t.length)).map fun p => dB (bitOf (lt a t p) k)) = L at e1 ⊢
  have e0 : sD (.bit k) = .tup [dS "bit", dI k] := rfl
  rw [e0] at e1 ⊢
  simp -implicitDefEqProofs [bd_values_of, i0, e1]
theorem vv_yes (ha : a.length ≤ 100) (hl : t.length ≤ 100) (ht' : t ≠ []) :
    bd_values_of g r [some (sD .yes), some (wD a t), some (lN (later a t)), none, none, none, none, none, none, none] [] = .ok (.rt (lB (vals a t .yes))) [] := by
  have hz : 1 * (a.length + t.length) ≤ sizeLine := by rw [z16]; omega
  have hm := mulL_nat (ds := [dB true]) (n := a.length + t.length) (m := []) (by omega) (by simpa using hz)
  rw [rep_one] at hm
  have hll := later_len ht' (a := a)
  have z := z1
  simp -implicitDefEqProofs only [bd_values_of, sD, vals, List.map_replicate, q_seq, q_asg, q_2, q_var, q_C, q_1, i0, i1, hm, hll, List.getElem?_cons_zero, List.getElem?_cons_succ, bnd_ok, q_ixT, q_gN, gAnd_ok', List.set_cons_succ, List.set_cons_zero, q_sIf, q_val, q_eqS, q_toB, decide_true, if_true, q_ret, lB, q_A, q_cons, q_nil, q_gLst, q_lenL, List.length_map, List.length_cons, List.length_nil, Nat.zero_add, z, id]
theorem vv_bi (k : Bi) (s u : S) (ha : a.length ≤ 100) (hl : t.length ≤ 100) (ht' : t ≠ []) (hs : callM false r [sD s, wD a t, lN (later a t)] [] = .ok (lB (vals a t s)) []) (hu : callM false r [sD u, wD a t, lN (later a t)] [] = .ok (lB (vals a t u)) []) :
    bd_values_of g r [some (sD (.bi k s u)), some (wD a t), some (lN (later a t)), none, none, none, none, none, none, none] [] = .ok (.rt (lB (vals a t (.bi k s u)))) [] := by
  have v1 := vals_len ht' (a := a) s
  have v2 := vals_len ht' (a := a) u
  have ao : ∀ x : String, ∀ m : MH, gIn false (dS x) (.tup [dS "and", dS "or"]) m = .ok (dB (decide (x = "and" ∨ x = "or"))) m := fun x m => by
    have := in_strs (neg := false) (x := x) (xs := ["and", "or"]) (e := .tup [dS "and", dS "or"]) (m := m) rfl
    simpa using this
  have z := z2
  cases k with
  | and =>
    have e1 := lc_v4 g r a t (vals a t s) (vals a t u) (sD (.bi .and s u)) (wD a t) (some (dS "and")) (by rw [v1]; omega)
    have e2 : (vals a t (.bi .and s u)).map dB = ((vals a t s).zip (vals a t u)).map fun q => dB (q.1 && q.2) := by simp [vals]
    rw [← e2] at e1
    generalize vals a t (.bi .and s u) = L at e1 ⊢
    simp -implicitDefEqProofs [bd_values_of, sD, Bi.nm, i0, i1, i2, hs, hu, e1, ao, z]
    simp -implicitDefEqProofs only [sD, Bi.nm] at e1
    simp -implicitDefEqProofs [e1]
  | or =>
    have e1 := lc_v5 g r a t (vals a t s) (vals a t u) (sD (.bi .or s u)) (wD a t) (some (dS "or")) (by rw [v1]; omega)
    have e2 : (vals a t (.bi .or s u)).map dB = ((vals a t s).zip (vals a t u)).map fun q => dB (q.1 || q.2) := by simp [vals]
    rw [← e2] at e1
    generalize vals a t (.bi .or s u) = L at e1 ⊢
    simp -implicitDefEqProofs [bd_values_of, sD, Bi.nm, i0, i1, i2, hs, hu, e1, ao, z]
    simp -implicitDefEqProofs only [sD, Bi.nm] at e1
    simp -implicitDefEqProofs [e1]
  | «until» =>
    have e1 := call_las g (a.length + t.length) false (vals a t s) (vals a t u) (later a t) (by omega) v1 v2 (later_len ht') (later_get ht') []
    have e2 : vals a t (.bi .until s u) = lsts (a.length + t.length) false (vals a t s) (vals a t u) (later a t) := rfl
    rw [e2]
    generalize lsts (a.length + t.length) false (vals a t s) (vals a t u) (later a t) = L at e1 ⊢
    simp -implicitDefEqProofs [bd_values_of, sD, Bi.nm, i0, i1, i2, hs, hu, e1, ao, z]
  | release =>
    have e1 := call_las g (a.length + t.length) true (vals a t s) (vals a t u) (later a t) (by omega) v1 v2 (later_len ht') (later_get ht') []
    have e2 : vals a t (.bi .release s u) = lsts (a.length + t.length) true (vals a t s) (vals a t u) (later a t) := rfl
    rw [e2]
    generalize lsts (a.length + t.length) true (vals a t s) (vals a t u) (later a t) = L at e1 ⊢
    simp -implicitDefEqProofs [bd_values_of, sD, Bi.nm, i0, i1, i2, hs, hu, e1, ao, z]
end
theorem v_values_of (b : Int) (a t : List Int) (ha : a.length ≤ 100) (hl : t.length ≤ 100) (ht' : t ≠ []) : ∀ (n : Nat) (s : S), okS b s = true → ht s < n → mf_values_of g n [sD s, wD a t, lN (later a t)] [] = .ok (lB (vals a t s)) []
  | 0, s, _, h => absurd h (Nat.not_lt_zero _)
  | n + 1, s, ho, h => by
    have ih := v_values_of b a t ha hl ht' n
    have co : ∀ s, okS b s = true → ht s < n → callM false (mf_values_of g n) [sD s, wD a t, lN (later a t)] [] = .ok (lB (vals a t s)) [] := fun s ho h => call_okc (by simp) (ih s ho h) (clo_lB _)
    refine runF_ok rfl ?_
    cases s with
    | yes => exact vv_yes g _ a t ha hl ht'
    | bit k =>
      simp only [okS, Bool.and_eq_true, decide_eq_true_eq] at ho
      have := vv_bit g (mf_values_of g n) a t k ho.1 ha hl ht'
      have e : (vals a t (.bit k)).map dB = (List.range (a.length + t.length)).map fun p => dB (bitOf (lt a t p) k) := by simp [vals]
      rw [lB, e]
      exact this
    | not s => exact vv_not g _ a t s ha hl ht' (co s ho (by simp [ht] at h; omega))
    | next s =>
      have := vv_next g _ a t s ha hl ht' (co s ho (by simp [ht] at h; omega))
      have e : (vals a t (.next s)).map dB = (later a t).map fun p => dB ((vals a t s).getD p false) := by simp [vals]
      rw [lB, e]
      exact this
    | bi k s u =>
      simp only [okS, Bool.and_eq_true] at ho
      simp only [ht] at h
      exact vv_bi g _ a t k s u ha hl ht' (co s ho.1 (by omega)) (co u ho.2 (by omega))
end K01
end Sm

set_option Elab.async false
set_option linter.all false
set_option maxRecDepth 100000
set_option maxHeartbeats 4000000
/-! k01: the plain reading, checks. -/
namespace Sm
namespace K01
open PySem PySem.Spec L2
variable (g : Gl0)
section
variable {m : MH} {ds : List D} {x : Str} {i : Int} {b : Bool}
@[simp] theorem q_isiTT : gIsi [.tup ds, .raw (.ty "tuple")] m = .ok (dB true) m := rfl
@[simp] theorem q_isiSS : gIsi [.raw (.str x), .raw (.ty "str")] m = .ok (dB true) m := rfl
@[simp] theorem q_isiII : gIsi [.raw (.int i), .raw (.ty "int")] m = .ok (dB true) m := rfl
@[simp] theorem q_isiIB : gIsi [.raw (.int i), .raw (.ty "bool")] m = .ok (dB false) m := rfl
@[simp] theorem q_isiST : gIsi [.raw (.str x), .raw (.ty "tuple")] m = .ok (dB false) m := rfl
@[simp] theorem q_isiIT : gIsi [.raw (.int i), .raw (.ty "tuple")] m = .ok (dB false) m := rfl
end
theorem sz_in (x : String) (h : x ∈ ["yes", "bit", "not", "next", "and", "or", "until", "release"]) (m : MH) : gInK g.SIZES t_SIZES true (dS x) (.raw (.ref g.SIZES)) m = .ok (dB false) m := by
  simp only [List.mem_cons, List.not_mem_nil, or_false] at h
  rcases h with rfl | rfl | rfl | rfl | rfl | rfl | rfl | rfl <;> simp [gInK, t_SIZES, List.lookup]
theorem sz_x (m : MH) : gInK g.SIZES t_SIZES true (dS "x") (.raw (.ref g.SIZES)) m = .ok (dB true) m := by
  simp [gInK, t_SIZES, List.lookup]
def szn : String → Int
  | "yes" => 1
  | "bit" => 2
  | "not" => 2
  | "next" => 2
  | _ => 3
theorem sz_ix (x : String) (h : x ∈ ["yes", "bit", "not", "next", "and", "or", "until", "release"]) (m : MH) : gIxK g.SIZES t_SIZES (.raw (.ref g.SIZES)) (dS x) m = .ok (dI (szn x)) m := by
  simp only [List.mem_cons, List.not_mem_nil, or_false] at h
  rcases h with rfl | rfl | rfl | rfl | rfl | rfl | rfl | rfl <;> simp [gIxK, t_SIZES, List.lookup, szn]
def okT (b : Int) : S → Bool
  | .bit k => decide (0 ≤ k) && decide (k < b)
  | _ => true
theorem v_told (b : Int) (s : S) : mf_is_told g [dI b, sD s] [] = .ok (dB (okT b s)) [] := by
  refine runF_ok rfl ?_
  have c1 := fun x h => sz_in g x h []
  have c2 := fun x h => sz_ix g x h []
  cases s with
  | yes => simp -implicitDefEqProofs [bd_is_told, sD, i0, c1, c2, szn, okT]
  | bit k => by_cases h : 0 ≤ k <;> simp -implicitDefEqProofs [bd_is_told, sD, i0, i1, c1, c2, szn, okT, h]
  | not s => simp -implicitDefEqProofs [bd_is_told, sD, i0, c1, c2, szn, okT]
  | next s => simp -implicitDefEqProofs [bd_is_told, sD, i0, c1, c2, szn, okT]
  | bi k s u => cases k <;> simp -implicitDefEqProofs [bd_is_told, sD, Bi.nm, i0, c1, c2, szn, okT]
theorem v_told_x (b : Int) : mf_is_told g [dI b, .tup [dS "x"]] [] = .ok (dB false) [] := by
  refine runF_ok rfl ?_
  simp -implicitDefEqProofs [bd_is_told, i0, sz_x]
theorem v_told_nil (b : Int) : mf_is_told g [dI b, .tup []] [] = .ok (dB false) [] := by
  refine runF_ok rfl ?_
  simp -implicitDefEqProofs [bd_is_told]
theorem v_told_and (b : Int) (d : D) : mf_is_told g [dI b, .tup [dS "and", d]] [] = .ok (dB false) [] := by
  refine runF_ok rfl ?_
  have c1 := fun x h => sz_in g x h []
  have c2 := fun x h => sz_ix g x h []
  simp -implicitDefEqProofs [bd_is_told, i0, c1, c2, szn]
def sides : S → List S
  | .yes => []
  | .bit _ => []
  | .not s => [s]
  | .next s => [s]
  | .bi _ s u => [s, u]
theorem v_sides (s : S) : mf_sides_of g [sD s] [] = .ok (.tup ((sides s).map sD)) [] := by
  refine runF_ok rfl ?_
  have yb : ∀ x : String, ∀ m : MH, gIn false (dS x) (.tup [dS "yes", dS "bit"]) m = .ok (dB (decide (x = "yes" ∨ x = "bit"))) m := fun x m => by
    have := in_strs (neg := false) (x := x) (xs := ["yes", "bit"]) (e := .tup [dS "yes", dS "bit"]) (m := m) rfl
    simpa using this
  have hc : ∀ (k : D) (ss : List D), cutD (k :: ss) (some 1) none = ss := fun k ss => by
    have := cut_from (ds := k :: ss) (n := 1) (by simp)
    simpa using this
  have z := z2
  have z0 : 0 ≤ sizeLine := Nat.zero_le _
  cases s with
  | yes => simp -implicitDefEqProofs [bd_sides_of, sD, i0, sides, yb, z]
  | bit k => simp -implicitDefEqProofs [bd_sides_of, sD, i0, sides, yb, z]
  | not s => simp -implicitDefEqProofs [bd_sides_of, sD, i0, sides, yb, z, hc]
  | next s => simp -implicitDefEqProofs [bd_sides_of, sD, i0, sides, yb, z, hc]
  | bi k s u => cases k <;> simp -implicitDefEqProofs [bd_sides_of, sD, Bi.nm, i0, sides, yb, z, hc]
def sz : S → Nat
  | .yes => 1
  | .bit _ => 1
  | .not s => sz s + 1
  | .next s => sz s + 1
  | .bi _ s u => sz s + sz u + 1
/-- one on the pile -/
abbrev pD (q : S × Nat) : D := .tup [sD q.1, dI (q.2 : Nat)]
theorem cloL_pile : ∀ xs : List (S × Nat), cloL (xs.map pD) = true
  | [] => rfl
  | x :: xs => by simp [cloL, clo, cloL_pile xs]
theorem lc_sen (δ0 δ1 δ2 δ3 : Option D) (s : S) (d : Nat) (m : MH) (o : Option D) : lc_is_sentence_1 g [δ0, δ1, δ2, δ3, some (sD s), some (dI (d : Nat)), o] m = .ok (((sides s).map fun u => (u, d + 1)).map pD) m := by
  have e1 := call_okc (m := m) (ds := [sD s]) (by simp) (v_sides g s) (by cases s <;> simp [sides, clo, cloL])
  rw [List.map_map]
  have hl : (sides s).length ≤ 2 := by cases s <;> simp [sides]
  refine lcF_of sD _ (sides s) ?_ (by rw [z16]; omega) fun x _ => ⟨_, rfl, rfl, ?_⟩
  · simp -implicitDefEqProofs [e1]
  · have z := z2
    simp -implicitDefEqProofs [wipeF, z]
end K01
end Sm

set_option Elab.async false
set_option linter.all false
set_option maxRecDepth 100000
set_option maxHeartbeats 4000000
/-! k01: the plain reading, sentences that are such; holds. -/
namespace Sm
namespace K01
open PySem PySem.Spec L2
variable (g : Gl0)
section
variable {m : MH} {ds es : List D} {d : D} {b : Bool}
@[simp] theorem q_toTo : toT (.obj 0) (.lst ds :: m) = .ok (!ds.isEmpty) (.lst ds :: m) := rfl
@[simp] theorem q_isl : isLst (.lst ds :: m) (.obj 0) = true := rfl
@[simp] theorem q_pop : gPop (.obj 0) [] (.lst (ds ++ [d]) :: m) = .ok d (.lst ds :: m) := by
  show (match (ds ++ [d])[(ds ++ [d]).length - 1]? with
    | some e => R.ok e ((MO.lst (ds ++ [d]) :: m).set 0 (.lst (ds ++ [d]).dropLast))
    | none => .no) = _
  simp
@[simp] theorem q_ext : gExtend (.obj 0) [.lst es] (.lst ds :: m) = if ds.length + es.length ≤ sizeLine then .ok (.raw .non) (.lst (ds ++ es) :: m) else .no := rfl
@[simp] theorem q_app : gAppend (.obj 0) [d] (.lst ds :: m) = if ds.length < sizeLine then .ok (.raw .non) (.lst (ds ++ [d]) :: m) else .no := rfl
@[simp] theorem q_eM {ty : MH → D → Bool} {g : D → List D → MH → R D} {O : Fr → MH → R D} {As : Fr → MH → R (List D)} {δ : Fr} : eM ty g O As δ m = (O δ m).bnd fun o m1 => if ty m1 o = true then (As δ m1).bnd fun ds m2 => g o ds m2 else .no := rfl
@[simp] theorem q_eM0 {ty : MH → D → Bool} {g : D → List D → MH → R D} {O : Fr → MH → R D} {δ : Fr} : eM0 ty g O δ m = (O δ m).bnd fun o m1 => if ty m1 o = true then g o [] m1 else .no := rfl
@[simp] theorem q_isB {f : Bool → Bool} {x y : Bool} : gIsB f (.raw (.bl x)) (.raw (.bl y)) m = .ok (.raw (.bl (f (decide (x = y))))) m := rfl
theorem q_aug {i : Nat} {A : Fr → MH → R D} {g : D → D → MH → R D} {δ : Fr} (h : δ[i]? = some (some d)) : sAug i A g δ m = (A δ m).bnd fun e m1 => (g d e m1).bnd fun z m2 => .ok (.nx (δ.set i (some z))) m2 := by
  unfold sAug
  rw [h]
end
theorem whl_succ {T : Fr → MH → R Bool} {B : SmS} {n : Nat} {δ : Fr} {m : MH} : whl T B (n + 1) δ m = (T δ m).bnd fun b m1 => if b = true then (B δ m1).bnd (aft (whl T B n)) else .ok (.nx δ) m1 := rfl
/-- what stands on a pile -/
def szs (xs : List (S × Nat)) : Nat := (xs.map fun q => sz q.1).sum
theorem szs_sides (s : S) (d : Nat) : szs ((sides s).map fun u => (u, d)) + 1 = sz s := by
  cases s <;> simp [szs, sides, sz]
def okP (b : Int) (xs : List (S × Nat)) : Prop := ∀ q ∈ xs, okS b q.1 = true ∧ q.2 + ht q.1 ≤ 12
theorem okP_sides {b : Int} {s : S} {d : Nat} (h : okS b s = true) (hd : d + ht s ≤ 12) : okP b ((sides s).map fun u => (u, d + 1)) := by
  intro q hq
  obtain ⟨u, hu, rfl⟩ := List.mem_map.mp hq
  cases s <;> simp only [sides, List.not_mem_nil, List.mem_cons, or_false] at hu
  · subst hu
    simp only [okS, ht] at h hd ⊢
    exact ⟨h, by omega⟩
  · subst hu
    simp only [okS, ht] at h hd ⊢
    exact ⟨h, by omega⟩
  · simp only [okS, ht, Bool.and_eq_true] at h hd
    rcases hu with rfl | rfl
    · exact ⟨h.1, by simp only; omega⟩
    · exact ⟨h.2, by simp only; omega⟩
theorem okT_of {b : Int} {s : S} (h : okS b s = true) : okT b s = true := by
  cases s <;> simp_all [okS, okT]
theorem szs_app (xs ys : List (S × Nat)) : szs (xs ++ ys) = szs xs + szs ys := by simp [szs]
theorem s_bo_is (b : Int) (o : D) (f : Nat) (o4 o5 o6 : Option D) (ps : List (S × Nat)) (s : S) (d : Nat) (hs : okS b s = true) (hd : d + ht s ≤ 12) (hf : f + 1 ≤ 24) (hl : ps.length ≤ 1000) :
    bo_is_sentence_1 g [some (dI b), some o, some (dI (f : Nat)), some (.obj 0), o4, o5, o6] [.lst ((ps ++ [(s, d)]).map pD)] =
      .ok (.nx [some (dI b), some o, some (dI ((f + 1 : Nat) : Int)), some (.obj 0), some (sD s), some (dI (d : Nat)), o6]) [.lst ((ps ++ (sides s).map fun u => (u, d + 1)).map pD)] := by
  have e1 := call_okc (m := [.lst (ps.map pD)]) (ds := [dI b, sD s]) (by simp [clo]) (v_told g b s) (clo_raw _)
  rw [okT_of hs] at e1
  have e2 := lc_sen g (some (dI b)) (some o) (some (dI ((f : Int) + 1))) (some (.obj 0)) s d [.lst (ps.map pD)] o6
  have hz : (ps.map pD).length + (((sides s).map fun u => (u, d + 1)).map pD).length ≤ sizeLine := by
    have : (sides s).length ≤ 2 := by cases s <;> simp [sides]
    rw [z16]
    simp
    omega
  have h1 : (24 < (f : Int) + 1) ↔ False := by simp; omega
  have h2 : (12 < (d : Int)) ↔ False := by simp; omega
  generalize ((sides s).map fun u => (u, d + 1)) = us at e2 hz ⊢
  rw [List.map_append, List.map_append, List.map_cons, List.map_nil]
  generalize us.map pD = us' at e2 hz ⊢
  generalize ps.map pD = ps' at e1 e2 hz ⊢
  simp -implicitDefEqProofs only [bo_is_sentence_1, q_seq, q_asg, q_eM0, q_var, List.getElem?_cons_zero, List.getElem?_cons_succ, bnd_ok, q_isl, if_true, q_pop, q_gT, List.length_cons, List.length_nil, Nat.zero_add, q_gsCons, q_gsNil, q_gN, gAnd_ok', List.set_cons_succ, List.set_cons_zero, Nat.reduceAdd]
  rw [q_aug rfl]
  simp -implicitDefEqProofs [e1, h1, h2, d_MOST_TUPLES, d_MOST_DEEP]
  rw [e2]
  simp -implicitDefEqProofs [hz]
theorem s_lp_is (b : Int) (o : D) : ∀ (k fuel : Nat) (f : Nat) (ps : List (S × Nat)) (o4 o5 o6 : Option D), szs ps ≤ k → k < fuel → f + szs ps ≤ 24 → okP b ps → ps.length ≤ 1000 →
    ∃ f' o4' o5', whl (bTru (eVar 3)) (bo_is_sentence_1 g) fuel [some (dI b), some o, some (dI (f : Nat)), some (.obj 0), o4, o5, o6] [.lst (ps.map pD)] = .ok (.nx [some (dI b), some o, some (dI (f' : Nat)), some (.obj 0), o4', o5', o6]) [.lst []]
  | k, 0, f, ps, o4, o5, o6, _, h, _, _, _ => absurd h (Nat.not_lt_zero _)
  | k, fuel + 1, f, ps, o4, o5, o6, hk, hf, hz, hp, hl => by
    rcases List.eq_nil_or_concat ps with rfl | ⟨qs, ⟨s, d⟩, rfl⟩
    · exact ⟨f, o4, o5, by simp [whl]⟩
    · rw [List.concat_eq_append] at hk hz hp hl ⊢
      have hq := hp (s, d) (by simp)
      have hzs : szs [(s, d)] = sz s := by simp [szs]
      have hs := szs_sides s (d + 1)
      rw [szs_app, hzs] at hk hz
      rw [List.length_append, List.length_singleton] at hl
      have hsl : (sides s).length ≤ 2 := by cases s <;> simp [sides]
      obtain ⟨f', o4', o5', ih⟩ := s_lp_is b o (k - 1) fuel (f + 1) (qs ++ (sides s).map fun u => (u, d + 1)) (some (sD s)) (some (dI (d : Nat))) o6 (by rw [szs_app]; omega) (by omega) (by rw [szs_app]; omega) (fun q hq' => by
        rcases List.mem_append.mp hq' with h | h
        · exact hp q (by simp [h])
        · exact okP_sides hq.1 hq.2 q h) (by
        have h1 : ∀ xs : List (S × Nat), xs.length ≤ szs xs := fun xs => by
          induction xs with
          | nil => simp
          | cons x xs ih =>
            have : 1 ≤ sz x.1 := by cases x.1 <;> simp [sz]
            simp only [szs, List.map_cons, List.sum_cons, List.length_cons] at ih ⊢
            omega
        have := h1 (qs ++ (sides s).map fun u => (u, d + 1))
        rw [szs_app] at this
        omega)
      refine ⟨f', o4', o5', ?_⟩
      rw [← ih]
      have ht : bTru (eVar 3) [some (dI b), some o, some (dI (f : Nat)), some (.obj 0), o4, o5, o6] [.lst ((qs ++ [(s, d)]).map pD)] = .ok true [.lst ((qs ++ [(s, d)]).map pD)] := by simp
      rw [whl_succ, ht, bnd_ok, if_pos rfl, s_bo_is g b o f o4 o5 o6 qs s d hq.1 hq.2 (by have := szs_sides s (d + 1); omega) (by omega), bnd_ok, aft_nx]
theorem v_is_sentence (b : Int) (s : S) (hs : okS b s = true) (hz : sz s ≤ 24) (hh : ht s ≤ 11) : mf_is_sentence g [dI b, sD s] [] = .ok (dB true) [.lst []] := by
  refine runF_ok rfl ?_
  obtain ⟨f', o4', o5', e⟩ := s_lp_is g b (sD s) (sz s) 1000 0 [(s, 1)] none none none (by simp [szs]) (by omega) (by simp [szs]; omega) (fun q hq => by
    simp at hq
    subst hq
    exact ⟨hs, by simp only; omega⟩) (by simp)
  have z := z2
  have z' := z1
  have e2 : lp_is_sentence_1 g [some (dI b), some (sD s), some (dI 0), some (.obj 0), none, none, none] [.lst [.tup [sD s, dI 1]]] = _ := e
  simp -implicitDefEqProofs [bd_is_sentence, z, z', e2]
/-- one that is none -/
theorem v_not_sentence (b : Int) (d : D) (h : mf_is_told g [dI b, d] [] = .ok (dB false) []) (hd : clo d = true) : ∃ m, mf_is_sentence g [dI b, d] [] = .ok (dB false) m := by
  refine ⟨[.lst []], runF_ok rfl ?_⟩
  have e1 := call_okc (m := [.lst []]) (ds := [dI b, d]) (by simp [clo, hd]) h (clo_raw _)
  have z := z2
  have z' := z1
  have e2 : bo_is_sentence_1 g [some (dI b), some d, some (dI 0), some (.obj 0), none, none, none] [.lst ([] ++ [.tup [d, dI 1]])] = .ok (.rt (dB false)) [.lst []] := by
    simp -implicitDefEqProofs only [bo_is_sentence_1, q_seq, q_asg, q_eM0, q_var, List.getElem?_cons_zero, List.getElem?_cons_succ, bnd_ok, q_isl, if_true, q_pop, q_gT, List.length_cons, List.length_nil, Nat.zero_add, q_gsCons, q_gsNil, q_gN, gAnd_ok', List.set_cons_succ, List.set_cons_zero, Nat.reduceAdd]
    rw [q_aug rfl]
    simp -implicitDefEqProofs [e1, d_MOST_TUPLES, d_MOST_DEEP]
  rw [List.nil_append] at e2
  have e3 : lp_is_sentence_1 g [some (dI b), some d, some (dI 0), some (.obj 0), none, none, none] [.lst [.tup [d, dI 1]]] = .ok (.rt (dB false)) [.lst []] := by
    unfold lp_is_sentence_1
    rw [show (1000 : Nat) = 999 + 1 from rfl, whl_succ]
    simp -implicitDefEqProofs [e2]
  simp -implicitDefEqProofs [bd_is_sentence, z, z', e3]
end K01
end Sm

set_option Elab.async false
set_option linter.all false
set_option maxRecDepth 100000
set_option maxHeartbeats 4000000
/-! k01: the plain reading, holds. -/
namespace Sm
namespace K01
open PySem PySem.Spec L2
variable (g : Gl0)
def okSS (b : Int) (s : S) : Prop := okS b s = true ∧ sz s ≤ 24 ∧ ht s ≤ 11
theorem c_bits (b : Int) (h : 1 ≤ b ∧ b ≤ 4) (m : MH) : callM false (mf_check_bits g) [dI b] m = .ok (.raw .non) m := call_okc (by simp) (by rw [v_check_bits, if_pos h]) (clo_raw _)
theorem c_bits_ex (b : Int) (h : ¬ (1 ≤ b ∧ b ≤ 4)) (m : MH) : callM false (mf_check_bits g) [dI b] m = .ex x_BadNumber [] m := call_ex (by simp) (by rw [v_check_bits, if_neg h])
theorem cb_number (b : Int) (d e : D) (h : ¬ (1 ≤ b ∧ b ≤ 4)) : mf_check_both g [dI b, d, e] [] = .ex x_BadNumber [] [] := by
  have e1 := c_bits_ex g b h []
  simp -implicitDefEqProofs [mf_check_both, runF, bd_check_both, e1]
theorem cb_spec (b : Int) (d e : D) (h : 1 ≤ b ∧ b ≤ 4) (hd : clo d = true) (ht : mf_is_told g [dI b, d] [] = .ok (dB false) []) : mf_check_both g [dI b, d, e] [] = .ex x_NotSpec [] [] := by
  have e1 := c_bits g b h []
  obtain ⟨m, e2⟩ := v_not_sentence g b d ht hd
  have e3 := call_okc (m := []) (ds := [dI b, d]) (by simp [hd]) e2 (clo_raw _)
  simp -implicitDefEqProofs [mf_check_both, runF, bd_check_both, e1, e3]
theorem cb_word (b : Int) (s : S) (a t : List Int) (h : 1 ≤ b ∧ b ≤ 4) (hs : okSS b s) (ha : a.length ≤ 100) (hl : t.length ≤ 100) :
    mf_check_both g [dI b, sD s, wD a t] [] = if okW b a t = true then .ok (.raw .non) [] else .ex x_NotWord [] [] := by
  have e1 := c_bits g b h []
  have e3 := call_okc (m := []) (ds := [dI b, sD s]) (by simp) (v_is_sentence g b s hs.1 hs.2.1 hs.2.2) (clo_raw _)
  by_cases hw : okW b a t = true
  · have e4 := call_okc (mf := mf_check_word g) (m := []) (ds := [dI b, wD a t]) (by simp [clo]) (by rw [v_check_word g b a t ha hl h, if_pos hw]) (clo_raw _)
    rw [if_pos hw]
    simp -implicitDefEqProofs [mf_check_both, runF, bd_check_both, e1, e3, e4]
  · have e4 := call_ex (nw := false) (mf := mf_check_word g) (m := []) (ds := [dI b, wD a t]) (by simp [clo]) (by rw [v_check_word g b a t ha hl h, if_neg hw])
    rw [if_neg hw]
    simp -implicitDefEqProofs [mf_check_both, runF, bd_check_both, e1, e3, e4]
theorem okW_ne {b : Int} {a t : List Int} (h : okW b a t = true) : a.length ≤ 40 ∧ t.length ≤ 40 ∧ t ≠ [] := by
  simp only [okW, okL, Bool.and_eq_true, decide_eq_true_eq] at h
  exact ⟨h.1.1, h.2.1.1, List.length_pos_iff.mp h.2.2⟩
theorem c_later (a t : List Int) (ha : a.length ≤ 100) (hl : t.length ≤ 100) (ht : t ≠ []) (m : MH) : callM false (mf_later_of g) [wD a t] m = .ok (lN (later a t)) m := call_okc (by simp) (v_later_of g a t ha hl ht) (clo_lN _)
theorem c_values (b : Int) (a t : List Int) (s : S) (ha : a.length ≤ 100) (hl : t.length ≤ 100) (ht' : t ≠ []) (hs : okS b s = true) (hh : ht s ≤ 39) (m : MH) : callM false (mf_values_of g n_values_of) [sD s, wD a t, lN (later a t)] m = .ok (lB (vals a t s)) m :=
  call_okc (by simp) (v_values_of g b a t ha hl ht' 40 s hs (by omega)) (clo_lB _)
theorem v_holds_told (b : Int) (a t : List Int) (s : S) (ha : a.length ≤ 100) (hl : t.length ≤ 100) (ht' : t ≠ []) (hs : okS b s = true) (hh : ht s ≤ 39) : mf_holds_told g [sD s, wD a t] [] = .ok (dB ((vals a t s).getD 0 false)) [] := by
  refine runF_ok rfl ?_
  have e1 := c_later g a t ha hl ht' []
  have e2 := c_values g b a t s ha hl ht' hs hh []
  have h0 := List.length_pos_iff.mpr ht'
  have e3 := atI_B (xs := vals a t s) (p := 0) (by rw [vals_len ht']; omega)
  have e3' : atI ((vals a t s).map dB) 0 = some (dB ((vals a t s).getD 0 false)) := e3
  generalize (vals a t s).getD 0 false = x at e3' ⊢
  simp -implicitDefEqProofs only [bd_holds_told, q_ret, q_2, q_call, q_cons, q_var, q_C, q_nil, List.map_cons, List.map_nil, List.cons_append, List.nil_append, List.length_cons, List.length_nil, List.getElem?_cons_zero, List.getElem?_cons_succ, bnd_ok, e1, e2, q_ixL, e3']
theorem v_holds (b : Int) (a t : List Int) (s : S) (h : 1 ≤ b ∧ b ≤ 4) (hs : okSS b s) (hw : okW b a t = true) : mf_holds g [dI b, sD s, wD a t] [] = .ok (dB ((vals a t s).getD 0 false)) [] := by
  have hn := okW_ne hw
  refine runF_ok rfl ?_
  have e1 := call_okc (mf := mf_check_both g) (m := []) (ds := [dI b, sD s, wD a t]) (by simp [clo]) (by rw [cb_word g b s a t h hs (by omega) (by omega), if_pos hw]) (clo_raw _)
  have e2 := call_okc (m := []) (ds := [sD s, wD a t]) (by simp [clo]) (v_holds_told g b a t s (by omega) (by omega) hn.2.2 hs.1 (by have := hs.2.2; omega)) (clo_raw _)
  generalize (vals a t s).getD 0 false = x at e2 ⊢
  simp -implicitDefEqProofs [bd_holds, e1, e2]
theorem v_holds_at (b : Int) (a t : List Int) (s : S) (h : 1 ≤ b ∧ b ≤ 4) (hs : okSS b s) (hw : okW b a t = true) : mf_holds_at g [dI b, sD s, wD a t] [] = .ok (.tup ((vals a t s).map dB)) [] := by
  have hn := okW_ne hw
  refine runF_ok rfl ?_
  have e1 := call_okc (mf := mf_check_both g) (m := []) (ds := [dI b, sD s, wD a t]) (by simp [clo]) (by rw [cb_word g b s a t h hs (by omega) (by omega), if_pos hw]) (clo_raw _)
  have e2 := c_later g a t (by omega) (by omega) hn.2.2 []
  have e3 := c_values g b a t s (by omega) (by omega) hn.2.2 hs.1 (by have := hs.2.2; omega) []
  generalize vals a t s = xs at e3 ⊢
  simp -implicitDefEqProofs [bd_holds_at, e1, e2, e3]
theorem x_holds {b : Int} {d e : D} {c : Nat} (hd : clo d = true) (he : clo e = true) (h : mf_check_both g [dI b, d, e] [] = .ex c [] []) : mf_holds g [dI b, d, e] [] = .ex c [] [] := by
  have e1 := call_ex (nw := false) (mf := mf_check_both g) (m := []) (ds := [dI b, d, e]) (by simp [hd, he]) h
  simp -implicitDefEqProofs [mf_holds, runF, bd_holds, e1]
theorem x_holds_at {b : Int} {d e : D} {c : Nat} (hd : clo d = true) (he : clo e = true) (h : mf_check_both g [dI b, d, e] [] = .ex c [] []) : mf_holds_at g [dI b, d, e] [] = .ex c [] [] := by
  have e1 := call_ex (nw := false) (mf := mf_check_both g) (m := []) (ds := [dI b, d, e]) (by simp [hd, he]) h
  simp -implicitDefEqProofs [mf_holds_at, runF, bd_holds_at, e1]
/-! asked -/
theorem asked0 (b : Int) (d e : D) (x : D) (m : MH) (hd : clo d = true) (he : clo e = true) (hx : clo x = true) (h : mf_holds g [dI b, d, e] [] = .ok x m) : mf__law_asked g [dI 0, dI b, d, e] [] = .ok x [] := by
  have e1 := call_okc (mf := mf_holds g) (m := []) (ds := [dI b, d, e]) (by simp [hd, he]) h hx
  refine runF_ok rfl ?_
  have z := z2
  simp -implicitDefEqProofs [bd__law_asked, sTryK, eCallF, List.lookup, i0, z, e1]
theorem asked0x (b : Int) (d e : D) (c : Nat) (z : Str) (hz : kd c = some z) (hd : clo d = true) (he : clo e = true) (h : mf_holds g [dI b, d, e] [] = .ex c [] []) : mf__law_asked g [dI 0, dI b, d, e] [] = .ok (.raw (.str z)) [] := by
  have e1 := call_ex (nw := false) (mf := mf_holds g) (m := []) (ds := [dI b, d, e]) (by simp [hd, he]) h
  refine runF_ok rfl ?_
  have z' := z2
  simp -implicitDefEqProofs [bd__law_asked, sTryK, eCallF, List.lookup, i0, z', e1, hz]
section
variable (ne : g.f_holds ≠ g.f_holds_at)
include ne
theorem asked1 (b : Int) (d e : D) (x : D) (m : MH) (hd : clo d = true) (he : clo e = true) (hx : clo x = true) (h : mf_holds_at g [dI b, d, e] [] = .ok x m) : mf__law_asked g [dI 1, dI b, d, e] [] = .ok x [] := by
  have e1 := call_okc (mf := mf_holds_at g) (m := []) (ds := [dI b, d, e]) (by simp [hd, he]) h hx
  refine runF_ok rfl ?_
  have z := z2
  have n1 : (g.f_holds_at == g.f_holds) = false := by simpa using Ne.symm ne
  simp -implicitDefEqProofs [bd__law_asked, sTryK, eCallF, List.lookup, i0, i1, z, e1, n1]
theorem asked1x (b : Int) (d e : D) (c : Nat) (z : Str) (hz : kd c = some z) (hd : clo d = true) (he : clo e = true) (h : mf_holds_at g [dI b, d, e] [] = .ex c [] []) : mf__law_asked g [dI 1, dI b, d, e] [] = .ok (.raw (.str z)) [] := by
  have e1 := call_ex (nw := false) (mf := mf_holds_at g) (m := []) (ds := [dI b, d, e]) (by simp [hd, he]) h
  refine runF_ok rfl ?_
  have z' := z2
  have n1 : (g.f_holds_at == g.f_holds) = false := by simpa using Ne.symm ne
  simp -implicitDefEqProofs [bd__law_asked, sTryK, eCallF, List.lookup, i0, i1, z', e1, hz, n1]
end
theorem asked2 (b : Int) (d e : D) (x : D) (m : MH) (hd : clo d = true) (he : clo e = true) (hx : clo x = true) (h : mf_is_word g [dI b, e] [] = .ok x m) : mf__law_asked g [dI 2, dI b, d, e] [] = .ok x [] := by
  have e1 := call_okc (mf := mf_is_word g) (m := []) (ds := [dI b, e]) (by simp [he]) h hx
  refine runF_ok rfl ?_
  simp -implicitDefEqProofs [bd__law_asked, sTryK, e1]
theorem asked2x (b : Int) (d e : D) (c : Nat) (z : Str) (hz : kd c = some z) (hd : clo d = true) (he : clo e = true) (h : mf_is_word g [dI b, e] [] = .ex c [] []) : mf__law_asked g [dI 2, dI b, d, e] [] = .ok (.raw (.str z)) [] := by
  have e1 := call_ex (nw := false) (mf := mf_is_word g) (m := []) (ds := [dI b, e]) (by simp [he]) h
  refine runF_ok rfl ?_
  simp -implicitDefEqProofs [bd__law_asked, sTryK, e1, hz]
end K01
end Sm

set_option Elab.async false
set_option linter.all false
set_option maxRecDepth 100000
set_option maxHeartbeats 4000000
/-! k01: the plain reading, draws. -/
namespace Sm
namespace K01
open PySem PySem.Spec L2
variable (g : Gl0)
abbrev lD (xs : List Int) : MO := .lst (xs.map dI)
def Dr (n : Nat) (xs : List Int) : Prop := (∀ x ∈ xs, 0 ≤ x) ∧ xs.length ≤ n
theorem Dr.nil {n : Nat} : Dr n [] := ⟨fun x hx => (nomatch hx), Nat.zero_le _⟩
theorem Dr.snoc {n k : Nat} {xs : List Int} {x : Int} (h : Dr n xs) (hx : 0 ≤ x) (hk : n + 1 ≤ k) : Dr k (xs ++ [x]) :=
  ⟨fun y hy => by
    rcases List.mem_append.mp hy with h' | h'
    · exact h.1 y h'
    · simp at h'; omega, by have := h.2; simp; omega⟩
theorem Dr.mono {n k : Nat} {xs : List Int} (h : Dr n xs) (hk : n ≤ k) : Dr k xs := ⟨h.1, Nat.le_trans h.2 hk⟩
theorem Dr.app {n k l : Nat} {xs ys : List Int} (h : Dr n xs) (h' : Dr k ys) (hk : n + k ≤ l) : Dr l (xs ++ ys) :=
  ⟨fun y hy => (List.mem_append.mp hy).elim (h.1 y) (h'.1 y), by have := h.2; have := h'.2; simp; omega⟩
theorem v_number (c : Int) : ∃ r, 0 ≤ r ∧ mf__law_number g [dI c] [] = .ok (dI r) [] := by
  by_cases h : c < 0
  · exact ⟨0 - c, by omega, runF_ok rfl (by simp [bd__law_number, h])⟩
  · exact ⟨c, by omega, runF_ok rfl (by simp [bd__law_number, h])⟩
theorem s_draws1 (d0 d2 : Option D) (r : Int) (o o1 o2 : Option D) (xs : List Int) (n : Nat) (hr : 0 ≤ r) (hx : Dr n xs) (hn : n ≤ 4000) :
    ∃ δ' m', lp__law_draws_1 g [d0, some (.obj 0), d2, some (dI r), o, o1, o2] [lD xs] = .ok (.nx δ') m' ∧ ∃ o3 o4 ys, δ' = [d0, some (.obj 0), d2, o3, o4, o1, o2] ∧ m' = [lD ys] ∧ Dr (n + 60) ys := by
  unfold lp__law_draws_1
  have e1 : iA gR1 (aCons (eC (.raw (.int 60))) aNil) [d0, some (.obj 0), d2, some (dI r), o, o1, o2] [lD xs] = .ok ((List.range 60).map fun i => .raw (.int (i : Nat))) [lD xs] := by
    rw [q_iA]
    simp only [q_cons, q_C, q_nil, bnd_ok]
    exact r1_nat (n := 60) (by omega) _
  rw [q_for, e1, bnd_ok]
  refine forL_ind (fun k δ m => ∃ r' o4 ys, δ = [d0, some (.obj 0), d2, some (dI r'), o4, o1, o2] ∧ m = [lD ys] ∧ 0 ≤ r' ∧ Dr (n + (60 - k)) ys ∧ k ≤ 60) (fun δ m => ∃ o3 o4 ys, δ = [d0, some (.obj 0), d2, o3, o4, o1, o2] ∧ m = [lD ys] ∧ Dr (n + 60) ys) ?_ _ _ _ ?_ ?_
  · rintro δ m ⟨r', o4, ys, rfl, rfl, h1, h2, h3⟩
    exact ⟨_, _, _, rfl, rfl, h2⟩
  · rintro d hd k δ m ⟨r', o4, ys, rfl, rfl, h1, h2, h3⟩
    obtain ⟨i, hi, rfl⟩ := List.mem_map.mp hd
    have hl := h2.2
    by_cases h0 : r' = 0
    · subst h0
      have hb : bo__law_draws_1 g [d0, some (.obj 0), d2, some (dI 0), some (dI (i : Nat)), o1, o2] [lD ys] = .ok (.bk [d0, some (.obj 0), d2, some (dI 0), some (dI (i : Nat)), o1, o2]) [lD ys] := by
        simp -implicitDefEqProofs [bo__law_draws_1]
      exact ⟨_, _, _, _, rfl, hb, _, _, ys, rfl, rfl, h2.mono (by omega)⟩
    · have hc : cPos r' 1000 = true := by simp [cPos]
      have hd' : cDiv r' 1000 = true := by simp [cDiv]
      have hz : ys.length < sizeLine := by rw [z16]; omega
      have hb : bo__law_draws_1 g [d0, some (.obj 0), d2, some (dI r'), some (dI (i : Nat)), o1, o2] [lD ys] = .ok (.nx [d0, some (.obj 0), d2, some (dI (r' / 1000)), some (dI (i : Nat)), o1, o2]) [lD (ys ++ [r' % 1000])] := by
        simp -implicitDefEqProofs [bo__law_draws_1, h0, hc, hd', hz]
      exact ⟨_, _, _, _, rfl, hb, r' / 1000, _, ys ++ [r' % 1000], rfl, rfl, by omega, h2.snoc (by omega) (by omega), by omega⟩
  · refine ⟨r, o, xs, rfl, rfl, hr, ?_, by simp⟩
    simpa using hx
theorem s_draws2 (d0 : Option D) (c : Int) (o3 o4 o5 o6 : Option D) (xs : List Int) (n : Nat) (hx : Dr n xs) (hn : n ≤ 4000) :
    ∃ δ' m', bo__law_draws_2 g [d0, some (.obj 0), some (dI c), o3, o4, o5, o6] [lD xs] = .ok (.nx δ') m' ∧ ∃ o3 o4 o5 o6 ys, δ' = [d0, some (.obj 0), some (dI c), o3, o4, o5, o6] ∧ m' = [lD ys] ∧ Dr (n + 60) ys := by
  obtain ⟨r, h1, h2⟩ := v_number g c
  have e1 := call_okc (m := [lD xs]) (ds := [dI c]) (by simp) h2 (clo_raw _)
  by_cases h : 1000000000000000000 ≤ r
  · obtain ⟨δ', m', h3, o3, o4, ys, h4, h5, h6⟩ := s_draws1 g d0 (some (dI c)) r o4 o5 o6 xs n h1 hx hn
    refine ⟨δ', m', ?_, o3, o4, o5, o6, ys, h4, h5, h6⟩
    rw [← h3]
    simp -implicitDefEqProofs [bo__law_draws_2, e1, h]
  · have hz : xs.length + 3 ≤ sizeLine := by have := hx.2; rw [z16]; omega
    have c1 : ∀ a b : Int, 0 < b → cPos a b = true := fun a b hb => by simp [cPos, hb]
    have z3' := z3
    have cm1 : ∀ a : Int, cMul a 48271 = true := fun a => cMul_r (by omega) (by omega)
    have cm2 : ∀ a : Int, cMul a 69621 = true := fun a => cMul_r (by omega) (by omega)
    have hb : bo__law_draws_2 g [d0, some (.obj 0), some (dI c), o3, o4, o5, o6] [lD xs] = .ok (.nx [d0, some (.obj 0), some (dI c), some (dI r), o4, some (dI ((r * 48271 + 11) % 2147483647)), some (dI ((((r * 48271 + 11) % 2147483647) * 69621 + r) % 2147483629))])
        [lD (xs ++ [r % 1000, (r * 48271 + 11) % 2147483647 % 1000, (((r * 48271 + 11) % 2147483647) * 69621 + r) % 2147483629 % 1000])] := by
      simp -implicitDefEqProofs [bo__law_draws_2, e1, h, c1, cm1, cm2, hz, z3']
    refine ⟨_, _, hb, _, _, _, _, _, rfl, rfl, fun x hx' => ?_, ?_⟩
    · rcases List.mem_append.mp hx' with h' | h'
      · exact hx.1 x h'
      · simp only [List.mem_cons, List.not_mem_nil, or_false] at h'
        rcases h' with rfl | rfl | rfl <;> omega
    · have := hx.2
      simp
      omega
theorem v_draws (ns : List Int) (hn : ns.length ≤ 63) : ∃ xs, mf__law_draws g [scrD ns] [] = .ok (.obj 0) [lD xs] ∧ Dr 4000 xs := by
  have hl : ∃ δ' m', lp__law_draws_2 g [some (scrD ns), some (.obj 0), none, none, none, none, none] [.lst []] = .ok (.nx δ') m' ∧ ∃ o2 o3 o4 o5 o6 ys, δ' = [some (scrD ns), some (.obj 0), o2, o3, o4, o5, o6] ∧ m' = [lD ys] ∧ Dr 3780 ys := by
    unfold lp__law_draws_2
    have e1 : iD (eVar 0) [some (scrD ns), some (.obj 0), none, none, none, none, none] [.lst []] = .ok (ns.map dI) [.lst []] := by simp [scrD]
    rw [q_for, e1, bnd_ok]
    refine forL_ind (fun k δ m => ∃ o2 o3 o4 o5 o6 ys, δ = [some (scrD ns), some (.obj 0), o2, o3, o4, o5, o6] ∧ m = [lD ys] ∧ Dr (3780 - 60 * k) ys ∧ k ≤ 63) _ ?_ _ _ _ ?_ ?_
    · rintro δ m ⟨o2, o3, o4, o5, o6, ys, h1, h2, h3, _⟩
      exact ⟨o2, o3, o4, o5, o6, ys, h1, h2, h3⟩
    · rintro d hd k δ m ⟨o2, o3, o4, o5, o6, ys, rfl, rfl, h3, h4⟩
      obtain ⟨c, hc, rfl⟩ := List.mem_map.mp hd
      obtain ⟨δ', m', h5, o3, o4, o5, o6, ys', h6, h7, h8⟩ := s_draws2 g (some (scrD ns)) c o3 o4 o5 o6 ys _ h3 (by omega)
      subst h6 h7
      exact ⟨_, _, _, _, rfl, h5, _, _, _, _, _, ys', rfl, rfl, h8.mono (by omega), by omega⟩
    · refine ⟨none, none, none, none, none, [], rfl, rfl, Dr.nil, by simpa using hn⟩
  obtain ⟨δ', m', e, o2, o3, o4, o5, o6, ys, rfl, rfl, h⟩ := hl
  refine ⟨ys.reverse, runF_ok rfl ?_, fun x hx => h.1 x (List.mem_reverse.mp hx), by have := h.2; simp; omega⟩
  have z0 : 0 ≤ sizeLine := Nat.zero_le _
  simp -implicitDefEqProofs [bd__law_draws, e]
theorem v_next (n : Nat) (xs : List Int) (h : Dr n xs) : ∃ x ys, mf__law_next g [.obj 0] [lD xs] = .ok (dI x) [lD ys] ∧ 0 ≤ x ∧ Dr n ys := by
  rcases List.eq_nil_or_concat xs with rfl | ⟨ys, x, rfl⟩
  · exact ⟨0, [], runF_ok rfl (by simp [bd__law_next]), by omega, h⟩
  · rw [List.concat_eq_append] at h ⊢
    refine ⟨x, ys, runF_ok rfl ?_, h.1 x (by simp), fun y hy => h.1 y (by simp [hy]), by have := h.2; simp at this; omega⟩
    have e : lD (ys ++ [x]) = .lst (ys.map dI ++ [dI x]) := by simp
    rw [e]
    simp -implicitDefEqProofs [bd__law_next]
theorem c_next (n : Nat) (xs : List Int) (h : Dr n xs) (m : MH) (j : Nat) (hm : m[j]? = some (lD xs)) : ∃ x ys, callM false (mf__law_next g) [.obj j] m = .ok (dI x) (m.set j (lD ys)) ∧ 0 ≤ x ∧ Dr n ys := by
  obtain ⟨x, ys, h1, h2, h3⟩ := v_next g n xs h
  exact ⟨x, ys, call_objok (by simp) hm (by simp) h1 (by simp) (clo_raw _), h2, h3⟩
theorem c_next0 (n : Nat) (xs : List Int) (h : Dr n xs) (m : MH) : ∃ x ys, callM false (mf__law_next g) [.obj 0] (lD xs :: m) = .ok (dI x) (lD ys :: m) ∧ 0 ≤ x ∧ Dr n ys := c_next g n xs h _ 0 rfl
end K01
end Sm

set_option Elab.async false
set_option linter.all false
set_option maxRecDepth 100000
set_option maxHeartbeats 4000000
/-! k01: the plain reading, more draws, words. -/
namespace Sm
namespace K01
open PySem PySem.Spec L2
variable (g : Gl0)
theorem s_more (d0 : Option D) (n : Nat) (hn : n ≤ 300) (sd : Int) (o : Option D) (xs : List Int) :
    ∃ δ' m', lp__law_more_1 g [some (.obj 0), some (dI (n : Nat)), some (dI sd), some (.obj 1), o] [lD xs, .lst []] = .ok (.nx δ') m' ∧ ∃ o2 o4 ys, δ' = [some (.obj 0), some (dI (n : Nat)), o2, some (.obj 1), o4] ∧ m' = [lD xs, lD ys] ∧ Dr 300 ys := by
  unfold lp__law_more_1
  have e1 : iA gR1 (aCons (eVar 1) aNil) [some (.obj 0), some (dI (n : Nat)), some (dI sd), some (.obj 1), o] [lD xs, .lst []] = .ok ((List.range n).map fun i => .raw (.int (i : Nat))) [lD xs, .lst []] := by
    rw [q_iA]
    simp -implicitDefEqProofs only [q_cons, q_var, q_nil, bnd_ok, List.getElem?_cons_zero, List.getElem?_cons_succ]
    exact r1_nat (by omega) _
  rw [q_for, e1, bnd_ok]
  refine forL_ind (fun k δ m => ∃ sd o4 ys, δ = [some (.obj 0), some (dI (n : Nat)), some (dI sd), some (.obj 1), o4] ∧ m = [lD xs, lD ys] ∧ Dr (300 - k) ys ∧ k ≤ 300) _ ?_ _ _ _ ?_ ?_
  · rintro δ m ⟨sd, o4, ys, rfl, rfl, h1, h2⟩
    exact ⟨_, _, ys, rfl, rfl, h1⟩
  · rintro d hd k δ m ⟨sd, o4, ys, rfl, rfl, h1, h2⟩
    obtain ⟨i, hi, rfl⟩ := List.mem_map.mp hd
    have c1 : ∀ a b : Int, 0 < b → cPos a b = true := fun a b hb => by simp [cPos, hb]
    have cm1 : ∀ a : Int, cMul a 48271 = true := fun a => cMul_r (by omega) (by omega)
    have c3 : ∀ a : Int, cDiv a 7 = true := fun a => by simp [cDiv]
    have hz : ys.length < sizeLine := by have := h1.2; rw [z16]; omega
    have hb : bo__law_more_1 g [some (.obj 0), some (dI (n : Nat)), some (dI sd), some (.obj 1), some (dI (i : Nat))] [lD xs, lD ys] =
        .ok (.nx [some (.obj 0), some (dI (n : Nat)), some (dI ((sd * 48271 + 12345) % 2147483647)), some (.obj 1), some (dI (i : Nat))]) [lD xs, lD (ys ++ [(sd * 48271 + 12345) % 2147483647 / 7 % 1000])] := by
      simp -implicitDefEqProofs [bo__law_more_1, c1, cm1, c3, hz]
    exact ⟨_, _, _, _, rfl, hb, _, _, _, rfl, rfl, h1.snoc (by omega) (by omega), by omega⟩
  · exact ⟨sd, o, [], rfl, rfl, Dr.nil, by simpa using hn⟩
theorem v_more (xs : List Int) (hx : Dr 4000 xs) : ∃ ys zs ws, mf__law_more g [.obj 0, dI 300] [lD xs] = .ok (.obj 2) [lD ys, lD zs, lD ws] ∧ Dr 4300 ws := by
  obtain ⟨x1, xs1, e1, h1, h2⟩ := c_next0 g _ xs hx []
  obtain ⟨x2, xs2, e2, h3, h4⟩ := c_next0 g _ xs1 h2 []
  obtain ⟨δ', m', e3, o2, o4, ys, rfl, rfl, h5⟩ := s_more g none 300 (by omega) (1000 * x1 + x2 + 1) none xs2
  refine ⟨xs2, ys, ys ++ xs2, runF_ok rfl ?_, h5.app h4 (by omega)⟩
  have cm : ∀ a : Int, cMul 1000 a = true := fun a => cMul_l (by omega) (by omega)
  have z0 : 0 ≤ sizeLine := Nat.zero_le _
  have hz : ys.length + xs2.length ≤ sizeLine := by have := h5.2; have := h4.2; rw [z16]; omega
  have e3' : lp__law_more_1 g [some (.obj 0), some (dI 300), some (dI (1000 * x1 + x2 + 1)), some (.obj 1), none] [lD xs2, .lst []] = _ := e3
  simp -implicitDefEqProofs [bd__law_more, e1, e2, cm, e3', hz]
theorem c_more (n j : Nat) (xs : List Int) (hx : Dr 4000 xs) (m : MH) (hj : m[j]? = some (lD xs)) : ∃ ys ws, callM true (mf__law_more g) [.obj j, dI 300] m = .ok (.obj m.length) (m.set j (lD ys) ++ [lD ws]) ∧ Dr 4300 ws := by
  obtain ⟨ys, zs, ws, h, h2⟩ := v_more g xs hx
  exact ⟨ys, ws, call_objnew (j := 1) (by simp) hj (by simp) h (by simp) rfl (by simp), h2⟩
/-! words -/
theorem mod_nat (x : Int) (n : Nat) (hn : 0 < n) : ∃ k : Nat, x % (n : Int) = (k : Int) ∧ k < n :=
  ⟨(x % (n : Int)).toNat, by have := Int.emod_nonneg x (show (n : Int) ≠ 0 by omega); omega, by have := Int.emod_nonneg x (show (n : Int) ≠ 0 by omega); have := Int.emod_lt_of_pos x (show (0 : Int) < n by omega); omega⟩
def Lt (l : Int) (xs : List Int) : Prop := ∀ x ∈ xs, 0 ≤ x ∧ x < l
theorem s_letters (L : Fr → MH → R (List D)) (n k : Nat) (l : Int) (hl : 0 < l) (xs : List Int) (hx : Dr n xs) (I : Fr → MH → R (List D)) (δ : Fr) (ys : List Int) (hy : Dr n ys)
    (hI : I δ [lD xs] = .ok ((List.range k).map fun i => .raw (.int (i : Nat))) [lD ys]) (hk : k ≤ 100) (o2 o3 : Option D) (hδ : δ = [some (.obj 0), some (dI l), o2, o3]) :
    ∃ zs us, lcF [3] I (gN 3) bTrue (e2 gMod (eA gInt (aCons (eCall false (mf__law_next g) (aCons (eVar 0) (aNil))) (aNil))) (eVar 1)) δ [lD xs] = .ok (zs.map dI) [lD us] ∧ Dr n us ∧ zs.length = k ∧ Lt l zs := by
  subst hδ
  obtain ⟨es, m', h1, ⟨us, rfl, h2⟩, h3, h4⟩ := lcF_ind (vs := [3]) (G := gN 3) (T := bTrue) (E := e2 gMod (eA gInt (aCons (eCall false (mf__law_next g) (aCons (eVar 0) (aNil))) (aNil))) (eVar 1)) (fun m => ∃ us, m = [lD us] ∧ Dr n us) (fun e => ∃ x, e = dI x ∧ 0 ≤ x ∧ x < l) _ hI (by simp; rw [z16]; omega) ⟨ys, rfl, hy⟩ (fun d hd m hm => by
    obtain ⟨us, rfl, hu⟩ := hm
    obtain ⟨x, us', e1, hx', hu'⟩ := c_next0 g n us hu []
    have hc : cPos x l = true := by simp [cPos, hl]
    refine ⟨_, dI (x % l), [lD us'], rfl, rfl, ?_, ⟨us', rfl, hu'⟩, _, rfl, Int.emod_nonneg _ (by omega), Int.emod_lt_of_pos _ hl⟩
    simp -implicitDefEqProofs [wipeF, e1, hc])
  obtain ⟨zs, rfl, h5⟩ := list_of (f := dI) h4
  exact ⟨zs, us, h1, h2, by simpa using h3, h5⟩
theorem v_word (n : Nat) (l : Int) (hl : 0 < l) (xs : List Int) (hx : Dr n xs) : ∃ a t ys, mf__law_word g [.obj 0, dI l] [lD xs] = .ok (wD a t) [lD ys] ∧ Dr n ys ∧ a.length ≤ 3 ∧ 1 ≤ t.length ∧ t.length ≤ 4 ∧ Lt l a ∧ Lt l t := by
  have c1 : ∀ a b : Int, 0 < b → cPos a b = true := fun a b hb => by simp [cPos, hb]
  obtain ⟨x1, xs1, r1, h1, d1⟩ := c_next0 g _ xs hx []
  obtain ⟨k1, f1, f2⟩ := mod_nat x1 4 (by omega)
  have hI1 : iA gR1 (aCons (e2 gMod (eA gInt (aCons (eCall false (mf__law_next g) (aCons (eVar 0) (aNil))) (aNil))) (eC (.raw (.int 4)))) (aNil)) [some (.obj 0), some (dI l), none, none] [lD xs] = .ok ((List.range k1).map fun i => .raw (.int (i : Nat))) [lD xs1] := by
    have e : aCons (e2 gMod (eA gInt (aCons (eCall false (mf__law_next g) (aCons (eVar 0) (aNil))) (aNil))) (eC (.raw (.int 4)))) (aNil) [some (.obj 0), some (dI l), none, none] [lD xs] = .ok [dI (k1 : Nat)] [lD xs1] := by
      have f1' : x1 % 4 = (k1 : Int) := f1
      simp -implicitDefEqProofs [r1, c1, f1']
    rw [q_iA, e, bnd_ok, r1_nat (by omega)]
  obtain ⟨a, us, g1, g2, g3, g4⟩ := s_letters g (lc__law_word_1 g) n k1 l hl xs hx _ _ xs1 d1 hI1 (by omega) _ _ rfl
  have g1' : lc__law_word_1 g [some (.obj 0), some (dI l), none, none] [lD xs] = .ok (a.map dI) [lD us] := g1
  obtain ⟨x2, xs2, r2, h2, d2⟩ := c_next0 g _ us g2 []
  obtain ⟨k2, f3, f4⟩ := mod_nat x2 4 (by omega)
  have hI2 : iA gR1 (aCons (e2 gAdd (eC (.raw (.int 1))) (e2 gMod (eA gInt (aCons (eCall false (mf__law_next g) (aCons (eVar 0) (aNil))) (aNil))) (eC (.raw (.int 4))))) (aNil)) [some (.obj 0), some (dI l), some (tI a), none] [lD us] = .ok ((List.range (1 + k2)).map fun i => .raw (.int (i : Nat))) [lD xs2] := by
    have e : aCons (e2 gAdd (eC (.raw (.int 1))) (e2 gMod (eA gInt (aCons (eCall false (mf__law_next g) (aCons (eVar 0) (aNil))) (aNil))) (eC (.raw (.int 4))))) (aNil) [some (.obj 0), some (dI l), some (tI a), none] [lD us] = .ok [dI ((1 + k2 : Nat) : Int)] [lD xs2] := by
      have f1' : x2 % 4 = (k2 : Int) := f3
      simp -implicitDefEqProofs [r2, c1, f1']
    rw [q_iA, e, bnd_ok, r1_nat (by omega)]
  obtain ⟨t, vs, g5, g6, g7, g8⟩ := s_letters g (lc__law_word_2 g) n (1 + k2) l hl us g2 _ _ xs2 d2 hI2 (by omega) _ _ rfl
  have g5' : lc__law_word_2 g [some (.obj 0), some (dI l), some (tI a), none] [lD us] = .ok (t.map dI) [lD vs] := g5
  refine ⟨a, t, vs, runF_ok rfl ?_, g6, by omega, by omega, by omega, g4, g8⟩
  have z := z2
  simp -implicitDefEqProofs [bd__law_word, g1', g5', z]
end K01
end Sm

set_option Elab.async false
set_option linter.all false
set_option maxRecDepth 100000
set_option maxHeartbeats 4000000
/-! k01: the plain reading, sentences drawn. -/
namespace Sm
namespace K01
open PySem PySem.Spec L2
variable (g : Gl0)
def szm : Nat → Nat
  | 0 => 1
  | d + 1 => 2 * szm d + 2
theorem szm_pos (d : Nat) : 1 ≤ szm d := by cases d <;> simp [szm]
/-- a sentence of so many bits, not deeper -/
def Sen (b : Int) (d : Nat) (s : S) : Prop := okS b s = true ∧ ht s ≤ d + 1 ∧ sz s ≤ szm d
section
variable (r : List D → MH → R D) (b : Int) (hb : 1 ≤ b)
include hb
theorem sen_leaf (n : Nat) (d : Nat) (xs : List Int) (hx : Dr n xs) (o0 : Option D) (o1' : SmS) (k : Int) (hk : d = 0 ∨ k < 2) :
    ∃ s ys, (sSeq (sIf (bOr (bVal (e2 gEq (eVar 2) (eC (.raw (.int 0))))) (bVal (e2 gLt (eVar 3) (eC (.raw (.int 2)))))) (sRet (eIf (bVal (e2 gGt (e2 gMod (eA gInt (aCons (eCall false (mf__law_next g) (aCons (eVar 0) (aNil))) (aNil))) (eC (.raw (.int 8)))) (eC (.raw (.int 0))))) (eA gTup (aCons (eC (.raw (.str "bit"))) (aCons (e2 gMod (eA gInt (aCons (eCall false (mf__law_next g) (aCons (eVar 0) (aNil))) (aNil))) (eVar 1)) (aNil)))) (eA gTup (aCons (eC (.raw (.str "yes"))) (aNil))))) (sNext)) o1')
      [some (.obj 0), some (dI b), some (dI (d : Nat)), some (dI k), o0] [lD xs] = .ok (.rt (sD s)) [lD ys] ∧ Dr n ys ∧ Sen b d s := by
  obtain ⟨x, ys, h1, h2, h3⟩ := c_next0 g n xs hx []
  obtain ⟨x', ys', h1', h2', h3'⟩ := c_next0 g n ys h3 []
  have c1 : cPos x 8 = true := by simp [cPos]
  have c2 : cPos x' b = true := by simp [cPos]; omega
  have z := z2
  have z' := z1
  have hc : bOr (bVal (e2 gEq (eVar 2) (eC (.raw (.int 0))))) (bVal (e2 gLt (eVar 3) (eC (.raw (.int 2))))) [some (.obj 0), some (dI b), some (dI (d : Nat)), some (dI k), o0] [lD xs] = .ok true [lD xs] := by
    by_cases hd : d = 0
    · subst hd
      simp -implicitDefEqProofs
    · have hk' := hk.resolve_left hd
      simp -implicitDefEqProofs [hd, hk']
  by_cases h0 : 0 < x % 8
  · refine ⟨.bit (x' % b), ys', ?_, h3', ?_, by simp [ht], by have := szm_pos d; simpa [sz] using this⟩
    · refine seq_rt ?_
      rw [q_sIf, hc, bnd_ok, if_pos rfl]
      simp -implicitDefEqProofs [h1, h1', c1, c2, z, h0, sD]
    · have := Int.emod_nonneg x' (show b ≠ 0 by omega)
      have := Int.emod_lt_of_pos x' (show 0 < b by omega)
      simp [okS]
      omega
  · refine ⟨.yes, ys, ?_, h3, rfl, by simp [ht], by have := szm_pos d; simpa [sz] using this⟩
    refine seq_rt ?_
    rw [q_sIf, hc, bnd_ok, if_pos rfl]
    simp -implicitDefEqProofs [h1, c1, z', h0, sD]
/-- what the calls below give -/
def Rec (r : List D → MH → R D) (b : Int) (d : Nat) : Prop := ∀ (n : Nat) (xs : List Int), Dr n xs → ∃ s ys, callM false r [.obj 0, dI b, dI (d : Nat)] [lD xs] = .ok (sD s) [lD ys] ∧ Dr n ys ∧ Sen b d s
theorem sen_step (d : Nat) (hr : ∀ d', d' + 1 = d → Rec r b d') (n : Nat) (xs : List Int) (hx : Dr n xs) :
    ∃ s ys, bd__law_sentence g r [some (.obj 0), some (dI b), some (dI (d : Nat)), none, none] [lD xs] = .ok (.rt (sD s)) [lD ys] ∧ Dr n ys ∧ Sen b d s := by
  obtain ⟨x, ys, h1, h2, h3⟩ := c_next0 g n xs hx []
  obtain ⟨k, hk, hk'⟩ := mod_nat x 11 (by omega)
  have hk2 : x % 11 = (k : Int) := hk
  have c1 : cPos x 11 = true := by simp [cPos]
  have ha : sAsg (e2 gMod (eA gInt (aCons (eCall false (mf__law_next g) (aCons (eVar 0) (aNil))) (aNil))) (eC (.raw (.int 11)))) (gN 3) [some (.obj 0), some (dI b), some (dI (d : Nat)), none, none] [lD xs] = .ok (.nx [some (.obj 0), some (dI b), some (dI (d : Nat)), some (dI (k : Nat)), none]) [lD ys] := by
    simp -implicitDefEqProofs [h1, c1, hk2]
  unfold bd__law_sentence
  rw [seq_nx ha]
  by_cases hl : d = 0 ∨ k < 2
  · exact sen_leaf g b hb n d ys h3 _ _ k (by omega)
  have hd : d ≠ 0 := fun e => hl (.inl e)
  obtain ⟨d', rfl⟩ := Nat.exists_eq_succ_of_ne_zero hd
  have hrec := hr d' rfl
  obtain ⟨s, us, g1, g2, g3, g4, g5⟩ := hrec n ys h3
  obtain ⟨u, vs, g1', g2', g3', g4', g5'⟩ := hrec n us g2
  have f1 : ((d' : Int) + 1 = 0) ↔ False := by simp; omega
  have f2 : (d' : Int) + 1 - 1 = d' := by omega
  have f3 : ((d'.succ : Nat) : Int) = (d' : Int) + 1 := rfl
  have z := z2
  have z' := z1
  have z'' := z3
  have z4 : 5 ≤ sizeLine := by rw [z16]; omega
  have hp := szm_pos d'
  rw [f3]
  have hs : szm d'.succ = 2 * szm d' + 2 := rfl
  have hc : k = 2 ∨ k = 3 ∨ k = 4 ∨ k = 5 ∨ k = 6 ∨ k = 7 ∨ k = 8 ∨ k = 9 ∨ k = 10 := by omega
  rcases hc with rfl | rfl | rfl | rfl | rfl | rfl | rfl | rfl | rfl
  · refine ⟨.not s, us, ?_, g2, g3, by simp only [ht]; omega, by rw [hs]; simp only [sz]; omega⟩
    simp -implicitDefEqProofs [f1, f2, g1, i0, i1, z, z', sD]
  · refine ⟨.next s, us, ?_, g2, g3, by simp only [ht]; omega, by rw [hs]; simp only [sz]; omega⟩
    simp -implicitDefEqProofs [f1, f2, g1, i0, i1, z, z', sD]
  · refine ⟨.bi .release (.not .yes) s, us, ?_, g2, by simp [okS, g3], by simp only [ht]; omega, by rw [hs]; simp only [sz]; omega⟩
    simp -implicitDefEqProofs [f1, f2, g1, i0, i1, z, z', z'', sD, Bi.nm]
  · refine ⟨.bi .until .yes s, us, ?_, g2, by simp [okS, g3], by simp only [ht]; omega, by rw [hs]; simp only [sz]; omega⟩
    simp -implicitDefEqProofs [f1, f2, g1, i0, i1, z, z', z'', sD, Bi.nm]
  · refine ⟨.bi .and s u, vs, ?_, g2', by simp [okS, g3, g3'], by simp only [ht]; omega, by rw [hs]; simp only [sz]; omega⟩
    simp -implicitDefEqProofs [f1, f2, g1, g1', i0, i1, z, z', z'', z4, sD, Bi.nm]
  · refine ⟨.bi .or s u, vs, ?_, g2', by simp [okS, g3, g3'], by simp only [ht]; omega, by rw [hs]; simp only [sz]; omega⟩
    simp -implicitDefEqProofs [f1, f2, g1, g1', i0, i1, z, z', z'', z4, sD, Bi.nm]
  · refine ⟨.bi .until s u, vs, ?_, g2', by simp [okS, g3, g3'], by simp only [ht]; omega, by rw [hs]; simp only [sz]; omega⟩
    simp -implicitDefEqProofs [f1, f2, g1, g1', i0, i1, i2, z, z', z'', z4, sD, Bi.nm]
  · refine ⟨.bi .release s u, vs, ?_, g2', by simp [okS, g3, g3'], by simp only [ht]; omega, by rw [hs]; simp only [sz]; omega⟩
    simp -implicitDefEqProofs [f1, f2, g1, g1', i0, i1, i2, Sm.i3, z, z', z'', z4, sD, Bi.nm]
  · refine ⟨.bi .or s u, vs, ?_, g2', by simp [okS, g3, g3'], by simp only [ht]; omega, by rw [hs]; simp only [sz]; omega⟩
    simp -implicitDefEqProofs [f1, f2, g1, g1', i0, i1, i2, Sm.i4, z, z', z'', z4, sD, Bi.nm]
end
theorem v_sentence (b : Int) (hb : 1 ≤ b) : ∀ (f d : Nat), d < f → ∀ (n : Nat) (xs : List Int), Dr n xs → ∃ s ys, mf__law_sentence g f [.obj 0, dI b, dI (d : Nat)] [lD xs] = .ok (sD s) [lD ys] ∧ Dr n ys ∧ Sen b d s
  | 0, d, h => absurd h (Nat.not_lt_zero _)
  | f + 1, d, h => fun n xs hx => by
    obtain ⟨s, ys, h1, h2⟩ := sen_step g (mf__law_sentence g f) b hb d (fun d' hd n xs hx => by
      obtain ⟨s, ys, h1, h2, h3⟩ := v_sentence b hb f d' (by omega) n xs hx
      exact ⟨s, ys, call_objok (n := 0) (by simp) rfl (by simp) h1 (by simp) (clo_sD _), h2, h3⟩) n xs hx
    exact ⟨s, ys, runF_ok rfl h1, h2⟩
theorem c_sentence (b : Int) (hb : 1 ≤ b) (n : Nat) (xs : List Int) (hx : Dr n xs) (m : MH) (j : Nat) (hj : m[j]? = some (lD xs)) : ∃ s ys, callM false (mf__law_sentence g n__law_sentence) [.obj j, dI b, dI 3] m = .ok (sD s) (m.set j (lD ys)) ∧ Dr n ys ∧ Sen b 3 s := by
  obtain ⟨s, ys, h1, h2, h3⟩ := v_sentence g b hb 40 3 (by omega) n xs hx
  exact ⟨s, ys, call_objok (by simp) hj (by simp) h1 (by simp) (clo_sD _), h2, h3⟩
end K01
end Sm

set_option Elab.async false
set_option linter.all false
set_option maxRecDepth 100000
set_option maxHeartbeats 4000000
/-! k01: the plain reading, the law's own values. -/
namespace Sm
namespace K01
open PySem PySem.Spec L2
variable (g : Gl0)
theorem v_lletter (a t : List Int) (ht : t ≠ []) (n : Nat) : mf__law_letter g [wD a t, dI n] [] = .ok (dI (lt a t n)) [] := by
  refine runF_ok rfl ?_
  have hl : 0 < t.length := List.length_pos_iff.mpr ht
  by_cases h : n < a.length
  · simp -implicitDefEqProofs [bd__law_letter, h, i0, i1, atI_mapN h, lt]
  · have e : ((n : Int) - (a.length : Int)) % (t.length : Int) = (((n - a.length : Nat)) : Int) % (t.length : Int) := by
      rw [Int.ofNat_sub (by omega)]
    have hp : cPos ((n : Int) - (a.length : Int)) (t.length : Int) = true := by simp [cPos, hl]
    simp -implicitDefEqProofs [bd__law_letter, h, hp, e, i0, i1, ix_round ht, lt]
theorem c_lletter (a t : List Int) (ht : t ≠ []) (n : Nat) (m : MH) : callM false (mf__law_letter g) [wD a t, dI n] m = .ok (dI (lt a t n)) m := call_okc (by simp) (v_lletter g a t ht n) (clo_raw _)
theorem s_lbit (l : Int) (i : Nat) (hi : i ≤ 20) (o : Option D) (m : MH) : ∃ δ' m', lp__law_bit_1 g [some (dI l), some (dI (i : Nat)), some (dI 1), o] m = .ok (.nx δ') m' ∧ ∃ o3, δ' = [some (dI l), some (dI (i : Nat)), some (dI (2 ^ i)), o3] ∧ m' = m := by
  unfold lp__law_bit_1
  have h1 : iA gR1 (aCons (eVar 1) aNil) [some (dI l), some (dI (i : Nat)), some (dI 1), o] m = .ok ((List.range i).map fun i => .raw (.int (i : Nat))) m := by
    rw [q_iA]
    simp -implicitDefEqProofs only [q_cons, q_var, q_nil, bnd_ok, List.getElem?_cons_zero, List.getElem?_cons_succ]
    exact r1_nat (by omega) _
  rw [q_for, h1, bnd_ok]
  refine forL_ind (fun k δ m' => ∃ o3, δ = [some (dI l), some (dI (i : Nat)), some (dI (2 ^ (i - k))), o3] ∧ m' = m ∧ k ≤ i) _ ?_ _ _ _ ?_ ?_
  · rintro δ m' ⟨o3, rfl, rfl, _⟩
    exact ⟨o3, rfl, rfl⟩
  · rintro d hd k δ m' ⟨o3, rfl, rfl, hk⟩
    obtain ⟨j, hj, rfl⟩ := List.mem_map.mp hd
    have cm : ∀ a : Int, cMul 2 a = true := fun a => cMul_l (by omega) (by omega)
    have hb : bo__law_bit_1 g [some (dI l), some (dI (i : Nat)), some (dI (2 ^ (i - (k + 1)))), some (dI (j : Nat))] m' = .ok (.nx [some (dI l), some (dI (i : Nat)), some (dI (2 * 2 ^ (i - (k + 1)))), some (dI (j : Nat))]) m' := by
      simp -implicitDefEqProofs [bo__law_bit_1, cm]
    refine ⟨_, _, _, _, rfl, hb, some (dI (j : Nat)), ?_, rfl, by omega⟩
    rw [show i - k = i - (k + 1) + 1 by omega, Int.pow_succ, Int.mul_comm]
  · exact ⟨o, by simp, rfl, by simp⟩
theorem pow_small (i : Nat) (hi : i ≤ 20) : (0 : Int) < 2 ^ i ∧ (2 : Int) ^ i < 1073741824 := by
  have h1 : (2 : Nat) ^ i ≤ 2 ^ 20 := Nat.pow_le_pow_right (by omega) hi
  have h2 : (0 : Nat) < 2 ^ i := Nat.pow_pos (by omega)
  have h3 : ((2 ^ i : Nat) : Int) = (2 : Int) ^ i := by simp
  have h4 : (2 : Nat) ^ 20 = 1048576 := by decide
  omega
theorem v_lbit (l : Int) (i : Nat) (hi : i ≤ 20) : mf__law_bit g [dI l, dI (i : Nat)] [] = .ok (dI (l / 2 ^ i % 2)) [] := by
  obtain ⟨δ', m', h, o3, rfl, rfl⟩ := s_lbit g l i hi none []
  refine runF_ok rfl ?_
  have hp := pow_small i hi
  have c1 : cDiv l (2 ^ i) = true := by simp [cDiv, hp.1, hp.2]
  have c2 : ∀ a : Int, cPos a 2 = true := fun a => by simp [cPos]
  simp -implicitDefEqProofs [bd__law_bit, h, c1, c2]
theorem bitAnd1 (x : Int) : Builtin.bitAnd x 1 = x % 2 := by
  unfold Builtin.bitAnd Builtin.bitNot
  by_cases h : 0 ≤ x
  · simp only [decide_eq_true h, decide_eq_true (show (0 : Int) ≤ 1 by omega)]
    rw [show (1 : Int).toNat = 1 from rfl, Nat.and_one_is_mod]
    omega
  · simp only [decide_eq_false h, decide_eq_true (show (0 : Int) ≤ 1 by omega)]
    rw [show (1 : Int).toNat = 1 from rfl, Nat.and_comm, Nat.and_one_is_mod]
    omega
theorem c_lbit (l : Int) (i : Int) (h0 : 0 ≤ i) (hi : i ≤ 20) (m : MH) : callM false (mf__law_bit g) [dI l, dI i] m = .ok (dI (l / 2 ^ i.toNat % 2)) m := by
  have := v_lbit g l i.toNat (by omega)
  rw [show ((i.toNat : Nat) : Int) = i by omega] at this
  exact call_okc (by simp) this (clo_raw _)
theorem later_eq {a t : List Int} (ht : t ≠ []) : (List.range (a.length + t.length)).map (nxt a t) = later a t := by
  refine List.ext_getElem (by simp [later_len ht]) fun p h1 h2 => ?_
  rw [List.getElem_map, List.getElem_range]
  have h3 : p < a.length + t.length := by simpa using h1
  have := later_nxt ht h3
  rw [← this, List.getD_eq_getElem?_getD, List.getElem?_eq_getElem h2, Option.getD_some]
section
variable (r : List D → MH → R D) (a t : List Int) (ht' : t ≠ []) (ha : a.length ≤ 100) (hl : t.length ≤ 100) (f1 f2 : List Bool) (d0 : D) (m : MH)
abbrev lfr (d0 : D) (a t : List Int) (k : D) (o5 o6 o7 o8 o9 o10 o11 o12 : Option D) : Fr := [some d0, some (wD a t), some (dI (a.length : Nat)), some (dI ((a.length + t.length : Nat) : Int)), some k, o5, o6, o7, o8, o9, o10, o11, o12]
include ht' ha hl
theorem r_size (k : D) (o5 o6 o7 o8 o9 o10 o11 o12 : Option D) : iA gR1 (aCons (eVar 3) aNil) (lfr d0 a t k o5 o6 o7 o8 o9 o10 o11 o12) m = .ok ((List.range (a.length + t.length)).map fun i => .raw (.int (i : Nat))) m := by
  rw [q_iA]
  simp -implicitDefEqProofs only [q_cons, q_var, q_nil, bnd_ok, List.getElem?_cons_zero, List.getElem?_cons_succ]
  exact r1_nat (by omega) _
theorem lv_1 (k : D) (o5 o6 o7 o8 o9 o10 o11 o12 : Option D) : lc__law_values_1 g r (lfr d0 a t k o5 o6 o7 o8 o9 o10 o11 o12) m = .ok ((later a t).map fun i => dI (i : Nat)) m := by
  rw [← later_eq ht', List.map_map]
  refine lcF_of (fun i : Nat => dI (i : Nat)) _ (List.range (a.length + t.length)) (r_size a t ht' ha hl d0 m k _ _ _ _ _ _ _ _) (by rw [z16, List.length_range]; omega) fun x hx => ⟨_, rfl, rfl, ?_⟩
  by_cases h : x + 1 < a.length + t.length
  · have h' : (x : Int) + 1 < (a.length : Int) + (t.length : Int) := by omega
    simp -implicitDefEqProofs [wipeF, h', nxt, h]
  · have h' : ¬ (x : Int) + 1 < (a.length : Int) + (t.length : Int) := by omega
    simp -implicitDefEqProofs [wipeF, h', nxt, h]
theorem lv_2 (k : Int) (hk : 0 ≤ k) (hk' : k ≤ 20) (kd : D) (o5 o6 o7 o8 o9 o10 o11 o12 : Option D) : lc__law_values_2 g r (lfr (sD (.bit k)) a t kd o5 o6 o7 o8 o9 o10 o11 o12) m = .ok ((lv a t (.bit k)).map dB) m := by
  have e : (lv a t (.bit k)).map dB = (List.range (a.length + t.length)).map fun p => dB (bitOf (lt a t p) k) := by simp [lv]
  rw [e]
  refine lcF_of (fun i : Nat => dI (i : Nat)) _ (List.range (a.length + t.length)) (r_size a t ht' ha hl _ m kd _ _ _ _ _ _ _ _) (by rw [z16, List.length_range]; omega) fun x hx => ⟨_, rfl, rfl, ?_⟩
  have h1 := c_lletter g a t ht' x m
  have h2 := c_lbit g (lt a t x) k hk hk' m
  have h3 : bitOf (lt a t x) k = decide (lt a t x / 2 ^ k.toNat % 2 = 1) := by rw [bitOf, bitAnd1]
  rw [h3]
  simp -implicitDefEqProofs [wipeF, sD, i1, h1, h2]
omit ht' ha hl in
theorem lv_3 (h1 : f1.length ≤ 1000) (o2 o3 o4 o5 o7 o8 o9 o10 o11 o12 : Option D) (d1 : Option D) : lc__law_values_3 g r [some d0, d1, o2, o3, o4, o5, some (lB f1), o7, o8, o9, o10, o11, o12] m = .ok ((f1.map fun b => !b).map dB) m := by
  rw [List.map_map]
  refine lcF_of dB _ f1 (by simp) (by rw [z16]; omega) fun x _ => ⟨_, rfl, rfl, ?_⟩
  simp -implicitDefEqProofs [wipeF]
omit ha hl in
theorem lv_4 (h1 : f1.length = a.length + t.length) (h2 : a.length + t.length ≤ 1000) (o2 o3 o4 o7 o8 o9 o10 o11 o12 : Option D) (d1 : Option D) : lc__law_values_4 g r [some d0, d1, o2, o3, o4, some (lN (later a t)), some (lB f1), o7, o8, o9, o10, o11, o12] m = .ok (((later a t).map fun p => f1.getD p false).map dB) m := by
  rw [List.map_map]
  have hll := later_len ht' (a := a)
  refine lcF_of (fun i : Nat => dI (i : Nat)) _ (later a t) (by simp) (by rw [z16]; omega) fun x hx => ⟨_, rfl, rfl, ?_⟩
  have h3 := atI_B (xs := f1) (p := x) (by rw [h1]; exact later_lt ht' x hx)
  simp -implicitDefEqProofs only [wipeF, q_2, q_var, List.set_cons_succ, List.set_cons_zero, List.getElem?_cons_zero, List.getElem?_cons_succ, bnd_ok, q_ixL, h3, Function.comp]
theorem lv_5 (an : Bool) (h1 : f1.length = a.length + t.length) (h2 : f2.length = a.length + t.length) (o5 o8 o9 o10 o11 o12 : Option D) :
    lc__law_values_5 g r (lfr d0 a t (dS (if an = true then "and" else "or")) o5 (some (lB f1)) (some (lB f2)) o8 o9 o10 o11 o12) m = .ok (((List.range (a.length + t.length)).map fun p => if an = true then f1.getD p false && f2.getD p false else f1.getD p false || f2.getD p false).map dB) m := by
  rw [List.map_map]
  refine lcF_of (fun i : Nat => dI (i : Nat)) _ (List.range (a.length + t.length)) (r_size a t ht' ha hl d0 m _ _ _ _ _ _ _ _ _) (by rw [z16, List.length_range]; omega) fun x hx => ⟨_, rfl, rfl, ?_⟩
  have hx' := List.mem_range.mp hx
  have h3 := atI_B (xs := f1) (p := x) (by omega)
  have h4 := atI_B (xs := f2) (p := x) (by omega)
  simp only [Function.comp]
  generalize f1.getD x false = x1 at h3 ⊢
  generalize f2.getD x false = x2 at h4 ⊢
  cases an <;> cases x1 <;> simp -implicitDefEqProofs [wipeF, h3, h4]
end
end K01
end Sm

set_option Elab.async false
set_option linter.all false
set_option maxRecDepth 100000
set_option maxHeartbeats 4000000
/-! k01: the plain reading, the law's own values, until and release. -/
namespace Sm
namespace K01
open PySem PySem.Spec L2
variable (g : Gl0)
def kn (st : Bool) : String := if st = true then "release" else "until"
section
variable (r : List D → MH → R D) (a t : List Int) (ht' : t ≠ []) (ha : a.length ≤ 100) (hl : t.length ≤ 100) (f1 f2 : List Bool) (hf1 : f1.length = a.length + t.length) (hf2 : f2.length = a.length + t.length) (d0 : D) (m : MH) (st : Bool)
/-- the frame in the search -/
abbrev sfr (d0 : D) (a t : List Int) (st : Bool) (f1 f2 : List Bool) (o9 o10 o11 o12 : Option D) : Fr := lfr d0 a t (dS (kn st)) (some (lN (later a t))) (some (lB f1)) (some (lB f2)) (some (.obj 0)) o9 o10 o11 o12
/-- is it settled here -/
def hit (st : Bool) (x1 x2 : Bool) : Bool := if st = true then x1 || !x2 else x2 || !x1
theorem W_hit (f1 f2 : List Bool) (la : List Nat) (n p : Nat) : W st f1 f2 la (n + 1) p = if hit st (f1.getD p false) (f2.getD p false) = true then f2.getD p false else W st f1 f2 la n (la.getD p 0) := by
  rw [W, T, hit]
  cases st <;> cases f1.getD p false <;> cases f2.getD p false <;> simp
include ht' hf1 hf2
theorem s_hit (o9 o12 : Option D) (v : Bool) (p : Nat) (hp : p < a.length + t.length) : bo__law_values_1 g r (sfr d0 a t st f1 f2 o9 (some (dB v)) (some (dI (p : Nat))) o12) m =
    if hit st (f1.getD p false) (f2.getD p false) = true then .ok (.bk (sfr d0 a t st f1 f2 o9 (some (dB (f2.getD p false))) (some (dI (p : Nat))) o12)) m
    else .ok (.nx (sfr d0 a t st f1 f2 o9 (some (dB v)) (some (dI ((later a t).getD p 0 : Nat))) o12)) m := by
  have h1 := atI_B (xs := f1) (p := p) (by omega)
  have h2 := atI_B (xs := f2) (p := p) (by omega)
  have h3 := atI_N (xs := later a t) (p := p) (by rw [later_len ht']; omega)
  generalize f1.getD p false = x1 at *
  generalize f2.getD p false = x2 at *
  generalize (later a t).getD p 0 = q at *
  cases st <;> cases x1 <;> cases x2 <;> simp -implicitDefEqProofs [bo__law_values_1, kn, hit, h1, h2, h3]
theorem s_search : ∀ (ds : List D) (p : Nat) (o9 o12 : Option D), p < a.length + t.length → ∃ o11' o12', forL (gN 12) (bo__law_values_1 g r) ds (sfr d0 a t st f1 f2 o9 (some (dB st)) (some (dI (p : Nat))) o12) m =
    .ok (.nx (sfr d0 a t st f1 f2 o9 (some (dB (W st f1 f2 (later a t) ds.length p))) o11' o12')) m
  | [], p, o9, o12, hp => ⟨_, _, rfl⟩
  | d :: ds, p, o9, o12, hp => by
    have hg : gN 12 d (sfr d0 a t st f1 f2 o9 (some (dB st)) (some (dI (p : Nat))) o12) m = .ok (sfr d0 a t st f1 f2 o9 (some (dB st)) (some (dI (p : Nat))) (some d)) m := rfl
    have hb := s_hit g r a t ht' f1 f2 hf1 hf2 d0 m st o9 (some d) st p hp
    have hw := W_hit st f1 f2 (later a t) ds.length p
    by_cases hh : hit st (f1.getD p false) (f2.getD p false) = true
    · refine ⟨some (dI (p : Nat)), some d, ?_⟩
      rw [if_pos hh] at hb hw
      rw [forL_cons, hg, gAnd_ok', hb, bnd_ok, aft_bk, List.length_cons, hw]
    · rw [if_neg hh] at hb hw
      obtain ⟨o11', o12', ih⟩ := s_search ds ((later a t).getD p 0) o9 (some d) (later_get ht' p hp)
      refine ⟨o11', o12', ?_⟩
      rw [forL_cons, hg, gAnd_ok', hb, bnd_ok, aft_nx, ih, List.length_cons, hw]
include ha hl
theorem s_search' (p : Nat) (o9 o12 : Option D) (hp : p < a.length + t.length) : ∃ o11' o12', lp__law_values_1 g r (sfr d0 a t st f1 f2 o9 (some (dB st)) (some (dI (p : Nat))) o12) m =
    .ok (.nx (sfr d0 a t st f1 f2 o9 (some (dB (W st f1 f2 (later a t) (2 * (a.length + t.length)) p))) o11' o12')) m := by
  obtain ⟨o11', o12', h⟩ := s_search g r a t ht' f1 f2 hf1 hf2 d0 m st ((List.range (2 * (a.length + t.length))).map fun i => .raw (.int (i : Nat))) p o9 o12 hp
  rw [List.length_map, List.length_range] at h
  refine ⟨o11', o12', ?_⟩
  rw [← h]
  have h1 : aCons (e2 gMulT (eC (.raw (.int 2))) (eVar 3)) aNil (sfr d0 a t st f1 f2 o9 (some (dB st)) (some (dI (p : Nat))) o12) m = .ok [dI ((2 * (a.length + t.length) : Nat) : Int)] m := by
    have cm : ∀ a : Int, cMul 2 a = true := fun a => cMul_l (by omega) (by omega)
    simp -implicitDefEqProofs [cm]
  unfold lp__law_values_1
  rw [q_for, q_iA, h1, bnd_ok, r1_nat (by omega), bnd_ok]
theorem s_one (p : Nat) (o10 o11 o12 : Option D) (es : List D) (he : es.length ≤ 1000) (hp : p < a.length + t.length) : ∃ o10' o11' o12', bo__law_values_2 g r (sfr d0 a t st f1 f2 (some (dI (p : Nat))) o10 o11 o12) [.lst es] =
    .ok (.nx (sfr d0 a t st f1 f2 (some (dI (p : Nat))) o10' o11' o12')) [.lst (es ++ [dB (W st f1 f2 (later a t) (2 * (a.length + t.length)) p)])] := by
  obtain ⟨o11', o12', h⟩ := s_search' g r a t ht' ha hl f1 f2 hf1 hf2 d0 [.lst es] st p (some (dI (p : Nat))) o12 hp
  refine ⟨some (dB (W st f1 f2 (later a t) (2 * (a.length + t.length)) p)), o11', o12', ?_⟩
  have hz : es.length < sizeLine := by rw [z16]; omega
  have h1 : sPar 10 11 (aCons (e2 gEq (eVar 4) (eC (.raw (.str "release")))) (aCons (eVar 9) (aNil))) (sfr d0 a t st f1 f2 (some (dI (p : Nat))) o10 o11 o12) [.lst es] = .ok (.nx (sfr d0 a t st f1 f2 (some (dI (p : Nat))) (some (dB st)) (some (dI (p : Nat))) o12)) [.lst es] := by
    cases st <;> simp -implicitDefEqProofs [kn]
  unfold bo__law_values_2
  rw [seq_nx h1, seq_nx h]
  simp -implicitDefEqProofs [hz]
theorem s_all : ∀ (ps : List Nat) (o9 o10 o11 o12 : Option D) (es : List D), (∀ p ∈ ps, p < a.length + t.length) → es.length + ps.length ≤ 1000 → ∃ o9' o10' o11' o12', forL (gN 9) (bo__law_values_2 g r) (ps.map fun i => .raw (.int (i : Nat))) (sfr d0 a t st f1 f2 o9 o10 o11 o12) [.lst es] =
    .ok (.nx (sfr d0 a t st f1 f2 o9' o10' o11' o12')) [.lst (es ++ ps.map fun p => dB (W st f1 f2 (later a t) (2 * (a.length + t.length)) p))]
  | [], o9, o10, o11, o12, es, _, _ => ⟨o9, o10, o11, o12, by rw [List.map_nil, List.map_nil, List.append_nil]; rfl⟩
  | p :: ps, o9, o10, o11, o12, es, hp, hz => by
    rw [List.length_cons] at hz
    obtain ⟨o10', o11', o12', h⟩ := s_one g r a t ht' ha hl f1 f2 hf1 hf2 d0 st p o10 o11 o12 es (by omega) (hp p List.mem_cons_self)
    obtain ⟨o9'', o10'', o11'', o12'', ih⟩ := s_all ps (some (dI (p : Nat))) o10' o11' o12' (es ++ [dB (W st f1 f2 (later a t) (2 * (a.length + t.length)) p)]) (fun q hq => hp q (List.mem_cons_of_mem _ hq)) (by simp; omega)
    refine ⟨o9'', o10'', o11'', o12'', ?_⟩
    have hg : gN 9 (dI (p : Nat)) (sfr d0 a t st f1 f2 o9 o10 o11 o12) [.lst es] = .ok (sfr d0 a t st f1 f2 (some (dI (p : Nat))) o10 o11 o12) [.lst es] := rfl
    rw [List.map_cons, forL_cons, hg, gAnd_ok', h, bnd_ok, aft_nx, ih, List.map_cons, List.append_assoc, List.singleton_append]
theorem s_until : ∃ o9 o10 o11 o12, lp__law_values_2 g r (sfr d0 a t st f1 f2 none none none none) [.lst []] = .ok (.nx (sfr d0 a t st f1 f2 o9 o10 o11 o12)) [.lst (((List.range (a.length + t.length)).map fun p => W st f1 f2 (later a t) (2 * (a.length + t.length)) p).map dB)] := by
  obtain ⟨o9, o10, o11, o12, h⟩ := s_all g r a t ht' ha hl f1 f2 hf1 hf2 d0 st (List.range (a.length + t.length)) none none none none [] (fun p hp => List.mem_range.mp hp) (by simp; omega)
  refine ⟨o9, o10, o11, o12, ?_⟩
  rw [List.map_map]
  rw [List.nil_append] at h
  unfold lp__law_values_2
  rw [q_for, r_size a t ht' ha hl, bnd_ok]
  exact h
end
end K01
end Sm

set_option Elab.async false
set_option linter.all false
set_option maxRecDepth 100000
set_option maxHeartbeats 4000000
/-! k01: the plain reading, the law's own values, whole. -/
namespace Sm
namespace K01
open PySem PySem.Spec L2
variable (g : Gl0)
def nmS : S → String
  | .yes => "yes"
  | .bit _ => "bit"
  | .not _ => "not"
  | .next _ => "next"
  | .bi k _ _ => k.nm
theorem sD_head (s : S) : ∃ l, sD s = .tup (dS (nmS s) :: l) := by cases s <;> exact ⟨_, rfl⟩
theorem lv_len {a t : List Int} (ht : t ≠ []) (s : S) : (lv a t s).length = a.length + t.length := by rw [lv_vals ht, vals_len ht]
section
variable (r : List D → MH → R D) (a t : List Int) (ht' : t ≠ []) (ha : a.length ≤ 100) (hl : t.length ≤ 100)
include ht' ha hl
theorem lvb (s : S) (hb : okS 4 s = true) (hr : ∀ u, ht u < ht s → okS 4 u = true → callM false r [sD u, wD a t] [] = .ok (lB (lv a t u)) []) : ∃ d m', bd__law_values g r [some (sD s), some (wD a t), none, none, none, none, none, none, none, none, none, none, none] [] = .ok (.rt d) m' ∧ frz 0 m' d = some (lB (lv a t s)) := by
  have z := z3
  have z' := z1
  have z'' := z2
  have h1 : sAsg (eA gTup (aCons (eA gLen (aCons (e2 gIx (eVar 1) (eC (.raw (.int 0)))) (aNil))) (aCons (e2 gAdd (eA gLen (aCons (e2 gIx (eVar 1) (eC (.raw (.int 0)))) (aNil))) (eA gLen (aCons (e2 gIx (eVar 1) (eC (.raw (.int 1)))) (aNil)))) (aCons (e2 gIx (eVar 0) (eC (.raw (.int 0)))) (aNil))))) (gT 3 (gsCons (gN 2) (gsCons (gN 3) (gsCons (gN 4) (gsNil)))))
      [some (sD s), some (wD a t), none, none, none, none, none, none, none, none, none, none, none] [] = .ok (.nx (lfr (sD s) a t (dS (nmS s)) none none none none none none none none)) [] := by
    obtain ⟨l, h⟩ := sD_head s
    rw [h]
    simp -implicitDefEqProofs [i0, i1, z]
  have h2 : sAsg (eLc (lc__law_values_1 g r)) (gN 5) (lfr (sD s) a t (dS (nmS s)) none none none none none none none none) [] = .ok (.nx (lfr (sD s) a t (dS (nmS s)) (some (lN (later a t))) none none none none none none none)) [] := by
    rw [q_asg, q_eLc, lv_1 g r a t ht' ha hl]
    rfl
  unfold bd__law_values
  rw [seq_nx h1, seq_nx h2]
  have nn : ∀ x : String, ∀ m : MH, gIn false (dS x) (.lst [dS "not", dS "next"]) m = .ok (dB (decide (x = "not" ∨ x = "next"))) m := fun x m => by
    have := in_strs (neg := false) (x := x) (xs := ["not", "next"]) (e := .lst [dS "not", dS "next"]) (m := m) rfl
    simpa using this
  have ao : ∀ x : String, ∀ m : MH, gIn false (dS x) (.lst [dS "and", dS "or"]) m = .ok (dB (decide (x = "and" ∨ x = "or"))) m := fun x m => by
    have := in_strs (neg := false) (x := x) (xs := ["and", "or"]) (e := .lst [dS "and", dS "or"]) (m := m) rfl
    simpa using this
  have hlist : ∀ xs : List Bool, frz 0 [] (lB xs) = some (lB xs) := fun xs => frz_clo (clo_lB xs)
  cases s with
  | yes =>
    refine ⟨lB (lv a t .yes), [], ?_, hlist _⟩
    have hm := mulL_nat (ds := [dB true]) (n := a.length + t.length) (m := []) (by omega) (by rw [z16]; simp; omega)
    rw [rep_one] at hm
    have e : (lv a t .yes).map dB = List.replicate (a.length + t.length) (dB true) := by simp [lv]
    rw [lB, e]
    have hm' : gMulT (.lst [dB true]) (.raw (.int ((a.length : Int) + (t.length : Int)))) [] = .ok (.lst (List.replicate (a.length + t.length) (dB true))) [] := by
      rw [← hm]
      simp
    generalize List.replicate (a.length + t.length) (dB true) = L at hm'
    simp -implicitDefEqProofs [nmS, z', hm']
  | bit k =>
    refine ⟨lB (lv a t (.bit k)), [], ?_, hlist _⟩
    simp only [okS, Bool.and_eq_true, decide_eq_true_eq] at hb
    have h3 := lv_2 g r a t ht' ha hl [] k hb.1 (by omega) (dS "bit") (some (lN (later a t))) none none none none none none none
    generalize lv a t (.bit k) = L at h3 ⊢
    have h4 : sIf (bVal (e2 gEq (eVar 4) (eC (.raw (.str "bit"))))) (sRet (eLc (lc__law_values_2 g r))) sNext (lfr (sD (.bit k)) a t (dS "bit") (some (lN (later a t))) none none none none none none none) [] = .ok (.rt (lB L)) [] := by
      rw [q_sIf]
      have : bVal (e2 gEq (eVar 4) (eC (.raw (.str "bit")))) (lfr (sD (.bit k)) a t (dS "bit") (some (lN (later a t))) none none none none none none none) [] = .ok true [] := by simp -implicitDefEqProofs
      rw [this, bnd_ok, if_pos rfl, q_ret, q_eLc, h3]
      rfl
    have h5 : sIf (bVal (e2 gEq (eVar 4) (eC (.raw (.str "yes"))))) (sRet (e2 gMulT (eA gLst (aCons (eC (.raw (.bl true))) (aNil))) (eVar 3))) (sNext) (lfr (sD (.bit k)) a t (dS "bit") (some (lN (later a t))) none none none none none none none) [] = .ok (.nx (lfr (sD (.bit k)) a t (dS "bit") (some (lN (later a t))) none none none none none none none)) [] := by simp -implicitDefEqProofs
    rw [show nmS (.bit k) = "bit" from rfl, seq_nx h5, seq_rt h4]
  | not s =>
    have hs := hr s (by simp [ht]) hb
    refine ⟨lB (lv a t (.not s)), [], ?_, hlist _⟩
    have hn := lv_len ht' (a := a) s
    have e : lv a t (.not s) = (lv a t s).map fun b => !b := rfl
    have h3 := fun d0 o2 o3 o4 o5 d1 => lv_3 g r (lv a t s) d0 [] (by omega) o2 o3 o4 o5 none none none none none none d1
    rw [← e] at h3
    generalize lv a t (.not s) = L at h3 ⊢
    simp -implicitDefEqProofs [nmS, nn, hs, sD, i0, i1, z'', h3]
  | next s =>
    have hs := hr s (by simp [ht]) hb
    refine ⟨lB (lv a t (.next s)), [], ?_, hlist _⟩
    have hn := lv_len ht' (a := a) s
    have e : lv a t (.next s) = (later a t).map fun p => (lv a t s).getD p false := rfl
    have h3 := fun d0 o2 o3 o4 d1 => lv_4 g r a t ht' (lv a t s) d0 [] hn (by omega) o2 o3 o4 none none none none none none d1
    rw [← e] at h3
    generalize lv a t (.next s) = L at h3 ⊢
    simp -implicitDefEqProofs [nmS, nn, hs, sD, i0, i1, z'', h3]
  | bi k s u =>
    simp only [okS, Bool.and_eq_true] at hb
    have hs := hr s (by simp [ht]; omega) hb.1
    have hu := hr u (by simp [ht]; omega) hb.2
    have hn := lv_len ht' (a := a) s
    have hn' := lv_len ht' (a := a) u
    cases k with
    | and =>
      refine ⟨lB (lv a t (.bi .and s u)), [], ?_, hlist _⟩
      have h3 := fun d0 o5 => lv_5 g r a t ht' ha hl (lv a t s) (lv a t u) d0 [] true hn hn' o5 none none none none none
      have e : lv a t (.bi .and s u) = (List.range (a.length + t.length)).map fun p => (lv a t s).getD p false && (lv a t u).getD p false := rfl
      simp only [if_true] at h3
      rw [← e] at h3
      generalize lv a t (.bi .and s u) = L at h3 ⊢
      have h3' := h3 (.tup [dS "and", sD s, sD u]) (some (lN (later a t)))
      simp -implicitDefEqProofs [nmS, Bi.nm, nn, ao, hs, hu, sD, i0, i1, i2, z'']
      erw [h3']
      rfl
    | or =>
      refine ⟨lB (lv a t (.bi .or s u)), [], ?_, hlist _⟩
      have h3 := fun d0 o5 => lv_5 g r a t ht' ha hl (lv a t s) (lv a t u) d0 [] false hn hn' o5 none none none none none
      have e : lv a t (.bi .or s u) = (List.range (a.length + t.length)).map fun p => (lv a t s).getD p false || (lv a t u).getD p false := rfl
      simp only [Bool.false_eq_true, if_false] at h3
      rw [← e] at h3
      generalize lv a t (.bi .or s u) = L at h3 ⊢
      have h3' := h3 (.tup [dS "or", sD s, sD u]) (some (lN (later a t)))
      simp -implicitDefEqProofs [nmS, Bi.nm, nn, ao, hs, hu, sD, i0, i1, i2, z'']
      erw [h3']
      rfl
    | «until» =>
      obtain ⟨o9, o10, o11, o12, h3⟩ := s_until g r a t ht' ha hl (lv a t s) (lv a t u) hn hn' (.tup [dS "until", sD s, sD u]) false
      have e : lv a t (.bi .until s u) = (List.range (a.length + t.length)).map fun p => W false (lv a t s) (lv a t u) (later a t) (2 * (a.length + t.length)) p := rfl
      rw [← e] at h3
      refine ⟨.obj 0, [.lst ((lv a t (.bi .until s u)).map dB)], ?_, by simp [frz]⟩
      generalize lv a t (.bi .until s u) = L at h3 ⊢
      have z0 : 0 ≤ sizeLine := Nat.zero_le _
      simp -implicitDefEqProofs [nmS, Bi.nm, nn, ao, hs, hu, sD, i0, i1, i2, z'']
      erw [h3]
      rfl
    | release =>
      obtain ⟨o9, o10, o11, o12, h3⟩ := s_until g r a t ht' ha hl (lv a t s) (lv a t u) hn hn' (.tup [dS "release", sD s, sD u]) true
      have e : lv a t (.bi .release s u) = (List.range (a.length + t.length)).map fun p => W true (lv a t s) (lv a t u) (later a t) (2 * (a.length + t.length)) p := rfl
      rw [← e] at h3
      refine ⟨.obj 0, [.lst ((lv a t (.bi .release s u)).map dB)], ?_, by simp [frz]⟩
      generalize lv a t (.bi .release s u) = L at h3 ⊢
      simp -implicitDefEqProofs [nmS, Bi.nm, nn, ao, hs, hu, sD, i0, i1, i2, z'']
      erw [h3]
      rfl
end
theorem v_lvalues (a t : List Int) (ht' : t ≠ []) (ha : a.length ≤ 100) (hl : t.length ≤ 100) : ∀ (n : Nat) (s : S), okS 4 s = true → ht s < n → ∀ m : MH, callM false (mf__law_values g n) [sD s, wD a t] m = .ok (lB (vals a t s)) m
  | 0, s, _, h => absurd h (Nat.not_lt_zero _)
  | n + 1, s, ho, h => fun m => by
    obtain ⟨d, m', h1, h2⟩ := lvb g (mf__law_values g n) a t ht' ha hl s ho (fun u hu hou => by rw [lv_vals ht']; exact v_lvalues a t ht' ha hl n u hou (by omega) [])
    rw [lv_vals ht'] at h2
    exact call_ok (by simp) (runF_ok rfl h1) h2
theorem c_lvalues (a t : List Int) (ht' : t ≠ []) (ha : a.length ≤ 100) (hl : t.length ≤ 100) (s : S) (ho : okS 4 s = true) (h : ht s < 40) (m : MH) : callM false (mf__law_values g n__law_values) [sD s, wD a t] m = .ok (lB (vals a t s)) m := v_lvalues g a t ht' ha hl 40 s ho h m
end K01
end Sm

set_option Elab.async false
set_option linter.all false
set_option maxRecDepth 100000
set_option maxHeartbeats 4000000
/-! k01: the plain reading, the law's own tests. -/
namespace Sm
namespace K01
open PySem PySem.Spec L2
variable (g : Gl0)
theorem c_lholds (a t : List Int) (ht' : t ≠ []) (ha : a.length ≤ 100) (hl : t.length ≤ 100) (s : S) (ho : okS 4 s = true) (h : ht s < 40) (m : MH) : callM false (mf__law_holds g) [sD s, wD a t] m = .ok (dB ((vals a t s).getD 0 false)) m := by
  refine call_okc (m' := []) (by simp) (runF_ok rfl ?_) (clo_raw _)
  have h1 := c_lvalues g a t ht' ha hl s ho h []
  have h0 := List.length_pos_iff.mpr ht'
  have h3 := atI_B (xs := vals a t s) (p := 0) (by rw [vals_len ht']; omega)
  have h3' : atI ((vals a t s).map dB) 0 = some (dB ((vals a t s).getD 0 false)) := h3
  generalize (vals a t s).getD 0 false = x at h3' ⊢
  simp -implicitDefEqProofs only [bd__law_holds, q_ret, q_2, q_call, q_cons, q_var, q_C, q_nil, List.map_cons, List.map_nil, List.cons_append, List.nil_append, List.length_cons, List.length_nil, List.getElem?_cons_zero, List.getElem?_cons_succ, bnd_ok, h1, q_ixL, h3']
theorem c_lsame (a t b u : List Int) (ht : t ≠ []) (hu : u ≠ []) (m : MH) : callM false (mf__law_same_words g) [wD a t, wD b u] m = .ok (dB (lsw a t b u)) m := by
  refine call_okc (m' := []) (by simp) (runF_ok rfl ?_) (clo_raw _)
  have h1 : lc__law_same_words_1 g [some (wD a t), some (wD b u), none] [] = .ok ((List.range 200).map fun n => dB (decide (lt a t n = lt b u n))) [] := by
    refine lcF_of (fun i : Nat => dI (i : Nat)) _ (List.range 200) ?_ (by rw [z16, List.length_range]; omega) fun x _ => ⟨_, rfl, rfl, ?_⟩
    · rw [q_iA]
      simp -implicitDefEqProofs only [q_cons, q_C, q_nil, bnd_ok]
      exact r1_nat (n := 200) (by omega) _
    · have h2 := c_lletter g a t ht x []
      have h3 := c_lletter g b u hu x []
      simp -implicitDefEqProofs [wipeF, h2, h3]
  have h2 := all_of (List.range 200) (fun n => decide (lt a t n = lt b u n)) []
  have h3 : (List.range 200).all (fun n => decide (lt a t n = lt b u n)) = lsw a t b u := rfl
  rw [h3] at h2
  generalize lsw a t b u = x at h2 ⊢
  generalize ((List.range 200).map fun n => dB (decide (lt a t n = lt b u n))) = L at h1 h2
  simp -implicitDefEqProofs only [bd__law_same_words, q_ret, q_A, q_cons, q_nil, q_eLc, h1, bnd_ok, h2, List.map_cons, List.map_nil, List.cons_append, List.nil_append, List.length_cons, List.length_nil]
  simp -implicitDefEqProofs [h1, h2]
theorem gAll_nil (m : MH) : gAll [.lst []] m = .ok (dB true) m := all_of ([] : List Bool) id m
theorem gAll_1 (x : Bool) (m : MH) : gAll [.lst [dB x]] m = .ok (dB x) m := by
  have := all_of [x] id m
  simpa using this
theorem gAll_2 (x y : Bool) (m : MH) : gAll [.lst [dB x, dB y]] m = .ok (dB (x && y)) m := by
  have := all_of [x, y] id m
  simpa using this
theorem q_isiS (s : S) (m : MH) : gIsi [sD s, .raw (.ty "tuple")] m = .ok (dB true) m := by
  obtain ⟨l, h⟩ := sD_head s
  rw [h]
  rfl
theorem v_isIn : ∀ (n : Nat) (s : S), ht s < n → mf__law_is_inward g n [sD s] [] = .ok (dB (isIn s)) []
  | 0, s, h => absurd h (Nat.not_lt_zero _)
  | n + 1, s, h => by
    have ci : ∀ s, ht s < n → ∀ m, callM false (mf__law_is_inward g n) [sD s] m = .ok (dB (isIn s)) m := fun s h m => call_okc (by simp) (v_isIn n s h) (clo_raw _)
    refine runF_ok rfl ?_
    have z := z2
    have z0 : (0 : Nat) ≤ sizeLine := Nat.zero_le _
    have z1' := z1
    have by' : ∀ x : String, ∀ m : MH, gIn false (dS x) (.lst [dS "bit", dS "yes"]) m = .ok (dB (decide (x = "bit" ∨ x = "yes"))) m := fun x m => by
      have := in_strs (neg := false) (x := x) (xs := ["bit", "yes"]) (e := .lst [dS "bit", dS "yes"]) (m := m) rfl
      simpa using this
    have hc : ∀ (k : D) (ss : List D), cutD (k :: ss) (some 1) none = ss := fun k ss => by
      have := cut_from (ds := k :: ss) (n := 1) (by simp)
      simpa using this
    cases s with
    | yes =>
      simp -implicitDefEqProofs [bd__law_is_inward, sD, i0, isIn, lc__law_is_inward_1, lcF, cmpL, hc, gAll_nil]
    | bit k =>
      simp -implicitDefEqProofs [bd__law_is_inward, sD, i0, isIn, lc__law_is_inward_1, lcF, cmpL, hc, gAll_nil, z1', wipeF]
    | not s =>
      obtain ⟨l, hh⟩ := sD_head s
      have hi : isIn (.not s) = decide (nmS s = "bit" ∨ nmS s = "yes") := by cases s <;> simp [isIn, nmS] <;> rename_i k _ _ <;> cases k <;> simp [Bi.nm]
      rw [hi]
      simp -implicitDefEqProofs [bd__law_is_inward, sD, i0, i1, hh, by', z]
    | next s =>
      have h1 := ci s (by simp [ht] at h; omega) []
      have h2 := q_isiS s []
      simp -implicitDefEqProofs [bd__law_is_inward, sD, i0, isIn, lc__law_is_inward_1, lcF, cmpL, hc, gAll_1, z1', wipeF, h1, h2]
    | bi k s u =>
      have h1 := ci s (by simp [ht] at h; omega) []
      have h2 := q_isiS s []
      have h1' := ci u (by simp [ht] at h; omega) []
      have h2' := q_isiS u []
      have hk : ¬ k.nm = "not" := by cases k <;> decide
      simp -implicitDefEqProofs [bd__law_is_inward, sD, i0, isIn, lc__law_is_inward_1, lcF, cmpL, hc, gAll_2, z, wipeF, h1, h2, h1', h2', hk]
theorem c_isIn (s : S) (h : ht s < 40) (m : MH) : callM false (mf__law_is_inward g n__law_is_inward) [sD s] m = .ok (dB (isIn s)) m := call_okc (by simp) (v_isIn g 40 s h) (clo_raw _)
theorem v_plain (a t : List Int) (hp : Pl a t) (hl : t.length ≤ 90) : mf__law_is_plain g [wD a t] [] = .ok (dB true) [] := by
  have ht := hp.1.1
  have h0 := List.length_pos_iff.mpr ht
  have hlp : ∃ δ' m', lp__law_is_plain_1 g [some (wD a t), some (tI a), some (tI t), none] [] = .ok (.nx δ') m' ∧ ∃ o, δ' = [some (wD a t), some (tI a), some (tI t), o] ∧ m' = [] := by
    unfold lp__law_is_plain_1
    have h1 : iA gR2 (aCons (eC (.raw (.int 1))) (aCons (eA gLen (aCons (eVar 2) (aNil))) (aNil))) [some (wD a t), some (tI a), some (tI t), none] [] = .ok (((List.range (t.length - 1)).map (1 + ·)).map fun i => .raw (.int (i : Nat))) [] := by
      have : aCons (eC (.raw (.int 1))) (aCons (eA gLen (aCons (eVar 2) (aNil))) (aNil)) [some (wD a t), some (tI a), some (tI t), none] [] = .ok [dI (1 : Nat), dI (t.length : Nat)] [] := by simp -implicitDefEqProofs
      rw [q_iA, this, bnd_ok, r2_nat (by omega) (by omega)]
    rw [q_for, h1, bnd_ok]
    refine forL_ind (fun k δ m' => ∃ o, δ = [some (wD a t), some (tI a), some (tI t), o] ∧ m' = []) _ (fun δ m h => h) _ _ _ ?_ ⟨none, rfl, rfl⟩
    rintro d hd k δ m' ⟨o, rfl, rfl⟩
    obtain ⟨j, hj, rfl⟩ := List.mem_map.mp hd
    obtain ⟨i, hi, rfl⟩ := List.mem_map.mp hj
    have hi := List.mem_range.mp hi
    have hn : t.take (1 + i) ≠ [] := fun z => by
      have := congrArg List.length z
      rw [List.length_take, List.length_nil] at this
      omega
    have h2 := c_lsame g [] t [] (t.take (1 + i)) ht hn []
    rw [lsw_prim hp.1 hl (by omega) (by omega)] at h2
    have hc : cutD (t.map dI) none (some (((1 + i : Nat) : Int))) = (t.take (1 + i)).map dI := by rw [cut_to (by rw [List.length_map]; omega), List.map_take]
    have z := z2
    have hb : bo__law_is_plain_1 g [some (wD a t), some (tI a), some (tI t), some (dI ((1 + i : Nat) : Int))] [] = .ok (.nx [some (wD a t), some (tI a), some (tI t), some (dI ((1 + i : Nat) : Int))]) [] := by
      have h2' : callM false (mf__law_same_words g) [.tup [.tup [], tI t], .tup [.tup [], .tup ((t.take (1 + i)).map dI)]] [] = .ok (dB false) [] := h2
      generalize ((1 + i : Nat) : Int) = x at hc ⊢
      generalize (t.take (1 + i)).map dI = L at hc h2'
      simp -implicitDefEqProofs [bo__law_is_plain_1, hc, h2', z]
    exact ⟨_, _, _, _, rfl, hb, _, rfl, rfl⟩
  obtain ⟨δ', m', h1, o, rfl, rfl⟩ := hlp
  refine runF_ok rfl ?_
  by_cases ha : a = []
  · subst ha
    have he : gEqB id (tI []) (.tup []) [] = .ok (dB true) [] := by
      have := eq_tI (f := id) [] [] []
      rw [decide_eq_true rfl] at this
      exact this
    have he' : gEq (tI []) (.tup []) [] = .ok (dB true) [] := he
    have z : (0 : Nat) ≤ sizeLine := Nat.zero_le _
    simp -implicitDefEqProofs [bd__law_is_plain, h1, he']
  · have hne := hp.2.resolve_left ha
    rw [List.getLast?_eq_some_getLast ha, List.getLast?_eq_some_getLast ht] at hne
    have hne' : ¬ a.getLast ha = t.getLast ht := fun e => hne (by rw [e])
    have he : ∀ m, gEqB id (tI a) (.tup []) m = .ok (dB false) m := fun m => by
      have := eq_tI (f := id) a [] m
      rw [decide_eq_false ha] at this
      exact this
    have he' : ∀ m, gEq (tI a) (.tup []) m = .ok (dB false) m := he
    simp -implicitDefEqProofs [bd__law_is_plain, h1, he', atI_lastI ha, atI_lastI ht, hne']
theorem c_plain (a t : List Int) (hp : Pl a t) (hl : t.length ≤ 90) (m : MH) : callM false (mf__law_is_plain g) [wD a t] m = .ok (dB true) m := call_okc (by simp) (v_plain g a t hp hl) (clo_raw _)
theorem s_flat : ∀ (rows : List (List D)) (d0 : Option D) (o : Option D) (es : List D), es.length + (rows.map List.length).sum ≤ 1000 → ∃ o', forL (gN 2) (bo__law_flat_1 g) (rows.map .lst) [d0, some (.obj 0), o] [.lst es] = .ok (.nx [d0, some (.obj 0), o']) [.lst (es ++ rows.flatten)]
  | [], d0, o, es, _ => ⟨o, by simp [forL_nil]⟩
  | row :: rows, d0, o, es, h => by
    simp only [List.map_cons, List.sum_cons] at h
    obtain ⟨o', ih⟩ := s_flat rows d0 (some (.lst row)) (es ++ row) (by simp; omega)
    refine ⟨o', ?_⟩
    have hz : es.length + row.length ≤ sizeLine := by rw [z16]; omega
    have hg : gN 2 (.lst row) [d0, some (.obj 0), o] [.lst es] = .ok [d0, some (.obj 0), some (.lst row)] [.lst es] := rfl
    have hb : bo__law_flat_1 g [d0, some (.obj 0), some (.lst row)] [.lst es] = .ok (.nx [d0, some (.obj 0), some (.lst row)]) [.lst (es ++ row)] := by simp -implicitDefEqProofs [bo__law_flat_1, hz]
    rw [List.map_cons, forL_cons, hg, gAnd_ok', hb, bnd_ok, aft_nx, ih, List.flatten_cons, List.append_assoc]
theorem c_flat (rows : List (List D)) (h : (rows.map List.length).sum ≤ 1000) (hc : cloL (rows.map .lst) = true) (hc' : cloL rows.flatten = true) (m : MH) : callM false (mf__law_flat g) [.lst (rows.map .lst)] m = .ok (.lst rows.flatten) m := by
  obtain ⟨o', h1⟩ := s_flat g rows (some (.lst (rows.map .lst))) none [] (by simpa using h)
  rw [List.nil_append] at h1
  refine call_ok (m' := [.lst rows.flatten]) (d := .obj 0) (by simp [clo, hc]) (runF_ok rfl ?_) (by simp [frz, hc'])
  have z : (0 : Nat) ≤ sizeLine := Nat.zero_le _
  have h2 : lp__law_flat_1 g [some (.lst (rows.map .lst)), some (.obj 0), none] [.lst []] = .ok (.nx [some (.lst (rows.map .lst)), some (.obj 0), o']) [.lst rows.flatten] := by
    unfold lp__law_flat_1
    rw [q_for]
    exact h1
  simp -implicitDefEqProofs [bd__law_flat, h2]
end K01
end Sm

set_option Elab.async false
set_option linter.all false
set_option maxRecDepth 100000
set_option maxHeartbeats 4000000
/-! k01: the plain reading, the law's first loop. -/
namespace Sm
namespace K01
open PySem PySem.Spec L2
variable (g : Gl0)
theorem eq_self {f : Bool → Bool} {d : D} {p : PyData} {m : MH} (h : toP d = some p) (hc : p.canLay0 = true) (hd : p.depth ≤ 64) : gEqB f d d m = .ok (dB (f true)) m := by
  have hs : SeqAt.shaped p = true := by
    show (p.canLay0 && decide (p.depth ≤ 64)) = true
    rw [hc, decide_eq_true hd]
    rfl
  unfold gEqB
  rw [toPm_of h]
  simp only [hs, PySem.SeqAt.eqv_refl p hc, Bool.and_self, if_true]
def sP : S → PyData
  | .yes => .tuple [.str (Str.ofString "yes")]
  | .bit n => .tuple [.str (Str.ofString "bit"), .int n]
  | .not s => .tuple [.str (Str.ofString "not"), sP s]
  | .next s => .tuple [.str (Str.ofString "next"), sP s]
  | .bi k s u => .tuple [.str (Str.ofString k.nm), sP s, sP u]
theorem sP_ok : ∀ s : S, toP (sD s) = some (sP s) ∧ (sP s).canLay0 = true ∧ (sP s).depth ≤ ht s + 1
  | .yes => by simp [sD, sP, toP, toPs, PyData.canLay0, PyData.canLayAll0, PyData.depth, PyData.depthAll, strOk_of, ht]
  | .bit n => by simp [sD, sP, toP, toPs, PyData.canLay0, PyData.canLayAll0, PyData.depth, PyData.depthAll, strOk_of, ht]
  | .not s => by
    have h := sP_ok s
    simp [sD, sP, toP, toPs, PyData.canLay0, PyData.canLayAll0, PyData.depth, PyData.depthAll, strOk_of, ht, h.1, h.2.1]
    omega
  | .next s => by
    have h := sP_ok s
    simp [sD, sP, toP, toPs, PyData.canLay0, PyData.canLayAll0, PyData.depth, PyData.depthAll, strOk_of, ht, h.1, h.2.1]
    omega
  | .bi k s u => by
    have h := sP_ok s
    have h' := sP_ok u
    simp [sD, sP, toP, toPs, PyData.canLay0, PyData.canLayAll0, PyData.depth, PyData.depthAll, strOk_of, ht, h.1, h.2.1, h'.1, h'.2.1]
    omega
theorem eq_sD {f : Bool → Bool} (s : S) (h : ht s ≤ 60) (m : MH) : gEqB f (sD s) (sD s) m = .ok (dB (f true)) m := by
  have h1 := sP_ok s
  exact eq_self h1.1 h1.2.1 (by omega)
@[simp] theorem eq_lB {f : Bool → Bool} (xs ys : List Bool) (m : MH) : gEqB f (lB xs) (lB ys) m = .ok (dB (f (decide (xs = ys)))) m := (EqEnc.lst enc_bool).eq (by decide) f xs ys m
/-- the frame of the law -/
abbrev lawF (x0 x1 x2 x3 x4 x5 x6 x7 x8 x9 x10 x11 x12 x13 x14 x15 x16 x17 x18 x19 x20 x21 x22 : Option D) : Fr := [x0, x1, x2, x3, x4, x5, x6, x7, x8, x9, x10, x11, x12, x13, x14, x15, x16, x17, x18, x19, x20, x21, x22]
theorem c_pw (a t : List Int) (ha : a.length ≤ 100) (ht : t ≠ []) (hl : t.length ≤ 100) (m : MH) : callM false (mf_plain_word g) [wD a t] m = .ok (wD (pw a t).1 (pw a t).2) m := call_okc (by simp) (v_plain_word g a t ha ht hl) (clo_wD _ _)
theorem c_isw (b : Int) (a t : List Int) (h : 1 ≤ b ∧ b ≤ 4) (ha : a.length ≤ 100) (hl : t.length ≤ 100) (m : MH) : callM false (mf_is_word g) [dI b, wD a t] m = .ok (dB (okW b a t)) m := call_okc (by simp) (by rw [v_is_word g b a t ha hl, if_pos h]) (clo_raw _)
theorem c_tu (a t : List Int) (n : Nat) (ha : a.length ≤ 100) (ht : t ≠ []) (hl : t.length ≤ 100) (m : MH) : callM false (mf_turned_on g) [wD a t, dI (n : Nat)] m = .ok (wD (tu a t n).1 (tu a t n).2) m := call_okc (by simp) (v_turned_on g a t n ha ht hl) (clo_wD _ _)
theorem c_letter (a t : List Int) (ht : t ≠ []) (n : Nat) (m : MH) : callM false (mf_letter_at g) [wD a t, dI (n : Nat)] m = .ok (dI (lt a t n)) m := call_okc (by simp) (v_letter_at g a t ht n) (clo_raw _)
section
variable (x0 x3 x4 x5 x10 x11 x12 x13 x14 x15 x16 x17 x18 x19 x20 x21 x22 : Option D) (b : Int) (hb : 1 ≤ b ∧ b ≤ 4)
theorem lc1 (x1 x2 x7 : Option D) (a t p q : List Int) (n : Nat) (ht : t ≠ []) (hq : q ≠ []) (h : ∀ k, lt p q k = lt a t (n + k)) (m : MH) :
    lc_law_1 g (lawF x0 x1 x2 x3 x4 x5 (some (wD a t)) x7 (some (dI (n : Nat))) (some (wD p q)) x10 x11 x12 x13 x14 x15 x16 x17 x18 x19 x20 x21 x22) m = .ok ((List.range 60).map fun _ => dB true) m := by
  refine lcF_of (fun i : Nat => dI (i : Nat)) _ (List.range 60) ?_ (by rw [z16, List.length_range]; omega) fun x _ => ⟨_, rfl, rfl, ?_⟩
  · rw [q_iA]
    simp -implicitDefEqProofs only [q_cons, q_C, q_nil, bnd_ok]
    exact r1_nat (n := 60) (by omega) _
  · have h1 := c_lletter g p q hq x m
    have h2 := c_lletter g a t ht (n + x) m
    rw [h x] at h1
    have h3 : ((n + x : Nat) : Int) = (n : Int) + (x : Int) := by omega
    rw [h3] at h2
    simp -implicitDefEqProofs [wipeF, h1, h2]
include hb
theorem bo1 (x7 x8 x9 : Option D) (a t : List Int) (hw : okW b a t = true) (ha : a.length ≤ 10) (hl : t.length ≤ 10) (o : MO) (xs : List Int) (hx : Dr 4300 xs) :
    ∃ x7' x8' x9' ys, bo_law_1 g (lawF x0 (some (.obj 1)) (some (dI b)) x3 x4 x5 (some (wD a t)) x7 x8 x9 x10 x11 x12 x13 x14 x15 x16 x17 x18 x19 x20 x21 x22) [o, lD xs] =
      .ok (.nx (lawF x0 (some (.obj 1)) (some (dI b)) x3 x4 x5 (some (wD a t)) x7' x8' x9' x10 x11 x12 x13 x14 x15 x16 x17 x18 x19 x20 x21 x22)) [o, lD ys] ∧ Dr 4300 ys := by
  have ht := (okW_ne hw).2.2
  have hps := pw_spec a ht
  have c1 := c_pw g a t (by omega) ht (by omega) [o, lD xs]
  have hpl := c_plain g (pw a t).1 (pw a t).2 hps.2.1 (by omega) [o, lD xs]
  have hsame := c_lsame g (pw a t).1 (pw a t).2 a t hps.2.1.1.1 ht [o, lD xs]
  have hm : (pw a t).2.length * t.length ≤ 100 := by
    have := Nat.mul_le_mul hps.2.2.2 (Nat.le_refl t.length)
    have := Nat.mul_le_mul hl hl
    omega
  rw [(lsw_iff hps.2.1.1.1 ht (by omega) (by omega)).mpr hps.1] at hsame
  have hisw := c_isw g b a t hb (by omega) (by omega) [o, lD xs]
  rw [hw] at hisw
  obtain ⟨x, ys, n1, n2, n3⟩ := c_next g 4300 xs hx [o, lD xs] 1 rfl
  obtain ⟨n, hn, hn'⟩ := mod_nat x 12 (by omega)
  have hn2 : x % 12 = (n : Int) := hn
  have n1' : callM false (mf__law_next g) [.obj 1] [o, lD xs] = .ok (dI x) [o, lD ys] := n1
  have hts := tu_spec a ht n
  have c2 := c_tu g a t n (by omega) ht (by omega) [o, lD ys]
  have hpl2 := c_plain g (tu a t n).1 (tu a t n).2 hts.2.1 (by omega) [o, lD ys]
  have l1 := c_letter g a t ht n [o, lD ys]
  have l2 := c_lletter g a t ht n [o, lD ys]
  have cp : cPos x 12 = true := by simp [cPos]
  have hlc := fun x1 x2 x7 => lc1 g x0 x3 x4 x5 x10 x11 x12 x13 x14 x15 x16 x17 x18 x19 x20 x21 x22 x1 x2 x7 a t (tu a t n).1 (tu a t n).2 n ht hts.2.1.1.1 hts.1 [o, lD ys]
  have hall := all_of (List.range 60) (fun _ => true) [o, lD ys]
  have hall2 : (List.range 60).all (fun _ => true) = true := by simp
  rw [hall2] at hall
  generalize (pw a t).1 = p1 at *
  generalize (pw a t).2 = p2 at *
  generalize (tu a t n).1 = q1 at *
  generalize (tu a t n).2 = q2 at *
  generalize ((List.range 60).map fun _ => dB true) = L at hlc hall
  refine ⟨some (wD p1 p2), some (dI (n : Nat)), some (wD q1 q2), ys, ?_, n3⟩
  have s1 : sAsg (eCall false (mf_plain_word g) (aCons (eVar 6) (aNil))) (gN 7) (lawF x0 (some (.obj 1)) (some (dI b)) x3 x4 x5 (some (wD a t)) x7 x8 x9 x10 x11 x12 x13 x14 x15 x16 x17 x18 x19 x20 x21 x22) [o, lD xs] = .ok (.nx (lawF x0 (some (.obj 1)) (some (dI b)) x3 x4 x5 (some (wD a t)) (some (wD p1 p2)) x8 x9 x10 x11 x12 x13 x14 x15 x16 x17 x18 x19 x20 x21 x22)) [o, lD xs] := by
    simp -implicitDefEqProofs [c1]
  have s2 : sIf (bOr (bNot (bTru (eCall false (mf__law_same_words g) (aCons (eVar 7) (aCons (eVar 6) (aNil)))))) (bOr (bNot (bTru (eCall false (mf__law_is_plain g) (aCons (eVar 7) (aNil))))) (bVal (e2 (gIsB not) (eCall false (mf_is_word g) (aCons (eVar 2) (aCons (eVar 6) (aNil)))) (eC (.raw (.bl true))))))) (sRet (eC (.raw (.bl false)))) (sNext) (lawF x0 (some (.obj 1)) (some (dI b)) x3 x4 x5 (some (wD a t)) (some (wD p1 p2)) x8 x9 x10 x11 x12 x13 x14 x15 x16 x17 x18 x19 x20 x21 x22) [o, lD xs] = .ok (.nx (lawF x0 (some (.obj 1)) (some (dI b)) x3 x4 x5 (some (wD a t)) (some (wD p1 p2)) x8 x9 x10 x11 x12 x13 x14 x15 x16 x17 x18 x19 x20 x21 x22)) [o, lD xs] := by
    simp -implicitDefEqProofs [hsame, hpl, hisw]
  unfold bo_law_1
  rw [seq_nx s1, seq_nx s2]
  simp -implicitDefEqProofs only [q_seq, q_asg, q_2, q_A, q_cons, q_nil, q_call, q_var, q_C, List.getElem?_cons_zero, List.getElem?_cons_succ, bnd_ok, n1', q_int, gMod, q_gI, cp, if_true, hn2, q_gN, gAnd_ok', List.set_cons_succ, List.set_cons_zero, c2, q_sIf, q_or, q_not, q_bTru, q_eLc, hlc, hall, q_toT, Bool.not_true, Bool.false_eq_true, if_false, hpl2, q_val, l1, l2, gNe, q_eqI, decide_true, q_toB, q_next]
end
end K01
end Sm

set_option Elab.async false
set_option linter.all false
set_option maxRecDepth 100000
set_option maxHeartbeats 4000000
/-! k01: the plain reading, the law's second loop. -/
namespace Sm
namespace K01
open PySem PySem.Spec L2
variable (g : Gl0)
theorem cy_dbl (t : List Int) (ht : t ≠ []) : cy (t ++ t) = cy t := by
  have hl := List.length_pos_iff.mpr ht
  funext k
  have e : t ++ t = (List.replicate 2 t).flatten := by simp [List.replicate]
  have hk : k % (2 * t.length) < 2 * t.length := Nat.mod_lt _ (by omega)
  rw [cy, e, flat_len, flat_get t 2 _ hk, ← cy_mod t (k % (2 * t.length)), Nat.mod_mod_of_dvd _ (Nat.dvd_mul_left _ _), cy_mod]
theorem lt_dbl (a t : List Int) (ht : t ≠ []) : lt (a ++ t) (t ++ t) = lt a t := by
  funext n
  by_cases h1 : n < a.length
  · rw [lt_lt (by rw [List.length_append]; omega), lt_lt h1, gd_app h1]
  · rw [lt_ge (a := a) (by omega)]
    by_cases h2 : n < a.length + t.length
    · rw [lt_lt (by rw [List.length_append]; omega), gd_app2 (by omega), cy_lt (by omega)]
    · rw [lt_ge (by rw [List.length_append]; omega), cy_dbl t ht, List.length_append]
      have := cy_per t (n - (a.length + t.length))
      rw [← this]
      congr 1
      omega
theorem okS_mono {b c : Int} (h : b ≤ c) : ∀ s : S, okS b s = true → okS c s = true
  | .yes, _ => rfl
  | .bit k, hk => by
    simp only [okS, Bool.and_eq_true, decide_eq_true_eq] at hk ⊢
    omega
  | .not s, hk => okS_mono h s hk
  | .next s, hk => okS_mono h s hk
  | .bi _ s u, hk => by
    simp only [okS, Bool.and_eq_true] at hk ⊢
    exact ⟨okS_mono h s hk.1, okS_mono h u hk.2⟩
theorem c_opp (s : S) (h : ht s < 40) (m : MH) : callM false (mf_opposite g n_opposite) [sD s] m = .ok (sD (opp s)) m := call_okc (by simp) (v_opin g 40 s h).1 (clo_sD _)
theorem c_inw (s : S) (h : ht s < 40) (m : MH) : callM false (mf_inward g n_inward) [sD s] m = .ok (sD (inw s)) m := call_okc (by simp) (v_opin g 40 s h).2 (clo_sD _)
/-- bools as data -/
def bP (x : Bool) (bs : List Bool) : PyData := .list [.bool x, .tuple (bs.map .bool)]
theorem bP_ok (x : Bool) (bs : List Bool) (h : bs.length ≤ 1000) : toP (.lst [dB x, .tup (bs.map dB)]) = some (bP x bs) ∧ nums (bP x bs) = true ∧ (bP x bs).depth ≤ 40 ∧ (bP x bs).weight ≤ 2 ^ 20 := by
  have h1 : toPs (bs.map dB) = some (bs.map .bool) := toPs_map dB .bool (fun _ => rfl) bs
  have h2 : ∀ bs : List Bool, numsAll (bs.map .bool) = true := fun bs => by
    induction bs with
    | nil => rfl
    | cons b bs ih => simp [numsAll, nums, ih]
  have h3 : PyData.depthAll (bs.map PyData.bool) ≤ 0 := dep_map (k := 0) PyData.bool (fun _ => Nat.le_refl _) bs
  have h4 : ∀ bs : List Bool, PyData.weightAll (bs.map .bool) = bs.length := fun bs => by
    induction bs with
    | nil => rfl
    | cons b bs ih => simp [PyData.weightAll, PyData.weight, ih]; omega
  have e : (2 : Nat) ^ 20 = 1048576 := by decide
  refine ⟨by simp [toP, toPs, h1, bP], by simp [bP, nums, numsAll, h2], ?_, ?_⟩
  · simp only [bP, PyData.depth, PyData.depthAll]
    omega
  · simp only [bP, PyData.weight, PyData.weightAll, h4]
    omega
theorem rep_ne (x : Bool) (bs : List Bool) (h : bs.length ≤ 1000) (m : MH) : ∃ z : Str, gRepr [.lst [dB x, .tup (bs.map dB)]] m = .ok (.raw (.str z)) m ∧ ∀ f, gEqB f (.raw (.str z)) (.raw (.str z)) m = .ok (dB (f true)) m := by
  have hp := bP_ok x bs h
  refine ⟨_, repr_of rfl hp.1 hp.2.1 hp.2.2.1 hp.2.2.2, fun f => ?_⟩
  have := eq_str (f := f) (m := m) (nums_ok _ hp.2.1).1 (nums_ok _ hp.2.1).1
  rw [decide_eq_true rfl] at this
  exact this
section
variable (ne : g.f_holds ≠ g.f_holds_at) (x0 x3 x5 x6 x7 x8 x9 x11 x12 x13 x14 x15 x16 x17 x18 x19 x20 x21 x22 : Option D) (b : Int) (hb : 1 ≤ b ∧ b ≤ 4) (a t : List Int) (hw : okW b a t = true) (ha : a.length ≤ 10) (hl : t.length ≤ 10)
include ne hb hw ha hl
theorem bo2 (o : MO) (xs : List Int) (hx : Dr 4300 xs) :
    ∃ x12' x13' x14' ys, bo_law_2 g (lawF x0 (some (.obj 1)) (some (dI b)) x3 (some (wD a t)) x5 x6 x7 x8 x9 (some (wD (a ++ t) (t ++ t))) x11 x12 x13 x14 x15 x16 x17 x18 x19 x20 x21 x22) [o, lD xs] =
      .ok (.nx (lawF x0 (some (.obj 1)) (some (dI b)) x3 (some (wD a t)) x5 x6 x7 x8 x9 (some (wD (a ++ t) (t ++ t))) x11 x12' x13' x14' x15 x16 x17 x18 x19 x20 x21 x22)) [o, lD ys] ∧ Dr 4300 ys := by
  have ht' := (okW_ne hw).2.2
  have h0 := List.length_pos_iff.mpr ht'
  obtain ⟨s, ys, n1, n2, n3⟩ := c_sentence g b hb.1 4300 xs hx [o, lD xs] 1 rfl
  have n1' : callM false (mf__law_sentence g n__law_sentence) [.obj 1, dI b, dI 3] [o, lD xs] = .ok (sD s) [o, lD ys] := n1
  have hsz : sz s ≤ 22 := n3.2.2
  have hht : ht s ≤ 4 := n3.2.1
  have hoi := ht_oi s
  have hok4 := okS_mono hb.2 s n3.1
  have hss : okSS b s := ⟨n3.1, by omega, by omega⟩
  have hsn : okSS b (.next s) := ⟨n3.1, by simp only [sz]; omega, by simp only [ht]; omega⟩
  have hvl := vals_len ht' (a := a) s
  have v1 := c_lvalues g a t ht' (by omega) (by omega) s hok4 (by omega) [o, lD ys]
  have v2 := c_lvalues g a t ht' (by omega) (by omega) (opp s) (by rw [(okS_oi 4 s).1]; exact hok4) (by omega) [o, lD ys]
  have v3 := c_lvalues g a t ht' (by omega) (by omega) (inw s) (by rw [(okS_oi 4 s).2]; exact hok4) (by omega) [o, lD ys]
  rw [vals_opp ht'] at v2
  rw [vals_inw ht'] at v3
  have p1 := c_opp g s (by omega) [o, lD ys]
  have p2 := c_inw g s (by omega) [o, lD ys]
  have p3 := c_opp g (opp s) (by omega) [o, lD ys]
  rw [(oi_oi s).1] at p3
  have q1 := c_isIn g (opp s) (by omega) [o, lD ys]
  have q2 := c_isIn g (inw s) (by omega) [o, lD ys]
  rw [(isIn_oi s).1] at q1
  rw [(isIn_oi s).2] at q2
  have a0 := call_okc (m := [o, lD ys]) (ds := [dI 0, dI b, sD s, wD a t]) (by simp [clo]) (asked0 g b _ _ _ _ (clo_sD s) (clo_wD a t) (clo_raw _) (v_holds g b a t s hb hss hw)) (clo_raw _)
  have a1 := call_okc (m := [o, lD ys]) (ds := [dI 1, dI b, sD s, wD a t]) (by simp [clo]) (asked1 g ne b _ _ _ _ (clo_sD s) (clo_wD a t) (by simp [clo]) (v_holds_at g b a t s hb hss hw)) (by simp [clo])
  obtain ⟨z, r1, r2⟩ := rep_ne ((vals a t s).getD 0 false) (vals a t s) (by omega) [o, lD ys]
  have r3 := r2 not
  have hix : atI ((vals a t s).map dB) 0 = some (dB ((vals a t s).getD 0 false)) := atI_B (xs := vals a t s) (p := 0) (by omega)
  have hdn : t ++ t ≠ [] := fun z => by simp at z; exact ht' z
  have hd := c_lholds g (a ++ t) (t ++ t) hdn (by rw [List.length_append]; omega) (by rw [List.length_append]; omega) s hok4 (by omega) [o, lD ys]
  rw [← head_same ht' hdn s (lt_dbl a t ht')] at hd
  have hts := tu_spec a ht' 1
  have c2 := c_tu g a t 1 (by omega) ht' (by omega) [o, lD ys]
  have hh := c_lholds g (tu a t 1).1 (tu a t 1).2 hts.2.1.1.1 (by omega) (by omega) s hok4 (by omega) [o, lD ys]
  rw [← head_next ht' hts.2.1.1.1 s hts.1] at hh
  have hn := call_okc (mf := mf_holds g) (m := [o, lD ys]) (ds := [dI b, sD (.next s), wD a t]) (by simp [clo]) (v_holds g b a t (.next s) hb hsn hw) (clo_raw _)
  have e1 := eq_lB (f := not) ((vals a t s).map fun b => !b) ((vals a t s).map fun b => !b) [o, lD ys]
  have e2' := eq_lB (f := not) (vals a t s) (vals a t s) [o, lD ys]
  have e3 := eq_sD (f := not) (inw s) (by omega) [o, lD ys]
  rw [decide_eq_true rfl] at e1 e2'
  have hlc : ∀ x9 x10 x12 x14 x1 x2 x4, lc_law_2 g (lawF x0 x1 x2 x3 x4 x5 x6 x7 x8 x9 x10 x11 x12 (some (lB (vals a t s))) x14 x15 x16 x17 x18 x19 x20 x21 x22) [o, lD ys] = .ok (((vals a t s).map fun b => !b).map dB) [o, lD ys] := fun x9 x10 x12 x14 x1 x2 x4 => by
    rw [List.map_map]
    refine lcF_of dB _ (vals a t s) (by simp) (by rw [z16]; omega) fun x _ => ⟨_, rfl, rfl, ?_⟩
    simp -implicitDefEqProofs [wipeF]
  have eb : ∀ x : Bool, gEqB not (dB x) (dB x) [o, lD ys] = .ok (dB false) [o, lD ys] := fun x => by rw [q_eqB, decide_eq_true rfl]; rfl
  have zz := z2
  generalize (vals a t (.next s)).getD 0 false = w1 at *
  generalize (vals a t s).getD 0 false = w0 at *
  generalize ((vals a t s).map fun b => !b) = nv at *
  generalize vals a t s = vs at *
  generalize (tu a t 1).1 = u1 at *
  generalize (tu a t 1).2 = u2 at *
  refine ⟨some (sD s), some (lB vs), some (sD (opp s)), ys, ?_, n2⟩
  have s1 : sAsg (eCall false (mf__law_sentence g n__law_sentence) (aCons (eVar 1) (aCons (eVar 2) (aCons (eC (.raw (.int 3))) (aNil))))) (gN 12) (lawF x0 (some (.obj 1)) (some (dI b)) x3 (some (wD a t)) x5 x6 x7 x8 x9 (some (wD (a ++ t) (t ++ t))) x11 x12 x13 x14 x15 x16 x17 x18 x19 x20 x21 x22) [o, lD xs] = .ok (.nx (lawF x0 (some (.obj 1)) (some (dI b)) x3 (some (wD a t)) x5 x6 x7 x8 x9 (some (wD (a ++ t) (t ++ t))) x11 (some (sD s)) x13 x14 x15 x16 x17 x18 x19 x20 x21 x22)) [o, lD ys] := by
    simp -implicitDefEqProofs only [q_asg, q_call, q_cons, q_nil, q_var, q_C, List.getElem?_cons_zero, List.getElem?_cons_succ, bnd_ok, n1', q_gN, gAnd_ok', List.set_cons_succ, List.set_cons_zero]
  have c2' : callM false (mf_turned_on g) [wD a t, dI 1] [o, lD ys] = .ok (wD u1 u2) [o, lD ys] := c2
  have hn' : callM false (mf_holds g) [dI b, .tup [dS "next", sD s], wD a t] [o, lD ys] = .ok (dB w1) [o, lD ys] := hn
  unfold bo_law_2
  rw [seq_nx s1]
  simp -implicitDefEqProofs only [q_seq, q_par, q_par2, q_asg, q_2, q_A, q_cons, q_nil, q_call, q_var, q_C, List.getElem?_cons_zero, List.getElem?_cons_succ, bnd_ok, v1, p1, q_gN, gAnd_ok', List.set_cons_succ, List.set_cons_zero, q_sIf, q_val, a0, a1, q_gLst, List.length_cons, List.length_nil, Nat.zero_add, Nat.reduceAdd, zz, if_true, r1, q_ixL, hix, q_tupL, gNe, r3, Bool.not_true, q_toB, Bool.false_eq_true, if_false, q_next, q_or, q_not, q_bTru, q1, q2, p2, q_toT, v2, q_eLc, hlc, e1, v3, e2', p3, e3, hd, eb, hn', c2', hh, q_gTup]
end
end K01
end Sm

set_option Elab.async false
set_option linter.all false
set_option maxRecDepth 100000
set_option maxHeartbeats 4000000
/-! k01: the plain reading, long words. -/
namespace Sm
namespace K01
open PySem PySem.Spec L2
variable (g : Gl0)
def z40 : List Int := List.replicate 40 0
def z39 : List Int := List.replicate 39 0
def z38 : List Int := List.replicate 38 0
def lz : List Int := z39 ++ [1]
def t3 : List Int := [0, 0, 1]
def o39 : List Int := [1] ++ z39
def t39 : List Int := (List.replicate 13 t3).flatten
def l38 : List Int := z38 ++ [1, 0]
theorem m_zero (k : Nat) (h1 : 1 ≤ k) (h2 : k ≤ 1000) (m : MH) : gMulT (.tup [dI 0]) (dI k) m = .ok (tI (List.replicate k 0)) m := by
  rw [mulT_tup [dI 0] k h1 h2 (by simp) (by simp), rep_one]
  simp
theorem m40 (m : MH) : gMulT (.tup [dI 0]) (.raw (.int 40)) m = .ok (tI z40) m := m_zero 40 (by omega) (by omega) m
theorem m39 (m : MH) : gMulT (.tup [dI 0]) (.raw (.int 39)) m = .ok (tI z39) m := m_zero 39 (by omega) (by omega) m
theorem m38 (m : MH) : gMulT (.tup [dI 0]) (.raw (.int 38)) m = .ok (tI z38) m := m_zero 38 (by omega) (by omega) m
theorem m13 (m : MH) : gMulT (.tup [dI 0, dI 0, dI 1]) (.raw (.int 13)) m = .ok (tI t39) m := by
  have := mulT_tup (t3.map dI) 13 (by omega) (by omega) (by decide) (by decide) m
  rw [rep_map] at this
  exact this
theorem lzD (m : MH) : gAdd (tI z39) (.tup [dI 1]) m = .ok (tI lz) m := by
  have h : z39.length + 1 ≤ sizeLine := by rw [z16]; decide
  rw [tI, q_addT, if_pos (by simpa using h)]
  show R.ok (D.tup _) m = R.ok (D.tup ((z39 ++ [1]).map dI)) m
  rw [List.map_append]
  rfl
theorem oD (m : MH) : gAdd (.tup [dI 1]) (tI z39) m = .ok (tI o39) m := by
  have h : 1 + z39.length ≤ sizeLine := by rw [z16]; decide
  rw [tI, q_addT, if_pos (by simpa using h)]
  rfl
theorem lD38 (m : MH) : gAdd (tI z38) (.tup [dI 1, dI 0]) m = .ok (tI l38) m := by
  have h : z38.length + 2 ≤ sizeLine := by rw [z16]; decide
  rw [tI, q_addT, if_pos (by simpa using h)]
  show R.ok (D.tup _) m = R.ok (D.tup ((z38 ++ [1, 0]).map dI)) m
  rw [List.map_append]
  rfl
/-- words as data -/
def wP (a t : List Int) : PyData := .tuple [.tuple (a.map .int), .tuple (t.map .int)]
def sm (xs : List Int) : Bool := xs.all fun x => decide (0 ≤ x) && decide (x ≤ 100)
theorem weight_small : ∀ xs : List Int, sm xs = true → PyData.weightAll (xs.map .int) ≤ 30 * xs.length
  | [], _ => Nat.le_refl _
  | x :: xs, h => by
    simp only [sm, List.all_cons, Bool.and_eq_true, decide_eq_true_eq] at h
    have ih := weight_small xs h.2
    have hx : x.natAbs ≤ 1000000 := by omega
    have hl := log_small hx
    simp only [List.map_cons, PyData.weightAll, PyData.weight, List.length_cons]
    split <;> omega
theorem nums_small : ∀ xs : List Int, sm xs = true → numsAll (xs.map .int) = true
  | [], _ => rfl
  | x :: xs, h => by
    simp only [sm, List.all_cons, Bool.and_eq_true, decide_eq_true_eq] at h
    have ih := nums_small xs h.2
    simp only [List.map_cons, numsAll, nums, ih, Bool.and_true, Bool.and_eq_true, decide_eq_true_eq]
    omega
theorem wP_ok (a t : List Int) (ha : sm a = true) (ht : sm t = true) (hl : a.length ≤ 1000) (hl' : t.length ≤ 1000) : toP (wD a t) = some (wP a t) ∧ nums (wP a t) = true ∧ (wP a t).depth ≤ 40 ∧ (wP a t).weight ≤ 2 ^ 20 := by
  have h1 : ∀ xs : List Int, toPs (xs.map dI) = some (xs.map .int) := fun xs => toPs_map dI .int (fun _ => rfl) xs
  have h3 : ∀ xs : List Int, PyData.depthAll (xs.map PyData.int) ≤ 0 := fun xs => dep_map (k := 0) PyData.int (fun _ => Nat.le_refl _) xs
  have e : (2 : Nat) ^ 20 = 1048576 := by decide
  refine ⟨by simp [toP, toPs, h1, wP], by simp [wP, nums, numsAll, nums_small a ha, nums_small t ht], ?_, ?_⟩
  · have := h3 a
    have := h3 t
    simp only [wP, PyData.depth, PyData.depthAll]
    omega
  · have := weight_small a ha
    have := weight_small t ht
    simp only [wP, PyData.weight, PyData.weightAll]
    omega
abbrev wR (a t : List Int) : D := .raw (.str (wP a t).shown)
theorem rep_w (a t : List Int) (ha : sm a = true) (ht : sm t = true) (hl : a.length ≤ 1000) (hl' : t.length ≤ 1000) (m : MH) : gRepr [wD a t] m = .ok (wR a t) m := by
  have hp := wP_ok a t ha ht hl hl'
  exact repr_of rfl hp.1 hp.2.1 hp.2.2.1 hp.2.2.2
theorem sOk_w (a t : List Int) (ha : sm a = true) (ht : sm t = true) (hl : a.length ≤ 1000) (hl' : t.length ≤ 1000) : PyData.strOk (wP a t).shown = true := (nums_ok _ (wP_ok a t ha ht hl hl').2.1).1
theorem ne_strs (f : Bool → Bool) (zs : List Str) (h : ∀ z ∈ zs, PyData.strOk z = true) (m : MH) : gEqB f (.lst (zs.map fun z => .raw (.str z))) (.lst (zs.map fun z => .raw (.str z))) m = .ok (dB (f true)) m := by
  have h1 : toPs (zs.map fun z => D.raw (.str z)) = some (zs.map .str) := toPs_map _ .str (fun _ => rfl) zs
  have h2 : ∀ zs : List Str, (∀ z ∈ zs, PyData.strOk z = true) → PyData.canLayAll0 (zs.map .str) = true := fun zs => by
    induction zs with
    | nil => intro _; rfl
    | cons z zs ih =>
      intro h
      simp [PyData.canLayAll0, PyData.canLay0, h z List.mem_cons_self, ih fun y hy => h y (List.mem_cons_of_mem _ hy)]
  have h3 : PyData.depthAll (zs.map PyData.str) ≤ 0 := dep_map (k := 0) PyData.str (fun _ => Nat.le_refl _) zs
  refine eq_self (p := .list (zs.map .str)) (by simp [toP, h1]) (by simp [PyData.canLay0, h2 zs h]) ?_
  simp only [PyData.depth]
  omega
section
variable (ne : g.f_holds ≠ g.f_holds_at)
def says : List S := [.bi .until (.not (.bit 0)) (.bit 0), .bi .until .yes (.bi .and (.bit 0) (.next (.bit 0))), .bi .release (.not .yes) (.bi .until .yes (.bit 0)), .next (.bit 0), .bi .release (.bit 0) (.not (.bit 0))]
theorem says_ok : ∀ s ∈ says, okSS 1 s := by
  have h : says.all (fun s => okS 1 s && decide (sz s ≤ 24) && decide (ht s ≤ 11)) = true := by decide
  intro s hs
  have := List.all_eq_true.mp h s hs
  simp only [Bool.and_eq_true, decide_eq_true_eq] at this
  exact ⟨this.1.1, this.1.2, this.2⟩
include ne
theorem lh1 (x0 x3 x4 x5 x6 x7 : Option D) : lc__law_long_holds_1 g [x0, some (wD z40 lz), some (.lst (says.map sD)), x3, x4, x5, x6, x7] [] = .ok (says.map fun _ => dB true) [] := by
  refine lcF_of sD _ says (by simp) (by rw [z16]; decide) fun s hs => ⟨_, rfl, rfl, ?_⟩
  have hss := says_ok s hs
  have hw : okW 1 z40 lz = true := by decide
  have hb : (1 : Int) ≤ 1 ∧ (1 : Int) ≤ 4 := by omega
  have ht' : lz ≠ [] := by decide
  have ha : z40.length ≤ 100 := by decide
  have hl : lz.length ≤ 100 := by decide
  have hlen : z40.length + lz.length = 80 := by decide
  have hvl := vals_len ht' (a := z40) s
  have hok4 := okS_mono (show (1 : Int) ≤ 4 by omega) s hss.1
  have v1 := c_lvalues g z40 lz ht' ha hl s hok4 (by have := hss.2.2; omega) []
  have a0 := call_okc (m := []) (ds := [dI 0, dI 1, sD s, wD z40 lz]) (by simp [clo]) (asked0 g 1 _ _ _ _ (clo_sD s) (clo_wD z40 lz) (clo_raw _) (v_holds g 1 z40 lz s hb hss hw)) (clo_raw _)
  have a1 := call_okc (m := []) (ds := [dI 1, dI 1, sD s, wD z40 lz]) (by simp [clo]) (asked1 g ne 1 _ _ _ _ (clo_sD s) (clo_wD z40 lz) (by simp [clo]) (v_holds_at g 1 z40 lz s hb hss hw)) (by simp [clo])
  obtain ⟨z, r1, r2⟩ := rep_ne ((vals z40 lz s).getD 0 false) (vals z40 lz s) (by omega) []
  have r3 := r2 id
  have hix : atI ((vals z40 lz s).map dB) 0 = some (dB ((vals z40 lz s).getD 0 false)) := atI_B (xs := vals z40 lz s) (p := 0) (by omega)
  have zz := z2
  generalize (vals z40 lz s).getD 0 false = w0 at *
  generalize vals z40 lz s = vs at *
  simp -implicitDefEqProofs only [wipeF, q_2, q_A, q_cons, q_nil, q_call, q_var, q_C, List.getElem?_cons_zero, List.getElem?_cons_succ, List.set_cons_succ, List.set_cons_zero, bnd_ok, a0, a1, q_gLst, List.length_cons, List.length_nil, Nat.zero_add, Nat.reduceAdd, zz, if_true, r1, v1, q_ixL, hix, q_tupL, gEq, r3, id]
omit ne in
theorem pws : pw z40 lz = (z40, lz) ∧ pw z40 z40 = ([], [0]) ∧ pw lz lz = ([], lz) ∧ pw o39 t39 = (o39, t3) ∧ tu z40 lz 1000 = ([], lz) ∧ tu z40 lz 1001 = ([], l38) ∧ lt z40 lz 279 = 1 ∧ lt z40 lz 280 = 0 ∧ pw (z40.drop 1) lz ≠ pw z40 lz ∧ pw [] [1, 0] = pw [1] [0, 1] := by decide +kernel
end
end K01
end Sm

set_option Elab.async false
set_option linter.all false
set_option maxRecDepth 100000
set_option maxHeartbeats 4000000
/-! k01: the plain reading, long words, whole. -/
namespace Sm
namespace K01
open PySem PySem.Spec L2
variable (g : Gl0)
abbrev Wd2 : Type := List Int × List Int
def plains : List (Wd2 × Wd2) := [((z40, lz), (z40, lz)), ((z40, z40), ([], [0])), ((lz, lz), ([], lz)), ((o39, t39), (o39, t3))]
abbrev pairD (q : Wd2 × Wd2) : D := .tup [wD q.1.1 q.1.2, wD q.2.1 q.2.2]
theorem plains_ok : ∀ q ∈ plains, pw q.1.1 q.1.2 = q.2 ∧ q.1.1.length ≤ 100 ∧ q.1.2.length ≤ 100 ∧ q.1.2 ≠ [] ∧ sm q.2.1 = true ∧ sm q.2.2 = true ∧ q.2.1.length ≤ 100 ∧ q.2.2.length ≤ 100 := by
  have h : plains.all (fun q => decide (pw q.1.1 q.1.2 = q.2) && decide (q.1.1.length ≤ 100) && decide (q.1.2.length ≤ 100) && decide (q.1.2 ≠ []) && sm q.2.1 && sm q.2.2 && decide (q.2.1.length ≤ 100) && decide (q.2.2.length ≤ 100)) = true := by decide +kernel
  intro q hq
  have := List.all_eq_true.mp h q hq
  simp only [Bool.and_eq_true, decide_eq_true_eq] at this
  obtain ⟨⟨⟨⟨⟨⟨⟨h1, h2⟩, h3⟩, h4⟩, h5⟩, h6⟩, h7⟩, h8⟩ := this
  exact ⟨h1, h2, h3, h4, h5, h6, h7, h8⟩
theorem lh2 (x0 x1 x2 x4 x5 x6 x7 : Option D) : lc__law_long_holds_2 g [x0, x1, x2, some (.lst (plains.map pairD)), x4, x5, x6, x7] [] = .ok (plains.map fun q => wR q.2.1 q.2.2) [] := by
  refine lcF_of pairD _ plains (by simp) (by rw [z16]; decide) fun q hq => ⟨_, rfl, rfl, ?_⟩
  obtain ⟨h1, h2, h3, h4, h5, h6, h7, h8⟩ := plains_ok q hq
  have c1 := c_pw g q.1.1 q.1.2 h2 h4 h3 []
  rw [h1] at c1
  have r1 := rep_w q.2.1 q.2.2 h5 h6 (by omega) (by omega) []
  generalize wR q.2.1 q.2.2 = z at r1 ⊢
  simp -implicitDefEqProofs only [wipeF, q_A, q_cons, q_nil, q_call, q_var, List.getElem?_cons_zero, List.getElem?_cons_succ, List.set_cons_succ, List.set_cons_zero, bnd_ok, c1, r1]
theorem lh3 (x0 x1 x2 x4 x5 x6 x7 : Option D) : lc__law_long_holds_3 g [x0, x1, x2, some (.lst (plains.map pairD)), x4, x5, x6, x7] [] = .ok (plains.map fun q => wR q.2.1 q.2.2) [] := by
  refine lcF_of pairD _ plains (by simp) (by rw [z16]; decide) fun q hq => ⟨_, rfl, rfl, ?_⟩
  obtain ⟨h1, h2, h3, h4, h5, h6, h7, h8⟩ := plains_ok q hq
  have r1 := rep_w q.2.1 q.2.2 h5 h6 (by omega) (by omega) []
  generalize wR q.2.1 q.2.2 = z at r1 ⊢
  simp -implicitDefEqProofs only [wipeF, q_A, q_cons, q_nil, q_var, List.getElem?_cons_zero, List.getElem?_cons_succ, List.set_cons_succ, List.set_cons_zero, bnd_ok, r1]
theorem lh4 (x0 x2 x3 x4 x5 x6 x7 : Option D) : lc__law_long_holds_4 g [x0, some (wD z40 lz), x2, x3, x4, x5, x6, x7] [] = .ok [wR [] lz, wR [] l38] [] := by
  have z := z2
  have e : [wR [] lz, wR [] l38] = [1000, 1001].map fun n : Nat => wR (tu z40 lz n).1 (tu z40 lz n).2 := by
    rw [List.map_cons, List.map_cons, List.map_nil, pws.2.2.2.2.1, pws.2.2.2.2.2.1]
  rw [e]
  refine lcF_of (fun i : Nat => dI (i : Nat)) (fun n : Nat => wR (tu z40 lz n).1 (tu z40 lz n).2) [1000, 1001] (by simp -implicitDefEqProofs [z]) (by rw [z16]; decide) fun n hn => ⟨_, rfl, rfl, ?_⟩
  have c1 := c_tu g z40 lz n (by decide) (by decide) (by decide) []
  have hs : sm (tu z40 lz n).1 = true ∧ sm (tu z40 lz n).2 = true ∧ (tu z40 lz n).1.length ≤ 1000 ∧ (tu z40 lz n).2.length ≤ 1000 := by
    simp only [List.mem_cons, List.not_mem_nil, or_false] at hn
    rcases hn with rfl | rfl
    · rw [pws.2.2.2.2.1]
      decide
    · rw [pws.2.2.2.2.2.1]
      decide
  have r1 := rep_w (tu z40 lz n).1 (tu z40 lz n).2 hs.1 hs.2.1 hs.2.2.1 hs.2.2.2 []
  generalize wR (tu z40 lz n).1 (tu z40 lz n).2 = zz at r1 ⊢
  simp -implicitDefEqProofs only [wipeF, q_A, q_cons, q_nil, q_call, q_var, List.getElem?_cons_zero, List.getElem?_cons_succ, List.set_cons_succ, List.set_cons_zero, bnd_ok, c1, r1]
theorem lh5 (x0 x2 x3 x4 x5 x6 x7 : Option D) : lc__law_long_holds_5 g [x0, some (wD z40 lz), x2, x3, x4, x5, x6, x7] [] = .ok [dI 1, dI 0] [] := by
  have z := z2
  have e : [dI 1, dI 0] = [279, 280].map fun n : Nat => dI (lt z40 lz n) := by
    rw [List.map_cons, List.map_cons, List.map_nil, pws.2.2.2.2.2.2.1, pws.2.2.2.2.2.2.2.1]
  rw [e]
  refine lcF_of (fun i : Nat => dI (i : Nat)) (fun n : Nat => dI (lt z40 lz n)) [279, 280] (by simp -implicitDefEqProofs [z]) (by rw [z16]; decide) fun n hn => ⟨_, rfl, rfl, ?_⟩
  have c1 := c_letter g z40 lz (by decide) n []
  generalize lt z40 lz n = x at c1 ⊢
  simp -implicitDefEqProofs only [wipeF, q_cons, q_nil, q_call, q_var, List.getElem?_cons_zero, List.getElem?_cons_succ, List.set_cons_succ, List.set_cons_zero, bnd_ok, c1]
theorem c_same (a t b u : List Int) (ha : a.length ≤ 100) (ht : t ≠ []) (hl : t.length ≤ 100) (hb : b.length ≤ 100) (hu : u ≠ []) (hm : u.length ≤ 100) (m : MH) : callM false (mf_same_words g) [wD a t, wD b u] m = .ok (dB (decide (pw a t = pw b u))) m := call_okc (by simp) (v_same_words g a t b u ha ht hl hb hu hm) (clo_raw _)
theorem ne_strs' {α : Type} (f : Bool → Bool) (xs : List α) (w : α → Str) (h : ∀ x ∈ xs, PyData.strOk (w x) = true) (m : MH) : gEqB f (.lst (xs.map fun x => .raw (.str (w x)))) (.lst (xs.map fun x => .raw (.str (w x)))) m = .ok (dB (f true)) m := by
  have e : (xs.map fun x => D.raw (.str (w x))) = (xs.map w).map fun z => .raw (.str z) := by rw [List.map_map]; rfl
  rw [e]
  refine ne_strs f (xs.map w) (fun z hz => ?_) m
  obtain ⟨x, hx, rfl⟩ := List.mem_map.mp hz
  exact h x hx
theorem v_long (ne : g.f_holds ≠ g.f_holds_at) : mf__law_long_holds g [] [] = .ok (dB true) [] := by
  refine runF_ok rfl ?_
  have k1 := z1
  have k2 := z2
  have k3 := z3
  have k4 : 4 ≤ sizeLine := by rw [z16]; omega
  have k5 : 5 ≤ sizeLine := by rw [z16]; omega
  have k0 : 0 ≤ sizeLine := Nat.zero_le _
  have s1 : sAsg (eA gTup (aCons (eA gTup (aCons (eC (.raw (.str "bit"))) (aCons (eC (.raw (.int 0))) (aNil)))) (aCons (eA gTup (aCons (e2 gMulT (eA gTup (aCons (eC (.raw (.int 0))) (aNil))) (eC (.raw (.int 40)))) (aCons (e2 gAdd (e2 gMulT (eA gTup (aCons (eC (.raw (.int 0))) (aNil))) (eC (.raw (.int 39)))) (eA gTup (aCons (eC (.raw (.int 1))) (aNil)))) (aNil)))) (aNil)))) (gT 2 (gsCons (gN 0) (gsCons (gN 1) (gsNil))))
      [none, none, none, none, none, none, none, none] [] = .ok (.nx [some (sD (.bit 0)), some (wD z40 lz), none, none, none, none, none, none]) [] := by
    simp -implicitDefEqProofs only [q_asg, q_A, q_cons, q_nil, q_C, q_2, bnd_ok, q_gTup, List.length_cons, List.length_nil, Nat.zero_add, Nat.reduceAdd, k1, k2, if_true, m40, m39, lzD, q_gT, q_gsCons, q_gsNil, q_gN, gAnd_ok', List.set_cons_succ, List.set_cons_zero]
    rfl
  have hb0 : sD (.bit 0) = .tup [dS "bit", dI 0] := rfl
  have s2 : ∀ F : SmS, sSeq (sAsg (eA gLst (aCons (eA gTup (aCons (eC (.raw (.str "until"))) (aCons (eA gTup (aCons (eC (.raw (.str "not"))) (aCons (eVar 0) (aNil)))) (aCons (eVar 0) (aNil))))) (aCons (eA gTup (aCons (eC (.raw (.str "until"))) (aCons (eA gTup (aCons (eC (.raw (.str "yes"))) (aNil))) (aCons (eA gTup (aCons (eC (.raw (.str "and"))) (aCons (eVar 0) (aCons (eA gTup (aCons (eC (.raw (.str "next"))) (aCons (eVar 0) (aNil)))) (aNil))))) (aNil))))) (aCons (eA gTup (aCons (eC (.raw (.str "release"))) (aCons (eA gTup (aCons (eC (.raw (.str "not"))) (aCons (eA gTup (aCons (eC (.raw (.str "yes"))) (aNil))) (aNil)))) (aCons (eA gTup (aCons (eC (.raw (.str "until"))) (aCons (eA gTup (aCons (eC (.raw (.str "yes"))) (aNil))) (aCons (eVar 0) (aNil))))) (aNil))))) (aCons (eA gTup (aCons (eC (.raw (.str "next"))) (aCons (eVar 0) (aNil)))) (aCons (eA gTup (aCons (eC (.raw (.str "release"))) (aCons (eVar 0) (aCons (eA gTup (aCons (eC (.raw (.str "not"))) (aCons (eVar 0) (aNil)))) (aNil))))) (aNil))))))) (gN 2)) F
      [some (sD (.bit 0)), some (wD z40 lz), none, none, none, none, none, none] [] = F [some (sD (.bit 0)), some (wD z40 lz), some (.lst (says.map sD)), none, none, none, none, none] [] := fun F => by
    refine seq_nx ?_
    simp -implicitDefEqProofs only [q_asg, q_A, q_cons, q_nil, q_C, q_var, List.getElem?_cons_zero, bnd_ok, q_gTup, q_gLst, List.length_cons, List.length_nil, Nat.zero_add, Nat.reduceAdd, k1, k2, k3, k5, if_true, q_gN, gAnd_ok', List.set_cons_succ, List.set_cons_zero]
    rfl
  have hal := all_of says (fun _ => true) []
  have hal2 : says.all (fun _ => true) = true := by decide
  rw [hal2] at hal
  have hl1 := fun x0 x3 x4 x5 x6 x7 => lh1 g ne x0 x3 x4 x5 x6 x7
  have hisw := c_isw g 1 z40 lz (by omega) (by decide) (by decide) []
  rw [show okW 1 z40 lz = true by decide] at hisw
  have s3 : ∀ F : SmS, sSeq (sIf (bOr (bVal (e2 (gIsB not) (eCall false (mf_is_word g) (aCons (eC (.raw (.int 1))) (aCons (eVar 1) (aNil)))) (eC (.raw (.bl true))))) (bNot (bTru (eA gAll (aCons (eLc (lc__law_long_holds_1 g)) (aNil)))))) (sRet (eC (.raw (.bl false)))) (sNext)) F
      [some (sD (.bit 0)), some (wD z40 lz), some (.lst (says.map sD)), none, none, none, none, none] [] = F [some (sD (.bit 0)), some (wD z40 lz), some (.lst (says.map sD)), none, none, none, none, none] [] := fun F => by
    refine seq_nx ?_
    generalize (says.map fun _ => dB true) = L at hl1 hal
    simp -implicitDefEqProofs only [q_sIf, q_or, q_val, q_2, q_call, q_cons, q_nil, q_C, q_var, List.getElem?_cons_zero, List.getElem?_cons_succ, bnd_ok, hisw, q_isB, decide_true, Bool.not_true, q_toB, Bool.false_eq_true, if_false, q_not, q_bTru, q_A, q_eLc, hl1, hal, q_toT, q_next]
  have s4 : ∀ F : SmS, sSeq (sAsg (eA gLst (aCons (eA gTup (aCons (eVar 1) (aCons (eVar 1) (aNil)))) (aCons (eA gTup (aCons (eA gTup (aCons (e2 gMulT (eA gTup (aCons (eC (.raw (.int 0))) (aNil))) (eC (.raw (.int 40)))) (aCons (e2 gMulT (eA gTup (aCons (eC (.raw (.int 0))) (aNil))) (eC (.raw (.int 40)))) (aNil)))) (aCons (eA gTup (aCons (eA gTup (aNil)) (aCons (eA gTup (aCons (eC (.raw (.int 0))) (aNil))) (aNil)))) (aNil)))) (aCons (eA gTup (aCons (eA gTup (aCons (e2 gIx (eVar 1) (eC (.raw (.int 1)))) (aCons (e2 gIx (eVar 1) (eC (.raw (.int 1)))) (aNil)))) (aCons (eA gTup (aCons (eA gTup (aNil)) (aCons (e2 gIx (eVar 1) (eC (.raw (.int 1)))) (aNil)))) (aNil)))) (aCons (eA gTup (aCons (eA gTup (aCons (e2 gAdd (eA gTup (aCons (eC (.raw (.int 1))) (aNil))) (e2 gMulT (eA gTup (aCons (eC (.raw (.int 0))) (aNil))) (eC (.raw (.int 39))))) (aCons (e2 gMulT (eA gTup (aCons (eC (.raw (.int 0))) (aCons (eC (.raw (.int 0))) (aCons (eC (.raw (.int 1))) (aNil))))) (eC (.raw (.int 13)))) (aNil)))) (aCons (eA gTup (aCons (e2 gAdd (eA gTup (aCons (eC (.raw (.int 1))) (aNil))) (e2 gMulT (eA gTup (aCons (eC (.raw (.int 0))) (aNil))) (eC (.raw (.int 39))))) (aCons (eA gTup (aCons (eC (.raw (.int 0))) (aCons (eC (.raw (.int 0))) (aCons (eC (.raw (.int 1))) (aNil))))) (aNil)))) (aNil)))) (aNil)))))) (gN 3)) F
      [some (sD (.bit 0)), some (wD z40 lz), some (.lst (says.map sD)), none, none, none, none, none] [] = F [some (sD (.bit 0)), some (wD z40 lz), some (.lst (says.map sD)), some (.lst (plains.map pairD)), none, none, none, none] [] := fun F => by
    refine seq_nx ?_
    simp -implicitDefEqProofs only [q_asg, q_A, q_2, q_cons, q_nil, q_C, q_var, List.getElem?_cons_zero, List.getElem?_cons_succ, bnd_ok, q_gTup, q_gLst, List.length_cons, List.length_nil, Nat.zero_add, Nat.reduceAdd, k0, k1, k2, k3, k4, k5, if_true, q_gN, gAnd_ok', List.set_cons_succ, List.set_cons_zero, m40, m39, m13, q_ixT, i1, oD]
    rfl
  have hne := ne_strs' not plains (fun q => (wP q.2.1 q.2.2).shown) (fun q hq => by
    obtain ⟨h1, h2, h3, h4, h5, h6, h7, h8⟩ := plains_ok q hq
    exact sOk_w _ _ h5 h6 (by omega) (by omega)) []
  have s5 : ∀ F : SmS, sSeq (sIf (bVal (e2 gNe (eLc (lc__law_long_holds_2 g)) (eLc (lc__law_long_holds_3 g)))) (sRet (eC (.raw (.bl false)))) (sNext)) F
      [some (sD (.bit 0)), some (wD z40 lz), some (.lst (says.map sD)), some (.lst (plains.map pairD)), none, none, none, none] [] = F [some (sD (.bit 0)), some (wD z40 lz), some (.lst (says.map sD)), some (.lst (plains.map pairD)), none, none, none, none] [] := fun F => by
    refine seq_nx ?_
    have e2' := fun x0 x1 x2 x4 x5 x6 x7 => lh2 g x0 x1 x2 x4 x5 x6 x7
    have e3' := fun x0 x1 x2 x4 x5 x6 x7 => lh3 g x0 x1 x2 x4 x5 x6 x7
    generalize (plains.map fun q => wR q.2.1 q.2.2) = L at e2' e3' hne
    simp -implicitDefEqProofs only [q_sIf, q_val, q_2, q_eLc, e2', e3', bnd_ok, gNe, hne, Bool.not_true, q_toB, Bool.false_eq_true, if_false, q_next]
  have r1 := rep_w [] lz (by decide) (by decide) (by decide) (by decide) []
  have r2 := rep_w [] l38 (by decide) (by decide) (by decide) (by decide) []
  have hne2 := ne_strs not [(wP [] lz).shown, (wP [] l38).shown] (fun z hz => by
    simp only [List.mem_cons, List.not_mem_nil, or_false] at hz
    rcases hz with rfl | rfl
    · exact sOk_w _ _ (by decide) (by decide) (by decide) (by decide)
    · exact sOk_w _ _ (by decide) (by decide) (by decide) (by decide)) []
  have hne3 : gEqB not (.lst [dI 1, dI 0]) (.lst [dI 1, dI 0]) [] = .ok (dB (not (decide (([1, 0] : List Int) = [1, 0])))) [] := (EqEnc.lst enc_int).eq (by decide) not [1, 0] [1, 0] []
  have s6 : ∀ F : SmS, sSeq (sIf (bOr (bVal (e2 gNe (eLc (lc__law_long_holds_4 g)) (eA gLst (aCons (eA gRepr (aCons (eA gTup (aCons (eA gTup (aNil)) (aCons (e2 gIx (eVar 1) (eC (.raw (.int 1)))) (aNil)))) (aNil))) (aCons (eA gRepr (aCons (eA gTup (aCons (eA gTup (aNil)) (aCons (e2 gAdd (e2 gMulT (eA gTup (aCons (eC (.raw (.int 0))) (aNil))) (eC (.raw (.int 38)))) (eA gTup (aCons (eC (.raw (.int 1))) (aCons (eC (.raw (.int 0))) (aNil))))) (aNil)))) (aNil))) (aNil)))))) (bVal (e2 gNe (eLc (lc__law_long_holds_5 g)) (eA gLst (aCons (eC (.raw (.int 1))) (aCons (eC (.raw (.int 0))) (aNil))))))) (sRet (eC (.raw (.bl false)))) (sNext)) F
      [some (sD (.bit 0)), some (wD z40 lz), some (.lst (says.map sD)), some (.lst (plains.map pairD)), none, none, none, none] [] = F [some (sD (.bit 0)), some (wD z40 lz), some (.lst (says.map sD)), some (.lst (plains.map pairD)), none, none, none, none] [] := fun F => by
    refine seq_nx ?_
    have e4' := fun x0 x2 x3 x4 x5 x6 x7 => lh4 g x0 x2 x3 x4 x5 x6 x7
    have e5' := fun x0 x2 x3 x4 x5 x6 x7 => lh5 g x0 x2 x3 x4 x5 x6 x7
    have hne2' : gEqB not (.lst [wR [] lz, wR [] l38]) (.lst [wR [] lz, wR [] l38]) [] = .ok (dB (not true)) [] := hne2
    have r1' : gRepr [.tup [.tup [], tI lz]] [] = .ok (wR [] lz) [] := r1
    have r2' : gRepr [.tup [.tup [], tI l38]] [] = .ok (wR [] l38) [] := r2
    generalize wR [] lz = y1 at e4' hne2' r1'
    generalize wR [] l38 = y2 at e4' hne2' r2'
    simp -implicitDefEqProofs only [q_sIf, q_or, q_val, q_2, q_A, q_cons, q_nil, q_var, q_C, List.getElem?_cons_zero, List.getElem?_cons_succ, q_eLc, e4', e5', bnd_ok, q_gTup, q_gLst, List.length_cons, List.length_nil, Nat.zero_add, Nat.reduceAdd, k0, k1, k2, if_true, q_ixT, i1, m38, lD38, r1', r2', gNe, hne2', hne3, decide_true, Bool.not_true, q_toB, Bool.false_eq_true, if_false, q_next]
  have w1 := c_same g z40 lz (z40.drop 1) lz (by decide) (by decide) (by decide) (by decide) (by decide) (by decide) []
  have w2 := c_same g z40 lz z40 z40 (by decide) (by decide) (by decide) (by decide) (by decide) (by decide) []
  have w3 := c_same g [] [1, 0] [1] [0, 1] (by decide) (by decide) (by decide) (by decide) (by decide) (by decide) []
  rw [decide_eq_false (fun e => pws.2.2.2.2.2.2.2.2.1 e.symm)] at w1
  rw [decide_eq_false (by decide +kernel)] at w2
  rw [decide_eq_true pws.2.2.2.2.2.2.2.2.2] at w3
  have hcut : cutD (z40.map dI) (some 1) none = (z40.drop 1).map dI := by
    have := cut_from (ds := z40.map dI) (n := 1) (by decide)
    rw [List.map_drop]
    exact this
  have hb3 : gEqB id (.lst [dB false, dB false, dB true]) (.lst [dB false, dB false, dB true]) [] = .ok (dB (id (decide ([false, false, true] = [false, false, true])))) [] := eq_lB (f := id) [false, false, true] [false, false, true] []
  show bd__law_long_holds g [none, none, none, none, none, none, none, none] [] = _
  unfold bd__law_long_holds
  rw [seq_nx s1, s2, s3, s4, s5, s6]
  have w1' : callM false (mf_same_words g) [wD z40 lz, .tup [.tup ((z40.drop 1).map dI), tI lz]] [] = .ok (dB false) [] := w1
  have w3' : callM false (mf_same_words g) [.tup [.tup [], .tup [dI 1, dI 0]], .tup [.tup [dI 1], .tup [dI 0, dI 1]]] [] = .ok (dB true) [] := w3
  generalize (z40.drop 1).map dI = L at hcut w1'
  simp -implicitDefEqProofs only [q_ret, q_2, q_A, q_cons, q_nil, q_call, q_var, q_C, List.getElem?_cons_zero, List.getElem?_cons_succ, bnd_ok, q_gTup, q_gLst, List.length_cons, List.length_nil, Nat.zero_add, Nat.reduceAdd, k0, k1, k2, k3, if_true, q_sl, q_oPs, q_oPn, q_toI, q_slT, q_ixT, i0, i1, hcut, w1', m40, w2, w3', gEq, hb3, decide_true, id]
end K01
end Sm

set_option Elab.async false
set_option linter.all false
set_option maxRecDepth 100000
set_option maxHeartbeats 4000000
/-! k01: the plain reading, what is told of wrong ones. -/
namespace Sm
namespace K01
open PySem PySem.Spec L2
variable (g : Gl0)
theorem lcF_const {vs : List Nat} {I : Fr → MH → R (List D)} {G : SmG} {T : Fr → MH → R Bool} {E : Fr → MH → R D} {δ : Fr} {m m1 : MH} (ds : List D) (z : D) (hi : I δ m = .ok ds m1) (hl : ds.length ≤ 1000)
    (h : ∀ d ∈ ds, ∃ δ1, G d (wipeF δ vs) m1 = .ok δ1 m1 ∧ T δ1 m1 = .ok true m1 ∧ E δ1 m1 = .ok z m1) : lcF vs I G T E δ m = .ok (List.replicate ds.length z) m1 := by
  have hi' : I δ m = .ok (ds.map id) m1 := by rw [List.map_id]; exact hi
  have := lcF_of (vs := vs) (I := I) (G := G) (T := T) (E := E) (δ := δ) (m := m) (m1 := m1) id (fun _ => z) ds hi' (zs _ hl) h
  rw [this, List.map_const']
section
variable (ne : g.f_holds ≠ g.f_holds_at) (m : MH)
include ne
theorem ask_num (w : Nat) (hw : w < 2) (c : Int) (hc : ¬ (1 ≤ c ∧ c ≤ 4)) : callM false (mf__law_asked g) [dI (w : Nat), dI c, .tup [dS "x"], .tup [.tup [], .tup []]] m = .ok (dS "!number") m := by
  have h1 := cb_number g c (.tup [dS "x"]) (.tup [.tup [], .tup []]) hc
  have hz : kd x_BadNumber = some ("!number" : Str) := by decide
  have hw' : w = 0 ∨ w = 1 := by omega
  rcases hw' with rfl | rfl
  · exact call_okc (by simp [clo, cloL]) (asked0x g c _ _ _ _ hz rfl rfl (x_holds g rfl rfl h1)) (clo_raw _)
  · exact call_okc (by simp [clo, cloL]) (asked1x g ne c _ _ _ _ hz rfl rfl (x_holds_at g rfl rfl h1)) (clo_raw _)
theorem ask_spec (w : Nat) (hw : w < 2) (b : Int) (hb : 1 ≤ b ∧ b ≤ 4) (d : D) (hd : clo d = true) (ht : mf_is_told g [dI b, d] [] = .ok (dB false) []) : callM false (mf__law_asked g) [dI (w : Nat), dI b, d, .tup [.tup [], .tup []]] m = .ok (dS "!spec") m := by
  have h1 := cb_spec g b d (.tup [.tup [], .tup []]) hb hd ht
  have hz : kd x_NotSpec = some ("!spec" : Str) := by decide
  have hw' : w = 0 ∨ w = 1 := by omega
  rcases hw' with rfl | rfl
  · exact call_okc (by simp [clo, cloL, hd]) (asked0x g b _ _ _ _ hz hd rfl (x_holds g hd rfl h1)) (clo_raw _)
  · exact call_okc (by simp [clo, cloL, hd]) (asked1x g ne b _ _ _ _ hz hd rfl (x_holds_at g hd rfl h1)) (clo_raw _)
theorem ask_word (w : Nat) (hw : w < 2) (b : Int) (hb : 1 ≤ b ∧ b ≤ 4) (a t : List Int) (ha : a.length ≤ 100) (hl : t.length ≤ 100) (hn : okW b a t = false) : callM false (mf__law_asked g) [dI (w : Nat), dI b, .tup [dS "yes"], wD a t] m = .ok (dS "!word") m := by
  have h1 := cb_word g b .yes a t hb ⟨rfl, by decide, by decide⟩ ha hl
  rw [hn, if_neg (by decide)] at h1
  have hz : kd x_NotWord = some ("!word" : Str) := by decide
  have hw' : w = 0 ∨ w = 1 := by omega
  rcases hw' with rfl | rfl
  · exact call_okc (by simp [clo]) (asked0x g b _ _ _ _ hz (clo_sD .yes) (clo_wD a t) (x_holds g (clo_sD .yes) (clo_wD a t) h1)) (clo_raw _)
  · exact call_okc (by simp [clo]) (asked1x g ne b _ _ _ _ hz (clo_sD .yes) (clo_wD a t) (x_holds_at g (clo_sD .yes) (clo_wD a t) h1)) (clo_raw _)
omit ne in
theorem ask_num2 (c : Int) (hc : ¬ (1 ≤ c ∧ c ≤ 4)) : callM false (mf__law_asked g) [dI 2, dI c, .raw .non, .tup [.tup [], .tup [dI 0]]] m = .ok (dS "!number") m := by
  have h1 := v_is_word g c [] [0] (by simp) (by simp)
  rw [if_neg hc] at h1
  have hz : kd x_BadNumber = some ("!number" : Str) := by decide
  exact call_okc (by simp [clo, cloL]) (asked2x g c (.raw .non) (wD [] [0]) _ _ hz rfl rfl h1) (clo_raw _)
omit ne in
theorem ask_no (b : Int) (hb : 1 ≤ b ∧ b ≤ 4) (a t : List Int) (ha : a.length ≤ 100) (hl : t.length ≤ 100) (hn : okW b a t = false) : callM false (mf__law_asked g) [dI 2, dI b, .raw .non, wD a t] m = .ok (dB false) m := by
  have h1 := v_is_word g b a t ha hl
  rw [if_pos hb, hn] at h1
  exact call_okc (by simp [clo]) (asked2 g b (.raw .non) (wD a t) _ _ rfl (clo_wD a t) rfl h1) (clo_raw _)
end
def wrong (l : Int) : List (List Int × List Int) := [([], []), ([l], [0]), ([], [-1]), (List.replicate 41 0, [0]), ([], List.replicate 41 0)]
theorem wrong_no (b : Int) (hb : 1 ≤ b ∧ b ≤ 4) (l : Int) (h : l = 2 ^ b.toNat) : ∀ q ∈ wrong l, okW b q.1 q.2 = false ∧ q.1.length ≤ 100 ∧ q.2.length ≤ 100 := by
  subst h
  intro q hq
  simp only [wrong, List.mem_cons, List.not_mem_nil, or_false] at hq
  rcases hq with rfl | rfl | rfl | rfl | rfl
  · exact ⟨by simp [okW], by simp, by simp⟩
  · exact ⟨by simp [okW, okL], by simp, by simp⟩
  · exact ⟨by simp [okW, okL], by simp, by simp⟩
  · exact ⟨by simp [okW, okL], by simp, by simp⟩
  · exact ⟨by simp [okW, okL], by simp, by simp⟩
def bads (b : Int) : List D := [.tup [dS "bit", dI b], .tup [dS "x"], .tup [], .tup [dS "and", .tup [dS "yes"]]]
theorem bads_no (b : Int) : ∀ d ∈ bads b, clo d = true ∧ mf_is_told g [dI b, d] [] = .ok (dB false) [] := by
  intro d hd
  simp only [bads, List.mem_cons, List.not_mem_nil, or_false] at hd
  rcases hd with rfl | rfl | rfl | rfl
  · refine ⟨rfl, ?_⟩
    have := v_told g b (.bit b)
    rw [show okT b (.bit b) = false by simp [okT]] at this
    exact this
  · exact ⟨rfl, v_told_x g b⟩
  · exact ⟨rfl, v_told_nil g b⟩
  · exact ⟨rfl, v_told_and g b _⟩
section
variable (ne : g.f_holds ≠ g.f_holds_at) (x0 x1 x4 x5 x6 x7 x8 x9 x10 x11 x12 x13 x14 x17 x18 x19 x20 x21 x22 x2 x3 x15 x16 : Option D) (b l : Int) (hb : 1 ≤ b ∧ b ≤ 4) (hl : l = 2 ^ b.toNat) (m : MH)
include ne
theorem e3 (w : Nat) (hw : w < 2) : lc_law_3 g (lawF x0 x1 x2 x3 x4 x5 x6 x7 x8 x9 x10 x11 x12 x13 x14 x15 x16 x17 x18 x19 x20 x21 (some (dI (w : Nat)))) m = .ok (List.replicate 2 (dS "!number")) m := by
  have z := z1
  have z' := z2
  have z0 : 0 ≤ sizeLine := Nat.zero_le _
  refine lcF_const [dI 0, dI 5] _ (by simp -implicitDefEqProofs [z']) (by simp) fun d hd => ⟨_, rfl, rfl, ?_⟩
  simp only [List.mem_cons, List.not_mem_nil, or_false] at hd
  rcases hd with rfl | rfl
  · have h := ask_num g ne m w hw 0 (by omega)
    simp -implicitDefEqProofs [wipeF, z, z', h]
  · have h := ask_num g ne m w hw 5 (by omega)
    simp -implicitDefEqProofs [wipeF, z, z', h]
theorem e4 : lc_law_4 g (lawF x0 x1 x2 x3 x4 x5 x6 x7 x8 x9 x10 x11 x12 x13 x14 x15 x16 x17 x18 x19 x20 x21 x22) m = .ok (List.replicate 2 (.lst (List.replicate 2 (dS "!number")))) m := by
  refine lcF_const ((List.range 2).map fun i => .raw (.int (i : Nat))) _ ?_ (by simp) fun d hd => ⟨_, rfl, rfl, ?_⟩
  · rw [q_iA]
    simp -implicitDefEqProofs only [q_cons, q_C, q_nil, bnd_ok]
    exact r1_nat (n := 2) (by omega) _
  · obtain ⟨w, hw, rfl⟩ := List.mem_map.mp hd
    rw [q_eLc]
    have := e3 g ne x0 x1 x4 x5 x6 x7 x8 x9 x10 x11 x12 x13 x14 x17 x18 x19 x20 x21 x2 x3 x15 x16 m w (List.mem_range.mp hw)
    erw [this]
    rfl
omit ne in
theorem e5 : lc_law_5 g (lawF x0 x1 x2 x3 x4 x5 x6 x7 x8 x9 x10 x11 x12 x13 x14 x15 x16 x17 x18 x19 x20 x21 x22) m = .ok (List.replicate 2 (dS "!number")) m := by
  have z := z1
  have z' := z2
  have z0 : 0 ≤ sizeLine := Nat.zero_le _
  refine lcF_const [dI 0, dI 5] _ (by simp -implicitDefEqProofs [z']) (by simp) fun d hd => ⟨_, rfl, rfl, ?_⟩
  simp only [List.mem_cons, List.not_mem_nil, or_false] at hd
  rcases hd with rfl | rfl
  · have h := ask_num2 g m 0 (by omega)
    simp -implicitDefEqProofs [wipeF, z, z', h]
  · have h := ask_num2 g m 5 (by omega)
    simp -implicitDefEqProofs [wipeF, z, z', h]
include hb
theorem e6 (w : Nat) (hw : w < 2) : lc_law_6 g (lawF x0 x1 (some (dI b)) x3 x4 x5 x6 x7 x8 x9 x10 x11 x12 x13 x14 x15 (some (.lst (bads b))) x17 x18 x19 x20 x21 (some (dI (w : Nat)))) m = .ok (List.replicate 4 (dS "!spec")) m := by
  have z' := z2
  have z0 : 0 ≤ sizeLine := Nat.zero_le _
  refine lcF_const (bads b) _ (by simp -implicitDefEqProofs) (by simp [bads]) fun d hd => ⟨_, rfl, rfl, ?_⟩
  have hn := bads_no g b d hd
  have h := ask_spec g ne m w hw b hb d hn.1 hn.2
  simp -implicitDefEqProofs [wipeF, z', h]
theorem e7 : lc_law_7 g (lawF x0 x1 (some (dI b)) x3 x4 x5 x6 x7 x8 x9 x10 x11 x12 x13 x14 x15 (some (.lst (bads b))) x17 x18 x19 x20 x21 x22) m = .ok (List.replicate 2 (.lst (List.replicate 4 (dS "!spec")))) m := by
  refine lcF_const ((List.range 2).map fun i => .raw (.int (i : Nat))) _ ?_ (by simp) fun d hd => ⟨_, rfl, rfl, ?_⟩
  · rw [q_iA]
    simp -implicitDefEqProofs only [q_cons, q_C, q_nil, bnd_ok]
    exact r1_nat (n := 2) (by omega) _
  · obtain ⟨w, hw, rfl⟩ := List.mem_map.mp hd
    rw [q_eLc]
    have := e6 g ne x0 x1 x4 x5 x6 x7 x8 x9 x10 x11 x12 x13 x14 x17 x18 x19 x20 x21 x3 x15 b hb m w (List.mem_range.mp hw)
    erw [this]
    rfl
include hl
theorem e8 (w : Nat) (hw : w < 2) : lc_law_8 g (lawF x0 x1 (some (dI b)) x3 x4 x5 x6 x7 x8 x9 x10 x11 x12 x13 x14 (some (.lst ((wrong l).map fun q => wD q.1 q.2))) x16 x17 x18 x19 x20 x21 (some (dI (w : Nat)))) m = .ok (List.replicate 5 (dS "!word")) m := by
  have z := z1
  refine lcF_const ((wrong l).map fun q => wD q.1 q.2) _ (by simp -implicitDefEqProofs) (by simp [wrong]) fun d hd => ⟨_, rfl, rfl, ?_⟩
  obtain ⟨q, hq, rfl⟩ := List.mem_map.mp hd
  have hn := wrong_no b hb l hl q hq
  have h := ask_word g ne m w hw b hb q.1 q.2 hn.2.1 hn.2.2 hn.1
  simp -implicitDefEqProofs [wipeF, z, h]
theorem e9 : lc_law_9 g (lawF x0 x1 (some (dI b)) x3 x4 x5 x6 x7 x8 x9 x10 x11 x12 x13 x14 (some (.lst ((wrong l).map fun q => wD q.1 q.2))) x16 x17 x18 x19 x20 x21 x22) m = .ok (List.replicate 2 (.lst (List.replicate 5 (dS "!word")))) m := by
  refine lcF_const ((List.range 2).map fun i => .raw (.int (i : Nat))) _ ?_ (by simp) fun d hd => ⟨_, rfl, rfl, ?_⟩
  · rw [q_iA]
    simp -implicitDefEqProofs only [q_cons, q_C, q_nil, bnd_ok]
    exact r1_nat (n := 2) (by omega) _
  · obtain ⟨w, hw, rfl⟩ := List.mem_map.mp hd
    rw [q_eLc]
    have := e8 g ne x0 x1 x4 x5 x6 x7 x8 x9 x10 x11 x12 x13 x14 x17 x18 x19 x20 x21 x3 x16 b l hb hl m w (List.mem_range.mp hw)
    erw [this]
    rfl
omit ne in
theorem e10 : lc_law_10 g (lawF x0 x1 (some (dI b)) x3 x4 x5 x6 x7 x8 x9 x10 x11 x12 x13 x14 (some (.lst ((wrong l).map fun q => wD q.1 q.2))) x16 x17 x18 x19 x20 x21 x22) m = .ok (List.replicate 5 (dB false)) m := by
  refine lcF_const ((wrong l).map fun q => wD q.1 q.2) _ (by simp -implicitDefEqProofs) (by simp [wrong]) fun d hd => ⟨_, rfl, rfl, ?_⟩
  obtain ⟨q, hq, rfl⟩ := List.mem_map.mp hd
  have hn := wrong_no b hb l hl q hq
  have h := ask_no g m b hb q.1 q.2 hn.2.1 hn.2.2 hn.1
  simp -implicitDefEqProofs [wipeF, h]
end
end K01
end Sm

set_option Elab.async false
set_option linter.all false
set_option maxRecDepth 100000
set_option maxHeartbeats 4000000
/-! k01: the plain law. -/
namespace Sm
namespace K01
open PySem PySem.Spec L2
variable (g : Gl0)
def s0 : S := .bi .release (.not .yes) (.bi .or (.not (.bit 0)) (.next (.bit 1)))
theorem bits_of (x : Int) : ∃ b l : Int, 1 + x % 4 = b ∧ (1 ≤ b ∧ b ≤ 4) ∧ l = 2 ^ b.toNat ∧ atI [dI 2, dI 4, dI 8, dI 16] (b - 1) = some (dI l) ∧ 2 ≤ l := by
  obtain ⟨k, hk, hk'⟩ := mod_nat x 4 (by omega)
  have hk2 : x % 4 = (k : Int) := hk
  have hc : k = 0 ∨ k = 1 ∨ k = 2 ∨ k = 3 := by omega
  rcases hc with rfl | rfl | rfl | rfl
  · exact ⟨1, 2, by omega, by omega, rfl, i0 _ _, by omega⟩
  · exact ⟨2, 4, by omega, by omega, rfl, i1 _ _ _, by omega⟩
  · exact ⟨3, 8, by omega, by omega, rfl, i2 _ _ _ _, by omega⟩
  · exact ⟨4, 16, by omega, by omega, rfl, Sm.i3 _ _ _ _ _, by omega⟩
theorem okW_of {b l l' : Int} {a t : List Int} (hl : l = 2 ^ b.toNat) (hl' : l' ≤ l) (ha : Lt l' a) (ht : Lt l' t) (h1 : a.length ≤ 3) (h2 : 1 ≤ t.length) (h3 : t.length ≤ 4) : okW b a t = true := by
  have ho : ∀ xs : List Int, Lt l' xs → xs.length ≤ 4 → okL b xs = true := fun xs h hx => by
    simp only [okL, Bool.and_eq_true, decide_eq_true_eq, List.all_eq_true]
    refine ⟨by omega, fun x hm => ?_⟩
    have := h x hm
    rw [← hl]
    omega
  simp only [okW, ho a ha (by omega), ho t ht h3, Bool.true_and, decide_eq_true_eq]
  omega
section
variable (x0 x3 x10 x11 x12 x13 x14 x15 x16 x17 x18 x19 x20 x21 x22 : Option D) (b : Int) (hb : 1 ≤ b ∧ b ≤ 4)
include hb
theorem lp1 (x6 x7 x8 x9 : Option D) (a t c u : List Int) (hw : okW b a t = true) (ha : a.length ≤ 10) (hl : t.length ≤ 10) (hw' : okW b c u = true) (ha' : c.length ≤ 10) (hl' : u.length ≤ 10) (o : MO) (xs : List Int) (hx : Dr 4300 xs) :
    ∃ x6' x7' x8' x9' ys, lp_law_1 g (lawF x0 (some (.obj 1)) (some (dI b)) x3 (some (wD a t)) (some (wD c u)) x6 x7 x8 x9 x10 x11 x12 x13 x14 x15 x16 x17 x18 x19 x20 x21 x22) [o, lD xs] =
      .ok (.nx (lawF x0 (some (.obj 1)) (some (dI b)) x3 (some (wD a t)) (some (wD c u)) x6' x7' x8' x9' x10 x11 x12 x13 x14 x15 x16 x17 x18 x19 x20 x21 x22)) [o, lD ys] ∧ Dr 4300 ys := by
  have z := z2
  obtain ⟨y7, y8, y9, ys, h1, h2⟩ := bo1 g x0 x3 (some (wD a t)) (some (wD c u)) x10 x11 x12 x13 x14 x15 x16 x17 x18 x19 x20 x21 x22 b hb x7 x8 x9 a t hw ha hl o xs hx
  obtain ⟨w7, w8, w9, zs, h3, h4⟩ := bo1 g x0 x3 (some (wD a t)) (some (wD c u)) x10 x11 x12 x13 x14 x15 x16 x17 x18 x19 x20 x21 x22 b hb y7 y8 y9 c u hw' ha' hl' o ys h2
  refine ⟨some (wD c u), w7, w8, w9, zs, ?_, h4⟩
  have e1 : iD (eA gLst (aCons (eVar 4) (aCons (eVar 5) (aNil)))) (lawF x0 (some (.obj 1)) (some (dI b)) x3 (some (wD a t)) (some (wD c u)) x6 x7 x8 x9 x10 x11 x12 x13 x14 x15 x16 x17 x18 x19 x20 x21 x22) [o, lD xs] = .ok [wD a t, wD c u] [o, lD xs] := by
    simp -implicitDefEqProofs [z]
  have g1 : gN 6 (wD a t) (lawF x0 (some (.obj 1)) (some (dI b)) x3 (some (wD a t)) (some (wD c u)) x6 x7 x8 x9 x10 x11 x12 x13 x14 x15 x16 x17 x18 x19 x20 x21 x22) [o, lD xs] = .ok (lawF x0 (some (.obj 1)) (some (dI b)) x3 (some (wD a t)) (some (wD c u)) (some (wD a t)) x7 x8 x9 x10 x11 x12 x13 x14 x15 x16 x17 x18 x19 x20 x21 x22) [o, lD xs] := rfl
  have g2 : gN 6 (wD c u) (lawF x0 (some (.obj 1)) (some (dI b)) x3 (some (wD a t)) (some (wD c u)) (some (wD a t)) y7 y8 y9 x10 x11 x12 x13 x14 x15 x16 x17 x18 x19 x20 x21 x22) [o, lD ys] = .ok (lawF x0 (some (.obj 1)) (some (dI b)) x3 (some (wD a t)) (some (wD c u)) (some (wD c u)) y7 y8 y9 x10 x11 x12 x13 x14 x15 x16 x17 x18 x19 x20 x21 x22) [o, lD ys] := rfl
  unfold lp_law_1
  rw [q_for, e1, bnd_ok, forL_cons, g1, gAnd_ok', h1, bnd_ok, aft_nx, forL_cons, g2, gAnd_ok', h3, bnd_ok, aft_nx, forL_nil]
end
section
variable (ne : g.f_holds ≠ g.f_holds_at) (x0 x3 x5 x6 x7 x8 x9 x15 x16 x17 x18 x19 x20 x21 x22 : Option D) (b : Int) (hb : 1 ≤ b ∧ b ≤ 4) (a t : List Int) (hw : okW b a t = true) (ha : a.length ≤ 10) (hl : t.length ≤ 10)
include ne hb hw ha hl
theorem lp2 (x11 x12 x13 x14 : Option D) (o : MO) (xs : List Int) (hx : Dr 4300 xs) :
    ∃ δ' m', lp_law_2 g (lawF x0 (some (.obj 1)) (some (dI b)) x3 (some (wD a t)) x5 x6 x7 x8 x9 (some (wD (a ++ t) (t ++ t))) x11 x12 x13 x14 x15 x16 x17 x18 x19 x20 x21 x22) [o, lD xs] = .ok (.nx δ') m' ∧
      ∃ x11' x12' x13' x14' ys, δ' = lawF x0 (some (.obj 1)) (some (dI b)) x3 (some (wD a t)) x5 x6 x7 x8 x9 (some (wD (a ++ t) (t ++ t))) x11' x12' x13' x14' x15 x16 x17 x18 x19 x20 x21 x22 ∧ m' = [o, lD ys] ∧ Dr 4300 ys := by
  have e1 : iA gR1 (aCons (eC (.raw (.int 3))) (aNil)) (lawF x0 (some (.obj 1)) (some (dI b)) x3 (some (wD a t)) x5 x6 x7 x8 x9 (some (wD (a ++ t) (t ++ t))) x11 x12 x13 x14 x15 x16 x17 x18 x19 x20 x21 x22) [o, lD xs] = .ok ((List.range 3).map fun i => .raw (.int (i : Nat))) [o, lD xs] := by
    rw [q_iA]
    simp -implicitDefEqProofs only [q_cons, q_C, q_nil, bnd_ok]
    exact r1_nat (n := 3) (by omega) _
  unfold lp_law_2
  rw [q_for, e1, bnd_ok]
  refine forL_ind (fun _ δ m => ∃ x11' x12' x13' x14' ys, δ = lawF x0 (some (.obj 1)) (some (dI b)) x3 (some (wD a t)) x5 x6 x7 x8 x9 (some (wD (a ++ t) (t ++ t))) x11' x12' x13' x14' x15 x16 x17 x18 x19 x20 x21 x22 ∧ m = [o, lD ys] ∧ Dr 4300 ys) _ (fun δ m h => h) _ _ _ ?_ ⟨_, _, _, _, xs, rfl, rfl, hx⟩
  rintro d hd k δ m ⟨y11, y12, y13, y14, ys, rfl, rfl, h1⟩
  obtain ⟨z12, z13, z14, zs, h2, h3⟩ := bo2 g ne x0 x3 x5 x6 x7 x8 x9 (some d) y12 y13 y14 x15 x16 x17 x18 x19 x20 x21 x22 b hb a t hw ha hl o ys h1
  exact ⟨_, _, _, _, rfl, h2, _, _, _, _, zs, rfl, rfl, h3⟩
end
theorem flat2 (n : Nat) (z : D) (hz : clo z = true) (hn : n ≤ 100) (m : MH) : callM false (mf__law_flat g) [.lst (List.replicate 2 (.lst (List.replicate n z)))] m = .ok (.lst (List.replicate (2 * n) z)) m := by
  have hr : ∀ k : Nat, cloL (List.replicate k z) = true := fun k => by
    induction k with
    | zero => rfl
    | succ k ih => simp [List.replicate_succ, hz, ih]
  have h := c_flat g [List.replicate n z, List.replicate n z] (by simp; omega) (by simp [clo, hr]) (by simpa [List.flatten] using hr (n + n)) m
  have e : [List.replicate n z, List.replicate n z].flatten = List.replicate (2 * n) z := by simp [List.flatten]; omega
  rw [e] at h
  exact h
theorem eq_rep (f : Bool → Bool) (n : Nat) (z : String) (m : MH) : gEqB f (.lst (List.replicate n (dS z))) (.lst (List.replicate n (dS z))) m = .ok (dB (f true)) m := by
  have := (EqEnc.lst enc_str).eq (by decide) f (List.replicate n z) (List.replicate n z) m
  rw [decide_eq_true rfl] at this
  simpa [List.map_replicate] using this
end K01
end Sm

set_option Elab.async false
set_option linter.all false
set_option maxRecDepth 100000
set_option maxHeartbeats 4000000
/-! k01: the plain law, whole. -/
namespace Sm
namespace K01
open PySem PySem.Spec L2
variable (g : Gl0)
theorem plain_law (ne : g.f_holds ≠ g.f_holds_at) (ns : List Int) (hn : ns.length ≤ 63) : ∃ m', mf_law g [scrD ns] [] = .ok (.raw (.bl true)) m' := by
  obtain ⟨xs, d1, d2⟩ := v_draws g ns hn
  have c1 := call_new (mf := mf__law_draws g) (ds := [scrD ns]) (m := []) (by simp [scrD, clo]) d1 rfl (by simp)
  have c1' : callM true (mf__law_draws g) [scrD ns] [] = .ok (.obj 0) [lD xs] := c1
  obtain ⟨ys, ws, c2, w2⟩ := c_more g 4000 0 xs d2 [lD xs] rfl
  have c2' : callM true (mf__law_more g) [.obj 0, dI 300] [lD xs] = .ok (.obj 1) [lD ys, lD ws] := c2
  obtain ⟨x, us, n1, n2, n3⟩ := c_next g 4300 ws w2 [lD ys, lD ws] 1 rfl
  have n1' : callM false (mf__law_next g) [.obj 1] [lD ys, lD ws] = .ok (dI x) [lD ys, lD us] := n1
  obtain ⟨b, l, hb1, hb, hl, hix, hl2⟩ := bits_of x
  obtain ⟨a, t, v1, p1, p2, p3, p4, p5, p6, p7⟩ := v_word g 4300 l (by omega) us n3
  have q1 : callM false (mf__law_word g) [.obj 1, dI l] [lD ys, lD us] = .ok (wD a t) [lD ys, lD v1] := call_objok (n := 1) (by simp) rfl (by simp) p1 (by simp) (clo_wD _ _)
  obtain ⟨l2, hl3, hl4, hl5⟩ : ∃ l2 : Int, (if (2 : Int) < l then 2 else l) = l2 ∧ 0 < l2 ∧ l2 ≤ l := by
    by_cases h : (2 : Int) < l
    · exact ⟨2, if_pos h, by omega, by omega⟩
    · exact ⟨l, if_neg h, by omega, by omega⟩
  obtain ⟨c, u, v2, r1, r2, r3, r4, r5, r6, r7⟩ := v_word g 4300 l2 hl4 v1 p2
  have q2 : callM false (mf__law_word g) [.obj 1, dI l2] [lD ys, lD v1] = .ok (wD c u) [lD ys, lD v2] := call_objok (n := 1) (by simp) rfl (by simp) r1 (by simp) (clo_wD _ _)
  have hw := okW_of hl (Int.le_refl l) p6 p7 p3 p4 p5
  have hw' := okW_of hl hl5 r6 r7 r3 r4 r5
  have hmin : gMin2 [dI l, dI 2] = fun m => R.ok (dI l2) m := by
    funext m
    rw [← hl3]
    rfl
  have ht := (okW_ne hw).2.2
  have hu := (okW_ne hw').2.2
  obtain ⟨y6, y7, y8, y9, v3, E7, g7⟩ := lp1 g (some (scrD ns)) (some (dI l)) none none none none none none none none none none none none none b hb none none none none a t c u hw (by omega) (by omega) hw' (by omega) (by omega) (lD ys) v2 r2
  obtain ⟨δ', m', E8, y11, y12, y13, y14, v4, rfl, rfl, g8⟩ := lp2 g ne (some (scrD ns)) (some (dI l)) (some (wD c u)) y6 y7 y8 y9 none none none none none none none none b hb a t hw (by omega) (by omega) none none none none (lD ys) v3 g7
  -- the sentence at hand
  have k0 : 0 ≤ sizeLine := Nat.zero_le _
  have k1 := z1
  have k2 := z2
  have k3 := z3
  have k4 : 4 ≤ sizeLine := by rw [z16]; omega
  have k5 : 5 ≤ sizeLine := by rw [z16]; omega
  have hs0 := call_okc (mf := mf_holds g) (m := [lD ys, lD v2]) (ds := [dI 2, sD s0, wD [] [1, 2]]) (by simp [clo]) (v_holds g 2 [] [1, 2] s0 (by omega) ⟨by decide, by decide, by decide⟩ (by decide)) (clo_raw _)
  rw [show (vals [] [1, 2] s0).getD 0 false = true by decide +kernel] at hs0
  have hs0' : callM false (mf_holds g) [dI 2, .tup [dS "release", .tup [dS "not", .tup [dS "yes"]], .tup [dS "or", .tup [dS "not", .tup [dS "bit", dI 0]], .tup [dS "next", .tup [dS "bit", dI 1]]]], .tup [.tup [], .tup [dI 1, dI 2]]] [lD ys, lD v2] = .ok (dB true) [lD ys, lD v2] := hs0
  have hlen : t.length ≤ 4 ∧ u.length ≤ 4 := ⟨p5, r5⟩
  have hdn : t ++ t ≠ [] := fun z => by simp at z; exact ht z
  have w1 := c_same g a t (a ++ t) (t ++ t) (by omega) ht (by omega) (by rw [List.length_append]; omega) hdn (by rw [List.length_append]; omega) [lD ys, lD v3]
  rw [decide_eq_true ((pw_eq_iff ht hdn).mpr (lt_dbl a t ht).symm)] at w1
  have w2' := c_same g a t c u (by omega) ht (by omega) (by omega) hu (by omega) [lD ys, lD v3]
  have w3 := c_lsame g a t c u ht hu [lD ys, lD v3]
  have hm : t.length * u.length ≤ 16 := Nat.mul_le_mul p5 r5
  have hiff := lsw_iff (a := a) (b := c) ht hu (by omega) (by omega)
  have hsm : lsw a t c u = decide (pw a t = pw c u) := by
    refine Bool.eq_iff_iff.mpr ?_
    rw [hiff, decide_eq_true_eq, pw_eq_iff ht hu]
  rw [hsm] at w3
  have hdd : gAdd (tI a) (tI t) [lD ys, lD v3] = .ok (tI (a ++ t)) [lD ys, lD v3] := by
    rw [q_addT, if_pos (by rw [z16, List.length_map, List.length_map]; omega), tI, List.map_append]
  have hdm : gMulT (tI t) (.raw (.int 2)) [lD ys, lD v3] = .ok (tI (t ++ t)) [lD ys, lD v3] := by
    have := mulT_tup (t.map dI) 2 (by omega) (by omega) (by rw [List.length_map]; omega) (by rw [List.length_map]; omega) [lD ys, lD v3]
    rw [rep_map] at this
    have e : (List.replicate 2 t).flatten = t ++ t := by simp [List.replicate]
    rw [e] at this
    exact this
  have h41 : ∀ m : MH, gMulT (.tup [dI 0]) (.raw (.int 41)) m = .ok (tI (List.replicate 41 0)) m := fun m => m_zero 41 (by omega) (by omega) m
  have f4 := fun x0 x1 x2 x3 x4 x5 x6 x7 x8 x9 x10 x11 x12 x13 x14 x15 x16 x17 x18 x19 x20 x21 x22 m => e4 g ne x0 x1 x4 x5 x6 x7 x8 x9 x10 x11 x12 x13 x14 x17 x18 x19 x20 x21 x22 x2 x3 x15 x16 m
  have f5 := fun x0 x1 x2 x3 x4 x5 x6 x7 x8 x9 x10 x11 x12 x13 x14 x15 x16 x17 x18 x19 x20 x21 x22 m => e5 g x0 x1 x4 x5 x6 x7 x8 x9 x10 x11 x12 x13 x14 x17 x18 x19 x20 x21 x22 x2 x3 x15 x16 m
  have f7 := fun x0 x1 x3 x4 x5 x6 x7 x8 x9 x10 x11 x12 x13 x14 x15 x17 x18 x19 x20 x21 x22 m => e7 g ne x0 x1 x4 x5 x6 x7 x8 x9 x10 x11 x12 x13 x14 x17 x18 x19 x20 x21 x22 x3 x15 b hb m
  have f9 := fun x0 x1 x3 x4 x5 x6 x7 x8 x9 x10 x11 x12 x13 x14 x16 x17 x18 x19 x20 x21 x22 m => e9 g ne x0 x1 x4 x5 x6 x7 x8 x9 x10 x11 x12 x13 x14 x17 x18 x19 x20 x21 x22 x3 x16 b l hb hl m
  have f10 := fun x0 x1 x3 x4 x5 x6 x7 x8 x9 x10 x11 x12 x13 x14 x16 x17 x18 x19 x20 x21 x22 m => e10 g x0 x1 x4 x5 x6 x7 x8 x9 x10 x11 x12 x13 x14 x17 x18 x19 x20 x21 x22 x3 x16 b l hb hl m
  have fl2 := flat2 g 2 (dS "!number") rfl (by omega) [lD ys, lD v4]
  have fl4 := flat2 g 4 (dS "!spec") rfl (by omega) [lD ys, lD v4]
  have fl5 := flat2 g 5 (dS "!word") rfl (by omega) [lD ys, lD v4]
  have lg := call_okc (m := [lD ys, lD v4]) (ds := []) rfl (v_long g ne) (clo_raw _)
  have cp : cPos x 4 = true := by simp [cPos]
  have k6 : 2 * 2 + 2 ≤ sizeLine := by rw [z16]; omega
  have mrep : ∀ (n : Nat) (z : D) (m : MH), n ≤ 100 → gMulT (.lst [z]) (dI (n : Nat)) m = .ok (.lst (List.replicate n z)) m := fun n z m h => by
    rw [mulL_nat (by omega) (by rw [z16]; simp; omega), rep_one]
  have mf5 : ∀ m : MH, gMulT (.lst [dB false]) (.raw (.int 5)) m = .ok (.lst (List.replicate 5 (dB false))) m := fun m => mrep 5 (dB false) m (by omega)
  have m6 : ∀ m : MH, gMulT (.lst [dS "!number"]) (.raw (.int 6)) m = .ok (.lst (List.replicate 6 (dS "!number"))) m := fun m => mrep 6 _ m (by omega)
  have m8 : ∀ m : MH, gMulT (.lst [dS "!spec"]) (.raw (.int 8)) m = .ok (.lst (List.replicate 8 (dS "!spec"))) m := fun m => mrep 8 _ m (by omega)
  have m10 : ∀ m : MH, gMulT (.lst [dS "!word"]) (.raw (.int 10)) m = .ok (.lst (List.replicate 10 (dS "!word"))) m := fun m => mrep 10 _ m (by omega)
  have ef5 : ∀ m : MH, gEqB not (.lst (List.replicate 5 (dB false))) (.lst (List.replicate 5 (dB false))) m = .ok (dB false) m := fun m => by
    have := eq_lB (f := not) (List.replicate 5 false) (List.replicate 5 false) m
    rw [decide_eq_true rfl] at this
    simpa [lB, List.map_replicate] using this
  have q_subI : ∀ (x y : Int) (m : MH), gSub (.raw (.int x)) (.raw (.int y)) m = .ok (.raw (.int (x - y))) m := fun _ _ _ => rfl
  have S0 : (sAsg (eCall true (mf__law_draws g) (aCons (eVar 0) (aNil))) (gN 1)) (lawF (some (scrD ns)) none none none none none none none none none none none none none none none none none none none none none none) [] = .ok (.nx (lawF (some (scrD ns)) (some (.obj 0)) none none none none none none none none none none none none none none none none none none none none none)) [lD xs] := by
    simp -implicitDefEqProofs only [q_asg, q_call, q_par, q_par2, q_2, q_1, q_A, q_cons, q_nil, q_var, q_C, List.getElem?_cons_zero, List.getElem?_cons_succ, bnd_ok, q_gN, gAnd_ok', List.set_cons_succ, List.set_cons_zero, q_gTup, q_gLst, List.length_cons, List.length_nil, Nat.zero_add, Nat.reduceAdd, k0, k1, k2, k3, k4, k5, if_true, q_int, gMod, q_addI, q_gI, q_ixL, q_ixT, i0, i1, q_sIf, q_val, q_or, q_not, q_bTru, q_isB, decide_true, Bool.not_true, q_toB, q_toT, Bool.false_eq_true, if_false, q_next, q_eLc, q_neg, c1']
  have S1 : (sAsg (eCall true (mf__law_more g) (aCons (eVar 1) (aCons (eC (.raw (.int 300))) (aNil)))) (gN 1)) (lawF (some (scrD ns)) (some (.obj 0)) none none none none none none none none none none none none none none none none none none none none none) [lD xs] = .ok (.nx (lawF (some (scrD ns)) (some (.obj 1)) none none none none none none none none none none none none none none none none none none none none none)) [lD ys, lD ws] := by
    simp -implicitDefEqProofs only [q_asg, q_call, q_par, q_par2, q_2, q_1, q_A, q_cons, q_nil, q_var, q_C, List.getElem?_cons_zero, List.getElem?_cons_succ, bnd_ok, q_gN, gAnd_ok', List.set_cons_succ, List.set_cons_zero, q_gTup, q_gLst, List.length_cons, List.length_nil, Nat.zero_add, Nat.reduceAdd, k0, k1, k2, k3, k4, k5, if_true, q_int, gMod, q_addI, q_gI, q_ixL, q_ixT, i0, i1, q_sIf, q_val, q_or, q_not, q_bTru, q_isB, decide_true, Bool.not_true, q_toB, q_toT, Bool.false_eq_true, if_false, q_next, q_eLc, q_neg, c2']
  have S2 : (sAsg (e2 gAdd (eC (.raw (.int 1))) (e2 gMod (eA gInt (aCons (eCall false (mf__law_next g) (aCons (eVar 1) (aNil))) (aNil))) (eC (.raw (.int 4))))) (gN 2)) (lawF (some (scrD ns)) (some (.obj 1)) none none none none none none none none none none none none none none none none none none none none none) [lD ys, lD ws] = .ok (.nx (lawF (some (scrD ns)) (some (.obj 1)) (some (dI b)) none none none none none none none none none none none none none none none none none none none none)) [lD ys, lD us] := by
    simp -implicitDefEqProofs only [q_asg, q_call, q_par, q_par2, q_2, q_1, q_A, q_cons, q_nil, q_var, q_C, List.getElem?_cons_zero, List.getElem?_cons_succ, bnd_ok, q_gN, gAnd_ok', List.set_cons_succ, List.set_cons_zero, q_gTup, q_gLst, List.length_cons, List.length_nil, Nat.zero_add, Nat.reduceAdd, k0, k1, k2, k3, k4, k5, if_true, q_int, gMod, q_addI, q_gI, q_ixL, q_ixT, i0, i1, q_sIf, q_val, q_or, q_not, q_bTru, q_isB, decide_true, Bool.not_true, q_toB, q_toT, Bool.false_eq_true, if_false, q_next, q_eLc, q_neg, n1', cp, hb1, q_addI]
  have S3 : (sAsg (e2 gIx (eA gLst (aCons (eC (.raw (.int 2))) (aCons (eC (.raw (.int 4))) (aCons (eC (.raw (.int 8))) (aCons (eC (.raw (.int 16))) (aNil)))))) (e2 gSub (eVar 2) (eC (.raw (.int 1))))) (gN 3)) (lawF (some (scrD ns)) (some (.obj 1)) (some (dI b)) none none none none none none none none none none none none none none none none none none none none) [lD ys, lD us] = .ok (.nx (lawF (some (scrD ns)) (some (.obj 1)) (some (dI b)) (some (dI l)) none none none none none none none none none none none none none none none none none none none)) [lD ys, lD us] := by
    simp -implicitDefEqProofs only [q_asg, q_call, q_par, q_par2, q_2, q_1, q_A, q_cons, q_nil, q_var, q_C, List.getElem?_cons_zero, List.getElem?_cons_succ, bnd_ok, q_gN, gAnd_ok', List.set_cons_succ, List.set_cons_zero, q_gTup, q_gLst, List.length_cons, List.length_nil, Nat.zero_add, Nat.reduceAdd, k0, k1, k2, k3, k4, k5, if_true, q_int, gMod, q_addI, q_gI, q_ixL, q_ixT, i0, i1, q_sIf, q_val, q_or, q_not, q_bTru, q_isB, decide_true, Bool.not_true, q_toB, q_toT, Bool.false_eq_true, if_false, q_next, q_eLc, q_neg, q_subI, hix]
  have S4 : (sPar 4 5 (aCons (eCall false (mf__law_word g) (aCons (eVar 1) (aCons (eVar 3) (aNil)))) (aCons (eCall false (mf__law_word g) (aCons (eVar 1) (aCons (eA gMin2 (aCons (eVar 3) (aCons (eC (.raw (.int 2))) (aNil)))) (aNil)))) (aNil)))) (lawF (some (scrD ns)) (some (.obj 1)) (some (dI b)) (some (dI l)) none none none none none none none none none none none none none none none none none none none) [lD ys, lD us] = .ok (.nx (lawF (some (scrD ns)) (some (.obj 1)) (some (dI b)) (some (dI l)) (some (wD a t)) (some (wD c u)) none none none none none none none none none none none none none none none none none)) [lD ys, lD v2] := by
    simp -implicitDefEqProofs only [q_asg, q_call, q_par, q_par2, q_2, q_1, q_A, q_cons, q_nil, q_var, q_C, List.getElem?_cons_zero, List.getElem?_cons_succ, bnd_ok, q_gN, gAnd_ok', List.set_cons_succ, List.set_cons_zero, q_gTup, q_gLst, List.length_cons, List.length_nil, Nat.zero_add, Nat.reduceAdd, k0, k1, k2, k3, k4, k5, if_true, q_int, gMod, q_addI, q_gI, q_ixL, q_ixT, i0, i1, q_sIf, q_val, q_or, q_not, q_bTru, q_isB, decide_true, Bool.not_true, q_toB, q_toT, Bool.false_eq_true, if_false, q_next, q_eLc, q_neg, q1, hmin, q2]
  have S5 : (sIf (bVal (e2 (gIsB not) (eCall false (mf_holds g) (aCons (eC (.raw (.int 2))) (aCons (eA gTup (aCons (eC (.raw (.str "release"))) (aCons (eA gTup (aCons (eC (.raw (.str "not"))) (aCons (eA gTup (aCons (eC (.raw (.str "yes"))) (aNil))) (aNil)))) (aCons (eA gTup (aCons (eC (.raw (.str "or"))) (aCons (eA gTup (aCons (eC (.raw (.str "not"))) (aCons (eA gTup (aCons (eC (.raw (.str "bit"))) (aCons (eC (.raw (.int 0))) (aNil)))) (aNil)))) (aCons (eA gTup (aCons (eC (.raw (.str "next"))) (aCons (eA gTup (aCons (eC (.raw (.str "bit"))) (aCons (eC (.raw (.int 1))) (aNil)))) (aNil)))) (aNil))))) (aNil))))) (aCons (eA gTup (aCons (eA gTup (aNil)) (aCons (eA gTup (aCons (eC (.raw (.int 1))) (aCons (eC (.raw (.int 2))) (aNil)))) (aNil)))) (aNil))))) (eC (.raw (.bl true))))) (sRet (eC (.raw (.bl false)))) (sNext)) (lawF (some (scrD ns)) (some (.obj 1)) (some (dI b)) (some (dI l)) (some (wD a t)) (some (wD c u)) none none none none none none none none none none none none none none none none none) [lD ys, lD v2] = .ok (.nx (lawF (some (scrD ns)) (some (.obj 1)) (some (dI b)) (some (dI l)) (some (wD a t)) (some (wD c u)) none none none none none none none none none none none none none none none none none)) [lD ys, lD v2] := by
    simp -implicitDefEqProofs only [q_asg, q_call, q_par, q_par2, q_2, q_1, q_A, q_cons, q_nil, q_var, q_C, List.getElem?_cons_zero, List.getElem?_cons_succ, bnd_ok, q_gN, gAnd_ok', List.set_cons_succ, List.set_cons_zero, q_gTup, q_gLst, List.length_cons, List.length_nil, Nat.zero_add, Nat.reduceAdd, k0, k1, k2, k3, k4, k5, if_true, q_int, gMod, q_addI, q_gI, q_ixL, q_ixT, i0, i1, q_sIf, q_val, q_or, q_not, q_bTru, q_isB, decide_true, Bool.not_true, q_toB, q_toT, Bool.false_eq_true, if_false, q_next, q_eLc, q_neg, hs0']
  have S7 : (sAsg (eA gTup (aCons (e2 gAdd (e2 gIx (eVar 4) (eC (.raw (.int 0)))) (e2 gIx (eVar 4) (eC (.raw (.int 1))))) (aCons (e2 gMulT (e2 gIx (eVar 4) (eC (.raw (.int 1)))) (eC (.raw (.int 2)))) (aNil)))) (gN 10)) (lawF (some (scrD ns)) (some (.obj 1)) (some (dI b)) (some (dI l)) (some (wD a t)) (some (wD c u)) y6 y7 y8 y9 none none none none none none none none none none none none none) [lD ys, lD v3] = .ok (.nx (lawF (some (scrD ns)) (some (.obj 1)) (some (dI b)) (some (dI l)) (some (wD a t)) (some (wD c u)) y6 y7 y8 y9 (some (wD (a ++ t) (t ++ t))) none none none none none none none none none none none none)) [lD ys, lD v3] := by
    simp -implicitDefEqProofs only [q_asg, q_call, q_par, q_par2, q_2, q_1, q_A, q_cons, q_nil, q_var, q_C, List.getElem?_cons_zero, List.getElem?_cons_succ, bnd_ok, q_gN, gAnd_ok', List.set_cons_succ, List.set_cons_zero, q_gTup, q_gLst, List.length_cons, List.length_nil, Nat.zero_add, Nat.reduceAdd, k0, k1, k2, k3, k4, k5, if_true, q_int, gMod, q_addI, q_gI, q_ixL, q_ixT, i0, i1, q_sIf, q_val, q_or, q_not, q_bTru, q_isB, decide_true, Bool.not_true, q_toB, q_toT, Bool.false_eq_true, if_false, q_next, q_eLc, q_neg, hdd, hdm]
  have S8 : (sIf (bOr (bVal (e2 (gIsB not) (eCall false (mf_same_words g) (aCons (eVar 4) (aCons (eVar 10) (aNil)))) (eC (.raw (.bl true))))) (bVal (e2 gNe (eCall false (mf_same_words g) (aCons (eVar 4) (aCons (eVar 5) (aNil)))) (eCall false (mf__law_same_words g) (aCons (eVar 4) (aCons (eVar 5) (aNil))))))) (sRet (eC (.raw (.bl false)))) (sNext)) (lawF (some (scrD ns)) (some (.obj 1)) (some (dI b)) (some (dI l)) (some (wD a t)) (some (wD c u)) y6 y7 y8 y9 (some (wD (a ++ t) (t ++ t))) none none none none none none none none none none none none) [lD ys, lD v3] = .ok (.nx (lawF (some (scrD ns)) (some (.obj 1)) (some (dI b)) (some (dI l)) (some (wD a t)) (some (wD c u)) y6 y7 y8 y9 (some (wD (a ++ t) (t ++ t))) none none none none none none none none none none none none)) [lD ys, lD v3] := by
    simp -implicitDefEqProofs only [q_asg, q_call, q_par, q_par2, q_2, q_1, q_A, q_cons, q_nil, q_var, q_C, List.getElem?_cons_zero, List.getElem?_cons_succ, bnd_ok, q_gN, gAnd_ok', List.set_cons_succ, List.set_cons_zero, q_gTup, q_gLst, List.length_cons, List.length_nil, Nat.zero_add, Nat.reduceAdd, k0, k1, k2, k3, k4, k5, if_true, q_int, gMod, q_addI, q_gI, q_ixL, q_ixT, i0, i1, q_sIf, q_val, q_or, q_not, q_bTru, q_isB, decide_true, Bool.not_true, q_toB, q_toT, Bool.false_eq_true, if_false, q_next, q_eLc, q_neg, w1, w2', w3, gNe, q_eqB]
  have S10 : (sAsg (eA gLst (aCons (eA gTup (aCons (eA gTup (aNil)) (aCons (eA gTup (aNil)) (aNil)))) (aCons (eA gTup (aCons (eA gTup (aCons (eVar 3) (aNil))) (aCons (eA gTup (aCons (eC (.raw (.int 0))) (aNil))) (aNil)))) (aCons (eA gTup (aCons (eA gTup (aNil)) (aCons (eA gTup (aCons (e1 gNeg (eC (.raw (.int 1)))) (aNil))) (aNil)))) (aCons (eA gTup (aCons (e2 gMulT (eA gTup (aCons (eC (.raw (.int 0))) (aNil))) (eC (.raw (.int 41)))) (aCons (eA gTup (aCons (eC (.raw (.int 0))) (aNil))) (aNil)))) (aCons (eA gTup (aCons (eA gTup (aNil)) (aCons (e2 gMulT (eA gTup (aCons (eC (.raw (.int 0))) (aNil))) (eC (.raw (.int 41)))) (aNil)))) (aNil))))))) (gN 15)) (lawF (some (scrD ns)) (some (.obj 1)) (some (dI b)) (some (dI l)) (some (wD a t)) (some (wD c u)) y6 y7 y8 y9 (some (wD (a ++ t) (t ++ t))) y11 y12 y13 y14 none none none none none none none none) [lD ys, lD v4] = .ok (.nx (lawF (some (scrD ns)) (some (.obj 1)) (some (dI b)) (some (dI l)) (some (wD a t)) (some (wD c u)) y6 y7 y8 y9 (some (wD (a ++ t) (t ++ t))) y11 y12 y13 y14 (some (.lst ((wrong l).map fun q => wD q.1 q.2))) none none none none none none none)) [lD ys, lD v4] := by
    simp -implicitDefEqProofs only [q_asg, q_call, q_par, q_par2, q_2, q_1, q_A, q_cons, q_nil, q_var, q_C, List.getElem?_cons_zero, List.getElem?_cons_succ, bnd_ok, q_gN, gAnd_ok', List.set_cons_succ, List.set_cons_zero, q_gTup, q_gLst, List.length_cons, List.length_nil, Nat.zero_add, Nat.reduceAdd, k0, k1, k2, k3, k4, k5, if_true, q_int, gMod, q_addI, q_gI, q_ixL, q_ixT, i0, i1, q_sIf, q_val, q_or, q_not, q_bTru, q_isB, decide_true, Bool.not_true, q_toB, q_toT, Bool.false_eq_true, if_false, q_next, q_eLc, q_neg, h41]
    rfl
  have S11 : (sAsg (eA gLst (aCons (eA gTup (aCons (eC (.raw (.str "bit"))) (aCons (eVar 2) (aNil)))) (aCons (eA gTup (aCons (eC (.raw (.str "x"))) (aNil))) (aCons (eA gTup (aNil)) (aCons (eA gTup (aCons (eC (.raw (.str "and"))) (aCons (eA gTup (aCons (eC (.raw (.str "yes"))) (aNil))) (aNil)))) (aNil)))))) (gN 16)) (lawF (some (scrD ns)) (some (.obj 1)) (some (dI b)) (some (dI l)) (some (wD a t)) (some (wD c u)) y6 y7 y8 y9 (some (wD (a ++ t) (t ++ t))) y11 y12 y13 y14 (some (.lst ((wrong l).map fun q => wD q.1 q.2))) none none none none none none none) [lD ys, lD v4] = .ok (.nx (lawF (some (scrD ns)) (some (.obj 1)) (some (dI b)) (some (dI l)) (some (wD a t)) (some (wD c u)) y6 y7 y8 y9 (some (wD (a ++ t) (t ++ t))) y11 y12 y13 y14 (some (.lst ((wrong l).map fun q => wD q.1 q.2))) (some (.lst (bads b))) none none none none none none)) [lD ys, lD v4] := by
    simp -implicitDefEqProofs only [q_asg, q_call, q_par, q_par2, q_2, q_1, q_A, q_cons, q_nil, q_var, q_C, List.getElem?_cons_zero, List.getElem?_cons_succ, bnd_ok, q_gN, gAnd_ok', List.set_cons_succ, List.set_cons_zero, q_gTup, q_gLst, List.length_cons, List.length_nil, Nat.zero_add, Nat.reduceAdd, k0, k1, k2, k3, k4, k5, if_true, q_int, gMod, q_addI, q_gI, q_ixL, q_ixT, i0, i1, q_sIf, q_val, q_or, q_not, q_bTru, q_isB, decide_true, Bool.not_true, q_toB, q_toT, Bool.false_eq_true, if_false, q_next, q_eLc, q_neg, q_gTup]
    rfl
  have S12 : (sAsg (e2 gAdd (eCall false (mf__law_flat g) (aCons (eLc (lc_law_4 g)) (aNil))) (eLc (lc_law_5 g))) (gN 17)) (lawF (some (scrD ns)) (some (.obj 1)) (some (dI b)) (some (dI l)) (some (wD a t)) (some (wD c u)) y6 y7 y8 y9 (some (wD (a ++ t) (t ++ t))) y11 y12 y13 y14 (some (.lst ((wrong l).map fun q => wD q.1 q.2))) (some (.lst (bads b))) none none none none none none) [lD ys, lD v4] = .ok (.nx (lawF (some (scrD ns)) (some (.obj 1)) (some (dI b)) (some (dI l)) (some (wD a t)) (some (wD c u)) y6 y7 y8 y9 (some (wD (a ++ t) (t ++ t))) y11 y12 y13 y14 (some (.lst ((wrong l).map fun q => wD q.1 q.2))) (some (.lst (bads b))) (some (.lst (List.replicate 6 (dS "!number")))) none none none none none)) [lD ys, lD v4] := by
    simp -implicitDefEqProofs only [q_asg, q_call, q_par, q_par2, q_2, q_1, q_A, q_cons, q_nil, q_var, q_C, List.getElem?_cons_zero, List.getElem?_cons_succ, bnd_ok, q_gN, gAnd_ok', List.set_cons_succ, List.set_cons_zero, q_gTup, q_gLst, List.length_cons, List.length_nil, Nat.zero_add, Nat.reduceAdd, k0, k1, k2, k3, k4, k5, if_true, q_int, gMod, q_addI, q_gI, q_ixL, q_ixT, i0, i1, q_sIf, q_val, q_or, q_not, q_bTru, q_isB, decide_true, Bool.not_true, q_toB, q_toT, Bool.false_eq_true, if_false, q_next, q_eLc, q_neg, f4, f5, fl2, q_addL, List.length_replicate, k6]
    rfl
  have S13 : (sAsg (eCall false (mf__law_flat g) (aCons (eLc (lc_law_7 g)) (aNil))) (gN 18)) (lawF (some (scrD ns)) (some (.obj 1)) (some (dI b)) (some (dI l)) (some (wD a t)) (some (wD c u)) y6 y7 y8 y9 (some (wD (a ++ t) (t ++ t))) y11 y12 y13 y14 (some (.lst ((wrong l).map fun q => wD q.1 q.2))) (some (.lst (bads b))) (some (.lst (List.replicate 6 (dS "!number")))) none none none none none) [lD ys, lD v4] = .ok (.nx (lawF (some (scrD ns)) (some (.obj 1)) (some (dI b)) (some (dI l)) (some (wD a t)) (some (wD c u)) y6 y7 y8 y9 (some (wD (a ++ t) (t ++ t))) y11 y12 y13 y14 (some (.lst ((wrong l).map fun q => wD q.1 q.2))) (some (.lst (bads b))) (some (.lst (List.replicate 6 (dS "!number")))) (some (.lst (List.replicate 8 (dS "!spec")))) none none none none)) [lD ys, lD v4] := by
    simp -implicitDefEqProofs only [q_asg, q_call, q_par, q_par2, q_2, q_1, q_A, q_cons, q_nil, q_var, q_C, List.getElem?_cons_zero, List.getElem?_cons_succ, bnd_ok, q_gN, gAnd_ok', List.set_cons_succ, List.set_cons_zero, q_gTup, q_gLst, List.length_cons, List.length_nil, Nat.zero_add, Nat.reduceAdd, k0, k1, k2, k3, k4, k5, if_true, q_int, gMod, q_addI, q_gI, q_ixL, q_ixT, i0, i1, q_sIf, q_val, q_or, q_not, q_bTru, q_isB, decide_true, Bool.not_true, q_toB, q_toT, Bool.false_eq_true, if_false, q_next, q_eLc, q_neg, f7, fl4]
  have S14 : (sAsg (eCall false (mf__law_flat g) (aCons (eLc (lc_law_9 g)) (aNil))) (gN 19)) (lawF (some (scrD ns)) (some (.obj 1)) (some (dI b)) (some (dI l)) (some (wD a t)) (some (wD c u)) y6 y7 y8 y9 (some (wD (a ++ t) (t ++ t))) y11 y12 y13 y14 (some (.lst ((wrong l).map fun q => wD q.1 q.2))) (some (.lst (bads b))) (some (.lst (List.replicate 6 (dS "!number")))) (some (.lst (List.replicate 8 (dS "!spec")))) none none none none) [lD ys, lD v4] = .ok (.nx (lawF (some (scrD ns)) (some (.obj 1)) (some (dI b)) (some (dI l)) (some (wD a t)) (some (wD c u)) y6 y7 y8 y9 (some (wD (a ++ t) (t ++ t))) y11 y12 y13 y14 (some (.lst ((wrong l).map fun q => wD q.1 q.2))) (some (.lst (bads b))) (some (.lst (List.replicate 6 (dS "!number")))) (some (.lst (List.replicate 8 (dS "!spec")))) (some (.lst (List.replicate 10 (dS "!word")))) none none none)) [lD ys, lD v4] := by
    simp -implicitDefEqProofs only [q_asg, q_call, q_par, q_par2, q_2, q_1, q_A, q_cons, q_nil, q_var, q_C, List.getElem?_cons_zero, List.getElem?_cons_succ, bnd_ok, q_gN, gAnd_ok', List.set_cons_succ, List.set_cons_zero, q_gTup, q_gLst, List.length_cons, List.length_nil, Nat.zero_add, Nat.reduceAdd, k0, k1, k2, k3, k4, k5, if_true, q_int, gMod, q_addI, q_gI, q_ixL, q_ixT, i0, i1, q_sIf, q_val, q_or, q_not, q_bTru, q_isB, decide_true, Bool.not_true, q_toB, q_toT, Bool.false_eq_true, if_false, q_next, q_eLc, q_neg, f9, fl5]
  have S15 : (sIf (bVal (e2 gNe (eLc (lc_law_10 g)) (e2 gMulT (eA gLst (aCons (eC (.raw (.bl false))) (aNil))) (eC (.raw (.int 5)))))) (sRet (eC (.raw (.bl false)))) (sNext)) (lawF (some (scrD ns)) (some (.obj 1)) (some (dI b)) (some (dI l)) (some (wD a t)) (some (wD c u)) y6 y7 y8 y9 (some (wD (a ++ t) (t ++ t))) y11 y12 y13 y14 (some (.lst ((wrong l).map fun q => wD q.1 q.2))) (some (.lst (bads b))) (some (.lst (List.replicate 6 (dS "!number")))) (some (.lst (List.replicate 8 (dS "!spec")))) (some (.lst (List.replicate 10 (dS "!word")))) none none none) [lD ys, lD v4] = .ok (.nx (lawF (some (scrD ns)) (some (.obj 1)) (some (dI b)) (some (dI l)) (some (wD a t)) (some (wD c u)) y6 y7 y8 y9 (some (wD (a ++ t) (t ++ t))) y11 y12 y13 y14 (some (.lst ((wrong l).map fun q => wD q.1 q.2))) (some (.lst (bads b))) (some (.lst (List.replicate 6 (dS "!number")))) (some (.lst (List.replicate 8 (dS "!spec")))) (some (.lst (List.replicate 10 (dS "!word")))) none none none)) [lD ys, lD v4] := by
    simp -implicitDefEqProofs only [q_asg, q_call, q_par, q_par2, q_2, q_1, q_A, q_cons, q_nil, q_var, q_C, List.getElem?_cons_zero, List.getElem?_cons_succ, bnd_ok, q_gN, gAnd_ok', List.set_cons_succ, List.set_cons_zero, q_gTup, q_gLst, List.length_cons, List.length_nil, Nat.zero_add, Nat.reduceAdd, k0, k1, k2, k3, k4, k5, if_true, q_int, gMod, q_addI, q_gI, q_ixL, q_ixT, i0, i1, q_sIf, q_val, q_or, q_not, q_bTru, q_isB, decide_true, Bool.not_true, q_toB, q_toT, Bool.false_eq_true, if_false, q_next, q_eLc, q_neg, f10, mf5, gNe, ef5]
  refine ⟨[lD ys, lD v4], runF_ok rfl ?_⟩
  show bd_law g (lawF (some (scrD ns)) none none none none none none none none none none none none none none none none none none none none none none) [] = _
  unfold bd_law
  rw [seq_nx S0, seq_nx S1, seq_nx S2, seq_nx S3, seq_nx S4, seq_nx S5, seq_nx E7, seq_nx S7, seq_nx S8, seq_nx E8, seq_nx S10, seq_nx S11, seq_nx S12, seq_nx S13, seq_nx S14, seq_nx S15]
  simp -implicitDefEqProofs only [q_ret, q_eAnd, q_asg, q_call, q_par, q_par2, q_2, q_1, q_A, q_cons, q_nil, q_var, q_C, List.getElem?_cons_zero, List.getElem?_cons_succ, bnd_ok, q_gN, gAnd_ok', List.set_cons_succ, List.set_cons_zero, q_gTup, q_gLst, List.length_cons, List.length_nil, Nat.zero_add, Nat.reduceAdd, k0, k1, k2, k3, k4, k5, if_true, q_int, gMod, q_addI, q_gI, q_ixL, q_ixT, i0, i1, q_sIf, q_val, q_or, q_not, q_bTru, q_isB, decide_true, Bool.not_true, q_toB, q_toT, Bool.false_eq_true, if_false, q_next, q_eLc, q_neg, lg, m6, m8, m10, gEq, eq_rep, id]
end K01
end Sm

set_option Elab.async false
set_option linter.all false
set_option maxRecDepth 100000
set_option maxHeartbeats 4000000
namespace Sm
namespace K01
open PySem PySem.Spec L2
variable {P : Program} {w : World} {K : PySem.W.Frag} {mg : Str → Option Value}
theorem lk_ne {K : PySem.W.Frag} {f f' : Addr} {oc oc' : Value} {od od' : Option Addr} {sl sl' : Array (Option Value)} {fd fd' : FuncData} (h : K.lookup f = some ⟨oc, od, .func fd, sl⟩) (h' : K.lookup f' = some ⟨oc', od', .func fd', sl'⟩) {a b : Str} (ha : fd.name = a) (hb : fd'.name = b) (hn : a ≠ b) : f ≠ f' := fun e => by
  subst e
  rw [h] at h'
  cases h'
  exact hn (ha.symm.trans hb)
theorem all_mk {h : Heap} {fa : Addr} (X : K.In h) (G : h.Ns mainGlobals mg) (hfa : mg "law" = some (.ref fa))
    {C_OweError : Addr}
    {C_NotSpec : Addr}
    {C_NotWord : Addr}
    {C_NotMachine : Addr}
    {C_NotGame : Addr}
    {C_NotPaper : Addr}
    {C_BadNumber : Addr}
    {C_NoAnswer : Addr}
    {C_TooLarge : Addr}
    {C_Malformed : Addr}
    {t_MOST_BITS_0 : Tok}
    {t_MOST_DEEP_0 : Tok}
    {t_MOST_LETTERS_0 : Tok}
    {t_MOST_TUPLES_0 : Tok}
    {p_NO_0 : Addr}
    {t_NO_1 : Tok}
    {p_NO_2 : Addr}
    {t_NO_3 : Tok}
    {p_NO_2_od : Option Addr} {p_NO_2_n : Nat} {p_NO_2_sl : Array (Option Value)}
    {p_NO_0_od : Option Addr} {p_NO_0_n : Nat} {p_NO_0_sl : Array (Option Value)}
    {p_OTHER : Addr} {es_OTHER : Array DictEntry} {n_OTHER : Nat}
    {u_OTHER_0 : Tok}
    {u_OTHER_1 : Tok}
    {u_OTHER_2 : Tok}
    {u_OTHER_3 : Tok}
    {p_SIZES : Addr} {es_SIZES : Array DictEntry} {n_SIZES : Nat}
    {u_SIZES_0 : Tok}
    {u_SIZES_1 : Tok}
    {u_SIZES_2 : Tok}
    {u_SIZES_3 : Tok}
    {u_SIZES_4 : Tok}
    {u_SIZES_5 : Tok}
    {u_SIZES_6 : Tok}
    {u_SIZES_7 : Tok}
    {f_check_bits : Addr} {od_check_bits an_check_bits : Option Addr} {sl_check_bits : Array (Option Value)} {oc_check_bits kV_check_bits dc_check_bits pm_check_bits cd_check_bits ct_check_bits : Value}
    {f_are_letters : Addr} {od_are_letters an_are_letters : Option Addr} {sl_are_letters : Array (Option Value)} {oc_are_letters kV_are_letters dc_are_letters pm_are_letters cd_are_letters ct_are_letters : Value}
    {f_is_word : Addr} {od_is_word an_is_word : Option Addr} {sl_is_word : Array (Option Value)} {oc_is_word kV_is_word dc_is_word pm_is_word cd_is_word ct_is_word : Value}
    {f_check_word : Addr} {od_check_word an_check_word : Option Addr} {sl_check_word : Array (Option Value)} {oc_check_word kV_check_word dc_check_word pm_check_word cd_check_word ct_check_word : Value}
    {f_letter_at : Addr} {od_letter_at an_letter_at : Option Addr} {sl_letter_at : Array (Option Value)} {oc_letter_at kV_letter_at dc_letter_at pm_letter_at cd_letter_at ct_letter_at : Value}
    {f_shortest_round : Addr} {od_shortest_round an_shortest_round : Option Addr} {sl_shortest_round : Array (Option Value)} {oc_shortest_round kV_shortest_round dc_shortest_round pm_shortest_round cd_shortest_round ct_shortest_round : Value}
    {f_plain_word : Addr} {od_plain_word an_plain_word : Option Addr} {sl_plain_word : Array (Option Value)} {oc_plain_word kV_plain_word dc_plain_word pm_plain_word cd_plain_word ct_plain_word : Value}
    {f_same_words : Addr} {od_same_words an_same_words : Option Addr} {sl_same_words : Array (Option Value)} {oc_same_words kV_same_words dc_same_words pm_same_words cd_same_words ct_same_words : Value}
    {f_turned_on : Addr} {od_turned_on an_turned_on : Option Addr} {sl_turned_on : Array (Option Value)} {oc_turned_on kV_turned_on dc_turned_on pm_turned_on cd_turned_on ct_turned_on : Value}
    {f_sides_of : Addr} {od_sides_of an_sides_of : Option Addr} {sl_sides_of : Array (Option Value)} {oc_sides_of kV_sides_of dc_sides_of pm_sides_of cd_sides_of ct_sides_of : Value}
    {f_is_told : Addr} {od_is_told an_is_told : Option Addr} {sl_is_told : Array (Option Value)} {oc_is_told kV_is_told dc_is_told pm_is_told cd_is_told ct_is_told : Value}
    {f_is_sentence : Addr} {od_is_sentence an_is_sentence : Option Addr} {sl_is_sentence : Array (Option Value)} {oc_is_sentence kV_is_sentence dc_is_sentence pm_is_sentence cd_is_sentence ct_is_sentence : Value}
    {f_opposite : Addr} {od_opposite an_opposite : Option Addr} {sl_opposite : Array (Option Value)} {oc_opposite kV_opposite dc_opposite pm_opposite cd_opposite ct_opposite : Value}
    {f_inward : Addr} {od_inward an_inward : Option Addr} {sl_inward : Array (Option Value)} {oc_inward kV_inward dc_inward pm_inward cd_inward ct_inward : Value}
    {f_later_of : Addr} {od_later_of an_later_of : Option Addr} {sl_later_of : Array (Option Value)} {oc_later_of kV_later_of dc_later_of pm_later_of cd_later_of ct_later_of : Value}
    {f_lasting : Addr} {od_lasting an_lasting : Option Addr} {sl_lasting : Array (Option Value)} {oc_lasting kV_lasting dc_lasting pm_lasting cd_lasting ct_lasting : Value}
    {f_values_of : Addr} {od_values_of an_values_of : Option Addr} {sl_values_of : Array (Option Value)} {oc_values_of kV_values_of dc_values_of pm_values_of cd_values_of ct_values_of : Value}
    {f_holds_told : Addr} {od_holds_told an_holds_told : Option Addr} {sl_holds_told : Array (Option Value)} {oc_holds_told kV_holds_told dc_holds_told pm_holds_told cd_holds_told ct_holds_told : Value}
    {f_check_both : Addr} {od_check_both an_check_both : Option Addr} {sl_check_both : Array (Option Value)} {oc_check_both kV_check_both dc_check_both pm_check_both cd_check_both ct_check_both : Value}
    {f_holds : Addr} {od_holds an_holds : Option Addr} {sl_holds : Array (Option Value)} {oc_holds kV_holds dc_holds pm_holds cd_holds ct_holds : Value}
    {f_holds_at : Addr} {od_holds_at an_holds_at : Option Addr} {sl_holds_at : Array (Option Value)} {oc_holds_at kV_holds_at dc_holds_at pm_holds_at cd_holds_at ct_holds_at : Value}
    {f__law_number : Addr} {od__law_number an__law_number : Option Addr} {sl__law_number : Array (Option Value)} {oc__law_number kV__law_number dc__law_number pm__law_number cd__law_number ct__law_number : Value}
    {f__law_draws : Addr} {od__law_draws an__law_draws : Option Addr} {sl__law_draws : Array (Option Value)} {oc__law_draws kV__law_draws dc__law_draws pm__law_draws cd__law_draws ct__law_draws : Value}
    {f__law_flat : Addr} {od__law_flat an__law_flat : Option Addr} {sl__law_flat : Array (Option Value)} {oc__law_flat kV__law_flat dc__law_flat pm__law_flat cd__law_flat ct__law_flat : Value}
    {f__law_next : Addr} {od__law_next an__law_next : Option Addr} {sl__law_next : Array (Option Value)} {oc__law_next kV__law_next dc__law_next pm__law_next cd__law_next ct__law_next : Value}
    {f__law_more : Addr} {od__law_more an__law_more : Option Addr} {sl__law_more : Array (Option Value)} {oc__law_more kV__law_more dc__law_more pm__law_more cd__law_more ct__law_more : Value}
    {f__law_kind : Addr} {od__law_kind an__law_kind : Option Addr} {sl__law_kind : Array (Option Value)} {oc__law_kind kV__law_kind dc__law_kind pm__law_kind cd__law_kind ct__law_kind : Value}
    {f__law_sentence : Addr} {od__law_sentence an__law_sentence : Option Addr} {sl__law_sentence : Array (Option Value)} {oc__law_sentence kV__law_sentence dc__law_sentence pm__law_sentence cd__law_sentence ct__law_sentence : Value}
    {f__law_word : Addr} {od__law_word an__law_word : Option Addr} {sl__law_word : Array (Option Value)} {oc__law_word kV__law_word dc__law_word pm__law_word cd__law_word ct__law_word : Value}
    {f__law_letter : Addr} {od__law_letter an__law_letter : Option Addr} {sl__law_letter : Array (Option Value)} {oc__law_letter kV__law_letter dc__law_letter pm__law_letter cd__law_letter ct__law_letter : Value}
    {f__law_bit : Addr} {od__law_bit an__law_bit : Option Addr} {sl__law_bit : Array (Option Value)} {oc__law_bit kV__law_bit dc__law_bit pm__law_bit cd__law_bit ct__law_bit : Value}
    {f__law_values : Addr} {od__law_values an__law_values : Option Addr} {sl__law_values : Array (Option Value)} {oc__law_values kV__law_values dc__law_values pm__law_values cd__law_values ct__law_values : Value}
    {f__law_holds : Addr} {od__law_holds an__law_holds : Option Addr} {sl__law_holds : Array (Option Value)} {oc__law_holds kV__law_holds dc__law_holds pm__law_holds cd__law_holds ct__law_holds : Value}
    {f__law_same_words : Addr} {od__law_same_words an__law_same_words : Option Addr} {sl__law_same_words : Array (Option Value)} {oc__law_same_words kV__law_same_words dc__law_same_words pm__law_same_words cd__law_same_words ct__law_same_words : Value}
    {f__law_is_inward : Addr} {od__law_is_inward an__law_is_inward : Option Addr} {sl__law_is_inward : Array (Option Value)} {oc__law_is_inward kV__law_is_inward dc__law_is_inward pm__law_is_inward cd__law_is_inward ct__law_is_inward : Value}
    {f__law_asked : Addr} {od__law_asked an__law_asked : Option Addr} {sl__law_asked : Array (Option Value)} {oc__law_asked kV__law_asked dc__law_asked pm__law_asked cd__law_asked ct__law_asked : Value}
    {f__law_is_plain : Addr} {od__law_is_plain an__law_is_plain : Option Addr} {sl__law_is_plain : Array (Option Value)} {oc__law_is_plain kV__law_is_plain dc__law_is_plain pm__law_is_plain cd__law_is_plain ct__law_is_plain : Value}
    {f__law_long_holds : Addr} {od__law_long_holds an__law_long_holds : Option Addr} {sl__law_long_holds : Array (Option Value)} {oc__law_long_holds kV__law_long_holds dc__law_long_holds pm__law_long_holds cd__law_long_holds ct__law_long_holds : Value}
    {f_law : Addr} {od_law an_law : Option Addr} {sl_law : Array (Option Value)} {oc_law kV_law dc_law pm_law cd_law ct_law : Value}
    (aC_OweError : PySem.W.nsIn K mainGlobals "OweError" = some (some (.ref C_OweError)))
    (aC_NotSpec : PySem.W.nsIn K mainGlobals "NotSpec" = some (some (.ref C_NotSpec)))
    (aC_NotWord : PySem.W.nsIn K mainGlobals "NotWord" = some (some (.ref C_NotWord)))
    (aC_NotMachine : PySem.W.nsIn K mainGlobals "NotMachine" = some (some (.ref C_NotMachine)))
    (aC_NotGame : PySem.W.nsIn K mainGlobals "NotGame" = some (some (.ref C_NotGame)))
    (aC_NotPaper : PySem.W.nsIn K mainGlobals "NotPaper" = some (some (.ref C_NotPaper)))
    (aC_BadNumber : PySem.W.nsIn K mainGlobals "BadNumber" = some (some (.ref C_BadNumber)))
    (aC_NoAnswer : PySem.W.nsIn K mainGlobals "NoAnswer" = some (some (.ref C_NoAnswer)))
    (aC_TooLarge : PySem.W.nsIn K mainGlobals "TooLarge" = some (some (.ref C_TooLarge)))
    (aC_Malformed : PySem.W.nsIn K mainGlobals "Malformed" = some (some (.ref C_Malformed)))
    (z_all : PySem.W.nsIn K mainGlobals "all" = some none)
    (z_bool : PySem.W.nsIn K mainGlobals "bool" = some none)
    (z_int : PySem.W.nsIn K mainGlobals "int" = some none)
    (z_isinstance : PySem.W.nsIn K mainGlobals "isinstance" = some none)
    (z_len : PySem.W.nsIn K mainGlobals "len" = some none)
    (z_min : PySem.W.nsIn K mainGlobals "min" = some none)
    (z_range : PySem.W.nsIn K mainGlobals "range" = some none)
    (z_repr : PySem.W.nsIn K mainGlobals "repr" = some none)
    (z_str : PySem.W.nsIn K mainGlobals "str" = some none)
    (z_tuple : PySem.W.nsIn K mainGlobals "tuple" = some none)
    (z_zip : PySem.W.nsIn K mainGlobals "zip" = some none)
    (a_MOST_BITS : PySem.W.nsIn K mainGlobals "MOST_BITS" = some (some (.int 4 t_MOST_BITS_0)))
    (a_MOST_DEEP : PySem.W.nsIn K mainGlobals "MOST_DEEP" = some (some (.int 12 t_MOST_DEEP_0)))
    (a_MOST_LETTERS : PySem.W.nsIn K mainGlobals "MOST_LETTERS" = some (some (.int 40 t_MOST_LETTERS_0)))
    (a_MOST_TUPLES : PySem.W.nsIn K mainGlobals "MOST_TUPLES" = some (some (.int 24 t_MOST_TUPLES_0)))
    (a_NO : PySem.W.nsIn K mainGlobals "NO" = some (some (.ref p_NO_0)))
    (lk_p_NO_0 : K.lookup p_NO_0 = some ⟨.type "tuple", p_NO_0_od, .seq ([.str "not" t_NO_1, .ref p_NO_2] : List Value).toArray p_NO_0_n, p_NO_0_sl⟩)
    (lk_p_NO_2 : K.lookup p_NO_2 = some ⟨.type "tuple", p_NO_2_od, .seq ([.str "yes" t_NO_3] : List Value).toArray p_NO_2_n, p_NO_2_sl⟩)
    (a_OTHER : PySem.W.nsIn K mainGlobals "OTHER" = some (some (.ref p_OTHER)))
    (lk_OTHER : K.lookup p_OTHER = some ⟨.type "dict", none, .dict es_OTHER n_OTHER, #[]⟩)
    (kl_OTHER : PySem.W.KeysLit w.params es_OTHER.toList)
    (lo_OTHER : (p_OTHER == sysModules) = false)
    (e_OTHER_0 : PySem.W.nsIn K p_OTHER "and" = some (some (.str "or" u_OTHER_0)))
    (e_OTHER_1 : PySem.W.nsIn K p_OTHER "or" = some (some (.str "and" u_OTHER_1)))
    (e_OTHER_2 : PySem.W.nsIn K p_OTHER "until" = some (some (.str "release" u_OTHER_2)))
    (e_OTHER_3 : PySem.W.nsIn K p_OTHER "release" = some (some (.str "until" u_OTHER_3)))
    (a_SIZES : PySem.W.nsIn K mainGlobals "SIZES" = some (some (.ref p_SIZES)))
    (lk_SIZES : K.lookup p_SIZES = some ⟨.type "dict", none, .dict es_SIZES n_SIZES, #[]⟩)
    (kl_SIZES : PySem.W.KeysLit w.params es_SIZES.toList)
    (lo_SIZES : (p_SIZES == sysModules) = false)
    (e_SIZES_0 : PySem.W.nsIn K p_SIZES "yes" = some (some (.int 1 u_SIZES_0)))
    (e_SIZES_1 : PySem.W.nsIn K p_SIZES "bit" = some (some (.int 2 u_SIZES_1)))
    (e_SIZES_2 : PySem.W.nsIn K p_SIZES "not" = some (some (.int 2 u_SIZES_2)))
    (e_SIZES_3 : PySem.W.nsIn K p_SIZES "next" = some (some (.int 2 u_SIZES_3)))
    (e_SIZES_4 : PySem.W.nsIn K p_SIZES "and" = some (some (.int 3 u_SIZES_4)))
    (e_SIZES_5 : PySem.W.nsIn K p_SIZES "or" = some (some (.int 3 u_SIZES_5)))
    (e_SIZES_6 : PySem.W.nsIn K p_SIZES "until" = some (some (.int 3 u_SIZES_6)))
    (e_SIZES_7 : PySem.W.nsIn K p_SIZES "release" = some (some (.int 3 u_SIZES_7)))
    (m_SIZES_0 : PySem.W.nsIn K p_SIZES "x" = some none)
    (q_BadNumber : PySem.W.excIn K C_BadNumber [.type "ValueError", .type "Exception", .type "BaseException", .type "object"] "ValueError.__new__" = true)
    (q_NotSpec : PySem.W.excIn K C_NotSpec [.type "ValueError", .type "Exception", .type "BaseException", .type "object"] "ValueError.__new__" = true)
    (q_NotWord : PySem.W.excIn K C_NotWord [.type "ValueError", .type "Exception", .type "BaseException", .type "object"] "ValueError.__new__" = true)
    (kC_OweError : PySem.W.keepIn K (.ref C_OweError) = true)
    (sb_OweError : PySem.W.subIn K (.ref C_OweError) (.type "BaseException") = some true)
    (ty_OweError : PySem.W.typeIn K (.ref C_OweError) = some (.type "type"))
    (kC_NotSpec : PySem.W.keepIn K (.ref C_NotSpec) = true)
    (sb_NotSpec : PySem.W.subIn K (.ref C_NotSpec) (.type "BaseException") = some true)
    (ty_NotSpec : PySem.W.typeIn K (.ref C_NotSpec) = some (.type "type"))
    (kC_NotWord : PySem.W.keepIn K (.ref C_NotWord) = true)
    (sb_NotWord : PySem.W.subIn K (.ref C_NotWord) (.type "BaseException") = some true)
    (ty_NotWord : PySem.W.typeIn K (.ref C_NotWord) = some (.type "type"))
    (kC_NotMachine : PySem.W.keepIn K (.ref C_NotMachine) = true)
    (sb_NotMachine : PySem.W.subIn K (.ref C_NotMachine) (.type "BaseException") = some true)
    (ty_NotMachine : PySem.W.typeIn K (.ref C_NotMachine) = some (.type "type"))
    (kC_NotGame : PySem.W.keepIn K (.ref C_NotGame) = true)
    (sb_NotGame : PySem.W.subIn K (.ref C_NotGame) (.type "BaseException") = some true)
    (ty_NotGame : PySem.W.typeIn K (.ref C_NotGame) = some (.type "type"))
    (kC_NotPaper : PySem.W.keepIn K (.ref C_NotPaper) = true)
    (sb_NotPaper : PySem.W.subIn K (.ref C_NotPaper) (.type "BaseException") = some true)
    (ty_NotPaper : PySem.W.typeIn K (.ref C_NotPaper) = some (.type "type"))
    (kC_BadNumber : PySem.W.keepIn K (.ref C_BadNumber) = true)
    (sb_BadNumber : PySem.W.subIn K (.ref C_BadNumber) (.type "BaseException") = some true)
    (ty_BadNumber : PySem.W.typeIn K (.ref C_BadNumber) = some (.type "type"))
    (kC_NoAnswer : PySem.W.keepIn K (.ref C_NoAnswer) = true)
    (sb_NoAnswer : PySem.W.subIn K (.ref C_NoAnswer) (.type "BaseException") = some true)
    (ty_NoAnswer : PySem.W.typeIn K (.ref C_NoAnswer) = some (.type "type"))
    (kC_TooLarge : PySem.W.keepIn K (.ref C_TooLarge) = true)
    (sb_TooLarge : PySem.W.subIn K (.ref C_TooLarge) (.type "BaseException") = some true)
    (ty_TooLarge : PySem.W.typeIn K (.ref C_TooLarge) = some (.type "type"))
    (kC_Malformed : PySem.W.keepIn K (.ref C_Malformed) = true)
    (sb_Malformed : PySem.W.subIn K (.ref C_Malformed) (.type "BaseException") = some true)
    (ty_Malformed : PySem.W.typeIn K (.ref C_Malformed) = some (.type "type"))
    (hd_OweError : PySem.W.hasDictIn K C_OweError = true)
    (hd_NotSpec : PySem.W.hasDictIn K C_NotSpec = true)
    (hd_NotWord : PySem.W.hasDictIn K C_NotWord = true)
    (hd_NotMachine : PySem.W.hasDictIn K C_NotMachine = true)
    (hd_NotGame : PySem.W.hasDictIn K C_NotGame = true)
    (hd_NotPaper : PySem.W.hasDictIn K C_NotPaper = true)
    (hd_BadNumber : PySem.W.hasDictIn K C_BadNumber = true)
    (hd_NoAnswer : PySem.W.hasDictIn K C_NoAnswer = true)
    (hd_TooLarge : PySem.W.hasDictIn K C_TooLarge = true)
    (hd_Malformed : PySem.W.hasDictIn K C_Malformed = true)
    (so_NotSpec : PySem.W.subIn K (.ref C_NotSpec) (.ref C_OweError) = some true)
    (hg_NotSpec : PySem.W.findIn K (.ref C_NotSpec) "__getattribute__" = some (some (.builtin "BaseException.__getattribute__")))
    (hk_NotSpec : PySem.W.findIn K (.ref C_NotSpec) "__getattr__" = some none)
    (ha_NotSpec : PySem.W.findIn K (.ref C_NotSpec) "__class__" = some (some (.builtin "object.__class__")))
    (hm_NotSpec : PySem.W.mroIn K C_NotSpec (.type "object") = some true)
    (i_NotSpec_NotGame : PySem.W.subIn K (.ref C_NotSpec) (.ref C_NotGame) = some false)
    (n_NotSpec_NotGame : (C_NotSpec == C_NotGame) = false)
    (i_NotSpec_NotMachine : PySem.W.subIn K (.ref C_NotSpec) (.ref C_NotMachine) = some false)
    (n_NotSpec_NotMachine : (C_NotSpec == C_NotMachine) = false)
    (i_NotSpec_NotWord : PySem.W.subIn K (.ref C_NotSpec) (.ref C_NotWord) = some false)
    (n_NotSpec_NotWord : (C_NotSpec == C_NotWord) = false)
    (i_NotSpec_NoAnswer : PySem.W.subIn K (.ref C_NotSpec) (.ref C_NoAnswer) = some false)
    (n_NotSpec_NoAnswer : (C_NotSpec == C_NoAnswer) = false)
    (i_NotSpec_BadNumber : PySem.W.subIn K (.ref C_NotSpec) (.ref C_BadNumber) = some false)
    (n_NotSpec_BadNumber : (C_NotSpec == C_BadNumber) = false)
    (i_NotSpec_NotPaper : PySem.W.subIn K (.ref C_NotSpec) (.ref C_NotPaper) = some false)
    (n_NotSpec_NotPaper : (C_NotSpec == C_NotPaper) = false)
    (i_NotSpec_Malformed : PySem.W.subIn K (.ref C_NotSpec) (.ref C_Malformed) = some false)
    (n_NotSpec_Malformed : (C_NotSpec == C_Malformed) = false)
    (i_NotSpec_TooLarge : PySem.W.subIn K (.ref C_NotSpec) (.ref C_TooLarge) = some false)
    (n_NotSpec_TooLarge : (C_NotSpec == C_TooLarge) = false)
    (so_NotWord : PySem.W.subIn K (.ref C_NotWord) (.ref C_OweError) = some true)
    (hg_NotWord : PySem.W.findIn K (.ref C_NotWord) "__getattribute__" = some (some (.builtin "BaseException.__getattribute__")))
    (hk_NotWord : PySem.W.findIn K (.ref C_NotWord) "__getattr__" = some none)
    (ha_NotWord : PySem.W.findIn K (.ref C_NotWord) "__class__" = some (some (.builtin "object.__class__")))
    (hm_NotWord : PySem.W.mroIn K C_NotWord (.type "object") = some true)
    (i_NotWord_NotGame : PySem.W.subIn K (.ref C_NotWord) (.ref C_NotGame) = some false)
    (n_NotWord_NotGame : (C_NotWord == C_NotGame) = false)
    (i_NotWord_NotMachine : PySem.W.subIn K (.ref C_NotWord) (.ref C_NotMachine) = some false)
    (n_NotWord_NotMachine : (C_NotWord == C_NotMachine) = false)
    (i_NotWord_NotSpec : PySem.W.subIn K (.ref C_NotWord) (.ref C_NotSpec) = some false)
    (n_NotWord_NotSpec : (C_NotWord == C_NotSpec) = false)
    (i_NotWord_NoAnswer : PySem.W.subIn K (.ref C_NotWord) (.ref C_NoAnswer) = some false)
    (n_NotWord_NoAnswer : (C_NotWord == C_NoAnswer) = false)
    (i_NotWord_BadNumber : PySem.W.subIn K (.ref C_NotWord) (.ref C_BadNumber) = some false)
    (n_NotWord_BadNumber : (C_NotWord == C_BadNumber) = false)
    (i_NotWord_NotPaper : PySem.W.subIn K (.ref C_NotWord) (.ref C_NotPaper) = some false)
    (n_NotWord_NotPaper : (C_NotWord == C_NotPaper) = false)
    (i_NotWord_Malformed : PySem.W.subIn K (.ref C_NotWord) (.ref C_Malformed) = some false)
    (n_NotWord_Malformed : (C_NotWord == C_Malformed) = false)
    (i_NotWord_TooLarge : PySem.W.subIn K (.ref C_NotWord) (.ref C_TooLarge) = some false)
    (n_NotWord_TooLarge : (C_NotWord == C_TooLarge) = false)
    (so_BadNumber : PySem.W.subIn K (.ref C_BadNumber) (.ref C_OweError) = some true)
    (hg_BadNumber : PySem.W.findIn K (.ref C_BadNumber) "__getattribute__" = some (some (.builtin "BaseException.__getattribute__")))
    (hk_BadNumber : PySem.W.findIn K (.ref C_BadNumber) "__getattr__" = some none)
    (ha_BadNumber : PySem.W.findIn K (.ref C_BadNumber) "__class__" = some (some (.builtin "object.__class__")))
    (hm_BadNumber : PySem.W.mroIn K C_BadNumber (.type "object") = some true)
    (i_BadNumber_NotGame : PySem.W.subIn K (.ref C_BadNumber) (.ref C_NotGame) = some false)
    (n_BadNumber_NotGame : (C_BadNumber == C_NotGame) = false)
    (i_BadNumber_NotMachine : PySem.W.subIn K (.ref C_BadNumber) (.ref C_NotMachine) = some false)
    (n_BadNumber_NotMachine : (C_BadNumber == C_NotMachine) = false)
    (i_BadNumber_NotWord : PySem.W.subIn K (.ref C_BadNumber) (.ref C_NotWord) = some false)
    (n_BadNumber_NotWord : (C_BadNumber == C_NotWord) = false)
    (i_BadNumber_NotSpec : PySem.W.subIn K (.ref C_BadNumber) (.ref C_NotSpec) = some false)
    (n_BadNumber_NotSpec : (C_BadNumber == C_NotSpec) = false)
    (i_BadNumber_NoAnswer : PySem.W.subIn K (.ref C_BadNumber) (.ref C_NoAnswer) = some false)
    (n_BadNumber_NoAnswer : (C_BadNumber == C_NoAnswer) = false)
    (i_BadNumber_NotPaper : PySem.W.subIn K (.ref C_BadNumber) (.ref C_NotPaper) = some false)
    (n_BadNumber_NotPaper : (C_BadNumber == C_NotPaper) = false)
    (i_BadNumber_Malformed : PySem.W.subIn K (.ref C_BadNumber) (.ref C_Malformed) = some false)
    (n_BadNumber_Malformed : (C_BadNumber == C_Malformed) = false)
    (i_BadNumber_TooLarge : PySem.W.subIn K (.ref C_BadNumber) (.ref C_TooLarge) = some false)
    (n_BadNumber_TooLarge : (C_BadNumber == C_TooLarge) = false)
    (spG : PySem.W.specialIn K (.builtin "object.__class__") "__get__" = some (some (.builtin "getset_descriptor.__get__")))
    (tkG : PySem.W.takesIn K (.builtin "object.__class__") = some true)
    (a_check_bits : PySem.W.nsIn K mainGlobals "check_bits" = some (some (.ref f_check_bits)))
    (l_check_bits : K.lookup f_check_bits = some ⟨oc_check_bits, od_check_bits, .func (PySem.W.fnOf "check_bits" "check_bits" (defArgs s_check_bits) (defBody s_check_bits) (defScope s_check_bits) .none kV_check_bits dc_check_bits pm_check_bits an_check_bits cd_check_bits ct_check_bits), sl_check_bits⟩)
    (c_check_bits : PySem.W.codeIn K cd_check_bits "check_bits" = true)
    (k_check_bits : PySem.W.keepIn K (.ref f_check_bits) = true)
    (a_are_letters : PySem.W.nsIn K mainGlobals "are_letters" = some (some (.ref f_are_letters)))
    (l_are_letters : K.lookup f_are_letters = some ⟨oc_are_letters, od_are_letters, .func (PySem.W.fnOf "are_letters" "are_letters" (defArgs s_are_letters) (defBody s_are_letters) (defScope s_are_letters) .none kV_are_letters dc_are_letters pm_are_letters an_are_letters cd_are_letters ct_are_letters), sl_are_letters⟩)
    (c_are_letters : PySem.W.codeIn K cd_are_letters "are_letters" = true)
    (k_are_letters : PySem.W.keepIn K (.ref f_are_letters) = true)
    (a_is_word : PySem.W.nsIn K mainGlobals "is_word" = some (some (.ref f_is_word)))
    (l_is_word : K.lookup f_is_word = some ⟨oc_is_word, od_is_word, .func (PySem.W.fnOf "is_word" "is_word" (defArgs s_is_word) (defBody s_is_word) (defScope s_is_word) .none kV_is_word dc_is_word pm_is_word an_is_word cd_is_word ct_is_word), sl_is_word⟩)
    (c_is_word : PySem.W.codeIn K cd_is_word "is_word" = true)
    (k_is_word : PySem.W.keepIn K (.ref f_is_word) = true)
    (a_check_word : PySem.W.nsIn K mainGlobals "check_word" = some (some (.ref f_check_word)))
    (l_check_word : K.lookup f_check_word = some ⟨oc_check_word, od_check_word, .func (PySem.W.fnOf "check_word" "check_word" (defArgs s_check_word) (defBody s_check_word) (defScope s_check_word) .none kV_check_word dc_check_word pm_check_word an_check_word cd_check_word ct_check_word), sl_check_word⟩)
    (c_check_word : PySem.W.codeIn K cd_check_word "check_word" = true)
    (k_check_word : PySem.W.keepIn K (.ref f_check_word) = true)
    (a_letter_at : PySem.W.nsIn K mainGlobals "letter_at" = some (some (.ref f_letter_at)))
    (l_letter_at : K.lookup f_letter_at = some ⟨oc_letter_at, od_letter_at, .func (PySem.W.fnOf "letter_at" "letter_at" (defArgs s_letter_at) (defBody s_letter_at) (defScope s_letter_at) .none kV_letter_at dc_letter_at pm_letter_at an_letter_at cd_letter_at ct_letter_at), sl_letter_at⟩)
    (c_letter_at : PySem.W.codeIn K cd_letter_at "letter_at" = true)
    (k_letter_at : PySem.W.keepIn K (.ref f_letter_at) = true)
    (a_shortest_round : PySem.W.nsIn K mainGlobals "shortest_round" = some (some (.ref f_shortest_round)))
    (l_shortest_round : K.lookup f_shortest_round = some ⟨oc_shortest_round, od_shortest_round, .func (PySem.W.fnOf "shortest_round" "shortest_round" (defArgs s_shortest_round) (defBody s_shortest_round) (defScope s_shortest_round) .none kV_shortest_round dc_shortest_round pm_shortest_round an_shortest_round cd_shortest_round ct_shortest_round), sl_shortest_round⟩)
    (c_shortest_round : PySem.W.codeIn K cd_shortest_round "shortest_round" = true)
    (k_shortest_round : PySem.W.keepIn K (.ref f_shortest_round) = true)
    (a_plain_word : PySem.W.nsIn K mainGlobals "plain_word" = some (some (.ref f_plain_word)))
    (l_plain_word : K.lookup f_plain_word = some ⟨oc_plain_word, od_plain_word, .func (PySem.W.fnOf "plain_word" "plain_word" (defArgs s_plain_word) (defBody s_plain_word) (defScope s_plain_word) .none kV_plain_word dc_plain_word pm_plain_word an_plain_word cd_plain_word ct_plain_word), sl_plain_word⟩)
    (c_plain_word : PySem.W.codeIn K cd_plain_word "plain_word" = true)
    (k_plain_word : PySem.W.keepIn K (.ref f_plain_word) = true)
    (a_same_words : PySem.W.nsIn K mainGlobals "same_words" = some (some (.ref f_same_words)))
    (l_same_words : K.lookup f_same_words = some ⟨oc_same_words, od_same_words, .func (PySem.W.fnOf "same_words" "same_words" (defArgs s_same_words) (defBody s_same_words) (defScope s_same_words) .none kV_same_words dc_same_words pm_same_words an_same_words cd_same_words ct_same_words), sl_same_words⟩)
    (c_same_words : PySem.W.codeIn K cd_same_words "same_words" = true)
    (k_same_words : PySem.W.keepIn K (.ref f_same_words) = true)
    (a_turned_on : PySem.W.nsIn K mainGlobals "turned_on" = some (some (.ref f_turned_on)))
    (l_turned_on : K.lookup f_turned_on = some ⟨oc_turned_on, od_turned_on, .func (PySem.W.fnOf "turned_on" "turned_on" (defArgs s_turned_on) (defBody s_turned_on) (defScope s_turned_on) .none kV_turned_on dc_turned_on pm_turned_on an_turned_on cd_turned_on ct_turned_on), sl_turned_on⟩)
    (c_turned_on : PySem.W.codeIn K cd_turned_on "turned_on" = true)
    (k_turned_on : PySem.W.keepIn K (.ref f_turned_on) = true)
    (a_sides_of : PySem.W.nsIn K mainGlobals "sides_of" = some (some (.ref f_sides_of)))
    (l_sides_of : K.lookup f_sides_of = some ⟨oc_sides_of, od_sides_of, .func (PySem.W.fnOf "sides_of" "sides_of" (defArgs s_sides_of) (defBody s_sides_of) (defScope s_sides_of) .none kV_sides_of dc_sides_of pm_sides_of an_sides_of cd_sides_of ct_sides_of), sl_sides_of⟩)
    (c_sides_of : PySem.W.codeIn K cd_sides_of "sides_of" = true)
    (k_sides_of : PySem.W.keepIn K (.ref f_sides_of) = true)
    (a_is_told : PySem.W.nsIn K mainGlobals "is_told" = some (some (.ref f_is_told)))
    (l_is_told : K.lookup f_is_told = some ⟨oc_is_told, od_is_told, .func (PySem.W.fnOf "is_told" "is_told" (defArgs s_is_told) (defBody s_is_told) (defScope s_is_told) .none kV_is_told dc_is_told pm_is_told an_is_told cd_is_told ct_is_told), sl_is_told⟩)
    (c_is_told : PySem.W.codeIn K cd_is_told "is_told" = true)
    (k_is_told : PySem.W.keepIn K (.ref f_is_told) = true)
    (a_is_sentence : PySem.W.nsIn K mainGlobals "is_sentence" = some (some (.ref f_is_sentence)))
    (l_is_sentence : K.lookup f_is_sentence = some ⟨oc_is_sentence, od_is_sentence, .func (PySem.W.fnOf "is_sentence" "is_sentence" (defArgs s_is_sentence) (defBody s_is_sentence) (defScope s_is_sentence) .none kV_is_sentence dc_is_sentence pm_is_sentence an_is_sentence cd_is_sentence ct_is_sentence), sl_is_sentence⟩)
    (c_is_sentence : PySem.W.codeIn K cd_is_sentence "is_sentence" = true)
    (k_is_sentence : PySem.W.keepIn K (.ref f_is_sentence) = true)
    (a_opposite : PySem.W.nsIn K mainGlobals "opposite" = some (some (.ref f_opposite)))
    (l_opposite : K.lookup f_opposite = some ⟨oc_opposite, od_opposite, .func (PySem.W.fnOf "opposite" "opposite" (defArgs s_opposite) (defBody s_opposite) (defScope s_opposite) .none kV_opposite dc_opposite pm_opposite an_opposite cd_opposite ct_opposite), sl_opposite⟩)
    (c_opposite : PySem.W.codeIn K cd_opposite "opposite" = true)
    (k_opposite : PySem.W.keepIn K (.ref f_opposite) = true)
    (a_inward : PySem.W.nsIn K mainGlobals "inward" = some (some (.ref f_inward)))
    (l_inward : K.lookup f_inward = some ⟨oc_inward, od_inward, .func (PySem.W.fnOf "inward" "inward" (defArgs s_inward) (defBody s_inward) (defScope s_inward) .none kV_inward dc_inward pm_inward an_inward cd_inward ct_inward), sl_inward⟩)
    (c_inward : PySem.W.codeIn K cd_inward "inward" = true)
    (k_inward : PySem.W.keepIn K (.ref f_inward) = true)
    (a_later_of : PySem.W.nsIn K mainGlobals "later_of" = some (some (.ref f_later_of)))
    (l_later_of : K.lookup f_later_of = some ⟨oc_later_of, od_later_of, .func (PySem.W.fnOf "later_of" "later_of" (defArgs s_later_of) (defBody s_later_of) (defScope s_later_of) .none kV_later_of dc_later_of pm_later_of an_later_of cd_later_of ct_later_of), sl_later_of⟩)
    (c_later_of : PySem.W.codeIn K cd_later_of "later_of" = true)
    (k_later_of : PySem.W.keepIn K (.ref f_later_of) = true)
    (a_lasting : PySem.W.nsIn K mainGlobals "lasting" = some (some (.ref f_lasting)))
    (l_lasting : K.lookup f_lasting = some ⟨oc_lasting, od_lasting, .func (PySem.W.fnOf "lasting" "lasting" (defArgs s_lasting) (defBody s_lasting) (defScope s_lasting) .none kV_lasting dc_lasting pm_lasting an_lasting cd_lasting ct_lasting), sl_lasting⟩)
    (c_lasting : PySem.W.codeIn K cd_lasting "lasting" = true)
    (k_lasting : PySem.W.keepIn K (.ref f_lasting) = true)
    (a_values_of : PySem.W.nsIn K mainGlobals "values_of" = some (some (.ref f_values_of)))
    (l_values_of : K.lookup f_values_of = some ⟨oc_values_of, od_values_of, .func (PySem.W.fnOf "values_of" "values_of" (defArgs s_values_of) (defBody s_values_of) (defScope s_values_of) .none kV_values_of dc_values_of pm_values_of an_values_of cd_values_of ct_values_of), sl_values_of⟩)
    (c_values_of : PySem.W.codeIn K cd_values_of "values_of" = true)
    (k_values_of : PySem.W.keepIn K (.ref f_values_of) = true)
    (a_holds_told : PySem.W.nsIn K mainGlobals "holds_told" = some (some (.ref f_holds_told)))
    (l_holds_told : K.lookup f_holds_told = some ⟨oc_holds_told, od_holds_told, .func (PySem.W.fnOf "holds_told" "holds_told" (defArgs s_holds_told) (defBody s_holds_told) (defScope s_holds_told) .none kV_holds_told dc_holds_told pm_holds_told an_holds_told cd_holds_told ct_holds_told), sl_holds_told⟩)
    (c_holds_told : PySem.W.codeIn K cd_holds_told "holds_told" = true)
    (k_holds_told : PySem.W.keepIn K (.ref f_holds_told) = true)
    (a_check_both : PySem.W.nsIn K mainGlobals "check_both" = some (some (.ref f_check_both)))
    (l_check_both : K.lookup f_check_both = some ⟨oc_check_both, od_check_both, .func (PySem.W.fnOf "check_both" "check_both" (defArgs s_check_both) (defBody s_check_both) (defScope s_check_both) .none kV_check_both dc_check_both pm_check_both an_check_both cd_check_both ct_check_both), sl_check_both⟩)
    (c_check_both : PySem.W.codeIn K cd_check_both "check_both" = true)
    (k_check_both : PySem.W.keepIn K (.ref f_check_both) = true)
    (a_holds : PySem.W.nsIn K mainGlobals "holds" = some (some (.ref f_holds)))
    (l_holds : K.lookup f_holds = some ⟨oc_holds, od_holds, .func (PySem.W.fnOf "holds" "holds" (defArgs s_holds) (defBody s_holds) (defScope s_holds) .none kV_holds dc_holds pm_holds an_holds cd_holds ct_holds), sl_holds⟩)
    (c_holds : PySem.W.codeIn K cd_holds "holds" = true)
    (k_holds : PySem.W.keepIn K (.ref f_holds) = true)
    (a_holds_at : PySem.W.nsIn K mainGlobals "holds_at" = some (some (.ref f_holds_at)))
    (l_holds_at : K.lookup f_holds_at = some ⟨oc_holds_at, od_holds_at, .func (PySem.W.fnOf "holds_at" "holds_at" (defArgs s_holds_at) (defBody s_holds_at) (defScope s_holds_at) .none kV_holds_at dc_holds_at pm_holds_at an_holds_at cd_holds_at ct_holds_at), sl_holds_at⟩)
    (c_holds_at : PySem.W.codeIn K cd_holds_at "holds_at" = true)
    (k_holds_at : PySem.W.keepIn K (.ref f_holds_at) = true)
    (a__law_number : PySem.W.nsIn K mainGlobals "_law_number" = some (some (.ref f__law_number)))
    (l__law_number : K.lookup f__law_number = some ⟨oc__law_number, od__law_number, .func (PySem.W.fnOf "_law_number" "_law_number" (defArgs s__law_number) (defBody s__law_number) (defScope s__law_number) .none kV__law_number dc__law_number pm__law_number an__law_number cd__law_number ct__law_number), sl__law_number⟩)
    (c__law_number : PySem.W.codeIn K cd__law_number "_law_number" = true)
    (k__law_number : PySem.W.keepIn K (.ref f__law_number) = true)
    (a__law_draws : PySem.W.nsIn K mainGlobals "_law_draws" = some (some (.ref f__law_draws)))
    (l__law_draws : K.lookup f__law_draws = some ⟨oc__law_draws, od__law_draws, .func (PySem.W.fnOf "_law_draws" "_law_draws" (defArgs s__law_draws) (defBody s__law_draws) (defScope s__law_draws) .none kV__law_draws dc__law_draws pm__law_draws an__law_draws cd__law_draws ct__law_draws), sl__law_draws⟩)
    (c__law_draws : PySem.W.codeIn K cd__law_draws "_law_draws" = true)
    (k__law_draws : PySem.W.keepIn K (.ref f__law_draws) = true)
    (a__law_flat : PySem.W.nsIn K mainGlobals "_law_flat" = some (some (.ref f__law_flat)))
    (l__law_flat : K.lookup f__law_flat = some ⟨oc__law_flat, od__law_flat, .func (PySem.W.fnOf "_law_flat" "_law_flat" (defArgs s__law_flat) (defBody s__law_flat) (defScope s__law_flat) .none kV__law_flat dc__law_flat pm__law_flat an__law_flat cd__law_flat ct__law_flat), sl__law_flat⟩)
    (c__law_flat : PySem.W.codeIn K cd__law_flat "_law_flat" = true)
    (k__law_flat : PySem.W.keepIn K (.ref f__law_flat) = true)
    (a__law_next : PySem.W.nsIn K mainGlobals "_law_next" = some (some (.ref f__law_next)))
    (l__law_next : K.lookup f__law_next = some ⟨oc__law_next, od__law_next, .func (PySem.W.fnOf "_law_next" "_law_next" (defArgs s__law_next) (defBody s__law_next) (defScope s__law_next) .none kV__law_next dc__law_next pm__law_next an__law_next cd__law_next ct__law_next), sl__law_next⟩)
    (c__law_next : PySem.W.codeIn K cd__law_next "_law_next" = true)
    (k__law_next : PySem.W.keepIn K (.ref f__law_next) = true)
    (a__law_more : PySem.W.nsIn K mainGlobals "_law_more" = some (some (.ref f__law_more)))
    (l__law_more : K.lookup f__law_more = some ⟨oc__law_more, od__law_more, .func (PySem.W.fnOf "_law_more" "_law_more" (defArgs s__law_more) (defBody s__law_more) (defScope s__law_more) .none kV__law_more dc__law_more pm__law_more an__law_more cd__law_more ct__law_more), sl__law_more⟩)
    (c__law_more : PySem.W.codeIn K cd__law_more "_law_more" = true)
    (k__law_more : PySem.W.keepIn K (.ref f__law_more) = true)
    (a__law_kind : PySem.W.nsIn K mainGlobals "_law_kind" = some (some (.ref f__law_kind)))
    (l__law_kind : K.lookup f__law_kind = some ⟨oc__law_kind, od__law_kind, .func (PySem.W.fnOf "_law_kind" "_law_kind" (defArgs s__law_kind) (defBody s__law_kind) (defScope s__law_kind) .none kV__law_kind dc__law_kind pm__law_kind an__law_kind cd__law_kind ct__law_kind), sl__law_kind⟩)
    (c__law_kind : PySem.W.codeIn K cd__law_kind "_law_kind" = true)
    (k__law_kind : PySem.W.keepIn K (.ref f__law_kind) = true)
    (a__law_sentence : PySem.W.nsIn K mainGlobals "_law_sentence" = some (some (.ref f__law_sentence)))
    (l__law_sentence : K.lookup f__law_sentence = some ⟨oc__law_sentence, od__law_sentence, .func (PySem.W.fnOf "_law_sentence" "_law_sentence" (defArgs s__law_sentence) (defBody s__law_sentence) (defScope s__law_sentence) .none kV__law_sentence dc__law_sentence pm__law_sentence an__law_sentence cd__law_sentence ct__law_sentence), sl__law_sentence⟩)
    (c__law_sentence : PySem.W.codeIn K cd__law_sentence "_law_sentence" = true)
    (k__law_sentence : PySem.W.keepIn K (.ref f__law_sentence) = true)
    (a__law_word : PySem.W.nsIn K mainGlobals "_law_word" = some (some (.ref f__law_word)))
    (l__law_word : K.lookup f__law_word = some ⟨oc__law_word, od__law_word, .func (PySem.W.fnOf "_law_word" "_law_word" (defArgs s__law_word) (defBody s__law_word) (defScope s__law_word) .none kV__law_word dc__law_word pm__law_word an__law_word cd__law_word ct__law_word), sl__law_word⟩)
    (c__law_word : PySem.W.codeIn K cd__law_word "_law_word" = true)
    (k__law_word : PySem.W.keepIn K (.ref f__law_word) = true)
    (a__law_letter : PySem.W.nsIn K mainGlobals "_law_letter" = some (some (.ref f__law_letter)))
    (l__law_letter : K.lookup f__law_letter = some ⟨oc__law_letter, od__law_letter, .func (PySem.W.fnOf "_law_letter" "_law_letter" (defArgs s__law_letter) (defBody s__law_letter) (defScope s__law_letter) .none kV__law_letter dc__law_letter pm__law_letter an__law_letter cd__law_letter ct__law_letter), sl__law_letter⟩)
    (c__law_letter : PySem.W.codeIn K cd__law_letter "_law_letter" = true)
    (k__law_letter : PySem.W.keepIn K (.ref f__law_letter) = true)
    (a__law_bit : PySem.W.nsIn K mainGlobals "_law_bit" = some (some (.ref f__law_bit)))
    (l__law_bit : K.lookup f__law_bit = some ⟨oc__law_bit, od__law_bit, .func (PySem.W.fnOf "_law_bit" "_law_bit" (defArgs s__law_bit) (defBody s__law_bit) (defScope s__law_bit) .none kV__law_bit dc__law_bit pm__law_bit an__law_bit cd__law_bit ct__law_bit), sl__law_bit⟩)
    (c__law_bit : PySem.W.codeIn K cd__law_bit "_law_bit" = true)
    (k__law_bit : PySem.W.keepIn K (.ref f__law_bit) = true)
    (a__law_values : PySem.W.nsIn K mainGlobals "_law_values" = some (some (.ref f__law_values)))
    (l__law_values : K.lookup f__law_values = some ⟨oc__law_values, od__law_values, .func (PySem.W.fnOf "_law_values" "_law_values" (defArgs s__law_values) (defBody s__law_values) (defScope s__law_values) .none kV__law_values dc__law_values pm__law_values an__law_values cd__law_values ct__law_values), sl__law_values⟩)
    (c__law_values : PySem.W.codeIn K cd__law_values "_law_values" = true)
    (k__law_values : PySem.W.keepIn K (.ref f__law_values) = true)
    (a__law_holds : PySem.W.nsIn K mainGlobals "_law_holds" = some (some (.ref f__law_holds)))
    (l__law_holds : K.lookup f__law_holds = some ⟨oc__law_holds, od__law_holds, .func (PySem.W.fnOf "_law_holds" "_law_holds" (defArgs s__law_holds) (defBody s__law_holds) (defScope s__law_holds) .none kV__law_holds dc__law_holds pm__law_holds an__law_holds cd__law_holds ct__law_holds), sl__law_holds⟩)
    (c__law_holds : PySem.W.codeIn K cd__law_holds "_law_holds" = true)
    (k__law_holds : PySem.W.keepIn K (.ref f__law_holds) = true)
    (a__law_same_words : PySem.W.nsIn K mainGlobals "_law_same_words" = some (some (.ref f__law_same_words)))
    (l__law_same_words : K.lookup f__law_same_words = some ⟨oc__law_same_words, od__law_same_words, .func (PySem.W.fnOf "_law_same_words" "_law_same_words" (defArgs s__law_same_words) (defBody s__law_same_words) (defScope s__law_same_words) .none kV__law_same_words dc__law_same_words pm__law_same_words an__law_same_words cd__law_same_words ct__law_same_words), sl__law_same_words⟩)
    (c__law_same_words : PySem.W.codeIn K cd__law_same_words "_law_same_words" = true)
    (k__law_same_words : PySem.W.keepIn K (.ref f__law_same_words) = true)
    (a__law_is_inward : PySem.W.nsIn K mainGlobals "_law_is_inward" = some (some (.ref f__law_is_inward)))
    (l__law_is_inward : K.lookup f__law_is_inward = some ⟨oc__law_is_inward, od__law_is_inward, .func (PySem.W.fnOf "_law_is_inward" "_law_is_inward" (defArgs s__law_is_inward) (defBody s__law_is_inward) (defScope s__law_is_inward) .none kV__law_is_inward dc__law_is_inward pm__law_is_inward an__law_is_inward cd__law_is_inward ct__law_is_inward), sl__law_is_inward⟩)
    (c__law_is_inward : PySem.W.codeIn K cd__law_is_inward "_law_is_inward" = true)
    (k__law_is_inward : PySem.W.keepIn K (.ref f__law_is_inward) = true)
    (a__law_asked : PySem.W.nsIn K mainGlobals "_law_asked" = some (some (.ref f__law_asked)))
    (l__law_asked : K.lookup f__law_asked = some ⟨oc__law_asked, od__law_asked, .func (PySem.W.fnOf "_law_asked" "_law_asked" (defArgs s__law_asked) (defBody s__law_asked) (defScope s__law_asked) .none kV__law_asked dc__law_asked pm__law_asked an__law_asked cd__law_asked ct__law_asked), sl__law_asked⟩)
    (c__law_asked : PySem.W.codeIn K cd__law_asked "_law_asked" = true)
    (k__law_asked : PySem.W.keepIn K (.ref f__law_asked) = true)
    (a__law_is_plain : PySem.W.nsIn K mainGlobals "_law_is_plain" = some (some (.ref f__law_is_plain)))
    (l__law_is_plain : K.lookup f__law_is_plain = some ⟨oc__law_is_plain, od__law_is_plain, .func (PySem.W.fnOf "_law_is_plain" "_law_is_plain" (defArgs s__law_is_plain) (defBody s__law_is_plain) (defScope s__law_is_plain) .none kV__law_is_plain dc__law_is_plain pm__law_is_plain an__law_is_plain cd__law_is_plain ct__law_is_plain), sl__law_is_plain⟩)
    (c__law_is_plain : PySem.W.codeIn K cd__law_is_plain "_law_is_plain" = true)
    (k__law_is_plain : PySem.W.keepIn K (.ref f__law_is_plain) = true)
    (a__law_long_holds : PySem.W.nsIn K mainGlobals "_law_long_holds" = some (some (.ref f__law_long_holds)))
    (l__law_long_holds : K.lookup f__law_long_holds = some ⟨oc__law_long_holds, od__law_long_holds, .func (PySem.W.fnOf "_law_long_holds" "_law_long_holds" (defArgs s__law_long_holds) (defBody s__law_long_holds) (defScope s__law_long_holds) .none kV__law_long_holds dc__law_long_holds pm__law_long_holds an__law_long_holds cd__law_long_holds ct__law_long_holds), sl__law_long_holds⟩)
    (c__law_long_holds : PySem.W.codeIn K cd__law_long_holds "_law_long_holds" = true)
    (k__law_long_holds : PySem.W.keepIn K (.ref f__law_long_holds) = true)
    (a_law : PySem.W.nsIn K mainGlobals "law" = some (some (.ref f_law)))
    (l_law : K.lookup f_law = some ⟨oc_law, od_law, .func (PySem.W.fnOf "law" "law" (defArgs s_law) (defBody s_law) (defScope s_law) .none kV_law dc_law pm_law an_law cd_law ct_law), sl_law⟩)
    (c_law : PySem.W.codeIn K cd_law "law" = true)
    (k_law : PySem.W.keepIn K (.ref f_law) = true)
    (plain : ∀ (g : Gl0), g.f_holds ≠ g.f_holds_at → ∀ (ns : List Int), ns.length ≤ 63 → ∃ m', mf_law g [scrD ns] [] = .ok (.raw (.bl true)) m') :
    ∃ (fd : FuncData) (ct : Nat → Addr) (mf : List D → MH → R D), (∀ (s : Shared) (u : Value), BindsTo s fd ⟨[u], []⟩ [("script", u)]) ∧ (∀ ns : List Int, ns.length ≤ 63 → ∃ m', mf [scrD ns] [] = .ok (.raw (.bl true)) m') ∧
      ∀ base : Heap, K.In base → base.Ns mainGlobals mg → FnG P w K mg base 46 fa fd ["script"] (spM ⟨K, ct⟩ 1 mf) := by
  have ea := hfa.symm.trans (PySem.W.mg_of X G a_law)
  cases ea
  have T : Txt K mg w (fun n => [C_OweError, C_NotSpec, C_NotWord, C_NotMachine, C_NotGame, C_NotPaper, C_BadNumber, C_NoAnswer, C_TooLarge, C_Malformed].getD n 0) ⟨p_OTHER, p_SIZES, f_holds, f_holds_at, ()⟩ := {
    b_all := PySem.W.mg_none_of X G z_all
    b_bool := PySem.W.mg_none_of X G z_bool
    b_int := PySem.W.mg_none_of X G z_int
    b_isinstance := PySem.W.mg_none_of X G z_isinstance
    b_len := PySem.W.mg_none_of X G z_len
    b_min := PySem.W.mg_none_of X G z_min
    b_range := PySem.W.mg_none_of X G z_range
    b_repr := PySem.W.mg_none_of X G z_repr
    b_str := PySem.W.mg_none_of X G z_str
    b_tuple := PySem.W.mg_none_of X G z_tuple
    b_zip := PySem.W.mg_none_of X G z_zip
    v_MOST_BITS := ⟨.int 4, _, PySem.W.mg_of X G a_MOST_BITS, ⟨_, rfl⟩, fun _ _ => (.raw _)⟩
    v_MOST_DEEP := ⟨.int 12, _, PySem.W.mg_of X G a_MOST_DEEP, ⟨_, rfl⟩, fun _ _ => (.raw _)⟩
    v_MOST_LETTERS := ⟨.int 40, _, PySem.W.mg_of X G a_MOST_LETTERS, ⟨_, rfl⟩, fun _ _ => (.raw _)⟩
    v_MOST_TUPLES := ⟨.int 24, _, PySem.W.mg_of X G a_MOST_TUPLES, ⟨_, rfl⟩, fun _ _ => (.raw _)⟩
    v_NO := ⟨.ref p_NO_0, _, PySem.W.mg_of X G a_NO, rfl, fun _ _ => (.tup (xs := [.str "not", .ref p_NO_2]) (.inr ⟨_, _, _, lk_p_NO_0, rfl, rfl, (by show 2 ≤ sizeLine; rw [sizeLine_eq]; decide), (.cons ⟨_, rfl⟩ (.cons rfl (.nil)))⟩) (.cons (.raw _) (.cons (.tup (xs := [.str "yes"]) (.inr ⟨_, _, _, lk_p_NO_2, rfl, rfl, (by show 1 ≤ sizeLine; rw [sizeLine_eq]; decide), (.cons ⟨_, rfl⟩ (.nil))⟩) (.cons (.raw _) (.nil))) (.nil))))⟩
    a_OTHER := PySem.W.mg_of X G a_OTHER
    k_OTHER := ⟨_, _, lk_OTHER, kl_OTHER, lo_OTHER⟩
    t_OTHER := fun q hq => by
      simp only [t_OTHER, List.mem_cons, List.not_mem_nil, or_false] at hq
      rcases hq with rfl | rfl | rfl | rfl
      · exact ⟨_, e_OTHER_0, rfl, fun v hv => by cases hv; exact ⟨_, rfl, ⟨_, rfl⟩⟩⟩
      · exact ⟨_, e_OTHER_1, rfl, fun v hv => by cases hv; exact ⟨_, rfl, ⟨_, rfl⟩⟩⟩
      · exact ⟨_, e_OTHER_2, rfl, fun v hv => by cases hv; exact ⟨_, rfl, ⟨_, rfl⟩⟩⟩
      · exact ⟨_, e_OTHER_3, rfl, fun v hv => by cases hv; exact ⟨_, rfl, ⟨_, rfl⟩⟩⟩
    a_SIZES := PySem.W.mg_of X G a_SIZES
    k_SIZES := ⟨_, _, lk_SIZES, kl_SIZES, lo_SIZES⟩
    t_SIZES := fun q hq => by
      simp only [t_SIZES, List.mem_cons, List.not_mem_nil, or_false] at hq
      rcases hq with rfl | rfl | rfl | rfl | rfl | rfl | rfl | rfl | rfl
      · exact ⟨_, e_SIZES_0, rfl, fun v hv => by cases hv; exact ⟨_, rfl, ⟨_, rfl⟩⟩⟩
      · exact ⟨_, e_SIZES_1, rfl, fun v hv => by cases hv; exact ⟨_, rfl, ⟨_, rfl⟩⟩⟩
      · exact ⟨_, e_SIZES_2, rfl, fun v hv => by cases hv; exact ⟨_, rfl, ⟨_, rfl⟩⟩⟩
      · exact ⟨_, e_SIZES_3, rfl, fun v hv => by cases hv; exact ⟨_, rfl, ⟨_, rfl⟩⟩⟩
      · exact ⟨_, e_SIZES_4, rfl, fun v hv => by cases hv; exact ⟨_, rfl, ⟨_, rfl⟩⟩⟩
      · exact ⟨_, e_SIZES_5, rfl, fun v hv => by cases hv; exact ⟨_, rfl, ⟨_, rfl⟩⟩⟩
      · exact ⟨_, e_SIZES_6, rfl, fun v hv => by cases hv; exact ⟨_, rfl, ⟨_, rfl⟩⟩⟩
      · exact ⟨_, e_SIZES_7, rfl, fun v hv => by cases hv; exact ⟨_, rfl, ⟨_, rfl⟩⟩⟩
      · exact ⟨_, m_SIZES_0, rfl, fun v hv => by cases hv⟩
    e_BadNumber := ⟨PySem.W.mg_of X G aC_BadNumber, q_BadNumber, kC_BadNumber, sb_BadNumber, ty_BadNumber⟩
    e_NotSpec := ⟨PySem.W.mg_of X G aC_NotSpec, q_NotSpec, kC_NotSpec, sb_NotSpec, ty_NotSpec⟩
    e_NotWord := ⟨PySem.W.mg_of X G aC_NotWord, q_NotWord, kC_NotWord, sb_NotWord, ty_NotWord⟩
    f_holds := PySem.W.mg_of X G a_holds
    f_holds_at := PySem.W.mg_of X G a_holds_at
    g_BadNumber := PySem.W.mg_of X G aC_BadNumber
    g_Malformed := PySem.W.mg_of X G aC_Malformed
    g_NoAnswer := PySem.W.mg_of X G aC_NoAnswer
    g_NotGame := PySem.W.mg_of X G aC_NotGame
    g_NotMachine := PySem.W.mg_of X G aC_NotMachine
    g_NotPaper := PySem.W.mg_of X G aC_NotPaper
    g_NotSpec := PySem.W.mg_of X G aC_NotSpec
    g_NotWord := PySem.W.mg_of X G aC_NotWord
    g_OweError := PySem.W.mg_of X G aC_OweError
    g_TooLarge := PySem.W.mg_of X G aC_TooLarge
    ca := fun c z hz => by
      have hc := kd_mem hz
      simp only [rcl, List.mem_cons, List.not_mem_nil, or_false] at hc
      rcases hc with rfl | rfl | rfl
      · exact PySem.W.exm_ref sb_OweError hd_OweError ty_OweError so_NotSpec
      · exact PySem.W.exm_ref sb_OweError hd_OweError ty_OweError so_NotWord
      · exact PySem.W.exm_ref sb_OweError hd_OweError ty_OweError so_BadNumber
    eE := fun c hc => by
      simp only [rcl, List.mem_cons, List.not_mem_nil, or_false] at hc
      rcases hc with rfl | rfl | rfl
      · exact ⟨hg_NotSpec, hk_NotSpec, sb_NotSpec, hd_NotSpec, ha_NotSpec, spG, tkG, hm_NotSpec⟩
      · exact ⟨hg_NotWord, hk_NotWord, sb_NotWord, hd_NotWord, ha_NotWord, spG, tkG, hm_NotWord⟩
      · exact ⟨hg_BadNumber, hk_BadNumber, sb_BadNumber, hd_BadNumber, ha_BadNumber, spG, tkG, hm_BadNumber⟩
    eI := fun c hc j hj => by
      simp only [rcl, List.mem_cons, List.not_mem_nil, or_false] at hc
      simp only [kcl, List.mem_cons, List.not_mem_nil, or_false] at hj
      rcases hc with rfl | rfl | rfl
      · rcases hj with rfl | rfl | rfl | rfl | rfl | rfl | rfl | rfl | rfl
        · exact kit_ne n_NotSpec_NotGame hd_NotGame ty_NotGame i_NotSpec_NotGame
        · exact kit_ne n_NotSpec_NotMachine hd_NotMachine ty_NotMachine i_NotSpec_NotMachine
        · exact kit_ne n_NotSpec_NotWord hd_NotWord ty_NotWord i_NotSpec_NotWord
        · exact kit_self
        · exact kit_ne n_NotSpec_NoAnswer hd_NoAnswer ty_NoAnswer i_NotSpec_NoAnswer
        · exact kit_ne n_NotSpec_BadNumber hd_BadNumber ty_BadNumber i_NotSpec_BadNumber
        · exact kit_ne n_NotSpec_NotPaper hd_NotPaper ty_NotPaper i_NotSpec_NotPaper
        · exact kit_ne n_NotSpec_Malformed hd_Malformed ty_Malformed i_NotSpec_Malformed
        · exact kit_ne n_NotSpec_TooLarge hd_TooLarge ty_TooLarge i_NotSpec_TooLarge
      · rcases hj with rfl | rfl | rfl | rfl | rfl | rfl | rfl | rfl | rfl
        · exact kit_ne n_NotWord_NotGame hd_NotGame ty_NotGame i_NotWord_NotGame
        · exact kit_ne n_NotWord_NotMachine hd_NotMachine ty_NotMachine i_NotWord_NotMachine
        · exact kit_self
        · exact kit_ne n_NotWord_NotSpec hd_NotSpec ty_NotSpec i_NotWord_NotSpec
        · exact kit_ne n_NotWord_NoAnswer hd_NoAnswer ty_NoAnswer i_NotWord_NoAnswer
        · exact kit_ne n_NotWord_BadNumber hd_BadNumber ty_BadNumber i_NotWord_BadNumber
        · exact kit_ne n_NotWord_NotPaper hd_NotPaper ty_NotPaper i_NotWord_NotPaper
        · exact kit_ne n_NotWord_Malformed hd_Malformed ty_Malformed i_NotWord_Malformed
        · exact kit_ne n_NotWord_TooLarge hd_TooLarge ty_TooLarge i_NotWord_TooLarge
      · rcases hj with rfl | rfl | rfl | rfl | rfl | rfl | rfl | rfl | rfl
        · exact kit_ne n_BadNumber_NotGame hd_NotGame ty_NotGame i_BadNumber_NotGame
        · exact kit_ne n_BadNumber_NotMachine hd_NotMachine ty_NotMachine i_BadNumber_NotMachine
        · exact kit_ne n_BadNumber_NotWord hd_NotWord ty_NotWord i_BadNumber_NotWord
        · exact kit_ne n_BadNumber_NotSpec hd_NotSpec ty_NotSpec i_BadNumber_NotSpec
        · exact kit_ne n_BadNumber_NoAnswer hd_NoAnswer ty_NoAnswer i_BadNumber_NoAnswer
        · exact kit_self
        · exact kit_ne n_BadNumber_NotPaper hd_NotPaper ty_NotPaper i_BadNumber_NotPaper
        · exact kit_ne n_BadNumber_Malformed hd_Malformed ty_Malformed i_BadNumber_Malformed
        · exact kit_ne n_BadNumber_TooLarge hd_TooLarge ty_TooLarge i_BadNumber_TooLarge
    z := trivial }
  have F_check_bits := fun_mk (st := s_check_bits) l_check_bits c_check_bits k_check_bits
  have B_check_bits := F_check_bits.binds (ps := ["bits"]) fun _ _ _ _ _ _ us hl => match us, hl with | [_], _ => rfl
  have M_check_bits := PySem.W.mg_of X G a_check_bits
  have F_are_letters := fun_mk (st := s_are_letters) l_are_letters c_are_letters k_are_letters
  have B_are_letters := F_are_letters.binds (ps := ["bits", "letters"]) fun _ _ _ _ _ _ us hl => match us, hl with | [_, _], _ => rfl
  have M_are_letters := PySem.W.mg_of X G a_are_letters
  have F_is_word := fun_mk (st := s_is_word) l_is_word c_is_word k_is_word
  have B_is_word := F_is_word.binds (ps := ["bits", "word"]) fun _ _ _ _ _ _ us hl => match us, hl with | [_, _], _ => rfl
  have M_is_word := PySem.W.mg_of X G a_is_word
  have F_check_word := fun_mk (st := s_check_word) l_check_word c_check_word k_check_word
  have B_check_word := F_check_word.binds (ps := ["bits", "word"]) fun _ _ _ _ _ _ us hl => match us, hl with | [_, _], _ => rfl
  have M_check_word := PySem.W.mg_of X G a_check_word
  have F_letter_at := fun_mk (st := s_letter_at) l_letter_at c_letter_at k_letter_at
  have B_letter_at := F_letter_at.binds (ps := ["word", "n"]) fun _ _ _ _ _ _ us hl => match us, hl with | [_, _], _ => rfl
  have M_letter_at := PySem.W.mg_of X G a_letter_at
  have F_shortest_round := fun_mk (st := s_shortest_round) l_shortest_round c_shortest_round k_shortest_round
  have B_shortest_round := F_shortest_round.binds (ps := ["turn"]) fun _ _ _ _ _ _ us hl => match us, hl with | [_], _ => rfl
  have M_shortest_round := PySem.W.mg_of X G a_shortest_round
  have F_plain_word := fun_mk (st := s_plain_word) l_plain_word c_plain_word k_plain_word
  have B_plain_word := F_plain_word.binds (ps := ["word"]) fun _ _ _ _ _ _ us hl => match us, hl with | [_], _ => rfl
  have M_plain_word := PySem.W.mg_of X G a_plain_word
  have F_same_words := fun_mk (st := s_same_words) l_same_words c_same_words k_same_words
  have B_same_words := F_same_words.binds (ps := ["one", "other"]) fun _ _ _ _ _ _ us hl => match us, hl with | [_, _], _ => rfl
  have M_same_words := PySem.W.mg_of X G a_same_words
  have F_turned_on := fun_mk (st := s_turned_on) l_turned_on c_turned_on k_turned_on
  have B_turned_on := F_turned_on.binds (ps := ["word", "n"]) fun _ _ _ _ _ _ us hl => match us, hl with | [_, _], _ => rfl
  have M_turned_on := PySem.W.mg_of X G a_turned_on
  have F_sides_of := fun_mk (st := s_sides_of) l_sides_of c_sides_of k_sides_of
  have B_sides_of := F_sides_of.binds (ps := ["sentence"]) fun _ _ _ _ _ _ us hl => match us, hl with | [_], _ => rfl
  have M_sides_of := PySem.W.mg_of X G a_sides_of
  have F_is_told := fun_mk (st := s_is_told) l_is_told c_is_told k_is_told
  have B_is_told := F_is_told.binds (ps := ["many", "sentence"]) fun _ _ _ _ _ _ us hl => match us, hl with | [_, _], _ => rfl
  have M_is_told := PySem.W.mg_of X G a_is_told
  have F_is_sentence := fun_mk (st := s_is_sentence) l_is_sentence c_is_sentence k_is_sentence
  have B_is_sentence := F_is_sentence.binds (ps := ["many", "sentence"]) fun _ _ _ _ _ _ us hl => match us, hl with | [_, _], _ => rfl
  have M_is_sentence := PySem.W.mg_of X G a_is_sentence
  have F_opposite := fun_mk (st := s_opposite) l_opposite c_opposite k_opposite
  have B_opposite := F_opposite.binds (ps := ["sentence"]) fun _ _ _ _ _ _ us hl => match us, hl with | [_], _ => rfl
  have M_opposite := PySem.W.mg_of X G a_opposite
  have F_inward := fun_mk (st := s_inward) l_inward c_inward k_inward
  have B_inward := F_inward.binds (ps := ["sentence"]) fun _ _ _ _ _ _ us hl => match us, hl with | [_], _ => rfl
  have M_inward := PySem.W.mg_of X G a_inward
  have F_later_of := fun_mk (st := s_later_of) l_later_of c_later_of k_later_of
  have B_later_of := F_later_of.binds (ps := ["word"]) fun _ _ _ _ _ _ us hl => match us, hl with | [_], _ => rfl
  have M_later_of := PySem.W.mg_of X G a_later_of
  have F_lasting := fun_mk (st := s_lasting) l_lasting c_lasting k_lasting
  have B_lasting := F_lasting.binds (ps := ["first", "second", "later", "start"]) fun _ _ _ _ _ _ us hl => match us, hl with | [_, _, _, _], _ => rfl
  have M_lasting := PySem.W.mg_of X G a_lasting
  have F_values_of := fun_mk (st := s_values_of) l_values_of c_values_of k_values_of
  have B_values_of := F_values_of.binds (ps := ["sentence", "word", "later"]) fun _ _ _ _ _ _ us hl => match us, hl with | [_, _, _], _ => rfl
  have M_values_of := PySem.W.mg_of X G a_values_of
  have F_holds_told := fun_mk (st := s_holds_told) l_holds_told c_holds_told k_holds_told
  have B_holds_told := F_holds_told.binds (ps := ["sentence", "word"]) fun _ _ _ _ _ _ us hl => match us, hl with | [_, _], _ => rfl
  have M_holds_told := PySem.W.mg_of X G a_holds_told
  have F_check_both := fun_mk (st := s_check_both) l_check_both c_check_both k_check_both
  have B_check_both := F_check_both.binds (ps := ["bits", "sentence", "word"]) fun _ _ _ _ _ _ us hl => match us, hl with | [_, _, _], _ => rfl
  have M_check_both := PySem.W.mg_of X G a_check_both
  have F_holds := fun_mk (st := s_holds) l_holds c_holds k_holds
  have B_holds := F_holds.binds (ps := ["bits", "sentence", "word"]) fun _ _ _ _ _ _ us hl => match us, hl with | [_, _, _], _ => rfl
  have M_holds := PySem.W.mg_of X G a_holds
  have F_holds_at := fun_mk (st := s_holds_at) l_holds_at c_holds_at k_holds_at
  have B_holds_at := F_holds_at.binds (ps := ["bits", "sentence", "word"]) fun _ _ _ _ _ _ us hl => match us, hl with | [_, _, _], _ => rfl
  have M_holds_at := PySem.W.mg_of X G a_holds_at
  have F__law_number := fun_mk (st := s__law_number) l__law_number c__law_number k__law_number
  have B__law_number := F__law_number.binds (ps := ["cell"]) fun _ _ _ _ _ _ us hl => match us, hl with | [_], _ => rfl
  have M__law_number := PySem.W.mg_of X G a__law_number
  have F__law_draws := fun_mk (st := s__law_draws) l__law_draws c__law_draws k__law_draws
  have B__law_draws := F__law_draws.binds (ps := ["script"]) fun _ _ _ _ _ _ us hl => match us, hl with | [_], _ => rfl
  have M__law_draws := PySem.W.mg_of X G a__law_draws
  have F__law_flat := fun_mk (st := s__law_flat) l__law_flat c__law_flat k__law_flat
  have B__law_flat := F__law_flat.binds (ps := ["rows"]) fun _ _ _ _ _ _ us hl => match us, hl with | [_], _ => rfl
  have M__law_flat := PySem.W.mg_of X G a__law_flat
  have F__law_next := fun_mk (st := s__law_next) l__law_next c__law_next k__law_next
  have B__law_next := F__law_next.binds (ps := ["draws"]) fun _ _ _ _ _ _ us hl => match us, hl with | [_], _ => rfl
  have M__law_next := PySem.W.mg_of X G a__law_next
  have F__law_more := fun_mk (st := s__law_more) l__law_more c__law_more k__law_more
  have B__law_more := F__law_more.binds (ps := ["draws", "many"]) fun _ _ _ _ _ _ us hl => match us, hl with | [_, _], _ => rfl
  have M__law_more := PySem.W.mg_of X G a__law_more
  have F__law_kind := fun_mk (st := s__law_kind) l__law_kind c__law_kind k__law_kind
  have B__law_kind := F__law_kind.binds (ps := ["error"]) fun _ _ _ _ _ _ us hl => match us, hl with | [_], _ => rfl
  have M__law_kind := PySem.W.mg_of X G a__law_kind
  have F__law_sentence := fun_mk (st := s__law_sentence) l__law_sentence c__law_sentence k__law_sentence
  have B__law_sentence := F__law_sentence.binds (ps := ["draws", "bits", "deep"]) fun _ _ _ _ _ _ us hl => match us, hl with | [_, _, _], _ => rfl
  have M__law_sentence := PySem.W.mg_of X G a__law_sentence
  have F__law_word := fun_mk (st := s__law_word) l__law_word c__law_word k__law_word
  have B__law_word := F__law_word.binds (ps := ["draws", "letters"]) fun _ _ _ _ _ _ us hl => match us, hl with | [_, _], _ => rfl
  have M__law_word := PySem.W.mg_of X G a__law_word
  have F__law_letter := fun_mk (st := s__law_letter) l__law_letter c__law_letter k__law_letter
  have B__law_letter := F__law_letter.binds (ps := ["word", "n"]) fun _ _ _ _ _ _ us hl => match us, hl with | [_, _], _ => rfl
  have M__law_letter := PySem.W.mg_of X G a__law_letter
  have F__law_bit := fun_mk (st := s__law_bit) l__law_bit c__law_bit k__law_bit
  have B__law_bit := F__law_bit.binds (ps := ["letter", "i"]) fun _ _ _ _ _ _ us hl => match us, hl with | [_, _], _ => rfl
  have M__law_bit := PySem.W.mg_of X G a__law_bit
  have F__law_values := fun_mk (st := s__law_values) l__law_values c__law_values k__law_values
  have B__law_values := F__law_values.binds (ps := ["sentence", "word"]) fun _ _ _ _ _ _ us hl => match us, hl with | [_, _], _ => rfl
  have M__law_values := PySem.W.mg_of X G a__law_values
  have F__law_holds := fun_mk (st := s__law_holds) l__law_holds c__law_holds k__law_holds
  have B__law_holds := F__law_holds.binds (ps := ["sentence", "word"]) fun _ _ _ _ _ _ us hl => match us, hl with | [_, _], _ => rfl
  have M__law_holds := PySem.W.mg_of X G a__law_holds
  have F__law_same_words := fun_mk (st := s__law_same_words) l__law_same_words c__law_same_words k__law_same_words
  have B__law_same_words := F__law_same_words.binds (ps := ["one", "other"]) fun _ _ _ _ _ _ us hl => match us, hl with | [_, _], _ => rfl
  have M__law_same_words := PySem.W.mg_of X G a__law_same_words
  have F__law_is_inward := fun_mk (st := s__law_is_inward) l__law_is_inward c__law_is_inward k__law_is_inward
  have B__law_is_inward := F__law_is_inward.binds (ps := ["sentence"]) fun _ _ _ _ _ _ us hl => match us, hl with | [_], _ => rfl
  have M__law_is_inward := PySem.W.mg_of X G a__law_is_inward
  have F__law_asked := fun_mk (st := s__law_asked) l__law_asked c__law_asked k__law_asked
  have B__law_asked := F__law_asked.binds (ps := ["way", "bits", "sentence", "word"]) fun _ _ _ _ _ _ us hl => match us, hl with | [_, _, _, _], _ => rfl
  have M__law_asked := PySem.W.mg_of X G a__law_asked
  have F__law_is_plain := fun_mk (st := s__law_is_plain) l__law_is_plain c__law_is_plain k__law_is_plain
  have B__law_is_plain := F__law_is_plain.binds (ps := ["word"]) fun _ _ _ _ _ _ us hl => match us, hl with | [_], _ => rfl
  have M__law_is_plain := PySem.W.mg_of X G a__law_is_plain
  have F__law_long_holds := fun_mk (st := s__law_long_holds) l__law_long_holds c__law_long_holds k__law_long_holds
  have B__law_long_holds := F__law_long_holds.binds (ps := []) fun _ _ _ _ _ _ us hl => match us, hl with | [], _ => rfl
  have M__law_long_holds := PySem.W.mg_of X G a__law_long_holds
  have F_law := fun_mk (st := s_law) l_law c_law k_law
  have B_law := F_law.binds (ps := ["script"]) fun _ _ _ _ _ _ us hl => match us, hl with | [_], _ => rfl
  have M_law := PySem.W.mg_of X G a_law
  refine ⟨PySem.W.fnOf "law" "law" (defArgs s_law) (defBody s_law) (defScope s_law) .none kV_law dc_law pm_law an_law cd_law ct_law, fun n => [C_OweError, C_NotSpec, C_NotWord, C_NotMachine, C_NotGame, C_NotPaper, C_BadNumber, C_NoAnswer, C_TooLarge, C_Malformed].getD n 0, mf_law ⟨p_OTHER, p_SIZES, f_holds, f_holds_at, ()⟩, fun s u => .of_eq rfl, fun ns hn => plain _ (lk_ne (a := "holds") (b := "holds_at") l_holds l_holds_at rfl rfl (by decide)) ns hn, fun base _ _ => ?_⟩
  have G_check_bits := ok_check_bits (P := P) (base := base) T F_check_bits M_check_bits B_check_bits
  have G_are_letters := ok_are_letters (P := P) (base := base) T F_are_letters M_are_letters B_are_letters
  have G_is_word := ok_is_word (P := P) (base := base) T F_is_word M_is_word B_is_word G_check_bits G_are_letters
  have G_check_word := ok_check_word (P := P) (base := base) T F_check_word M_check_word B_check_word G_is_word
  have G_letter_at := ok_letter_at (P := P) (base := base) T F_letter_at M_letter_at B_letter_at
  have G_shortest_round := ok_shortest_round (P := P) (base := base) T F_shortest_round M_shortest_round B_shortest_round
  have G_plain_word := ok_plain_word (P := P) (base := base) T F_plain_word M_plain_word B_plain_word G_shortest_round
  have G_same_words := ok_same_words (P := P) (base := base) T F_same_words M_same_words B_same_words G_plain_word
  have G_turned_on := ok_turned_on (P := P) (base := base) T F_turned_on M_turned_on B_turned_on G_plain_word
  have G_sides_of := ok_sides_of (P := P) (base := base) T F_sides_of M_sides_of B_sides_of
  have G_is_told := ok_is_told (P := P) (base := base) T F_is_told M_is_told B_is_told
  have G_is_sentence := ok_is_sentence (P := P) (base := base) T F_is_sentence M_is_sentence B_is_sentence G_sides_of G_is_told
  have Z := ok_opposite_inward (P := P) (base := base) T F_opposite M_opposite B_opposite F_inward M_inward B_inward 40
  obtain ⟨G_opposite, G_inward⟩ := Z
  have G_later_of := ok_later_of (P := P) (base := base) T F_later_of M_later_of B_later_of
  have G_lasting := ok_lasting (P := P) (base := base) T F_lasting M_lasting B_lasting
  have Z := ok_values_of (P := P) (base := base) T F_values_of M_values_of B_values_of G_letter_at G_lasting 40
  have G_values_of := Z
  have G_holds_told := ok_holds_told (P := P) (base := base) T F_holds_told M_holds_told B_holds_told G_later_of G_values_of
  have G_check_both := ok_check_both (P := P) (base := base) T F_check_both M_check_both B_check_both G_check_bits G_check_word G_is_sentence
  have G_holds := ok_holds (P := P) (base := base) T F_holds M_holds B_holds G_holds_told G_check_both
  have G_holds_at := ok_holds_at (P := P) (base := base) T F_holds_at M_holds_at B_holds_at G_later_of G_values_of G_check_both
  have G__law_number := ok__law_number (P := P) (base := base) T F__law_number M__law_number B__law_number
  have G__law_draws := ok__law_draws (P := P) (base := base) T F__law_draws M__law_draws B__law_draws G__law_number
  have G__law_flat := ok__law_flat (P := P) (base := base) T F__law_flat M__law_flat B__law_flat
  have G__law_next := ok__law_next (P := P) (base := base) T F__law_next M__law_next B__law_next
  have G__law_more := ok__law_more (P := P) (base := base) T F__law_more M__law_more B__law_more G__law_next
  have Z := ok__law_sentence (P := P) (base := base) T F__law_sentence M__law_sentence B__law_sentence G__law_next 40
  have G__law_sentence := Z
  have G__law_word := ok__law_word (P := P) (base := base) T F__law_word M__law_word B__law_word G__law_next
  have G__law_letter := ok__law_letter (P := P) (base := base) T F__law_letter M__law_letter B__law_letter
  have G__law_bit := ok__law_bit (P := P) (base := base) T F__law_bit M__law_bit B__law_bit
  have Z := ok__law_values (P := P) (base := base) T F__law_values M__law_values B__law_values G__law_letter G__law_bit 40
  have G__law_values := Z
  have G__law_holds := ok__law_holds (P := P) (base := base) T F__law_holds M__law_holds B__law_holds G__law_values
  have G__law_same_words := ok__law_same_words (P := P) (base := base) T F__law_same_words M__law_same_words B__law_same_words G__law_letter
  have Z := ok__law_is_inward (P := P) (base := base) T F__law_is_inward M__law_is_inward B__law_is_inward 40
  have G__law_is_inward := Z
  have FKK := ok__law_kind (P := P) (base := base) T F__law_kind M__law_kind B__law_kind
  have G__law_asked := ok__law_asked (P := P) (base := base) T F__law_asked M__law_asked B__law_asked G_is_word G_holds G_holds_at FKK
  have G__law_is_plain := ok__law_is_plain (P := P) (base := base) T F__law_is_plain M__law_is_plain B__law_is_plain G__law_same_words
  have G__law_long_holds := ok__law_long_holds (P := P) (base := base) T F__law_long_holds M__law_long_holds B__law_long_holds G_is_word G_letter_at G_plain_word G_same_words G_turned_on G__law_values G__law_asked
  exact ok_law (P := P) (base := base) T F_law G_is_word G_letter_at G_plain_word G_same_words G_turned_on G_opposite G_inward G_holds G__law_draws G__law_flat G__law_next G__law_more G__law_sentence G__law_word G__law_letter G__law_values G__law_holds G__law_same_words G__law_is_inward G__law_asked G__law_is_plain G__law_long_holds
end K01
end Sm

set_option Elab.async false
set_option linter.all false
set_option maxRecDepth 100000
set_option maxHeartbeats 4000000
namespace Sm
namespace K01
end K01
end Sm
open PySem PySem.W PyProof.Rows
set_option maxRecDepth 100000 in
set_option maxHeartbeats 0 in
theorem PySem.Challenge.cw_owedforever_k01_words_and_what_they_keep_holds : PySem.Challenge.rw_owedforever_k01_words_and_what_they_keep.Holds := by
  w_on; o_law; k_head; (case hw => w_witness2)
  k_fill
  refine Sm.walk_ofG (l := PySem.Challenge.rw_owedforever_k01_words_and_what_they_keep) (n := 63) (k := 46) (x := "script") rfl (by decide) rfl ⟨rfl, by decide, by decide⟩ (fun w h Y => PySem.W.kIn_of Y) ?F
  case F =>
    intro w mg fa h KX G hmg
    refine' Sm.K01.all_mk KX G hmg ?aC_OweError ?aC_NotSpec ?aC_NotWord ?aC_NotMachine ?aC_NotGame ?aC_NotPaper ?aC_BadNumber ?aC_NoAnswer ?aC_TooLarge ?aC_Malformed ?z_all ?z_bool ?z_int ?z_isinstance ?z_len ?z_min ?z_range ?z_repr ?z_str ?z_tuple ?z_zip ?a_MOST_BITS ?a_MOST_DEEP ?a_MOST_LETTERS ?a_MOST_TUPLES ?a_NO ?lk_p_NO_0 ?lk_p_NO_2 ?a_OTHER ?lk_OTHER ?kl_OTHER ?lo_OTHER ?e_OTHER_0 ?e_OTHER_1 ?e_OTHER_2 ?e_OTHER_3 ?a_SIZES ?lk_SIZES ?kl_SIZES ?lo_SIZES ?e_SIZES_0 ?e_SIZES_1 ?e_SIZES_2 ?e_SIZES_3 ?e_SIZES_4 ?e_SIZES_5 ?e_SIZES_6 ?e_SIZES_7 ?m_SIZES_0 ?q_BadNumber ?q_NotSpec ?q_NotWord ?kC_OweError ?sb_OweError ?ty_OweError ?kC_NotSpec ?sb_NotSpec ?ty_NotSpec ?kC_NotWord ?sb_NotWord ?ty_NotWord ?kC_NotMachine ?sb_NotMachine ?ty_NotMachine ?kC_NotGame ?sb_NotGame ?ty_NotGame ?kC_NotPaper ?sb_NotPaper ?ty_NotPaper ?kC_BadNumber ?sb_BadNumber ?ty_BadNumber ?kC_NoAnswer ?sb_NoAnswer ?ty_NoAnswer ?kC_TooLarge ?sb_TooLarge ?ty_TooLarge ?kC_Malformed ?sb_Malformed ?ty_Malformed ?hd_OweError ?hd_NotSpec ?hd_NotWord ?hd_NotMachine ?hd_NotGame ?hd_NotPaper ?hd_BadNumber ?hd_NoAnswer ?hd_TooLarge ?hd_Malformed ?so_NotSpec ?hg_NotSpec ?hk_NotSpec ?ha_NotSpec ?hm_NotSpec ?i_NotSpec_NotGame ?n_NotSpec_NotGame ?i_NotSpec_NotMachine ?n_NotSpec_NotMachine ?i_NotSpec_NotWord ?n_NotSpec_NotWord ?i_NotSpec_NoAnswer ?n_NotSpec_NoAnswer ?i_NotSpec_BadNumber ?n_NotSpec_BadNumber ?i_NotSpec_NotPaper ?n_NotSpec_NotPaper ?i_NotSpec_Malformed ?n_NotSpec_Malformed ?i_NotSpec_TooLarge ?n_NotSpec_TooLarge ?so_NotWord ?hg_NotWord ?hk_NotWord ?ha_NotWord ?hm_NotWord ?i_NotWord_NotGame ?n_NotWord_NotGame ?i_NotWord_NotMachine ?n_NotWord_NotMachine ?i_NotWord_NotSpec ?n_NotWord_NotSpec ?i_NotWord_NoAnswer ?n_NotWord_NoAnswer ?i_NotWord_BadNumber ?n_NotWord_BadNumber ?i_NotWord_NotPaper ?n_NotWord_NotPaper ?i_NotWord_Malformed ?n_NotWord_Malformed ?i_NotWord_TooLarge ?n_NotWord_TooLarge ?so_BadNumber ?hg_BadNumber ?hk_BadNumber ?ha_BadNumber ?hm_BadNumber ?i_BadNumber_NotGame ?n_BadNumber_NotGame ?i_BadNumber_NotMachine ?n_BadNumber_NotMachine ?i_BadNumber_NotWord ?n_BadNumber_NotWord ?i_BadNumber_NotSpec ?n_BadNumber_NotSpec ?i_BadNumber_NoAnswer ?n_BadNumber_NoAnswer ?i_BadNumber_NotPaper ?n_BadNumber_NotPaper ?i_BadNumber_Malformed ?n_BadNumber_Malformed ?i_BadNumber_TooLarge ?n_BadNumber_TooLarge ?spG ?tkG ?a_check_bits ?l_check_bits ?c_check_bits ?k_check_bits ?a_are_letters ?l_are_letters ?c_are_letters ?k_are_letters ?a_is_word ?l_is_word ?c_is_word ?k_is_word ?a_check_word ?l_check_word ?c_check_word ?k_check_word ?a_letter_at ?l_letter_at ?c_letter_at ?k_letter_at ?a_shortest_round ?l_shortest_round ?c_shortest_round ?k_shortest_round ?a_plain_word ?l_plain_word ?c_plain_word ?k_plain_word ?a_same_words ?l_same_words ?c_same_words ?k_same_words ?a_turned_on ?l_turned_on ?c_turned_on ?k_turned_on ?a_sides_of ?l_sides_of ?c_sides_of ?k_sides_of ?a_is_told ?l_is_told ?c_is_told ?k_is_told ?a_is_sentence ?l_is_sentence ?c_is_sentence ?k_is_sentence ?a_opposite ?l_opposite ?c_opposite ?k_opposite ?a_inward ?l_inward ?c_inward ?k_inward ?a_later_of ?l_later_of ?c_later_of ?k_later_of ?a_lasting ?l_lasting ?c_lasting ?k_lasting ?a_values_of ?l_values_of ?c_values_of ?k_values_of ?a_holds_told ?l_holds_told ?c_holds_told ?k_holds_told ?a_check_both ?l_check_both ?c_check_both ?k_check_both ?a_holds ?l_holds ?c_holds ?k_holds ?a_holds_at ?l_holds_at ?c_holds_at ?k_holds_at ?a__law_number ?l__law_number ?c__law_number ?k__law_number ?a__law_draws ?l__law_draws ?c__law_draws ?k__law_draws ?a__law_flat ?l__law_flat ?c__law_flat ?k__law_flat ?a__law_next ?l__law_next ?c__law_next ?k__law_next ?a__law_more ?l__law_more ?c__law_more ?k__law_more ?a__law_kind ?l__law_kind ?c__law_kind ?k__law_kind ?a__law_sentence ?l__law_sentence ?c__law_sentence ?k__law_sentence ?a__law_word ?l__law_word ?c__law_word ?k__law_word ?a__law_letter ?l__law_letter ?c__law_letter ?k__law_letter ?a__law_bit ?l__law_bit ?c__law_bit ?k__law_bit ?a__law_values ?l__law_values ?c__law_values ?k__law_values ?a__law_holds ?l__law_holds ?c__law_holds ?k__law_holds ?a__law_same_words ?l__law_same_words ?c__law_same_words ?k__law_same_words ?a__law_is_inward ?l__law_is_inward ?c__law_is_inward ?k__law_is_inward ?a__law_asked ?l__law_asked ?c__law_asked ?k__law_asked ?a__law_is_plain ?l__law_is_plain ?c__law_is_plain ?k__law_is_plain ?a__law_long_holds ?l__law_long_holds ?c__law_long_holds ?k__law_long_holds ?a_law ?l_law ?c_law ?k_law Sm.K01.plain_law
    (case aC_OweError => k_is)
    (case aC_NotSpec => k_is)
    (case aC_NotWord => k_is)
    (case aC_NotMachine => k_is)
    (case aC_NotGame => k_is)
    (case aC_NotPaper => k_is)
    (case aC_BadNumber => k_is)
    (case aC_NoAnswer => k_is)
    (case aC_TooLarge => k_is)
    (case aC_Malformed => k_is)
    (case z_all => k_is)
    (case z_bool => k_is)
    (case z_int => k_is)
    (case z_isinstance => k_is)
    (case z_len => k_is)
    (case z_min => k_is)
    (case z_range => k_is)
    (case z_repr => k_is)
    (case z_str => k_is)
    (case z_tuple => k_is)
    (case z_zip => k_is)
    (case a_MOST_BITS => k_is)
    (case a_MOST_DEEP => k_is)
    (case a_MOST_LETTERS => k_is)
    (case a_MOST_TUPLES => k_is)
    (case a_NO => k_is)
    (case lk_p_NO_0 => k_is)
    (case lk_p_NO_2 => k_is)
    (case a_OTHER => k_is)
    (case lk_OTHER => k_is)
    (case kl_OTHER => exact ⟨⟨_, _, rfl, rfl⟩, ⟨_, _, rfl, rfl⟩, ⟨_, _, rfl, rfl⟩, ⟨_, _, rfl, rfl⟩, trivial⟩)
    (case lo_OTHER => first | rfl | decide | k_is)
    (case e_OTHER_0 => k_is)
    (case e_OTHER_1 => k_is)
    (case e_OTHER_2 => k_is)
    (case e_OTHER_3 => k_is)
    (case a_SIZES => k_is)
    (case lk_SIZES => k_is)
    (case kl_SIZES => exact ⟨⟨_, _, rfl, rfl⟩, ⟨_, _, rfl, rfl⟩, ⟨_, _, rfl, rfl⟩, ⟨_, _, rfl, rfl⟩, ⟨_, _, rfl, rfl⟩, ⟨_, _, rfl, rfl⟩, ⟨_, _, rfl, rfl⟩, ⟨_, _, rfl, rfl⟩, trivial⟩)
    (case lo_SIZES => first | rfl | decide | k_is)
    (case e_SIZES_0 => k_is)
    (case e_SIZES_1 => k_is)
    (case e_SIZES_2 => k_is)
    (case e_SIZES_3 => k_is)
    (case e_SIZES_4 => k_is)
    (case e_SIZES_5 => k_is)
    (case e_SIZES_6 => k_is)
    (case e_SIZES_7 => k_is)
    (case m_SIZES_0 => k_is)
    (case q_BadNumber => k_exc)
    (case q_NotSpec => k_exc)
    (case q_NotWord => k_exc)
    (case kC_OweError => k_is)
    (case sb_OweError => k_is)
    (case ty_OweError => k_is)
    (case kC_NotSpec => k_is)
    (case sb_NotSpec => k_is)
    (case ty_NotSpec => k_is)
    (case kC_NotWord => k_is)
    (case sb_NotWord => k_is)
    (case ty_NotWord => k_is)
    (case kC_NotMachine => k_is)
    (case sb_NotMachine => k_is)
    (case ty_NotMachine => k_is)
    (case kC_NotGame => k_is)
    (case sb_NotGame => k_is)
    (case ty_NotGame => k_is)
    (case kC_NotPaper => k_is)
    (case sb_NotPaper => k_is)
    (case ty_NotPaper => k_is)
    (case kC_BadNumber => k_is)
    (case sb_BadNumber => k_is)
    (case ty_BadNumber => k_is)
    (case kC_NoAnswer => k_is)
    (case sb_NoAnswer => k_is)
    (case ty_NoAnswer => k_is)
    (case kC_TooLarge => k_is)
    (case sb_TooLarge => k_is)
    (case ty_TooLarge => k_is)
    (case kC_Malformed => k_is)
    (case sb_Malformed => k_is)
    (case ty_Malformed => k_is)
    (case hd_OweError => k_is)
    (case hd_NotSpec => k_is)
    (case hd_NotWord => k_is)
    (case hd_NotMachine => k_is)
    (case hd_NotGame => k_is)
    (case hd_NotPaper => k_is)
    (case hd_BadNumber => k_is)
    (case hd_NoAnswer => k_is)
    (case hd_TooLarge => k_is)
    (case hd_Malformed => k_is)
    (case so_NotSpec => k_is)
    (case hg_NotSpec => k_is)
    (case hk_NotSpec => k_is)
    (case ha_NotSpec => k_is)
    (case hm_NotSpec => k_is)
    (case i_NotSpec_NotGame => k_is)
    (case n_NotSpec_NotGame => first | rfl | decide)
    (case i_NotSpec_NotMachine => k_is)
    (case n_NotSpec_NotMachine => first | rfl | decide)
    (case i_NotSpec_NotWord => k_is)
    (case n_NotSpec_NotWord => first | rfl | decide)
    (case i_NotSpec_NoAnswer => k_is)
    (case n_NotSpec_NoAnswer => first | rfl | decide)
    (case i_NotSpec_BadNumber => k_is)
    (case n_NotSpec_BadNumber => first | rfl | decide)
    (case i_NotSpec_NotPaper => k_is)
    (case n_NotSpec_NotPaper => first | rfl | decide)
    (case i_NotSpec_Malformed => k_is)
    (case n_NotSpec_Malformed => first | rfl | decide)
    (case i_NotSpec_TooLarge => k_is)
    (case n_NotSpec_TooLarge => first | rfl | decide)
    (case so_NotWord => k_is)
    (case hg_NotWord => k_is)
    (case hk_NotWord => k_is)
    (case ha_NotWord => k_is)
    (case hm_NotWord => k_is)
    (case i_NotWord_NotGame => k_is)
    (case n_NotWord_NotGame => first | rfl | decide)
    (case i_NotWord_NotMachine => k_is)
    (case n_NotWord_NotMachine => first | rfl | decide)
    (case i_NotWord_NotSpec => k_is)
    (case n_NotWord_NotSpec => first | rfl | decide)
    (case i_NotWord_NoAnswer => k_is)
    (case n_NotWord_NoAnswer => first | rfl | decide)
    (case i_NotWord_BadNumber => k_is)
    (case n_NotWord_BadNumber => first | rfl | decide)
    (case i_NotWord_NotPaper => k_is)
    (case n_NotWord_NotPaper => first | rfl | decide)
    (case i_NotWord_Malformed => k_is)
    (case n_NotWord_Malformed => first | rfl | decide)
    (case i_NotWord_TooLarge => k_is)
    (case n_NotWord_TooLarge => first | rfl | decide)
    (case so_BadNumber => k_is)
    (case hg_BadNumber => k_is)
    (case hk_BadNumber => k_is)
    (case ha_BadNumber => k_is)
    (case hm_BadNumber => k_is)
    (case i_BadNumber_NotGame => k_is)
    (case n_BadNumber_NotGame => first | rfl | decide)
    (case i_BadNumber_NotMachine => k_is)
    (case n_BadNumber_NotMachine => first | rfl | decide)
    (case i_BadNumber_NotWord => k_is)
    (case n_BadNumber_NotWord => first | rfl | decide)
    (case i_BadNumber_NotSpec => k_is)
    (case n_BadNumber_NotSpec => first | rfl | decide)
    (case i_BadNumber_NoAnswer => k_is)
    (case n_BadNumber_NoAnswer => first | rfl | decide)
    (case i_BadNumber_NotPaper => k_is)
    (case n_BadNumber_NotPaper => first | rfl | decide)
    (case i_BadNumber_Malformed => k_is)
    (case n_BadNumber_Malformed => first | rfl | decide)
    (case i_BadNumber_TooLarge => k_is)
    (case n_BadNumber_TooLarge => first | rfl | decide)
    (case spG => k_is)
    (case tkG => k_is)
    (case a_check_bits => k_is)
    (case l_check_bits => k_is)
    (case c_check_bits => k_is)
    (case k_check_bits => k_is)
    (case a_are_letters => k_is)
    (case l_are_letters => k_is)
    (case c_are_letters => k_is)
    (case k_are_letters => k_is)
    (case a_is_word => k_is)
    (case l_is_word => k_is)
    (case c_is_word => k_is)
    (case k_is_word => k_is)
    (case a_check_word => k_is)
    (case l_check_word => k_is)
    (case c_check_word => k_is)
    (case k_check_word => k_is)
    (case a_letter_at => k_is)
    (case l_letter_at => k_is)
    (case c_letter_at => k_is)
    (case k_letter_at => k_is)
    (case a_shortest_round => k_is)
    (case l_shortest_round => k_is)
    (case c_shortest_round => k_is)
    (case k_shortest_round => k_is)
    (case a_plain_word => k_is)
    (case l_plain_word => k_is)
    (case c_plain_word => k_is)
    (case k_plain_word => k_is)
    (case a_same_words => k_is)
    (case l_same_words => k_is)
    (case c_same_words => k_is)
    (case k_same_words => k_is)
    (case a_turned_on => k_is)
    (case l_turned_on => k_is)
    (case c_turned_on => k_is)
    (case k_turned_on => k_is)
    (case a_sides_of => k_is)
    (case l_sides_of => k_is)
    (case c_sides_of => k_is)
    (case k_sides_of => k_is)
    (case a_is_told => k_is)
    (case l_is_told => k_is)
    (case c_is_told => k_is)
    (case k_is_told => k_is)
    (case a_is_sentence => k_is)
    (case l_is_sentence => k_is)
    (case c_is_sentence => k_is)
    (case k_is_sentence => k_is)
    (case a_opposite => k_is)
    (case l_opposite => k_is)
    (case c_opposite => k_is)
    (case k_opposite => k_is)
    (case a_inward => k_is)
    (case l_inward => k_is)
    (case c_inward => k_is)
    (case k_inward => k_is)
    (case a_later_of => k_is)
    (case l_later_of => k_is)
    (case c_later_of => k_is)
    (case k_later_of => k_is)
    (case a_lasting => k_is)
    (case l_lasting => k_is)
    (case c_lasting => k_is)
    (case k_lasting => k_is)
    (case a_values_of => k_is)
    (case l_values_of => k_is)
    (case c_values_of => k_is)
    (case k_values_of => k_is)
    (case a_holds_told => k_is)
    (case l_holds_told => k_is)
    (case c_holds_told => k_is)
    (case k_holds_told => k_is)
    (case a_check_both => k_is)
    (case l_check_both => k_is)
    (case c_check_both => k_is)
    (case k_check_both => k_is)
    (case a_holds => k_is)
    (case l_holds => k_is)
    (case c_holds => k_is)
    (case k_holds => k_is)
    (case a_holds_at => k_is)
    (case l_holds_at => k_is)
    (case c_holds_at => k_is)
    (case k_holds_at => k_is)
    (case a__law_number => k_is)
    (case l__law_number => k_is)
    (case c__law_number => k_is)
    (case k__law_number => k_is)
    (case a__law_draws => k_is)
    (case l__law_draws => k_is)
    (case c__law_draws => k_is)
    (case k__law_draws => k_is)
    (case a__law_flat => k_is)
    (case l__law_flat => k_is)
    (case c__law_flat => k_is)
    (case k__law_flat => k_is)
    (case a__law_next => k_is)
    (case l__law_next => k_is)
    (case c__law_next => k_is)
    (case k__law_next => k_is)
    (case a__law_more => k_is)
    (case l__law_more => k_is)
    (case c__law_more => k_is)
    (case k__law_more => k_is)
    (case a__law_kind => k_is)
    (case l__law_kind => k_is)
    (case c__law_kind => k_is)
    (case k__law_kind => k_is)
    (case a__law_sentence => k_is)
    (case l__law_sentence => k_is)
    (case c__law_sentence => k_is)
    (case k__law_sentence => k_is)
    (case a__law_word => k_is)
    (case l__law_word => k_is)
    (case c__law_word => k_is)
    (case k__law_word => k_is)
    (case a__law_letter => k_is)
    (case l__law_letter => k_is)
    (case c__law_letter => k_is)
    (case k__law_letter => k_is)
    (case a__law_bit => k_is)
    (case l__law_bit => k_is)
    (case c__law_bit => k_is)
    (case k__law_bit => k_is)
    (case a__law_values => k_is)
    (case l__law_values => k_is)
    (case c__law_values => k_is)
    (case k__law_values => k_is)
    (case a__law_holds => k_is)
    (case l__law_holds => k_is)
    (case c__law_holds => k_is)
    (case k__law_holds => k_is)
    (case a__law_same_words => k_is)
    (case l__law_same_words => k_is)
    (case c__law_same_words => k_is)
    (case k__law_same_words => k_is)
    (case a__law_is_inward => k_is)
    (case l__law_is_inward => k_is)
    (case c__law_is_inward => k_is)
    (case k__law_is_inward => k_is)
    (case a__law_asked => k_is)
    (case l__law_asked => k_is)
    (case c__law_asked => k_is)
    (case k__law_asked => k_is)
    (case a__law_is_plain => k_is)
    (case l__law_is_plain => k_is)
    (case c__law_is_plain => k_is)
    (case k__law_is_plain => k_is)
    (case a__law_long_holds => k_is)
    (case l__law_long_holds => k_is)
    (case c__law_long_holds => k_is)
    (case k__law_long_holds => k_is)
    (case a_law => k_is)
    (case l_law => k_is)
    (case c_law => k_is)
    (case k_law => k_is)

